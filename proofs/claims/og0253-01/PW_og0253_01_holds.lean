import PyProof.Rows.All
import Wide.All
import OpenK.AllK
import Wide.FinOn
import Lean
import PySem.Challenge.RW_og0253_01
set_option Elab.async false
set_option linter.all false
set_option maxRecDepth 100000
set_option maxHeartbeats 0
section
open PySem PySem.W PyProof.Rows
namespace Og
noncomputable def dropped : List Nat := [0, 27, 30, 51, 52, 60]
noncomputable def view : Program := { PySem.Challenge.pw_og0253_01 with main := { PySem.Challenge.pw_og0253_01.main with body := (PySem.Challenge.pw_og0253_01.main.body.zipIdx.filter (fun x => !dropped.contains x.2)).map (·.1) } }
noncomputable def loose : List Str := [Str.ofString "UNDER_MASK", Str.ofString "DIRECT", Str.ofString "PLAIN", Str.ofString "sgr_params", Str.ofString "sgr_octets"]
noncomputable def lv : List (Str × WData) := [(Str.ofString "UNDER_MASK", WData.int 3584), (Str.ofString "DIRECT", WData.int 16777216),
        (Str.ofString "PLAIN", WData.tuple [WData.int 0, WData.int (-1), WData.int (-1), WData.int (-1), WData.int 0])]
/-- the two defs with a default -/
noncomputable def ddefs : List DefRec := (wdefsOf PySem.Challenge.pw_og0253_01).map (·.1)
noncomputable abbrev dOpt {α : Type} (o : Option α) (f : α → Bool) : Bool := o.casesOn false f
noncomputable abbrev dRef (v : Value) : Option Addr := match v with
  | .ref t => some t
  | _ => .none
noncomputable abbrev dSeq (d : Data) : Option (List Value) := match d with
  | .seq items _ => some items.toList
  | _ => .none
noncomputable abbrev dTr (v : Value) : Bool := match v with
  | .bool b => b
  | _ => false
noncomputable abbrev dTr1 (l : List Value) : Bool := match l with
  | [] => false
  | v :: r => (match r with | [] => dTr v | _ :: _ => false)
noncomputable def dfltT (h : Heap) (d : DefRec) : Bool := dOpt (h.fnAt mainGlobals d.name) fun f => dOpt (dRef f.2.2.defaults) fun t => dOpt (h.get? t) fun o => dOpt (dSeq o.data) dTr1
theorem dOpt_inv {α : Type} {o : Option α} {f : α → Bool} (h : dOpt o f = true) : ∃ a, o = some a ∧ f a = true := by
  cases o with
  | none => exact Bool.noConfusion h
  | some a => exact ⟨a, rfl, h⟩
theorem dRef_inv {v : Value} {t : Addr} (h : dRef v = some t) : v = .ref t := by
  cases v <;> first | (injection h with h; rw [h]) | cases h
theorem dSeq_inv {d : Data} {l : List Value} (h : dSeq d = some l) : ∃ items n, d = .seq items n ∧ items.toList = l := by
  cases d <;> first | exact ⟨_, _, rfl, Option.some.inj h⟩ | cases h
theorem dTr1_inv {l : List Value} (h : dTr1 l = true) : l = [.bool true] := by
  cases l with
  | nil => exact Bool.noConfusion h
  | cons v r =>
    cases r with
    | cons _ _ => exact Bool.noConfusion h
    | nil => cases v <;> first | (cases h; rfl) | cases h
noncomputable def Says (h : Heap) : Prop := ∃ m, h.Ns mainGlobals m ∧ ∀ d ∈ ddefs, ∃ a o pm code doc t ot items n, m d.name = some (.ref a) ∧ h.get? a = some o ∧
  o.data = .func { d.data pm code doc with defaults := .ref t } ∧ h.CodeRec code d.name ∧ h.get? t = some ot ∧ ot.data = .seq items n ∧ items.toList = [.bool true]
theorem Says.keeps {h h' : Heap} (x : Says h) (hk : ∀ b o, h.get? b = some o → h'.get? b = some o) : Says h' := by
  obtain ⟨m, hm, hd⟩ := x
  refine ⟨m, hm.keeps hk, fun d hd' => ?_⟩
  obtain ⟨a, o, pm, code, doc, t, ot, items, n, h1, h2, h3, h4, h5, h6, h7⟩ := hd d hd'
  exact ⟨a, o, pm, code, doc, t, ot, items, n, h1, hk _ _ h2, h3, h4.keeps hk, hk _ _ h5, h6, h7⟩
noncomputable def Obs (s : Shared) : Bool × List (Option FnShape × Bool) := (s.heap.isNs mainGlobals, ddefs.map fun d => (s.heap.shapeAtD d.name, dfltT s.heap d))
noncomputable def Val : Bool × List (Option FnShape × Bool) := (true, ddefs.map fun d => (some d.shape, true))
theorem says_of {s : Shared} (e : Obs s = Val) : Says s.heap := by
  have e1 : s.heap.isNs mainGlobals = true := congrArg Prod.fst e
  have e2 : (ddefs.map fun d => (s.heap.shapeAtD d.name, dfltT s.heap d)) = ddefs.map fun d => (some d.shape, true) := congrArg Prod.snd e
  refine ⟨s.heap.nsMap mainGlobals, .of_isNs e1, fun d hd => ?_⟩
  have q := List.map_inj_left.mp e2 d hd
  obtain ⟨a, o, pm, code, doc, dV, h1, h2, h3, h4⟩ := Heap.hasFn_of_shapeD (congrArg Prod.fst q)
  have q2 : dfltT s.heap d = true := congrArg Prod.snd q
  obtain ⟨⟨f, o', fd⟩, hf, q2⟩ := dOpt_inv q2
  obtain ⟨t, ht, q2⟩ := dOpt_inv q2
  obtain ⟨ot, hot, q2⟩ := dOpt_inv q2
  obtain ⟨l, hl, q2⟩ := dOpt_inv q2
  obtain ⟨hb', ho', hdat'⟩ := Heap.fnAt_spec hf
  have e3 : f = a := by rw [h1] at hb'; injection hb' with q; injection q with q; exact q.symm
  have e4 : o' = o := by rw [e3, h2] at ho'; exact (Option.some.inj ho').symm
  rw [e4, h3] at hdat'
  have e5 := Data.func.inj hdat'
  obtain ⟨items, n, hit, rfl⟩ := dSeq_inv hl
  have : dV = .ref t := by
    have := dRef_inv ht
    rw [← e5] at this
    exact this
  subst this
  exact ⟨a, o, pm, code, doc, t, ot, items, n, h1, h2, h3, h4, hot, hit, dTr1_inv q2⟩
noncomputable def hook : Hook := ⟨Bool × List (Option FnShape × Bool), Obs, fun _ => Val, fun _ h => Says h, fun _ _ e => says_of e, fun _ _ _ x hk => x.keeps hk⟩
end Og
end
section
open PySem PySem.W PyProof.Rows
namespace Og
theorem left : LeftO PySem.Challenge.pw_og0253_01 view loose (fun s => xlAt view lv s && recOk [] s) (Hook.obs hook) (Hook.val hook) 3336 := fun w => by kernel_rfl!
end Og
end
section
open PySem PySem.W PyProof.Rows
namespace Og
theorem said : PySem.Challenge.rw_og0253_01.wellSaid = true := by decide +kernel
end Og
end
section
open PySem PySem.W PyProof.Rows
namespace Og
theorem head (hc : ∀ d kwd, defOf view PySem.Challenge.rw_og0253_01.row.name = some (d, kwd) → WalkO view loose (XL view lv) (Hook.says hook) PySem.Challenge.rw_og0253_01.row.toRowW d kwd fun f vs => PySem.call f vs) : PySem.Challenge.rw_og0253_01.Holds := by
  refine holds_law said fun ok => ?_
  have hdef : ∃ d kwd, defOf view PySem.Challenge.rw_og0253_01.row.name = some (d, kwd) ∧ PySem.Challenge.rw_og0253_01.row.prog.theDef PySem.Challenge.rw_og0253_01.row.name = some (d.params, d.body, d.scope) ∧ kwWritten? d.params.kwonlyargs d.params.kw_defaults = some kwd := ⟨_, _, rfl, rfl, rfl⟩
  obtain ⟨d, kwd, h1, h2, h3⟩ := hdef
  refine holds_open (q := view) (loose := loose) (Xt := fun s => xlAt view lv s && recOk [] s) (XP := XL view lv) (Yf := Hook.obs hook) (Ya := Hook.val hook) (YP := Hook.says hook) (N := 3336) left (Hook.of hook) (Hook.keeps hook)
    (fun s e => xl_of s (Bool.and_eq_true_iff.mp e).1) XL.keeps h1 h2 h3 (fun s e => recFacts_of (Bool.and_eq_true_iff.mp e).2) (by rfl) ok (by decide +kernel) ⟨rfl, rfl, rfl, rfl, rfl, by decide +kernel⟩ ?hw (hc d kwd h1)
  w_witness2
end Og
end
section
open PySem
namespace Og

/-- pure values -/
inductive PV where
  | none
  | bool (b : Bool)
  | int (i : Int)
  | str (l : List Nat)
  | bytes (l : List Nat)
  | tup (l : List PV)
  | list (l : List PV)
  | dict (l : List (Int × PV))
/-- what a variable may hold: a pure value, or a list of the frame's own that may still turn -/
inductive W where
  | v (d : PV)
  | c (i : Nat)
abbrev Rho := List (Str × Option W)
abbrev Sto := List (List W)
inductive Fl where
  | next
  | ret (w : W)

noncomputable def natsB : List Nat → List Nat → Bool
  | [], [] => true
  | a :: r, b :: t => bif Nat.beq a b then natsB r t else false
  | _, _ => false
noncomputable def strB (x y : Str) : Bool := natsB x.cps.toList y.cps.toList
theorem natsB_iff : ∀ a b : List Nat, natsB a b = true ↔ a = b
  | [], [] => by simp [natsB]
  | [], _ :: _ => by simp [natsB]
  | _ :: _, [] => by simp [natsB]
  | a :: r, b :: t => by
    unfold natsB
    cases h : Nat.beq a b with
    | true =>
      have := Nat.eq_of_beq_eq_true h
      simp [natsB_iff r t, this]
    | false =>
      have := Nat.ne_of_beq_eq_false h
      simp [this]
theorem strB_iff (x y : Str) : strB x y = true ↔ x = y := by
  obtain ⟨⟨a⟩⟩ := x
  obtain ⟨⟨b⟩⟩ := y
  unfold strB
  rw [natsB_iff]
  simp

noncomputable def get : Rho → Str → Option W
  | [], _ => .none
  | (y, w) :: r, x => bif strB y x then w else get r x
noncomputable def upd : Rho → Str → W → Rho
  | [], x, w => [(x, some w)]
  | (y, u) :: r, x, w => bif strB y x then (y, some w) :: r else (y, u) :: upd r x w
theorem get_upd : ∀ (ρ : Rho) (x : Str) (w : W) (y : Str), get (upd ρ x w) y = if y = x then some w else get ρ y
  | [], x, w, y => by
    unfold upd get
    by_cases h : strB x y = true
    · have e := (strB_iff _ _).mp h
      subst e
      simp [h]
    · have e : ¬ y = x := fun e => h ((strB_iff _ _).mpr e.symm)
      simp [h, e, get]
  | (z, u) :: r, x, w, y => by
    unfold upd
    by_cases h : strB z x = true
    · have e := (strB_iff _ _).mp h
      subst e
      simp only [h, cond_true]
      unfold get
      by_cases h2 : strB z y = true
      · have e2 := (strB_iff _ _).mp h2
        subst e2
        simp [h2]
      · have e2 : ¬ y = z := fun e => h2 ((strB_iff _ _).mpr e.symm)
        simp [h2, e2]
    · simp only [h]
      unfold get
      by_cases h2 : strB z y = true
      · have e2 := (strB_iff _ _).mp h2
        subst e2
        have e3 : ¬ z = x := fun e => h ((strB_iff _ _).mpr e)
        simp [h2, e3]
      · simp [h2, get_upd r x w y]
/-- a block's names, none bound -/
noncomputable def blank : List (Str × NameKind) → Rho
  | [] => []
  | (x, _) :: r => (x, .none) :: blank r
theorem get_blank (x : Str) : ∀ l : List (Str × NameKind), get (blank l) x = .none
  | [] => rfl
  | (y, k) :: r => by
    unfold blank get
    cases strB y x
    · exact get_blank x r
    · rfl

noncomputable def kindIn : List (Str × NameKind) → Str → Option NameKind
  | [], _ => .none
  | (y, k) :: r, x => bif strB x y then some k else kindIn r x
theorem kindIn_eq (x : Str) : ∀ l : List (Str × NameKind), kindIn l x = l.lookup x
  | [] => rfl
  | (y, k) :: r => by
    unfold kindIn
    rw [List.lookup_cons]
    by_cases h : strB x y = true
    · have e := (strB_iff _ _).mp h
      subst e
      simp [h]
    · have e : (x == y) = false := by
        cases q : (x == y) with
        | false => rfl
        | true => exact absurd ((strB_iff _ _).mpr (beq_iff_eq.mp q)) h
      simp [h, e, kindIn_eq x r]

/-- what the evaluator knows of the text around: the block's names, the global values, the pure functions, those that take a turning list -/
structure Cx where
  sc : List (Str × NameKind)
  gl : Str → Option PV
  fn : Str → Option (List PV → Option PV)
  fc : Str → Option (List W → Sto → Option (PV × Sto))
  mu : Pos → Bool

noncomputable def small (x : Int) : Bool := Nat.blt x.natAbs 18446744073709551616
noncomputable def divOk (b : Int) : Bool := bif Nat.beq b.natAbs 0 then false else small b
noncomputable def isLit : PySem.Expr → Bool
  | .Constant (.int _) _ _ => true
  | _ => false
noncomputable def lim : Nat := 16777216
noncomputable def fits (n : Nat) : Bool := Nat.ble n lim

variable {R : Type}

noncomputable def sole {α : Type} : List α → Option α
  | [] => .none
  | a :: r => (match r with | [] => some a | _ :: _ => .none)
noncomputable def duo {α : Type} : List α → Option (α × α)
  | [] => .none
  | a :: r => (match r with | [] => .none | b :: t => (match t with | [] => some (a, b) | _ :: _ => .none))
noncomputable abbrev opt {α β : Type} (o : Option α) (f : α → Option β) : Option β := match o with | some x => f x | .none => .none
theorem opt_some {α β : Type} (x : α) (f : α → Option β) : opt (some x) f = f x := rfl
noncomputable abbrev pureW (w : W) (k : PV → Option R) : Option R := match w with | .v d => k d | .c _ => .none
noncomputable abbrev intV (d : PV) (k : Int → Option R) : Option R := match d with | .int i => k i | _ => .none
noncomputable abbrev intW (w : W) (k : Int → Option R) : Option R := pureW w fun d => intV d k
noncomputable abbrev listD (d : PV) (k : List PV → Option R) : Option R := match d with | .list l => k l | _ => .none

noncomputable def intOp (l r : PySem.Expr) (op : Operator) (a b : Int) (k : Int → Option R) : Option R :=
  match op with
  | .Add => k (a + b)
  | .Sub => k (a - b)
  | .Mult => bif (bif isLit l then small a else bif isLit r then small b else small a) then k (a * b) else .none
  | .FloorDiv => bif divOk b then k (a.fdiv b) else .none
  | .Mod => bif divOk b then k (a.fmod b) else .none
  | .BitAnd => k (Builtin.bitAnd a b)
  | .BitOr => k (Builtin.bitOr a b)
  | .RShift => bif W.Z.leB 0 b then k (a.fdiv (2 ^ b.toNat)) else .none
  | .LShift => bif (bif W.Z.leB 0 b then W.Z.leB b 1000000 else false) then (bif small a then k (a * 2 ^ b.toNat) else .none) else .none
  | _ => .none

noncomputable def allV : List W → Option (List PV)
  | [] => some []
  | w :: r => pureW w fun d => opt (allV r) fun l => some (d :: l)
theorem allV_map : ∀ l : List PV, allV (l.map W.v) = some l
  | [] => rfl
  | d :: r => by show opt (allV (r.map W.v)) _ = _; rw [allV_map r]
noncomputable def allI : List PV → Option (List Int)
  | [] => some []
  | d :: r => intV d fun i => opt (allI r) fun l => some (i :: l)
theorem allI_map : ∀ l : List Int, allI (l.map PV.int) = some l
  | [] => rfl
  | d :: r => by show opt (allI (r.map PV.int)) _ = _; rw [allI_map r]
/-- the items of a list, turning or not -/
noncomputable def listV (σ : Sto) : W → Option (List PV)
  | .v d => listD d some
  | .c i => opt σ[i]? allV

noncomputable abbrev tupD (d : PV) (k : List PV → Option R) (e : Option R) : Option R := match d with | .tup l => k l | _ => e
noncomputable abbrev bytD (d : PV) (k : List Nat → Option R) (e : Option R) : Option R := match d with | .bytes l => k l | _ => e
noncomputable abbrev addL (mu : Bool) (w1 w2 : W) (σ : Sto) (k : W → Sto → Option R) : Option R := opt (listV σ w1) fun x => opt (listV σ w2) fun y =>
  bif fits (x.length + y.length) then (bif mu then k (.c σ.length) (σ ++ [(x ++ y).map W.v]) else k (.v (.list (x ++ y))) σ) else .none
noncomputable def addW (mu : Bool) (w1 w2 : W) (σ : Sto) (k : W → Sto → Option R) : Option R :=
  match w1 with
  | .v d => (match d with
    | .tup x => pureW w2 fun e => tupD e (fun y => bif fits (x.length + y.length) then k (.v (.tup (x ++ y))) σ else .none) .none
    | .bytes x => pureW w2 fun e => bytD e (fun y => bif fits (x.length + y.length) then k (.v (.bytes (x ++ y))) σ else .none) .none
    | d => addL mu (.v d) w2 σ k)
  | .c n => addL mu (.c n) w2 σ k
noncomputable def binW (mu : Bool) (l r : PySem.Expr) (op : Operator) (w1 w2 : W) (σ : Sto) (k : W → Sto → Option R) : Option R :=
  match w1 with
  | .v d => (match d with
    | .int a => intW w2 fun b => intOp l r op a b fun i => k (.v (.int i)) σ
    | d => (match op with | .Add => addW mu (.v d) w2 σ k | _ => .none))
  | .c n => (match op with | .Add => addW mu (.c n) w2 σ k | _ => .none)

noncomputable def isInt : PV → Bool
  | .int _ => true
  | _ => false
noncomputable def isNone : PV → Bool
  | .none => true
  | _ => false
noncomputable def lookI : List (Int × PV) → Int → Option PV
  | [], _ => .none
  | p :: r, i => bif W.Z.eqB p.1 i then some p.2 else lookI r i
mutual
/-- equality of pure values, as the language has it, for what is compared here -/
noncomputable def eqv (a b : PV) : Bool :=
  match a with
  | .none => (match b with | .none => true | _ => false)
  | .bool x => (match b with | .bool y => x == y | _ => false)
  | .int i => (match b with | .int j => W.Z.eqB i j | _ => false)
  | .tup x => (match b with | .tup y => eqvL x y | _ => false)
  | .list x => (match b with | .list y => eqvL x y | _ => false)
  | _ => false
noncomputable def eqvL (x y : List PV) : Bool :=
  match x with
  | [] => (match y with | [] => true | _ :: _ => false)
  | a :: r => (match y with | [] => false | b :: t => bif eqv a b then eqvL r t else false)
end
mutual
/-- none, ints, and tuples and lists of them to a depth -/
noncomputable def eqOk (n : Nat) (d : PV) : Bool :=
  match d with
  | .none => true
  | .int _ => true
  | .tup l => (match n with | 0 => false | n + 1 => eqOkL n l)
  | .list l => (match n with | 0 => false | n + 1 => eqOkL n l)
  | _ => false
noncomputable def eqOkL (n : Nat) (l : List PV) : Bool :=
  match l with
  | [] => true
  | a :: r => bif eqOk n a then eqOkL n r else false
end
noncomputable def memI : List PV → Int → Option Bool
  | [], _ => some false
  | d :: r, i => intV d fun j => opt (memI r i) fun b => some (bif W.Z.eqB j i then true else b)
noncomputable def emptyB : List PV → Bool
  | [] => true
  | _ :: _ => false
noncomputable def cmpEq (a b : PV) : Option Bool :=
  match a with
  | .int i => (match b with | .int j => some (W.Z.eqB i j) | _ => .none)
  | .none => (match b with | .int _ => some false | _ => .none)
  | .bytes x => (match b with | .bytes y => some (natsB x y) | _ => .none)
  | .tup x => (match b with | .tup y => bif eqOk 8 (.tup x) then bif eqOk 8 (.tup y) then some (eqvL x y) else .none else .none | _ => .none)
  | .list x => (match b with
    | .list y => (match y with
      | [] => some (emptyB x)
      | c :: r => bif eqOk 8 (.list x) then bif eqOk 8 (.list (c :: r)) then some (eqvL x (c :: r)) else .none else .none)
    | _ => .none)
  | _ => .none
noncomputable def int2 (a b : PV) (f : Int → Int → Bool) : Option Bool :=
  match a with
  | .int i => (match b with | .int j => some (f i j) | _ => .none)
  | _ => .none
noncomputable def cmpIn (a b : PV) : Option Bool :=
  match a with
  | .int i => (match b with
    | .tup l => memI l i
    | .dict l => some (lookI l i).isSome
    | _ => .none)
  | _ => .none
noncomputable def cmpV (op : CmpOp) (a b : PV) : Option Bool :=
  match op with
  | .Is => (match b with | .none => some (isNone a) | _ => .none)
  | .IsNot => (match b with | .none => some (!isNone a) | _ => .none)
  | .Eq => cmpEq a b
  | .NotEq => opt (cmpEq a b) fun c => bif isNone a then .none else some (!c)
  | .Lt => int2 a b W.Z.ltB
  | .LtE => int2 a b W.Z.leB
  | .Gt => int2 a b fun i j => W.Z.ltB j i
  | .GtE => int2 a b fun i j => W.Z.leB j i
  | .In => cmpIn a b
  | .NotIn => (match a with
    | .int i => (match b with | .dict l => some (!(lookI l i).isSome) | _ => .none)
    | _ => .none)
noncomputable def truth : W → Option Bool
  | .v (.bool b) => some b
  | .v (.int i) => some (!W.Z.eqB i 0)
  | _ => .none

/-- a place in a sequence -/
noncomputable def place (i : Int) (n : Nat) : Option Nat :=
  match i with
  | .ofNat j => bif Nat.blt j n then some j else .none
  | .negSucc j => bif Nat.blt j n then some (n - (j + 1)) else .none
noncomputable def subK (w1 w2 : W) (σ : Sto) (k : W → Sto → Option R) : Option R :=
  match w1 with
  | .v d => (match d with
    | .tup l => intW w2 fun i => opt (place i l.length) fun j => opt l[j]? fun d => k (.v d) σ
    | .list l => intW w2 fun i => opt (place i l.length) fun j => opt l[j]? fun d => k (.v d) σ
    | .dict l => intW w2 fun i => opt (lookI l i) fun d => k (.v d) σ
    | _ => .none)
  | .c n => intW w2 fun i => opt σ[n]? fun l => opt (place i l.length) fun j => opt l[j]? fun w => k w σ

noncomputable def clip (n : Nat) : Int → Nat
  | .ofNat j => bif Nat.ble j n then j else n
  | .negSucc j => n - (j + 1)
noncomputable def cut {α : Type} (lo hi : Option Int) (l : List α) : List α :=
  let a := match lo with | some x => clip l.length x | .none => 0
  match hi with
  | some y => (l.drop a).take (clip l.length y - a)
  | .none => l.drop a
noncomputable abbrev cutP (w : W) (lo hi : Option Int) (σ : Sto) (k : W → Sto → Option R) : Option R :=
  match w with
  | .v d => (match d with
    | .tup l => k (.v (.tup (cut lo hi l))) σ
    | .bytes l => k (.v (.bytes (cut lo hi l))) σ
    | .list l => k (.v (.list (cut lo hi l))) σ
    | _ => .none)
  | .c n => opt (listV σ (.c n)) fun l => k (.v (.list (cut lo hi l))) σ
noncomputable def isM1 (i : Int) : Bool := W.Z.eqB i (-1)
noncomputable def isNo {α : Type} : Option α → Bool
  | .none => true
  | some _ => false
noncomputable def cutK (w : W) (lo hi st : Option Int) (σ : Sto) (k : W → Sto → Option R) : Option R :=
  match st with
  | .none => cutP w lo hi σ k
  | some s => bif (bif isM1 s then bif isNo lo then isNo hi else false else false) then opt (listV σ w) fun l => k (.v (.list l.reverse)) σ else .none

noncomputable def bcode (x : Str) : Nat :=
  bif strB x "len" then 1 else bif strB x "abs" then 2 else bif strB x "bytes" then 3 else bif strB x "list" then 4 else
  bif strB x "tuple" then 5 else bif strB x "str" then 6 else bif strB x "max" then 7 else bif strB x "min" then 8 else
  bif strB x "sum" then 9 else bif strB x "range" then 10 else bif strB x "zip" then 11 else bif strB x "enumerate" then 12 else 0
noncomputable def bytesOk : List Int → Option (List Nat)
  | [] => some []
  | i :: r => bif (bif W.Z.leB 0 i then W.Z.ltB i 256 else false) then opt (bytesOk r) fun l => some (i.toNat :: l) else .none
noncomputable def maxL : Int → List Int → Int
  | a, [] => a
  | a, b :: r => maxL (bif W.Z.ltB a b then b else a) r
noncomputable def tiny (x : Int) : Bool := Nat.blt x.natAbs 4611686018427387904
noncomputable def sumL : Int → List Int → Option Int
  | a, [] => some a
  | a, b :: r => bif (bif tiny b then tiny (a + b) else false) then sumL (a + b) r else .none
/-- the digits of an int, as the language writes them -/
noncomputable def digs (i : Int) : List Nat := (Str.ofString (toString i)).cps.toList
noncomputable def lenV : PV → Option Nat
  | .list l => some l.length
  | .tup l => some l.length
  | .bytes l => some l.length
  | .str l => some l.length
  | _ => .none
/-- the sole argument, a pure value -/
noncomputable abbrev one1 (ws : List W) (k : PV → Option R) : Option R := opt (sole ws) fun w => pureW w k
noncomputable abbrev cLen (ws : List W) (k : PV → Option R) : Option R := one1 ws fun d => opt (lenV d) fun n => k (.int (n : Int))
noncomputable abbrev cAbs (ws : List W) (k : PV → Option R) : Option R := one1 ws fun d => intV d fun a => k (.int (bif W.Z.ltB a 0 then -a else a))
noncomputable abbrev cBytes (ws : List W) (σ : Sto) (k : PV → Option R) : Option R := opt (sole ws) fun w => opt (listV σ w) fun l => opt (allI l) fun ns => opt (bytesOk ns) fun bs => k (.bytes bs)
noncomputable abbrev cList (ws : List W) (k : PV → Option R) : Option R := one1 ws fun d => listD d fun l => k (.list l)
noncomputable abbrev cTuple (ws : List W) (k : PV → Option R) : Option R := one1 ws fun d => listD d fun l => k (.tup l)
noncomputable abbrev cStr (ws : List W) (k : PV → Option R) : Option R := one1 ws fun d => intV d fun i => bif small i then k (.str (digs i)) else .none
noncomputable abbrev cMax (ws : List W) (k : PV → Option R) : Option R := one1 ws fun d => listD d fun l => opt (allI l) fun ns => match ns with | a :: r => k (.int (maxL a r)) | [] => .none
noncomputable abbrev cMin (ws : List W) (k : PV → Option R) : Option R := opt (duo ws) fun p => intW p.1 fun a => intW p.2 fun b => k (.int (bif W.Z.ltB b a then b else a))
noncomputable abbrev cSum (ws : List W) (k : PV → Option R) : Option R := one1 ws fun d => listD d fun l => opt (allI l) fun ns => opt (sumL 0 ns) fun i => k (.int i)
noncomputable def callB (code : Nat) (ws : List W) (σ : Sto) (k : PV → Option R) : Option R :=
  match code with
  | 1 => cLen ws k
  | 2 => cAbs ws k
  | 3 => cBytes ws σ k
  | 4 => cList ws k
  | 5 => cTuple ws k
  | 6 => cStr ws k
  | 7 => cMax ws k
  | 8 => cMin ws k
  | 9 => cSum ws k
  | _ => .none

noncomputable def allB : List PV → Option (List (List Nat))
  | [] => some []
  | d :: r => bytD d (fun b => opt (allB r) fun l => some (b :: l)) .none
noncomputable abbrev strD (d : PV) (k : List Nat → Option R) : Option R := match d with | .str l => k l | _ => .none
noncomputable def allS : List PV → Option (List (List Nat))
  | [] => some []
  | d :: r => strD d fun b => opt (allS r) fun l => some (b :: l)
noncomputable def glue {α : Type} (sep : List α) : List (List α) → List α
  | [] => []
  | [a] => a
  | a :: b :: r => a ++ (sep ++ glue sep (b :: r))

noncomputable def nameT : PySem.Expr → Bool
  | .Name .. => true
  | _ => false
noncomputable def tupT : PySem.Expr → Bool
  | .Tuple .. => true
  | _ => false
/-- a name that may be stored -/
noncomputable def stOk (sc : List (Str × NameKind)) (x : Str) : Bool := match kindIn sc x with
  | some k => (match k with | .local => true | .cell => true | _ => false)
  | .none => false
noncomputable def loOk (sc : List (Str × NameKind)) (x : Str) : Bool := match kindIn sc x with
  | some k => (match k with | .local => true | _ => false)
  | .none => false
noncomputable abbrev seqD (d : PV) (k : List PV → Option R) : Option R := match d with | .tup l => k l | .list l => k l | _ => .none
noncomputable def bindN (ok : Str → Bool) : List PySem.Expr → List W → Rho → Option Rho
  | [], ws, ρ => (match ws with | [] => some ρ | _ :: _ => .none)
  | t :: ts, ws, ρ => (match ws with
    | [] => .none
    | w :: ws => (match t with
      | .Name x _ => bif ok x then bindN ok ts ws (upd ρ x w) else .none
      | _ => .none))
noncomputable def bindT (ok : Str → Bool) (t : PySem.Expr) (w : W) (ρ : Rho) : Option Rho :=
  match t with
  | .Name x _ => bif ok x then some (upd ρ x w) else .none
  | .Tuple ts _ _ => pureW w fun d => seqD d fun l => bindN ok ts (l.map W.v) ρ
  | _ => .none
/-- the names that a comprehension sees of the block around -/
noncomputable def addV (x : Str) (o : Option W) (l : Rho) : Rho := match o with
  | .none => l
  | some w => (match w with | .v d => (x, some (W.v d)) :: l | .c _ => l)
noncomputable def isCell : NameKind → Bool
  | .cell => true
  | _ => false
noncomputable def freeOf : List (Str × NameKind) → Rho → Rho
  | [], _ => []
  | p :: r, ρ => bif isCell p.2 then addV p.1 (get ρ p.1) (freeOf r ρ) else freeOf r ρ
/-- the names of a comprehension within a block: what is free there is a cell here -/
noncomputable def cellIn (sc : List (Str × NameKind)) (x : Str) : Bool := match kindIn sc x with | some k => isCell k | .none => false
noncomputable def relab (sc : List (Str × NameKind)) : List (Str × NameKind) → Option (List (Str × NameKind))
  | [] => some []
  | p :: r => (match p.2 with
    | .free => bif cellIn sc p.1 then opt (relab sc r) fun l => some ((p.1, NameKind.cell) :: l) else .none
    | .local => opt (relab sc r) fun l => some ((p.1, NameKind.local) :: l)
    | .globalImplicit => opt (relab sc r) fun l => some ((p.1, NameKind.globalImplicit) :: l)
    | _ => .none)
noncomputable def isFun : ScopeKind → Bool
  | .function => true
  | _ => false
noncomputable def ownB : List (Str × NameKind) → Bool
  | [] => true
  | p :: r => bif (kindIn r p.1).isSome then false else ownB r
noncomputable def appOk : PySem.Expr → Bool
  | .Name .. => true
  | .Subscript .. => true
  | _ => false
noncomputable def dispOk : PySem.Expr → Bool
  | .Dict .. => true
  | _ => false

noncomputable def plainE : PySem.Expr → Bool
  | .Set .. => false
  | .Starred .. => false
  | .Slice .. => false
  | _ => true

structure Ev (R : Type) where
  e : PySem.Expr → Cx → Rho → Sto → (W → Sto → Option R) → Option R
  t : PySem.Expr → Cx → Rho → Sto → (Bool → Sto → Option R) → Option R
  s : Stmt → Cx → Rho → Sto → (Fl → Rho → Sto → Option R) → Option R

noncomputable def evL (ih : Ev R) (K : Cx) (ρ : Rho) : List PySem.Expr → Sto → (List W → Sto → Option R) → Option R
  | [], σ, k => k [] σ
  | e :: r, σ, k => ih.e e K ρ σ fun w σ => evL ih K ρ r σ fun ws σ => k (w :: ws) σ
noncomputable def evO (ih : Ev R) (K : Cx) (ρ : Rho) (o : Option PySem.Expr) (σ : Sto) (k : Option Int → Sto → Option R) : Option R :=
  match o with
  | .none => k .none σ
  | some e => ih.e e K ρ σ fun w σ => intW w fun i => k (some i) σ
noncomputable def evS (ih : Ev R) : List Stmt → Cx → Rho → Sto → (Fl → Rho → Sto → Option R) → Option R
  | [], _, ρ, σ, k => k .next ρ σ
  | s :: r, K, ρ, σ, k => ih.s s K ρ σ fun f ρ σ => match f with | .next => evS ih r K ρ σ k | .ret w => k (.ret w) ρ σ
noncomputable def forL (ih : Ev R) (t : PySem.Expr) (body : List Stmt) (K : Cx) : List PV → Rho → Sto → (Fl → Rho → Sto → Option R) → Option R
  | [], ρ, σ, k => k .next ρ σ
  | d :: r, ρ, σ, k => opt (bindT (stOk K.sc) t (.v d) ρ) fun ρ => evS ih body K ρ σ fun f ρ σ => match f with | .next => forL ih t body K r ρ σ k | .ret w => k (.ret w) ρ σ
noncomputable def whL (ih : Ev R) (test : PySem.Expr) (body : List Stmt) (K : Cx) : Nat → Rho → Sto → (Fl → Rho → Sto → Option R) → Option R
  | 0, _, _, _ => .none
  | n + 1, ρ, σ, k => ih.t test K ρ σ fun b σ => bif b then
      (evS ih body K ρ σ fun f ρ σ => match f with | .next => whL ih test body K n ρ σ k | .ret w => k (.ret w) ρ σ) else k .next ρ σ
noncomputable def ifsT (ih : Ev R) (K : Cx) (ρ : Rho) : List PySem.Expr → (Bool → Option R) → Option R
  | [], k => k true
  | e :: r, k => ih.t e K ρ [] fun b _ => bif b then ifsT ih K ρ r k else k false
noncomputable def compL (ih : Ev R) (elt t : PySem.Expr) (ifs : List PySem.Expr) (K : Cx) (ρ : Rho) : List PV → List PV → (List PV → Option R) → Option R
  | [], acc, k => k acc
  | d :: r, acc, k => opt (bindT (loOk K.sc) t (.v d) ρ) fun ρ' => ifsT ih K ρ' ifs fun b => bif b then
        (ih.e elt K ρ' [] fun w _ => pureW w fun y => compL ih elt t ifs K ρ r (acc ++ [y]) k) else compL ih elt t ifs K ρ r acc k
noncomputable def ifsN : Nat := 100

/-- names of no odd reading -/
noncomputable def okN (x : Str) : Bool := bif strB x "__debug__" then false else bif strB x "__classdict__" then false else true
noncomputable def globOk (K : Cx) (x : Str) : Bool := match kindIn K.sc x with
  | some k => (match k with | .globalImplicit => true | _ => false)
  | .none => false
noncomputable def pairsK (ih : Ev R) (K : Cx) (ρ : Rho) : List (Option PySem.Expr) → List PySem.Expr → Sto → (List (Int × PV) → Sto → Option R) → Option R
  | [], vs, σ, k => (match vs with | [] => k [] σ | _ :: _ => .none)
  | a :: r, vs, σ, k => (match vs with
    | [] => .none
    | b :: t => opt a fun a => ih.e a K ρ σ fun w1 σ => ih.e b K ρ σ fun w2 σ => intW w1 fun i => pureW w2 fun d => pairsK ih K ρ r t σ fun l σ => bif (lookI l i).isSome then .none else k ((i, d) :: l) σ)

noncomputable abbrev evConst (c : Const) (σ : Sto) (k : W → Sto → Option R) : Option R :=
  match c with
  | .none => k (.v .none) σ
  | .bool b => k (.v (.bool b)) σ
  | .int i => k (.v (.int i)) σ
  | .str s => bif fits s.cps.toList.length then k (.v (.str s.cps.toList)) σ else .none
  | .bytes b => bif fits b.length then k (.v (.bytes (b.map UInt8.toNat))) σ else .none
  | _ => .none
noncomputable abbrev evName (x : Str) (K : Cx) (ρ : Rho) (σ : Sto) (k : W → Sto → Option R) : Option R :=
  bif okN x then (match get ρ x with
    | some w => k w σ
    | .none => bif globOk K x then (match K.fn x with
      | some _ => .none
      | .none => opt (K.gl x) fun d => k (.v d) σ) else .none) else .none
noncomputable abbrev cmp1 (ih : Ev R) (l r : PySem.Expr) (op : CmpOp) (K : Cx) (ρ : Rho) (σ : Sto) (k : PV → PV → Bool → Sto → Option R) : Option R :=
  ih.e l K ρ σ fun w1 σ => ih.e r K ρ σ fun w2 σ => pureW w1 fun a => pureW w2 fun b => opt (cmpV op a b) fun c => k a b c σ
noncomputable abbrev unop (op : UnaryOp) (i : Int) (σ : Sto) (k : W → Sto → Option R) : Option R :=
  match op with
  | .USub => k (.v (.int (-i))) σ
  | .Invert => k (.v (.int (Builtin.bitNot i))) σ
  | _ => .none
noncomputable abbrev evJoin (ih : Ev R) (o : PySem.Expr) (args : List PySem.Expr) (K : Cx) (ρ : Rho) (σ : Sto) (k : W → Sto → Option R) : Option R :=
  match o with
  | .Constant c _ _ => opt (sole args) fun a => (match c with
    | .bytes b => ih.e a K ρ σ fun w σ => opt (listV σ w) fun l => opt (allB l) fun bs => bif fits (glue (b.map UInt8.toNat) bs).length then k (.v (.bytes (glue (b.map UInt8.toNat) bs))) σ else .none
    | .str b => ih.e a K ρ σ fun w σ => opt (listV σ w) fun l => opt (allS l) fun bs => bif fits ((glue b.cps.toList bs).length + b.cps.toList.length) then k (.v (.str (glue b.cps.toList bs))) σ else .none
    | _ => .none)
  | _ => .none
noncomputable abbrev dictD (d : PV) (k : List (Int × PV) → Option R) : Option R := match d with | .dict l => k l | _ => .none
noncomputable abbrev getK (wo wa wb : W) (σ : Sto) (k : W → Sto → Option R) : Option R := pureW wo fun o => dictD o fun l => pureW wa fun a => pureW wb fun d => (match a with
  | .int i => (match lookI l i with | some x => k (.v x) σ | .none => k (.v d) σ)
  | .none => k (.v d) σ
  | _ => .none)
noncomputable abbrev evGet (ih : Ev R) (o : PySem.Expr) (args : List PySem.Expr) (K : Cx) (ρ : Rho) (σ : Sto) (k : W → Sto → Option R) : Option R :=
  opt (duo args) fun p => bif dispOk o then ih.e o K ρ σ fun wo σ => ih.e p.1 K ρ σ fun wa σ => ih.e p.2 K ρ σ fun wb σ => getK wo wa wb σ k else .none
noncomputable abbrev evMeth (ih : Ev R) (o : PySem.Expr) (name : Str) (args : List PySem.Expr) (K : Cx) (ρ : Rho) (σ : Sto) (k : W → Sto → Option R) : Option R :=
  bif strB name "join" then evJoin ih o args K ρ σ k else bif strB name "get" then evGet ih o args K ρ σ k else .none
noncomputable abbrev evCall (ih : Ev R) (f : Str) (args : List PySem.Expr) (K : Cx) (ρ : Rho) (σ : Sto) (k : W → Sto → Option R) : Option R :=
  match get ρ f with
  | some _ => .none
  | .none => bif (bif okN f then globOk K f else false) then evL ih K ρ args σ fun ws σ => (match K.fn f with
    | some g => opt (allV ws) fun ds => opt (g ds) fun d => k (.v d) σ
    | .none => match K.fc f with
      | some g => opt (g ws σ) fun r => k (.v r.1) r.2
      | .none => match K.gl f with
        | some _ => .none
        | .none => callB (bcode f) ws σ fun d => k (.v d) σ) else .none
noncomputable abbrev evComp (ih : Ev R) (elt t it : PySem.Expr) (ifs : List PySem.Expr) (scope : Scope) (K : Cx) (ρ : Rho) (σ : Sto) (k : W → Sto → Option R) : Option R :=
  opt (relab K.sc scope.names) fun sc => bif (bif isFun scope.kind then bif ownB scope.names then bif ownB sc then (bif nameT t then true else tupT t) else false else false else false) then
    ih.e it K ρ σ fun w σ => pureW w fun d => seqD d fun l => bif fits l.length then compL ih elt t ifs { K with sc := sc } (freeOf sc ρ) l [] fun acc => k (.v (.list acc)) σ else .none else .none
noncomputable abbrev evSub (ih : Ev R) (v i : PySem.Expr) (K : Cx) (ρ : Rho) (σ : Sto) (k : W → Sto → Option R) : Option R :=
  match i with
  | .Slice lo hi st _ => ih.e v K ρ σ fun w σ => evO ih K ρ lo σ fun a σ => evO ih K ρ hi σ fun b σ => evO ih K ρ st σ fun c σ => cutK w a b c σ k
  | i => ih.e v K ρ σ fun w1 σ => ih.e i K ρ σ fun w2 σ => subK w1 w2 σ k
noncomputable def emptyL {α : Type} : List α → Bool
  | [] => true
  | _ :: _ => false
noncomputable def stepE (ih : Ev R) (e : PySem.Expr) (K : Cx) (ρ : Rho) (σ : Sto) (k : W → Sto → Option R) : Option R :=
  match e with
  | .Constant c _ _ => evConst c σ k
  | .Name x _ => evName x K ρ σ k
  | .BinOp l op r pos => ih.e l K ρ σ fun w1 σ => ih.e r K ρ σ fun w2 σ => binW (K.mu pos) l r op w1 w2 σ k
  | .UnaryOp op x _ => ih.e x K ρ σ fun w σ => intW w fun i => unop op i σ k
  | .IfExp t a b _ => ih.t t K ρ σ fun c σ => bif c then ih.e a K ρ σ k else ih.e b K ρ σ k
  | .Compare l ops rs _ => opt (sole ops) fun op => opt (sole rs) fun r => cmp1 ih l r op K ρ σ fun _ _ c σ => k (.v (.bool c)) σ
  | .Tuple es _ _ => bif fits es.length then evL ih K ρ es σ fun ws σ => opt (allV ws) fun l => k (.v (.tup l)) σ else .none
  | .List es pos => bif fits es.length then evL ih K ρ es σ fun ws σ => bif K.mu pos then k (.c σ.length) (σ ++ [ws]) else opt (allV ws) fun l => k (.v (.list l)) σ else .none
  | .Dict ks vs _ => bif emptyL ks then .none else bif Nat.ble ks.length 15 then pairsK ih K ρ ks vs σ fun l σ => k (.v (.dict l)) σ else .none
  | .Subscript v i _ => evSub ih v i K ρ σ k
  | .Call f args kws pos => bif emptyL kws then (match f with
    | .Attribute o name apos => bif Nat.beq apos.endLine pos.line then evMeth ih o name args K ρ σ k else .none
    | .Name x _ => evCall ih x args K ρ σ k
    | _ => .none) else .none
  | .ListComp elt gens scope _ => opt (sole gens) fun g => bif W.Z.eqB g.is_async 0 then evComp ih elt g.target g.iter g.ifs scope K ρ σ k else .none
  | _ => .none

noncomputable def andT (ih : Ev R) (K : Cx) (ρ : Rho) : List PySem.Expr → Sto → (Bool → Sto → Option R) → Option R
  | [], σ, k => k true σ
  | e :: r, σ, k => ih.t e K ρ σ fun b σ => bif b then andT ih K ρ r σ k else k false σ
noncomputable def orT (ih : Ev R) (K : Cx) (ρ : Rho) : List PySem.Expr → Sto → (Bool → Sto → Option R) → Option R
  | [], σ, k => k false σ
  | e :: r, σ, k => ih.t e K ρ σ fun b σ => bif b then k true σ else orT ih K ρ r σ k
noncomputable abbrev dflT (ih : Ev R) (e : PySem.Expr) (K : Cx) (ρ : Rho) (σ : Sto) (k : Bool → Sto → Option R) : Option R :=
  ih.e e K ρ σ fun w σ => opt (truth w) fun b => k b σ
noncomputable abbrev chain (ih : Ev R) (l : PySem.Expr) (ops : CmpOp × CmpOp) (rs : PySem.Expr × PySem.Expr) (K : Cx) (ρ : Rho) (σ : Sto) (k : Bool → Sto → Option R) : Option R :=
  bif plainE rs.2 then cmp1 ih l rs.1 ops.1 K ρ σ fun _ b c σ => bif c then ih.e rs.2 K ρ σ fun w3 σ => pureW w3 fun d => opt (cmpV ops.2 b d) fun c => k c σ else k false σ else .none
noncomputable abbrev tstCmp (ih : Ev R) (l : PySem.Expr) (ops : List CmpOp) (rs : List PySem.Expr) (K : Cx) (ρ : Rho) (σ : Sto) (k : Bool → Sto → Option R) : Option R :=
  match sole ops with
  | some op => opt (sole rs) fun r => cmp1 ih l r op K ρ σ fun _ _ c σ => k c σ
  | .none => opt (duo ops) fun os => opt (duo rs) fun rs => chain ih l os rs K ρ σ k
noncomputable def isNot : UnaryOp → Bool
  | .Not => true
  | _ => false
noncomputable def stepT (ih : Ev R) (e : PySem.Expr) (K : Cx) (ρ : Rho) (σ : Sto) (k : Bool → Sto → Option R) : Option R :=
  match e with
  | .UnaryOp op x p => bif isNot op then ih.t x K ρ σ fun b σ => k (!b) σ else dflT ih (.UnaryOp op x p) K ρ σ k
  | .BoolOp op es _ => (match op with | .And => andT ih K ρ es σ k | .Or => orT ih K ρ es σ k)
  | .IfExp .. => .none
  | .Compare l ops rs _ => tstCmp ih l ops rs K ρ σ k
  | e => dflT ih e K ρ σ k

noncomputable def rangeL (a : Int) : Nat → List PV
  | 0 => []
  | n + 1 => .int a :: rangeL (a + 1) n
noncomputable def enumL : Int → List PV → List PV
  | _, [] => []
  | i, d :: r => .tup [.int i, d] :: enumL (i + 1) r
noncomputable def zipL : List PV → List PV → List PV
  | a :: r, b :: t => .tup [a, b] :: zipL r t
  | _, _ => []
noncomputable def iterW (tn : Bool) (w : W) (k : List PV → Option R) : Option R := pureW w fun d => match d with
  | .tup l => k l
  | .list l => k l
  | .bytes l => bif tn then k (l.map fun n : Nat => PV.int (n : Int)) else .none
  | _ => .none
noncomputable abbrev iterD (ih : Ev R) (tn : Bool) (e : PySem.Expr) (K : Cx) (ρ : Rho) (σ : Sto) (k : List PV → Sto → Option R) : Option R :=
  ih.e e K ρ σ fun w σ => iterW tn w fun l => k l σ
/-- a source that the text names -/
noncomputable def srcOf (ρ : Rho) (f : Str) (args : List PySem.Expr) : Nat := match get ρ f with
  | some _ => 0
  | .none => (match bcode f with
    | 10 => (match sole args with | some _ => 1 | .none => bif isNo (duo args) then 0 else 2)
    | 11 => bif isNo (duo args) then 0 else 3
    | 12 => bif isNo (sole args) then 0 else 4
    | _ => 0)
noncomputable def glOk (f : Str) (K : Cx) : Bool := bif okN f then globOk K f else false
noncomputable abbrev iterN (ih : Ev R) (code : Nat) (tn : Bool) (f : Str) (p : Pos) (args : List PySem.Expr) (pos : Pos) (K : Cx) (ρ : Rho) (σ : Sto) (k : List PV → Sto → Option R) : Option R :=
  match code with
  | 0 => iterD ih tn (.Call (.Name f p) args [] pos) K ρ σ k
  | 1 => bif (bif glOk f K then tn else false) then opt (sole args) fun a => ih.e a K ρ σ fun w σ => intW w fun n => bif tiny n then k (rangeL 0 n.toNat) σ else .none else .none
  | 2 => bif (bif glOk f K then tn else false) then opt (duo args) fun q => ih.e q.1 K ρ σ fun w1 σ => ih.e q.2 K ρ σ fun w2 σ => intW w1 fun m => intW w2 fun n =>
      bif tiny m then bif tiny n then k (rangeL m (n - m).toNat) σ else .none else .none else .none
  | 3 => bif (bif glOk f K then !tn else false) then opt (duo args) fun q => ih.e q.1 K ρ σ fun w1 σ => ih.e q.2 K ρ σ fun w2 σ => pureW w1 fun a => tupD a (fun x => pureW w2 fun b => tupD b (fun y => k (zipL x y) σ) .none) .none else .none
  | 4 => bif (bif glOk f K then !tn else false) then opt (sole args) fun a => ih.e a K ρ σ fun w σ => pureW w fun d => tupD d (fun x => k (enumL 0 x) σ) .none else .none
  | _ => .none
/-- what a for runs over: the items -/
noncomputable def iterK (ih : Ev R) (tn : Bool) (e : PySem.Expr) (K : Cx) (ρ : Rho) (σ : Sto) (k : List PV → Sto → Option R) : Option R :=
  match e with
  | .Call f args kws pos => (match f with
    | .Name x p => bif emptyL kws then iterN ih (srcOf ρ x args) tn x p args pos K ρ σ k else .none
    | f => iterD ih tn (.Call f args kws pos) K ρ σ k)
  | e => iterD ih tn e K ρ σ k
noncomputable def hasN (x : Str) : List PySem.Expr → Bool
  | [] => false
  | .Name y _ :: r => bif strB y x then true else hasN x r
  | _ :: r => hasN x r
noncomputable def distN : List PySem.Expr → Bool
  | [] => true
  | .Name x _ :: r => bif hasN x r then false else distN r
  | _ :: _ => false
noncomputable def pairOk (ts es : List PySem.Expr) : Bool := bif es.all (constantsAlone 8) then false else bif distN ts then fits es.length else false
noncomputable def setAt (w : W) (i : Int) (x : W) (σ : Sto) : Option Sto :=
  match w with
  | .v _ => .none
  | .c n => opt σ[n]? fun l => opt (place i l.length) fun j => some (σ.set n (l.set j x))
noncomputable def pushAt (w x : W) (σ : Sto) : Option Sto :=
  match w with
  | .v _ => .none
  | .c n => opt σ[n]? fun l => bif fits (l.length + 1) then some (σ.set n (l ++ [x])) else .none
noncomputable abbrev asgPair (ih : Ev R) (ts es : List PySem.Expr) (K : Cx) (ρ : Rho) (σ : Sto) (k : Fl → Rho → Sto → Option R) : Option R :=
  bif pairOk ts es then evL ih K ρ es σ fun ws σ => opt (bindN (stOk K.sc) ts ws ρ) fun ρ => k .next ρ σ else .none
noncomputable abbrev asgT (ih : Ev R) (t e : PySem.Expr) (K : Cx) (ρ : Rho) (σ : Sto) (k : Fl → Rho → Sto → Option R) : Option R :=
  ih.e e K ρ σ fun w σ => opt (bindT (stOk K.sc) t w ρ) fun ρ => k .next ρ σ
noncomputable def tupE : PySem.Expr → Option (List PySem.Expr)
  | .Tuple es _ _ => some es
  | _ => .none
noncomputable abbrev asg (ih : Ev R) (t e : PySem.Expr) (K : Cx) (ρ : Rho) (σ : Sto) (k : Fl → Rho → Sto → Option R) : Option R :=
  match t with
  | .Name x _ => bif stOk K.sc x then ih.e e K ρ σ fun w σ => k .next (upd ρ x w) σ else .none
  | .Tuple ts c p => (match tupE e with
    | some es => asgPair ih ts es K ρ σ k
    | .none => asgT ih (.Tuple ts c p) e K ρ σ k)
  | .Subscript o i _ => ih.e e K ρ σ fun x σ => ih.e o K ρ σ fun w σ => ih.e i K ρ σ fun j σ => intW j fun j => opt (setAt w j x σ) fun σ => k .next ρ σ
  | _ => .none
noncomputable def augI (op : Operator) (a b : Int) : Option Int :=
  match op with
  | .Add => some (a + b)
  | .BitAnd => some (Builtin.bitAnd a b)
  | .BitOr => some (Builtin.bitOr a b)
  | _ => .none
noncomputable abbrev aug (ih : Ev R) (x : Str) (op : Operator) (e : PySem.Expr) (K : Cx) (ρ : Rho) (σ : Sto) (k : Fl → Rho → Sto → Option R) : Option R :=
  bif (bif stOk K.sc x then okN x else false) then opt (get ρ x) fun w0 => intW w0 fun a => ih.e e K ρ σ fun w σ => intW w fun b => opt (augI op a b) fun c => k .next (upd ρ x (.v (.int c))) σ else .none
noncomputable abbrev app (ih : Ev R) (o : PySem.Expr) (name : Str) (apos : Pos) (e : PySem.Expr) (pos : Pos) (K : Cx) (ρ : Rho) (σ : Sto) (k : Fl → Rho → Sto → Option R) : Option R :=
  bif (bif strB name "append" then (bif appOk o then Nat.beq apos.endLine pos.line else false) else false) then ih.e o K ρ σ fun w σ => ih.e e K ρ σ fun x σ => opt (pushAt w x σ) fun σ => k .next ρ σ else .none
noncomputable abbrev exprS (ih : Ev R) (e : PySem.Expr) (K : Cx) (ρ : Rho) (σ : Sto) (k : Fl → Rho → Sto → Option R) : Option R :=
  match e with
  | .Call f args kws pos => bif emptyL kws then (match f with
    | .Attribute o name apos => opt (sole args) fun e => app ih o name apos e pos K ρ σ k
    | _ => .none) else .none
  | _ => .none
noncomputable def stepS (ih : Ev R) (st : Stmt) (K : Cx) (ρ : Rho) (σ : Sto) (k : Fl → Rho → Sto → Option R) : Option R :=
  match st with
  | .Return v _ => opt v fun e => ih.e e K ρ σ fun w σ => k (.ret w) ρ σ
  | .Assign ts e _ => opt (sole ts) fun t => asg ih t e K ρ σ k
  | .AugAssign t op e _ => (match t with
    | .Name x _ => aug ih x op e K ρ σ k
    | _ => .none)
  | .Expr e _ => exprS ih e K ρ σ k
  | .If t a b _ => ih.t t K ρ σ fun c σ => bif c then evS ih a K ρ σ k else evS ih b K ρ σ k
  | .While t body el _ => bif emptyL el then whL ih t body K ifsN ρ σ k else .none
  | .For t it body el _ => bif emptyL el then (bif (bif nameT t then true else tupT t) then iterK ih (nameT t) it K ρ σ fun l σ => forL ih t body K l ρ σ k else .none) else .none
  | _ => .none

noncomputable def step (ih : Ev R) : Ev R := ⟨stepE ih, stepT ih, stepS ih⟩
noncomputable def bot : Ev R := ⟨fun _ _ _ _ _ => .none, fun _ _ _ _ _ => .none, fun _ _ _ _ _ => .none⟩
noncomputable def ev : Nat → Ev R := fun n => Nat.rec bot (fun _ ih => step ih) n

/-- a turning list made still -/
noncomputable def fz1 (σ : Sto) : W → Option PV
  | .v d => some d
  | .c i => opt σ[i]? fun l => opt (allV l) fun ds => some (.list ds)
noncomputable def fzL (σ : Sto) : List W → Option (List PV)
  | [] => some []
  | w :: r => opt (fz1 σ w) fun d => opt (fzL σ r) fun l => some (d :: l)
noncomputable def fz (σ : Sto) : W → Option PV
  | .v d => some d
  | .c i => opt σ[i]? fun l => opt (fzL σ l) fun ds => some (.list ds)
noncomputable def bindA : List Str → List W → Rho → Option Rho
  | [], ws, ρ => (match ws with | [] => some ρ | _ :: _ => .none)
  | x :: xs, ws, ρ => (match ws with | [] => .none | w :: ws => bindA xs ws (upd ρ x w))
/-- a pure def's call -/
noncomputable def runF (K : Cx) (params : List Str) (body : List Stmt) (ds : List PV) : Option PV :=
  opt (bindA params (ds.map W.v) (blank K.sc)) fun ρ => evS (ev 40) body K ρ [] fun f _ σ => match f with | .ret w => fz σ w | .next => some .none
/-- a call that turns what it is handed: it hands back a pure value, and its own lists go -/
noncomputable def runC (K : Cx) (params : List Str) (body : List Stmt) (ws : List W) (σ : Sto) : Option (PV × Sto) :=
  opt (bindA params ws (blank K.sc)) fun ρ => evS (ev 40) body K ρ σ fun f _ σ' => match f with
    | .ret w => pureW w fun d => bif Nat.beq σ'.length σ.length then some (d, σ') else .none
    | .next => .none
end Og
end
section
open PySem PySem.Calls PyProof.Rows
namespace Og

theorem none_some {α : Type} {r : α} {p : Prop} (h : (Option.none : Option α) = some r) : p := by cases h
theorem cond_some {R : Type} {b : Bool} {x : Option R} {r : R} (h : (bif b then x else .none) = some r) : b = true ∧ x = some r := by
  cases b with
  | true => exact ⟨rfl, h⟩
  | false => exact none_some h
theorem false_ne {p : Prop} (h : false = true) : p := by cases h
theorem bif_t {a b : Bool} (h : (bif a then b else false) = true) : a = true ∧ b = true := by
  cases a with
  | true => exact ⟨rfl, h⟩
  | false => exact false_ne h
section
variable {R α β : Type} {r : R} {d : PV} {x : W}
theorem opt_inv {o : Option α} {f : α → Option β} {r : β} (h : opt o f = some r) : ∃ a, o = some a ∧ f a = some r := by
  cases o with
  | none => exact none_some h
  | some a => exact ⟨a, rfl, h⟩
theorem pureW_inv {k : PV → Option R} (h : pureW x k = some r) : ∃ d, x = .v d ∧ k d = some r := by
  cases x with
  | v d => exact ⟨d, rfl, h⟩
  | c _ => exact none_some h
theorem intV_inv {k : Int → Option R} (h : intV d k = some r) : ∃ i, d = .int i ∧ k i = some r := by
  cases d with
  | int i => exact ⟨i, rfl, h⟩
  | _ => exact none_some h
theorem intW_inv {k : Int → Option R} (h : intW x k = some r) : ∃ i, x = .v (.int i) ∧ k i = some r := by
  obtain ⟨d, rfl, h⟩ := pureW_inv h
  obtain ⟨i, rfl, h⟩ := intV_inv h
  exact ⟨i, rfl, h⟩
theorem listD_inv {k : List PV → Option R} (h : listD d k = some r) : ∃ l, d = .list l ∧ k l = some r := by
  cases d with
  | list l => exact ⟨l, rfl, h⟩
  | _ => exact none_some h
theorem tupD_inv {k : List PV → Option R} (h : tupD d k .none = some r) : ∃ l, d = .tup l ∧ k l = some r := by
  cases d with
  | tup l => exact ⟨l, rfl, h⟩
  | _ => exact none_some h
theorem bytD_inv {k : List Nat → Option R} (h : bytD d k .none = some r) : ∃ l, d = .bytes l ∧ k l = some r := by
  cases d with
  | bytes l => exact ⟨l, rfl, h⟩
  | _ => exact none_some h
theorem strD_inv {k : List Nat → Option R} (h : strD d k = some r) : ∃ l, d = .str l ∧ k l = some r := by
  cases d with
  | str l => exact ⟨l, rfl, h⟩
  | _ => exact none_some h
theorem dictD_inv {k : List (Int × PV) → Option R} (h : dictD d k = some r) : ∃ l, d = .dict l ∧ k l = some r := by
  cases d with
  | dict l => exact ⟨l, rfl, h⟩
  | _ => exact none_some h
theorem seqD_inv {k : List PV → Option R} (h : seqD d k = some r) : ∃ l, (d = .tup l ∨ d = .list l) ∧ k l = some r := by
  cases d with
  | tup l => exact ⟨l, .inl rfl, h⟩
  | list l => exact ⟨l, .inr rfl, h⟩
  | _ => exact none_some h
theorem sole_inv {l : List α} {a : α} (h : sole l = some a) : l = [a] := by
  cases l with
  | nil => exact none_some h
  | cons b t => cases t with
    | nil => cases h; rfl
    | cons _ _ => exact none_some h
theorem duo_inv {l : List α} {p : α × α} (h : duo l = some p) : l = [p.1, p.2] := by
  cases l with
  | nil => exact none_some h
  | cons b t => cases t with
    | nil => exact none_some h
    | cons c t => cases t with
      | nil => cases h; rfl
      | cons _ _ => exact none_some h
theorem emptyL_inv {l : List α} (h : emptyL l = true) : l = [] := by
  cases l with
  | nil => rfl
  | cons _ _ => exact false_ne h
end

inductive All2 {α β : Type} (Q : α → β → Prop) : List α → List β → Prop
  | nil : All2 Q [] []
  | cons {a b as bs} : Q a b → All2 Q as bs → All2 Q (a :: as) (b :: bs)

section
variable {α β γ : Type} {Q : α → β → Prop}
theorem All2.length {as : List α} {bs : List β} (h : All2 Q as bs) : as.length = bs.length := by
  induction h with
  | nil => rfl
  | cons _ _ ih => simp [ih]
theorem All2.imp {Q' : α → β → Prop} (f : ∀ a b, Q a b → Q' a b) {as : List α} {bs : List β} (h : All2 Q as bs) : All2 Q' as bs := by
  induction h with
  | nil => exact .nil
  | cons h1 _ ih => exact .cons (f _ _ h1) ih
theorem All2.append {as as' : List α} {bs bs' : List β} (h : All2 Q as bs) (h' : All2 Q as' bs') : All2 Q (as ++ as') (bs ++ bs') := by
  induction h with
  | nil => exact h'
  | cons h1 _ ih => exact .cons h1 ih
theorem All2.get {as : List α} {bs : List β} (h : All2 Q as bs) : ∀ {i : Nat} {b : β}, bs[i]? = some b → ∃ a, as[i]? = some a ∧ Q a b := by
  induction h with
  | nil => intro i b e; simp at e
  | cons h1 _ ih =>
    intro i b e
    cases i with
    | zero => simp at e; subst e; exact ⟨_, by simp, h1⟩
    | succ i => simp at e; obtain ⟨a, x, y⟩ := ih e; exact ⟨a, by simpa using x, y⟩
theorem All2.get' {as : List α} {bs : List β} (h : All2 Q as bs) : ∀ {i : Nat} {a : α}, as[i]? = some a → ∃ b, bs[i]? = some b ∧ Q a b := by
  induction h with
  | nil => intro i b e; simp at e
  | cons h1 _ ih =>
    intro i b e
    cases i with
    | zero => simp at e; subst e; exact ⟨_, by simp, h1⟩
    | succ i => simp at e; obtain ⟨a, x, y⟩ := ih e; exact ⟨a, by simpa using x, y⟩
theorem All2.drop {as : List α} {bs : List β} (h : All2 Q as bs) : ∀ k, All2 Q (as.drop k) (bs.drop k) := by
  induction h with
  | nil => intro k; simp; exact .nil
  | cons h1 h2 ih => intro k; cases k with
    | zero => exact .cons h1 h2
    | succ k => simpa using ih k
theorem All2.take {as : List α} {bs : List β} (h : All2 Q as bs) : ∀ k, All2 Q (as.take k) (bs.take k) := by
  induction h with
  | nil => intro k; simp; exact .nil
  | cons h1 h2 ih => intro k; cases k with
    | zero => simp; exact .nil
    | succ k => simp; exact .cons h1 (ih k)
theorem All2.reverse {as : List α} {bs : List β} (h : All2 Q as bs) : All2 Q as.reverse bs.reverse := by
  induction h with
  | nil => exact .nil
  | cons h1 _ ih => simp; exact ih.append (.cons h1 .nil)
theorem All2.set {as : List α} {bs : List β} (h : All2 Q as bs) {a : α} {b : β} (q : Q a b) : ∀ j, All2 Q (as.set j a) (bs.set j b) := by
  induction h with
  | nil => intro j; exact .nil
  | cons h1 h2 ih => intro j; cases j with
    | zero => exact .cons q h2
    | succ j => exact .cons h1 (ih j)
theorem All2.cons_inv {a : α} {as : List α} {b : β} {bs : List β} (h : All2 Q (a :: as) (b :: bs)) : Q a b ∧ All2 Q as bs := by cases h with | cons x y => exact ⟨x, y⟩
theorem All2.nil_r {as : List α} (h : All2 Q as []) : as = [] := by cases h; rfl
theorem All2.cons_r {as : List α} {b : β} {bs : List β} (h : All2 Q as (b :: bs)) : ∃ a r, as = a :: r ∧ Q a b ∧ All2 Q r bs := by cases h with | cons x y => exact ⟨_, _, rfl, x, y⟩
end

section
variable (prog : Program) (w : World)
mutual
/-- a model's value bears a pure value, in a heap, past the addresses that may turn -/
inductive Rep (Av : Addr → Prop) (h : Heap) : Value → PV → Prop
  | none : Rep Av h .none .none
  | bool (b) : Rep Av h (.bool b) (.bool b)
  | int (i t) : Rep Av h (.int i t) (.int i)
  | str (x t) : x.cps.size ≤ lim → Rep Av h (.str x t) (.str x.cps.toList)
  | bytes (b t) : b.size ≤ lim → Rep Av h (.bytes b t) (.bytes (b.toList.map UInt8.toNat))
  | tup {a o vs n ds} : ¬ Av a → h.get? a = some o → o.cls = .type "tuple" → o.data = .seq vs n → vs.size ≤ lim → RepL Av h vs.toList ds → Rep Av h (.ref a) (.tup ds)
  | list {a o vs n ds} : ¬ Av a → h.get? a = some o → o.cls = .type "list" → o.data = .seq vs n → vs.size ≤ lim → RepL Av h vs.toList ds → Rep Av h (.ref a) (.list ds)
  | dict {a f kvs} (g : Int → Value) : ¬ Av a → (a == sysModules) = false → h.MapOf (intKind prog w) a f → (∀ i d, lookI kvs i = some d → f i = some (g i)) → (∀ i d, lookI kvs i = some d → Rep Av h (g i) d) →
      (∀ i, lookI kvs i = .none → f i = .none) → kvs ≠ [] → Rep Av h (.ref a) (.dict kvs)
inductive RepL (Av : Addr → Prop) (h : Heap) : List Value → List PV → Prop
  | nil : RepL Av h [] []
  | cons {v vs d ds} : Rep Av h v d → RepL Av h vs ds → RepL Av h (v :: vs) (d :: ds)
end
end

section
variable {prog : Program} {w : World}
theorem RepL.all {Av : Addr → Prop} {h : Heap} {vs : List Value} {ds : List PV} (r : RepL prog w Av h vs ds) : All2 (Rep prog w Av h) vs ds := by
  induction ds generalizing vs with
  | nil => cases r; exact .nil
  | cons d ds ih => cases r with
    | cons a r => exact .cons a (ih r)
theorem RepL.of {Av : Addr → Prop} {h : Heap} {vs : List Value} {ds : List PV} (x : All2 (Rep prog w Av h) vs ds) : RepL prog w Av h vs ds := by
  induction x with
  | nil => exact .nil
  | cons a _ ih => exact .cons a ih

/-- nothing that stood is lost but what may turn; what may turn anew is new -/
structure Grow (Av : Addr → Prop) (h : Heap) (Av' : Addr → Prop) (h' : Heap) : Prop where
  mono : ∀ b, Av b → Av' b
  fresh : ∀ b, Av' b → ¬ Av b → h.get? b = .none
  keep : ∀ b o, h.get? b = some o → ¬ Av b → h'.get? b = some o
theorem Grow.refl (Av : Addr → Prop) (h : Heap) : Grow Av h Av h := ⟨fun _ x => x, fun _ x y => absurd x y, fun _ _ e _ => e⟩
theorem Grow.trans {Av Av' Av'' : Addr → Prop} {h h' h'' : Heap} (x : Grow Av h Av' h') (y : Grow Av' h' Av'' h'') : Grow Av h Av'' h'' where
  mono := fun b e => y.mono b (x.mono b e)
  fresh := fun b e n => by
    by_cases q : Av' b
    · exact x.fresh b q n
    · cases e' : h.get? b with
      | none => rfl
      | some o => have := y.fresh b e q; rw [x.keep b o e' n] at this; cases this
  keep := fun b o e n => y.keep b o (x.keep b o e n) fun q => by
    have := x.fresh b q n
    rw [this] at e; cases e
theorem Grow.ext {Av : Addr → Prop} {h h' : Heap} (k : ∀ b o, h.get? b = some o → h'.get? b = some o) : Grow Av h Av h' := ⟨fun _ x => x, fun _ x y => absurd x y, fun b o e _ => k b o e⟩
theorem Grow.off {Av Av' : Addr → Prop} {h h' : Heap} (x : Grow Av h Av' h') {b : Addr} {o : Obj} (e : h.get? b = some o) (n : ¬ Av b) : ¬ Av' b := fun q => by
  have := x.fresh b q n
  rw [this] at e; cases e

theorem MapOf.at {h h' : Heap} {a : Addr} {f : Int → Option Value} (hm : h.MapOf (intKind prog w) a f) (e : ∀ o, h.get? a = some o → h'.get? a = some o) : h'.MapOf (intKind prog w) a f :=
  let ⟨o, es, ep, ho, r⟩ := hm; ⟨o, es, ep, e o ho, r⟩
/-- a pure value elsewhere -/
theorem Rep.move {Av Av' : Addr → Prop} {h h' : Heap} (T : ∀ a o vs n, ¬ Av a → h.get? a = some o → o.data = .seq vs n → ¬ Av' a ∧ h'.get? a = some o)
    (D : ∀ a f i v, ¬ Av a → h.MapOf (intKind prog w) a f → f i = some v → ¬ Av' a ∧ h'.MapOf (intKind prog w) a f) {v : Value} {d : PV} (r : Rep prog w Av h v d) : Rep prog w Av' h' v d :=
  Rep.rec (motive_1 := fun v d _ => Rep prog w Av' h' v d) (motive_2 := fun vs ds _ => RepL prog w Av' h' vs ds)
    .none .bool .int (fun x t e => .str x t e) (fun b t e => .bytes b t e) (fun n e c dt z _ ih => let t := T _ _ _ _ n e dt; .tup t.1 t.2 c dt z ih) (fun n e c dt z _ ih => let t := T _ _ _ _ n e dt; .list t.1 t.2 c dt z ih)
    (fun {a f kvs} g n m hm h1 _ h3 h4 ih => by
      obtain ⟨i, d, e⟩ : ∃ i d, lookI kvs i = some d := by
        cases kvs with
        | nil => exact absurd rfl h4
        | cons p r => exact ⟨p.1, p.2, by unfold lookI; rw [(W.Z.eqB_iff _ _).mpr rfl]; rfl⟩
      have t := D a f i _ n hm (h1 i d e)
      exact .dict g t.1 m t.2 h1 ih h3 h4) .nil (fun _ _ a b => .cons a b) r
theorem Rep.grow {Av Av' : Addr → Prop} {h h' : Heap} (G : Grow Av h Av' h') {v : Value} {d : PV} (r : Rep prog w Av h v d) : Rep prog w Av' h' v d :=
  r.move (fun a o _ _ n e _ => ⟨G.off e n, G.keep _ _ e n⟩) fun a f i v n hm _ => ⟨by obtain ⟨o, _, _, ho, _⟩ := hm; exact G.off ho n, MapOf.at hm fun o e => G.keep _ _ e n⟩
theorem Rep.less {Av Av' : Addr → Prop} {h : Heap} (G : ∀ b, Av' b → Av b) {v : Value} {d : PV} (r : Rep prog w Av h v d) : Rep prog w Av' h v d :=
  r.move (fun a o _ _ n e _ => ⟨fun q => n (G _ q), e⟩) fun a f i v n hm _ => ⟨fun q => n (G _ q), hm⟩
end

inductive RepW (prog : Program) (w : World) (Av : Addr → Prop) (own : List Addr) (h : Heap) : Value → W → Prop
  | v {v d} : Rep prog w Av h v d → RepW prog w Av own h v (.v d)
  | c {i a} : own[i]? = some a → RepW prog w Av own h (.ref a) (.c i)
theorem RepW.grow {prog : Program} {w : World} {Av Av' : Addr → Prop} {own ext : List Addr} {h h' : Heap} {v : Value} {x : W} (G : Grow Av h Av' h') : RepW prog w Av own h v x → RepW prog w Av' (own ++ ext) h' v x
  | .v r => .v (r.grow G)
  | .c (i := i) e => .c (by rw [List.getElem?_append_left (List.getElem?_eq_some_iff.mp e).1]; exact e)
theorem RepW.grow0 {prog : Program} {w : World} {Av Av' : Addr → Prop} {own : List Addr} {h h' : Heap} {v : Value} {x : W} (G : Grow Av h Av' h') : RepW prog w Av own h v x → RepW prog w Av' own h' v x
  | .v r => .v (r.grow G)
  | .c e => .c e

/-- the names of the built-in things that the text asks -/
noncomputable def bval : Nat → Value
  | 1 => .builtin "len"
  | 2 => .builtin "abs"
  | 3 => .type "bytes"
  | 4 => .type "list"
  | 5 => .type "tuple"
  | 6 => .type "str"
  | 7 => .builtin "max"
  | 8 => .builtin "min"
  | 9 => .builtin "sum"
  | 10 => .type "range"
  | 11 => .type "zip"
  | 12 => .type "enumerate"
  | _ => .none

/-- what stands for the whole of the call: the text's own part of the heap -/
structure Bs (prog : Program) (w : World) where
  h₀ : Heap
  mg : Str → Option Value
  mb : Str → Option Value
  hg : h₀.Ns mainGlobals mg
  hb : h₀.Ns builtinsNs mb
  lim : h₀.NoLimit
  bi : ∀ x, bcode x ≠ 0 → mg x = .none ∧ mb x = some (bval (bcode x))

structure AOk (A : Around) (n : Nat) : Prop where
  h : A.handled = .none
  d : A.depth + n ≤ 900
  u : A.units + 20 * n + 300 ≤ cLine
theorem AOk.less {A : Around} {n m : Nat} (x : AOk A n) (h : m ≤ n) : AOk A m := ⟨x.h, by have := x.d; omega, by have := x.u; omega⟩
theorem AOk.deeper {A : Around} {n : Nat} (x : AOk A (n + 1)) (env : Env) : AOk (A.deeper env) n := ⟨x.h, by have := x.d; simp only [Around.deeper]; omega, by have := x.u; simp only [Around.deeper]; omega⟩

/-- a pure def's contract -/
noncomputable def FnOk {prog : Program} {w : World} (B : Bs prog w) (n : Nat) (f : Str) (g : List PV → Option PV) : Prop :=
  ∃ a o fd, B.mg f = some (.ref a) ∧ B.h₀.get? a = some o ∧ o.data = .func fd ∧
    ∀ (A : Around) (s : Shared) (Av : Addr → Prop) (vs : List Value) (ds : List PV) (d : PV) (R' : Result → Shared → Prop), AOk A n →
      (∀ b o, B.h₀.get? b = some o → s.heap.get? b = some o) → (∀ b, Av b → B.h₀.get? b = .none) → (∀ b, Av b → ∃ o, s.heap.get? b = some o) → All2 (Rep prog w Av s.heap) vs ds → g ds = some d →
      (∀ v h' tk, (∀ b o, s.heap.get? b = some o → h'.get? b = some o) → Rep prog w Av h' v d → R' (.ok (.ret v)) { s with heap := h', toks := tk }) →
      codeAny (model prog w) A (.call (.ref a) ⟨vs, []⟩) R' s

noncomputable def CellIs (prog : Program) (w : World) (Av : Addr → Prop) (own : List Addr) (h : Heap) (a : Addr) (ws : List W) : Prop :=
  ∃ vs n, h.get? a = some { cls := .type "list", dict := .none, data := .seq vs n, slots := #[] } ∧ vs.size ≤ lim ∧ All2 (RepW prog w Av own h) vs.toList ws

/-- the contract of a def that turns what it is handed -/
noncomputable def FcOk {prog : Program} {w : World} (B : Bs prog w) (n : Nat) (f : Str) (g : List W → Sto → Option (PV × Sto)) : Prop :=
  ∃ a o fd, B.mg f = some (.ref a) ∧ B.h₀.get? a = some o ∧ o.data = .func fd ∧
    ∀ (A : Around) (s : Shared) (Av : Addr → Prop) (own : List Addr) (vs : List Value) (ws : List W) (σ σ' : Sto) (d : PV) (R' : Result → Shared → Prop), AOk A n →
      (∀ b o, B.h₀.get? b = some o → s.heap.get? b = some o) → (∀ b, Av b → B.h₀.get? b = .none) → (∀ b, Av b → ∃ o, s.heap.get? b = some o) → own.Nodup → (∀ b ∈ own, Av b) → All2 (CellIs prog w Av own s.heap) own σ →
      All2 (RepW prog w Av own s.heap) vs ws → g ws σ = some (d, σ') →
      (∀ v h' tk, (∀ b o, b ∉ own → s.heap.get? b = some o → h'.get? b = some o) → All2 (CellIs prog w Av own h') own σ' → Rep prog w Av h' v d → R' (.ok (.ret v)) { s with heap := h', toks := tk }) →
      codeAny (model prog w) A (.call (.ref a) ⟨vs, []⟩) R' s

structure KOk {prog : Program} {w : World} (B : Bs prog w) (n : Nat) (K : Cx) : Prop where
  gl : ∀ x d, K.gl x = some d → K.fn x = .none → ∃ v, B.mg x = some v ∧ Rep prog w (fun _ => False) B.h₀ v d
  fn : ∀ x g, K.fn x = some g → FnOk B n x g
  fc : ∀ x g, K.fc x = some g → FcOk B n x g
theorem KOk.sc {prog : Program} {w : World} {B : Bs prog w} {n : Nat} {K : Cx} (x : KOk B n K) (sc : List (Str × NameKind)) : KOk B n { K with sc } := ⟨x.gl, x.fn, x.fc⟩

structure EnvOk (e : Env) (K : Cx) : Prop where
  kind : e.scope.kind = .function
  glob : e.globals = mainGlobals
  blt : e.builtins = builtinsNs
  sc : K.sc = e.scope.names
  nd : ∀ x y a, e.cells.lookup x = some a → e.cells.lookup y = some a → x = y
  bx : ∀ x, e.kindOf x = some .cell → ∃ a, e.cells.lookup x = some a

/-- a frame: the model's state bears the names ρ and the turning lists σ -/
structure Fra {prog : Program} {w : World} (B : Bs prog w) (e : Env) (hE : Addr → Option Obj) (Mu : Addr → Prop) (Av : Addr → Prop) (own : List Addr) (ρ : Rho) (σ : Sto) (s : Shared) : Prop where
  base : ∀ b o, B.h₀.get? b = some o → s.heap.get? b = some o
  prot : ∀ b o, hE b = some o → ¬ Mu b → s.heap.get? b = some o
  av0 : ∀ b, Av b → B.h₀.get? b = .none
  avs : ∀ b, Av b → ∃ o, s.heap.get? b = some o
  mu : ∀ b, Mu b → Av b
  avL : Av e.locals
  nwL : hE e.locals = .none
  vis : ∀ x w, get ρ x = some w → e.kindOf x = some .local ∨ e.kindOf x = some .cell ∨ e.kindOf x = some .free
  loc : ∃ m, s.heap.Ns e.locals m ∧ ∀ x y, get ρ x = some y → e.kindOf x = some .local → ∃ v, m x = some v ∧ RepW prog w Av own s.heap v y
  box : ∀ x y, get ρ x = some y → e.kindOf x = some .cell ∨ e.kindOf x = some .free → ∃ a v, e.cells.lookup x = some a ∧ s.heap.IsCell a (some v) ∧ RepW prog w Av own s.heap v y
  bxs : e.func.isSome = true → ∀ x, e.kindOf x = some .cell → ∃ a v, e.cells.lookup x = some a ∧ s.heap.IsCell a v ∧ Av a ∧ hE a = .none
  bxf : ∀ x a, e.cells.lookup x = some a → Av a
  nd : own.Nodup
  avo : ∀ a ∈ own, Av a ∧ (hE a = .none ∨ Mu a)
  cel : All2 (CellIs prog w Av own s.heap) own σ

section
variable {prog : Program} {w : World} {B : Bs prog w} {e : Env} {hE : Addr → Option Obj} {Mu Av Av' : Addr → Prop} {own own' : List Addr} {ρ : Rho} {σ : Sto} {s s' : Shared}

theorem CellIs.grow {a : Addr} {ws : List W} {h h' : Heap} {ext : List Addr} (G : Grow Av h Av' h') (e : ∀ o, h.get? a = some o → h'.get? a = some o) (x : CellIs prog w Av own h a ws) : CellIs prog w Av' (own ++ ext) h' a ws :=
  let ⟨vs, n, ho, z, r⟩ := x
  ⟨vs, n, e _ ho, z, r.imp fun _ _ q => q.grow G⟩

/-- nothing that stood is touched -/
theorem Fra.ext (F : Fra B e hE Mu Av own ρ σ s) (k : ∀ b o, s.heap.get? b = some o → s'.heap.get? b = some o) : Fra B e hE Mu Av own ρ σ s' := by
  have G : Grow Av s.heap Av s'.heap := Grow.ext k
  have W0 : ∀ {v y}, RepW prog w Av own s.heap v y → RepW prog w Av own s'.heap v y := fun q => q.grow0 G
  obtain ⟨m, hn, hm⟩ := F.loc
  exact { base := fun b o q => k b o (F.base b o q), prot := fun b o q n => k b o (F.prot b o q n), av0 := F.av0,
          avs := fun b q => let ⟨o, ho⟩ := F.avs b q; ⟨o, k b o ho⟩, mu := F.mu,
          avL := F.avL, nwL := F.nwL, vis := F.vis,
          loc := ⟨m, hn.keeps k, fun x y q l => let ⟨v, h1, h2⟩ := hm x y q l; ⟨v, h1, W0 h2⟩⟩,
          box := fun x y q l => let ⟨a, v, h1, h2, h3⟩ := F.box x y q l; ⟨a, v, h1, h2.keeps k, W0 h3⟩,
          bxs := fun fn x l => let ⟨a, v, h1, h2, h3⟩ := F.bxs fn x l; ⟨a, v, h1, h2.keeps k, h3⟩,
          bxf := F.bxf, nd := F.nd, avo := F.avo,
          cel := F.cel.imp fun a ws q => by simpa using q.grow (ext := []) G (k a) }

structure Stp (Av : Addr → Prop) (own : List Addr) (s : Shared) (Av' : Addr → Prop) (own' : List Addr) (s' : Shared) : Prop where
  gens : s'.gens = s.gens
  drawn : s'.drawn = s.drawn
  os : s'.os = s.os
  grow : Grow Av s.heap Av' s'.heap
  pre : ∃ ext, own' = own ++ ext
theorem Stp.refl (Av : Addr → Prop) (own : List Addr) (s : Shared) : Stp Av own s Av own s := ⟨rfl, rfl, rfl, .refl _ _, [], by simp⟩
theorem Stp.trans {Av'' : Addr → Prop} {own'' : List Addr} {s'' : Shared} (x : Stp Av own s Av' own' s') (y : Stp Av' own' s' Av'' own'' s'') : Stp Av own s Av'' own'' s'' :=
  ⟨y.gens.trans x.gens, y.drawn.trans x.drawn, y.os.trans x.os, x.grow.trans y.grow, by
    obtain ⟨e1, h1⟩ := x.pre
    obtain ⟨e2, h2⟩ := y.pre
    exact ⟨e1 ++ e2, by rw [h2, h1, List.append_assoc]⟩⟩
theorem Stp.ext {h' : Heap} {tk : Nat} (k : ∀ b o, s.heap.get? b = some o → h'.get? b = some o) : Stp Av own s Av own { s with heap := h', toks := tk } :=
  ⟨rfl, rfl, rfl, Grow.ext k, [], by simp⟩
theorem RepW.stp {v : Value} {y : W} (S : Stp Av own s Av' own' s') (r : RepW prog w Av own s.heap v y) : RepW prog w Av' own' s'.heap v y := by
  obtain ⟨ext, rfl⟩ := S.pre
  exact r.grow S.grow
theorem Rep.stp {v : Value} {y : PV} (S : Stp Av own s Av' own' s') (r : Rep prog w Av s.heap v y) : Rep prog w Av' s'.heap v y := r.grow S.grow

theorem Fra.fresh (F : Fra B e hE Mu Av own ρ σ s) : hE s.heap.objs.size = .none := by
  cases q : hE s.heap.objs.size with
  | none => rfl
  | some o =>
    by_cases m : Mu s.heap.objs.size
    · obtain ⟨o', h'⟩ := F.avs _ (F.mu _ m)
      exact absurd (Heap.lt_size h') (Nat.lt_irrefl _)
    · exact absurd (Heap.lt_size (F.prot _ _ q m)) (Nat.lt_irrefl _)
theorem Fra.fresh0 (F : Fra B e hE Mu Av own ρ σ s) : B.h₀.get? s.heap.objs.size = .none := by
  cases q : B.h₀.get? s.heap.objs.size with
  | none => rfl
  | some o => exact absurd (Heap.lt_size (F.base _ _ q)) (Nat.lt_irrefl _)
theorem Fra.freshA (F : Fra B e hE Mu Av own ρ σ s) : ¬ Av s.heap.objs.size := fun q => by
  obtain ⟨o', h'⟩ := F.avs _ q
  exact absurd (Heap.lt_size h') (Nat.lt_irrefl _)

theorem ns_ne_cell {h : Heap} {L a : Addr} {m : Str → Option Value} {v : Option Value} (n : h.Ns L m) (c : h.IsCell a v) : a ≠ L := by
  rintro rfl
  obtain ⟨o, es, ep, ho, hd, _⟩ := n
  obtain ⟨o', ho', hd'⟩ := c
  rw [ho] at ho'
  cases ho'
  rw [hd] at hd'
  cases hd'
theorem ns_ne_list {h : Heap} {L a : Addr} {m : Str → Option Value} {ws : List W} (n : h.Ns L m) (c : CellIs prog w Av own h a ws) : a ≠ L := by
  rintro rfl
  obtain ⟨o, es, ep, ho, hd, _⟩ := n
  obtain ⟨vs, n, ho', _⟩ := c
  rw [ho] at ho'
  cases ho'
  cases hd
theorem cell_ne_list {h : Heap} {L a : Addr} {v : Option Value} {ws : List W} (n : h.IsCell L v) (c : CellIs prog w Av own h a ws) : a ≠ L := by
  rintro rfl
  obtain ⟨o, ho, hd⟩ := n
  obtain ⟨vs, n, ho', _⟩ := c
  rw [ho] at ho'
  cases ho'
  cases hd

theorem grow_but {a : Addr} {h h' : Heap} (av : Av a) (k : ∀ b o, b ≠ a → h.get? b = some o → h'.get? b = some o) : Grow Av h Av h' :=
  ⟨fun _ x => x, fun _ x y => absurd x y, fun b o q n => k b o (fun z => n (z ▸ av)) q⟩

theorem mem_of_lookup {α : Type} [BEq α] [LawfulBEq α] {β : Type} {l : List (α × β)} {x : α} {b : β} (h : l.lookup x = some b) : (x, b) ∈ l := by
  induction l with
  | nil => cases h
  | cons p r ih =>
    obtain ⟨y, c⟩ := p
    rw [List.lookup_cons] at h
    cases q : x == y with
    | true => rw [q] at h; cases h; rw [eq_of_beq q]; exact .head _
    | false => rw [q] at h; exact .tail _ (ih h)

/-- a local name is stored -/
theorem Fra.setLocal {x : Str} {y : W} {v : Value} {m' : Str → Option Value} {h' : Heap} {tk : Nat} (F : Fra B e hE Mu Av own ρ σ s) (l : e.kindOf x = some .local) (r : RepW prog w Av own s.heap v y)
    (hm : ∀ m, s.heap.Ns e.locals m → (∀ x y, get ρ x = some y → e.kindOf x = some .local → ∃ v, m x = some v ∧ RepW prog w Av own s.heap v y) → h'.Ns e.locals (fun z => if z = x then some v else m z))
    (hs : Heap.SameBut e.locals s.heap h') : Fra B e hE Mu Av own (upd ρ x y) σ { s with heap := h', toks := tk } := by
  have k : ∀ b o, b ≠ e.locals → s.heap.get? b = some o → h'.get? b = some o := hs.extBut
  have G : Grow Av s.heap Av h' := grow_but F.avL k
  have W0 : ∀ {v y}, RepW prog w Av own s.heap v y → RepW prog w Av own h' v y := fun q => q.grow0 G
  obtain ⟨m, hn, hv⟩ := F.loc
  have hn' := hm m hn hv
  have nL0 : ∀ b o, B.h₀.get? b = some o → b ≠ e.locals := fun b o q z => by have := F.av0 _ F.avL; rw [z, this] at q; cases q
  have nLE : ∀ b o, hE b = some o → b ≠ e.locals := fun b o q z => by rw [z, F.nwL] at q; cases q
  exact { base := fun b o q => k b o (nL0 b o q) (F.base b o q), prot := fun b o q n => k b o (nLE b o q) (F.prot b o q n), av0 := F.av0,
          avs := fun b q => by
            by_cases z : b = e.locals
            · subst z; obtain ⟨o, _, _, ho, _⟩ := hn'; exact ⟨o, ho⟩
            · obtain ⟨o, ho⟩ := F.avs b q; exact ⟨o, k b o z ho⟩
          mu := F.mu, avL := F.avL, nwL := F.nwL,
          vis := fun z y' q => by
            rw [get_upd] at q
            by_cases hz : z = x
            · subst hz; exact .inl l
            · rw [if_neg hz] at q; exact F.vis z y' q
          loc := ⟨_, hn', fun z y' q lz => by
            rw [get_upd] at q
            by_cases hz : z = x
            · subst hz; rw [if_pos rfl] at q; cases q; exact ⟨v, by simp, W0 r⟩
            · rw [if_neg hz] at q
              obtain ⟨v', h1, h2⟩ := hv z y' q lz
              exact ⟨v', by simp [hz, h1], W0 h2⟩⟩
          box := fun z y' q lz => by
            rw [get_upd] at q
            by_cases hz : z = x
            · subst hz; rw [l] at lz; rcases lz with lz | lz <;> cases lz
            · rw [if_neg hz] at q
              obtain ⟨a, v', h1, h2, h3⟩ := F.box z y' q lz
              exact ⟨a, v', h1, h2.sameBut hs (ns_ne_cell hn h2), W0 h3⟩
          bxs := fun fn z lz => let ⟨a, v', h1, h2, h3⟩ := F.bxs fn z lz; ⟨a, v', h1, h2.sameBut hs (ns_ne_cell hn h2), h3⟩
          bxf := F.bxf, nd := F.nd, avo := F.avo
          cel := F.cel.imp fun a ws q => by
            simpa using q.grow (ext := []) G fun o ho => k a o (ns_ne_list hn q) ho }

/-- a boxed name is stored -/
theorem Fra.setBox {K : Cx} {x : Str} {y : W} {v : Value} {a : Addr} {v0 : Option Value} {h' : Heap} {tk : Nat} (F : Fra B e hE Mu Av own ρ σ s) (fn : e.func.isSome = true) (X : EnvOk e K) (l : e.kindOf x = some .cell) (ha : e.cells.lookup x = some a)
    (hc0 : s.heap.IsCell a v0) (r : RepW prog w Av own s.heap v y)
    (hc : h'.IsCell a (some v)) (hs : Heap.SameBut a s.heap h') : Fra B e hE Mu Av own (upd ρ x y) σ { s with heap := h', toks := tk } := by
  have k : ∀ b o, b ≠ a → s.heap.get? b = some o → h'.get? b = some o := hs.extBut
  have hb : Av a ∧ hE a = .none := by
    obtain ⟨a', _, h1, _, h3⟩ := F.bxs fn x l
    rw [ha] at h1; cases h1; exact h3
  have G : Grow Av s.heap Av h' := grow_but hb.1 k
  have W0 : ∀ {v y}, RepW prog w Av own s.heap v y → RepW prog w Av own h' v y := fun q => q.grow0 G
  obtain ⟨m, hn, hv⟩ := F.loc
  have n0 : ∀ b o, B.h₀.get? b = some o → b ≠ a := fun b o q z => by have := F.av0 _ hb.1; rw [z, this] at q; cases q
  have nE : ∀ b o, hE b = some o → b ≠ a := fun b o q z => by rw [z, hb.2] at q; cases q
  exact { base := fun b o q => k b o (n0 b o q) (F.base b o q), prot := fun b o q n => k b o (nE b o q) (F.prot b o q n), av0 := F.av0,
          avs := fun b q => by
            by_cases z : b = a
            · subst z; obtain ⟨o, ho, _⟩ := hc; exact ⟨o, ho⟩
            · obtain ⟨o, ho⟩ := F.avs b q; exact ⟨o, k b o z ho⟩
          mu := F.mu, avL := F.avL, nwL := F.nwL,
          vis := fun z y' q => by
            rw [get_upd] at q
            by_cases hz : z = x
            · subst hz; exact .inr (.inl l)
            · rw [if_neg hz] at q; exact F.vis z y' q
          loc := ⟨m, hn.sameBut hs (ns_ne_cell hn hc0).symm, fun z y' q lz => by
            rw [get_upd] at q
            by_cases hz : z = x
            · subst hz; rw [l] at lz; cases lz
            · rw [if_neg hz] at q
              obtain ⟨v', h1, h2⟩ := hv z y' q lz
              exact ⟨v', h1, W0 h2⟩⟩
          box := fun z y' q lz => by
            rw [get_upd] at q
            by_cases hz : z = x
            · subst hz; rw [if_pos rfl] at q; cases q
              exact ⟨a, v, ha, hc, W0 r⟩
            · rw [if_neg hz] at q
              obtain ⟨b, v', h1, h2, h3⟩ := F.box z y' q lz
              have : b ≠ a := fun e => hz (X.nd z x a (e ▸ h1) ha)
              exact ⟨b, v', h1, h2.sameBut hs this, W0 h3⟩
          bxs := fun fn z lz => by
            obtain ⟨b, v', h1, h2, h3⟩ := F.bxs fn z lz
            by_cases hz : b = a
            · subst hz; exact ⟨b, some v, h1, hc, h3⟩
            · exact ⟨b, v', h1, h2.sameBut hs hz, h3⟩
          bxf := F.bxf, nd := F.nd, avo := F.avo
          cel := F.cel.imp fun b ws q => by
            simpa using q.grow (ext := []) G fun o ho => k b o (cell_ne_list hc0 q) ho }

/-- an own list is made -/
theorem Fra.alloc {vs : Array Value} {ws : List W} {n : Nat} (F : Fra B e hE Mu Av own ρ σ s) (z : vs.size ≤ lim) (r : All2 (RepW prog w Av own s.heap) vs.toList ws) :
    Fra B e hE Mu (fun b => Av b ∨ b = s.heap.objs.size) (own ++ [s.heap.objs.size]) ρ (σ ++ [ws]) { s with heap := s.heap.push { cls := .type "list", dict := .none, data := .seq vs n, slots := #[] } } ∧
    Stp Av own s (fun b => Av b ∨ b = s.heap.objs.size) (own ++ [s.heap.objs.size]) { s with heap := s.heap.push { cls := .type "list", dict := .none, data := .seq vs n, slots := #[] } } := by
  have k : ∀ b o, s.heap.get? b = some o → (s.heap.push { cls := .type "list", dict := .none, data := .seq vs n, slots := #[] }).get? b = some o := fun b o q => Heap.get?_push_of_some _ q
  have new : (s.heap.push { cls := .type "list", dict := .none, data := .seq vs n, slots := #[] }).get? s.heap.objs.size = some { cls := .type "list", dict := .none, data := .seq vs n, slots := #[] } := Heap.get?_push_size _ rfl
  generalize hh : s.heap.push { cls := .type "list", dict := .none, data := .seq vs n, slots := #[] } = h' at k new
  have G : Grow Av s.heap (fun b => Av b ∨ b = s.heap.objs.size) h' := ⟨fun _ x => .inl x, fun b x y => by
    rcases x with x | x
    · exact absurd x y
    · subst x
      cases q : s.heap.get? s.heap.objs.size with
      | none => rfl
      | some o => exact absurd (Heap.lt_size q) (Nat.lt_irrefl _), fun b o q _ => k b o q⟩
  have W0 : ∀ {v y}, RepW prog w Av own s.heap v y → RepW prog w (fun b => Av b ∨ b = s.heap.objs.size) (own ++ [s.heap.objs.size]) h' v y := fun q => q.grow G
  obtain ⟨m, hn, hv⟩ := F.loc
  refine ⟨?_, ⟨rfl, rfl, rfl, G, _, rfl⟩⟩
  exact { base := fun b o q => k b o (F.base b o q), prot := fun b o q n => k b o (F.prot b o q n),
          av0 := fun b q => by
            rcases q with q | q
            · exact F.av0 b q
            · subst q; exact F.fresh0
          avs := fun b q => by
            rcases q with q | q
            · obtain ⟨o, ho⟩ := F.avs b q; exact ⟨o, k b o ho⟩
            · subst q; exact ⟨_, new⟩
          mu := fun b q => .inl (F.mu b q), avL := .inl F.avL, nwL := F.nwL, vis := F.vis,
          loc := ⟨m, hn.keeps k, fun x y q l => let ⟨v, h1, h2⟩ := hv x y q l; ⟨v, h1, W0 h2⟩⟩,
          box := fun x y q l => let ⟨a, v, h1, h2, h3⟩ := F.box x y q l; ⟨a, v, h1, h2.keeps k, W0 h3⟩,
          bxs := fun fn x l => let ⟨a, v, h1, h2, h3, h4⟩ := F.bxs fn x l; ⟨a, v, h1, h2.keeps k, .inl h3, h4⟩,
          bxf := fun x a q => .inl (F.bxf x a q),
          nd := by
            rw [List.nodup_append]
            refine ⟨F.nd, by simp, fun a ha b hb => ?_⟩
            rw [List.mem_singleton] at hb
            subst hb
            intro e
            exact F.freshA (e ▸ (F.avo a ha).1)
          avo := fun a ha => by
            rcases List.mem_append.mp ha with ha | ha
            · exact ⟨.inl (F.avo a ha).1, (F.avo a ha).2⟩
            · rw [List.mem_singleton] at ha
              subst ha
              exact ⟨.inr rfl, .inl F.fresh⟩
          cel := All2.append (F.cel.imp fun a ws q => q.grow G (k a)) (.cons ⟨vs, n, new, z, r.imp fun _ _ q => W0 q⟩ .nil) }

theorem All2.upd {α β : Type} {Q Q' : α → β → Prop} {as : List α} {bs : List β} (x : All2 Q as bs) : as.Nodup → ∀ {i : Nat} {a : α} {b : β}, as[i]? = some a → Q' a b → (∀ a' b', a' ≠ a → Q a' b' → Q' a' b') → All2 Q' as (bs.set i b) := by
  induction x with
  | nil => intro _ i a b e; cases i <;> exact none_some e
  | @cons x y as bs q r ih =>
    intro nd i a b e h f
    rw [List.nodup_cons] at nd
    cases i with
    | zero =>
      cases e
      refine .cons h ?_
      have aux : ∀ {as : List α} {bs : List β}, All2 Q as bs → x ∉ as → All2 Q' as bs := fun r => by
        induction r with
        | nil => intro _; exact .nil
        | cons q _ ih => intro n; exact .cons (f _ _ (fun z => n (z ▸ .head _)) q) (ih fun z => n (.tail _ z))
      exact aux r nd.1
    | succ i => exact .cons (f _ _ (fun z => nd.1 (z ▸ List.mem_of_getElem? (show as[i]? = some a from e))) q) (ih nd.2 e h f)

/-- an own list is turned -/
theorem Fra.setCell {i : Nat} {a : Addr} {vs : Array Value} {ws : List W} {n : Nat} {h' : Heap} {tk : Nat} (F : Fra B e hE Mu Av own ρ σ s) (ha : own[i]? = some a)
    (ho : h'.get? a = some { cls := .type "list", dict := .none, data := .seq vs n, slots := #[] }) (z : vs.size ≤ lim) (r : All2 (RepW prog w Av own s.heap) vs.toList ws) (hs : Heap.SameBut a s.heap h') :
    Fra B e hE Mu Av own ρ (σ.set i ws) { s with heap := h', toks := tk } ∧ Stp Av own s Av own { s with heap := h', toks := tk } := by
  have k : ∀ b o, b ≠ a → s.heap.get? b = some o → h'.get? b = some o := hs.extBut
  have hm := List.mem_of_getElem? ha
  have hb := F.avo a hm
  obtain ⟨ws0, _, hc0⟩ := F.cel.get' ha
  have G : Grow Av s.heap Av h' := grow_but hb.1 k
  have W0 : ∀ {v y}, RepW prog w Av own s.heap v y → RepW prog w Av own h' v y := fun q => q.grow0 G
  obtain ⟨m, hn, hv⟩ := F.loc
  have n0 : ∀ b o, B.h₀.get? b = some o → b ≠ a := fun b o q z => by have := F.av0 _ hb.1; rw [z, this] at q; cases q
  have nE : ∀ b o, hE b = some o → ¬ Mu b → b ≠ a := fun b o q n z => by
    rcases hb.2 with h | h
    · rw [z, h] at q; cases q
    · exact n (z ▸ h)
  refine ⟨?_, ⟨rfl, rfl, rfl, G, [], by simp⟩⟩
  exact { base := fun b o q => k b o (n0 b o q) (F.base b o q), prot := fun b o q n => k b o (nE b o q n) (F.prot b o q n), av0 := F.av0,
          avs := fun b q => by
            by_cases z : b = a
            · subst z; exact ⟨_, ho⟩
            · obtain ⟨o, ho⟩ := F.avs b q; exact ⟨o, k b o z ho⟩
          mu := F.mu, avL := F.avL, nwL := F.nwL, vis := F.vis,
          loc := ⟨m, hn.sameBut hs (ns_ne_list hn hc0).symm, fun x y q l => let ⟨v, h1, h2⟩ := hv x y q l; ⟨v, h1, W0 h2⟩⟩,
          box := fun x y q l => let ⟨b, v, h1, h2, h3⟩ := F.box x y q l; ⟨b, v, h1, h2.sameBut hs (cell_ne_list h2 hc0).symm, W0 h3⟩,
          bxs := fun fn x l => let ⟨b, v, h1, h2, h3⟩ := F.bxs fn x l; ⟨b, v, h1, h2.sameBut hs (cell_ne_list h2 hc0).symm, h3⟩,
          bxf := F.bxf, nd := F.nd, avo := F.avo,
          cel := F.cel.upd F.nd ha ⟨vs, n, ho, z, r.imp fun _ _ q => W0 q⟩ fun a' ws' ne q => by
            simpa using q.grow (ext := []) G fun o ho => k a' o ne ho }
end
end Og
end
section
open PySem PySem.Calls PyProof.Rows
namespace Og
theorem sizeLine_lim : sizeLine = lim := rfl
theorem fits_iff {n : Nat} (h : fits n = true) : n ≤ sizeLine := Nat.le_of_ble_eq_true h

section
variable {prog : Program} {w : World}

/-- what a step hands on: a value that bears d, on a heap that has lost nothing -/
noncomputable def Gv (prog : Program) (w : World) (Av : Addr → Prop) (s : Shared) (d : PV) (Q : Value → Shared → Prop) : Prop :=
  ∀ v h' tk, (∀ b o, s.heap.get? b = some o → h'.get? b = some o) → Rep prog w Av h' v d → Q v { s with heap := h', toks := tk }
theorem Gv.int {Av : Addr → Prop} {s : Shared} {i : Int} {Q : Value → Shared → Prop} (g : Gv prog w Av s (.int i) Q) {t tk : Nat} : Q (.int i t) { s with toks := tk } :=
  g (.int i t) s.heap tk (fun _ _ e => e) (.int i t)
theorem Gv.bool {Av : Addr → Prop} {s : Shared} {i : Bool} {Q : Value → Shared → Prop} (g : Gv prog w Av s (.bool i) Q) : Q (.bool i) s :=
  g (.bool i) s.heap s.toks (fun _ _ e => e) (.bool i)
theorem Gv.same {Av : Addr → Prop} {s : Shared} {v : Value} {d : PV} {Q : Value → Shared → Prop} (g : Gv prog w Av s d Q) (r : Rep prog w Av s.heap v d) : Q v s :=
  g v s.heap s.toks (fun _ _ e => e) r
theorem Gv.same' {Av : Addr → Prop} {s : Shared} {v : Value} {d : PV} {Q : Value → Shared → Prop} (g : Gv prog w Av s d Q) (r : Rep prog w Av s.heap v d) {tk : Nat} : Q v { s with toks := tk } :=
  g v s.heap tk (fun _ _ e => e) r
theorem Gv.push {Av : Addr → Prop} {s : Shared} {d : PV} {o : Obj} {Q : Value → Shared → Prop} (g : Gv prog w Av s d Q) (r : Rep prog w Av (s.heap.push o) (.ref s.heap.objs.size) d) {tk : Nat} :
    Q (.ref s.heap.objs.size) { s with heap := s.heap.push o, toks := tk } :=
  g _ _ tk (fun _ _ e => Heap.get?_push_of_some _ e) r

theorem small_iff {x : Int} (h : small x = true) : x.natAbs < 2 ^ 64 := W.Z.blt_iff.mp h
theorem mulOk_l {a b : Int} (h : small a = true) : IntMulOk a b := IntMulOk.of_left (by
  have := small_iff h
  unfold Builtin.Int.intBits
  split
  · omega
  · rename_i h0
    have : a.natAbs ≠ 0 := by simpa using h0
    have := (Nat.log2_lt this).mpr (small_iff h)
    omega)
theorem mulOk_r {a b : Int} (h : small b = true) : IntMulOk a b := IntMulOk.of_right (by
  have := small_iff h
  unfold Builtin.Int.intBits
  split
  · omega
  · rename_i h0
    have : b.natAbs ≠ 0 := by simpa using h0
    have := (Nat.log2_lt this).mpr (small_iff h)
    omega)
theorem divOk_iff {b : Int} (h : divOk b = true) : b ≠ 0 ∧ b.natAbs.log2 < 9000 := by
  unfold divOk at h
  cases q : Nat.beq b.natAbs 0 with
  | true => rw [q] at h; cases h
  | false =>
    rw [q] at h
    have h1 := Nat.ne_of_beq_eq_false q
    have h2 := (Nat.log2_lt h1).mpr (small_iff h)
    exact ⟨by omega, by omega⟩
theorem intOp_ok {R : Type} {l r : PySem.Expr} {op : Operator} {a b : Int} {k : Int → Option R} {x : R} (h : intOp l r op a b k = some x) :
    ∃ c, k c = some x ∧ ∀ {prog : Program} {w : World} {A : Around} {E : Value → Shared → Prop} {s : Shared} {Q : Value → Shared → Prop} {t u : Tok}, Q (.int c s.toks) { s with toks := s.toks + 1 } →
      wpAny (model prog w) A (binaryOp op (.int a t) (.int b u)) Q E s := by
  unfold intOp at h
  cases op <;> dsimp only at h <;> try (cases h; done)
  case Add => exact ⟨_, h, fun q => PyProof.Rows.add_int q⟩
  case Sub => exact ⟨_, h, fun q => PyProof.Rows.sub_int q⟩
  case Mult =>
    obtain ⟨g, h⟩ := cond_some h
    refine ⟨_, h, fun q => PyProof.Rows.mul_int q ?_⟩
    cases q1 : isLit l with
    | true => rw [q1] at g; exact mulOk_l g
    | false =>
      rw [q1] at g
      cases q2 : isLit r with
      | true => rw [q2] at g; exact mulOk_r g
      | false => rw [q2] at g; exact mulOk_l g
  case FloorDiv =>
    obtain ⟨g, h⟩ := cond_some h
    have g := divOk_iff g
    exact ⟨_, h, fun q => PyProof.Rows.floordiv_int g.1 q (.inl (PyProof.noPylong_of_log2 g.2))⟩
  case Mod =>
    obtain ⟨g, h⟩ := cond_some h
    have g := divOk_iff g
    exact ⟨_, h, fun q => PyProof.Rows.mod_int' g.1 q⟩
  case BitAnd => exact ⟨_, h, fun q => PyProof.Rows.and_int q⟩
  case BitOr => exact ⟨_, h, fun q => PyProof.Rows.or_int q⟩
  case RShift =>
    obtain ⟨g, h⟩ := cond_some h
    exact ⟨_, h, fun q => PyProof.Rows.rshift_int ((W.Z.leB_iff _ _).mp g) q⟩
  case LShift =>
    obtain ⟨g, h⟩ := cond_some h
    obtain ⟨g2, h⟩ := cond_some h
    have g1 : W.Z.leB 0 b = true ∧ W.Z.leB b 1000000 = true := by
      cases q1 : W.Z.leB 0 b with
      | true => rw [q1] at g; exact ⟨rfl, g⟩
      | false => rw [q1] at g; cases g
    exact ⟨_, h, fun q => PyProof.Rows.lshift_int_small ((W.Z.leB_iff _ _).mp g1.1) ((W.Z.leB_iff _ _).mp g1.2) (small_iff g2) q⟩

-- sequences
theorem Rep.tup_inv {Av : Addr → Prop} {h : Heap} {v : Value} {ds : List PV} (r : Rep prog w Av h v (.tup ds)) :
    ∃ a vs, v = .ref a ∧ ¬ Av a ∧ IsTup h a vs ∧ vs.size ≤ lim ∧ All2 (Rep prog w Av h) vs.toList ds := by
  cases r with
  | tup n e c d z x => exact ⟨_, _, rfl, n, ⟨_, e, c, _, d⟩, z, x.all⟩
theorem Rep.list_inv {Av : Addr → Prop} {h : Heap} {v : Value} {ds : List PV} (r : Rep prog w Av h v (.list ds)) :
    ∃ a vs, v = .ref a ∧ ¬ Av a ∧ h.IsList a vs ∧ vs.size ≤ lim ∧ All2 (Rep prog w Av h) vs.toList ds := by
  cases r with
  | list n e c d z x => exact ⟨_, _, rfl, n, ⟨_, e, c, _, d⟩, z, x.all⟩
theorem Rep.bytes_inv {Av : Addr → Prop} {h : Heap} {v : Value} {l : List Nat} (r : Rep prog w Av h v (.bytes l)) : ∃ b t, v = .bytes b t ∧ b.size ≤ lim ∧ l = b.toList.map UInt8.toNat := by
  cases r with
  | bytes b t z => exact ⟨_, _, rfl, z, rfl⟩
theorem Rep.int_inv {Av : Addr → Prop} {h : Heap} {v : Value} {i : Int} (r : Rep prog w Av h v (.int i)) : ∃ t, v = .int i t := by
  cases r with
  | int i t => exact ⟨_, rfl⟩
theorem Rep.bool_inv {Av : Addr → Prop} {h : Heap} {v : Value} {i : Bool} (r : Rep prog w Av h v (.bool i)) : v = .bool i := by
  cases r with
  | bool i => rfl
theorem Rep.none_inv {Av : Addr → Prop} {h : Heap} {v : Value} (r : Rep prog w Av h v .none) : v = .none := by
  cases r with
  | none => rfl
theorem Rep.newTup {Av : Addr → Prop} {h : Heap} {vs : Array Value} {ds : List PV} {n : Nat} (f : ¬ Av h.objs.size) (z : vs.size ≤ lim) (x : All2 (Rep prog w Av h) vs.toList ds) :
    Rep prog w Av (h.push { cls := .type "tuple", data := .seq vs n }) (.ref h.objs.size) (.tup ds) :=
  .tup f (Heap.get?_push_size _ rfl) rfl rfl z (RepL.of (x.imp fun _ _ q => q.grow (Grow.ext fun _ _ e => Heap.get?_push_of_some _ e)))
theorem Rep.newList {Av : Addr → Prop} {h : Heap} {vs : Array Value} {ds : List PV} {n : Nat} (f : ¬ Av h.objs.size) (z : vs.size ≤ lim) (x : All2 (Rep prog w Av h) vs.toList ds) :
    Rep prog w Av (h.push { cls := .type "list", data := .seq vs n }) (.ref h.objs.size) (.list ds) :=
  .list f (Heap.get?_push_size _ rfl) rfl rfl z (RepL.of (x.imp fun _ _ q => q.grow (Grow.ext fun _ _ e => Heap.get?_push_of_some _ e)))

variable {A : Around} {E : Value → Shared → Prop} {s : Shared} {Av : Addr → Prop} {Q : Value → Shared → Prop}

theorem add_tup {v1 v2 : Value} {x y : List PV} (f : ¬ Av s.heap.objs.size) (r1 : Rep prog w Av s.heap v1 (.tup x)) (r2 : Rep prog w Av s.heap v2 (.tup y)) (z : fits (x.length + y.length) = true) (g : Gv prog w Av s (.tup (x ++ y)) Q) :
    wpAny (model prog w) A (binaryOp .Add v1 v2) Q E s := by
  obtain ⟨t, vs, rfl, n1, ⟨⟨cls, dd, data, sl⟩, ho, hc, n, hd⟩, z1, x1⟩ := id r1.tup_inv
  obtain ⟨b, ws, rfl, n2, ⟨⟨cls2, dd2, data2, sl2⟩, ho2, hc2, n2, hd2⟩, z2, x2⟩ := id r2.tup_inv
  simp only at hc hd hc2 hd2
  subst hc hd hc2 hd2
  have hz : vs.size + ws.size ≤ sizeLine := by
    have e1 := x1.length; have e2 := x2.length
    rw [Array.length_toList] at e1 e2
    rw [e1, e2]; exact fits_iff z
  by_cases hv : vs.isEmpty = true
  · refine concat_meets ⟨_, ho, rfl⟩ ⟨_, ho2, rfl⟩ noFill_tuple_add seq_tuple_add PySem.F.slot_tuple_add PySem.F.entry_tuple_add (PySem.F.args_tuple_add_2 _ _)
      (tuple_addW0 t b vs ws n _ dd dd2 sl sl2 hv) ⟨ho, ho2, g.same ?_⟩
    have : x = [] := by
      have e : vs = #[] := by simpa using hv
      subst e
      have := x1.length
      cases x with
      | nil => rfl
      | cons _ _ => simp at this
    subst this
    exact r2
  · by_cases hw : ws.isEmpty = true
    · refine concat_meets ⟨_, ho, rfl⟩ ⟨_, ho2, rfl⟩ noFill_tuple_add seq_tuple_add PySem.F.slot_tuple_add PySem.F.entry_tuple_add (PySem.F.args_tuple_add_2 _ _)
        (tuple_addW1 t b vs ws n _ dd dd2 sl sl2 hv hw) ⟨ho, ho2, g.same ?_⟩
      have : y = [] := by
        have e : ws = #[] := by simpa using hw
        subst e
        have := x2.length
        cases y with
        | nil => rfl
        | cons _ _ => simp at this
      subst this
      simpa using r1
    · exact concat_meets ⟨_, ho, rfl⟩ ⟨_, ho2, rfl⟩ noFill_tuple_add seq_tuple_add PySem.F.slot_tuple_add PySem.F.entry_tuple_add (PySem.F.args_tuple_add_2 _ _)
        (tuple_addW2 t b vs ws n _ dd dd2 sl sl2 hv hw hz) ⟨ho, ho2, g.push (Rep.newTup f (by rw [Array.size_append]; exact hz) (by rw [Array.toList_append]; exact x1.append x2))⟩

theorem add_list {a b : Addr} {vs ws : Array Value} (ha : s.heap.IsList a vs) (hb : s.heap.IsList b ws) (hz : vs.size + ws.size ≤ sizeLine)
    (h : Q (.ref s.heap.objs.size) { s with heap := s.heap.push { cls := .type "list", data := .seq (vs ++ ws) } }) : wpAny (model prog w) A (binaryOp .Add (.ref a) (.ref b)) Q E s := by
  obtain ⟨⟨cls, dd, data, sl⟩, ho, hc, n, hd⟩ := id ha
  obtain ⟨⟨cls2, dd2, data2, sl2⟩, ho2, hc2, n2, hd2⟩ := id hb
  simp only at hc hd hc2 hd2
  subst hc hd hc2 hd2
  exact concat_meets ⟨_, ho, rfl⟩ ⟨_, ho2, rfl⟩ noFill_list_add seq_list_add PySem.F.slot_list_add PySem.F.entry_list_add (PySem.F.args_list_add_2 _ _) (list_addW a b vs ws n n2 dd dd2 sl sl2 hz) ⟨ho, ho2, h⟩

theorem add_byt {v1 v2 : Value} {x y : List Nat} (r1 : Rep prog w Av s.heap v1 (.bytes x)) (r2 : Rep prog w Av s.heap v2 (.bytes y)) (z : fits (x.length + y.length) = true) (g : Gv prog w Av s (.bytes (x ++ y)) Q) :
    wpAny (model prog w) A (binaryOp .Add v1 v2) Q E s := by
  obtain ⟨b, t, rfl, z1, rfl⟩ := r1.bytes_inv
  obtain ⟨c, u, rfl, z2, rfl⟩ := r2.bytes_inv
  have hz : b.size + c.size ≤ 16777216 := by
    have := fits_iff z
    simpa [sizeLine_eq] using this
  refine PySem.W.KBy.add_bytes hz fun t' k => ?_
  refine g _ s.heap k (fun _ _ e => e) ?_
  have : (b.toList.map UInt8.toNat ++ c.toList.map UInt8.toNat) = (b ++ c).toList.map UInt8.toNat := by simp
  rw [this]
  exact .bytes _ _ (by rw [Array.size_append]; exact hz)
end
end Og
end
section
open PySem PySem.Calls PyProof.Rows
namespace Og
mutual
noncomputable def toPy : PV → PyData
  | .int i => .int i
  | .tup l => .tuple (toPyL l)
  | .list l => .list (toPyL l)
  | _ => .none
noncomputable def toPyL : List PV → List PyData
  | [] => []
  | a :: r => toPy a :: toPyL r
end
mutual
theorem eqOk_lay : ∀ (d : PV) (n : Nat), eqOk n d = true → (toPy d).canLay0 = true ∧ (toPy d).depth ≤ n
  | .none, n, _ => ⟨rfl, Nat.zero_le _⟩
  | .int i, n, _ => ⟨rfl, Nat.zero_le _⟩
  | .tup l, n, h => by
    cases n with
    | zero => exact false_ne h
    | succ n =>
      have ⟨h1, h2⟩ := eqOk_layL l n h
      exact ⟨by unfold toPy PyData.canLay0; exact h1, by unfold toPy PyData.depth; exact Nat.succ_le_succ h2⟩
  | .list l, n, h => by
    cases n with
    | zero => exact false_ne h
    | succ n =>
      have ⟨h1, h2⟩ := eqOk_layL l n h
      exact ⟨by unfold toPy PyData.canLay0; exact h1, by unfold toPy PyData.depth; exact Nat.succ_le_succ h2⟩
  | .bool b, n, h => false_ne h
  | .str b, n, h => false_ne h
  | .bytes b, n, h => false_ne h
  | .dict b, n, h => false_ne h
theorem eqOk_layL : ∀ (l : List PV) (n : Nat), eqOkL n l = true → PyData.canLayAll0 (toPyL l) = true ∧ PyData.depthAll (toPyL l) ≤ n
  | [], n, _ => ⟨rfl, Nat.zero_le _⟩
  | a :: r, n, h => by
    obtain ⟨h1, h2⟩ := bif_t (show (bif eqOk n a then eqOkL n r else false) = true from h)
    have ⟨x1, x2⟩ := eqOk_lay a n h1
    have ⟨y1, y2⟩ := eqOk_layL r n h2
    exact ⟨by unfold toPyL PyData.canLayAll0; rw [x1, y1]; rfl, by unfold toPyL PyData.depthAll; exact Nat.max_le.mpr ⟨x2, y2⟩⟩
end
theorem no_both {a : Bool} {p : Prop} (e : a = false) (h : a = true) : p := by rw [e] at h; cases h
mutual
theorem eqOk_eqv : ∀ (a b : PV) (n m : Nat), eqOk n a = true → eqOk m b = true → PyData.eqv (toPy a) (toPy b) = eqv a b
  | .none, b, n, m, _, h => by cases b <;> first | exact false_ne h | (simp only [toPy, PyData.eqv]; rfl)
  | .int i, b, n, m, _, h => by
    cases b with
    | int j =>
      simp only [toPy, PyData.eqv]
      show (i == j) = W.Z.eqB i j
      rw [Bool.eq_iff_iff, W.Z.eqB_iff, beq_iff_eq]
    | _ => first | exact false_ne h | (simp only [toPy, PyData.eqv]; rfl)
  | .tup x, b, n, m, h, h' => by
    cases n with
    | zero => exact false_ne h
    | succ n =>
    cases b with
    | tup y =>
      cases m with
      | zero => exact false_ne h'
      | succ m => simp only [toPy, PyData.eqv]; exact eqOk_eqvL x y n m h h'
    | _ => first | exact false_ne h' | (simp only [toPy, PyData.eqv]; rfl)
  | .list x, b, n, m, h, h' => by
    cases n with
    | zero => exact false_ne h
    | succ n =>
    cases b with
    | list y =>
      cases m with
      | zero => exact false_ne h'
      | succ m => simp only [toPy, PyData.eqv]; exact eqOk_eqvL x y n m h h'
    | _ => first | exact false_ne h' | (simp only [toPy, PyData.eqv]; rfl)
  | .bool b, _, n, _, h, _ => false_ne h
  | .str b, _, n, _, h, _ => false_ne h
  | .bytes b, _, n, _, h, _ => false_ne h
  | .dict b, _, n, _, h, _ => false_ne h
theorem eqOk_eqvL : ∀ (a b : List PV) (n m : Nat), eqOkL n a = true → eqOkL m b = true → PyData.eqvAll (toPyL a) (toPyL b) = eqvL a b
  | [], b, n, m, _, _ => by cases b <;> (simp only [toPyL, PyData.eqvAll]; rfl)
  | a :: r, b, n, m, h, h' => by
    cases b with
    | nil => simp only [toPyL, PyData.eqvAll]; rfl
    | cons b t =>
    obtain ⟨h1, h2⟩ := bif_t (show (bif eqOk n a then eqOkL n r else false) = true from h)
    obtain ⟨h3, h4⟩ := bif_t (show (bif eqOk m b then eqOkL m t else false) = true from h')
    simp only [toPyL, PyData.eqvAll]
    rw [eqOk_eqv a b n m h1 h3, eqOk_eqvL r t n m h2 h4]
    show (eqv a b && eqvL r t) = (bif eqv a b then eqvL r t else false)
    cases eqv a b <;> rfl
end
section
variable {prog : Program} {w : World} {Av : Addr → Prop} {h : Heap}
mutual
theorem Rep.reads : ∀ (d : PV) (n : Nat) {v : Value}, Rep prog w Av h v d → eqOk n d = true → ∃ as, Reads h v (toPy d) as
  | .none, n, _, r, _ => by cases r; exact ⟨_, by unfold toPy; exact .none⟩
  | .int i, n, _, r, _ => by cases r; exact ⟨_, by unfold toPy; exact .int i _⟩
  | .tup l, n, _, r, q => by
    cases n with
    | zero => exact false_ne q
    | succ n =>
    cases r with
    | tup _ e c d _ r =>
      obtain ⟨as, x⟩ := RepL.reads l n r q
      exact ⟨_, by unfold toPy; exact .tuple e c d x⟩
  | .list l, n, _, r, q => by
    cases n with
    | zero => exact false_ne q
    | succ n =>
    cases r with
    | list _ e c d _ r =>
      obtain ⟨as, x⟩ := RepL.reads l n r q
      exact ⟨_, by unfold toPy; exact .list e c d x⟩
  | .bool _, n, _, _, q => false_ne q
  | .str _, n, _, _, q => false_ne q
  | .bytes _, n, _, _, q => false_ne q
  | .dict _, n, _, _, q => false_ne q
theorem RepL.reads : ∀ (ds : List PV) (n : Nat) {vs : List Value}, RepL prog w Av h vs ds → eqOkL n ds = true → ∃ as, ReadsAll h vs (toPyL ds) as
  | [], n, _, r, _ => by cases r; exact ⟨_, by unfold toPyL; exact .nil⟩
  | d :: ds, n, _, r, q => by
    cases r with
    | cons a r =>
    obtain ⟨h1, h2⟩ := bif_t (show (bif eqOk n d then eqOkL n ds else false) = true from q)
    obtain ⟨as, x⟩ := Rep.reads d n a h1
    obtain ⟨bs, y⟩ := RepL.reads ds n r h2
    exact ⟨_, by unfold toPyL; exact .cons x y⟩
end
end

theorem shaped_of {n : Nat} {d : PV} (h : eqOk n d = true) (hn : n ≤ 64) : PySem.SeqAt.shaped (toPy d) = true := by
  obtain ⟨h1, h2⟩ := eqOk_lay d n h
  unfold PySem.SeqAt.shaped
  rw [h1, Bool.true_and, decide_eq_true_eq]
  exact Nat.le_trans h2 hn

section
variable {prog : Program} {w : World} {A : Around} {E : Value → Shared → Prop} {s : Shared} {Av : Addr → Prop} {Q : Value → Shared → Prop}

theorem ints_of {h : Heap} {vs : List Value} {ds : List PV} (x : All2 (Rep prog w Av h) vs ds) : ∀ {ns : List Int}, allI ds = some ns → IntsAre vs ns := by
  induction x with
  | nil => intro ns e; cases e; exact .nil
  | @cons a b as bs r _ ih =>
    intro ns e
    obtain ⟨i, rfl, e⟩ := intV_inv (show intV b (fun i => opt (allI bs) fun l => some (i :: l)) = some ns from e)
    obtain ⟨l, q, e⟩ := opt_inv e
    cases e
    obtain ⟨t, rfl⟩ := r.int_inv
    exact .cons _ _ (ih q)
theorem memI_ok {i : Int} : ∀ {l : List PV} {b : Bool}, memI l i = some b → ∃ ns, allI l = some ns ∧ b = ns.any (· == i)
  | [], b, h => by cases h; exact ⟨[], rfl, rfl⟩
  | d :: r, b, h => by
    obtain ⟨j, rfl, h⟩ := intV_inv (show intV d (fun j => opt (memI r i) fun b => some (bif W.Z.eqB j i then true else b)) = some b from h)
    obtain ⟨c, q, h⟩ := opt_inv h
    cases h
    obtain ⟨ns, h1, h2⟩ := memI_ok q
    refine ⟨j :: ns, by show opt (allI r) _ = _; rw [h1], ?_⟩
    rw [List.any_cons, ← h2, show (j == i) = W.Z.eqB j i by rw [Bool.eq_iff_iff, W.Z.eqB_iff, beq_iff_eq]]
    cases W.Z.eqB j i <;> rfl

theorem dec_ltB (a b : Int) : decide (a < b) = W.Z.ltB a b := by rw [Bool.eq_iff_iff, W.Z.ltB_iff, decide_eq_true_iff]
theorem dec_leB (a b : Int) : decide (a ≤ b) = W.Z.leB a b := by rw [Bool.eq_iff_iff, W.Z.leB_iff, decide_eq_true_iff]
theorem beq_eqB (a b : Int) : (a == b) = W.Z.eqB a b := by rw [Bool.eq_iff_iff, W.Z.eqB_iff, beq_iff_eq]
theorem isNone_iff {h : Heap} {v : Value} {d : PV} (r : Rep prog w Av h v d) : (v == .none) = isNone d := by
  cases r <;> rfl
theorem bytesEq {b c : Array UInt8} : (b.toList == c.toList) = natsB (b.toList.map UInt8.toNat) (c.toList.map UInt8.toNat) := by
  rw [Bool.eq_iff_iff, natsB_iff, beq_iff_eq]
  constructor
  · intro h; rw [h]
  · intro h
    exact List.map_inj_right (fun x y e => UInt8.toNat_inj.mp e) |>.mp h

theorem notIn_of_in {M : Model} {x c : Value} (h : wpAny M A (compareOp .In x c) (fun v s' => ∀ b, v = .bool b → Q (.bool (!b)) s') E s) : wpAny M A (compareOp .NotIn x c) Q E s := fun Γ p hΓ => by
  have h := h Γ p hΓ
  show Sem.wp M Γ (do return Value.bool (!(← contains c x))) _ _ p s
  have h' : Sem.wp M Γ (do return Value.bool (← contains c x)) (fun v _ s' => ∀ b, v = .bool b → Q (.bool (!b)) s') (fun e _ s' => E e s') p s := h
  rw [Sem.wp_bind'] at h' ⊢
  exact Sem.wp_mono M Γ _ (fun b p' s' hb => hb b rfl) (fun _ _ _ e => e) p s h'
theorem dict_in {l : List (Int × PV)} {i : Int} {a : Addr} (r : Rep prog w Av s.heap (.ref a) (.dict l)) : ∃ f, (a == sysModules) = false ∧ s.heap.MapOf (intKind prog w) a f ∧ (f i).isSome = (lookI l i).isSome := by
  cases r with
  | @dict _ f _ g n m hm h1 h2 h3 h4 =>
    refine ⟨f, m, hm, ?_⟩
    cases q : lookI l i with
    | none => rw [h3 _ q]; rfl
    | some d => rw [h1 _ _ q]; rfl
theorem Rep.dict_ref {h : Heap} {v : Value} {l : List (Int × PV)} (r : Rep prog w Av h v (.dict l)) : ∃ a, v = .ref a := by cases r; exact ⟨_, rfl⟩
theorem deep_ok {a b : PV} {v1 v2 : Value} (h1 : eqOk 8 a = true) (h2 : eqOk 8 b = true) (hu : A.units + 64 < cLine) (r1 : Rep prog w Av s.heap v1 a) (r2 : Rep prog w Av s.heap v2 b) :
    (Q (.bool (eqv a b)) s → wpAny (model prog w) A (compareOp .Eq v1 v2) Q E s) ∧ (Q (.bool (!eqv a b)) s → wpAny (model prog w) A (compareOp .NotEq v1 v2) Q E s) := by
  obtain ⟨as, x⟩ := Rep.reads a 8 r1 h1
  obtain ⟨bs, y⟩ := Rep.reads b 8 r2 h2
  have e := eqOk_eqv a b 8 8 h1 h2
  exact ⟨fun g => eq_dataH x y (shaped_of h1 (by decide)) (shaped_of h2 (by decide)) hu (by rw [e]; exact g), fun g => ne_dataH x y (shaped_of h1 (by decide)) (shaped_of h2 (by decide)) hu (by rw [e]; exact g)⟩
theorem eq_ok {a b : PV} {c : Bool} {v1 v2 : Value} (h : cmpEq a b = some c) (hu : A.units + 64 < cLine) (r1 : Rep prog w Av s.heap v1 a) (r2 : Rep prog w Av s.heap v2 b) :
    (Q (.bool c) s → wpAny (model prog w) A (compareOp .Eq v1 v2) Q E s) ∧ (isNone a = false → Q (.bool (!c)) s → wpAny (model prog w) A (compareOp .NotEq v1 v2) Q E s) := by
  cases a with
  | none =>
    cases b with
    | int j =>
      cases h
      obtain rfl := r1.none_inv; obtain ⟨u, rfl⟩ := r2.int_inv
      exact ⟨fun g => PySem.EqNone.eq_none_int g, fun z => by cases z⟩
    | _ => exact none_some h
  | int i =>
    cases b with
    | int j =>
      cases h
      obtain ⟨t, rfl⟩ := r1.int_inv; obtain ⟨u, rfl⟩ := r2.int_inv
      exact ⟨fun g => PyProof.Rows.eq_int (by rw [beq_eqB]; exact g), fun _ g => PyProof.Rows.ne_int (by show Q (.bool (!(_ == _))) s; rw [beq_eqB]; exact g)⟩
    | _ => exact none_some h
  | bytes x =>
    cases b with
    | bytes y =>
      cases h
      obtain ⟨x, t, rfl, _, rfl⟩ := r1.bytes_inv; obtain ⟨y, u, rfl, _, rfl⟩ := r2.bytes_inv
      exact ⟨fun g => PySem.W.eq_bytes (by rw [bytesEq]; exact g), fun _ g => PySem.W.ne_bytes (by show Q (.bool (!(_ == _))) s; rw [bytesEq]; exact g)⟩
    | _ => exact none_some h
  | tup x =>
    cases b with
    | tup y =>
      obtain ⟨h1, h⟩ := cond_some h; obtain ⟨h2, h⟩ := cond_some h; cases h
      have D := deep_ok (prog := prog) (w := w) (E := E) (Q := Q) h1 h2 hu r1 r2
      exact ⟨D.1, fun _ => D.2⟩
    | _ => exact none_some h
  | list x =>
    cases b with
    | list y =>
      cases y with
      | nil =>
        cases h
        cases x with
        | nil =>
          have D := deep_ok (prog := prog) (w := w) (E := E) (Q := Q) (a := .list []) (b := .list []) rfl rfl hu r1 r2
          exact ⟨D.1, fun _ => D.2⟩
        | cons d r =>
          obtain ⟨a, vs, rfl, _, hT, _, x⟩ := r1.list_inv
          obtain ⟨b, us, rfl, _, hT2, _, y⟩ := r2.list_inv
          have l1 : vs.size = r.length + 1 := x.length
          have l2 : us.size = 0 := y.length
          exact ⟨fun g => PySem.SeqAt.eq_list_lengthsAt hT hT2 (by rw [l1, l2]; rfl) (Nat.lt_of_le_of_lt (Nat.le_add_right _ _) hu) g,
            fun _ g => PySem.SeqAt.RcNeAt.lists_lengths hT hT2 (by rw [l1, l2]; rfl) (Nat.lt_of_le_of_lt (Nat.le_add_right _ _) hu) prog w _ _ g⟩
      | cons c r =>
        obtain ⟨h1, h⟩ := cond_some h; obtain ⟨h2, h⟩ := cond_some h; cases h
        have D := deep_ok (prog := prog) (w := w) (E := E) (Q := Q) h1 h2 hu r1 r2
        exact ⟨D.1, fun _ => D.2⟩
    | _ => exact none_some h
  | _ => exact none_some h
theorem int2_inv {a b : PV} {f : Int → Int → Bool} {c : Bool} {v1 v2 : Value} (h : int2 a b f = some c) (r1 : Rep prog w Av s.heap v1 a) (r2 : Rep prog w Av s.heap v2 b) : ∃ i j t u, v1 = .int i t ∧ v2 = .int j u ∧ f i j = c := by
  cases a with
  | int i =>
    cases b with
    | int j =>
      cases h
      obtain ⟨t, rfl⟩ := r1.int_inv
      obtain ⟨u, rfl⟩ := r2.int_inv
      exact ⟨i, j, t, u, rfl, rfl, rfl⟩
    | _ => exact none_some h
  | _ => exact none_some h
theorem cmp_ok {op : CmpOp} {a b : PV} {c : Bool} {v1 v2 : Value} (h : cmpV op a b = some c) (hu : A.units + 64 < cLine) (r1 : Rep prog w Av s.heap v1 a) (r2 : Rep prog w Av s.heap v2 b) (g0 : Gv prog w Av s (.bool c) Q) :
    wpAny (model prog w) A (compareOp op v1 v2) Q E s := by
  have g := g0.bool
  cases op with
  | Is =>
    cases b with
    | none =>
      cases h
      obtain rfl := r2.none_inv
      rw [← isNone_iff r1] at g
      exact is_none_gen g
    | _ => exact none_some h
  | IsNot =>
    cases b with
    | none =>
      cases h
      obtain rfl := r2.none_inv
      rw [← isNone_iff r1] at g
      exact isnot_none_gen g
    | _ => exact none_some h
  | Eq => exact (eq_ok h hu r1 r2).1 g
  | NotEq =>
    have h : opt (cmpEq a b) (fun c => bif isNone a then .none else some (!c)) = some c := h
    obtain ⟨d, h1, h⟩ := opt_inv h
    cases q : isNone a with
    | true => rw [q] at h; exact none_some h
    | false => rw [q] at h; cases h; exact (eq_ok h1 hu r1 r2).2 q g
  | Lt =>
    obtain ⟨i, j, t, u, rfl, rfl, rfl⟩ := int2_inv h r1 r2
    exact PyProof.Rows.lt_int (by rw [dec_ltB]; exact g)
  | LtE =>
    obtain ⟨i, j, t, u, rfl, rfl, rfl⟩ := int2_inv h r1 r2
    exact PyProof.Rows.le_int (by rw [dec_leB]; exact g)
  | Gt =>
    obtain ⟨i, j, t, u, rfl, rfl, rfl⟩ := int2_inv h r1 r2
    exact PyProof.Rows.gt_int (by rw [dec_ltB]; exact g)
  | GtE =>
    obtain ⟨i, j, t, u, rfl, rfl, rfl⟩ := int2_inv h r1 r2
    exact PyProof.Rows.ge_int (by rw [dec_leB]; exact g)
  | In =>
    cases a with
    | int i =>
      obtain ⟨t, rfl⟩ := r1.int_inv
      cases b with
      | tup l =>
        obtain ⟨a, vs, rfl, _, hT, _, x⟩ := r2.tup_inv
        obtain ⟨ns, h1, rfl⟩ := memI_ok h
        exact in_tuple_ints hT (ints_of x h1) g
      | dict l =>
        cases h
        obtain ⟨a, rfl⟩ := r2.dict_ref
        obtain ⟨f, m, hm, e⟩ := dict_in (i := i) r2
        exact wpAny_in_of (intKind_is prog w _ t) m hm (by rw [e]; exact g0.same' (.bool _))
      | _ => exact none_some h
    | _ => exact none_some h
  | NotIn =>
    cases a with
    | int i =>
      obtain ⟨t, rfl⟩ := r1.int_inv
      cases b with
      | dict l =>
        cases h
        obtain ⟨a, rfl⟩ := r2.dict_ref
        obtain ⟨f, m, hm, e⟩ := dict_in (i := i) r2
        refine notIn_of_in (wpAny_in_of (intKind_is prog w _ t) m hm ?_)
        intro b hb
        cases hb
        rw [e]; exact g0.same' (.bool _)
      | _ => exact none_some h
    | _ => exact none_some h
end
end Og
end
section
open PySem PySem.Calls PyProof.Rows
namespace Og
theorem place_some {i : Int} {n j : Nat} (h : place i n = some j) (hz : n ≤ lim) : (0 ≤ i ∧ i.toNat = j ∧ i < n ∧ i < 2 ^ 63) ∨ (i < 0 ∧ (i + n).toNat = j ∧ -(n : Int) ≤ i ∧ -(2 ^ 63) ≤ i) := by
  have hz : n ≤ 16777216 := hz
  cases i with
  | ofNat k =>
    obtain ⟨h1, h2⟩ := cond_some (show (bif Nat.blt k n then some k else .none) = some j from h)
    cases h2
    have h3 := W.Z.blt_iff.mp h1
    exact .inl ⟨Int.natCast_nonneg _, rfl, Int.ofNat_lt.mpr h3, Int.lt_trans (Int.ofNat_lt.mpr (Nat.lt_of_lt_of_le h3 hz)) (by decide)⟩
  | negSucc k =>
    obtain ⟨h1, h2⟩ := cond_some (show (bif Nat.blt k n then some (n - (k + 1)) else .none) = some j from h)
    cases h2
    have h3 := W.Z.blt_iff.mp h1
    have : -(n : Int) ≤ Int.negSucc k ∧ (Int.negSucc k + (n : Int)).toNat = n - (k + 1) := by omega
    exact .inr ⟨Int.negSucc_lt_zero k, this.2, this.1, Int.le_trans (Int.le_trans (by decide) (Int.neg_le_neg (Int.ofNat_le.mpr hz))) this.1⟩
theorem seq_some {i : Int} {n j : Nat} (h : place i n = some j) (hz : n ≤ lim) : seqIndex? i n = some j := by
  rcases place_some h hz with ⟨h0, rfl, h2, h3⟩ | ⟨h0, rfl, h2, h3⟩
  · exact seqIndex_of h0 h2
  · exact seqIndex_neg h0 h2
theorem place_lt {i : Int} {n j : Nat} (h : place i n = some j) : j < n := by
  cases i with
  | ofNat k =>
    obtain ⟨h1, h2⟩ := cond_some (show (bif Nat.blt k n then some k else .none) = some j from h)
    cases h2
    exact W.Z.blt_iff.mp h1
  | negSucc k =>
    obtain ⟨h1, h2⟩ := cond_some (show (bif Nat.blt k n then some (n - (k + 1)) else .none) = some j from h)
    cases h2
    exact Nat.sub_lt (Nat.lt_of_le_of_lt (Nat.zero_le _) (W.Z.blt_iff.mp h1)) (Nat.succ_pos _)
theorem clip_eq (n : Nat) (i : Int) : clip n i = clipAt n i := by
  unfold clip
  cases i with
  | ofNat j =>
    have := clipAt_nat n j
    show (bif Nat.ble j n then j else n) = clipAt n (j : Int)
    rw [this]
    by_cases h : j ≤ n
    · rw [W.Z.ble_iff.mpr h, cond_true, Nat.min_eq_left h]
    · rw [W.Z.bool_no W.Z.ble_iff h, cond_false, Nat.min_eq_right (by omega)]
  | negSucc j =>
    exact (clipAt_neg n (j + 1) (by omega)).symm
theorem cut_eq {α : Type} (lo hi : Option Int) (l : List α) :
    cut lo hi l = (l.drop (lo.elim 0 (clipAt l.length))).take (hi.elim l.length (clipAt l.length) - lo.elim 0 (clipAt l.length)) := by
  unfold cut
  cases lo <;> cases hi <;> simp only [Option.elim, clip_eq]
  · rw [List.drop_zero, Nat.sub_zero, List.take_length]
  · rw [List.take_of_length_le (by simp)]
theorem cut_map {α β : Type} (f : α → β) (lo hi : Option Int) (l : List α) : cut lo hi (l.map f) = (cut lo hi l).map f := by
  simp only [cut_eq, List.length_map, List.map_take, List.map_drop]
theorem cut_length_le {α : Type} (lo hi : Option Int) (l : List α) : (cut lo hi l).length ≤ l.length := by
  rw [cut_eq, List.length_take, List.length_drop]; omega
theorem All2.cut {α β : Type} {Q : α → β → Prop} {as : List α} {bs : List β} (h : All2 Q as bs) (lo hi : Option Int) : All2 Q (Og.cut lo hi as) (Og.cut lo hi bs) := by
  rw [cut_eq, cut_eq, h.length]
  exact (h.drop _).take _

theorem subscripted_ops (slice : PySem.Expr) (o i : Value) : ∃ ops, subscripted slice false o i = operate ops (getItem o i) := by
  cases slice with
  | Slice l u s p => cases s <;> exact ⟨_, rfl⟩
  | _ => exact ⟨_, rfl⟩

section
variable {prog : Program} {w : World} {A : Around} {E : Value → Shared → Prop} {s : Shared} {Av : Addr → Prop} {Q : Value → Shared → Prop}

theorem tail_ok {value slice : PySem.Expr} {o i : Value} {T id : String} (hT : s.TypeIs o T)
    (hl : typeLookup (.type T) "__getitem__" = pure (some (.builtin id))) (hg : wpAny (model prog w) A (getItem o i) Q E s) : wpAny (model prog w) A (subscriptTail value slice o i) Q E s := by
  obtain ⟨ops, hs⟩ := subscripted_ops slice o i
  exact tail_any hT hl hg hs

theorem item_list {value slice : PySem.Expr} {l : Addr} {items : Array Value} {k : Int} {t : Tok} {j : Nat} {x : Value} (hl : s.heap.IsList l items) (hz : items.size ≤ lim)
    (hj : place k items.size = some j) (hx : items[j]? = some x) (h : Q x s) : wpAny (model prog w) A (subscriptTail value slice (.ref l) (.int k t)) Q E s := by
  rcases place_some hj hz with ⟨h0, rfl, h2, h3⟩ | ⟨h0, rfl, h2, h3⟩
  · exact tail_ok hl.typeIs slot_list_getitem.lookup (wpAny_getItem_list hl h0 h3 hx h)
  · exact tail_ok hl.typeIs slot_list_getitem.lookup (wpAny_getItem_list_neg hl h0 h2 h3 hx h)
theorem item_tup {value slice : PySem.Expr} {l : Addr} {items : Array Value} {k : Int} {t : Tok} {j : Nat} {x : Value} (hl : IsTup s.heap l items) (hz : items.size ≤ lim)
    (hj : place k items.size = some j) (hx : items[j]? = some x) (h : Q x s) : wpAny (model prog w) A (subscriptTail value slice (.ref l) (.int k t)) Q E s := by
  have b : -(2 ^ 63) ≤ k ∧ k < 2 ^ 63 := by
    rcases place_some hj hz with ⟨h0, _, _, h3⟩ | ⟨h0, _, _, h3⟩
    · exact ⟨Int.le_trans (by decide) h0, h3⟩
    · exact ⟨h3, Int.lt_trans h0 (by decide)⟩
  exact tail_ok hl.typeIs PyProof.Rows.slot_tuple_getitem.lookup (PyProof.Rows.getItem_tuple hl b.1 b.2 (seq_some hj hz) hx h)

theorem slice_tup {t sl : Addr} {items : Array Value} {vl vu : Value} {lo hi : Option Int} (f : ¬ Av s.heap.objs.size) {ds : List PV} (ht : IsTup s.heap t items) (r : Rep prog w Av s.heap (.ref t) (.tup ds)) (x : All2 (Rep prog w Av s.heap) items.toList ds) (hz : items.size ≤ lim)
    (hs : s.heap.IsSliceOf sl vl vu .none) (pl : IsPart vl lo) (pu : IsPart vu hi) (g : Gv prog w Av s (.tup (cut lo hi ds)) Q) : wpAny (model prog w) A (getItem (.ref t) (.ref sl)) Q E s := by
  obtain ⟨os, hos, hcs, hds⟩ := id hs
  have hTs : s.TypeIs (.ref sl) "slice" := ⟨os, hos, hcs⟩
  unfold getItem
  try with_reducible refine wpAny_holding ?_
  first | refine wpAny_bind (wpAny_pure ?_) | skip
  refine wpAny_bind (wpAny_sequenceKey ht.typeIs (by decide) ?_)
  refine wpAny_bind (wpAny_callSpecial?_slot (name := Str.ofString "__getitem__") ht.typeIs PyProof.Rows.slot_tuple_getitem
    (wpAny_call_entry PyProof.Rows.slot_tuple_getitem ht.typeIs PyProof.Rows.entry_tuple_getitem ?_ (args_tuple_getitem _ _)))
  show wpAny _ _ (Builtin.Tuple.tupleItemsOf (.ref t) >>= _) _ _ s
  refine wpAny_bind (tupleItemsOf_ ht ?_)
  refine wpAny_bind (wpAny_typeOf hTs ?_)
  rw [if_pos (by decide)]
  let a := lo.elim 0 (clipAt items.size)
  let b := hi.elim items.size (clipAt items.size)
  have happ : ∀ {R : Int × Int × Nat → Shared → Prop}, R ((a : Int), 1, b - a) s → wpAny (model prog w) A.in1 (Builtin.Slice.sliceApplied (.ref sl) (pure (items.size : Int))) R (fun e s' => E e s') s := by
    intro R hR
    unfold Builtin.Slice.sliceApplied Builtin.Slice.sliceFields
    refine wpAny_bind (wpAny_bind (wpAny_field hos hds (x := vl) rfl (wpAny_bind (wpAny_field hos hds (x := vu) rfl (wpAny_bind (wpAny_field hos hds (x := .none) rfl (wpAny_pure ?_)))))))
    refine wpAny_bind (slicePart_none ?_)
    show wpAny _ _ (if ((1 : Int) == 0) = true then _ else _) _ _ s
    rw [if_neg (by decide)]
    have hpl : ∀ {R : Option Int → Shared → Prop}, R lo s → wpAny (model prog w) A.in1 (Builtin.Slice.slicePartIndex vl) R (fun e s' => E e s') s := by
      intro R hR
      cases pl with
      | none => exact slicePart_none hR
      | int i u => exact slicePart_int hR
    have hpu : ∀ {R : Option Int → Shared → Prop}, R hi s → wpAny (model prog w) A.in1 (Builtin.Slice.slicePartIndex vu) R (fun e s' => E e s') s := by
      intro R hR
      cases pu with
      | none => exact slicePart_none hR
      | int i u => exact slicePart_int hR
    refine wpAny_bind (hpl (wpAny_bind (hpu (wpAny_bind (wpAny_pure ?_)))))
    have e1 : Builtin.Slice.sliceAdjust lo hi 1 (items.size : Int) = ((a : Int), (b : Int)) := by
      unfold Builtin.Slice.sliceAdjust
      have h1 : ¬ ((1 : Int) < 0) := by omega
      simp only [h1, if_false]
      refine Prod.ext ?_ ?_
      · show (match lo with | none => (0 : Int) | some v => _) = _
        cases lo with
        | none => rfl
        | some v =>
          show _ = ((clipAt items.size v : Nat) : Int)
          rw [clipAt_cast]
          dsimp only
          split <;> omega
      · show (match hi with | none => (items.size : Int) | some v => _) = _
        cases hi with
        | none => rfl
        | some v =>
          show _ = ((clipAt items.size v : Nat) : Int)
          rw [clipAt_cast]
          dsimp only
          split <;> omega
    have e2 : Builtin.Slice.slicePlaces (a : Int) (b : Int) 1 = b - a := by
      unfold Builtin.Slice.slicePlaces
      have h1 : (1 : Int) > 0 := by omega
      simp only [h1, if_true, Int.ediv_one]
      split <;> omega
    show wpAny _ _ (match Builtin.Slice.sliceAdjust lo hi 1 (items.size : Int) with | (lo, hi) => pure (lo, (1 : Int), Builtin.Slice.slicePlaces lo hi 1)) _ _ s
    rw [e1]
    show wpAny _ _ (pure ((a : Int), (1 : Int), Builtin.Slice.slicePlaces (a : Int) (b : Int) 1)) _ _ s
    rw [e2]
    exact wpAny_pure hR
  refine wpAny_bind (happ ?_)
  have hb : b ≤ items.size := by
    show hi.elim items.size (clipAt items.size) ≤ items.size
    cases hi with
    | none => exact Nat.le_refl _
    | some v =>
      show clipAt items.size v ≤ items.size
      have := clipAt_cast items.size v
      omega
  have hcut : cut lo hi items.toList = (items.toList.drop a).take (b - a) := by
    rw [cut_eq, Array.length_toList]
  by_cases hw : (((a : Int) == 0 && (1 : Int) == 1 && (b - a) == items.size) = true)
  · have hw' : a = 0 ∧ b - a = items.size := by
      simp only [Bool.and_eq_true, beq_iff_eq] at hw
      exact ⟨by omega, hw.2⟩
    have ecut : cut lo hi ds = ds := by
      rw [cut_eq, ← x.length, Array.length_toList]
      show (ds.drop a).take (b - a) = ds
      rw [hw'.1, List.drop_zero]
      exact List.take_of_length_le (by rw [← x.length, Array.length_toList]; omega)
    show wpAny _ _ (if ((a : Int) == 0 && (1 : Int) == 1 && (b - a) == items.size) = true then _ else _) _ _ s
    rw [if_pos hw]
    rw [ecut] at g
    refine wpAny_bind ?_
    unfold Builtin.Tuple.tupleIsExact
    refine wpAny_bind (wpAny_typeOf ht.typeIs (wpAny_pure ?_))
    rw [if_pos (by decide)]
    exact wpAny_bind (wpAny_rule (wpAny_bind (wpAny_pure (wpAny_pure ⟨_, rfl, wpAny_pure (g.same r)⟩))))
  · show wpAny _ _ (if ((a : Int) == 0 && (1 : Int) == 1 && (b - a) == items.size) = true then _ else _) _ _ s
    rw [if_neg hw]
    have epick : ((List.range (b - a)).filterMap fun (k : Nat) => items[((a : Int) + (k : Int) * 1).toNat]?) = (items.toList.drop a).take (b - a) := by
      have e : (fun (k : Nat) => items[((a : Int) + (k : Int) * 1).toNat]?) = fun k => items[a + k]? := by
        funext k
        have : ((a : Int) + (k : Int) * 1).toNat = a + k := by omega
        rw [this]
      rw [e]
      have := pick_run items a (b - a)
      rw [List.filterMap_map] at this
      exact this
    rw [epick, ← hcut]
    have hsz : (cut lo hi items.toList).length ≤ lim := Nat.le_trans (cut_length_le _ _ _) (by rw [Array.length_toList]; exact hz)
    have hok : sizeOk (.seq (cut lo hi items.toList).toArray) := by
      show (cut lo hi items.toList).toArray.size ≤ sizeLine
      rw [List.size_toArray]; exact hsz
    have fin := g.push (o := { cls := .type "tuple", data := .seq (cut lo hi items.toList).toArray }) (Rep.newTup f (by rw [List.size_toArray]; exact hsz) (by simpa using x.cut lo hi)) (tk := s.toks)
    first
      | exact wpAny_bind (m := Builtin.Tuple.tupleExact _) (wpAny_newObj_type (wpAny_pure ⟨_, rfl, wpAny_pure fin⟩) hok)
      | exact wpAny_bind (m := Builtin.Tuple.tupleExact _) (wpAny_newObj_type (wpAny_bind (wpAny_pure (wpAny_pure ⟨_, rfl, wpAny_pure fin⟩))) hok)
      | exact wpAny_bind (wpAny_bind (m := Builtin.Tuple.tupleExact _) (wpAny_newObj_type (wpAny_pure (wpAny_pure ⟨_, rfl, wpAny_pure fin⟩)) hok))
      | exact wpAny_bind (wpAny_bind (m := Builtin.Tuple.tupleExact _) (wpAny_newObj_type (wpAny_pure ⟨_, rfl, wpAny_pure fin⟩) hok))

theorem slice_list {l sl : Addr} {items : Array Value} {vl vu : Value} {lo hi : Option Int} (f : ¬ Av s.heap.objs.size) {ds : List PV} (hl : s.heap.IsList l items) (x : All2 (Rep prog w Av s.heap) items.toList ds) (hz : items.size ≤ lim)
    (hs : s.heap.IsSliceOf sl vl vu .none) (pl : IsPart vl lo) (pu : IsPart vu hi) (g : Gv prog w Av s (.list (cut lo hi ds)) Q) : wpAny (model prog w) A (getItem (.ref l) (.ref sl)) Q E s := by
  refine wpAny_getItem_list_slice hl hs pl pu .none (by simp) ?_ hz
  have e : slicePick items lo hi none = (cut lo hi items.toList).toArray := by rw [slicePick_plain, cut_eq, Array.length_toList]
  rw [e]
  exact g.push (Rep.newList f (by rw [List.size_toArray]; exact Nat.le_trans (cut_length_le _ _ _) (by rw [Array.length_toList]; exact hz)) (by simpa using x.cut lo hi)) (tk := s.toks)
theorem slice_rev {l sl : Addr} {items : Array Value} {vk : Value} (f : ¬ Av s.heap.objs.size) {ds : List PV} (hl : s.heap.IsList l items) (x : All2 (Rep prog w Av s.heap) items.toList ds) (hz : items.size ≤ lim)
    (hs : s.heap.IsSliceOf sl .none .none vk) (pk : IsPart vk (some (-1))) (g : Gv prog w Av s (.list ds.reverse) Q) : wpAny (model prog w) A (getItem (.ref l) (.ref sl)) Q E s := by
  refine wpAny_getItem_list_slice hl hs .none .none pk (by decide) ?_ hz
  rw [PySem.W.krv_pick]
  exact g.push (Rep.newList f (by rw [List.size_toArray, List.length_reverse, Array.length_toList]; exact hz) (by simpa using x.reverse)) (tk := s.toks)
theorem slice_bytes {b : Array UInt8} {t : Tok} {sl : Addr} {vl vu : Value} {lo hi : Option Int} (hz : b.size ≤ lim) (hs : s.heap.IsSliceOf sl vl vu .none) (pl : IsPart vl lo) (pu : IsPart vu hi)
    (g : Gv prog w Av s (.bytes (cut lo hi (b.toList.map UInt8.toNat))) Q) : wpAny (model prog w) A (getItem (.bytes b t) (.ref sl)) Q E s := by
  refine getItem_meets (PySem.W.typeIs_bytes _ _ _) (by decide) PySem.W.FB.slot_bytes_getitem PySem.W.FB.entry_bytes_getitem (PySem.W.FB.args_bytes_getitem_2 _ _) (PySem.W.KBc.meets_slice2 b t _ pl pu) ?_
  have hp := PySem.W.KBc.size_picked_le b lo hi
  refine ⟨hs, Nat.le_trans hp hz, fun t' k => ?_⟩
  refine g _ s.heap k (fun _ _ e => e) ?_
  have e : cut lo hi (b.toList.map UInt8.toNat) = (PySem.W.KBy.picked b lo hi).toList.map UInt8.toNat := by
    rw [PySem.W.KBc.picked_eq, cut_map]
    congr 1
    rw [cut_eq, Array.length_toList]
  rw [e]
  exact .bytes _ _ (Nat.le_trans hp hz)

theorem setItem_list {l : Addr} {items : Array Value} {n : Nat} {k : Int} {t : Tok} {v : Value} {j : Nat} {Q : Unit → Shared → Prop} (ho : s.heap.get? l = some { cls := .type "list", dict := .none, data := .seq items n, slots := #[] })
    (hz : items.size ≤ lim) (hj : place k items.size = some j)
    (hQ : ∀ h' n', h'.get? l = some { cls := .type "list", dict := .none, data := .seq (items.setIfInBounds j v) n', slots := #[] } → Heap.SameBut l s.heap h' → Q () { s with heap := h' }) :
    wpAny (model prog w) A (setItem (.ref l) (.int k t) v) Q E s := by
  have hl : s.heap.IsList l items := ⟨_, ho, rfl, _, rfl⟩
  have b1 := place_lt hj
  unfold setItem
  try with_reducible refine wpAny_holding ?_
  first | refine wpAny_bind (wpAny_pure ?_) | skip
  refine wpAny_bind (wpAny_sequenceKey hl.typeIs (by decide) ?_)
  refine wpAny_bind (wpAny_callSpecial?_slot (name := Str.ofString "__setitem__") hl.typeIs slot_list_setitem
    (wpAny_call_entry slot_list_setitem hl.typeIs entry_list_setitem ?_ (args_list_setitem _ _ _)))
  show wpAny _ _ (Builtin.List.listSubscript? (.int k t) >>= _) _ _ s
  have hfit : Builtin.List.listFitsIndex k = true := by
    rcases place_some hj hz with ⟨h0, _, _, h3⟩ | ⟨h0, _, _, h3⟩
    · exact fitsIndex_of h0 h3
    · exact fitsIndex_neg h0 h3
  refine wpAny_bind (wpAny_listSubscript_int hfit ?_)
  clear hfit
  have hx' : items[j]? = some items[j] := Array.getElem?_eq_getElem b1
  have hfin : (s.heap.update l (Obj.mapSeq (·.setIfInBounds j v))).get? l = some { cls := .type "list", dict := .none, data := .seq (items.setIfInBounds j v) n, slots := #[] } := by
    have := Heap.get?_update_self (Obj.mapSeq (·.setIfInBounds j v)) ho rfl
    rw [this]
    simp [Obj.mapSeq]
  have fin : wpAny (model prog w) A.in1 (setSeqItemAt l j v) (fun _ s' => Q () s') (fun e s' => E e s') s := wpAny_setSeqItemAt ho rfl (hQ _ n hfin (Heap.SameBut.update ..))
  cases k with
  | ofNat m =>
    have em : m = j := by
      obtain ⟨_, h2⟩ := cond_some (show (bif Nat.blt m items.size then some m else .none) = some j from hj)
      cases h2; rfl
    subst em
    show wpAny _ _ ((seqItemAt l m >>= fun r => pure (r.map (m, ·))) >>= _) _ _ s
    refine wpAny_bind (wpAny_bind (wpAny_seqItemAt ho rfl (wpAny_pure ?_)))
    rw [hx']
    show wpAny _ _ (setSeqItemAt l m v >>= _) _ _ s
    refine wpAny_bind (wpAny_mono fin (fun _ s' hq => ?_) fun _ _ e => e)
    first
      | exact wpAny_bind (wpAny_pure (wpAny_pure ⟨.none, rfl, wpAny_pure hq⟩))
      | exact wpAny_pure ⟨.none, rfl, wpAny_pure hq⟩
  | negSucc m =>
    have hidx : seqIndex? (Int.negSucc m) items.size = some j := seq_some hj hz
    show wpAny _ _ ((Builtin.List.listItems (.ref l) >>= fun xs => pure ((seqIndex? (Int.negSucc m) xs.size).bind fun i => xs[i]?.map (i, ·))) >>= _) _ _ s
    refine wpAny_bind (wpAny_bind ?_)
    show wpAny _ _ (seqItems? (.ref l) >>= _) _ _ s
    refine wpAny_bind (wpAny_seqItems ho rfl (wpAny_pure (wpAny_pure ?_)))
    rw [hidx]
    simp only [Option.bind_some, hx', Option.map_some]
    show wpAny _ _ (setSeqItemAt l j v >>= _) _ _ s
    refine wpAny_bind (wpAny_mono fin (fun _ s' hq => ?_) fun _ _ e => e)
    first
      | exact wpAny_bind (wpAny_pure (wpAny_pure ⟨.none, rfl, wpAny_pure hq⟩))
      | exact wpAny_pure ⟨.none, rfl, wpAny_pure hq⟩
end
end Og
end
section
open PySem PySem.Calls PyProof.Rows
namespace Og
theorem bytesOk_ok : ∀ {ns : List Int} {bs : List Nat}, bytesOk ns = some bs → (∀ n ∈ ns, 0 ≤ n ∧ n < 256) ∧ bs = ns.map Int.toNat
  | [], bs, h => by cases h; exact ⟨(fun _ m => nomatch m), rfl⟩
  | i :: r, bs, h => by
    obtain ⟨g, h⟩ := cond_some (show (bif (bif W.Z.leB 0 i then W.Z.ltB i 256 else false) then opt (bytesOk r) fun l => some (i.toNat :: l) else .none) = some bs from h)
    obtain ⟨g1, g2⟩ := bif_t g
    obtain ⟨l, q, h⟩ := opt_inv h
    cases h
    obtain ⟨h1, h2⟩ := bytesOk_ok q
    refine ⟨fun n hn => ?_, by rw [h2]; rfl⟩
    rcases List.mem_cons.mp hn with e | e
    · subst e; exact ⟨(W.Z.leB_iff _ _).mp g1, (W.Z.ltB_iff _ _).mp g2⟩
    · exact h1 n e
theorem maxL_spec : ∀ (r : List Int) (a : Int), (maxL a r = a ∨ maxL a r ∈ r) ∧ a ≤ maxL a r ∧ ∀ b ∈ r, b ≤ maxL a r
  | [], a => ⟨.inl rfl, by unfold maxL; omega, by simp⟩
  | b :: r, a => by
    unfold maxL
    cases q : W.Z.ltB a b with
    | true =>
      have h := (W.Z.ltB_iff _ _).mp q
      obtain ⟨h1, h2, h3⟩ := maxL_spec r b
      simp only [cond_true]
      refine ⟨.inr ?_, by omega, fun c hc => ?_⟩
      · rcases h1 with h1 | h1
        · rw [h1]; exact .head _
        · exact .tail _ h1
      · rcases List.mem_cons.mp hc with e | e
        · subst e; exact h2
        · exact h3 c e
    | false =>
      have h : ¬ a < b := fun h => by rw [(W.Z.ltB_iff _ _).mpr h] at q; cases q
      obtain ⟨h1, h2, h3⟩ := maxL_spec r a
      simp only [cond_false]
      refine ⟨?_, h2, fun c hc => ?_⟩
      · rcases h1 with h1 | h1
        · exact .inl h1
        · exact .inr (.tail _ h1)
      · rcases List.mem_cons.mp hc with e | e
        · subst e; omega
        · exact h3 c e
theorem maxL_unique {a M : Int} {r : List Int} (h1 : M ∈ a :: r) (h2 : ∀ b ∈ a :: r, b ≤ M) : maxL a r = M := by
  obtain ⟨g1, g2, g3⟩ := maxL_spec r a
  have i1 : M ≤ maxL a r := by
    rcases List.mem_cons.mp h1 with e | e
    · subst e; exact g2
    · exact g3 _ e
  have i2 : maxL a r ≤ M := by
    rcases g1 with e | e
    · rw [e]; exact h2 _ (.head _)
    · exact h2 _ (.tail _ e)
  omega
theorem tiny_iff {x : Int} (h : tiny x = true) : InLong x := by
  have := W.Z.blt_iff.mp h
  unfold InLong
  omega
theorem sumL_ok : ∀ {ns : List Int} {a c : Int}, sumL a ns = some c → c = a + ns.sum ∧ ∀ j, j < ns.length → InLong (ns.getD j 0) ∧ InLong (a + (ns.take (j + 1)).sum)
  | [], a, c, h => by simp [sumL] at h; subst h; exact ⟨by simp, by simp⟩
  | b :: r, a, c, h => by
    unfold sumL at h
    obtain ⟨g, h⟩ := cond_some h
    obtain ⟨g1, g2⟩ := bif_t g
    obtain ⟨h1, h2⟩ := sumL_ok h
    refine ⟨by rw [h1, List.sum_cons]; omega, fun j hj => ?_⟩
    cases j with
    | zero => exact ⟨by simpa using tiny_iff g1, by simpa using tiny_iff g2⟩
    | succ j =>
      obtain ⟨i1, i2⟩ := h2 j (by simpa using hj)
      refine ⟨by simpa using i1, ?_⟩
      have e : a + ((b :: r).take (j + 1 + 1)).sum = a + b + (r.take (j + 1)).sum := by
        rw [List.take_succ_cons, List.sum_cons]; omega
      rw [e]; exact i2

theorem abs_eq (a : Int) : (if a < 0 then -a else a) = (bif W.Z.ltB a 0 then -a else a) := by
  by_cases q : a < 0
  · rw [if_pos q, (W.Z.ltB_iff _ _).mpr q]; rfl
  · rw [if_neg q, W.Z.bool_no (W.Z.ltB_iff _ _) q]; rfl

section
variable {prog : Program} {w : World} {A : Around} {E : Value → Shared → Prop} {s : Shared} {Av : Addr → Prop} {Q : Value → Shared → Prop}
theorem fresh_of {h : Heap} (hav : ∀ b, Av b → ∃ o, h.get? b = some o) : ¬ Av h.objs.size := fun q => by
  obtain ⟨o, ho⟩ := hav _ q
  exact absurd (Heap.lt_size ho) (Nat.lt_irrefl _)

theorem lv_len (l : List PV) (vs : Array Value) (x : All2 (Rep prog w Av s.heap) vs.toList l) : vs.size = l.length := by rw [← x.length, Array.length_toList]

theorem max_ok {a : Addr} {vs : Array Value} {i : Int} {r : List Int} (hh : A.handled = .none) (hl : s.heap.IsList a vs) (hi : IntsAre vs.toList (i :: r)) (g : Gv prog w Av s (.int (maxL i r)) Q) :
    wpAny (model prog w) A (call (.builtin "max") [.ref a]) Q E s := by
  obtain ⟨xs, e⟩ := hi.allInts.items
  have hns : (i :: r) = xs.toList.map (·.1) := by rw [← hi.numsOf, ← nums_intItems, ← e]
  have hsz : 0 < xs.size := by
    have h3 := congrArg List.length hns
    simp at h3
    omega
  have e' : vs = intItems xs := by rw [← e]
  rw [e'] at hl
  refine max_intList hh hl hsz fun v h' tk hv hk => ?_
  obtain ⟨t, rfl⟩ := intItems_at hv
  obtain ⟨h1, h2⟩ := argBest_gt (numAt xs) (xs.size - 1)
  have hM : maxL i r = numAt xs (argBest (fun i j => decide (numAt xs i > numAt xs j)) (xs.size - 1)) := by
    refine maxL_unique ?_ fun b hb => ?_
    · rw [hns, numAt_eq]; exact getD_mem (by rw [List.length_map, Array.length_toList]; omega)
    · rw [hns] at hb
      obtain ⟨j, hj, rfl⟩ := mem_getD hb
      rw [List.length_map, Array.length_toList] at hj
      rw [← numAt_eq]; exact h2 j (by omega)
  rw [← hM]
  exact g _ h' tk hk (.int _ _)

theorem sum_ok {a : Addr} {vs : Array Value} {ns : List Int} {c : Int} (hh : A.handled = .none) (hl : s.heap.IsList a vs) (hi : IntsAre vs.toList ns) (hs : sumL 0 ns = some c) (g : Gv prog w Av s (.int c) Q) :
    wpAny (model prog w) A (call (.builtin "sum") [.ref a]) Q E s := by
  obtain ⟨h1, h2⟩ := sumL_ok hs
  obtain ⟨xs, e⟩ := hi.allInts.items
  have hns : ns = xs.toList.map (·.1) := by rw [← hi.numsOf, ← nums_intItems, ← e]
  have e' : vs = intItems xs := by rw [← e]
  rw [e'] at hl
  have hlen : ns.length = xs.size := by rw [hns, List.length_map, Array.length_toList]
  refine sum_intList hh hl (fun j hj => ?_) fun h' tk t' hk => ?_
  · rw [numAt_eq, preSum_eq, ← hns]
    obtain ⟨i1, i2⟩ := h2 j (by omega)
    exact ⟨i1, by simpa using i2⟩
  · rw [preSum_eq, ← hns, List.take_of_length_le (by omega)]
    have : c = ns.sum := by omega
    rw [← this]
    exact g _ h' tk hk (.int _ _)

theorem small_log {i : Int} (h : small i = true) : i.natAbs.log2 < 1920 := by
  have := small_iff h
  by_cases q : i.natAbs = 0
  · rw [q]; decide
  · have := (Nat.log2_lt q).mpr this
    omega
theorem digs_lim {i : Int} (h : small i = true) : (Str.ofString (toString i)).cps.size ≤ lim := int_text_fits (small_log h)

theorem min_eq {a b : Int} {t u : Tok} {h' : Heap} {tk : Nat} (g : Gv prog w Av s (.int (bif W.Z.ltB b a then b else a)) Q) (hk : ∀ c o, s.heap.get? c = some o → h'.get? c = some o) :
    Q (if b < a then .int b u else .int a t) { s with heap := h', toks := tk } := by
  by_cases q : b < a
  · rw [if_pos q]
    rw [(W.Z.ltB_iff _ _).mpr q] at g
    exact g _ h' tk hk (.int _ _)
  · rw [if_neg q]
    rw [W.Z.bool_no (W.Z.ltB_iff _ _) q] at g
    exact g _ h' tk hk (.int _ _)

theorem one1_inv {R : Type} {ws : List W} {k : PV → Option R} {x : R} (h0 : one1 ws k = some x) : ∃ d, ws = [.v d] ∧ k d = some x := by
  obtain ⟨w1, e, h⟩ := opt_inv h0
  obtain ⟨d, e1, h⟩ := pureW_inv h
  rw [e1] at e
  exact ⟨d, sole_inv e, h⟩
/-- what a built-in thing makes of its arguments -/
noncomputable def CallB (code : Nat) (ws : List W) (σ : Sto) (d : PV) : Prop :=
  ∀ {prog : Program} {w : World} {A : Around} {E : Value → Shared → Prop} {s : Shared} {Av : Addr → Prop} {Q : Value → Shared → Prop} {own : List Addr} {vs : List Value}, (∀ b, Av b → ∃ o, s.heap.get? b = some o) → A.handled = .none → All2 (RepW prog w Av own s.heap) vs ws →
    (∀ {v y l}, RepW prog w Av own s.heap v y → listV σ y = some l → ∃ a items, v = .ref a ∧ s.heap.IsList a items ∧ items.size ≤ lim ∧ All2 (Rep prog w Av s.heap) items.toList l) → Gv prog w Av s d Q → wpAny (model prog w) A (call (bval code) vs) Q E s
theorem r_one {own : List Addr} {h : Heap} {vs : List Value} {d : PV} (r : All2 (RepW prog w Av own h) vs [.v d]) : ∃ v, vs = [v] ∧ Rep prog w Av h v d := by
  obtain ⟨v, _, rfl, r1, r2⟩ := r.cons_r
  obtain rfl := r2.nil_r
  cases r1 with
  | v r1 => exact ⟨v, rfl, r1⟩
theorem lt63 {n : Nat} (h : n ≤ lim) : (n : Int) < 2 ^ 63 := by
  have h : n ≤ 16777216 := h
  omega
section
variable {R : Type} {ws : List W} {σ : Sto} {k : PV → Option R} {x : R}
theorem cLen_ok (h0 : cLen ws k = some x) : ∃ d, k d = some x ∧ CallB 1 ws σ d := by
  obtain ⟨d, rfl, h⟩ := one1_inv h0
  obtain ⟨n, e, h⟩ := opt_inv h
  refine ⟨_, h, fun {prog w A E s Av Q own vs} hav hh r hl g => ?_⟩
  obtain ⟨v, rfl, r1⟩ := r_one r
  cases d with
  | list l =>
    cases e
    obtain ⟨a, items, rfl, _, hL, z, X⟩ := r1.list_inv
    exact call_len_list hL (lt63 z) (by rw [lv_len _ _ X]; exact g.int)
  | tup l =>
    cases e
    obtain ⟨a, items, rfl, _, hL, z, X⟩ := r1.tup_inv
    exact PyProof.Rows.len_tuple hL (lt63 z) (by rw [lv_len _ _ X]; exact g.int)
  | bytes l =>
    cases e
    obtain ⟨b, t, rfl, z, rfl⟩ := r1.bytes_inv
    rw [List.length_map, Array.length_toList] at g
    exact PySem.W.len_bytes (Nat.le_trans z (by decide)) g.int
  | str l =>
    cases e
    cases r1 with
    | str b t z =>
    rw [Array.length_toList] at g
    exact PyProof.Rows.len_str (show ¬ ((b.cps.size : Nat) : Int) ≥ 2 ^ 63 from Int.not_le.mpr (lt63 z)) (show Q (.int ((b.cps.size : Nat) : Int) _) _ from g.int)
  | _ => exact none_some e
theorem cAbs_ok (h0 : cAbs ws k = some x) : ∃ d, k d = some x ∧ CallB 2 ws σ d := by
  obtain ⟨d, rfl, h⟩ := one1_inv h0
  obtain ⟨i, rfl, h⟩ := intV_inv h
  refine ⟨_, h, fun hav hh r hl g => ?_⟩
  obtain ⟨v, rfl, r1⟩ := r_one r
  obtain ⟨t, rfl⟩ := r1.int_inv
  refine PyProof.Rows.call_abs_int fun u tk => ?_
  rw [abs_eq]
  exact g.int
theorem cBytes_ok (h0 : cBytes ws σ k = some x) : ∃ d, k d = some x ∧ CallB 3 ws σ d := by
  obtain ⟨w1, e, h⟩ := opt_inv h0
  obtain rfl := sole_inv e
  obtain ⟨l, q1, h⟩ := opt_inv h
  obtain ⟨ns, q2, h⟩ := opt_inv h
  obtain ⟨bs, q3, h⟩ := opt_inv h
  refine ⟨_, h, fun hav hh r hl g => ?_⟩
  obtain ⟨v, _, rfl, r1, r2⟩ := r.cons_r
  obtain rfl := r2.nil_r
  obtain ⟨a, items, rfl, hL, z, X⟩ := hl r1 q1
  obtain ⟨hb1, hb2⟩ := bytesOk_ok q3
  have hI := ints_of X q2
  refine call_bytes_ints (vs := items.toList) (by simpa using hL) hI hb1 (by rw [Array.length_toList]; exact z) hh fun h' t k hk => ?_
  refine g _ h' k hk ?_
  have e : bs = (byteArr ns).toList.map UInt8.toNat := by
    rw [hb2]
    unfold byteArr
    simp only [List.map_map]
    apply List.map_congr_left
    intro n hn
    obtain ⟨b1, b2⟩ := hb1 n hn
    show n.toNat = n.toNat.toUInt8.toNat
    rw [Nat.toUInt8, UInt8.toNat_ofNat']
    omega
  rw [e]
  refine .bytes _ _ ?_
  rw [PySem.byteArr_size, ← hI.length, Array.length_toList]; exact z
theorem cList_ok (h0 : cList ws k = some x) : ∃ d, k d = some x ∧ CallB 4 ws σ d := by
  obtain ⟨d, rfl, h⟩ := one1_inv h0
  obtain ⟨l, rfl, h⟩ := listD_inv h
  refine ⟨_, h, fun {prog w A E s Av Q own vs} hav hh r hl g => ?_⟩
  obtain ⟨v, rfl, r1⟩ := r_one r
  obtain ⟨a, items, rfl, _, ⟨o, ho, hc, n, hd⟩, z, X⟩ := r1.list_inv
  refine call_list_seq a (.inl rfl) ho hc hd (fun h' c' hk hn => ?_) z
  exact g _ h' s.toks hk (.list (fresh_of hav) hn rfl rfl z (RepL.of (X.imp fun _ _ q => q.grow (Grow.ext hk))))
theorem cTuple_ok (h0 : cTuple ws k = some x) : ∃ d, k d = some x ∧ CallB 5 ws σ d := by
  obtain ⟨d, rfl, h⟩ := one1_inv h0
  obtain ⟨l, rfl, h⟩ := listD_inv h
  refine ⟨_, h, fun {prog w A E s Av Q own vs} hav hh r hl g => ?_⟩
  obtain ⟨v, rfl, r1⟩ := r_one r
  obtain ⟨a, items, rfl, _, hL, z, X⟩ := r1.list_inv
  refine call_tuple_list hL (fun h' hk => ?_) z
  refine g _ _ s.toks (fun b o e => Heap.get?_push_of_some _ (hk b o e)) (Rep.newTup (fresh_of fun b q => ?_) z (X.imp fun _ _ q => q.grow (Grow.ext hk)))
  obtain ⟨o, ho⟩ := hav b q
  exact ⟨o, hk b o ho⟩
theorem cStr_ok (h0 : cStr ws k = some x) : ∃ d, k d = some x ∧ CallB 6 ws σ d := by
  obtain ⟨d, rfl, h⟩ := one1_inv h0
  obtain ⟨i, rfl, h⟩ := intV_inv h
  obtain ⟨q, h⟩ := cond_some h
  refine ⟨_, h, fun hav hh r hl g => ?_⟩
  obtain ⟨v, rfl, r1⟩ := r_one r
  obtain ⟨t, rfl⟩ := r1.int_inv
  exact PySem.P.str_of_int (small_log q) (g _ _ _ (fun _ _ e => e) (.str _ _ (digs_lim q)))
theorem cMax_ok (h0 : cMax ws k = some x) : ∃ d, k d = some x ∧ CallB 7 ws σ d := by
  obtain ⟨d, rfl, h⟩ := one1_inv h0
  obtain ⟨l, rfl, h⟩ := listD_inv h
  obtain ⟨ns, q2, h⟩ := opt_inv h
  cases ns with
  | nil => exact none_some h
  | cons i ns =>
  refine ⟨_, h, fun hav hh r hl g => ?_⟩
  obtain ⟨v, rfl, r1⟩ := r_one r
  obtain ⟨a, items, rfl, _, hL, z, X⟩ := r1.list_inv
  exact max_ok hh hL (ints_of X q2) g
theorem cMin_ok (h0 : cMin ws k = some x) : ∃ d, k d = some x ∧ CallB 8 ws σ d := by
  obtain ⟨p, e, h⟩ := opt_inv h0
  obtain rfl := duo_inv e
  obtain ⟨p1, p2⟩ := p
  obtain ⟨i, e1, h⟩ := intW_inv h
  obtain ⟨j, e2, h⟩ := intW_inv h
  dsimp only at e1 e2
  subst e1 e2
  refine ⟨_, h, fun hav hh r hl g => ?_⟩
  obtain ⟨v, _, rfl, rA, rB⟩ := r.cons_r
  obtain ⟨v2, rfl, rC⟩ := r_one rB
  cases rA with
  | v rA =>
  obtain ⟨t, rfl⟩ := rA.int_inv
  obtain ⟨u, rfl⟩ := rC.int_inv
  refine min_two_ints hh fun h' tk hk => ?_
  exact min_eq g hk
theorem cSum_ok (h0 : cSum ws k = some x) : ∃ d, k d = some x ∧ CallB 9 ws σ d := by
  obtain ⟨d, rfl, h⟩ := one1_inv h0
  obtain ⟨l, rfl, h⟩ := listD_inv h
  obtain ⟨ns, q2, h⟩ := opt_inv h
  obtain ⟨c, q3, h⟩ := opt_inv h
  refine ⟨_, h, fun hav hh r hl g => ?_⟩
  obtain ⟨v, rfl, r1⟩ := r_one r
  obtain ⟨a, items, rfl, _, hL, z, X⟩ := r1.list_inv
  exact sum_ok hh hL (ints_of X q2) q3 g
/-- a built-in thing called -/
theorem callB_ok : ∀ {code : Nat}, callB code ws σ k = some x → code ≠ 0 ∧ ∃ d, k d = some x ∧ CallB code ws σ d
  | 0, h => none_some h
  | 1, h => ⟨Nat.succ_ne_zero _, cLen_ok h⟩
  | 2, h => ⟨Nat.succ_ne_zero _, cAbs_ok h⟩
  | 3, h => ⟨Nat.succ_ne_zero _, cBytes_ok h⟩
  | 4, h => ⟨Nat.succ_ne_zero _, cList_ok h⟩
  | 5, h => ⟨Nat.succ_ne_zero _, cTuple_ok h⟩
  | 6, h => ⟨Nat.succ_ne_zero _, cStr_ok h⟩
  | 7, h => ⟨Nat.succ_ne_zero _, cMax_ok h⟩
  | 8, h => ⟨Nat.succ_ne_zero _, cMin_ok h⟩
  | 9, h => ⟨Nat.succ_ne_zero _, cSum_ok h⟩
  | _ + 10, h => none_some h
end
end
end Og
end
section
open PySem PySem.Calls PyProof.Rows
namespace Og
section
open PySem.Builtin
noncomputable def byteVals (l : List (Array UInt8 × Tok)) : List Value := l.map fun p => .bytes p.1 p.2
theorem take_bytes {id : String} {b : Array UInt8} {t : Tok} : Bytes.takeBuffer? id (.bytes b t) 0 = pure (some (b, none)) := by
  unfold Bytes.takeBuffer?
  rw [PySem.W.KBy.special_eq PySem.W.KBy.look_buffer, PySem.W.KBy.own_buffer]
  have e : ((0 : Int) == Bytes.fullReadOnly) = false := by decide
  rw [e, PySem.W.KBy.buffer_eq]
  rfl
theorem takeQuiet_bytes {id : String} {b : Array UInt8} {t : Tok} : Bytes.takeBufferQuiet? id (.bytes b t) 0 = pure (some (b, none)) := by
  unfold Bytes.takeBufferQuiet?
  rw [take_bytes]
  rfl
theorem heap_bytes {b : Array UInt8} {t : Tok} : (Value.bytes b t).onHeap = false := rfl

variable {prog : Program} {w : World} {A : Around} {E : Value → Shared → Prop} {s : Shared} {Q : Fin → Shared → Prop}
theorem any_bytes : ∀ l : List (Array UInt8 × Tok), ((l.map fun p => (Value.bytes p.1 p.2, (none : Option Value))).any fun x => x.1.onHeap) = false
  | [] => rfl
  | p :: r => by rw [List.map_cons, List.any_cons, any_bytes r]; rfl
theorem take_snoc {α : Type} {l : List α} {i : Nat} (h : i < l.length) : l.take (i + 1) = l.take i ++ [l[i]] := by
  rw [List.take_add_one, List.getElem?_eq_getElem h]; rfl
theorem fold_sizes : ∀ (l : List (Array UInt8)) (a : Nat), l.foldl (fun a p => a + p.size) a = a + (l.map (·.size)).sum
  | [], a => by simp
  | x :: r, a => by rw [List.foldl_cons, fold_sizes r, List.map_cons, List.sum_cons]; omega
theorem glue_cons {α : Type} (sep a : List α) : ∀ r : List (List α), glue sep (a :: r) = a ++ r.flatMap fun p => sep ++ p
  | [] => by simp [glue]
  | b :: r => by
    show a ++ (sep ++ glue sep (b :: r)) = _
    rw [glue_cons sep b r]
    simp
theorem glue_map {α β : Type} (f : α → β) (sep : List α) : ∀ l : List (List α), (glue sep l).map f = glue (sep.map f) (l.map fun x => x.map f)
  | [] => rfl
  | a :: r => by
    rw [List.map_cons, glue_cons, glue_cons, List.map_append]
    congr 1
    induction r with
    | nil => rfl
    | cons b r ih => simp [ih]
theorem joined_fold (sep : Array UInt8) : ∀ (parts : List (Array UInt8)) (k : Nat) (out : Array UInt8), 0 < k →
    ((parts.zipIdx k).foldl (fun out (p : Array UInt8 × Nat) => (if p.2 > 0 then out ++ sep else out) ++ p.1) out).toList = out.toList ++ parts.flatMap fun p => sep.toList ++ p.toList
  | [], k, out, _ => by simp
  | p :: r, k, out, hk => by
    rw [List.zipIdx_cons, List.foldl_cons, joined_fold sep r (k + 1) _ (by omega)]
    simp [hk]
theorem joined_glue (sep : Array UInt8) (parts : List (Array UInt8)) : (Bytes.joined sep parts).toList = glue sep.toList (parts.map Array.toList) := by
  unfold Bytes.joined
  cases parts with
  | nil => simp [glue]
  | cons p r =>
    rw [List.zipIdx_cons, List.foldl_cons, joined_fold sep r _ _ (by omega), List.map_cons, glue_cons]
    simp [List.flatMap_map]
theorem joinLetGo_ok {l : List (Array UInt8 × Tok)} {kp : List Value} {Q : Unit → Shared → Prop} (h : Q () s) : wpAny (model prog w) A (Bytes.joinLetGo (l.map fun p => (Value.bytes p.1 p.2, none)) kp) Q E s := by
  induction l with
  | nil => exact wpAny_pure h
  | cons p r ih =>
    simp only [List.map_cons, Bytes.joinLetGo]
    exact wpAny_bind (wpAny_letGo ih)

theorem bjoin_tree {D : Addr} {sep : Array UInt8} {t : Tok} {l : List (Array UInt8 × Tok)} (hl : s.heap.IsList D (byteVals l).toArray)
    (hj : (Bytes.joined sep (l.map (·.1))).size ≤ sizeLine) (hz : (l.map (·.1.size)).sum + sep.size * (l.length - 1) ≤ 16777216)
    (h : ∀ t' k, Q (.done (.ret (.bytes (Bytes.joined sep (l.map (·.1))) t'))) { s with toks := k }) : wpAny (model prog w) A (Builtin.«bytes.join» ⟨[.bytes sep t, .ref D], []⟩) Q E s := by
  obtain ⟨o, ho, hc, n, hd⟩ := id hl
  unfold Builtin.«bytes.join» Bytes.joinM
  dsimp only
  refine wpAny_bind (wpAny_of_eq (a := (Value.bytes sep t, Value.ref D)) rfl ?_)
  dsimp only
  rw [if_pos (by decide)]
  refine wpAny_bind ?_
  unfold Bytes.joinItems
  refine wpAny_bind (wpAny_typeOf hl.typeIs ?_)
  rw [if_pos (by decide)]
  refine wpAny_pure (wpAny_bind (wpAny_seqItems ho hd ?_))
  dsimp only
  rw [if_pos (by decide)]
  obtain ⟨l', hl'⟩ : ∃ l', l' = l := ⟨l, rfl⟩
  rw [← hl'] at hl hd hz h hj
  rcases l with _ | ⟨p, _ | ⟨q, r⟩⟩
  rotate_left
  · subst hl'
    show wpAny _ _ (typeOf (Value.bytes p.1 p.2) >>= _) _ _ s
    refine wpAny_bind (wpAny_typeOf (PySem.W.typeIs_bytes _ _ _) ?_)
    rw [if_pos (by decide)]
    refine wpAny_bind (wpAny_rule (wpAny_pure ?_))
    have e : Bytes.joined sep [p.1] = p.1 := by simp [Bytes.joined]
    rw [List.map_cons, List.map_nil, e] at h
    exact h p.2 s.toks
  · show wpAny _ _ (forIn _ _ _ >>= _) _ _ s
    refine wpAny_bind ?_
    rw [← hl']
    clear hl'
    rw [Std.Legacy.Range.forIn_eq_forIn_range']
    refine wpAny_forIn_list _ (fun rest st s' => s' = s ∧ ∃ k, k ≤ l'.length ∧ rest = List.range' k (l'.length - k) ∧
      st = (((l'.take k).map (·.1)).toArray, (l'.take k).map fun p => (Value.bytes p.1 p.2, none))) _ ?_ ?_ _ _ ⟨rfl, 0, Nat.zero_le _, by simp [byteVals, Std.Legacy.Range.size], by simp⟩
    · rintro i rest st s' ⟨rfl, k, hk, hr, rfl⟩
      have hlt : k < l'.length := by
        apply Classical.byContradiction
        intro hn
        have : l'.length - k = 0 := by omega
        rw [this] at hr
        cases hr
      have e1 : l'.length - k = (l'.length - (k + 1)) + 1 := by omega
      rw [e1, List.range'_succ] at hr
      injection hr with hi hrest
      subst hi hrest
      refine wpAny_bind (wpAny_seqItems ho hd ?_)
      dsimp only
      have hx : (byteVals l').toArray.getD i .none = .bytes l'[i].1 l'[i].2 := by
        simp [byteVals, hlt]
      rw [hx]
      rw [if_neg (by rw [any_bytes]; decide)]
      refine wpAny_bind (wpAny_holding (wpAny_of_eq takeQuiet_bytes ?_))
      dsimp only
      refine wpAny_bind (wpAny_seqItems ho hd ?_)
      dsimp only
      rw [if_neg (by simp)]
      refine wpAny_pure ⟨rfl, i + 1, hlt, rfl, ?_⟩
      rw [take_snoc hlt, List.map_append, List.map_append]
      simp
    · rintro st s' ⟨rfl, k, hk, hr, rfl⟩
      have hkk : k = l'.length := by
        have := congrArg List.length hr
        simp at this
        omega
      subst hkk
      simp only [List.take_length]
      refine wpAny_bind (wpAny_of_eq (a := sep) rfl ?_)
      have hsz : (((l'.map (·.1)).toArray).foldl (fun a p => a + p.size) (sep.size * ((l'.map (·.1)).toArray.size - 1))) ≤ 16777216 := by
        have e0 : (l'.map (·.1)).toArray.size = l'.length := by simp
        rw [List.foldl_toArray, fold_sizes, e0, List.map_map, Nat.add_comm]
        exact hz
      rw [if_neg (by rw [PySem.W.KBy.tooLong_not hsz]; exact Bool.false_ne_true)]
      show wpAny _ _ (mkBytes _ >>= _) _ _ s'
      refine wpAny_bind (wpAny_mkBytes ?_ hj)
      refine wpAny_bind (wpAny_holding (wpAny_point (wpAny_bind (joinLetGo_ok ?_))))
      exact wpAny_pure (h _ _)
  · subst hl'
    show wpAny _ _ (forIn _ _ _ >>= _) _ _ s
    refine wpAny_bind ?_
    rw [Std.Legacy.Range.forIn_eq_forIn_range']
    refine wpAny_pure (wpAny_bind (wpAny_of_eq (a := sep) rfl ?_))
    rw [if_neg (by rw [PySem.W.KBy.tooLong_not (by simpa using hz)]; exact Bool.false_ne_true)]
    show wpAny _ _ (mkBytes _ >>= _) _ _ s
    refine wpAny_bind (wpAny_mkBytes ?_ hj)
    exact wpAny_bind (wpAny_holding (wpAny_point (wpAny_bind (wpAny_pure (wpAny_pure (h _ _))))))
end
end Og
end
section
open PySem PySem.Calls PyProof.Rows
namespace Og
theorem slot_bytes_join : Slot "bytes" "join" "bytes.join" :=
  .of (owner := "bytes") (n := "join") (by rw [typeLookup_type, builtinLookup_eq_fast]; kernel_rfl) (by decide +kernel) (by decide +kernel) (by decide +kernel)
    (by first | exact .inl (by decide +kernel) | exact .inr (by decide +kernel)) (by rw [isSubtype_type]; kernel_rfl)
theorem type_bytes_join : typeOf (.builtin "bytes.join") = pure (.type "method_descriptor") := by show builtinType _ = _; rw [builtinType_eq_fast]; kernel_rfl
theorem entry_bytes_join : entryFor table "bytes.join" = some Builtin.«bytes.join» := entryFor_of_tree (by kernel_rfl)
theorem args_bytes_join (a b : Value) : argsOk "bytes.join" ⟨[a, b], []⟩ := by
  unfold argsOk; rw [signature?_of (id := "bytes.join") (n := ['n', 'i', 'o', 'j']) (o := ['s', 'e', 't', 'y', 'b']) (by kernel_rfl) PySem.W.FB.owner_bytes]; kernel_rfl

/-- None or an int as a dict's key -/
noncomputable def isO : Option Int → Value → Bool
  | some i, v => Value.isInt i v
  | .none, v => v == .none
noncomputable def hashNone : Int := 0xFCA86420
section
variable {prog : Program} {w : World} {A : Around} {E : Value → Shared → Prop} {s : Shared}
theorem pyHash_none {Q : Int → Shared → Prop} (h : Q hashNone { s with toks := s.toks + 1 }) : wpAny (model prog w) A (pyHash .none) Q E s := by
  unfold pyHash
  have hv : [Value.none].any Value.onHeap = false := rfl
  have hT : s.TypeIs .none "NoneType" := rfl
  refine wpAny_bind ?_
  rw [cRoomFor, if_neg (by rw [hv]; exact Bool.false_ne_true)]; refine wpAny_pure ?_
  refine wpAny_bind (wpAny_specialOf hT PySem.F.slot_NoneType_hash.lookup ?_)
  show wpAny _ _ (if (some (Value.builtin "NoneType.__hash__") == some Value.none) = true then _ else _) Q E s
  rw [if_neg (by rw [beq_builtin_none]; exact Bool.false_ne_true)]
  refine wpAny_bind (wpAny_specialOf hT PySem.F.slot_NoneType_hash.lookup ?_)
  show wpAny _ _ (callSpecialIfBoundUnlessNone? .none "__hash__" _ >>= _) Q E s
  refine wpAny_bind (wpAny_callSpecialIfBoundUnlessNone?_slot hT PySem.F.slot_NoneType_hash
    (wpAny_call_entry PySem.F.slot_NoneType_hash hT PySem.F.entry_NoneType_hash
      (show wpAny _ _ (do ret (← mkInt hashNone)) _ _ s from wpAny_ret_mkInt ?_) (PySem.F.args_NoneType_hash_1 _)))
  show wpAny _ _ (if (decide (-(2 : Int) ^ 63 ≤ hashNone) && decide (hashNone < 2 ^ 63)) = true then _ else _) Q E _
  rw [if_pos (by decide)]
  exact wpAny_pure h
theorem eqBool_none_int {b : Int} {u : Tok} {Q : Bool → Shared → Prop} (h : Q false s) : wpAny (model prog w) A (eqBool .none (.int b u)) Q E s := by
  unfold eqBool
  refine wpAny_holding ?_
  rw [if_neg (show ¬ ((Value.none == Value.int b u) = true) from Bool.false_ne_true)]
  show wpAny _ _ (richCompare .Eq .none (.int b u) >>= _) _ _ s
  exact wpAny_bind (show wpAny _ _ (compareOp .Eq .none (.int b u)) _ _ _ from PySem.EqNone.eq_none_int (wpAny_truthy_bool h))
theorem eqBool_int_none {b : Int} {u : Tok} {Q : Bool → Shared → Prop} (h : Q false s) : wpAny (model prog w) A (eqBool (.int b u) .none) Q E s := by
  unfold eqBool
  refine wpAny_holding ?_
  rw [if_neg (show ¬ ((Value.int b u == Value.none) = true) from Bool.false_ne_true)]
  show wpAny _ _ (richCompare .Eq (.int b u) .none >>= _) _ _ s
  exact wpAny_bind (show wpAny _ _ (compareOp .Eq (.int b u) .none) _ _ _ from PySem.EqNone.eq_int_none (wpAny_truthy_bool h))
theorem eqBool_none_none {Q : Bool → Shared → Prop} (h : Q true s) : wpAny (model prog w) A (eqBool .none .none) Q E s := by
  unfold eqBool
  refine wpAny_holding ?_
  rw [if_pos (show (Value.none == Value.none) = true from rfl)]
  exact wpAny_bind (wpAny_rule (wpAny_pure h))
end
theorem isO_none {v : Value} (h : isO .none v = true) : v = .none := eq_of_beq h
theorem isO_some {i : Int} {v : Value} (h : isO (some i) v = true) : ∃ t, v = .int i t := Value.isInt_shape h
noncomputable def oKind (prog : Program) (w : World) : KeyKind prog w (Option Int) where
  is := isO
  hash := fun | some i => hashInt i | .none => hashNone
  inj := fun v a b ha hb => by
    cases a with
    | none =>
      obtain rfl := isO_none ha
      cases b with
      | none => rfl
      | some j => obtain ⟨t, e⟩ := isO_some hb; cases e
    | some i =>
      obtain ⟨t, rfl⟩ := isO_some ha
      cases b with
      | none => have := isO_none hb; cases this
      | some j => obtain ⟨u, e⟩ := isO_some hb; cases e; rfl
  byValue := fun k v h => by
    cases k with
    | none => obtain rfl := isO_none h; rfl
    | some i => obtain ⟨t, rfl⟩ := isO_some h; rfl
  pyHash := fun {A E s k v Q} hv h => by
    cases k with
    | none => obtain rfl := isO_none hv; exact pyHash_none h
    | some i => obtain ⟨t, rfl⟩ := isO_some hv; exact wpAny_pyHash_int h
  eqBool := fun {A E s a b u v Q} hu hv h => by
    cases a with
    | none =>
      obtain rfl := isO_none hu
      cases b with
      | none => obtain rfl := isO_none hv; exact eqBool_none_none (by simpa using h)
      | some j => obtain ⟨t, rfl⟩ := isO_some hv; exact eqBool_none_int (by simpa using h)
    | some i =>
      obtain ⟨t, rfl⟩ := isO_some hu
      cases b with
      | none => obtain rfl := isO_none hv; exact eqBool_int_none (by simpa using h)
      | some j =>
        obtain ⟨t, rfl⟩ := isO_some hv
        refine wpAny_eqBool_int ?_
        have e : decide (some i = some j) = (i == j) := by
          by_cases q : i = j
          · subst q; simp
          · simp [q]
        rw [← e]; exact h
  «strs» := fun k x t v h => by cases k <;> simp [isO, Value.isInt] at h

section
variable {prog : Program} {w : World} {A : Around} {E : Value → Shared → Prop} {s : Shared} {Av : Addr → Prop} {Q : Value → Shared → Prop}
theorem mapO {h : Heap} {a : Addr} {f : Int → Option Value} (m : h.MapOf (intKind prog w) a f) : h.MapOf (oKind prog w) a (fun k => match k with | some i => f i | .none => .none) := by
  obtain ⟨o, es, ep, ho, hx, hd, hk, hf⟩ := m
  refine ⟨o, es, ep, ho, hx, hd, fun e he => ?_, fun k => ?_⟩
  · obtain ⟨k, h1, h2⟩ := hk e he
    exact ⟨some k, h1, h2⟩
  · cases k with
    | some i => exact hf i
    | none =>
      unfold findBy
      have : es.find? (fun e => isO .none e.key) = .none := by
        rw [Array.find?_eq_none]
        intro e he q
        obtain ⟨k, h1, _⟩ := hk e he
        obtain ⟨t, h3⟩ := Value.isInt_shape h1
        rw [h3] at q
        have := isO_none q
        cases this
      show Option.map _ (es.find? (fun e => isO .none e.key)) = _
      rw [this]; rfl

theorem call_get {a : Addr} {f : Int → Option Value} {k : Option Int} {key dv : Value} (m : s.heap.MapOf (intKind prog w) a f) (hs : (a == sysModules) = false) (hk : isO k key = true)
    (h : Q ((match k with | some i => f i | .none => .none).getD dv) { s with toks := s.toks + 1 }) : wpAny (model prog w) A (call (.builtin "dict.get") [.ref a, key, dv]) Q E s := by
  have hT : s.TypeIs (.ref a) "dict" := m.typeIs
  exact call_meetsIn PySem.F.slot_dict_get hT PySem.F.entry_dict_get (PySem.F.args_dict_get_3 _ _ _)
    (meets_dict_get_default (prog := prog) (w := w) (oKind prog w) (k := k) (key := key) a hk hs dv) ⟨_, mapO m, h⟩
end
end Og
end
section
open PySem PySem.Calls PyProof.Rows
namespace Og
/-- what stands for a whole frame -/
structure Pt {prog : Program} {w : World} (B : Bs prog w) (n : Nat) (K : Cx) (env : Env) (A : Around) : Prop where
  k : KOk B n K
  x : EnvOk env K
  a : AOk A n

section
variable {prog : Program} {w : World} (B : Bs prog w) (env : Env) (hE : Addr → Option Obj) (Mu : Addr → Prop)
noncomputable def PE (Av : Addr → Prop) (own : List Addr) (s : Shared) (ρ : Rho) (x : W) (σ' : Sto) (Q : Value → Shared → Prop) : Prop :=
  ∀ v Av' own' s', Stp Av own s Av' own' s' → Fra B env hE Mu Av' own' ρ σ' s' → RepW prog w Av' own' s'.heap v x → Q v s'
noncomputable def PB (Av : Addr → Prop) (own : List Addr) (s : Shared) (ρ : Rho) (x : Bool) (σ' : Sto) (Q : Bool → Shared → Prop) : Prop :=
  ∀ Av' own' s', Stp Av own s Av' own' s' → Fra B env hE Mu Av' own' ρ σ' s' → Q x s'
noncomputable def PL (Av : Addr → Prop) (own : List Addr) (s : Shared) (ρ : Rho) (xs : List W) (σ' : Sto) (Q : List Value → Shared → Prop) : Prop :=
  ∀ vs Av' own' s', Stp Av own s Av' own' s' → Fra B env hE Mu Av' own' ρ σ' s' → All2 (RepW prog w Av' own' s'.heap) vs xs → Q vs s'
inductive RepF (prog : Program) (w : World) (Av : Addr → Prop) (own : List Addr) (h : Heap) : Flow → Fl → Prop
  | next : RepF prog w Av own h .next .next
  | ret {v x} : RepW prog w Av own h v x → RepF prog w Av own h (.ret v) (.ret x)
noncomputable def PS (Av : Addr → Prop) (own : List Addr) (s : Shared) (f : Fl) (ρ' : Rho) (σ' : Sto) (Q : Flow → Shared → Prop) : Prop :=
  ∀ fl Av' own' s', Stp Av own s Av' own' s' → Fra B env hE Mu Av' own' ρ' σ' s' → RepF prog w Av' own' s'.heap fl f → Q fl s'
end

section
variable (prog : Program) (w : World)
noncomputable def SemE (e : PySem.Expr) (K : Cx) (ρ : Rho) (σ : Sto) (x : W) (σ' : Sto) : Prop :=
  ∀ {B : Bs prog w} {n env hE Mu A}, Pt B n K env A → ∀ {Av own s Q E}, Fra B env hE Mu Av own ρ σ s → PE B env hE Mu Av own s ρ x σ' Q → wpAny (model prog w) A (eval e env) Q E s
noncomputable def SemT (e : PySem.Expr) (K : Cx) (ρ : Rho) (σ : Sto) (b : Bool) (σ' : Sto) : Prop :=
  ∀ {B : Bs prog w} {n env hE Mu A}, Pt B n K env A → ∀ {Av own s Q E}, Fra B env hE Mu Av own ρ σ s → PB B env hE Mu Av own s ρ b σ' Q → wpAny (model prog w) A (isTrue e env (eval e env)) Q E s
noncomputable def SemL (es : List PySem.Expr) (K : Cx) (ρ : Rho) (σ : Sto) (xs : List W) (σ' : Sto) : Prop :=
  ∀ {B : Bs prog w} {n env hE Mu A}, Pt B n K env A → ∀ {Av own s Q E}, Fra B env hE Mu Av own ρ σ s → PL B env hE Mu Av own s ρ xs σ' Q → ∀ pos, wpAny (model prog w) A (spliced (backTo pos (starEach es env))) Q E s
noncomputable def SemS (st : Stmt) (K : Cx) (ρ : Rho) (σ : Sto) (f : Fl) (ρ' : Rho) (σ' : Sto) : Prop :=
  ∀ {B : Bs prog w} {n env hE Mu A}, Pt B n K env A → env.func.isSome = true → ∀ {Av own s Q E}, Fra B env hE Mu Av own ρ σ s → PS B env hE Mu Av own s f ρ' σ' Q → wpAny (model prog w) A (exec st env) Q E s
noncomputable def SemSS (st : List Stmt) (K : Cx) (ρ : Rho) (σ : Sto) (f : Fl) (ρ' : Rho) (σ' : Sto) : Prop :=
  ∀ {B : Bs prog w} {n env hE Mu A}, Pt B n K env A → env.func.isSome = true → ∀ {Av own s Q E}, Fra B env hE Mu Av own ρ σ s → PS B env hE Mu Av own s f ρ' σ' Q → wpAny (model prog w) A (execs st env) Q E s
end

noncomputable def compE : PySem.Expr → Bool
  | .ListComp .. => true
  | .SetComp .. => true
  | .DictComp .. => true
  | _ => false
structure Ok (prog : Program) (w : World) {R : Type} (ih : Ev R) : Prop where
  e : ∀ {e K ρ σ k r}, ih.e e K ρ σ k = some r → plainE e = true ∧ ∃ x σ', k x σ' = some r ∧ SemE prog w e K ρ σ x σ'
  t : ∀ {e K ρ σ k r}, ih.t e K ρ σ k = some r → ∃ b σ', k b σ' = some r ∧ SemT prog w e K ρ σ b σ'
  c : ∀ {e K ρ σ k r}, ih.e e K ρ σ k = some r → compE e = true → ∃ x σ', k x σ' = some r ∧ ∀ y xp pos, stOk K.sc y = true → SemS prog w (.Assign [.Name y xp] e pos) K ρ σ .next (upd ρ y x) σ'
  s : ∀ {st K ρ σ k r}, ih.s st K ρ σ k = some r → ∃ f ρ' σ', k f ρ' σ' = some r ∧ SemS prog w st K ρ σ f ρ' σ'

section
variable {prog : Program} {w : World} {B : Bs prog w} {n : Nat} {K : Cx} {env : Env} {hE : Addr → Option Obj} {Mu Av : Addr → Prop} {own : List Addr} {A : Around} {ρ : Rho} {σ σ' : Sto} {s s' : Shared} {E : Value → Shared → Prop}
  {R : Type} {ih : Ev R}

theorem plain_star {e : PySem.Expr} (h : plainE e = true) (r : List PySem.Expr) (env : Env) : starEach (e :: r) env = (false, eval e env) :: starEach r env := by
  cases e <;> first | rfl | cases h
theorem plain_in {e : PySem.Expr} (h : plainE e = true) (op : CmpOp) : behindInMarks op e = false := by
  cases e <;> first | rfl | cases h
theorem plain_set {e : PySem.Expr} (h : plainE e = true) (env : Env) (x : Value) : foldedSetIterable e env x = pure x := by
  cases e <;> first | rfl | cases h

/-- nothing but the heap's growth and the numbers of objects -/
theorem PE.gv {x : PV} {Q : Value → Shared → Prop} (F : Fra B env hE Mu Av own ρ σ s) (p : PE B env hE Mu Av own s ρ (.v x) σ Q) : Gv prog w Av s x Q :=
  fun _ _ _ k r => p _ _ _ _ (Stp.ext k) (F.ext k) (.v r)
theorem PE.stp {x : W} {Q : Value → Shared → Prop} {Av' : Addr → Prop} {own' : List Addr} (S : Stp Av own s Av' own' s') (p : PE B env hE Mu Av own s ρ x σ' Q) : PE B env hE Mu Av' own' s' ρ x σ' Q :=
  fun v _ _ _ S' F r => p v _ _ _ (S.trans S') F r
theorem PB.stp {x : Bool} {Q : Bool → Shared → Prop} {Av' : Addr → Prop} {own' : List Addr} (S : Stp Av own s Av' own' s') (p : PB B env hE Mu Av own s ρ x σ' Q) : PB B env hE Mu Av' own' s' ρ x σ' Q :=
  fun _ _ _ S' F => p _ _ _ (S.trans S') F
theorem PL.stp {x : List W} {Q : List Value → Shared → Prop} {Av' : Addr → Prop} {own' : List Addr} (S : Stp Av own s Av' own' s') (p : PL B env hE Mu Av own s ρ x σ' Q) : PL B env hE Mu Av' own' s' ρ x σ' Q :=
  fun v _ _ _ S' F r => p v _ _ _ (S.trans S') F r
theorem PS.stp {f : Fl} {ρ' : Rho} {Q : Flow → Shared → Prop} {Av' : Addr → Prop} {own' : List Addr} (S : Stp Av own s Av' own' s') (p : PS B env hE Mu Av own s f ρ' σ' Q) : PS B env hE Mu Av' own' s' f ρ' σ' Q :=
  fun v _ _ _ S' F r => p v _ _ _ (S.trans S') F r

theorem Str_beq_of_strB {x y : Str} (h : strB x y = false) : (x == y) = false := by
  cases q : (x == y) with
  | false => rfl
  | true =>
    have := (strB_iff x y).mpr (eq_of_beq q)
    rw [h] at this; cases this
theorem okN_iff {x : Str} (h : okN x = true) : (x == ("__debug__" : Str)) = false ∧ (x == ("__classdict__" : Str)) = false := by
  unfold okN at h
  cases q1 : strB x "__debug__" with
  | true => rw [q1] at h; cases h
  | false =>
    rw [q1] at h
    cases q2 : strB x "__classdict__" with
    | true => rw [q2] at h; cases h
    | false => exact ⟨Str_beq_of_strB q1, Str_beq_of_strB q2⟩

theorem Pt.kindOf (P : Pt B n K env A) (x : Str) : env.kindOf x = kindIn K.sc x := by
  rw [kindIn_eq, P.x.sc]; rfl
theorem load_ok {x : Str} {y : W} {Q : Value → Shared → Prop} (P : Pt B n K env A) (F : Fra B env hE Mu Av own ρ σ s) (hx : okN x = true) (h : get ρ x = some y)
    (q : ∀ v, RepW prog w Av own s.heap v y → Q v s) : wpAny (model prog w) A (loadName env x) Q E s := by
  rcases F.vis x y h with l | l | l
  · obtain ⟨m, hn, hv⟩ := F.loc
    obtain ⟨v, h1, h2⟩ := hv x y h l
    exact wpAny_loadName_local P.x.kind l hn h1 (q v h2)
  · obtain ⟨a, v, h1, h2, h3⟩ := F.box x y h (.inl l)
    exact wpAny_loadName_cell P.x.kind l h1 h2 (q v h3)
  · obtain ⟨a, v, h1, h2, h3⟩ := F.box x y h (.inr l)
    exact wpAny_loadName_free P.x.kind l h1 h2 (q v h3) (okN_iff hx).2
theorem globOk_kind (P : Pt B n K env A) {x : Str} (h : globOk K x = true) : env.kindOf x = some .globalImplicit := by
  rw [P.kindOf]
  unfold globOk at h
  cases q : kindIn K.sc x with
  | none => rw [q] at h; exact false_ne h
  | some k =>
    rw [q] at h
    cases k <;> first | rfl | exact false_ne h
theorem loadG_ok {x : Str} {v : Value} {Q : Value → Shared → Prop} {pos : Pos} (P : Pt B n K env A) (F : Fra B env hE Mu Av own ρ σ s) (hx : okN x = true) (hg : globOk K x = true) (hv : B.mg x = some v)
    (q : Q v s) : wpAny (model prog w) A (eval (.Name x pos) env) Q E s := by
  refine Calls.Name_function_global P.x.kind (globOk_kind P hg) (Calls.loadGlobal_global (mg := B.mg) ?_ hv q) (okN_iff hx).1
  rw [P.x.glob]
  exact B.hg.keeps F.base
theorem loadB_ok {x : Str} {Q : Value → Shared → Prop} {pos : Pos} (P : Pt B n K env A) (F : Fra B env hE Mu Av own ρ σ s) (hx : okN x = true) (hg : globOk K x = true) (hv : bcode x ≠ 0)
    (q : Q (bval (bcode x)) s) : wpAny (model prog w) A (eval (.Name x pos) env) Q E s := by
  obtain ⟨h1, h2⟩ := B.bi x hv
  refine Calls.Name_function_global P.x.kind (globOk_kind P hg) (Calls.loadGlobal_builtin (mg := B.mg) (mb := B.mb) ?_ h1 ?_ h2 q) (okN_iff hx).1
  · rw [P.x.glob]; exact B.hg.keeps F.base
  · rw [P.x.blt]; exact B.hb.keeps F.base

theorem e_name {x : Str} {pos : Pos} {k : W → Sto → Option R} {r : R} (h : stepE ih (.Name x pos) K ρ σ k = some r) : ∃ y σ', k y σ' = some r ∧ SemE prog w (.Name x pos) K ρ σ y σ' := by
  have h : evName x K ρ σ k = some r := h
  unfold evName at h
  obtain ⟨hx, h⟩ := cond_some h
  cases q : get ρ x with
  | some y =>
    rw [q] at h
    refine ⟨y, σ, h, fun P _ _ _ _ _ F p => ?_⟩
    exact wpAny_Name (load_ok P F hx q fun v rv => p v _ _ _ (Stp.refl _ _ _) F rv) (okN_iff hx).1
  | none =>
    rw [q] at h
    obtain ⟨hg, h⟩ := cond_some h
    cases q2 : K.fn x with
    | some _ => rw [q2] at h; exact none_some h
    | none =>
      rw [q2] at h
      obtain ⟨d, q3, h⟩ := opt_inv h
      refine ⟨.v d, σ, h, fun P _ _ _ _ _ F p => ?_⟩
      obtain ⟨v, h1, h2⟩ := P.k.gl x d q3 q2
      refine loadG_ok P F hx hg h1 (p v _ _ _ (Stp.refl _ _ _) F (.v ?_))
      exact h2.grow ⟨fun _ z => z.elim, fun b z _ => F.av0 b z, fun b o z _ => F.base b o z⟩

theorem evL_ok (O : Ok prog w ih) : ∀ {es : List PySem.Expr} {σ : Sto} {k : List W → Sto → Option R} {r : R}, evL ih K ρ es σ k = some r →
    ∃ xs σ', k xs σ' = some r ∧ xs.length = es.length ∧ SemL prog w es K ρ σ xs σ'
  | [], σ, k, r, h => ⟨[], σ, h, rfl, fun _ _ _ _ _ _ F p _ => spliced_nil (p [] _ _ _ (Stp.refl _ _ _) F .nil)⟩
  | e :: es, σ, k, r, h => by
    obtain ⟨pl, x, σ1, h1, S1⟩ := O.e (show (ih.e e K ρ σ fun w σ => evL ih K ρ es σ fun ws σ => k (w :: ws) σ) = some r from h)
    obtain ⟨xs, σ2, h2, hl, S2⟩ := evL_ok O h1
    refine ⟨x :: xs, σ2, h2, by simp [hl], fun P _ _ _ _ _ F p pos => ?_⟩
    refine wpAny_items_cons (S1 P F fun v Av' own' s' st1 F1 r1 => S2 P F1 (fun vs Av'' own'' s'' st2 F2 r2 => ?_) pos) (plain_star pl es _)
    exact p _ _ _ _ (st1.trans st2) F2 (.cons (r1.stp st2) r2)

theorem allV_all2 {Av : Addr → Prop} {own : List Addr} {h : Heap} {vs : List Value} {xs : List W} (r : All2 (RepW prog w Av own h) vs xs) : ∀ {ds : List PV}, allV xs = some ds → All2 (Rep prog w Av h) vs ds := by
  induction r with
  | nil => intro ds e; cases e; exact .nil
  | @cons v x _ xs a _ ih =>
    intro ds e
    obtain ⟨d, rfl, e⟩ := pureW_inv (show pureW x (fun d => opt (allV xs) fun l => some (d :: l)) = some ds from e)
    obtain ⟨l, q, e⟩ := opt_inv e
    cases e
    cases a with
    | v a => exact .cons a (ih q)

theorem e_tuple (O : Ok prog w ih) {es : List PySem.Expr} {c : Nat} {pos : Pos} {k : W → Sto → Option R} {r : R} (h : stepE ih (.Tuple es c pos) K ρ σ k = some r) :
    ∃ y σ', k y σ' = some r ∧ SemE prog w (.Tuple es c pos) K ρ σ y σ' := by
  obtain ⟨hf, h⟩ := cond_some (show (bif fits es.length then evL ih K ρ es σ fun ws σ => opt (allV ws) fun l => k (.v (.tup l)) σ else .none) = some r from h)
  obtain ⟨xs, σ1, h1, hl, S1⟩ := evL_ok O h
  obtain ⟨l, q, h1⟩ := opt_inv h1
  refine ⟨_, _, h1, fun P _ _ _ _ _ F p => ?_⟩
  refine PySem.wpAny_Tuple (S1 P F (fun vs Av' own' s' st F1 rv => ?_) pos)
  have hz : vs.length ≤ sizeLine := by rw [rv.length, hl]; exact fits_iff hf
  refine ⟨hz, ?_⟩
  have rr := allV_all2 rv q
  exact (PE.gv F1 (p.stp st)).push (Rep.newTup F1.freshA (by rw [List.size_toArray]; exact hz) (by simpa using rr)) (tk := s'.toks)
theorem e_list (O : Ok prog w ih) {es : List PySem.Expr} {pos : Pos} {k : W → Sto → Option R} {r : R} (h : stepE ih (.List es pos) K ρ σ k = some r) :
    ∃ y σ', k y σ' = some r ∧ SemE prog w (.List es pos) K ρ σ y σ' := by
  obtain ⟨hf, h⟩ := cond_some (show (bif fits es.length then evL ih K ρ es σ fun ws σ => bif K.mu pos then k (.c σ.length) (σ ++ [ws]) else opt (allV ws) fun l => k (.v (.list l)) σ else .none) = some r from h)
  obtain ⟨xs, σ1, h1, hl, S1⟩ := evL_ok O h
  cases qm : K.mu pos with
  | true =>
    rw [qm] at h1
    refine ⟨_, _, h1, fun P _ _ _ _ _ F p => ?_⟩
    refine PySem.wpAny_List (S1 P F (fun vs Av' own' s' st F1 rv => ?_) pos)
    have hz : vs.length ≤ sizeLine := by rw [rv.length, hl]; exact fits_iff hf
    refine ⟨hz, ?_⟩
    obtain ⟨F2, st2⟩ := F1.alloc (vs := vs.toArray) (n := 0) (ws := xs) (by rw [List.size_toArray]; exact hz) (by simpa using rv)
    refine p _ _ _ _ (st.trans st2) F2 (.c ?_)
    rw [← F1.cel.length]
    simp
  | false =>
    rw [qm] at h1
    obtain ⟨l, q, h1⟩ := opt_inv h1
    refine ⟨_, _, h1, fun P _ _ _ _ _ F p => ?_⟩
    refine PySem.wpAny_List (S1 P F (fun vs Av' own' s' st F1 rv => ?_) pos)
    have hz : vs.length ≤ sizeLine := by rw [rv.length, hl]; exact fits_iff hf
    refine ⟨hz, ?_⟩
    have rr := allV_all2 rv q
    exact (PE.gv F1 (p.stp st)).push (Rep.newList F1.freshA (by rw [List.size_toArray]; exact hz) (by simpa using rr)) (tk := s'.toks)
end
end Og
end
section
open PySem PySem.Calls PyProof.Rows
namespace Og
section
variable {prog : Program} {w : World} {B : Bs prog w} {n : Nat} {K : Cx} {env : Env} {hE : Addr → Option Obj} {Mu Av : Addr → Prop} {own : List Addr} {A : Around} {ρ : Rho} {σ σ' : Sto} {s s' : Shared} {E : Value → Shared → Prop}
  {R : Type} {ih : Ev R}

theorem RepW.v_inv {h : Heap} {v : Value} {d : PV} (r : RepW prog w Av own h v (.v d)) : Rep prog w Av h v d := by cases r with | v r => exact r
theorem RepW.c_inv {h : Heap} {v : Value} {i : Nat} (r : RepW prog w Av own h v (.c i)) : ∃ a, v = .ref a ∧ own[i]? = some a := by cases r with | c e => exact ⟨_, rfl, e⟩

theorem lim_str {x : Str} (h : fits x.cps.toList.length = true) : x.cps.size ≤ lim := by
  have q := fits_iff h
  rw [Array.length_toList] at q
  exact q
theorem lim_bytes {b : List UInt8} (h : fits b.length = true) : b.toArray.size ≤ lim := by
  have q := fits_iff h
  rw [List.size_toArray]
  exact q

theorem e_const {c : Const} {kd : Nat} {pos : Pos} {k : W → Sto → Option R} {r : R} (h : stepE ih (.Constant c kd pos) K ρ σ k = some r) : ∃ y σ', k y σ' = some r ∧ SemE prog w (.Constant c kd pos) K ρ σ y σ' := by
  have h : evConst c σ k = some r := h
  cases c with
  | none => exact ⟨_, _, h, fun P _ _ _ _ _ F p => PySem.wpAny_Constant_none ((PE.gv F p).same .none)⟩
  | bool b => exact ⟨_, _, h, fun P _ _ _ _ _ F p => PySem.wpAny_Constant_bool ((PE.gv F p).same (.bool b))⟩
  | int i => exact ⟨_, _, h, fun P _ _ _ _ _ F p => PySem.wpAny_Constant_int ((PE.gv F p).same' (.int i _))⟩
  | str x =>
    obtain ⟨hz, h⟩ := cond_some h
    exact ⟨_, _, h, fun P _ _ _ _ _ F p => PySem.Calls.Constant_str ((PE.gv F p).same' (.str x _ (lim_str hz)))⟩
  | bytes b =>
    obtain ⟨hz, h⟩ := cond_some h
    refine ⟨_, _, h, fun P Av _ s _ _ F p => ?_⟩
    have q : Rep prog w Av s.heap (.bytes b.toArray s.toks) (.bytes (b.map UInt8.toNat)) := .bytes b.toArray s.toks (lim_bytes hz)
    exact fun _ _ _ => (PE.gv F p).same' q
  | _ => exact none_some h

theorem listV_ok (F : Fra B env hE Mu Av own ρ σ s) {v : Value} {y : W} {l : List PV} (r : RepW prog w Av own s.heap v y) (h : listV σ y = some l) :
    ∃ a items, v = .ref a ∧ s.heap.IsList a items ∧ items.size ≤ lim ∧ All2 (Rep prog w Av s.heap) items.toList l := by
  cases y with
  | v d =>
    obtain ⟨l', rfl, h⟩ := listD_inv h
    cases h
    obtain ⟨a, vs, e, _, hl, z, x⟩ := r.v_inv.list_inv
    exact ⟨a, vs, e, hl, z, x⟩
  | c i =>
    obtain ⟨ws', h0, h⟩ := opt_inv h
    obtain ⟨a, e, ha⟩ := r.c_inv
    obtain ⟨ws, hw, vs, n, ho, z, x⟩ := F.cel.get' ha
    rw [hw] at h0
    cases h0
    exact ⟨a, vs, e, ⟨_, ho, rfl, n, rfl⟩, z, allV_all2 x h⟩

theorem all2_v {h : Heap} {vs : List Value} {ds : List PV} (x : All2 (Rep prog w Av h) vs ds) : All2 (RepW prog w Av own h) vs (ds.map W.v) := by
  induction x with
  | nil => exact .nil
  | cons a _ ih => exact .cons (.v a) ih
/-- what a step with two values makes -/
noncomputable def Bin (op : Operator) (w1 w2 : W) (ρ : Rho) (σ : Sto) (y : W) (σ' : Sto) : Prop :=
  ∀ {prog : Program} {w : World} {B : Bs prog w} {n K env hE Mu A}, Pt B n K env A → ∀ {Av own s Q E v1 v2}, Fra B env hE Mu Av own ρ σ s → RepW prog w Av own s.heap v1 w1 → RepW prog w Av own s.heap v2 w2 →
      PE B env hE Mu Av own s ρ y σ' Q → wpAny (model prog w) A (binaryOp op v1 v2) Q E s
theorem addL_ok {mu : Bool} {w1 w2 : W} {k : W → Sto → Option R} {x : R} (h : addL mu w1 w2 σ k = some x) : ∃ y σ', k y σ' = some x ∧ Bin .Add w1 w2 ρ σ y σ' := by
  obtain ⟨la, q1, h⟩ := opt_inv h
  obtain ⟨lb, q2, h⟩ := opt_inv h
  obtain ⟨z, h⟩ := cond_some h
  have key : ∀ {prog : Program} {w : World} {B : Bs prog w} {env hE Mu Av own s v1 v2}, Fra B env hE Mu Av own ρ σ s → RepW prog w Av own s.heap v1 w1 → RepW prog w Av own s.heap v2 w2 →
      ∃ a b va vb, v1 = .ref a ∧ v2 = .ref b ∧ s.heap.IsList a va ∧ s.heap.IsList b vb ∧ va.size + vb.size ≤ sizeLine ∧ All2 (Rep prog w Av s.heap) (va ++ vb).toList (la ++ lb) := fun F r1 r2 => by
    obtain ⟨a, va, rfl, hA, zA, xA⟩ := listV_ok F r1 q1
    obtain ⟨b, vb, rfl, hB, zB, xB⟩ := listV_ok F r2 q2
    refine ⟨a, b, va, vb, rfl, rfl, hA, hB, ?_, by rw [Array.toList_append]; exact xA.append xB⟩
    have e1 := xA.length; have e2 := xB.length
    rw [Array.length_toList] at e1 e2
    rw [e1, e2]; exact fits_iff z
  cases mu with
  | true =>
    refine ⟨_, _, h, fun P _ _ s _ _ v1 v2 F r1 r2 p => ?_⟩
    obtain ⟨a, b, va, vb, rfl, rfl, hA, hB, hz, X⟩ := key F r1 r2
    refine add_list hA hB hz ?_
    obtain ⟨F2, st2⟩ := F.alloc (vs := va ++ vb) (n := 0) (ws := (la ++ lb).map W.v) (by rw [Array.size_append]; exact hz) (all2_v X)
    refine p _ _ _ _ st2 F2 (.c ?_)
    rw [← F.cel.length]
    simp
  | false =>
    refine ⟨_, _, h, fun P _ _ s _ _ v1 v2 F r1 r2 p => ?_⟩
    obtain ⟨a, b, va, vb, rfl, rfl, hA, hB, hz, X⟩ := key F r1 r2
    refine add_list hA hB hz ?_
    exact (PE.gv F p).push (Rep.newList F.freshA (by rw [Array.size_append]; exact hz) X) (tk := s.toks)
theorem addW_ok {mu : Bool} {w1 w2 : W} {k : W → Sto → Option R} {x : R} (h : addW mu w1 w2 σ k = some x) : ∃ y σ', k y σ' = some x ∧ Bin .Add w1 w2 ρ σ y σ' := by
  cases w1 with
  | c n => exact addL_ok (mu := mu) h
  | v d =>
    cases d with
    | tup a =>
      obtain ⟨e, rfl, h⟩ := pureW_inv h
      obtain ⟨b, rfl, h⟩ := tupD_inv h
      obtain ⟨z, h⟩ := cond_some h
      exact ⟨_, _, h, fun P _ _ s _ _ v1 v2 F r1 r2 p => add_tup F.freshA r1.v_inv r2.v_inv z (PE.gv F p)⟩
    | bytes a =>
      obtain ⟨e, rfl, h⟩ := pureW_inv h
      obtain ⟨b, rfl, h⟩ := bytD_inv h
      obtain ⟨z, h⟩ := cond_some h
      exact ⟨_, _, h, fun P _ _ s _ _ v1 v2 F r1 r2 p => add_byt r1.v_inv r2.v_inv z (PE.gv F p)⟩
    | _ => exact addL_ok (mu := mu) h
theorem addOp_ok {mu : Bool} {op : Operator} {w1 w2 : W} {k : W → Sto → Option R} {x : R} (h : (match op with | .Add => addW mu w1 w2 σ k | _ => .none) = some x) : ∃ y σ', k y σ' = some x ∧ Bin op w1 w2 ρ σ y σ' := by
  cases op with
  | Add => exact addW_ok h
  | _ => exact none_some h
theorem bin_ok {mu : Bool} {l r : PySem.Expr} {op : Operator} {w1 w2 : W} {k : W → Sto → Option R} {x : R} (h : binW mu l r op w1 w2 σ k = some x) : ∃ y σ', k y σ' = some x ∧ Bin op w1 w2 ρ σ y σ' := by
  cases w1 with
  | c n => exact addOp_ok (mu := mu) h
  | v d =>
    cases d with
    | int a =>
      obtain ⟨b, rfl, h⟩ := intW_inv h
      have h : intOp l r op a b (fun i => k (.v (.int i)) σ) = some x := h
      obtain ⟨c, h1, h2⟩ := intOp_ok h
      refine ⟨_, _, h1, fun P _ _ s _ _ v1 v2 F r1 r2 p => ?_⟩
      obtain ⟨t, rfl⟩ := r1.v_inv.int_inv
      obtain ⟨u, rfl⟩ := r2.v_inv.int_inv
      exact h2 (PE.gv F p).int
    | _ => exact addOp_ok (mu := mu) h

theorem e_bin (O : Ok prog w ih) {l r : PySem.Expr} {op : Operator} {pos : Pos} {k : W → Sto → Option R} {x : R} (h : stepE ih (.BinOp l op r pos) K ρ σ k = some x) :
    ∃ y σ', k y σ' = some x ∧ SemE prog w (.BinOp l op r pos) K ρ σ y σ' := by
  obtain ⟨_, x1, σ1, h1, S1⟩ := O.e (show (ih.e l K ρ σ fun w1 σ => ih.e r K ρ σ fun w2 σ => binW (K.mu pos) l r op w1 w2 σ k) = some x from h)
  obtain ⟨_, x2, σ2, h2, S2⟩ := O.e h1
  obtain ⟨y, σ3, h3, S3⟩ := bin_ok (ρ := ρ) h2
  refine ⟨y, σ3, h3, fun P _ _ _ _ _ F p => ?_⟩
  refine wpAny_BinOp (S1 P F fun v Av' own' s' st1 F1 r1 => S2 P F1 fun v2 Av'' own'' s'' st2 F2 r2 => ?_)
  exact S3 P F2 (r1.stp st2) r2 ((p.stp st1).stp st2)

theorem e_un (O : Ok prog w ih) {e : PySem.Expr} {op : UnaryOp} {pos : Pos} {k : W → Sto → Option R} {x : R} (h : stepE ih (.UnaryOp op e pos) K ρ σ k = some x) :
    ∃ y σ', k y σ' = some x ∧ SemE prog w (.UnaryOp op e pos) K ρ σ y σ' := by
  obtain ⟨_, x1, σ1, h1, S1⟩ := O.e (show (ih.e e K ρ σ fun w σ => intW w fun i => unop op i σ k) = some x from h)
  obtain ⟨i, rfl, h1⟩ := intW_inv h1
  cases op with
  | USub =>
    refine ⟨_, _, h1, fun P _ _ _ _ _ F p => wpAny_UnaryOp (S1 P F fun v Av' own' s' st1 F1 r1 => ?_)⟩
    obtain ⟨t, rfl⟩ := r1.v_inv.int_inv
    exact PyProof.Rows.neg_int (PE.gv F1 (p.stp st1)).int
  | Invert =>
    refine ⟨_, _, h1, fun P _ _ _ _ _ F p => wpAny_UnaryOp (S1 P F fun v Av' own' s' st1 F1 r1 => ?_)⟩
    obtain ⟨t, rfl⟩ := r1.v_inv.int_inv
    exact PyProof.Rows.invert_int (PE.gv F1 (p.stp st1)).int
  | _ => exact none_some h1

theorem e_if (O : Ok prog w ih) {t a b : PySem.Expr} {pos : Pos} {k : W → Sto → Option R} {x : R} (h : stepE ih (.IfExp t a b pos) K ρ σ k = some x) :
    ∃ y σ', k y σ' = some x ∧ SemE prog w (.IfExp t a b pos) K ρ σ y σ' := by
  obtain ⟨c, σ1, h1, S1⟩ := O.t (show (ih.t t K ρ σ fun c σ => bif c then ih.e a K ρ σ k else ih.e b K ρ σ k) = some x from h)
  cases c with
  | true =>
    obtain ⟨_, y, σ2, h2, S2⟩ := O.e h1
    refine ⟨_, _, h2, fun P _ _ _ _ _ F p => PySem.wpAny_IfExp (S1 P F fun Av' own' s' st1 F1 => ?_)⟩
    exact S2 P F1 (p.stp st1)
  | false =>
    obtain ⟨_, y, σ2, h2, S2⟩ := O.e h1
    refine ⟨_, _, h2, fun P _ _ _ _ _ F p => PySem.wpAny_IfExp (S1 P F fun Av' own' s' st1 F1 => ?_)⟩
    exact S2 P F1 (p.stp st1)

theorem Pt.units (P : Pt B n K env A) : A.units + 64 < cLine := by have := P.a.u; omega
/-- two values compared -/
theorem cmp1_ok (O : Ok prog w ih) {l r : PySem.Expr} {op : CmpOp} {k : PV → PV → Bool → Sto → Option R} {x : R} (h : cmp1 ih l r op K ρ σ k = some x) :
    plainE r = true ∧ ∃ a b c σ1 σ2, k a b c σ2 = some x ∧ cmpV op a b = some c ∧ SemE prog w l K ρ σ (.v a) σ1 ∧ SemE prog w r K ρ σ1 (.v b) σ2 := by
  obtain ⟨_, x1, σ1, h1, S1⟩ := O.e h
  obtain ⟨pl, x2, σ2, h2, S2⟩ := O.e h1
  obtain ⟨a, e1, h3⟩ := pureW_inv h2
  obtain ⟨b, e2, h4⟩ := pureW_inv h3
  obtain ⟨c, q, h5⟩ := opt_inv h4
  subst e1 e2
  exact ⟨pl, a, b, c, σ1, σ2, h5, q, S1, S2⟩
theorem e_cmp (O : Ok prog w ih) {l : PySem.Expr} {ops : List CmpOp} {rs : List PySem.Expr} {pos : Pos} {k : W → Sto → Option R} {x : R} (h : stepE ih (.Compare l ops rs pos) K ρ σ k = some x) :
    ∃ y σ', k y σ' = some x ∧ SemE prog w (.Compare l ops rs pos) K ρ σ y σ' := by
  obtain ⟨op, e1, h⟩ := opt_inv (show (opt (sole ops) fun op => opt (sole rs) fun r => cmp1 ih l r op K ρ σ fun _ _ c σ => k (.v (.bool c)) σ) = some x from h)
  obtain ⟨r, e2, h⟩ := opt_inv h
  obtain ⟨pl, a, b, c, σ1, σ2, h, q, S1, S2⟩ := cmp1_ok O h
  rw [sole_inv e1, sole_inv e2]
  refine ⟨_, _, h, fun P _ _ _ _ _ F p => wpAny_Compare1 (S1 P F fun v Av' own' s' st1 F1 r1 => S2 P F1 fun v2 Av'' own'' s'' st2 F2 r2 => ?_) (plain_in pl op)⟩
  exact cmp_ok q P.units (r1.stp st2).v_inv r2.v_inv (PE.gv F2 ((p.stp st1).stp st2))
end
end Og
end
section
open PySem PySem.Calls PyProof.Rows
namespace Og
section
variable {prog : Program} {w : World} {B : Bs prog w} {n : Nat} {K : Cx} {env : Env} {hE : Addr → Option Obj} {Mu Av : Addr → Prop} {own : List Addr} {A : Around} {ρ : Rho} {σ σ' : Sto} {s s' : Shared} {E : Value → Shared → Prop}
  {R : Type} {ih : Ev R}

theorem PB.gv {b : Bool} {Q : Bool → Shared → Prop} (F : Fra B env hE Mu Av own ρ σ s) (p : PB B env hE Mu Av own s ρ b σ Q) : Gv prog w Av s (.bool b) (fun c s₃ => wpAny (model prog w) A (truthy c) Q E s₃) := by
  intro v h' tk k r
  obtain rfl := r.bool_inv
  exact wpAny_truthy_bool (p _ _ _ (Stp.ext k) (F.ext k))

theorem bool_ne_eqB (i : Int) : (i != 0) = (!W.Z.eqB i 0) := by
  rw [bne, beq_eqB]
theorem truth_ok {x : W} {b : Bool} {v : Value} {Q : Bool → Shared → Prop} (h : truth x = some b) (F : Fra B env hE Mu Av own ρ σ s) (r : RepW prog w Av own s.heap v x) (p : PB B env hE Mu Av own s ρ b σ Q) :
    wpAny (model prog w) A (truthy v) Q E s := by
  cases x with
  | c _ => exact none_some h
  | v d =>
    cases d with
    | bool c =>
      cases h
      obtain rfl := r.v_inv.bool_inv
      exact wpAny_truthy_bool (p _ _ _ (Stp.refl _ _ _) F)
    | int i =>
      cases h
      obtain ⟨t, rfl⟩ := r.v_inv.int_inv
      refine PySem.P.truthy_int ?_
      rw [bool_ne_eqB]
      exact p _ _ _ (Stp.refl _ _ _) F
    | _ => exact none_some h

theorem andT_ok (O : Ok prog w ih) : ∀ {es : List PySem.Expr} {σ : Sto} {k : Bool → Sto → Option R} {r : R}, andT ih K ρ es σ k = some r → ∃ b σ', k b σ' = some r ∧
    ∀ {B : Bs prog w} {n env hE Mu A}, Pt B n K env A → ∀ {Av own s Q E}, Fra B env hE Mu Av own ρ σ s → PB B env hE Mu Av own s ρ b σ' Q → ∀ pos whole, wpAny (model prog w) A (isTrue (.BoolOp .And es pos) env whole) Q E s
  | [], σ, k, r, h => ⟨true, σ, h, fun _ _ _ _ _ _ F p _ _ => isTrue_and_nil (p _ _ _ (Stp.refl _ _ _) F)⟩
  | e :: es, σ, k, r, h => by
    obtain ⟨c, σ1, h1, S1⟩ := O.t (show (ih.t e K ρ σ fun b σ => bif b then andT ih K ρ es σ k else k false σ) = some r from h)
    cases c with
    | true =>
      obtain ⟨b, σ2, h2, S2⟩ := andT_ok O h1
      refine ⟨b, σ2, h2, fun P _ _ _ _ _ F p pos whole => isTrue_and (S1 P F fun Av' own' s' st1 F1 => ?_)⟩
      exact S2 P F1 (p.stp st1) pos whole
    | false =>
      refine ⟨false, σ1, h1, fun P _ _ _ _ _ F p pos whole => isTrue_and (S1 P F fun Av' own' s' st1 F1 => ?_)⟩
      exact p _ _ _ st1 F1
theorem orT_ok (O : Ok prog w ih) : ∀ {es : List PySem.Expr} {σ : Sto} {k : Bool → Sto → Option R} {r : R}, orT ih K ρ es σ k = some r → ∃ b σ', k b σ' = some r ∧
    ∀ {B : Bs prog w} {n env hE Mu A}, Pt B n K env A → ∀ {Av own s Q E}, Fra B env hE Mu Av own ρ σ s → PB B env hE Mu Av own s ρ b σ' Q → ∀ pos whole, wpAny (model prog w) A (isTrue (.BoolOp .Or es pos) env whole) Q E s
  | [], σ, k, r, h => ⟨false, σ, h, fun _ _ _ _ _ _ F p _ _ => isTrue_or_nil (p _ _ _ (Stp.refl _ _ _) F)⟩
  | e :: es, σ, k, r, h => by
    obtain ⟨c, σ1, h1, S1⟩ := O.t (show (ih.t e K ρ σ fun b σ => bif b then k true σ else orT ih K ρ es σ k) = some r from h)
    cases c with
    | false =>
      obtain ⟨b, σ2, h2, S2⟩ := orT_ok O h1
      refine ⟨b, σ2, h2, fun P _ _ _ _ _ F p pos whole => isTrue_or (S1 P F fun Av' own' s' st1 F1 => ?_)⟩
      exact S2 P F1 (p.stp st1) pos whole
    | true =>
      refine ⟨true, σ1, h1, fun P _ _ _ _ _ F p pos whole => isTrue_or (S1 P F fun Av' own' s' st1 F1 => ?_)⟩
      exact p _ _ _ st1 F1

/-- whether a test may be taken as it lies -/
noncomputable def plT : PySem.Expr → Bool
  | .BoolOp .. => false
  | .IfExp .. => false
  | .Compare .. => false
  | .UnaryOp op _ _ => !isNot op
  | _ => true
theorem dflT_ok (O : Ok prog w ih) {e : PySem.Expr} {k : Bool → Sto → Option R} {r : R} (h : dflT ih e K ρ σ k = some r) (hp : plT e = true) : ∃ b σ', k b σ' = some r ∧ SemT prog w e K ρ σ b σ' := by
  obtain ⟨pl, x, σ1, h1, S1⟩ := O.e h
  obtain ⟨b, q, h1⟩ := opt_inv h1
  refine ⟨_, _, h1, fun P _ _ _ _ _ F p => isTrue_plain (S1 P F fun v Av' own' s' st1 F1 r1 => ?_) ?_⟩
  · exact truth_ok q F1 r1 (p.stp st1)
  · cases e with
    | UnaryOp op e pos => cases op <;> first | rfl | exact false_ne hp
    | _ => first | rfl | exact false_ne hp
theorem tst_ok (O : Ok prog w ih) {l : PySem.Expr} {ops : List CmpOp} {rs : List PySem.Expr} {pos : Pos} {k : Bool → Sto → Option R} {r : R} (h : tstCmp ih l ops rs K ρ σ k = some r) : ∃ b σ', k b σ' = some r ∧ SemT prog w (.Compare l ops rs pos) K ρ σ b σ' := by
  unfold tstCmp at h
  cases e1 : sole ops with
  | some op =>
    rw [e1] at h
    obtain ⟨r', e2, h⟩ := opt_inv h
    obtain ⟨pl, a, b, c, σ1, σ2, h, q, S1, S2⟩ := cmp1_ok O h
    rw [sole_inv e1, sole_inv e2]
    refine ⟨_, _, h, fun P _ _ _ _ _ F p => PySem.wpAny_isTrue_Compare1 (S1 P F fun v Av' own' s' st1 F1 r1 => S2 P F1 fun v2 Av'' own'' s'' st2 F2 r2 => ?_) (plain_in pl op)⟩
    exact cmp_ok q P.units (r1.stp st2).v_inv r2.v_inv (PB.gv F2 fun _ _ _ st3 F3 => p _ _ _ ((st1.trans st2).trans st3) F3)
  | none =>
    rw [e1] at h
    obtain ⟨os, e2, h⟩ := opt_inv h
    obtain ⟨rr, e3, h⟩ := opt_inv h
    obtain ⟨plo, h⟩ := cond_some h
    obtain ⟨pl1, a, b, c, σ1, σ2, h, q, S1, S2⟩ := cmp1_ok O h
    rw [duo_inv e2, duo_inv e3]
    obtain ⟨op, op'⟩ := os
    obtain ⟨r1e, r2e⟩ := rr
    dsimp only at *
    cases c with
    | true =>
      obtain ⟨pl2, x3, σ3, h3, S3⟩ := O.e (show (ih.e r2e K ρ σ2 fun w3 σ => pureW w3 fun d => opt (cmpV op' b d) fun c => k c σ) = some r from h)
      obtain ⟨d, rfl, h3⟩ := pureW_inv h3
      obtain ⟨c2, q2, h3⟩ := opt_inv h3
      refine ⟨_, _, h3, fun P _ _ _ _ _ F p => isTrue_chain (S1 P F fun v Av' own' s' st1 F1 r1 => test_link (S2 P F1 fun v2 Av'' own'' s'' st2 F2 r2 => ?_)) (by
        show behindInMarks op' r2e = false
        exact plain_in pl2 op')⟩
      refine cmp_ok q P.units (r1.stp st2).v_inv r2.v_inv (PB.gv F2 fun _ _ _ st3 F3 => ?_)
      rw [if_pos rfl]
      refine test_last (S3 P F3 fun v3 _ _ _ st4 F4 r3 => ?_)
      exact cmp_ok q2 P.units ((r2.stp st3).stp st4).v_inv r3.v_inv (PB.gv F4 fun _ _ _ st5 F5 => p _ _ _ ((((st1.trans st2).trans st3).trans st4).trans st5) F5)
    | false =>
      have h : k false σ2 = some r := h
      refine ⟨_, _, h, fun P _ _ _ _ _ F p => isTrue_chain (S1 P F fun v Av' own' s' st1 F1 r1 => test_link (S2 P F1 fun v2 Av'' own'' s'' st2 F2 r2 => ?_)) (by
        show behindInMarks op' r2e = false
        exact plain_in plo op')⟩
      refine cmp_ok q P.units (r1.stp st2).v_inv r2.v_inv (PB.gv F2 fun _ _ _ st3 F3 => ?_)
      rw [if_neg (by decide)]
      exact p _ _ _ ((st1.trans st2).trans st3) F3
theorem t_ok (O : Ok prog w ih) {e : PySem.Expr} {k : Bool → Sto → Option R} {r : R} (h : stepT ih e K ρ σ k = some r) : ∃ b σ', k b σ' = some r ∧ SemT prog w e K ρ σ b σ' := by
  cases e with
  | UnaryOp op x pos =>
    have h : (bif isNot op then ih.t x K ρ σ fun b σ => k (!b) σ else dflT ih (.UnaryOp op x pos) K ρ σ k) = some r := h
    cases q : isNot op with
    | true =>
      rw [q] at h
      obtain ⟨c, σ1, h1, S1⟩ := O.t (show (ih.t x K ρ σ fun b σ => k (!b) σ) = some r from h)
      have : op = .Not := by cases op <;> first | rfl | exact false_ne q
      subst this
      exact ⟨_, _, h1, fun P _ _ _ _ _ F p => isTrue_not (S1 P F fun Av' own' s' st1 F1 => p _ _ _ st1 F1)⟩
    | false =>
      rw [q] at h
      exact dflT_ok O h (by show (!isNot op) = true; rw [q]; rfl)
  | BoolOp op es pos =>
    cases op with
    | And =>
      obtain ⟨b, σ1, h1, S1⟩ := andT_ok O (show andT ih K ρ es σ k = some r from h)
      exact ⟨_, _, h1, fun P _ _ _ _ _ F p => S1 P F p _ _⟩
    | Or =>
      obtain ⟨b, σ1, h1, S1⟩ := orT_ok O (show orT ih K ρ es σ k = some r from h)
      exact ⟨_, _, h1, fun P _ _ _ _ _ F p => S1 P F p _ _⟩
  | IfExp => exact none_some h
  | Compare l ops rs pos => exact tst_ok O h
  | _ => exact dflT_ok O h rfl

-- items
/-- what is taken of a value by another one -/
noncomputable def Sub (w1 w2 : W) (ρ : Rho) (σ : Sto) (y : W) (σ' : Sto) : Prop :=
  ∀ {value slice : PySem.Expr} {prog : Program} {w : World} {B : Bs prog w} {env hE Mu} {A : Around} {Av own s Q E v1 v2}, Fra B env hE Mu Av own ρ σ s → RepW prog w Av own s.heap v1 w1 → RepW prog w Av own s.heap v2 w2 →
      PE B env hE Mu Av own s ρ y σ' Q → wpAny (model prog w) A (subscriptTail value slice v1 v2) Q E s
theorem sub_ok {w1 w2 : W} {k : W → Sto → Option R} {x : R} (h : subK w1 w2 σ k = some x) : ∃ y σ', k y σ' = some x ∧ Sub w1 w2 ρ σ y σ' := by
  cases w1 with
  | c m =>
    obtain ⟨i, rfl, h⟩ := intW_inv h
    obtain ⟨l, q0, h⟩ := opt_inv h
    obtain ⟨j, q, h⟩ := opt_inv h
    obtain ⟨d, q2, h⟩ := opt_inv h
    refine ⟨_, _, h, fun {_ _ _ _ _ _ _ _ _ _ _ _ _ _ _ _} F r1 r2 p => ?_⟩
    obtain ⟨t, rfl⟩ := r2.v_inv.int_inv
    obtain ⟨a, rfl, ha⟩ := r1.c_inv
    obtain ⟨ws, hw, vs, nn, ho, z, X⟩ := F.cel.get' ha
    rw [q0] at hw
    cases hw
    obtain ⟨v, hv, rv⟩ := X.get q2
    exact item_list ⟨_, ho, rfl, nn, rfl⟩ z (j := j) (by rw [← Array.length_toList, X.length]; exact q) (x := v) (by simpa using hv) (p _ _ _ _ (Stp.refl _ _ _) F rv)
  | v d =>
  cases d with
  | tup l =>
    obtain ⟨i, rfl, h⟩ := intW_inv h
    obtain ⟨j, q, h⟩ := opt_inv h
    obtain ⟨d, q2, h⟩ := opt_inv h
    refine ⟨_, _, h, fun {_ _ _ _ _ _ _ _ _ _ _ _ _ _ _ _} F r1 r2 p => ?_⟩
    obtain ⟨t, rfl⟩ := r2.v_inv.int_inv
    obtain ⟨a, vs, rfl, _, hT, z, X⟩ := r1.v_inv.tup_inv
    obtain ⟨v, hv, rv⟩ := X.get q2
    exact item_tup hT z (j := j) (by rw [← Array.length_toList, X.length]; exact q) (x := v) (by simpa using hv) ((PE.gv F p).same rv)
  | list l =>
    obtain ⟨i, rfl, h⟩ := intW_inv h
    obtain ⟨j, q, h⟩ := opt_inv h
    obtain ⟨d, q2, h⟩ := opt_inv h
    refine ⟨_, _, h, fun {_ _ _ _ _ _ _ _ _ _ _ _ _ _ _ _} F r1 r2 p => ?_⟩
    obtain ⟨t, rfl⟩ := r2.v_inv.int_inv
    obtain ⟨a, vs, rfl, _, hT, z, X⟩ := r1.v_inv.list_inv
    obtain ⟨v, hv, rv⟩ := X.get q2
    exact item_list hT z (j := j) (by rw [← Array.length_toList, X.length]; exact q) (x := v) (by simpa using hv) ((PE.gv F p).same rv)
  | dict l =>
    obtain ⟨i, rfl, h⟩ := intW_inv h
    obtain ⟨d, q, h⟩ := opt_inv h
    refine ⟨_, _, h, fun {_ _ _ _ _ _ _ _ _ _ _ _ _ _ _ _} F r1 r2 p => ?_⟩
    obtain ⟨t, rfl⟩ := r2.v_inv.int_inv
    cases r1.v_inv with
    | dict g n m hm h1 h2 h3 h4 =>
      exact tail_ok hm.typeIs PySem.slot_dict_getitem.lookup (wpAny_getItem_of (intKind_is _ _ _ t) hm (h1 _ _ q) ((PE.gv F p).same' (h2 _ _ q)))
  | _ => exact none_some h

theorem evO_ok (O : Ok prog w ih) {o : Option PySem.Expr} {k : Option Int → Sto → Option R} {r : R} (h : evO ih K ρ o σ k = some r) : ∃ i σ', k i σ' = some r ∧
    ∀ {B : Bs prog w} {n env hE Mu A}, Pt B n K env A → ∀ {Av own s} {Q : Value → Shared → Prop} {E}, Fra B env hE Mu Av own ρ σ s →
      (∀ v Av' own' s', Stp Av own s Av' own' s' → Fra B env hE Mu Av' own' ρ σ' s' → IsPart v i → Q v s') → wpAny (model prog w) A (evalPart o env) Q E s := by
  cases o with
  | none => exact ⟨_, _, h, fun P _ _ _ _ _ F p => wpAny_pure (p _ _ _ _ (Stp.refl _ _ _) F .none)⟩
  | some e =>
    obtain ⟨_, x1, σ1, h1, S1⟩ := O.e (show (ih.e e K ρ σ fun w σ => intW w fun i => k (some i) σ) = some r from h)
    obtain ⟨i, rfl, h1⟩ := intW_inv h1
    refine ⟨_, _, h1, fun P _ _ _ _ _ F p => S1 P F fun v Av' own' s' st1 F1 r1 => ?_⟩
    obtain ⟨t, rfl⟩ := r1.v_inv.int_inv
    exact p _ _ _ _ st1 F1 (.int _ _)

/-- a cut -/
noncomputable def Cut (w1 : W) (lo hi st : Option Int) (ρ : Rho) (σ : Sto) (y : W) (σ' : Sto) : Prop :=
  ∀ {value slice : PySem.Expr} {prog : Program} {w : World} {B : Bs prog w} {env hE Mu} {A : Around} {Av own s Q E v1 sl vl vu vk}, Fra B env hE Mu Av own ρ σ s → RepW prog w Av own s.heap v1 w1 → s.heap.IsSliceOf sl vl vu vk → IsPart vl lo → IsPart vu hi → IsPart vk st →
      PE B env hE Mu Av own s ρ y σ' Q → wpAny (model prog w) A (subscriptTail value slice v1 (.ref sl)) Q E s
theorem cutL_ok {w1 : W} {lo hi : Option Int} {k : W → Sto → Option R} {x : R} {l : List PV} (q : listV σ w1 = some l) (h : k (.v (.list (cut lo hi l))) σ = some x) : ∃ y σ', k y σ' = some x ∧ Cut w1 lo hi .none ρ σ y σ' := by
  refine ⟨_, _, h, fun {_ _ _ _ _ _ _ _ _ _ _ _ _ _ _ _ _ _ _} F r1 hs pl pu pk p => ?_⟩
  cases pk
  obtain ⟨a, items, rfl, hL, z, X⟩ := listV_ok F r1 q
  exact tail_ok hL.typeIs slot_list_getitem.lookup (slice_list F.freshA hL X z hs pl pu (PE.gv F p))
theorem cut_ok {w1 : W} {lo hi st : Option Int} {k : W → Sto → Option R} {x : R} (h : cutK w1 lo hi st σ k = some x) : ∃ y σ', k y σ' = some x ∧ Cut w1 lo hi st ρ σ y σ' := by
  cases st with
  | none =>
    have h : cutP w1 lo hi σ k = some x := h
    cases w1 with
    | c n =>
      obtain ⟨l, q, h⟩ := opt_inv h
      exact cutL_ok q h
    | v d =>
    cases d with
    | tup l =>
      refine ⟨_, _, h, fun {_ _ _ _ _ _ _ _ _ _ _ _ _ _ _ _ _ _ _} F r1 hs pl pu pk p => ?_⟩
      cases pk
      obtain ⟨a, vs, rfl, _, hT, z, X⟩ := r1.v_inv.tup_inv
      exact tail_ok hT.typeIs PyProof.Rows.slot_tuple_getitem.lookup (slice_tup F.freshA hT r1.v_inv X z hs pl pu (PE.gv F p))
    | bytes l =>
      refine ⟨_, _, h, fun {_ _ _ _ _ _ _ _ _ _ _ _ _ _ _ _ _ _ _} F r1 hs pl pu pk p => ?_⟩
      cases pk
      obtain ⟨b, t, rfl, z, rfl⟩ := r1.v_inv.bytes_inv
      exact tail_ok (PySem.W.typeIs_bytes _ _ _) PySem.W.FB.slot_bytes_getitem.lookup (slice_bytes z hs pl pu (PE.gv F p))
    | list l => exact cutL_ok (l := l) rfl h
    | _ => exact none_some h
  | some i =>
    obtain ⟨g, hh⟩ := cond_some (show (bif (bif isM1 i then bif isNo lo then isNo hi else false else false) then opt (listV σ w1) fun l => k (.v (.list l.reverse)) σ else .none) = some x from h)
    obtain ⟨g1, g⟩ := bif_t g
    obtain ⟨g2, g3⟩ := bif_t g
    obtain ⟨l, q, hh⟩ := opt_inv hh
    have e := (W.Z.eqB_iff _ _).mp g1
    subst e
    cases lo with
    | some _ => exact false_ne g2
    | none =>
    cases hi with
    | some _ => exact false_ne g3
    | none =>
    refine ⟨_, _, hh, fun {_ _ _ _ _ _ _ _ _ _ _ _ _ _ _ _ _ _ _} F r1 hs pl pu pk p => ?_⟩
    cases pl
    cases pu
    obtain ⟨a, items, rfl, hL, z, X⟩ := listV_ok F r1 q
    exact tail_ok hL.typeIs slot_list_getitem.lookup (slice_rev F.freshA hL X z hs pk (PE.gv F p))

theorem e_slice (O : Ok prog w ih) {v : PySem.Expr} {sp pos : Pos} {lo hi st : Option PySem.Expr} {k : W → Sto → Option R} {r : R} (h : evSub ih v (.Slice lo hi st sp) K ρ σ k = some r) :
    ∃ y σ', k y σ' = some r ∧ SemE prog w (.Subscript v (.Slice lo hi st sp) pos) K ρ σ y σ' := by
  obtain ⟨_, x1, σ1, h1, S1⟩ := O.e h
  obtain ⟨i1, σ2, h2, S2⟩ := evO_ok O h1
  obtain ⟨i2, σ3, h3, S3⟩ := evO_ok O h2
  obtain ⟨i3, σ4, h4, S4⟩ := evO_ok O h3
  obtain ⟨y, σ5, h5, S5⟩ := cut_ok (ρ := ρ) h4
  refine ⟨y, σ5, h5, fun P _ _ _ _ _ F p => Subscript_ (S1 P F fun u Av1 own1 s1 st1 F1 r1 => wpAny_Slice (S2 P F1 fun vl Av2 own2 s2 st2 F2 pl => S3 P F2 fun vu Av3 own3 s3 st3 F3 pu => S4 P F3 fun vk Av4 own4 s4 st4 F4 pk => ?_))⟩
  have k4 : ∀ b o, s4.heap.get? b = some o → (s4.heap.push { cls := .type "slice", data := .fields #[vl, vu, vk] }).get? b = some o := fun _ _ e => Heap.get?_push_of_some _ e
  have st5 : Stp Av4 own4 s4 Av4 own4 { s4 with heap := s4.heap.push { cls := .type "slice", data := .fields #[vl, vu, vk] } } := Stp.ext (tk := s4.toks) k4
  have st := (((st1.trans st2).trans st3).trans st4).trans st5
  exact S5 (F4.ext k4) (((((r1.stp st2).stp st3).stp st4)).stp st5) (Heap.IsSliceOf.new ..) pl pu pk (p.stp st)

theorem e_item (O : Ok prog w ih) {v i : PySem.Expr} {pos : Pos} {k : W → Sto → Option R} {r : R} (h : (ih.e v K ρ σ fun w1 σ => ih.e i K ρ σ fun w2 σ => subK w1 w2 σ k) = some r) :
    ∃ y σ', k y σ' = some r ∧ SemE prog w (.Subscript v i pos) K ρ σ y σ' := by
  obtain ⟨_, x1, σ1, h1, S1⟩ := O.e h
  obtain ⟨_, x2, σ2, h2, S2⟩ := O.e h1
  obtain ⟨y, σ3, h3, S3⟩ := sub_ok (ρ := ρ) h2
  refine ⟨y, σ3, h3, fun P _ _ _ _ _ F p => Subscript_ (S1 P F fun u Av1 own1 s1 st1 F1 r1 => S2 P F1 fun u2 Av2 own2 s2 st2 F2 r2 => ?_)⟩
  exact S3 F2 (r1.stp st2) r2 ((p.stp st1).stp st2)
theorem e_sub (O : Ok prog w ih) {v i : PySem.Expr} {pos : Pos} {k : W → Sto → Option R} {r : R} (h : stepE ih (.Subscript v i pos) K ρ σ k = some r) :
    ∃ y σ', k y σ' = some r ∧ SemE prog w (.Subscript v i pos) K ρ σ y σ' := by
  cases i with
  | Slice lo hi st sp => exact e_slice O h
  | _ => exact e_item O h
end
end Og
end
section
open PySem PySem.Calls PyProof.Rows
namespace Og
section
variable {prog : Program} {w : World} {B : Bs prog w} {n : Nat} {K : Cx} {env : Env} {hE : Addr → Option Obj} {Mu Av : Addr → Prop} {own : List Addr} {A : Around} {ρ : Rho} {σ σ' : Sto} {s s' : Shared} {E : Value → Shared → Prop}
  {R : Type} {ih : Ev R}

/-- an object that no pure value names may be written anew -/
theorem Fra.off {D : Addr} {h' : Heap} {tk : Nat} (F : Fra B env hE Mu Av own ρ σ s) (n0 : B.h₀.get? D = .none) (nE : hE D = .none) (nA : ¬ Av D) (k : ∀ b o, b ≠ D → s.heap.get? b = some o → h'.get? b = some o)
    (T : ∀ v d, Rep prog w Av s.heap v d → Rep prog w Av h' v d) : Fra B env hE Mu Av own ρ σ { s with heap := h', toks := tk } := by
  have W0 : ∀ {v y}, RepW prog w Av own s.heap v y → RepW prog w Av own h' v y := fun q => by
    cases q with
    | v r => exact .v (T _ _ r)
    | c e => exact .c e
  have nz : ∀ {b}, Av b → b ≠ D := fun a e => nA (e ▸ a)
  obtain ⟨m, hn, hm⟩ := F.loc
  exact { base := fun b o q => k b o (fun e => by rw [e, n0] at q; cases q) (F.base b o q), prot := fun b o q nm => k b o (fun e => by rw [e, nE] at q; cases q) (F.prot b o q nm), av0 := F.av0,
          avs := fun b q => let ⟨o, ho⟩ := F.avs b q; ⟨o, k b o (nz q) ho⟩, mu := F.mu,
          avL := F.avL, nwL := F.nwL, vis := F.vis,
          loc := ⟨m, Heap.Ns.at' hn fun o e => k _ o (nz F.avL) e, fun x y q l => let ⟨v, h1, h2⟩ := hm x y q l; ⟨v, h1, W0 h2⟩⟩,
          box := fun x y q l => let ⟨a, v, h1, ⟨o, h2, h2'⟩, h3⟩ := F.box x y q l; ⟨a, v, h1, ⟨o, k _ o (nz (F.bxf x a h1)) h2, h2'⟩, W0 h3⟩,
          bxs := fun fn x l => let ⟨a, v, h1, ⟨o, h2, h2'⟩, h3⟩ := F.bxs fn x l; ⟨a, v, h1, ⟨o, k _ o (nz h3.1) h2, h2'⟩, h3⟩,
          bxf := F.bxf, nd := F.nd, avo := F.avo,
          cel := by
            have aux : ∀ {as : List Addr} {ws : List (List W)}, (∀ a ∈ as, Av a) → All2 (CellIs prog w Av own s.heap) as ws → All2 (CellIs prog w Av own h') as ws := fun av x => by
              induction x with
              | nil => exact .nil
              | cons a _ ih =>
                obtain ⟨vs, nn, ho, z, r⟩ := a
                exact .cons ⟨vs, nn, k _ _ (nz (av _ (.head _))) ho, z, r.imp fun _ _ q => W0 q⟩ (ih fun a m => av a (.tail _ m))
            exact aux (fun a m => (F.avo a m).1) F.cel }

theorem Rep.offD {D : Addr} {h h' : Heap} (hD : h.MapOf (intKind prog w) D fun _ => .none) (k : ∀ b o, b ≠ D → h.get? b = some o → h'.get? b = some o) {v : Value} {d : PV} (r : Rep prog w Av h v d) : Rep prog w Av h' v d := by
  obtain ⟨o1, es1, ep1, ho1, hc1, hd1, hk1, hf1⟩ := hD
  refine r.move (fun a o vs n na e dt => ⟨na, k _ _ (fun q => ?_) e⟩) fun a f i v na hm e1 => ⟨na, MapOf.at hm fun o e => k _ _ (fun q => ?_) e⟩
  · rw [q, ho1] at e; cases e; rw [hd1] at dt; cases dt
  · rw [q] at hm
    obtain ⟨o2, es2, ep2, ho2, _, hd2, _, hf2⟩ := hm
    rw [ho1] at ho2; cases ho2
    rw [hd1] at hd2; cases hd2
    rw [← hf2 i, hf1 i] at e1
    cases e1

noncomputable def PairOk (prog : Program) (w : World) (Av : Addr → Prop) (h : Heap) (p : Value × Value) (q : Int × PV) : Prop := (∃ t, p.1 = .int q.1 t) ∧ Rep prog w Av h p.2 q.2
theorem look_new : ∀ {l : List (Int × PV)} {i : Int}, (lookI l i).isSome = false → i ∉ l.map (·.1)
  | [], i, _, m => by cases m
  | p :: l, i, q, m => by
    have q : (bif W.Z.eqB p.1 i then some p.2 else lookI l i).isSome = false := q
    cases z : W.Z.eqB p.1 i with
    | true => rw [z] at q; cases q
    | false =>
      rw [z] at q
      rcases List.mem_cons.mp m with e | m
      · rw [(W.Z.eqB_iff _ _).mpr e.symm] at z; cases z
      · exact look_new q m
theorem pairsK_ok (O : Ok prog w ih) : ∀ {ks : List (Option PySem.Expr)} {vs : List PySem.Expr} {σ : Sto} {k : List (Int × PV) → Sto → Option R} {r : R}, pairsK ih K ρ ks vs σ k = some r → ∃ l σ', k l σ' = some r ∧
    ks.all (·.isSome) = true ∧ ks.length = vs.length ∧ l.length = ks.length ∧ (l.map (·.1)).Nodup ∧
    ∀ {B : Bs prog w} {n env hE Mu A}, Pt B n K env A → ∀ {Av own s} {Q : List (Value × Value) → Shared → Prop} {E}, Fra B env hE Mu Av own ρ σ s →
      (∀ ps Av' own' s', Stp Av own s Av' own' s' → Fra B env hE Mu Av' own' ρ σ' s' → All2 (PairOk prog w Av' s'.heap) ps l → Q ps s') → ∀ pos, wpAny (model prog w) A (evalPairs (pairTrees ks vs env pos)) Q E s
  | [], vs, σ, k, r, h => by
    cases vs with
    | nil => exact ⟨[], σ, h, rfl, rfl, rfl, .nil, fun _ _ _ _ _ _ F p _ => pairTrees_nil_walk (p [] _ _ _ (Stp.refl _ _ _) F .nil)⟩
    | cons _ _ => exact none_some h
  | a :: ks, vs, σ, k, r, h => by
    cases vs with
    | nil => exact none_some h
    | cons b vs =>
    cases a with
    | none => exact none_some h
    | some a =>
    obtain ⟨_, x1, σ1, h1, S1⟩ := O.e (show (ih.e a K ρ σ fun w1 σ => ih.e b K ρ σ fun w2 σ => intW w1 fun i => pureW w2 fun d => pairsK ih K ρ ks vs σ fun l σ => bif (lookI l i).isSome then .none else k ((i, d) :: l) σ) = some r from h)
    obtain ⟨_, x2, σ2, h2, S2⟩ := O.e h1
    obtain ⟨i, e1, h3⟩ := intW_inv h2
    obtain ⟨d, e2, h4⟩ := pureW_inv h3
    subst e1 e2
    obtain ⟨l, σ3, h5, e1, e2, e3, e4, S3⟩ := pairsK_ok O h4
    cases q : (lookI l i).isSome with
    | true => rw [q] at h5; exact none_some h5
    | false =>
    rw [q] at h5
    refine ⟨(i, d) :: l, σ3, h5, by rw [List.all_cons, e1]; rfl, by rw [List.length_cons, List.length_cons, e2], by rw [List.length_cons, List.length_cons, e3], List.nodup_cons.mpr ⟨look_new q, e4⟩, fun P _ _ _ _ _ F p pos => ?_⟩
    refine pairTrees_cons_walk (S1 P F fun v Av1 own1 s1 st1 F1 r1 => S2 P F1 fun v2 Av2 own2 s2 st2 F2 r2 => S3 P F2 (fun ps Av3 own3 s3 st3 F3 r3 => ?_) pos)
    obtain ⟨t, rfl⟩ := r1.v_inv.int_inv
    exact p _ _ _ _ ((st1.trans st2).trans st3) F3 (.cons ⟨⟨t, rfl⟩, r2.v_inv.grow st3.grow⟩ r3)

theorem pairs_carry {Av : Addr → Prop} {h : Heap} {ps : List (Value × Value)} {l : List (Int × PV)} (x : All2 (PairOk prog w Av h) ps l) : ∃ kvs : List (Int × Value), Carries (intKind prog w) ps kvs ∧ kvs.map (·.1) = l.map (·.1) ∧
    (∀ i d, lookI l i = some d → ∃ v, valueAt kvs i = some v ∧ Rep prog w Av h v d) ∧ ∀ i, lookI l i = .none → valueAt kvs i = .none := by
  induction x with
  | nil => exact ⟨[], trivial, rfl, fun i d e => by simp [lookI] at e, fun i _ => rfl⟩
  | @cons p q ps l a _ ih =>
    obtain ⟨kvs, h1, h2, h3, h4⟩ := ih
    obtain ⟨⟨t, e⟩, rv⟩ := a
    obtain ⟨pk, pv⟩ := p
    dsimp only at e rv
    subst e
    refine ⟨(q.1, pv) :: kvs, ⟨intKind_is prog w _ t, rfl, h1⟩, by simp [h2], fun i d e => ?_, fun i e => ?_⟩
    · unfold lookI at e
      unfold valueAt
      rw [List.find?_cons]
      cases z : W.Z.eqB q.1 i with
      | true =>
        rw [z] at e
        have := (W.Z.eqB_iff _ _).mp z
        simp only [this, decide_true]
        cases e
        exact ⟨pv, rfl, rv⟩
      | false =>
        rw [z] at e
        have : ¬ q.1 = i := fun e => by rw [(W.Z.eqB_iff _ _).mpr e] at z; cases z
        simp only [this, decide_false]
        exact h3 i d e
    · unfold lookI at e
      unfold valueAt
      rw [List.find?_cons]
      cases z : W.Z.eqB q.1 i with
      | true => rw [z] at e; cases e
      | false =>
        rw [z] at e
        have : ¬ q.1 = i := fun e => by rw [(W.Z.eqB_iff _ _).mpr e] at z; cases z
        simp only [this, decide_false]
        exact h4 i e

theorem fresh_not_mods (F : Fra B env hE Mu Av own ρ σ s) : (s.heap.objs.size == sysModules) = false := by
  obtain ⟨o, _, _, ho, _⟩ := B.hg
  have h1 := Heap.lt_size (F.base _ _ ho)
  have h2 : (3 : Nat) < s.heap.objs.size := h1
  rw [beq_eq_false_iff_ne]
  intro e
  have : s.heap.objs.size = 1 := e
  omega
theorem e_dict (O : Ok prog w ih) {ks : List (Option PySem.Expr)} {vs : List PySem.Expr} {pos : Pos} {k : W → Sto → Option R} {r : R} (h0 : stepE ih (.Dict ks vs pos) K ρ σ k = some r) :
    ∃ y σ', k y σ' = some r ∧ SemE prog w (.Dict ks vs pos) K ρ σ y σ' := by
  cases ks with
  | nil => exact none_some h0
  | cons k1 ks =>
  obtain ⟨hz, h⟩ := cond_some (show (bif Nat.ble (k1 :: ks).length 15 then pairsK ih K ρ (k1 :: ks) vs σ fun l σ => k (.v (.dict l)) σ else .none) = some r from h0)
  have hz := W.Z.ble_iff.mp hz
  obtain ⟨l, σ1, h1, e1, e2, e3, e4, S1⟩ := pairsK_ok O h
  refine ⟨_, _, h1, fun P _ _ s _ _ F p => ?_⟩
  refine wpAny_Dict_walk (knd := intKind prog w) e1 e2 (List.cons_ne_nil _ _) hz ?_
  have k0 : ∀ b o, s.heap.get? b = some o → (s.heap.push { cls := .type "dict", data := .dict #[] }).get? b = some o := fun _ _ e => Heap.get?_push_of_some _ e
  have hDn : s.heap.get? s.heap.objs.size = .none := by
    cases q : s.heap.get? s.heap.objs.size with
    | none => rfl
    | some o => exact absurd (Heap.lt_size q) (Nat.lt_irrefl _)
  have hD0 : (s.heap.push { cls := .type "dict", data := .dict #[] }).DictOf (intKind prog w) s.heap.objs.size [] := Heap.DictOf.new _
  refine S1 P (s := { s with heap := s.heap.push { cls := .type "dict", data := .dict #[] } }) (F.ext k0) (fun ps Av' own' s1 st1 F1 r1 => ?_) pos
  obtain ⟨kvs, c1, c2, c3, c4⟩ := pairs_carry r1
  have nA : ¬ Av' s.heap.objs.size := by
    obtain ⟨o, _, _, ho, _⟩ := hD0
    exact st1.grow.off ho F.freshA
  have hD1 : s1.heap.DictOf (intKind prog w) s.heap.objs.size [] := hD0.at fun o e => st1.grow.keep _ _ e F.freshA
  refine ⟨kvs, c1, hD1, fun h' hd hs => ?_⟩
  rw [merged_nil_of_nodup kvs (by rw [c2]; exact e4)] at hd
  have hM1 : s1.heap.MapOf (intKind prog w) s.heap.objs.size fun _ => .none := hD1.mapOf
  have kk : ∀ b o, b ≠ s.heap.objs.size → s1.heap.get? b = some o → h'.get? b = some o := hs.extBut
  have TT : ∀ v d, Rep prog w Av' s1.heap v d → Rep prog w Av' h' v d := fun v d q => q.offD hM1 kk
  refine p _ Av' own' _ ⟨st1.gens, st1.drawn, st1.os, ⟨st1.grow.mono, fun b x y => ?_, fun b o e nb => ?_⟩, st1.pre⟩ (F1.off F.fresh0 F.fresh nA kk TT) (.v ?_)
  · cases q : s.heap.get? b with
    | none => rfl
    | some o => have := st1.grow.fresh b x y; rw [k0 _ _ q] at this; cases this
  · exact kk b o (fun z => by rw [z, hDn] at e; cases e) (st1.grow.keep b o (k0 _ _ e) nb)
  · refine .dict (fun i => (valueAt kvs i).getD .none) nA (fresh_not_mods F) hd.mapOf (fun i d e => ?_) (fun i d e => ?_) c4 (fun z => by rw [z] at e3; cases e3)
    · obtain ⟨v, h1, _⟩ := c3 i d e
      rw [h1]; rfl
    · obtain ⟨v, h1, h2⟩ := c3 i d e
      rw [h1]
      exact TT _ _ h2

-- calls
theorem starred_none : ∀ {es : List PySem.Expr} (pos : Pos) (env : Env), es.all plainE = true → (backTo pos (starEach es env)).any (·.1) = false
  | [], _, _, _ => rfl
  | e :: es, pos, env, h => by
    rw [List.all_cons, Bool.and_eq_true] at h
    rw [plain_star h.1]
    have := starred_none (es := es) pos env h.2
    simpa [backTo] using this
theorem evL_plain (O : Ok prog w ih) : ∀ {es : List PySem.Expr} {σ : Sto} {k : List W → Sto → Option R} {r : R}, evL ih K ρ es σ k = some r → es.all plainE = true
  | [], _, _, _, _ => rfl
  | e :: es, σ, k, r, h => by
    obtain ⟨pl, x, σ1, h1, _⟩ := O.e (show (ih.e e K ρ σ fun w σ => evL ih K ρ es σ fun ws σ => k (w :: ws) σ) = some r from h)
    rw [List.all_cons, pl, evL_plain O h1]; rfl
theorem evalArgs_any {M : Model} {f : Value} {trees : List (Bool × Sem Value)} {Q : Args → Shared → Prop} (hp : trees.any (·.1) = false) (h : wpAny M A (spliced trees) (fun vs s₁ => Q ⟨vs, []⟩ s₁) E s) : wpAny M A (evalArgs f true trees []) Q E s := by
  cases trees with
  | nil =>
    unfold evalArgs
    show wpAny M A (spliced [] >>= _) Q E s
    refine wpAny_bind (wpAny_mono h (fun vs s' h' => ?_) fun _ _ x => x)
    refine wpAny_bind (wpAny_pure ?_)
    refine wpAny_holding ?_
    exact wpAny_bind (wpAny_pure (wpAny_bind (wpAny_pure (wpAny_pure h'))))
  | cons p r =>
    obtain ⟨b, x⟩ := p
    cases b with
    | true => simp at hp
    | false => exact Calls.evalArgs_plain h

theorem bval_tail : ∀ {c : Nat}, c ≠ 0 → c ≤ 12 → (∃ id, bval c = .builtin id) ∨ ∃ T, bval c = .type T
  | 0, h, _ => absurd rfl h
  | 1, _, _ => .inl ⟨_, rfl⟩
  | 2, _, _ => .inl ⟨_, rfl⟩
  | 3, _, _ => .inr ⟨_, rfl⟩
  | 4, _, _ => .inr ⟨_, rfl⟩
  | 5, _, _ => .inr ⟨_, rfl⟩
  | 6, _, _ => .inr ⟨_, rfl⟩
  | 7, _, _ => .inl ⟨_, rfl⟩
  | 8, _, _ => .inl ⟨_, rfl⟩
  | 9, _, _ => .inl ⟨_, rfl⟩
  | 10, _, _ => .inr ⟨_, rfl⟩
  | 11, _, _ => .inr ⟨_, rfl⟩
  | 12, _, _ => .inr ⟨_, rfl⟩
  | _ + 13, _, h => by omega
theorem le_bif {b : Bool} {x y m : Nat} (h1 : x ≤ m) (h2 : y ≤ m) : (bif b then x else y) ≤ m := by cases b <;> assumption
theorem bcode_le (x : Str) : bcode x ≤ 12 := by
  unfold bcode
  repeat (refine le_bif (by decide) ?_)
  decide

/-- the call of a built-in name, its arguments walked -/
theorem callName_builtin {f : Str} {p pos : Pos} {args : List PySem.Expr} {Q : Value → Shared → Prop} (P : Pt B n K env A) (F : Fra B env hE Mu Av own ρ σ s) (hf : okN f = true) (hg : globOk K f = true) (hb : bcode f ≠ 0) (hp : args.all plainE = true)
    (h : wpAny (model prog w) A (spliced (backTo pos (starEach args env))) (fun vs s₁ => wpAny (model prog w) A (call (bval (bcode f)) vs) Q E s₁) E s) :
    wpAny (model prog w) A (eval (.Call (.Name f p) args [] pos) env) Q E s := by
  refine wpAny_Call_NameR (loadB_ok P F hf hg hb ?_)
  have hs := starred_none pos env hp
  rcases bval_tail hb (bcode_le f) with ⟨id, e⟩ | ⟨T, e⟩
  · rw [e] at h ⊢
    exact Calls.callWith_builtin hs (evalArgs_any hs (by simpa using h))
  · rw [e] at h ⊢
    exact PyProof.Rows.callWith_type hs (evalArgs_any hs (by simpa using h))

/-- a call has turned lists of the frame's own -/
theorem Fra.turned {σ' : Sto} {h' : Heap} {tk : Nat} (F : Fra B env hE Mu Av own ρ σ s) (k : ∀ b o, b ∉ own → s.heap.get? b = some o → h'.get? b = some o) (cel : All2 (CellIs prog w Av own h') own σ') :
    Fra B env hE Mu Av own ρ σ' { s with heap := h', toks := tk } ∧ Stp Av own s Av own { s with heap := h', toks := tk } := by
  have G : Grow Av s.heap Av h' := ⟨fun _ x => x, fun _ x y => absurd x y, fun b o q n => k b o (fun m => n (F.avo b m).1) q⟩
  have W0 : ∀ {v y}, RepW prog w Av own s.heap v y → RepW prog w Av own h' v y := fun q => q.grow0 G
  have cellAt : ∀ {as : List Addr} {ws : Sto} {h : Heap}, All2 (CellIs prog w Av own h) as ws → ∀ a ∈ as, ∃ w0, CellIs prog w Av own h a w0 := fun x => by
    induction x with
    | nil => intro a m; cases m
    | cons c _ ih =>
      intro a m
      rcases List.mem_cons.mp m with e | m
      · subst e; exact ⟨_, c⟩
      · exact ih a m
  have nb : ∀ {b}, b ∈ own → B.h₀.get? b = .none := fun m => F.av0 _ (F.avo _ m).1
  obtain ⟨m, hn, hm⟩ := F.loc
  have nL : env.locals ∉ own := fun q => by
    obtain ⟨w0, c⟩ := cellAt F.cel _ q
    exact ns_ne_list hn c rfl
  have nC : ∀ {a v}, s.heap.IsCell a v → a ∉ own := fun c q => by
    obtain ⟨w0, c'⟩ := cellAt F.cel _ q
    exact cell_ne_list c c' rfl
  refine ⟨?_, rfl, rfl, rfl, G, [], by simp⟩
  exact { base := fun b o q => k b o (fun e => by rw [nb e] at q; cases q) (F.base b o q),
          prot := fun b o q nm => k b o (fun e => by rcases (F.avo b e).2 with z | z; (rw [z] at q; cases q); exact nm z) (F.prot b o q nm), av0 := F.av0,
          avs := fun b q => by
            by_cases z : b ∈ own
            · obtain ⟨_, vs, _, ho, _⟩ := cellAt cel b z; exact ⟨_, ho⟩
            · obtain ⟨o, ho⟩ := F.avs b q; exact ⟨o, k b o z ho⟩
          mu := F.mu, avL := F.avL, nwL := F.nwL, vis := F.vis,
          loc := ⟨m, Heap.Ns.at' hn fun o e => k _ o nL e, fun x y q l => let ⟨v, h1, h2⟩ := hm x y q l; ⟨v, h1, W0 h2⟩⟩,
          box := fun x y q l => let ⟨a, v, h1, ⟨o, h2, h2'⟩, h3⟩ := F.box x y q l; ⟨a, v, h1, ⟨o, k _ o (nC ⟨o, h2, h2'⟩) h2, h2'⟩, W0 h3⟩,
          bxs := fun fn x l => let ⟨a, v, h1, ⟨o, h2, h2'⟩, h3⟩ := F.bxs fn x l; ⟨a, v, h1, ⟨o, k _ o (nC ⟨o, h2, h2'⟩) h2, h2'⟩, h3⟩,
          bxf := F.bxf, nd := F.nd, avo := F.avo, cel := cel }

theorem e_callName (O : Ok prog w ih) {f : Str} {p pos : Pos} {args : List PySem.Expr} {k : W → Sto → Option R} {r : R} (h : evCall ih f args K ρ σ k = some r) :
    ∃ y σ', k y σ' = some r ∧ SemE prog w (.Call (.Name f p) args [] pos) K ρ σ y σ' := by
  unfold evCall at h
  cases q0 : get ρ f with
  | some _ => rw [q0] at h; exact none_some h
  | none =>
  rw [q0] at h
  obtain ⟨hc, h⟩ := cond_some h
  obtain ⟨hf, hg⟩ := bif_t hc
  have hp := evL_plain O h
  have hs := fun env => starred_none pos env hp
  obtain ⟨xs, σ1, h1, hl, S1⟩ := evL_ok O h
  cases q1 : K.fn f with
  | some g =>
    rw [q1] at h1
    obtain ⟨ds, q2, h1⟩ := opt_inv h1
    obtain ⟨d, q3, h1⟩ := opt_inv h1
    refine ⟨_, _, h1, fun P _ _ s _ _ F p => ?_⟩
    obtain ⟨a, o, fd, hm, ho, hfd, hcall⟩ := P.k.fn f g q1
    refine wpAny_Call_NameR (loadG_ok P F hf hg hm ?_)
    refine Calls.callWith_function (o := o) (fd := fd) (evalArgs_any (hs _) (S1 P F (fun vs Av' own' s1 st1 F1 r1 => ⟨⟨F1.base _ _ ho, hfd⟩, ?_⟩) pos))
    refine wpAny_call (hcall _ s1 Av' _ ds d _ P.a F1.base F1.av0 F1.avs (allV_all2 (by simpa using r1) q2) q3 fun v h' tk kk rv => ?_)
    exact PE.gv F1 (p.stp st1) v h' tk kk rv
  | none =>
  rw [q1] at h1
  cases q2 : K.fc f with
  | some g =>
    rw [q2] at h1
    obtain ⟨dd, q3, h1⟩ := opt_inv h1
    obtain ⟨d, σ2⟩ := dd
    refine ⟨_, _, h1, fun P _ _ s _ _ F p => ?_⟩
    obtain ⟨a, o, fd, hm, ho, hfd, hcall⟩ := P.k.fc f g q2
    refine wpAny_Call_NameR (loadG_ok P F hf hg hm ?_)
    refine Calls.callWith_function (o := o) (fd := fd) (evalArgs_any (hs _) (S1 P F (fun vs Av' own' s1 st1 F1 r1 => ⟨⟨F1.base _ _ ho, hfd⟩, ?_⟩) pos))
    refine wpAny_call (hcall _ s1 Av' own' _ xs σ1 σ2 d _ P.a F1.base F1.av0 F1.avs F1.nd (fun b m => (F1.avo b m).1) F1.cel (by simpa using r1) q3 fun v h' tk kk cel rv => ?_)
    obtain ⟨F2, st2⟩ := F1.turned (tk := tk) kk cel
    exact p _ _ _ _ (st1.trans st2) F2 (.v rv)
  | none =>
  rw [q2] at h1
  cases q3 : K.gl f with
  | some _ => rw [q3] at h1; exact none_some h1
  | none =>
  rw [q3] at h1
  obtain ⟨hb, d, h2, S2⟩ := callB_ok h1
  refine ⟨_, _, h2, fun P _ _ s _ _ F p => callName_builtin P F hf hg hb hp (S1 P F (fun vs Av' own' s1 st1 F1 r1 => S2 F1.avs P.a.h r1 (fun rw' hl => listV_ok F1 rw' hl) (PE.gv F1 (p.stp st1))) pos)⟩
end
end Og
end
section
open PySem PySem.Calls PyProof.Rows
namespace Og
theorem glue_len {α : Type} (sep : List α) : ∀ l : List (List α), (glue sep l).length = (l.map List.length).sum + sep.length * (l.length - 1)
  | [] => rfl
  | [a] => by simp [glue]
  | a :: b :: r => by
    show (a ++ (sep ++ glue sep (b :: r))).length = _
    rw [List.length_append, List.length_append, glue_len sep (b :: r)]
    simp only [List.map_cons, List.sum_cons, List.length_cons, Nat.add_sub_cancel, Nat.mul_add, Nat.mul_one]
    omega
theorem join_glue (sep : Str) : ∀ l : List Str, (Str.join sep l).cps.toList = glue sep.cps.toList (l.map fun x => x.cps.toList)
  | [] => rfl
  | [x] => rfl
  | x :: y :: r => by
    show ((x ++ sep) ++ Str.join sep (y :: r)).cps.toList = x.cps.toList ++ (sep.cps.toList ++ glue sep.cps.toList ((y :: r).map fun x => x.cps.toList))
    rw [← join_glue sep (y :: r)]
    simp [Str.cps_append]

section
variable {prog : Program} {w : World} {B : Bs prog w} {n : Nat} {K : Cx} {env : Env} {hE : Addr → Option Obj} {Mu Av : Addr → Prop} {own : List Addr} {A : Around} {ρ : Rho} {σ σ' : Sto} {s s' : Shared} {E : Value → Shared → Prop}
  {R : Type} {ih : Ev R}

theorem allB_ok {h : Heap} {vs : List Value} {ds : List PV} (x : All2 (Rep prog w Av h) vs ds) : ∀ {bs : List (List Nat)}, allB ds = some bs → ∃ l : List (Array UInt8 × Tok), vs = byteVals l ∧ bs = l.map fun p => p.1.toList.map UInt8.toNat := by
  induction x with
  | nil => intro bs e; cases e; exact ⟨[], rfl, rfl⟩
  | @cons v d vs ds a _ ih =>
    intro bs e
    obtain ⟨b, rfl, e⟩ := bytD_inv (show bytD d (fun b => opt (allB ds) fun l => some (b :: l)) .none = some bs from e)
    obtain ⟨l, q, e⟩ := opt_inv e
    cases e
    obtain ⟨l', rfl, rfl⟩ := ih q
    obtain ⟨c, t, rfl, _, rfl⟩ := a.bytes_inv
    exact ⟨(c, t) :: l', rfl, rfl⟩
theorem allS_ok {h : Heap} {vs : List Value} {ds : List PV} (x : All2 (Rep prog w Av h) vs ds) : ∀ {bs : List (List Nat)}, allS ds = some bs → ∃ l : List (Str × Tok), vs = strValues l ∧ bs = l.map fun p => p.1.cps.toList := by
  induction x with
  | nil => intro bs e; cases e; exact ⟨[], rfl, rfl⟩
  | @cons v d vs ds a _ ih =>
    intro bs e
    obtain ⟨b, rfl, e⟩ := strD_inv (show strD d (fun b => opt (allS ds) fun l => some (b :: l)) = some bs from e)
    obtain ⟨l, q, e⟩ := opt_inv e
    cases e
    obtain ⟨l', rfl, rfl⟩ := ih q
    cases a with
    | str c t _ => exact ⟨(c, t) :: l', rfl, rfl⟩

theorem call_bjoin {sep : Array UInt8} {t : Tok} {D : Addr} {items : Array Value} {ds : List PV} {bs : List (List Nat)} {Q : Value → Shared → Prop} (hl : s.heap.IsList D items) (x : All2 (Rep prog w Av s.heap) items.toList ds) (hb : allB ds = some bs)
    (hz : fits (glue (sep.toList.map UInt8.toNat) bs).length = true) (g : Gv prog w Av s (.bytes (glue (sep.toList.map UInt8.toNat) bs)) Q) : wpAny (model prog w) A (call (.builtin "bytes.join") [.bytes sep t, .ref D]) Q E s := by
  obtain ⟨l, e1, e2⟩ := allB_ok x hb
  have eg : glue (sep.toList.map UInt8.toNat) bs = (Builtin.Bytes.joined sep (l.map (·.1))).toList.map UInt8.toNat := by
    rw [joined_glue, glue_map, e2, List.map_map, List.map_map]; rfl
  have hz1 := fits_iff hz
  have hz2 : (Builtin.Bytes.joined sep (l.map (·.1))).size ≤ sizeLine := by
    rw [eg, List.length_map, Array.length_toList] at hz1; exact hz1
  refine wpAny_call_entry slot_bytes_join (PySem.W.typeIs_bytes _ _ _) entry_bytes_join ?_ (args_bytes_join _ _)
  refine bjoin_tree (l := l) (by rw [← e1, Array.toArray_toList]; exact hl) hz2 ?_ fun t' k => ⟨_, rfl, ?_⟩
  · rw [glue_len, e2] at hz1
    simp only [List.map_map, List.length_map, Array.length_toList] at hz1
    rw [sizeLine_eq] at hz1
    have e3 : (l.map (List.length ∘ fun p : Array UInt8 × Tok => p.1.toList.map UInt8.toNat)) = l.map (·.1.size) := by
      apply List.map_congr_left
      intro p _
      simp
    rw [e3] at hz1
    exact hz1
  · refine g _ s.heap k (fun _ _ e => e) ?_
    rw [eg]
    exact .bytes _ _ hz2

theorem str_sum {l : List Str} {m a : Nat} : l.toArray.foldl (fun (b : Nat) (x : Str) => b + x.length + m) a = a + (l.map fun x => x.length + m).sum := by
  rw [List.foldl_toArray]
  induction l generalizing a with
  | nil => simp
  | cons x r ih => rw [List.foldl_cons, ih, List.map_cons, List.sum_cons]; omega
theorem call_sjoin {sep : Str} {t : Tok} {D : Addr} {items : Array Value} {ds : List PV} {bs : List (List Nat)} {Q : Value → Shared → Prop} (hl : s.heap.IsList D items) (x : All2 (Rep prog w Av s.heap) items.toList ds) (hb : allS ds = some bs)
    (hz : fits ((glue sep.cps.toList bs).length + sep.cps.toList.length) = true) (g : Gv prog w Av s (.str (glue sep.cps.toList bs)) Q) : wpAny (model prog w) A (call (.builtin "str.join") [.str sep t, .ref D]) Q E s := by
  obtain ⟨l, e1, e2⟩ := allS_ok x hb
  have eg : glue sep.cps.toList bs = (Txt.join sep (l.map (·.1))).cps.toList := by
    unfold Txt.join
    rw [StrLaws.glued_eq_join, join_glue, e2, List.map_map]; rfl
  have hz1 := fits_iff hz
  have hz2 : (Txt.join sep (l.map (·.1))).cps.size ≤ sizeLine := by
    rw [eg, Array.length_toList] at hz1; omega
  refine SC.join (l := l) (by rw [← e1, Array.toArray_toList]; exact hl) rfl ?_ fun t' k => ?_
  · unfold JoinOk
    rw [Bool.not_eq_true']
    have : (List.map (fun x : Str × Tok => x.1) l).toArray.foldl (fun b x => b + x.length + sep.length) 0 ≤ sizeLine := by
      rw [str_sum]
      rw [glue_len, e2] at hz1
      simp only [List.map_map, List.length_map, Array.length_toList] at hz1
      cases l with
      | nil => simp
      | cons p r =>
        have e3 : ∀ r : List (Str × Tok), ((r.map ((fun x : Str => x.length + sep.length) ∘ fun x : Str × Tok => x.1))).sum = (r.map (List.length ∘ fun p : Str × Tok => p.1.cps.toList)).sum + sep.cps.size * r.length := by
          intro r
          induction r with
          | nil => simp
          | cons p r ih =>
            simp only [List.map_cons, List.sum_cons, ih, List.length_cons, Function.comp, Array.length_toList, Nat.mul_add, Nat.mul_one]
            have : p.1.length = p.1.cps.size := rfl
            have : sep.length = sep.cps.size := rfl
            omega
        rw [List.map_map, e3]
        simp only [List.length_cons, Nat.add_sub_cancel, Nat.mul_add, Nat.mul_one] at hz1 ⊢
        omega
    unfold Builtin.Str.tooLong
    rw [decide_eq_false_iff_not]
    omega
  · refine g _ s.heap k (fun _ _ e => e) ?_
    rw [eg]
    exact .str _ _ hz2

theorem one_tree {e : PySem.Expr} (h : plainE e = true) (pos : Pos) (env : Env) : backTo pos (starEach [e] env) = [(false, eval e env)] := by
  rw [plain_star h]; rfl
theorem two_tree {e f : PySem.Expr} (h : plainE e = true) (h' : plainE f = true) (pos : Pos) (env : Env) : backTo pos (starEach [e, f] env) = [(false, eval e env), (false, eval f env)] := by
  rw [plain_star h, plain_star h']; rfl

theorem join_ok (O : Ok prog w ih) {o : PySem.Expr} {apos pos : Pos} {args : List PySem.Expr} {k : W → Sto → Option R} {r : R} (h : evJoin ih o args K ρ σ k = some r) (hline : (apos.endLine == pos.line) = true) :
    ∃ y σ', k y σ' = some r ∧ SemE prog w (.Call (.Attribute o "join" apos) args [] pos) K ρ σ y σ' := by
  cases o with
  | Constant c kd cpos =>
    obtain ⟨a, e1, h⟩ := opt_inv h
    rw [sole_inv e1]
    cases c with
    | bytes b =>
      obtain ⟨pl, x1, σ1, h1, S1⟩ := O.e h
      obtain ⟨l, q1, h1⟩ := opt_inv h1
      obtain ⟨bs, q2, h1⟩ := opt_inv h1
      obtain ⟨hz, h1⟩ := cond_some h1
      refine ⟨_, _, h1, fun P _ _ s _ _ F p => wpAny_Call_method1_late rfl hline (one_tree pl pos _) (PySem.W.Constant_bytes ⟨"bytes", "bytes.join", PySem.W.FB.plainAttrs_bytes, slot_bytes_join, type_bytes_join, PySem.W.typeIs_bytes _ _ _, (fun _ e => nomatch e), ?_⟩)⟩
      have F0 : Fra _ _ _ _ _ _ _ _ { s with toks := s.toks + 1 } := F.ext (s' := { s with toks := s.toks + 1 }) fun _ _ e => e
      have st0 := Stp.ext (Av := ‹Addr → Prop›) (own := ‹List Addr›) (s := s) (h' := s.heap) (tk := s.toks + 1) fun _ _ e => e
      refine Calls.callWith_builtin rfl (Calls.evalArgs_plain (Calls.spliced_cons (S1 P F0 fun v Av1 own1 s1 st1 F1 r1 => Calls.spliced_nil ?_)))
      obtain ⟨D, items, rfl, hL, z, X⟩ := listV_ok F1 r1 q1
      exact call_bjoin hL X q2 hz (PE.gv F1 ((p.stp st0).stp st1))
    | str b =>
      obtain ⟨pl, x1, σ1, h1, S1⟩ := O.e h
      obtain ⟨l, q1, h1⟩ := opt_inv h1
      obtain ⟨bs, q2, h1⟩ := opt_inv h1
      obtain ⟨hz, h1⟩ := cond_some h1
      refine ⟨_, _, h1, fun P _ _ s _ _ F p => wpAny_Call_method1_late rfl hline (one_tree pl pos _) (Calls.Constant_str ⟨"str", "str.join", PySem.F.plainAttrs_str, PySem.F.slot_str_join, PySem.F.type_str_join, typeIs_str _ _ _, (fun _ e => nomatch e), ?_⟩)⟩
      have F0 : Fra _ _ _ _ _ _ _ _ { s with toks := s.toks + 1 } := F.ext (s' := { s with toks := s.toks + 1 }) fun _ _ e => e
      have st0 := Stp.ext (Av := ‹Addr → Prop›) (own := ‹List Addr›) (s := s) (h' := s.heap) (tk := s.toks + 1) fun _ _ e => e
      refine Calls.callWith_builtin rfl (Calls.evalArgs_plain (Calls.spliced_cons (S1 P F0 fun v Av1 own1 s1 st1 F1 r1 => Calls.spliced_nil ?_)))
      obtain ⟨D, items, rfl, hL, z, X⟩ := listV_ok F1 r1 q1
      exact call_sjoin hL X q2 hz (PE.gv F1 ((p.stp st0).stp st1))
    | _ => exact none_some h
  | _ => exact none_some h
/-- what a dict's get makes -/
theorem getK_ok {x1 x2 x3 : W} {k : W → Sto → Option R} {r : R} (h : getK x1 x2 x3 σ k = some r) : (∃ l, x1 = .v (.dict l)) ∧ ∃ y, k y σ = some r ∧
    ∀ {prog : Program} {w : World} {B : Bs prog w} {n K env hE Mu A}, Pt B n K env A → ∀ {Av own s Q E v1 v2 v3}, Fra B env hE Mu Av own ρ σ s → RepW prog w Av own s.heap v1 x1 → RepW prog w Av own s.heap v2 x2 → RepW prog w Av own s.heap v3 x3 →
        PE B env hE Mu Av own s ρ y σ Q → wpAny (model prog w) A (call (.builtin "dict.get") [v1, v2, v3]) Q E s := by
  obtain ⟨o, e1, h1⟩ := pureW_inv h
  obtain ⟨l, e2, h2⟩ := dictD_inv h1
  obtain ⟨a, e3, h3⟩ := pureW_inv h2
  obtain ⟨d, e4, h4⟩ := pureW_inv h3
  subst e1 e2 e3 e4
  refine ⟨⟨l, rfl⟩, ?_⟩
  cases a with
  | int i =>
    have h4 : (match lookI l i with | some x => k (.v x) σ | .none => k (.v d) σ) = some r := h4
    cases q : lookI l i with
    | some z =>
      rw [q] at h4
      refine ⟨_, h4, fun {prog w _ _ _ _ _ _ _} P _ _ s _ _ v1 v2 v3 F r1 r2 r3 p => ?_⟩
      obtain ⟨t, rfl⟩ := r2.v_inv.int_inv
      cases r1.v_inv with
      | dict g n m hm g1 g2 g3 g4 =>
        refine call_get (k := some i) hm m (intKind_is prog w i t) ?_
        dsimp only
        rw [g1 _ _ q]
        exact (PE.gv F p).same' (g2 _ _ q)
    | none =>
      rw [q] at h4
      refine ⟨_, h4, fun {prog w _ _ _ _ _ _ _} P _ _ s _ _ v1 v2 v3 F r1 r2 r3 p => ?_⟩
      obtain ⟨t, rfl⟩ := r2.v_inv.int_inv
      cases r1.v_inv with
      | dict g n m hm g1 g2 g3 g4 =>
        refine call_get (k := some i) hm m (intKind_is prog w i t) ?_
        dsimp only
        rw [g3 _ q]
        exact (PE.gv F p).same' r3.v_inv
  | none =>
    refine ⟨_, h4, fun {prog w _ _ _ _ _ _ _} P _ _ s _ _ v1 v2 v3 F r1 r2 r3 p => ?_⟩
    obtain rfl := r2.v_inv.none_inv
    cases r1.v_inv with
    | dict g n m hm g1 g2 g3 g4 =>
      exact call_get (k := .none) hm m rfl ((PE.gv F p).same' r3.v_inv)
  | _ => exact none_some h4
theorem get_ok (O : Ok prog w ih) {o : PySem.Expr} {apos pos : Pos} {args : List PySem.Expr} {k : W → Sto → Option R} {r : R} (h : evGet ih o args K ρ σ k = some r) (hline : (apos.endLine == pos.line) = true) :
    ∃ y σ', k y σ' = some r ∧ SemE prog w (.Call (.Attribute o "get" apos) args [] pos) K ρ σ y σ' := by
  obtain ⟨ab, e0, h⟩ := opt_inv h
  obtain ⟨qd, h⟩ := cond_some h
  obtain ⟨a, b⟩ := ab
  obtain ⟨_, x1, σ1, h1, S1⟩ := O.e h
  obtain ⟨pl2, x2, σ2, h2, S2⟩ := O.e h1
  obtain ⟨pl3, x3, σ3, h3, S3⟩ := O.e h2
  rw [duo_inv e0]
  have hbase : attributeBase o "get" = fun env whole => whole := by
    cases o <;> first | rfl | exact false_ne qd
  obtain ⟨⟨l, el⟩, y, h4, S4⟩ := getK_ok (ρ := ρ) h3
  refine ⟨_, _, h4, fun P _ _ s _ _ F p => wpAny_Call_method2_late (by rw [hbase]) hline (two_tree pl2 pl3 pos _) (S1 P F fun v1 Av1 own1 s1 st1 F1 r1 => ?_)⟩
  have hT : ∃ a f, v1 = .ref a ∧ s1.heap.MapOf (intKind prog w) a f := by
    rw [el] at r1
    cases r1.v_inv with
    | dict g n m hm g1 g2 g3 g4 => exact ⟨_, _, rfl, hm⟩
  obtain ⟨a1, f1, rfl, hm1⟩ := hT
  refine ⟨"dict", "dict.get", PySem.F.plainAttrs_dict, PySem.F.slot_dict_get, PySem.F.type_dict_get, hm1.typeIs, hm1.noDict, ?_⟩
  refine Calls.callWith_builtin rfl (Calls.evalArgs_plain (Calls.spliced_cons (S2 P F1 fun v2 Av2 own2 s2 st2 F2 r2 => Calls.spliced_cons (S3 P F2 fun v3 Av3 own3 s3 st3 F3 r3 => Calls.spliced_nil ?_))))
  exact S4 P F3 ((r1.stp st2).stp st3) (r2.stp st3) r3 (((p.stp st1).stp st2).stp st3)
theorem e_method (O : Ok prog w ih) {o : PySem.Expr} {name : Str} {apos pos : Pos} {args : List PySem.Expr} {k : W → Sto → Option R} {r : R} (h : (bif Nat.beq apos.endLine pos.line then evMeth ih o name args K ρ σ k else .none) = some r) :
    ∃ y σ', k y σ' = some r ∧ SemE prog w (.Call (.Attribute o name apos) args [] pos) K ρ σ y σ' := by
  obtain ⟨qp, h⟩ := cond_some h
  have hline : (apos.endLine == pos.line) = true := beq_iff_eq.mpr (Nat.eq_of_beq_eq_true qp)
  unfold evMeth at h
  cases qj : strB name "join" with
  | true =>
    rw [qj] at h
    have := (strB_iff _ _).mp qj
    subst this
    exact join_ok O h hline
  | false =>
  rw [qj] at h
  obtain ⟨qg, h⟩ := cond_some (show (bif strB name "get" then evGet ih o args K ρ σ k else .none) = some r from h)
  have := (strB_iff _ _).mp qg
  subst this
  exact get_ok O h hline
end
end Og
end
section
open PySem PySem.Calls PyProof.Rows
namespace Og
/-- which targets a loop may have -/
inductive Tm where
  | nm
  | both
  | tp
noncomputable def Tm.ok : Tm → PySem.Expr → Bool
  | .nm, t => nameT t
  | .both, t => nameT t || tupT t
  | .tp, t => tupT t
/-- an iterator as a contract: what it still hands out, as pure values -/
structure Trav (prog : Program) (w : World) (A : Around) (it : Value) (fp wr : List Addr) (tup : Tm) (St : (Addr → Prop) → List PV → Heap → Prop) (Mid : (Addr → Prop) → PV → List PV → Value → Heap → Prop) : Prop where
  sub : ∀ b ∈ wr, b ∈ fp
  here : ∀ Av l h, St Av l h → ∀ b ∈ fp, ∃ o, h.get? b = some o
  frame : ∀ Av Av' l h h', St Av l h → (∀ b ∈ fp, ∀ o, h.get? b = some o → h'.get? b = some o) → Grow Av h Av' h' → St Av' l h'
  item : ∀ Av d l (s : Shared) (Q : Option Value → Shared → Prop) (E : Value → Shared → Prop), St Av (d :: l) s.heap → (∀ b ∈ wr, Av b) → (∀ b, Av b → ∃ o, s.heap.get? b = some o) →
    (∀ v h' tk, Mid Av d l v h' → (∀ b o, b ∉ wr → s.heap.get? b = some o → h'.get? b = some o) → Q (some v) { s with heap := h', toks := tk }) → wpAny (model prog w) A (pyNext it) Q E s
  go : ∀ (target : PySem.Expr) Av d l v (s : Shared) (Q : Unit → Shared → Prop) (E : Value → Shared → Prop), tup.ok target = true → Mid Av d l v s.heap → (∀ b ∈ wr, Av b) →
    (∀ h', St Av l h' → Rep prog w Av h' v d → (∀ b o, b ∉ wr → s.heap.get? b = some o → h'.get? b = some o) → Q () { s with heap := h' }) → wpAny (model prog w) A (letOwnedTupleGo target it v) Q E s
  done : ∀ Av (s : Shared) (Q : Option Value → Shared → Prop) (E : Value → Shared → Prop), St Av [] s.heap →
    (∀ h' tk, (∀ b o, b ∉ wr → s.heap.get? b = some o → h'.get? b = some o) → Q none { s with heap := h', toks := tk }) → wpAny (model prog w) A (pyNext it) Q E s
  self : ∀ Av l (s : Shared) (Q : Value → Shared → Prop) (E : Value → Shared → Prop), St Av l s.heap → Q it s → wpAny (model prog w) A (pyIter it) Q E s

section
variable {prog : Program} {w : World} {B : Bs prog w} {n : Nat} {K : Cx} {env : Env} {hE : Addr → Option Obj} {Mu Av : Addr → Prop} {own : List Addr} {A : Around} {ρ : Rho} {σ σ' : Sto} {s s' : Shared} {E : Value → Shared → Prop}
  {R : Type} {ih : Ev R}

theorem Trav.ofWalks {I : Addr} {fp wr : List Addr} {m : Nat} {P : Nat → Value → Prop} {St : Nat → Heap → Prop} (W : Walks prog w A I fp wr m P St) (tup : Tm) (here : ∀ i h, St i h → ∀ b ∈ fp, ∃ o, h.get? b = some o)
    (uniq : ∀ i, i < m → ∃ v, P i v)
    (go : ∀ (target : PySem.Expr) i v (s : Shared) (Q : Unit → Shared → Prop) (E : Value → Shared → Prop), tup.ok target = true → St i s.heap → Q () s → wpAny (model prog w) A (letOwnedTupleGo target (.ref I) v) Q E s) :
    Trav prog w A (.ref I) fp wr tup (fun Av l h => ∃ i, i + l.length = m ∧ St i h ∧ ∀ j d, l[j]? = some d → ∀ v, P (i + j) v → Rep prog w Av h v d)
      (fun Av d l v h => ∃ i, i + l.length = m ∧ St i h ∧ Rep prog w Av h v d ∧ ∀ j d, l[j]? = some d → ∀ v, P (i + j) v → Rep prog w Av h v d) where
  sub := W.sub
  here := fun _ _ h ⟨i, _, st, _⟩ => here i h st
  frame := fun Av Av' l h h' ⟨i, e, st, r⟩ k G => ⟨i, e, W.frame _ _ _ st k, fun j d q v p => (r j d q v p).grow G⟩
  item := fun Av d l s Q E ⟨i, e, st, r⟩ wa _ q => by
    have hi : i < m := by rw [List.length_cons] at e; omega
    refine W.item i s Q E hi st fun v h' tk p st' k => q v h' tk ⟨i + 1, by rw [List.length_cons] at e; omega, st', ?_, fun j d' e' v' p' => ?_⟩ k
    · have G : Grow Av s.heap Av h' := ⟨fun _ x => x, fun _ x y => absurd x y, fun b o z nb => k b o (fun y => nb (wa b y)) z⟩
      exact (r 0 d rfl v p).grow G
    · have G : Grow Av s.heap Av h' := ⟨fun _ x => x, fun _ x y => absurd x y, fun b o z nb => k b o (fun y => nb (wa b y)) z⟩
      exact (r (j + 1) d' (by simpa using e') v' (by rw [show i + (j + 1) = i + 1 + j by omega]; exact p')).grow G
  go := fun target Av d l v s Q E ht ⟨i, e, st, rv, r⟩ _ q => go target i v s Q E ht st (q s.heap ⟨i, e, st, r⟩ rv fun _ _ _ z => z)
  done := fun Av s Q E ⟨i, e, st, _⟩ q => by
    have : i = m := by simpa using e
    subst this
    exact W.done s Q E st q
  self := fun Av l s Q E ⟨i, _, st, _⟩ q => W.self i s Q E st q

theorem go_listiter {I l : Addr} {i : Nat} {v : Value} (target : PySem.Expr) {Q : Unit → Shared → Prop} (ht : Tm.both.ok target = true) (hit : s.heap.IsListIter I l i) (hQ : Q () s) :
    wpAny (model prog w) A (letOwnedTupleGo target (.ref I) v) Q E s := by
  cases target <;> try (cases ht; done)
  case Name => exact wpAny_pure hQ
  case Tuple elts c pos =>
    cases v <;> try (exact wpAny_pure hQ)
    exact wpAny_letOwnedTupleGo_listiter hit hQ
theorem go_tupiter {I l : Addr} {i : Nat} {v : Value} (target : PySem.Expr) {Q : Unit → Shared → Prop} (ht : Tm.both.ok target = true) (hit : s.heap.IsTupleIter I l i) (hQ : Q () s) :
    wpAny (model prog w) A (letOwnedTupleGo target (.ref I) v) Q E s := by
  cases target <;> try (cases ht; done)
  case Name => exact wpAny_pure hQ
  case Tuple elts c pos =>
    cases v <;> try (exact wpAny_pure hQ)
    rename_i T
    obtain ⟨o, ho, hc, hd⟩ := hit
    unfold letOwnedTupleGo
    refine wpAny_bind (wpAny_load ho ?_)
    rw [hc, hd]
    show wpAny _ A (if (["enumerate", "zip", "dict_itemiterator", "dict_reverseitemiterator", "odict_iterator", "itertools.zip_longest", "itertools.pairwise"].contains "tuple_iterator" &&
        (#[.ref l, .int i 0] : Array Value)[0]? == some (rawInt T)) = true then _ else _) Q E s
    rw [if_neg (by
      intro h
      rw [show (["enumerate", "zip", "dict_itemiterator", "dict_reverseitemiterator", "odict_iterator", "itertools.zip_longest", "itertools.pairwise"].contains "tuple_iterator") = false from by decide, Bool.false_and] at h
      cases h)]
    exact wpAny_pure hQ
theorem go_name {I : Addr} {v : Value} (target : PySem.Expr) {Q : Unit → Shared → Prop} (ht : Tm.nm.ok target = true) (hQ : Q () s) :
    wpAny (model prog w) A (letOwnedTupleGo target (.ref I) v) Q E s := by
  cases target <;> try (cases ht; done)
  case Name => exact wpAny_pure hQ

/-- what a loop asks of its source: it is walked, and nothing of the old is lost -/
noncomputable def Srcs (prog : Program) (w : World) (A : Around) (Av : Addr → Prop) (s : Shared) (tup : Tm) (l : List PV) (v : Value) : Prop :=
  ∀ (Q : Value → Shared → Prop) (E : Value → Shared → Prop), (∀ it fp wr St Mid h' tk, Trav prog w A it fp wr tup St Mid → St (fun b => Av b ∨ b ∈ wr) l h' → (∀ b o, s.heap.get? b = some o → h'.get? b = some o) → (∀ b ∈ wr, s.heap.get? b = .none) → (∀ b ∈ fp, b ∈ wr ∨ ¬ Av b) →
    Q it { s with heap := h', toks := tk }) → wpAny (model prog w) A (pyIter v) Q E s

theorem none_of_size {h : Heap} : h.get? h.objs.size = .none := by
  cases q : h.get? h.objs.size with
  | none => rfl
  | some o => exact absurd (Heap.lt_size q) (Nat.lt_irrefl _)
theorem grow_wr {wr : List Addr} {h h' : Heap} (k : ∀ b o, h.get? b = some o → h'.get? b = some o) (fr : ∀ b ∈ wr, h.get? b = .none) : Grow Av h (fun b => Av b ∨ b ∈ wr) h' :=
  ⟨fun _ x => .inl x, fun b x y => fr b (x.resolve_left y), fun b o e _ => k b o e⟩
theorem all2_at {Q : Value → PV → Prop} {vs : List Value} {ds : List PV} (x : All2 Q vs ds) {j : Nat} {d : PV} {v : Value} (h : ds[j]? = some d) (h' : vs[j]? = some v) : Q v d := by
  obtain ⟨v', e, q⟩ := x.get h
  rw [e] at h'; cases h'; exact q

theorem srcs_list {a : Addr} {items : Array Value} {l : List PV} (hh : A.handled = .none) (nA : ¬ Av a) (hl : s.heap.IsList a items) (x : All2 (Rep prog w Av s.heap) items.toList l) : Srcs prog w A Av s .both l (.ref a) := by
  intro Q E q
  have lt : a < s.heap.objs.size := by obtain ⟨o, ho, _⟩ := hl; exact Heap.lt_size ho
  refine wpAny_pyIter_list hl ?_
  have W := Walks.list (prog := prog) (w := w) hh s.heap.objs.size a (Nat.ne_of_lt lt) items
  refine q _ _ _ _ _ _ s.toks (Trav.ofWalks W .both (fun i h st b hb => ?_) (fun i hi => ⟨_, Array.getElem?_eq_getElem hi⟩) fun target i v s Q E ht st hq => go_listiter target ht st.1 hq) ⟨0, ?_, ⟨⟨_, Heap.get?_push_size _ rfl, rfl, rfl⟩, hl.at fun o e => Heap.get?_push_of_some _ e⟩, ?_⟩ (fun b o e => Heap.get?_push_of_some _ e) ?_ ?_
  · obtain ⟨⟨o1, h1, _⟩, ⟨o2, h2, _⟩⟩ := st
    rcases List.mem_cons.mp hb with e | hb
    · subst e; exact ⟨o1, h1⟩
    · rw [List.mem_singleton] at hb; subst hb; exact ⟨o2, h2⟩
  · rw [Nat.zero_add, ← x.length, Array.length_toList]
  · intro j d hd v hv
    rw [Nat.zero_add] at hv
    exact (all2_at x hd (by simpa using hv)).grow (grow_wr (fun b o e => Heap.get?_push_of_some _ e) fun b hb => by rw [List.mem_singleton] at hb; subst hb; exact none_of_size)
  · intro b hb; rw [List.mem_singleton] at hb; subst hb; exact none_of_size
  · intro b hb
    rcases List.mem_cons.mp hb with e | hb
    · exact .inl (by simp [e])
    · rw [List.mem_singleton] at hb; subst hb; exact .inr nA
theorem srcs_tup {a : Addr} {items : Array Value} {l : List PV} (hh : A.handled = .none) (nA : ¬ Av a) (hl : s.heap.IsTuple a items) (x : All2 (Rep prog w Av s.heap) items.toList l) : Srcs prog w A Av s .both l (.ref a) := by
  intro Q E q
  have lt : a < s.heap.objs.size := by obtain ⟨o, ho, _⟩ := hl; exact Heap.lt_size ho
  refine wpAny_pyIter_tuple hl ?_
  have W := Walks.tuple (prog := prog) (w := w) hh s.heap.objs.size a (Nat.ne_of_lt lt) items
  refine q _ _ _ _ _ _ s.toks (Trav.ofWalks W .both (fun i h st b hb => ?_) (fun i hi => ⟨_, Array.getElem?_eq_getElem hi⟩) fun target i v s Q E ht st hq => go_tupiter target ht st.1 hq) ⟨0, ?_, ⟨⟨_, Heap.get?_push_size _ rfl, rfl, rfl⟩, hl.at fun o e => Heap.get?_push_of_some _ e⟩, ?_⟩ (fun b o e => Heap.get?_push_of_some _ e) ?_ ?_
  · obtain ⟨⟨o1, h1, _⟩, ⟨o2, h2, _⟩⟩ := st
    rcases List.mem_cons.mp hb with e | hb
    · subst e; exact ⟨o1, h1⟩
    · rw [List.mem_singleton] at hb; subst hb; exact ⟨o2, h2⟩
  · rw [Nat.zero_add, ← x.length, Array.length_toList]
  · intro j d hd v hv
    rw [Nat.zero_add] at hv
    exact (all2_at x hd (by simpa using hv)).grow (grow_wr (fun b o e => Heap.get?_push_of_some _ e) fun b hb => by rw [List.mem_singleton] at hb; subst hb; exact none_of_size)
  · intro b hb; rw [List.mem_singleton] at hb; subst hb; exact none_of_size
  · intro b hb
    rcases List.mem_cons.mp hb with e | hb
    · exact .inl (by simp [e])
    · rw [List.mem_singleton] at hb; subst hb; exact .inr nA
theorem srcs_bytes {b : Array UInt8} {t : Tok} (hh : A.handled = .none) : Srcs prog w A Av s .nm ((b.toList.map UInt8.toNat).map fun n : Nat => PV.int (n : Int)) (.bytes b t) := by
  intro Q E q
  refine PySem.W.KBw.pyIter_bytes ?_
  have W := PySem.W.KBw.walks (prog := prog) (w := w) hh s.heap.objs.size b t
  refine q _ _ _ _ _ _ s.toks (Trav.ofWalks W .nm (fun i h st c hc => ?_) (fun i hi => ⟨.int _ 0, _, 0, Array.getElem?_eq_getElem hi, rfl⟩) fun target i v s Q E ht st hq => go_name target ht hq) ⟨0, ?_, ⟨_, Heap.get?_push_size _ rfl, rfl, rfl⟩, ?_⟩ (fun b o e => Heap.get?_push_of_some _ e) ?_ ?_
  · rw [List.mem_singleton] at hc; subst hc; obtain ⟨o, ho, _⟩ := st; exact ⟨o, ho⟩
  · simp
  · intro j d hd v hv
    obtain ⟨c, u, h1, rfl⟩ := hv
    rw [Nat.zero_add] at h1
    simp only [List.getElem?_map, Option.map_eq_some_iff, Array.getElem?_toList] at hd
    obtain ⟨n, ⟨c', h2, rfl⟩, rfl⟩ := hd
    rw [h1] at h2; cases h2
    exact .int _ _
  · intro c hc; rw [List.mem_singleton] at hc; subst hc; exact none_of_size
  · intro c hc; exact .inl hc

theorem rangeL_get : ∀ (k : Nat) (a : Int) (j : Nat) (d : PV), (rangeL a k)[j]? = some d → d = .int (a + j)
  | 0, a, j, d, h => by simp [rangeL] at h
  | k + 1, a, 0, d, h => by simp [rangeL] at h; rw [← h]; simp
  | k + 1, a, j + 1, d, h => by
    simp only [rangeL, List.getElem?_cons_succ] at h
    have := rangeL_get k (a + 1) j d h
    rw [this]
    congr 1
    omega
theorem rangeL_len : ∀ (k : Nat) (a : Int), (rangeL a k).length = k
  | 0, _ => rfl
  | k + 1, a => by simp [rangeL, rangeL_len k]
theorem tiny_bd {x : Int} (h : tiny x = true) : -(2 ^ 62) ≤ x ∧ x < 2 ^ 62 := by
  have := W.Z.blt_iff.mp h
  omega
theorem srcs_range {r : Addr} {a b : Int} {t u v : Tok} (hh : A.handled = .none) (hr : IsRange s.heap r a b 1 t u v) (ha : tiny a = true) (hb : tiny b = true) : Srcs prog w A Av s .nm (rangeL a (b - a).toNat) (.ref r) := by
  intro Q E q
  obtain ⟨a1, a2⟩ := tiny_bd ha
  obtain ⟨b1, b2⟩ := tiny_bd hb
  refine wpAny_pyIter_range hr (small_one a1 a2 b1 b2) ?_
  have hsz : Builtin.Range.rangeSize a b 1 = ((b - a).toNat : Int) := by rw [rangeSize_one]; split <;> omega
  rw [hsz]
  have W := Walks.range (prog := prog) (w := w) hh s.heap.objs.size a 1 (b - a).toNat
  refine q _ _ _ _ _ _ s.toks (Trav.ofWalks W .nm (fun i h st c hc => ?_) (fun i hi => ⟨.int _ 0, 0, rfl⟩) fun target i v s Q E ht st hq => go_name target ht hq) ⟨0, ?_, ?_, ?_⟩ (fun b o e => Heap.get?_push_of_some _ e) ?_ ?_
  · rw [List.mem_singleton] at hc; subst hc; exact ⟨_, st⟩
  · rw [Nat.zero_add, rangeL_len]
  · have e1 : a + ((0 : Nat) : Int) * 1 = a := by simp
    have e2 : (((b - a).toNat : Nat) : Int) - ((0 : Nat) : Int) = ((b - a).toNat : Int) := by simp
    rw [e1, e2]
    exact Heap.get?_push_size _ rfl
  · intro j d hd v hv
    obtain ⟨t, rfl⟩ := hv
    rw [rangeL_get _ _ _ _ hd]
    have : a + ((0 + j : Nat) : Int) * 1 = a + j := by omega
    rw [this]
    exact .int _ _
  · intro c hc; rw [List.mem_singleton] at hc; subst hc; exact none_of_size
  · intro c hc; exact .inl hc
end
end Og
end
section
open PySem PySem.Calls PyProof.Rows
namespace Og
noncomputable def updAll : List (Str × W) → Rho → Rho
  | [], ρ => ρ
  | (x, y) :: r, ρ => updAll r (upd ρ x y)
theorem get_updAll : ∀ (ps : List (Str × W)) (ρ : Rho) (z : Str), get (updAll ps ρ) z = (ps.reverse.lookup z).or (get ρ z)
  | [], ρ, z => by simp [updAll]
  | (x, y) :: r, ρ, z => by
    rw [updAll, get_updAll r, get_upd, List.reverse_cons, List.lookup_append, Option.or_assoc]
    congr 1
    rw [List.lookup_cons, List.lookup_nil]
    by_cases h : z = x
    · subst h; simp
    · have : (z == x) = false := beq_eq_false_iff_ne.mpr h
      simp [h, this]
theorem lookup_rev : ∀ (ps : List (Str × W)), (ps.map (·.1)).Nodup → ∀ z, ps.reverse.lookup z = ps.lookup z
  | [], _, z => rfl
  | (x, y) :: r, h, z => by
    rw [List.map_cons, List.nodup_cons] at h
    rw [List.reverse_cons, List.lookup_append, lookup_rev r h.2, List.lookup_cons, List.lookup_cons, List.lookup_nil]
    cases q : z == x with
    | false => simp
    | true =>
      have e := eq_of_beq q
      subst e
      have : r.lookup z = .none := by
        cases q2 : r.lookup z with
        | none => rfl
        | some y' => exact absurd (List.mem_map.mpr ⟨_, mem_of_lookup q2, rfl⟩) h.1
      rw [this]; simp

section
variable {prog : Program} {w : World} {B : Bs prog w} {n : Nat} {K : Cx} {env : Env} {hE hE' : Addr → Option Obj} {Mu Av : Addr → Prop} {own : List Addr} {A : Around} {ρ ρ' : Rho} {σ σ' : Sto} {s s' : Shared} {E : Value → Shared → Prop}
  {R : Type} {ih : Ev R}

theorem Fra.congr (F : Fra B env hE Mu Av own ρ σ s) (h : ∀ x, get ρ' x = get ρ x) : Fra B env hE Mu Av own ρ' σ s :=
  { F with
    vis := fun x y e => F.vis x y (by rw [← h]; exact e)
    loc := let ⟨m, hn, hm⟩ := F.loc; ⟨m, hn, fun x y e => hm x y (by rw [← h]; exact e)⟩
    box := fun x y e => F.box x y (by rw [← h]; exact e) }

/-- new objects, some of which may turn -/
theorem Fra.grant {wr : List Addr} {h' : Heap} {tk : Nat} (F : Fra B env hE Mu Av own ρ σ s) (k : ∀ b o, s.heap.get? b = some o → h'.get? b = some o) (fr : ∀ b ∈ wr, s.heap.get? b = .none) (ex : ∀ b ∈ wr, ∃ o, h'.get? b = some o) :
    Fra B env hE Mu (fun b => Av b ∨ b ∈ wr) own ρ σ { s with heap := h', toks := tk } ∧ Stp Av own s (fun b => Av b ∨ b ∈ wr) own { s with heap := h', toks := tk } := by
  have G : Grow Av s.heap (fun b => Av b ∨ b ∈ wr) h' := grow_wr k fr
  have W0 : ∀ {v y}, RepW prog w Av own s.heap v y → RepW prog w (fun b => Av b ∨ b ∈ wr) own h' v y := fun q => q.grow0 G
  obtain ⟨m, hn, hm⟩ := F.loc
  refine ⟨?_, rfl, rfl, rfl, G, [], by simp⟩
  exact { base := fun b o q => k b o (F.base b o q), prot := fun b o q n => k b o (F.prot b o q n),
          av0 := fun b q => by
            rcases q with q | q
            · exact F.av0 b q
            · cases z : B.h₀.get? b with
              | none => rfl
              | some o => have := F.base b o z; rw [fr b q] at this; cases this
          avs := fun b q => by
            rcases q with q | q
            · obtain ⟨o, ho⟩ := F.avs b q; exact ⟨o, k b o ho⟩
            · exact ex b q
          mu := fun b q => .inl (F.mu b q), avL := .inl F.avL, nwL := F.nwL, vis := F.vis,
          loc := ⟨m, hn.keeps k, fun x y q l => let ⟨v, h1, h2⟩ := hm x y q l; ⟨v, h1, W0 h2⟩⟩,
          box := fun x y q l => let ⟨a, v, h1, h2, h3⟩ := F.box x y q l; ⟨a, v, h1, h2.keeps k, W0 h3⟩,
          bxs := fun fn x l => let ⟨a, v, h1, h2, h3, h4⟩ := F.bxs fn x l; ⟨a, v, h1, h2.keeps k, .inl h3, h4⟩,
          bxf := fun x a q => .inl (F.bxf x a q), nd := F.nd,
          avo := fun a ha => ⟨.inl (F.avo a ha).1, (F.avo a ha).2⟩
          cel := F.cel.imp fun a ws q => by simpa using q.grow (ext := []) G (k a) }

structure WrOk (env : Env) (hE : Addr → Option Obj) (Mu : Addr → Prop) (own wr : List Addr) : Prop where
  e : ∀ b ∈ wr, hE b = .none
  m : ∀ b ∈ wr, ¬ Mu b
  l : env.locals ∉ wr
  c : ∀ x a, env.cells.lookup x = some a → a ∉ wr
  o : ∀ a ∈ own, a ∉ wr
theorem Fra.wrOk {wr : List Addr} (F : Fra B env hE Mu Av own ρ σ s) (fr : ∀ b ∈ wr, s.heap.get? b = .none) : WrOk env hE Mu own wr where
  e := fun b hb => by
    cases q : hE b with
    | none => rfl
    | some o =>
      by_cases m : Mu b
      · obtain ⟨o', h'⟩ := F.avs _ (F.mu _ m); rw [fr b hb] at h'; cases h'
      · have := F.prot _ _ q m; rw [fr b hb] at this; cases this
  m := fun b hb m => by obtain ⟨o', h'⟩ := F.avs _ (F.mu _ m); rw [fr b hb] at h'; cases h'
  l := fun hb => by obtain ⟨o', h'⟩ := F.avs _ F.avL; rw [fr _ hb] at h'; cases h'
  c := fun x a e hb => by obtain ⟨o', h'⟩ := F.avs _ (F.bxf x a e); rw [fr _ hb] at h'; cases h'
  o := fun a ha hb => by obtain ⟨o', h'⟩ := F.avs _ (F.avo a ha).1; rw [fr _ hb] at h'; cases h'

/-- what the iterator turns -/
theorem Fra.wrote {wr : List Addr} {h' : Heap} {tk : Nat} (F : Fra B env hE Mu Av own ρ σ s) (X : WrOk env hE Mu own wr) (wa : ∀ b ∈ wr, Av b) (k : ∀ b o, b ∉ wr → s.heap.get? b = some o → h'.get? b = some o) (ex : ∀ b ∈ wr, ∃ o, h'.get? b = some o) :
    Fra B env hE Mu Av own ρ σ { s with heap := h', toks := tk } ∧ Stp Av own s Av own { s with heap := h', toks := tk } := by
  have G : Grow Av s.heap Av h' := ⟨fun _ x => x, fun _ x y => absurd x y, fun b o q n => k b o (fun m => n (wa b m)) q⟩
  have W0 : ∀ {v y}, RepW prog w Av own s.heap v y → RepW prog w Av own h' v y := fun q => q.grow0 G
  obtain ⟨m, hn, hm⟩ := F.loc
  refine ⟨?_, rfl, rfl, rfl, G, [], by simp⟩
  exact { base := fun b o q => k b o (fun m => by rw [F.av0 b (wa b m)] at q; cases q) (F.base b o q), prot := fun b o q n => k b o (fun m => by rw [X.e b m] at q; cases q) (F.prot b o q n), av0 := F.av0,
          avs := fun b q => by
            by_cases z : b ∈ wr
            · exact ex b z
            · obtain ⟨o, ho⟩ := F.avs b q; exact ⟨o, k b o z ho⟩
          mu := F.mu, avL := F.avL, nwL := F.nwL, vis := F.vis,
          loc := ⟨m, Heap.Ns.at' hn fun o e => k _ o X.l e, fun x y q l => let ⟨v, h1, h2⟩ := hm x y q l; ⟨v, h1, W0 h2⟩⟩,
          box := fun x y q l => let ⟨a, v, h1, ⟨o, h2, h2'⟩, h3⟩ := F.box x y q l; ⟨a, v, h1, ⟨o, k _ o (X.c x a h1) h2, h2'⟩, W0 h3⟩,
          bxs := fun fn x l => let ⟨a, v, h1, ⟨o, h2, h2'⟩, h3⟩ := F.bxs fn x l; ⟨a, v, h1, ⟨o, k _ o (X.c x a h1) h2, h2'⟩, h3⟩,
          bxf := F.bxf, nd := F.nd, avo := F.avo,
          cel := by
            have aux : ∀ {as : List Addr} {ws : List (List W)}, (∀ a ∈ as, a ∉ wr) → All2 (CellIs prog w Av own s.heap) as ws → All2 (CellIs prog w Av own h') as ws := fun av x => by
              induction x with
              | nil => exact .nil
              | cons a _ ih => exact .cons (by simpa using a.grow (ext := []) G fun o ho => k _ o (av _ (.head _)) ho) (ih fun a m => av a (.tail _ m))
            exact aux X.o F.cel }

/-- within a turn the iterator's objects are held as they are -/
noncomputable def hTurn (hE : Addr → Option Obj) (wr : List Addr) (h : Heap) : Addr → Option Obj := fun b => if b ∈ wr then h.get? b else hE b
theorem Fra.turnIn {wr : List Addr} (F : Fra B env hE Mu Av own ρ σ s) (X : WrOk env hE Mu own wr) : Fra B env (hTurn hE wr s.heap) Mu Av own ρ σ s :=
  { F with
    prot := fun b o q n => by
      unfold hTurn at q
      split at q
      · exact q
      · exact F.prot b o q n
    nwL := by unfold hTurn; rw [if_neg X.l]; exact F.nwL
    bxs := fun fn x l => let ⟨a, v, h1, h2, h3, h4⟩ := F.bxs fn x l; ⟨a, v, h1, h2, h3, by unfold hTurn; rw [if_neg (X.c x a h1)]; exact h4⟩
    avo := fun a ha => ⟨(F.avo a ha).1, (F.avo a ha).2.imp (fun z => by unfold hTurn; rw [if_neg (X.o a ha)]; exact z) id⟩ }
theorem Fra.turnOut {wr : List Addr} {h : Heap} (F : Fra B env (hTurn hE wr h) Mu Av own ρ σ s) (X0 : ∀ b ∈ wr, hE b = .none) : Fra B env hE Mu Av own ρ σ s := by
  have z : ∀ {b}, hTurn hE wr h b = .none → hE b = .none := fun {b} e => by
    unfold hTurn at e
    split at e
    · exact X0 b (by assumption)
    · exact e
  exact { F with
    prot := fun b o q n => F.prot b o (by
      unfold hTurn
      rw [if_neg fun m => by rw [X0 b m] at q; cases q]
      exact q) n
    nwL := z F.nwL
    bxs := fun fn x l => let ⟨a, v, h1, h2, h3, h4⟩ := F.bxs fn x l; ⟨a, v, h1, h2, h3, z h4⟩
    avo := fun a ha => ⟨(F.avo a ha).1, (F.avo a ha).2.imp z id⟩ }
theorem WrOk.after {wr own' : List Addr} {h : Heap} (X : WrOk env hE Mu own wr) (ex : ∀ b ∈ wr, ∃ o, h.get? b = some o) (F : Fra B env (hTurn hE wr h) Mu Av own' ρ σ s) : WrOk env hE Mu own' wr :=
  { X with
    o := fun a ha hb => by
      rcases (F.avo a ha).2 with z | z
      · unfold hTurn at z
        rw [if_pos hb] at z
        obtain ⟨o, ho⟩ := ex a hb
        rw [ho] at z; cases z
      · exact X.m a hb z }
theorem Fra.held {wr : List Addr} {h : Heap} (F : Fra B env (hTurn hE wr h) Mu Av own ρ σ s) (X : WrOk env hE Mu own' wr) : ∀ b ∈ wr, ∀ o, h.get? b = some o → s.heap.get? b = some o := fun b hb o e =>
  F.prot b o (by unfold hTurn; rw [if_pos hb]; exact e) (X.m b hb)

-- names are stored
noncomputable def OkStore (e : Env) (ok : Str → Bool) : Prop := ∀ x, ok x = true → e.kindOf x = some .local ∨ (e.kindOf x = some .cell ∧ e.func.isSome = true)
theorem Pt.stOk (P : Pt B n K env A) (fn : env.func.isSome = true) : OkStore env (stOk K.sc) := fun x h => by
  rw [P.kindOf]
  unfold Og.stOk at h
  cases q : kindIn K.sc x with
  | none => rw [q] at h; exact false_ne h
  | some k =>
    rw [q] at h
    cases k <;> first | exact .inl rfl | exact .inr ⟨rfl, fn⟩ | exact false_ne h
theorem Pt.loOk (P : Pt B n K env A) : OkStore env (loOk K.sc) := fun x h => by
  rw [P.kindOf]
  unfold Og.loOk at h
  cases q : kindIn K.sc x with
  | none => rw [q] at h; exact false_ne h
  | some k =>
    rw [q] at h
    cases k <;> first | exact .inl rfl | exact false_ne h
theorem Pt.notClass (P : Pt B n K env A) : (env.scope.kind == .class || (env.scope.kind == .module && env.locals != env.globals)) = false := by rw [P.x.kind]; rfl

theorem store_ok {ok : Str → Bool} {x : Str} {v : Value} {y : W} {Q : Unit → Shared → Prop} (P : Pt B n K env A) (hok : OkStore env ok) (hx : ok x = true) (F : Fra B env hE Mu Av own ρ σ s) (r : RepW prog w Av own s.heap v y)
    (q : ∀ h' tk, Fra B env hE Mu Av own (upd ρ x y) σ { s with heap := h', toks := tk } → Stp Av own s Av own { s with heap := h', toks := tk } → Q () { s with heap := h', toks := tk }) : wpAny (model prog w) A (storeName env x v) Q E s := by
  rcases hok x hx with l | ⟨l, fn⟩
  · obtain ⟨m, hn, hv⟩ := F.loc
    refine wpAny_storeName_local l hn (fun h' hn' hs => ?_) P.notClass
    refine q h' _ (F.setLocal (m' := m) l r (fun m' hn2 _ => ?_) hs) ⟨rfl, rfl, rfl, grow_but F.avL hs.extBut, [], by simp⟩
    have : m' = m := hn2.eq_nsMap.trans hn.eq_nsMap.symm
    rw [this]; exact hn'
  · obtain ⟨a, v0, h1, h2, h3⟩ := F.bxs fn x l
    refine wpAny_storeName_cell P.x.kind l h1 h2 fun h' hc hs => ?_
    exact q h' s.toks (F.setBox fn P.x l h1 h2 r hc hs) ⟨rfl, rfl, rfl, grow_but h3.1 hs.extBut, [], by simp⟩

/-- a storing of one name -/
noncomputable def Stores (prog : Program) (w : World) (env : Env) (f : Value → Sem Unit) (x : Str) : Prop :=
  ∀ {A : Around} {E : Value → Shared → Prop} {Q : Unit → Shared → Prop} {s v}, wpAny (model prog w) A (storeName env x v) Q E s → wpAny (model prog w) A (f v) Q E s
theorem stores_assign (x : Str) (p : Pos) : Stores prog w env (assign (.Name x p) env) x := fun h => assign_Name h
theorem stores_bind (x : Str) : Stores prog w env (fun v => bindName env x v) x := fun h => bindName_ h

theorem inOrder_ok {ok : Str → Bool} (P : Pt B n K env A) (hok : OkStore env ok) {fs : List (Value → Sem Unit)} {names : List Str} (hf : All2 (Stores prog w env) fs names) : ∀ {vs : List Value} {ws : List W} {ρ : Rho} {s : Shared} {Q : Unit → Shared → Prop},
    (∀ x ∈ names, ok x = true) → All2 (RepW prog w Av own s.heap) vs ws → names.length = ws.length → Fra B env hE Mu Av own ρ σ s →
    (∀ h' tk, Fra B env hE Mu Av own (updAll (names.zip ws) ρ) σ { s with heap := h', toks := tk } → Stp Av own s Av own { s with heap := h', toks := tk } → Q () { s with heap := h', toks := tk }) →
    wpAny (model prog w) A (assignInOrder fs vs) Q E s := by
  induction hf with
  | nil =>
    intro vs ws ρ s Q _ r e F q
    cases r with
    | nil => exact wpAny_pure (q s.heap s.toks F (Stp.refl _ _ _))
    | cons _ _ => cases e
  | @cons f x fs names hf _ ih =>
    intro vs ws ρ s Q hx r e F q
    cases r with
    | nil => cases e
    | @cons v y vs ws r rs =>
    show wpAny _ _ (do holding vs (f v); assignInOrder fs vs) Q E s
    refine wpAny_bind (wpAny_holding (hf (store_ok P hok (hx x (.head _)) F r fun h' tk F1 st1 => ?_)))
    refine ih (fun z hz => hx z (.tail _ hz)) (rs.imp fun _ _ a => a.stp st1) (Nat.succ.inj e) F1 fun h'' tk' F2 st2 => ?_
    exact q h'' tk' F2 (st1.trans st2)

/-- the names of a tuple of names -/
noncomputable def NamesAre (ts : List PySem.Expr) (names : List Str) : Prop := All2 (fun t x => ∃ p, t = PySem.Expr.Name x p) ts names
theorem bindN_ok {ok : Str → Bool} : ∀ {ts : List PySem.Expr} {ws : List W} {ρ ρ' : Rho}, bindN ok ts ws ρ = some ρ' → ∃ names, NamesAre ts names ∧ (∀ x ∈ names, ok x = true) ∧ names.length = ws.length ∧ ρ' = updAll (names.zip ws) ρ
  | [], ws, ρ, ρ', h => by
    cases ws with
    | nil => cases h; exact ⟨[], .nil, (fun _ m => nomatch m), rfl, rfl⟩
    | cons _ _ => exact none_some h
  | t :: ts, ws, ρ, ρ', h => by
    cases ws with
    | nil => exact none_some h
    | cons y ws =>
    cases t with
    | Name x p =>
      obtain ⟨hx, h⟩ := cond_some (show (bif ok x then bindN ok ts ws (upd ρ x y) else .none) = some ρ' from h)
      obtain ⟨names, h1, h2, h3, h4⟩ := bindN_ok h
      refine ⟨x :: names, .cons ⟨p, rfl⟩ h1, fun z hz => ?_, congrArg (· + 1) h3, h4⟩
      rcases List.mem_cons.mp hz with e | hz
      · subst e; exact hx
      · exact h2 z hz
    | _ => exact none_some h
theorem names_each {ts : List PySem.Expr} {names : List Str} (h : NamesAre ts names) : All2 (Stores prog w env) ((assignEach ts env).map (·.2)) names ∧ (assignEach ts env).findIdx? (·.1) = .none ∧ (assignEach ts env).length = names.length := by
  induction h with
  | nil => exact ⟨.nil, rfl, rfl⟩
  | cons a _ ih =>
    obtain ⟨p, rfl⟩ := a
    obtain ⟨i1, i2, i3⟩ := ih
    refine ⟨.cons (stores_assign _ _) i1, ?_, ?_⟩
    · show List.findIdx? (fun x => x.1) ((false, _) :: assignEach _ env) = .none
      rw [List.findIdx?_cons]; simp [i2]
    · show (assignEach _ env).length + 1 = _
      rw [i3]; rfl

theorem draw_walk {I : Addr} {fp wr : List Addr} {k : Nat} {P : Nat → Value → Prop} {St : Nat → Heap → Prop} (W : Walks prog w A I fp wr k P St) : ∀ (m i : Nat) (s : Shared) (Q : List Value → Shared → Prop), St i s.heap → i + m ≤ k →
    (∀ vs h' tk, vs.length = m → (∀ j v, vs[j]? = some v → P (i + j) v) → St (i + m) h' → (∀ b o, b ∉ wr → s.heap.get? b = some o → h'.get? b = some o) → Q vs { s with heap := h', toks := tk }) → wpAny (model prog w) A (draw (.ref I) m) Q E s
  | 0, i, s, Q, st, _, q => wpAny_pure (q [] s.heap s.toks rfl (by simp) st fun _ _ _ e => e)
  | m + 1, i, s, Q, st, le, q => by
    show wpAny _ _ (pyNext (.ref I) >>= _) Q E s
    refine wpAny_bind (W.item i s _ _ (by omega) st fun v h1 tk1 p1 st1 k1 => ?_)
    refine wpAny_bind (wpAny_holding (draw_walk W m (i + 1) _ _ st1 (by omega) fun vs h2 tk2 e2 p2 st2 k2 => wpAny_pure ?_))
    refine q (v :: vs) h2 tk2 (by simp [e2]) (fun j u hj => ?_) (by rw [show i + (m + 1) = i + 1 + m by omega]; exact st2) fun b o nb e => k2 b o nb (k1 b o nb e)
    cases j with
    | zero => simp at hj; subst hj; exact p1
    | succ j => simp at hj; have := p2 j u hj; rw [show i + (j + 1) = i + 1 + j by omega]; exact this
theorem unpackItems_list {a : Addr} {items : Array Value} {Q : List Value → Shared → Prop} (hh : A.handled = .none) (hl : s.heap.IsList a items) (hQ : ∀ h' tk, (∀ b o, s.heap.get? b = some o → h'.get? b = some o) → Q items.toList { s with heap := h', toks := tk }) :
    wpAny (model prog w) A (unpackItems (.ref a) items.size .none) Q E s := by
  have hlt : a ≠ s.heap.objs.size := by obtain ⟨o, ho, _⟩ := hl; exact Nat.ne_of_lt (Heap.lt_size ho)
  unfold unpackItems
  refine wpAny_bind ?_
  unfold notIterableAtAll
  refine wpAny_bind (wpAny_specialOf hl.typeIs PySem.slot_list_iter.lookup ?_)
  refine wpAny_pure ?_
  simp only [Bool.false_eq_true, if_false]
  refine wpAny_bind (wpAny_holding (wpAny_pyIter_list hl ?_))
  have W := Walks.list (prog := prog) (w := w) hh s.heap.objs.size a hlt items
  refine wpAny_bind (wpAny_holding (draw_walk W items.size 0 _ _ ⟨⟨_, Heap.get?_push_size _ rfl, rfl, rfl⟩, hl.at fun o e => Heap.get?_push_of_some _ e⟩ (by omega) fun vs h1 tk1 e1 p1 st1 k1 => ?_))
  have ev : vs = items.toList := by
    apply List.ext_getElem?
    intro j
    by_cases hj : j < items.size
    · have h2 : vs[j]? = some vs[j] := List.getElem?_eq_getElem (by omega)
      have := p1 j _ h2
      rw [Nat.zero_add] at this
      rw [h2]
      simpa using this.symm
    · rw [List.getElem?_eq_none (by omega), List.getElem?_eq_none (by rw [Array.length_toList]; omega)]
  subst ev
  rw [if_neg (by simp)]
  refine wpAny_bind (wpAny_holding (W.done _ _ _ (by rw [Nat.zero_add] at st1; exact st1) fun h2 tk2 k2 => ?_))
  simp only [Option.isSome_none, Bool.false_eq_true, if_false]
  refine wpAny_pure (hQ h2 tk2 fun b o e => ?_)
  have nb : b ∉ [s.heap.objs.size] := by rw [List.mem_singleton]; exact Nat.ne_of_lt (Heap.lt_size e)
  exact k2 b o nb (k1 b o nb (Heap.get?_push_of_some _ e))

theorem assign_ok {ok : Str → Bool} {t : PySem.Expr} {y : W} {v : Value} {Q : Unit → Shared → Prop} (h0 : bindT ok t y ρ = some ρ') (P : Pt B n K env A) (hok : OkStore env ok) (F : Fra B env hE Mu Av own ρ σ s) (r : RepW prog w Av own s.heap v y)
    (q : ∀ h' tk, Fra B env hE Mu Av own ρ' σ { s with heap := h', toks := tk } → Stp Av own s Av own { s with heap := h', toks := tk } → Q () { s with heap := h', toks := tk }) : wpAny (model prog w) A (assign t env v) Q E s := by
  cases t with
  | Name x p =>
    obtain ⟨hx, h⟩ := cond_some (show (bif ok x then some (upd ρ x y) else .none) = some ρ' from h0)
    cases h
    exact assign_Name (store_ok P hok hx F r q)
  | Tuple ts c pos =>
    obtain ⟨d, e1, h⟩ := pureW_inv (show pureW y (fun d => seqD d fun l => bindN ok ts (l.map W.v) ρ) = some ρ' from h0)
    obtain ⟨l, e2, h⟩ := seqD_inv h
    obtain ⟨names, h1, h2, h3, h4⟩ := bindN_ok h
    subst e1 h4
    obtain ⟨n1, n2, n3⟩ := names_each (prog := prog) (w := w) (env := env) h1
    rcases e2 with e2 | e2
    · subst e2
      obtain ⟨a, vs, rfl, nA, hT, z, X⟩ := r.v_inv.tup_inv
      refine wpAny_assign_Tuple P.a.h hT (by rw [n3, h3, List.length_map, ← X.length, Array.length_toList]) n2 fun h' hx => ?_
      have k : ∀ b o, s.heap.get? b = some o → h'.get? b = some o := fun b o e => hx b o (Nat.ne_of_lt (Heap.lt_size e)) e
      have st0 : Stp Av own s Av own { s with heap := h' } := Stp.ext (tk := s.toks) k
      exact inOrder_ok P hok n1 h2 (all2_v (X.imp fun _ _ a => a.stp st0)) h3 (F.ext (s' := { s with heap := h' }) k) fun h'' tk F2 st2 => q h'' tk F2 (st0.trans st2)
    · subst e2
      obtain ⟨a, vs, rfl, nA, hL, z, X⟩ := r.v_inv.list_inv
      rw [arm_assign_Tuple]
      refine wpAny_bind (wpAny_standAt ?_)
      unfold unpack
      have en := n3.trans (h3.trans (show _ = vs.size by rw [List.length_map, ← X.length, Array.length_toList]))
      rw [n2, en]
      refine wpAny_bind (wpAny_holding (unpackItems_list P.a.h hL fun h' tk k => ?_))
      have st0 : Stp Av own s Av own { s with heap := h', toks := tk } := Stp.ext k
      exact inOrder_ok P hok n1 h2 (all2_v (X.imp fun _ _ a => a.stp st0)) h3 (F.ext (s' := { s with heap := h', toks := tk }) k) fun h'' tk F2 st2 => q h'' tk F2 (st0.trans st2)
  | _ => exact none_some h0
end
end Og
end
section
open PySem PySem.Calls PyProof.Rows
namespace Og
section
variable {prog : Program} {w : World} {B : Bs prog w} {n : Nat} {K : Cx} {env : Env} {hE hE' : Addr → Option Obj} {Mu Av : Addr → Prop} {own : List Addr} {A : Around} {ρ ρ' : Rho} {σ σ' : Sto} {s s' : Shared} {E : Value → Shared → Prop}
  {R : Type} {ih : Ev R}

theorem evS_ok (O : Ok prog w ih) : ∀ {st : List Stmt} {ρ : Rho} {σ : Sto} {k : Fl → Rho → Sto → Option R} {r : R}, evS ih st K ρ σ k = some r → ∃ f ρ' σ', k f ρ' σ' = some r ∧ SemSS prog w st K ρ σ f ρ' σ'
  | [], ρ, σ, k, r, h => ⟨.next, ρ, σ, h, fun _ _ _ _ _ _ _ F p => wpAny_execs_nil (p _ _ _ _ (Stp.refl _ _ _) F .next)⟩
  | st :: rest, ρ, σ, k, r, h => by
    obtain ⟨f, ρ1, σ1, h1, S1⟩ := O.s (show (ih.s st K ρ σ fun f ρ σ => match f with | .next => evS ih rest K ρ σ k | .ret w => k (.ret w) ρ σ) = some r from h)
    cases f with
    | ret x =>
      refine ⟨_, _, _, h1, fun P fn _ _ _ _ _ F p => wpAny_execs_cons (S1 P fn F fun fl Av' own' s' st1 F1 r1 => ?_)⟩
      cases r1 with
      | ret r1 => exact p _ _ _ _ st1 F1 (.ret r1)
    | next =>
      obtain ⟨f2, ρ2, σ2, h2, S2⟩ := evS_ok O h1
      refine ⟨_, _, _, h2, fun P fn _ _ _ _ _ F p => wpAny_execs_cons (S1 P fn F fun fl Av' own' s' st1 F1 r1 => ?_)⟩
      cases r1 with
      | next => exact S2 P fn F1 (p.stp st1)

theorem s_ret (O : Ok prog w ih) {v : Option PySem.Expr} {pos : Pos} {k : Fl → Rho → Sto → Option R} {r : R} (h0 : stepS ih (.Return v pos) K ρ σ k = some r) : ∃ f ρ' σ', k f ρ' σ' = some r ∧ SemS prog w (.Return v pos) K ρ σ f ρ' σ' := by
  obtain ⟨e, rfl, h⟩ := opt_inv (show (opt v fun e => ih.e e K ρ σ fun w σ => k (.ret w) ρ σ) = some r from h0)
  obtain ⟨_, x1, σ1, h1, S1⟩ := O.e h
  exact ⟨_, _, _, h1, fun P fn _ _ _ _ _ F p => wpAny_Return_some (S1 P F fun v Av' own' s' st1 F1 r1 => p _ _ _ _ st1 F1 (.ret r1))⟩

theorem no_swap {e : PySem.Expr} (h : compE e = false) (t : Option PySem.Expr) (l : Nat) (env : Env) : swapsWith e t l env = pure false := by
  cases e <;> first | rfl | cases h

theorem s_name (O : Ok prog w ih) {x : Str} {e : PySem.Expr} {xp pos : Pos} {k : Fl → Rho → Sto → Option R} {r : R} (h : asg ih (.Name x xp) e K ρ σ k = some r) :
    ∃ f ρ' σ', k f ρ' σ' = some r ∧ SemS prog w (.Assign [.Name x xp] e pos) K ρ σ f ρ' σ' := by
  obtain ⟨hx, h⟩ := cond_some (show (bif stOk K.sc x then ih.e e K ρ σ fun w σ => k .next (upd ρ x w) σ else .none) = some r from h)
  cases hc : compE e with
  | true =>
    obtain ⟨y, σ1, h1, S1⟩ := O.c h hc
    exact ⟨_, _, _, h1, S1 x xp pos hx⟩
  | false =>
  obtain ⟨_, x1, σ1, h1, S1⟩ := O.e h
  refine ⟨_, _, _, h1, fun P fn _ _ _ _ _ F p => wpAny_Assign_Name (S1 P F fun v Av' own' s' st1 F1 r1 => ?_) (no_swap hc _ _ _)⟩
  exact store_ok P (P.stOk fn) hx F1 r1 fun h' tk F2 st2 => p _ _ _ _ (st1.trans st2) F2 .next

theorem no_swapT {e : PySem.Expr} {ts c tp l} : swapsWithSole [.Tuple ts c tp] e l env = pure false := by
  cases e <;> rfl
theorem no_swapI {e : PySem.Expr} {o i sp l} : swapsWith e (some (.Subscript o i sp)) l env = pure false := by
  cases e <;> rfl
theorem no_stores {e : PySem.Expr} {ts c tp} (h : tupE e = .none) : swappedStores [.Tuple ts c tp] e env = pure .none := by
  cases e <;> first | rfl | cases h

theorem s_tuple (O : Ok prog w ih) {ts : List PySem.Expr} {c : Nat} {e : PySem.Expr} {tp pos : Pos} {k : Fl → Rho → Sto → Option R} {r : R} (hc : tupE e = .none) (h : asgT ih (.Tuple ts c tp) e K ρ σ k = some r) :
    ∃ f ρ' σ', k f ρ' σ' = some r ∧ SemS prog w (.Assign [.Tuple ts c tp] e pos) K ρ σ f ρ' σ' := by
  obtain ⟨_, x1, σ1, h1, S1⟩ := O.e h
  obtain ⟨ρ1, q, h1⟩ := opt_inv h1
  refine ⟨_, _, _, h1, fun P fn _ _ _ _ _ F p => Assign_Tuple (S1 P F fun v Av' own' s' st1 F1 r1 => ?_) no_swapT (no_stores hc)⟩
  exact assign_ok q P (P.stOk fn) F1 r1 fun h' tk F2 st2 => p _ _ _ _ (st1.trans st2) F2 .next

theorem names_filter {F : PySem.Expr → Option Str} {ts : List PySem.Expr} {names : List Str} (h : NamesAre ts names) (B : Str → Pos → Bool) : (ts.filterMap F).length = ts.length → (∀ x p, F (.Name x p) = if B x p = true then some x else none) → ts.filterMap F = names ∧ ∀ x ∈ names, ∃ p, B x p = true := by
  intro l hF
  induction h with
  | nil => exact ⟨rfl, fun x m => by cases m⟩
  | @cons t x ts names a _ ih =>
    obtain ⟨p, rfl⟩ := a
    by_cases q : B x p = true
    · have e : (PySem.Expr.Name x p :: ts).filterMap F = x :: ts.filterMap F := List.filterMap_cons_some (by rw [hF, if_pos q])
      rw [e] at l ⊢
      obtain ⟨i1, i2⟩ := ih (Nat.succ.inj l)
      rw [i1]
      exact ⟨rfl, fun z hz => (List.mem_cons.mp hz).elim (fun e => e ▸ ⟨p, q⟩) (i2 z)⟩
    · rw [List.filterMap_cons_none (by rw [hF, if_neg q])] at l
      exact absurd l (Nat.ne_of_lt (Nat.lt_succ_of_le (List.length_filterMap_le F ts)))
theorem hasN_ok {x : Str} {ts : List PySem.Expr} {names : List Str} (r : NamesAre ts names) : x ∈ names → hasN x ts = true := by
  induction r with
  | nil => intro m; cases m
  | @cons t y ts names a _ ih =>
    intro m
    obtain ⟨p, rfl⟩ := a
    show (bif strB y x then true else hasN x ts) = true
    cases z : strB y x with
    | true => rfl
    | false =>
      rcases List.mem_cons.mp m with e | m
      · rw [(strB_iff y x).mpr e.symm] at z; cases z
      · exact ih m
theorem distN_ok {ts : List PySem.Expr} {names : List Str} (r : NamesAre ts names) : distN ts = true → names.Nodup := by
  induction r with
  | nil => intro _; exact .nil
  | @cons t x ts names a r ih =>
    intro h
    obtain ⟨p, rfl⟩ := a
    have h : (bif hasN x ts then false else distN ts) = true := h
    cases q : hasN x ts with
    | true => rw [q] at h; exact false_ne h
    | false =>
      rw [q] at h
      exact List.nodup_cons.mpr ⟨fun m => no_both q (hasN_ok r m), ih h⟩
theorem swapped_or {ts : List PySem.Expr} {c : Nat} {es : List PySem.Expr} {c' : Nat} {p p' : Pos} {names : List Str} (hn : NamesAre ts names) (hz : es.all (constantsAlone 8) = false) :
    swappedStores [.Tuple ts c p] (.Tuple es c' p') env = pure .none ∨ (swappedStores [.Tuple ts c p] (.Tuple es c' p') env = pure (some names) ∧ ∀ x ∈ names, env.kindOf x = some .local) := by
  unfold swappedStores
  dsimp only
  split
  · exact .inl rfl
  split
  · exact .inl rfl
  split
  · exact .inl rfl
  rename_i q1 q2 q3
  split
  · exact .inl rfl
  split
  · rename_i q4 q5
    rw [hz] at q5; cases q5
  · rw [Bool.or_eq_true, not_or] at q3
    have l := q3.1
    rw [bne_iff_ne, Classical.not_not] at l
    obtain ⟨i1, i2⟩ := names_filter hn (fun x p => env.kindOf x == some .local && p.line == _) l (fun _ _ => rfl)
    refine .inr ⟨?_, fun x m => ?_⟩
    rotate_left
    · obtain ⟨p, q⟩ := i2 x m
      exact beq_iff_eq.mp (Bool.and_eq_true_iff.mp q).1
    exact congrArg (fun z => (pure (some z) : Sem (Option (List Str)))) i1

theorem updAll_rev {ps : List (Str × W)} (h : (ps.map (·.1)).Nodup) (z : Str) : get (updAll ps ρ) z = get (updAll ps.reverse ρ) z := by
  rw [get_updAll, get_updAll, List.reverse_reverse, lookup_rev ps h]
theorem zip_fst {names : List Str} {ws : List W} (h : names.length = ws.length) : (names.zip ws).map (·.1) = names := by
  rw [List.map_fst_zip (by omega)]

theorem s_pair (O : Ok prog w ih) {ts es : List PySem.Expr} {c c' : Nat} {tp ep pos : Pos} {k : Fl → Rho → Sto → Option R} {r : R} (h : asgPair ih ts es K ρ σ k = some r) :
    ∃ f ρ' σ', k f ρ' σ' = some r ∧ SemS prog w (.Assign [.Tuple ts c tp] (.Tuple es c' ep) pos) K ρ σ f ρ' σ' := by
  obtain ⟨hok, h⟩ := cond_some h
  have hok3 : es.all (constantsAlone 8) = false ∧ distN ts = true ∧ fits es.length = true := by
    unfold pairOk at hok
    cases hz : es.all (constantsAlone 8) with
    | true => rw [hz] at hok; cases hok
    | false =>
      rw [hz] at hok
      exact ⟨rfl, bif_t hok⟩
  obtain ⟨hz, hd, hf⟩ := hok3
  obtain ⟨xs, σ1, h1, hl, S1⟩ := evL_ok O h
  obtain ⟨ρ1, q, h1⟩ := opt_inv h1
  obtain ⟨names, n1, n2, n3, rfl⟩ := bindN_ok q
  have nd := distN_ok n1 hd
  refine ⟨_, _, _, h1, fun {B n env hE Mu A} P fn Av own s Q E F p => ?_⟩
  have ev : ∀ {Q : Value → Shared → Prop} {E}, (∀ vs t Av' own' s', Stp Av own s Av' own' s' → Fra B env hE Mu Av' own' ρ σ1 s' → All2 (RepW prog w Av' own' s'.heap) vs xs → s'.heap.IsTuple t vs.toArray → Q (.ref t) s') →
      wpAny (model prog w) A (eval (.Tuple es c' ep) env) Q E s := fun q => by
    refine PySem.wpAny_Tuple (S1 P F (fun vs Av' own' s' st F1 rv => ?_) ep)
    refine ⟨by rw [rv.length, hl]; exact fits_iff hf, ?_⟩
    have k0 : ∀ b o, s'.heap.get? b = some o → (s'.heap.push { cls := .type "tuple", data := .seq vs.toArray }).get? b = some o := fun _ _ e => Heap.get?_push_of_some _ e
    have st2 : Stp Av' own' s' Av' own' { s' with heap := s'.heap.push { cls := .type "tuple", data := .seq vs.toArray } } := Stp.ext (tk := s'.toks) k0
    exact q vs _ _ _ _ (st.trans st2) (F1.ext k0) (rv.imp fun _ _ a => a.stp st2) ⟨_, Heap.get?_push_size _ rfl, rfl, _, rfl⟩
  have unp : ∀ {vs : List Value} {t : Addr} {Av' own' s'} {Q : List Value → Shared → Prop} {E}, Fra B env hE Mu Av' own' ρ σ1 s' → All2 (RepW prog w Av' own' s'.heap) vs xs → s'.heap.IsTuple t vs.toArray →
      (∀ s'', Stp Av' own' s' Av' own' s'' → Fra B env hE Mu Av' own' ρ σ1 s'' → All2 (RepW prog w Av' own' s''.heap) vs xs → Q vs s'') → wpAny (model prog w) A (unpackItems (.ref t) vs.length .none) Q E s' := fun {vs t Av' own' s' Q E} F1 rv hT q => by
    have e0 : vs.length = vs.toArray.size := by simp
    rw [e0]
    refine wpAny_unpackItems_tuple P.a.h hT fun h' hx => ?_
    have k : ∀ b o, s'.heap.get? b = some o → h'.get? b = some o := fun b o e => hx b o (Nat.ne_of_lt (Heap.lt_size e)) e
    have st0 : Stp Av' own' s' Av' own' { s' with heap := h' } := Stp.ext (tk := s'.toks) k
    exact q _ st0 (F1.ext (s' := { s' with heap := h' }) k) (rv.imp fun _ _ a => a.stp st0)
  obtain ⟨e1, e2, e3⟩ := names_each (prog := prog) (w := w) (env := env) n1
  rcases swapped_or (env := env) (c := c) (c' := c') (p := tp) (p' := ep) n1 hz with hs | ⟨hs, hloc⟩
  · refine Assign_Tuple (ev fun vs t Av' own' s' st F1 rv hT => ?_) no_swapT hs
    refine wpAny_assign_Tuple P.a.h hT (by rw [e3, n3, ← rv.length]; simp) e2 fun h' hx => ?_
    have k : ∀ b o, s'.heap.get? b = some o → h'.get? b = some o := fun b o e => hx b o (Nat.ne_of_lt (Heap.lt_size e)) e
    have st0 : Stp Av' own' s' Av' own' { s' with heap := h' } := Stp.ext (tk := s'.toks) k
    refine inOrder_ok P (P.stOk fn) e1 n2 (rv.imp fun _ _ a => a.stp st0) n3 (F1.ext (s' := { s' with heap := h' }) k) fun h'' tk F2 st2 => ?_
    exact p _ _ _ _ ((st.trans st0).trans st2) F2 .next
  · refine Assign_Tuple_swapped (ev fun vs t Av' own' s' st F1 rv hT => ?_) no_swapT hs
    have el : names.length = vs.length := by rw [n3, ← rv.length]
    rw [el]
    refine unp F1 rv hT fun s'' st2 F2 rv2 => ?_
    have S2 : All2 (Stores prog w env) (names.reverse.map fun n => bindName env n) names.reverse := by
      have aux : ∀ l : List Str, All2 (Stores prog w env) (l.map fun n => bindName env n) l := fun l => by
        induction l with
        | nil => exact .nil
        | cons x l ih => exact .cons (stores_bind x) ih
      exact aux _
    refine inOrder_ok P (P.stOk fn) S2 (fun x hx => n2 x (List.mem_reverse.mp hx)) rv2.reverse (by simp [n3]) F2 fun h'' tk F3 st3 => ?_
    refine p _ _ _ _ ((st.trans st2).trans st3) (F3.congr fun z => ?_) .next
    rw [updAll_rev (by rw [zip_fst n3]; exact nd), show (names.zip xs).reverse = names.reverse.zip xs.reverse from by simp only [List.zip]; exact List.reverse_zipWith n3]

theorem set_items {h : Heap} {vs : Array Value} {ws : List W} {j : Nat} {v : Value} {y : W} (x : All2 (RepW prog w Av own h) vs.toList ws) (r : RepW prog w Av own h v y) : All2 (RepW prog w Av own h) (vs.setIfInBounds j v).toList (ws.set j y) := by
  have := x.set r j
  rw [Array.toList_setIfInBounds]
  exact this
theorem s_item (O : Ok prog w ih) {o i e : PySem.Expr} {sp pos : Pos} {k : Fl → Rho → Sto → Option R} {r : R} (h : asg ih (.Subscript o i sp) e K ρ σ k = some r) :
    ∃ f ρ' σ', k f ρ' σ' = some r ∧ SemS prog w (.Assign [.Subscript o i sp] e pos) K ρ σ f ρ' σ' := by
  obtain ⟨_, x1, σ1, h1, S1⟩ := O.e (show (ih.e e K ρ σ fun x σ => ih.e o K ρ σ fun w σ => ih.e i K ρ σ fun j σ => intW j fun j => opt (setAt w j x σ) fun σ => k .next ρ σ) = some r from h)
  obtain ⟨_, x2, σ2, h2, S2⟩ := O.e h1
  obtain ⟨_, x3, σ3, h3, S3⟩ := O.e h2
  obtain ⟨j, e3, h4⟩ := intW_inv h3
  obtain ⟨σ4, q, h5⟩ := opt_inv h4
  cases x2 with
  | v _ => exact none_some q
  | c m =>
  obtain ⟨l, q1, q⟩ := opt_inv (show (opt σ3[m]? fun l => opt (place j l.length) fun j => some (σ3.set m (l.set j x1))) = some σ4 from q)
  obtain ⟨j', q2, q⟩ := opt_inv q
  cases q
  subst e3
  refine ⟨_, _, _, h5, fun P fn _ _ _ _ _ F p => wpAny_Assign_Subscript (S1 P F fun v1 Av1 own1 s1 st1 F1 r1 => S2 P F1 fun v2 Av2 own2 s2 st2 F2 r2 => S3 P F2 fun v3 Av3 own3 s3 st3 F3 r3 => ?_) no_swapI⟩
  obtain ⟨t, rfl⟩ := r3.v_inv.int_inv
  obtain ⟨a, rfl, ha⟩ := (r2.stp st3).c_inv
  obtain ⟨ws, hw, vs, nn, ho, z, X⟩ := F3.cel.get' ha
  rw [q1] at hw; cases hw
  refine setItem_list ho z (by rw [← Array.length_toList, X.length]; exact q2) fun h' n' ho' hs => ?_
  have rr := (r1.stp st2).stp st3
  obtain ⟨F4, st4⟩ := F3.setCell (tk := s3.toks) ha ho' (by rw [Array.size_setIfInBounds]; exact z) (set_items X rr) hs
  exact p _ _ _ _ (((st1.trans st2).trans st3).trans st4) F4 .next

theorem augI_ok {op : Operator} {a b c : Int} (h : augI op a b = some c) : ∀ {prog : Program} {w : World} {A : Around} {E : Value → Shared → Prop} {s : Shared} {Q : Value → Shared → Prop} {t u : Tok}, Q (.int c s.toks) { s with toks := s.toks + 1 } → wpAny (model prog w) A (inplaceOp op (.int a t) (.int b u)) Q E s := by
  cases op with
  | Add => cases h; exact fun q => PyProof.Rows.iadd_int q
  | BitAnd => cases h; exact fun q => PyProof.Rows.iand_int q
  | BitOr => cases h; exact fun q => PyProof.Rows.ior_int q
  | _ => exact none_some h
theorem s_aug (O : Ok prog w ih) {x : Str} {op : Operator} {e : PySem.Expr} {xp pos : Pos} {k : Fl → Rho → Sto → Option R} {r : R} (h : aug ih x op e K ρ σ k = some r) :
    ∃ f ρ' σ', k f ρ' σ' = some r ∧ SemS prog w (.AugAssign (.Name x xp) op e pos) K ρ σ f ρ' σ' := by
  obtain ⟨qg, h⟩ := cond_some h
  obtain ⟨hs, hn⟩ := bif_t qg
  obtain ⟨w0, qa, h⟩ := opt_inv h
  obtain ⟨a, e1, h⟩ := intW_inv h
  obtain ⟨_, x1, σ1, h1, S1⟩ := O.e h
  obtain ⟨b, e2, h2⟩ := intW_inv h1
  obtain ⟨c, hop, h3⟩ := opt_inv h2
  subst e1 e2
  refine ⟨_, _, _, h3, fun P fn _ _ _ _ _ F p => wpAny_AugAssign_Name (load_ok P F hn qa fun v0 r0 => S1 P F fun v1 Av1 own1 s1 st1 F1 r1 => ?_)⟩
  obtain ⟨t, rfl⟩ := r0.v_inv.int_inv
  obtain ⟨u, rfl⟩ := r1.v_inv.int_inv
  refine augI_ok hop ?_
  have F2 := F1.ext (s' := { s1 with toks := s1.toks + 1 }) fun _ _ e => e
  have st2 := Stp.ext (Av := Av1) (own := own1) (s := s1) (h' := s1.heap) (tk := s1.toks + 1) fun _ _ e => e
  exact store_ok P (P.stOk fn) hs F2 (.v (.int c _)) fun h' tk F3 st3 => p _ _ _ _ ((st1.trans st2).trans st3) F3 .next

theorem s_append (O : Ok prog w ih) {o e : PySem.Expr} {name : Str} {apos cpos pos : Pos} {k : Fl → Rho → Sto → Option R} {r : R} (h : app ih o name apos e cpos K ρ σ k = some r) :
    ∃ f ρ' σ', k f ρ' σ' = some r ∧ SemS prog w (.Expr (.Call (.Attribute o name apos) [e] [] cpos) pos) K ρ σ f ρ' σ' := by
  obtain ⟨hg0, h0⟩ := cond_some h
  clear h
  obtain ⟨hn, hg⟩ := bif_t hg0
  clear hg0
  obtain ⟨hap, hl⟩ := bif_t hg
  have := (strB_iff _ _).mp hn
  clear hn
  subst this
  have hline : (apos.endLine == cpos.line) = true := beq_iff_eq.mpr (Nat.eq_of_beq_eq_true hl)
  obtain ⟨_, x1, σ1, h1, S1⟩ := O.e h0
  obtain ⟨pl, x2, σ2, h2, S2⟩ := O.e h1
  obtain ⟨σ3, q, h2⟩ := opt_inv h2
  cases x1 with
  | v _ => exact none_some q
  | c m =>
  obtain ⟨l, q1, q⟩ := opt_inv (show (opt σ2[m]? fun l => bif fits (l.length + 1) then some (σ2.set m (l ++ [x2])) else .none) = some σ3 from q)
  obtain ⟨hz, q⟩ := cond_some q
  cases q
  have hbase : ∀ env whole, attributeBase o "append" env whole = whole := fun env whole => by cases o <;> first | rfl | exact false_ne hap
  refine ⟨_, _, _, h2, fun P fn _ _ _ _ _ F p => wpAny_Expr (wpAny_Call_append (hbase _ _) (by rw [one_tree pl]; rfl) hline (one_tree pl _ _) (S1 P F fun v1 Av1 own1 s1 st1 F1 r1 => ?_)) (by unfold interactive; rw [P.x.kind]; rfl)⟩
  obtain ⟨a, rfl, ha⟩ := r1.c_inv
  obtain ⟨ws0, hw0, vs0, n0, ho0, z0, X0⟩ := F1.cel.get' ha
  refine ⟨a, vs0, rfl, ⟨_, n0, ho0, rfl, rfl, rfl⟩, S2 P F1 fun v2 Av2 own2 s2 st2 F2 r2 => ?_⟩
  have ha2 : own2[m]? = some a := by
    obtain ⟨ext, rfl⟩ := st2.pre
    rw [List.getElem?_append_left (List.getElem?_eq_some_iff.mp ha).1]; exact ha
  obtain ⟨ws, hw, vs, nn, ho, z, X⟩ := F2.cel.get' ha2
  rw [q1] at hw; cases hw
  refine wpAny_list_append_plain (hsz := z) ⟨nn, ho⟩ fun h' hp hs => ?_
  obtain ⟨n', ho'⟩ := hp
  have hz' : (vs.push v2).size ≤ lim := by
    have := fits_iff hz
    rw [Array.size_push, ← Array.length_toList, X.length]; exact this
  obtain ⟨F3, st3⟩ := F2.setCell (tk := s2.toks) ha2 ho' hz' (by rw [Array.toList_push]; exact X.append (.cons r2 .nil)) hs
  exact p _ _ _ _ ((st1.trans st2).trans st3) F3 .next
theorem s_expr (O : Ok prog w ih) {e : PySem.Expr} {pos : Pos} {k : Fl → Rho → Sto → Option R} {r : R} (h0 : exprS ih e K ρ σ k = some r) : ∃ f ρ' σ', k f ρ' σ' = some r ∧ SemS prog w (.Expr e pos) K ρ σ f ρ' σ' := by
  cases e with
  | Call f args kws cpos =>
    obtain ⟨hk, h⟩ := cond_some (show (bif emptyL kws then (match (generalizing := false) f with
      | .Attribute o name apos => opt (sole args) fun e => app ih o name apos e cpos K ρ σ k
      | _ => .none) else .none) = some r from h0)
    obtain rfl := emptyL_inv hk
    cases f with
    | Attribute o name apos =>
      obtain ⟨e, e1, h⟩ := opt_inv h
      rw [sole_inv e1]
      exact s_append O h
    | _ => exact none_some h
  | _ => exact none_some h0
theorem s_assign (O : Ok prog w ih) {ts : List PySem.Expr} {e : PySem.Expr} {pos : Pos} {k : Fl → Rho → Sto → Option R} {r : R} (h0 : stepS ih (.Assign ts e pos) K ρ σ k = some r) : ∃ f ρ' σ', k f ρ' σ' = some r ∧ SemS prog w (.Assign ts e pos) K ρ σ f ρ' σ' := by
  obtain ⟨t, e1, h⟩ := opt_inv (show (opt (sole ts) fun t => asg ih t e K ρ σ k) = some r from h0)
  rw [sole_inv e1]
  cases t with
  | Name x xp => exact s_name O h
  | Subscript o i sp => exact s_item O h
  | Tuple ts c tp =>
    have h : (match tupE e with | some es => asgPair ih ts es K ρ σ k | .none => asgT ih (.Tuple ts c tp) e K ρ σ k) = some r := h
    cases hc : tupE e with
    | none => rw [hc] at h; exact s_tuple O hc h
    | some es =>
      rw [hc] at h
      obtain ⟨c', p', rfl⟩ : ∃ c' p', e = .Tuple es c' p' := by
        cases e <;> first | (cases hc; exact ⟨_, _, rfl⟩) | exact none_some hc
      exact s_pair O h
  | _ => exact none_some h

theorem s_if (O : Ok prog w ih) {t : PySem.Expr} {a b : List Stmt} {pos : Pos} {k : Fl → Rho → Sto → Option R} {r : R} (h : stepS ih (.If t a b pos) K ρ σ k = some r) : ∃ f ρ' σ', k f ρ' σ' = some r ∧ SemS prog w (.If t a b pos) K ρ σ f ρ' σ' := by
  obtain ⟨c, σ1, h1, S1⟩ := O.t (show (ih.t t K ρ σ fun c σ => bif c then evS ih a K ρ σ k else evS ih b K ρ σ k) = some r from h)
  cases c with
  | true =>
    obtain ⟨f, ρ2, σ2, h2, S2⟩ := evS_ok O h1
    exact ⟨_, _, _, h2, fun P fn _ _ _ _ _ F p => wpAny_If (S1 P F fun Av' own' s' st1 F1 => S2 P fn F1 (p.stp st1))⟩
  | false =>
    obtain ⟨f, ρ2, σ2, h2, S2⟩ := evS_ok O h1
    exact ⟨_, _, _, h2, fun P fn _ _ _ _ _ F p => wpAny_If (S1 P F fun Av' own' s' st1 F1 => S2 P fn F1 (p.stp st1))⟩

-- while
inductive WTr (prog : Program) (w : World) (test : PySem.Expr) (body : List Stmt) (K : Cx) : Nat → Rho → Sto → Fl → Rho → Sto → Prop
  | stop {m ρ σ σ1} : SemT prog w test K ρ σ false σ1 → WTr prog w test body K m ρ σ .next ρ σ1
  | more {m ρ σ σ1 ρ2 σ2 f ρ3 σ3} : SemT prog w test K ρ σ true σ1 → SemSS prog w body K ρ σ1 .next ρ2 σ2 → WTr prog w test body K m ρ2 σ2 f ρ3 σ3 → WTr prog w test body K (m + 1) ρ σ f ρ3 σ3
  | out {m ρ σ σ1 x ρ2 σ2} : SemT prog w test K ρ σ true σ1 → SemSS prog w body K ρ σ1 (.ret x) ρ2 σ2 → WTr prog w test body K m ρ σ (.ret x) ρ2 σ2
theorem whL_tr (O : Ok prog w ih) {test : PySem.Expr} {body : List Stmt} : ∀ {m : Nat} {ρ : Rho} {σ : Sto} {k : Fl → Rho → Sto → Option R} {r : R}, whL ih test body K m ρ σ k = some r → ∃ f ρ' σ', k f ρ' σ' = some r ∧ WTr prog w test body K m ρ σ f ρ' σ'
  | 0, _, _, _, _, h => none_some h
  | m + 1, ρ, σ, k, r, h => by
    obtain ⟨c, σ1, h1, S1⟩ := O.t (show (ih.t test K ρ σ fun b σ => bif b then (evS ih body K ρ σ fun f ρ σ => match f with | .next => whL ih test body K m ρ σ k | .ret w => k (.ret w) ρ σ) else k .next ρ σ) = some r from h)
    cases c with
    | false => exact ⟨_, _, _, h1, .stop S1⟩
    | true =>
      obtain ⟨f, ρ2, σ2, h2, S2⟩ := evS_ok O h1
      cases f with
      | ret x => exact ⟨_, _, _, h2, .out S1 S2⟩
      | next =>
        obtain ⟨f3, ρ3, σ3, h3, S3⟩ := whL_tr O h2
        exact ⟨_, _, _, h3, .more S1 S2 S3⟩
theorem s_while (O : Ok prog w ih) {test : PySem.Expr} {body : List Stmt} {pos : Pos} {k : Fl → Rho → Sto → Option R} {r : R} (h : whL ih test body K ifsN ρ σ k = some r) :
    ∃ f ρ' σ', k f ρ' σ' = some r ∧ SemS prog w (.While test body [] pos) K ρ σ f ρ' σ' := by
  obtain ⟨f, ρ', σ', h1, T⟩ := whL_tr O h
  refine ⟨_, _, _, h1, fun {B n env hE Mu A} P fn Av own s Q E F p => PySem.wpAny_While ?_⟩
  refine codeAny_whileLoop (fun m s' => ∃ ρ1 σ1 Av1 own1, WTr prog w test body K m ρ1 σ1 f ρ' σ' ∧ Fra B env hE Mu Av1 own1 ρ1 σ1 s' ∧ Stp Av own s Av1 own1 s') ?_ ifsN ⟨ρ, σ, Av, own, T, F, Stp.refl _ _ _⟩
  rintro m s1 ⟨ρ1, σ1, Av1, own1, T1, F1, st1⟩
  cases T1 with
  | stop ST => exact ST P F1 fun Av2 own2 s2 st2 F2 => wpAny_execs_nil (p _ _ _ _ (st1.trans st2) F2 .next)
  | more ST SB T2 =>
    refine ST P F1 fun Av2 own2 s2 st2 F2 => ?_
    refine SB P fn F2 fun fl Av3 own3 s3 st3 F3 r3 => ?_
    cases r3 with
    | next => exact ⟨_, Nat.lt_succ_self _, _, _, _, _, T2, F3, (st1.trans st2).trans st3⟩
  | out ST SB =>
    refine ST P F1 fun Av2 own2 s2 st2 F2 => ?_
    refine SB P fn F2 fun fl Av3 own3 s3 st3 F3 r3 => ?_
    cases r3 with
    | ret r3 => exact p _ _ _ _ ((st1.trans st2).trans st3) F3 (.ret r3)

-- for
inductive Tr (prog : Program) (w : World) (t : PySem.Expr) (body : List Stmt) (K : Cx) : List PV → Rho → Sto → Fl → Rho → Sto → Prop
  | nil {ρ : Rho} {σ : Sto} : Tr prog w t body K [] ρ σ .next ρ σ
  | more {d l ρ σ ρ1 ρ2 σ2 f ρ3 σ3} : bindT (stOk K.sc) t (.v d) ρ = some ρ1 → SemSS prog w body K ρ1 σ .next ρ2 σ2 → Tr prog w t body K l ρ2 σ2 f ρ3 σ3 → Tr prog w t body K (d :: l) ρ σ f ρ3 σ3
  | out {d l ρ σ ρ1 x ρ2 σ2} : bindT (stOk K.sc) t (.v d) ρ = some ρ1 → SemSS prog w body K ρ1 σ (.ret x) ρ2 σ2 → Tr prog w t body K (d :: l) ρ σ (.ret x) ρ2 σ2
theorem forL_tr (O : Ok prog w ih) {t : PySem.Expr} {body : List Stmt} : ∀ {l : List PV} {ρ : Rho} {σ : Sto} {k : Fl → Rho → Sto → Option R} {r : R}, forL ih t body K l ρ σ k = some r → ∃ f ρ' σ', k f ρ' σ' = some r ∧ Tr prog w t body K l ρ σ f ρ' σ'
  | [], _, _, _, _, h => ⟨_, _, _, h, .nil⟩
  | d :: l, ρ, σ, k, r, h => by
    obtain ⟨ρ1, q, h⟩ := opt_inv (show (opt (bindT (stOk K.sc) t (.v d) ρ) fun ρ => evS ih body K ρ σ fun f ρ σ => match f with | .next => forL ih t body K l ρ σ k | .ret w => k (.ret w) ρ σ) = some r from h)
    obtain ⟨f, ρ2, σ2, h2, S2⟩ := evS_ok O h
    cases f with
    | ret x => exact ⟨_, _, _, h2, .out q S2⟩
    | next =>
      obtain ⟨f3, ρ3, σ3, h3, S3⟩ := forL_tr O h2
      exact ⟨_, _, _, h3, .more q S2 S3⟩

/-- the iterator's objects go -/
theorem Fra.shed {wr : List Addr} {h' : Heap} {tk : Nat} (F : Fra B env hE Mu Av own ρ σ s) (X : WrOk env hE Mu own wr) (wa : ∀ b ∈ wr, Av b) (k : ∀ b o, b ∉ wr → s.heap.get? b = some o → h'.get? b = some o) :
    Fra B env hE Mu (fun b => Av b ∧ b ∉ wr) own ρ σ { s with heap := h', toks := tk } := by
  have G : Grow Av s.heap Av h' := ⟨fun _ x => x, fun _ x y => absurd x y, fun b o q n => k b o (fun m => n (wa b m)) q⟩
  have R0 : ∀ {v d}, Rep prog w Av s.heap v d → Rep prog w (fun b => Av b ∧ b ∉ wr) h' v d := fun q => (q.grow G).less fun _ z => z.1
  have W0 : ∀ {v y}, RepW prog w Av own s.heap v y → RepW prog w (fun b => Av b ∧ b ∉ wr) own h' v y := fun q => by
    cases q with
    | v r => exact .v (R0 r)
    | c e => exact .c e
  obtain ⟨m, hn, hm⟩ := F.loc
  exact { base := fun b o q => k b o (fun m => by rw [F.av0 b (wa b m)] at q; cases q) (F.base b o q), prot := fun b o q n => k b o (fun m => by rw [X.e b m] at q; cases q) (F.prot b o q n), av0 := fun b q => F.av0 b q.1,
          avs := fun b q => let ⟨o, ho⟩ := F.avs b q.1; ⟨o, k b o q.2 ho⟩
          mu := fun b q => ⟨F.mu b q, fun z => X.m b z q⟩, avL := ⟨F.avL, X.l⟩, nwL := F.nwL, vis := F.vis,
          loc := ⟨m, Heap.Ns.at' hn fun o e => k _ o X.l e, fun x y q l => let ⟨v, h1, h2⟩ := hm x y q l; ⟨v, h1, W0 h2⟩⟩,
          box := fun x y q l => let ⟨a, v, h1, ⟨o, h2, h2'⟩, h3⟩ := F.box x y q l; ⟨a, v, h1, ⟨o, k _ o (X.c x a h1) h2, h2'⟩, W0 h3⟩,
          bxs := fun fn x l => let ⟨a, v, h1, ⟨o, h2, h2'⟩, h3, h4⟩ := F.bxs fn x l; ⟨a, v, h1, ⟨o, k _ o (X.c x a h1) h2, h2'⟩, ⟨h3, X.c x a h1⟩, h4⟩,
          bxf := fun x a e => ⟨F.bxf x a e, X.c x a e⟩, nd := F.nd, avo := fun a ha => ⟨⟨(F.avo a ha).1, X.o a ha⟩, (F.avo a ha).2⟩,
          cel := by
            have aux : ∀ {as : List Addr} {ws : List (List W)}, (∀ a ∈ as, a ∉ wr) → All2 (CellIs prog w Av own s.heap) as ws → All2 (CellIs prog w (fun b => Av b ∧ b ∉ wr) own h') as ws := fun av x => by
              induction x with
              | nil => exact .nil
              | cons a _ ih =>
                obtain ⟨vs, nn, ho, z, r⟩ := a
                exact .cons ⟨vs, nn, k _ _ (av _ (.head _)) ho, z, r.imp fun _ _ q => W0 q⟩ (ih fun a m => av a (.tail _ m))
            exact aux X.o F.cel }

theorem for_code {it : Value} {fp wr : List Addr} {tup : Tm} {St : (Addr → Prop) → List PV → Heap → Prop} {Mid : (Addr → Prop) → PV → List PV → Value → Heap → Prop} (TV : Trav prog w A it fp wr tup St Mid) (P : Pt B n K env A) (fn : env.func.isSome = true)
    {t : PySem.Expr} {body : List Stmt} (ht : tup.ok t = true) {l : List PV} {f : Fl} {ρ' : Rho} {σ' : Sto} (T : Tr prog w t body K l ρ σ f ρ' σ')
    {Av0 : Addr → Prop} {own0 : List Addr} {s0 : Shared} {Q : Flow → Shared → Prop} {E' : Value → Shared → Prop} (av0 : ∀ b, Av0 b → b ∉ wr) (F : Fra B env hE Mu Av own ρ σ s) (st : St Av l s.heap) (X : WrOk env hE Mu own wr) (wa : ∀ b ∈ wr, Av b) (fpa : ∀ b ∈ fp, b ∈ wr ∨ ¬ Av b) (S0 : Stp Av0 own0 s0 Av own s)
    (fr : ∀ b ∈ wr, s0.heap.get? b = .none) (p : PS B env hE Mu Av0 own0 s0 f ρ' σ' Q) : codeAny (model prog w) A (.forLoop t it body [] env) (fun r s' => match r with | .ok f => Q f s' | .error e => cameBackBy (model prog w) A env E' e s') s := by
  refine codeAny_forLoop_any (fun m s' => ∃ l1 ρ1 σ1 Av1 own1, m = l1.length ∧ Tr prog w t body K l1 ρ1 σ1 f ρ' σ' ∧ Fra B env hE Mu Av1 own1 ρ1 σ1 s' ∧ St Av1 l1 s'.heap ∧ WrOk env hE Mu own1 wr ∧ (∀ b ∈ wr, Av1 b) ∧ (∀ b ∈ fp, b ∈ wr ∨ ¬ Av1 b) ∧ Stp Av0 own0 s0 Av1 own1 s') ?_ l.length ⟨l, ρ, σ, Av, own, rfl, T, F, st, X, wa, fpa, S0⟩
  rintro m s1 ⟨l1, ρ1, σ1, Av1, own1, rfl, T1, F1, I1, X1, wa1, fpa1, S1⟩
  cases T1 with
  | nil =>
    refine TV.done Av1 s1 _ _ I1 fun h' tk k => ?_
    refine wpAny_execs_nil ?_
    refine p _ (fun b => Av1 b ∧ b ∉ wr) own1 _ ⟨S1.gens, S1.drawn, S1.os, ⟨fun b q => ⟨S1.grow.mono b q, av0 b q⟩, fun b q nq => S1.grow.fresh b q.1 nq, fun b o e nq => ?_⟩, S1.pre⟩ (F1.shed (tk := tk) X1 wa1 k) .next
    exact k b o (fun m => by rw [fr b m] at e; cases e) (S1.grow.keep b o e nq)
  | @more d l2 _ _ ρ2 ρ3 σ3 _ _ _ hb SB T2 =>
    refine TV.item Av1 d l2 s1 _ _ I1 wa1 F1.avs fun v h2 tk2 M2 k2 => ?_
    refine TV.go t Av1 d l2 v _ _ _ ht M2 wa1 fun h3 I3 rv k3 => ?_
    have ex3 := TV.here _ _ _ I3
    obtain ⟨F3, S3⟩ := F1.wrote (h' := h3) (tk := tk2) X1 wa1 (fun b o nb e => k3 b o nb (k2 b o nb e)) fun b hb => ex3 b (TV.sub b hb)
    refine assign_ok hb P (P.stOk fn) (F3.turnIn X1) (.v rv) fun h4 tk4 F4 S4 => ?_
    refine SB P fn F4 fun fl Av5 own5 s5 S5 F5 r5 => ?_
    cases r5 with
    | next =>
      have S45 := S4.trans S5
      refine ⟨l2.length, Nat.lt_succ_self _, l2, ρ3, σ3, Av5, own5, rfl, T2, F5.turnOut X1.e, ?_, X1.after (fun b hb => ex3 b (TV.sub b hb)) F5, fun b hb => S45.grow.mono b (wa1 b hb), fun b hb => ?_, (S1.trans S3).trans S45⟩
      · refine TV.frame _ _ _ _ _ I3 (fun b hb o e => ?_) S45.grow
        rcases fpa1 b hb with m | m
        · exact F5.held X1 b m o e
        · exact S45.grow.keep b o e m
      · rcases fpa1 b hb with m | m
        · exact .inl m
        · obtain ⟨o, ho⟩ := ex3 b hb
          exact .inr (S45.grow.off ho m)
  | @out d l2 _ _ ρ2 x _ _ hb SB =>
    refine TV.item Av1 d l2 s1 _ _ I1 wa1 F1.avs fun v h2 tk2 M2 k2 => ?_
    refine TV.go t Av1 d l2 v _ _ _ ht M2 wa1 fun h3 I3 rv k3 => ?_
    have ex3 := TV.here _ _ _ I3
    obtain ⟨F3, S3⟩ := F1.wrote (h' := h3) (tk := tk2) X1 wa1 (fun b o nb e => k3 b o nb (k2 b o nb e)) fun b hb => ex3 b (TV.sub b hb)
    refine assign_ok hb P (P.stOk fn) (F3.turnIn X1) (.v rv) fun h4 tk4 F4 S4 => ?_
    refine SB P fn F4 fun fl Av5 own5 s5 S5 F5 r5 => ?_
    cases r5 with
    | ret r5 => exact p _ Av5 own5 _ (((S1.trans S3).trans S4).trans S5) (F5.turnOut X1.e) (.ret r5)

end
end Og
end
section
open PySem PySem.Calls PyProof.Rows
namespace Og
section
variable {prog : Program} {w : World} {A : Around} {E : Value → Shared → Prop} {s : Shared}

theorem nextT_item {it t : Addr} {i : Nat} {items : Array Value} {x : Value} {Q : Value → Shared → Prop} (hit : s.heap.IsTupleIter it t i) (ht : s.heap.IsTuple t items) (hx : items[i]? = some x)
    (hQ : ∀ h', h'.IsTupleIter it t (i + 1) → Heap.SameBut it s.heap h' → Q x { s with heap := h' }) : wpAny (model prog w) A (Builtin.SmallTypes.nextOf (.ref it)) Q E s := by
  obtain ⟨o, ho, hc, hd⟩ := id hit
  obtain ⟨ol, hol, _, nl, hdl⟩ := ht
  unfold Builtin.SmallTypes.nextOf
  refine wpAny_bind (wpAny_callSpecial?_slot (name := Str.ofString "__next__") hit.typeIs PySem.F.slot_tuple_iterator_next
    (wpAny_call_entry PySem.F.slot_tuple_iterator_next hit.typeIs PySem.F.entry_tuple_iterator_next ?_ (PySem.F.args_tuple_iterator_next_1 _)))
  show wpAny _ _ (field (.ref it) 0 >>= _) _ _ s
  refine wpAny_bind (wpAny_field ho hd (x := .ref t) rfl ?_)
  show wpAny _ _ (if (Value.ref t == Value.none) = true then _ else _) _ _ s
  rw [if_neg (show ¬ ((Value.ref t == Value.none) = true) from Bool.false_ne_true)]
  show wpAny _ _ (field (.ref it) 1 >>= _) _ _ s
  refine wpAny_bind (wpAny_field ho hd (x := .int i 0) rfl ?_)
  show wpAny _ _ (seqItems? (.ref t) >>= _) _ _ s
  refine wpAny_bind (wpAny_seqItems hol hdl ?_)
  simp only [Int.toNat_natCast, hx]
  refine wpAny_bind (wpAny_setField ho hd (by simp) (wpAny_pure ⟨x, rfl, wpAny_pure (hQ _ ?_ (Heap.SameBut.update ..))⟩))
  exact ⟨_, Heap.get?_update_self _ ho (Obj.isFreed_of_fields (Obj.data_mapFields hd _)), (Obj.cls_mapFields ..).trans hc, by
    rw [Obj.data_mapFields hd]; simp [rawInt]⟩
theorem nextT_end {it t : Addr} {i : Nat} {items : Array Value} {Q : Value → Shared → Prop} (hh : A.handled = none) (hit : s.heap.IsTupleIter it t i) (ht : s.heap.IsTuple t items) (hx : items[i]? = none)
    (hE : ∀ h' e, Heap.ExtBut it s.heap h' → (∃ o, h'.get? e = some o ∧ o.cls = .type "StopIteration") → E (.ref e) { s with heap := h' }) : wpAny (model prog w) A (Builtin.SmallTypes.nextOf (.ref it)) Q E s := by
  obtain ⟨o, ho, hc, hd⟩ := id hit
  obtain ⟨ol, hol, _, nl, hdl⟩ := ht
  unfold Builtin.SmallTypes.nextOf
  refine wpAny_bind (wpAny_callSpecial?_slot (name := Str.ofString "__next__") hit.typeIs PySem.F.slot_tuple_iterator_next
    (wpAny_call_entry PySem.F.slot_tuple_iterator_next hit.typeIs PySem.F.entry_tuple_iterator_next ?_ (PySem.F.args_tuple_iterator_next_1 _)))
  show wpAny _ _ (field (.ref it) 0 >>= _) _ _ s
  refine wpAny_bind (wpAny_field ho hd (x := .ref t) rfl ?_)
  show wpAny _ _ (if (Value.ref t == Value.none) = true then _ else _) _ _ s
  rw [if_neg (show ¬ ((Value.ref t == Value.none) = true) from Bool.false_ne_true)]
  show wpAny _ _ (field (.ref it) 1 >>= _) _ _ s
  refine wpAny_bind (wpAny_field ho hd (x := .int i 0) rfl ?_)
  show wpAny _ _ (seqItems? (.ref t) >>= _) _ _ s
  refine wpAny_bind (wpAny_seqItems hol hdl ?_)
  simp only [Int.toNat_natCast, hx]
  refine wpAny_bind (wpAny_rule (wpAny_bind (wpAny_setField ho hd (by simp) ?_)))
  show wpAny _ _ (newExc (.type "StopIteration") [] >>= _) _ _ _
  refine wpAny_bind ?_
  simp only [newExc, newTuple]
  refine wpAny_bind (wpAny_newObj_type ?_ (by size_fits))
  refine wpAny_bind (m := firstArgMember _ _) (wpAny_of_eq (a := Value.none) (by first | rfl | (simp only [firstArgMember]; rfl)) ?_)
  refine wpAny_newObj_type ?_ (by size_fits)
  simp only [raiseNew]
  refine wpAny_bind (wpAny_handled ?_)
  first | rw [show A.in1.handled = none from hh] | rw [hh]
  refine wpAny_bind (wpAny_pure (wpAny_throw ?_))
  exact hE _ _ (((Heap.SameBut.update ..).extBut.push _).push _) ⟨_, Heap.get?_push_size _ rfl, rfl⟩
end

theorem drawsT {prog : Program} {w : World} {A : Around} (hh : A.handled = none) (it t : Addr) (hne : t ≠ it) (items : Array Value) :
    Draws prog w A it [it, t] items.size (fun i v => items[i]? = some v) (fun i h => h.IsTupleIter it t i ∧ h.IsTuple t items) where
  live := fun _ _ st => let ⟨o, ho, _⟩ := st.1; ⟨o, ho⟩
  frame := fun _ _ _ st hk => ⟨st.1.at fun o e => hk it (by simp) o e, st.2.at fun o e => hk t (by simp) o e⟩
  item := fun i s Q E hi st hQ => by
    refine nextT_item st.1 st.2 (x := items[i]) (by simp [hi]) fun h' hit' hs' => ?_
    exact hQ _ h' s.toks (by simp [hi]) ⟨hit', st.2.extBut hs'.extBut hne⟩ hs'
  done := fun s Q E st hE => nextT_end hh st.1 st.2 (by simp) hE

/-- the objects of a zip of two sources, apart -/
structure ZSep (z TI TO i1 i2 : Addr) (f1 f2 : List Addr) : Prop where
  TIz : TI ≠ z
  TOz : TO ≠ z
  TITO : TI ≠ TO
  TIi1 : TI ≠ i1
  TIi2 : TI ≠ i2
  m1 : i1 ∈ f1
  m2 : i2 ∈ f2
  z1 : z ∉ f1
  z2 : z ∉ f2
  TO1 : TO ∉ f1
  TO2 : TO ∉ f2
  i12 : i1 ∉ f2
  i21 : i2 ∉ f1

section
variable {prog : Program} {w : World} {A : Around} {E : Value → Shared → Prop} {s : Shared} {z TI TO i1 i2 : Addr} {f1 f2 : List Addr} {n1 n2 k : Nat} {P1 P2 : Nat → Value → Prop} {S1 S2 : Nat → Heap → Prop} {a b : Value}

theorem ZSep.i1z (D : ZSep z TI TO i1 i2 f1 f2) : i1 ≠ z := fun e => D.z1 (e ▸ D.m1)
theorem ZSep.i2z (D : ZSep z TI TO i1 i2 f1 f2) : i2 ≠ z := fun e => D.z2 (e ▸ D.m2)
theorem ZSep.TOi1 (D : ZSep z TI TO i1 i2 f1 f2) : TO ≠ i1 := fun e => D.TO1 (e ▸ D.m1)
theorem ZSep.TOi2 (D : ZSep z TI TO i1 i2 f1 f2) : TO ≠ i2 := fun e => D.TO2 (e ▸ D.m2)
theorem ZSep.i1i2 (D : ZSep z TI TO i1 i2 f1 f2) : i1 ≠ i2 := fun e => D.i12 (e ▸ D.m2)
theorem keepBut {f : List Addr} {c : Addr} {h h' : Heap} (n : c ∉ f) (hs : Heap.SameBut c h h') : ∀ b ∈ f, ∀ o, h.get? b = some o → h'.get? b = some o := fun b hb o e => hs.extBut b o (fun x => n (x ▸ hb)) e

theorem zip_item (D : ZSep z TI TO i1 i2 f1 f2) (D1 : Draws prog w A i1 f1 n1 P1 S1) (D2 : Draws prog w A i2 f2 n2 P2 S2) {Q : Value → Shared → Prop}
    (hz : IsZip s.heap z TI TO .none) (hTI : IsPair s.heap TI (.ref i1) (.ref i2)) (hTO : IsPair s.heap TO a b) (h1 : S1 k s.heap) (h2 : S2 k s.heap) (k1 : k < n1) (k2 : k < n2)
    (hQ : ∀ x y h' tk, P1 k x → P2 k y → IsZip h' z TI TO (rawInt s.heap.objs.size) → IsPair h' TO x y → S1 (k + 1) h' → S2 (k + 1) h' → IsPair h' s.heap.objs.size x y →
      (∀ c o, c ≠ z → c ≠ TO → c ≠ i1 → c ≠ i2 → s.heap.get? c = some o → h'.get? c = some o) → Q (.ref s.heap.objs.size) { s with heap := h', toks := tk }) :
    wpAny (model prog w) A (Builtin.«zip.__next__» ⟨[.ref z], []⟩) (fun fin s' => ∃ v, fin = .done (.ret v) ∧ Q v s') E s := by
  show wpAny _ _ (field (.ref z) 2 >>= _) _ _ _
  refine wpAny_bind (wpAny_field hz rfl (x := .bool false) rfl ?_)
  show wpAny _ _ (field (.ref z) 3 >>= _) _ _ _
  refine wpAny_bind (wpAny_field hz rfl (x := .ref TI) rfl ?_)
  refine wpAny_bind (wpAny_seqItems hTI rfl ?_)
  show wpAny _ _ (Builtin.SmallTypes.ownedTupleIsFree (.ref z) >>= _) _ _ _
  refine wpAny_bind ?_
  unfold Builtin.SmallTypes.ownedTupleIsFree
  refine wpAny_bind (wpAny_field hz rfl (x := .none) rfl (wpAny_pure ?_))
  simp only [if_true]
  refine wpAny_bind (wpAny_rule ?_)
  refine wpAny_bind (wpAny_field hz rfl (x := .ref TO) rfl ?_)
  refine wpAny_bind (wpAny_setField_rec hz (by simp) fun g₁ hz₁ hs₁ => ?_)
  replace hz₁ : IsZip g₁ z TI TO .ellipsis := hz₁
  refine wpAny_bind ?_
  simp only [List.zipIdx_cons, List.zipIdx_nil, List.forIn_cons, List.forIn_nil]
  refine wpAny_bind (wpAny_bind (wpAny_onRaise ?_))
  show wpAny _ _ (Builtin.SmallTypes.nextOf (.ref i1) >>= _) _ _ _
  refine wpAny_bind (D1.item k _ _ _ k1 (D1.frame _ _ _ h1 (keepBut D.z1 hs₁)) fun x g₂ tk₂ px h1₂ hs₂ => wpAny_pure ?_)
  replace hs₂ : Heap.SameBut i1 g₁ g₂ := hs₂
  have hTO₂ : IsPair g₂ TO a b := hs₂.extBut _ _ D.TOi1 (hs₁.extBut _ _ D.TOz hTO)
  refine wpAny_bind (wpAny_seqItems hTO₂ rfl ?_)
  refine wpAny_bind (wpAny_updateSeq_pair hTO₂ fun g₃ hTO₃ hs₃ => ?_)
  replace hTO₃ : IsPair g₃ TO x b := hTO₃
  replace hs₃ : Heap.SameBut TO g₂ g₃ := hs₃
  refine wpAny_bind (wpAny_letGo (wpAny_pure ?_))
  refine wpAny_bind (wpAny_bind (wpAny_onRaise ?_))
  show wpAny _ _ (Builtin.SmallTypes.nextOf (.ref i2) >>= _) _ _ _
  have h2₃ : S2 k g₃ := D2.frame _ _ _ (D2.frame _ _ _ (D2.frame _ _ _ h2 (keepBut D.z2 hs₁)) (keepBut D.i12 hs₂)) (keepBut D.TO2 hs₃)
  refine wpAny_bind (D2.item k _ _ _ k2 h2₃ fun y g₄ tk₄ py h2₄ hs₄ => wpAny_pure ?_)
  replace hs₄ : Heap.SameBut i2 g₃ g₄ := hs₄
  have hTO₄ : IsPair g₄ TO x b := hs₄.extBut _ _ D.TOi2 hTO₃
  refine wpAny_bind (wpAny_seqItems hTO₄ rfl ?_)
  refine wpAny_bind (wpAny_updateSeq_pair hTO₄ fun g₅ hTO₅ hs₅ => ?_)
  replace hTO₅ : IsPair g₅ TO x y := hTO₅
  replace hs₅ : Heap.SameBut TO g₄ g₅ := hs₅
  refine wpAny_bind (wpAny_letGo (wpAny_pure (wpAny_pure ?_)))
  refine wpAny_bind (wpAny_seqItems hTO₅ rfl ?_)
  refine wpAny_bind (wpAny_newTuple ?_)
  have hsz : g₅.objs.size = s.heap.objs.size := by rw [hs₅.1, hs₄.1, hs₃.1, hs₂.1, hs₁.1]
  have hz₅ : IsZip g₅ z TI TO .ellipsis := hs₅.extBut _ _ D.TOz.symm (hs₄.extBut _ _ D.i2z.symm (hs₃.extBut _ _ D.TOz.symm (hs₂.extBut _ _ D.i1z.symm hz₁)))
  have hk₅ : ∀ c o, c ≠ z → c ≠ TO → c ≠ i1 → c ≠ i2 → s.heap.get? c = some o → g₅.get? c = some o := fun c o c1 c2 c3 c4 e =>
    hs₅.extBut _ _ c2 (hs₄.extBut _ _ c4 (hs₃.extBut _ _ c2 (hs₂.extBut _ _ c3 (hs₁.extBut _ _ c1 e))))
  have h1₅ : S1 (k + 1) g₅ := D1.frame _ _ _ (D1.frame _ _ _ (D1.frame _ _ _ h1₂ (keepBut D.TO1 hs₃)) (keepBut D.i21 hs₄)) (keepBut D.TO1 hs₅)
  have h2₅ : S2 (k + 1) g₅ := D2.frame _ _ _ h2₄ (keepBut D.TO2 hs₅)
  have hzlt : z < g₅.objs.size := Heap.lt_size hz₅
  show wpAny _ _ (Builtin.SmallTypes.ownedTupleHandOut (.ref z) (.ref g₅.objs.size) >>= _) _ _ _
  refine wpAny_bind ?_
  unfold Builtin.SmallTypes.ownedTupleHandOut
  have hz₆ : IsZip (g₅.push { cls := .type "tuple", data := .seq #[x, y] }) z TI TO .ellipsis := Heap.get?_push_of_some _ hz₅
  refine wpAny_bind (wpAny_setField_rec hz₆ (by simp) fun g₇ hz₇ hs₇ => ?_)
  replace hz₇ : IsZip g₇ z TI TO (rawInt g₅.objs.size) := hz₇
  refine wpAny_setField_rec hz₇ (by simp) fun g₈ hz₈ hs₈ => ?_
  replace hz₈ : IsZip g₈ z TI TO (rawInt g₅.objs.size) := hz₈
  have up : ∀ c o, c ≠ z → g₅.get? c = some o → g₈.get? c = some o := fun c o c1 e => hs₈.extBut _ _ c1 (hs₇.extBut _ _ c1 (Heap.get?_push_of_some _ e))
  have hT₈ : IsPair g₈ g₅.objs.size x y := hs₈.extBut _ _ (Nat.ne_of_gt hzlt) (hs₇.extBut _ _ (Nat.ne_of_gt hzlt) (Heap.get?_push_size _ rfl))
  rw [hsz] at hz₈ hT₈
  refine wpAny_pure ⟨_, rfl, ?_⟩
  show Q (.ref g₅.objs.size) _
  rw [hsz]
  exact hQ x y g₈ _ px py hz₈ (up _ _ D.TOz hTO₅) (D1.frame _ _ _ h1₅ fun c hc o e => up c o (fun q => D.z1 (q ▸ hc)) e) (D2.frame _ _ _ h2₅ fun c hc o e => up c o (fun q => D.z2 (q ▸ hc)) e) hT₈
    fun c o c1 c2 c3 c4 e => up c o c1 (hk₅ c o c1 c2 c3 c4 e)

theorem zip_end (D : ZSep z TI TO i1 i2 f1 f2) (D1 : Draws prog w A i1 f1 n1 P1 S1) (D2 : Draws prog w A i2 f2 n2 P2 S2) {Q : Fin → Shared → Prop}
    (hz : IsZip s.heap z TI TO .none) (hTI : IsPair s.heap TI (.ref i1) (.ref i2)) (hTO : IsPair s.heap TO a b) (h1 : S1 k s.heap) (h2 : S2 k s.heap) (hk : k = n1 ∨ (k < n1 ∧ k = n2))
    (hE : ∀ h' e tk, (∀ c o, c ≠ z → c ≠ TO → c ≠ i1 → c ≠ i2 → s.heap.get? c = some o → h'.get? c = some o) → (∃ o, h'.get? e = some o ∧ o.cls = .type "StopIteration") → E (.ref e) { s with heap := h', toks := tk }) :
    wpAny (model prog w) A (Builtin.«zip.__next__» ⟨[.ref z], []⟩) Q E s := by
  show wpAny _ _ (field (.ref z) 2 >>= _) _ _ _
  refine wpAny_bind (wpAny_field hz rfl (x := .bool false) rfl ?_)
  show wpAny _ _ (field (.ref z) 3 >>= _) _ _ _
  refine wpAny_bind (wpAny_field hz rfl (x := .ref TI) rfl ?_)
  refine wpAny_bind (wpAny_seqItems hTI rfl ?_)
  show wpAny _ _ (Builtin.SmallTypes.ownedTupleIsFree (.ref z) >>= _) _ _ _
  refine wpAny_bind ?_
  unfold Builtin.SmallTypes.ownedTupleIsFree
  refine wpAny_bind (wpAny_field hz rfl (x := .none) rfl (wpAny_pure ?_))
  simp only [if_true]
  refine wpAny_bind (wpAny_rule ?_)
  refine wpAny_bind (wpAny_field hz rfl (x := .ref TO) rfl ?_)
  refine wpAny_bind (wpAny_setField_rec hz (by simp) fun g₁ hz₁ hs₁ => ?_)
  replace hz₁ : IsZip g₁ z TI TO .ellipsis := hz₁
  refine wpAny_bind ?_
  simp only [List.zipIdx_cons, List.zipIdx_nil, List.forIn_cons, List.forIn_nil]
  refine wpAny_bind (wpAny_bind (wpAny_onRaise ?_))
  show wpAny _ _ (Builtin.SmallTypes.nextOf (.ref i1) >>= _) _ _ _
  have h1₁ : S1 k g₁ := D1.frame _ _ _ h1 (keepBut D.z1 hs₁)
  rcases hk with rfl | ⟨k1, rfl⟩
  · refine wpAny_bind (D1.done _ _ _ h1₁ fun g₂ e hs₂ he => ?_)
    replace hs₂ : Heap.ExtBut i1 g₁ g₂ := hs₂
    obtain ⟨oe, hoe, hce⟩ := he
    have hz₂ : IsZip g₂ z TI TO .ellipsis := hs₂ _ _ D.i1z.symm hz₁
    have hez : e ≠ z := fun x => by subst x; rw [hz₂] at hoe; cases hoe; simp at hce
    refine wpAny_setField_rec hz₂ (by simp) fun g₃ _ hs₃ => hE g₃ e _ (fun c o c1 _ c3 _ x => hs₃.extBut _ _ c1 (hs₂ _ _ c3 (hs₁.extBut _ _ c1 x))) ⟨oe, hs₃.extBut _ _ hez hoe, hce⟩
  · refine wpAny_bind (D1.item k _ _ _ k1 h1₁ fun x g₂ tk₂ px h1₂ hs₂ => wpAny_pure ?_)
    replace hs₂ : Heap.SameBut i1 g₁ g₂ := hs₂
    have hTO₂ : IsPair g₂ TO a b := hs₂.extBut _ _ D.TOi1 (hs₁.extBut _ _ D.TOz hTO)
    refine wpAny_bind (wpAny_seqItems hTO₂ rfl ?_)
    refine wpAny_bind (wpAny_updateSeq_pair hTO₂ fun g₃ hTO₃ hs₃ => ?_)
    replace hs₃ : Heap.SameBut TO g₂ g₃ := hs₃
    refine wpAny_bind (wpAny_letGo (wpAny_pure ?_))
    refine wpAny_bind (wpAny_bind (wpAny_onRaise ?_))
    show wpAny _ _ (Builtin.SmallTypes.nextOf (.ref i2) >>= _) _ _ _
    have h2₃ : S2 k g₃ := D2.frame _ _ _ (D2.frame _ _ _ (D2.frame _ _ _ h2 (keepBut D.z2 hs₁)) (keepBut D.i12 hs₂)) (keepBut D.TO2 hs₃)
    refine wpAny_bind (D2.done _ _ _ h2₃ fun g₄ e hs₄ he => ?_)
    replace hs₄ : Heap.ExtBut i2 g₃ g₄ := hs₄
    obtain ⟨oe, hoe, hce⟩ := he
    have hz₄ : IsZip g₄ z TI TO .ellipsis := hs₄ _ _ D.i2z.symm (hs₃.extBut _ _ D.TOz.symm (hs₂.extBut _ _ D.i1z.symm hz₁))
    have hez : e ≠ z := fun x => by subst x; rw [hz₄] at hoe; cases hoe; simp at hce
    refine wpAny_setField_rec hz₄ (by simp) fun g₅ _ hs₅ => hE g₅ e _ (fun c o c1 c2 c3 c4 x => hs₅.extBut _ _ c1 (hs₄ _ _ c4 (hs₃.extBut _ _ c2 (hs₂.extBut _ _ c3 (hs₁.extBut _ _ c1 x))))) ⟨oe, hs₅.extBut _ _ hez hoe, hce⟩

/-- a zip of two sources hands out new pairs -/
theorem walksZ (D : ZSep z TI TO i1 i2 f1 f2) (D1 : Draws prog w A.in1 i1 f1 n1 P1 S1) (D2 : Draws prog w A.in1 i2 f2 n2 P2 S2) :
    WalksT prog w A z (z :: TI :: TO :: (f1 ++ f2)) [z, TO, i1, i2] (min n1 n2) (fun i vals => ∃ x y, P1 i x ∧ P2 i y ∧ vals = #[x, y])
      (fun i h => IsZip h z TI TO .none ∧ IsPair h TI (.ref i1) (.ref i2) ∧ (∃ a b, IsPair h TO a b) ∧ S1 i h ∧ S2 i h)
      (fun i T h => IsZip h z TI TO (rawInt T) ∧ IsPair h TI (.ref i1) (.ref i2) ∧ (∃ a b, IsPair h TO a b) ∧ S1 (i + 1) h ∧ S2 (i + 1) h ∧ T ≠ z ∧ T ≠ TO ∧ T ≠ i1 ∧ T ≠ i2) where
  sub := fun c hc => by
    simp only [List.mem_cons, List.not_mem_nil, or_false] at hc
    rcases hc with rfl | rfl | rfl | rfl
    · simp
    · simp
    · simp [D.m1]
    · simp [D.m2]
  frame := fun i h h' st hk => by
    obtain ⟨hz, hTI, ⟨a, b, hTO⟩, h1, h2⟩ := st
    exact ⟨hk z (by simp) _ hz, hk TI (by simp) _ hTI, ⟨a, b, hk TO (by simp) _ hTO⟩, D1.frame _ _ _ h1 fun c hc o e => hk c (by simp [hc]) o e, D2.frame _ _ _ h2 fun c hc o e => hk c (by simp [hc]) o e⟩
  item := fun i s Q E hi st hQ => by
    obtain ⟨hz, hTI, ⟨a, b, hTO⟩, h1, h2⟩ := st
    have hT : s.TypeIs (.ref z) "zip" := ⟨_, hz, rfl⟩
    have lt : ∀ {c o}, s.heap.get? c = some o → s.heap.objs.size ≠ c := fun e => Nat.ne_of_gt (Heap.lt_size e)
    unfold pyNext
    refine wpAny_bind (wpAny_attempt (wpAny_callSpecial?_slot (name := Str.ofString "__next__") hT PySem.F.slot_zip_next
      (wpAny_call_entry PySem.F.slot_zip_next hT PySem.F.entry_zip_next
        (zip_item D D1 D2 hz hTI hTO h1 h2 (by omega) (by omega) fun x y h' tk px py a1 a2 a3 a4 a5 a6 => wpAny_pure ?_) (PySem.F.args_zip_next_1 _))))
    obtain ⟨_, e1⟩ := D1.live _ _ h1
    obtain ⟨_, e2⟩ := D2.live _ _ h2
    exact hQ s.heap.objs.size #[x, y] h' tk ⟨x, y, px, py, rfl⟩ (Nat.le_refl _) ⟨_, a5, rfl, _, rfl⟩
      ⟨a1, a6 _ _ D.TIz D.TITO D.TIi1 D.TIi2 hTI, ⟨_, _, a2⟩, a3, a4, lt hz, lt hTO, lt e1, lt e2⟩
      fun c o hc e => a6 c o (fun x => hc (by simp [x])) (fun x => hc (by simp [x])) (fun x => hc (by simp [x])) (fun x => hc (by simp [x])) e
  go := fun elts k pos i T s Q E hm hQ => by
    obtain ⟨hz, hTI, ⟨a, b, hTO⟩, h1, h2, _⟩ := hm
    refine wpAny_letOwnedTupleGo_zip hz fun h' hz' hs' => hQ h' ⟨hz', hs'.extBut _ _ D.TIz hTI, ⟨a, b, hs'.extBut _ _ D.TOz hTO⟩, D1.frame _ _ _ h1 (keepBut D.z1 hs'), D2.frame _ _ _ h2 (keepBut D.z2 hs')⟩
      fun c o hc e => hs'.extBut _ _ (fun x => hc (by simp [x])) e
  apart := fun i T h hm hT => by
    obtain ⟨_, _, _, _, _, t1, t2, t3, t4⟩ := hm
    simp only [List.mem_cons, List.not_mem_nil, or_false] at hT
    rcases hT with rfl | rfl | rfl | rfl
    · exact t1 rfl
    · exact t2 rfl
    · exact t3 rfl
    · exact t4 rfl
  done := fun s Q E st hQ => by
    obtain ⟨hz, hTI, ⟨a, b, hTO⟩, h1, h2⟩ := st
    have hT : s.TypeIs (.ref z) "zip" := ⟨_, hz, rfl⟩
    unfold pyNext
    refine wpAny_bind (wpAny_attempt (wpAny_callSpecial?_slot (name := Str.ofString "__next__") hT PySem.F.slot_zip_next
      (wpAny_call_entry PySem.F.slot_zip_next hT PySem.F.entry_zip_next (zip_end D D1 D2 hz hTI hTO h1 h2 (by omega) fun h' e tk hk he => ?_) (PySem.F.args_zip_next_1 _))))
    obtain ⟨o, ho, hc⟩ := he
    refine wpAny_bind (wpAny_isInstance (T := "StopIteration") (b := true) ⟨o, ho, hc⟩ isSubtype_stop ?_)
    exact wpAny_pure (hQ h' tk fun c o hc e => hk c o (fun x => hc (by simp [x])) (fun x => hc (by simp [x])) (fun x => hc (by simp [x])) (fun x => hc (by simp [x])) e)
  self := fun i s Q E st hQ => wpAny_pyIter_zip st.1 hQ
end

section
variable {prog : Program} {w : World} {B : Bs prog w} {n : Nat} {K : Cx} {env : Env} {hE : Addr → Option Obj} {Mu Av : Addr → Prop} {own : List Addr} {A : Around} {ρ : Rho} {σ : Sto} {s s1 : Shared} {E : Value → Shared → Prop}

/-- as Srcs, from a state before the source was made -/
noncomputable def SrcsAt (prog : Program) (w : World) (A : Around) (Av : Addr → Prop) (s s1 : Shared) (tup : Tm) (l : List PV) (v : Value) : Prop :=
  ∀ (Q : Value → Shared → Prop) (E : Value → Shared → Prop), (∀ it fp wr St Mid h' tk, Trav prog w A it fp wr tup St Mid → St (fun b => Av b ∨ b ∈ wr) l h' → (∀ b o, s.heap.get? b = some o → h'.get? b = some o) → (∀ b ∈ wr, s.heap.get? b = .none) → (∀ b ∈ fp, b ∈ wr ∨ ¬ Av b) →
    Q it { s with heap := h', toks := tk }) → wpAny (model prog w) A (pyIter v) Q E s1
theorem for_srcsAt {v : Value} {t : PySem.Expr} {body : List Stmt} {tup : Tm} {l : List PV} {f : Fl} {ρ' : Rho} {σ' : Sto} {Q : Flow → Shared → Prop} (P : Pt B n K env A) (fn : env.func.isSome = true) (ht : tup.ok t = true) (T : Tr prog w t body K l ρ σ f ρ' σ')
    (F : Fra B env hE Mu Av own ρ σ s) (SR : SrcsAt prog w A Av s s1 tup l v) (p : PS B env hE Mu Av own s f ρ' σ' Q) :
    wpAny (model prog w) A (pyIter v) (fun it s₂ => codeAny (model prog w) A (.forLoop t it body [] env) (fun r s' => match r with | .ok f => Q f s' | .error e => cameBackBy (model prog w) A env E e s') s₂) E s1 := by
  refine SR _ _ fun it fp wr St Mid h' tk TV st k fr fpa => ?_
  obtain ⟨F1, S1⟩ := F.grant (wr := wr) (tk := tk) k fr fun b hb => TV.here _ _ _ st b (TV.sub b hb)
  refine for_code TV P fn ht T (fun b hb m => by obtain ⟨o, ho⟩ := F.avs b hb; rw [fr b m] at ho; cases ho) F1 st (F.wrOk fr) (fun b hb => .inr hb) (fun b hb => ?_) S1 fr p
  rcases fpa b hb with m | m
  · exact .inl m
  · by_cases z : b ∈ wr
    · exact .inl z
    · exact .inr fun q => q.elim m z

theorem Trav.ofWalksT {I : Addr} {fp wr : List Addr} {m : Nat} {Pt : Nat → Array Value → Prop} {St : Nat → Heap → Prop} {Mid : Nat → Addr → Heap → Prop} (W : WalksT prog w A I fp wr m Pt St Mid) (here : ∀ i h, St i h → ∀ b ∈ fp, ∃ o, h.get? b = some o) :
    Trav prog w A (.ref I) fp wr .tp (fun Av l h => ∃ i, i + l.length = m ∧ St i h ∧ ∀ j d, l[j]? = some d → ∃ ds, d = .tup ds ∧ ∀ vals, Pt (i + j) vals → vals.size ≤ lim ∧ All2 (Rep prog w Av h) vals.toList ds)
      (fun Av d l v h => ∃ i T, v = .ref T ∧ i + 1 + l.length = m ∧ Mid i T h ∧ Rep prog w Av h v d ∧ ∀ j d, l[j]? = some d → ∃ ds, d = .tup ds ∧ ∀ vals, Pt (i + 1 + j) vals → vals.size ≤ lim ∧ All2 (Rep prog w Av h) vals.toList ds) where
  sub := W.sub
  here := fun _ _ h ⟨i, _, st, _⟩ => here i h st
  frame := fun Av Av' l h h' ⟨i, e, st, r⟩ k G => ⟨i, e, W.frame _ _ _ st k, fun j d q => let ⟨ds, e, p⟩ := r j d q; ⟨ds, e, fun vals hv => ⟨(p vals hv).1, (p vals hv).2.imp fun _ _ z => z.grow G⟩⟩⟩
  item := fun Av d l s Q E ⟨i, e, st, r⟩ wa ex q => by
    rw [List.length_cons] at e
    refine W.item i s Q E (by omega) st fun T vals h' tk pv hT it M k => q _ h' tk ⟨i, T, rfl, by omega, M, ?_, fun j d' e' => ?_⟩ k
    · have G : Grow Av s.heap Av h' := ⟨fun _ x => x, fun _ x y => absurd x y, fun b o z nb => k b o (fun y => nb (wa b y)) z⟩
      obtain ⟨ds, rfl, p⟩ := r 0 d rfl
      obtain ⟨z, X⟩ := p vals pv
      obtain ⟨o, ho, hc, nn, hd⟩ := it
      exact .tup (fun a => by obtain ⟨o, ho⟩ := ex T a; exact absurd (Heap.lt_size ho) (Nat.not_lt.mpr hT)) ho hc hd z (RepL.of (X.imp fun _ _ z => z.grow G))
    · have G : Grow Av s.heap Av h' := ⟨fun _ x => x, fun _ x y => absurd x y, fun b o z nb => k b o (fun y => nb (wa b y)) z⟩
      obtain ⟨ds, e1, p⟩ := r (j + 1) d' (by simpa using e')
      refine ⟨ds, e1, fun vals hv => ?_⟩
      obtain ⟨z, X⟩ := p vals (by rw [show i + (j + 1) = i + 1 + j by omega]; exact hv)
      exact ⟨z, X.imp fun _ _ z => z.grow G⟩
  go := fun target Av d l v s Q E ht ⟨i, T, e0, e, M, rv, r⟩ wa q => by
    subst e0
    cases target <;> try (cases ht; done)
    case Tuple elts c pos =>
      refine W.go elts c pos i T s Q E M fun h' st k => ?_
      have G : Grow Av s.heap Av h' := ⟨fun _ x => x, fun _ x y => absurd x y, fun b o z nb => k b o (fun y => nb (wa b y)) z⟩
      refine q h' ⟨i + 1, e, st, fun j d' e' => ?_⟩ (rv.grow G) k
      obtain ⟨ds, e1, p⟩ := r j d' e'
      exact ⟨ds, e1, fun vals hv => ⟨(p vals hv).1, (p vals hv).2.imp fun _ _ z => z.grow G⟩⟩
  done := fun Av s Q E ⟨i, e, st, _⟩ q => by
    have : i = m := by simpa using e
    subst this
    exact W.done s Q E st q
  self := fun Av l s Q E ⟨i, _, st, _⟩ q => W.self i s Q E st q

-- the heap behind zip(a, b) and enumerate(a)
abbrev tIt (a : Addr) : Obj := { cls := .type "tuple_iterator", data := .fields #[.ref a, .int 0 0] }
abbrev zg2 (h : Heap) (a b : Addr) : Heap := (h.push (tIt a)).push (tIt b)
abbrev zg3 (h : Heap) (a b : Addr) : Heap := (zg2 h a b).push { cls := .type "tuple", data := .seq #[.ref h.objs.size, .ref (h.push (tIt a)).objs.size] }
abbrev zg4 (h : Heap) (a b : Addr) : Heap := (zg3 h a b).push { cls := .type "tuple", data := .seq #[.none, .none] }
abbrev zg5 (h : Heap) (a b : Addr) : Heap := (zg4 h a b).push { cls := .type "zip", data := .fields #[.none, .bool false, .bool false, .ref (zg2 h a b).objs.size, .ref (zg3 h a b).objs.size] }
theorem meets_zipT (a b : Addr) (xs ys : Array Value) :
    Meets (Builtin.«zip.__new__» ⟨[.type "zip", .ref a, .ref b], []⟩) (fun _ R s => s.heap.IsTuple a xs ∧ s.heap.IsTuple b ys ∧
      R (.ok (.ret (.ref (zg4 s.heap a b).objs.size))) { s with heap := zg5 s.heap a b }) :=
  .of_wp fun prog w A R s h => by
    obtain ⟨hp, g, d, tk, os⟩ := s; obtain ⟨ha, hb, h⟩ := h
    have hsub := sub_zip
    have hA : Heap.IsTuple (Shared.heap ⟨hp, g, d, tk, os⟩) a xs := ha
    have hB : Heap.IsTuple (Shared.heap ⟨hp.push (tIt a), g, d, tk, os⟩) b ys := Heap.IsTuple.push hb _
    wp_walk using wpAny_pyIter_tuple hA, wpAny_pyIter_tuple hB
    exact ⟨_, rfl, h⟩
end
end Og
end
section
open PySem PySem.Calls PyProof.Rows
namespace Og
theorem wpAny_called {prog : Program} {w : World} {A : Around} {E : Value → Shared → Prop} {s : Shared} {c : Value} {Q : Bool → Shared → Prop} (h : ∀ b, Q b s) : wpAny (model prog w) A (Builtin.SmallTypes.calledThroughType c) Q E s := by
  unfold Builtin.SmallTypes.calledThroughType
  exact wpAny_bind (wpAny_stack_any fun st => wpAny_pure (h _))
theorem meets_enumT (l : Addr) (items : Array Value) (n : Nat) (dct : Option Addr) (sl : Array (Option Value)) :
    Meets (Builtin.«enumerate.__new__» ⟨[.type "enumerate", .ref l], []⟩) (fun _ R s => s.heap.get? l = some { cls := .type "tuple", dict := dct, data := .seq items n, slots := sl } ∧
      R (.ok (.ret (.ref (s.heap.push (tIt l)).objs.size)))
        { s with heap := (s.heap.push (tIt l)).push { cls := .type "enumerate", data := .fields #[.none, .bool false, .ref s.heap.objs.size, rawInt 0, .none, .none] } }) :=
  .of_wp fun prog w A R s h => by
    obtain ⟨hp, g, d, tk, os⟩ := s; obtain ⟨hl, h⟩ := h
    have hsub := sub_enumerate
    have hL : Heap.IsTuple (Shared.heap ⟨hp, g, d, tk, os⟩) l items := ⟨_, hl, rfl, n, rfl⟩
    wp_walk using AutoSeq1.wpAny_loadPart' hl, wpAny_called
    intro b
    cases b
    · wp_walk using AutoSeq1.wpAny_loadPart' hl, wpAny_pyIter_tuple hL
      exact ⟨_, rfl, h⟩
    · wp_walk using AutoSeq1.wpAny_loadPart' hl, wpAny_pyIter_tuple hL
      exact ⟨_, rfl, h⟩
section
variable {prog : Program} {w : World} {A : Around} {E : Value → Shared → Prop} {s : Shared} {Av : Addr → Prop} {a b : Addr} {xs ys : Array Value} {l m : List PV} {Q : Value → Shared → Prop}

theorem call_zipT (ha : s.heap.IsTuple a xs) (hb : s.heap.IsTuple b ys)
    (h : ∀ h', IsZip h' (s.heap.objs.size + 4) (s.heap.objs.size + 2) (s.heap.objs.size + 3) .none → IsPair h' (s.heap.objs.size + 2) (.ref s.heap.objs.size) (.ref (s.heap.objs.size + 1)) →
      IsPair h' (s.heap.objs.size + 3) .none .none → h'.IsTupleIter s.heap.objs.size a 0 → h'.IsTupleIter (s.heap.objs.size + 1) b 0 → (∀ c o, s.heap.get? c = some o → h'.get? c = some o) → Q (.ref (s.heap.objs.size + 4)) { s with heap := h' }) :
    wpAny (model prog w) A (call (.type "zip") [.ref a, .ref b]) Q E s := by
  refine callType_new PySem.F.called_zip (by decide) (PySem.F.typeCall_zip_2 _ _) (PySem.F.newCall_zip_2 _ _) (fun obj => PySem.F.args_object_init_3 obj _ _) PySem.F.entry_zip_new (meets_zipT a b xs ys) ⟨ha, hb, ?_⟩
  have z1 : (s.heap.push (tIt a)).objs.size = s.heap.objs.size + 1 := Heap.size_push ..
  have z2 : (zg2 s.heap a b).objs.size = s.heap.objs.size + 2 := by rw [Heap.size_push, z1]
  have z3 : (zg3 s.heap a b).objs.size = s.heap.objs.size + 3 := by rw [Heap.size_push, z2]
  have z4 : (zg4 s.heap a b).objs.size = s.heap.objs.size + 4 := by rw [Heap.size_push, z3]
  have g5 : (zg5 s.heap a b).get? (zg4 s.heap a b).objs.size = some _ := Heap.get?_push_size _ rfl
  have g4 : (zg5 s.heap a b).get? (zg3 s.heap a b).objs.size = some _ := Heap.get?_push_of_some _ (Heap.get?_push_size _ rfl)
  have g3 : (zg5 s.heap a b).get? (zg2 s.heap a b).objs.size = some _ := Heap.get?_push_of_some _ (Heap.get?_push_of_some _ (Heap.get?_push_size _ rfl))
  have g2 : (zg5 s.heap a b).get? (s.heap.push (tIt a)).objs.size = some _ := Heap.get?_push_of_some _ (Heap.get?_push_of_some _ (Heap.get?_push_of_some _ (Heap.get?_push_size _ rfl)))
  have g1 : (zg5 s.heap a b).get? s.heap.objs.size = some _ := Heap.get?_push_of_some _ (Heap.get?_push_of_some _ (Heap.get?_push_of_some _ (Heap.get?_push_of_some _ (Heap.get?_push_size _ rfl))))
  show _ ∧ _
  rw [z2, z3, z4] at g5
  rw [z1, z2] at g3
  rw [z3] at g4
  rw [z1] at g2
  rw [z4]
  exact ⟨⟨_, g5, rfl⟩, h _ g5 g3 g4 ⟨_, g1, rfl, rfl⟩ ⟨_, g2, rfl, rfl⟩ fun c o x =>
    Heap.get?_push_of_some _ (Heap.get?_push_of_some _ (Heap.get?_push_of_some _ (Heap.get?_push_of_some _ (Heap.get?_push_of_some _ x))))⟩
theorem call_enumT (ha : s.heap.IsTuple a xs)
    (h : ∀ h', IsEnum h' (s.heap.objs.size + 1) s.heap.objs.size 0 .none → h'.IsTupleIter s.heap.objs.size a 0 → (∀ c o, s.heap.get? c = some o → h'.get? c = some o) → Q (.ref (s.heap.objs.size + 1)) { s with heap := h' }) :
    wpAny (model prog w) A (call (.type "enumerate") [.ref a]) Q E s := by
  obtain ⟨⟨c, dct, dt, sl⟩, hl, hc, n, hd⟩ := ha
  replace hc : c = .type "tuple" := hc
  replace hd : dt = .seq xs n := hd
  subst hc hd
  refine callType_new PySem.F.called_enumerate (by decide) (PySem.F.typeCall_enumerate_1 _) (PySem.F.newCall_enumerate_1 _) (fun obj => PySem.F.args_object_init_2 obj _) PySem.F.entry_enumerate_new
    (meets_enumT a xs n dct sl) ⟨hl, ?_⟩
  have hz : (s.heap.push (tIt a)).objs.size = s.heap.objs.size + 1 := Heap.size_push ..
  have he : ((s.heap.push (tIt a)).push { cls := .type "enumerate", data := .fields #[.none, .bool false, .ref s.heap.objs.size, rawInt 0, .none, .none] }).get? (s.heap.push (tIt a)).objs.size = some _ := Heap.get?_push_size _ rfl
  show _ ∧ _
  rw [hz] at he ⊢
  exact ⟨⟨_, he, rfl⟩, h _ he ⟨_, Heap.get?_push_of_some _ (Heap.get?_push_size _ rfl), rfl, rfl⟩ fun b o x => Heap.get?_push_of_some _ (Heap.get?_push_of_some _ x)⟩

theorem zipL_len : ∀ (l m : List PV), (zipL l m).length = min l.length m.length
  | [], m => by simp [zipL]
  | _ :: _, [] => by simp [zipL]
  | a :: r, b :: t => by rw [List.length_cons, List.length_cons, Nat.succ_min_succ, ← zipL_len r t]; rfl
theorem zipL_get : ∀ {l m : List PV} {j : Nat} {d : PV}, (zipL l m)[j]? = some d → ∃ p q, l[j]? = some p ∧ m[j]? = some q ∧ d = .tup [p, q]
  | [], _, _, _, h => by simp [zipL] at h
  | _ :: _, [], _, _, h => by simp [zipL] at h
  | a :: r, b :: t, 0, d, h => by simp [zipL] at h; exact ⟨a, b, rfl, rfl, h.symm⟩
  | a :: r, b :: t, j + 1, d, h => by
    simp only [zipL, List.getElem?_cons_succ] at h ⊢
    exact zipL_get h
theorem enumL_len : ∀ (l : List PV) (i : Int), (enumL i l).length = l.length
  | [], _ => rfl
  | a :: r, i => by simp [enumL, enumL_len r]
theorem enumL_get : ∀ {l : List PV} {i : Int} {j : Nat} {d : PV}, (enumL i l)[j]? = some d → ∃ p, l[j]? = some p ∧ d = .tup [.int (i + j), p]
  | [], _, _, _, h => by simp [enumL] at h
  | a :: r, i, 0, d, h => by simp [enumL] at h; exact ⟨a, rfl, by simp [← h]⟩
  | a :: r, i, j + 1, d, h => by
    simp only [enumL, List.getElem?_cons_succ] at h ⊢
    obtain ⟨p, h1, h2⟩ := enumL_get h
    refine ⟨p, h1, ?_⟩
    rw [h2, Int.natCast_add, Int.add_assoc, Int.add_comm 1]; rfl

theorem fresh_at {h : Heap} (i : Nat) : h.get? (h.objs.size + i) = .none := by
  cases q : h.get? (h.objs.size + i) with
  | none => rfl
  | some o => exact absurd (Heap.lt_size q) (Nat.not_lt.mpr (Nat.le_add_right _ _))
theorem two_not {x y z : Nat} (h1 : x ≠ y) (h2 : x ≠ z) : (x : Addr) ∉ ([y, z] : List Addr) := fun h => by
  rcases List.mem_cons.mp h with e | h
  · exact h1 e
  · exact h2 (List.mem_singleton.mp h)
theorem zsep_new {N a b : Nat} (a1 : a < N) (b1 : b < N) : ZSep (N + 4) (N + 2) (N + 3) N (N + 1) [N, a] [N + 1, b] :=
  have lt : ∀ {i j : Nat}, i < j → N + i < N + j := fun h => Nat.add_lt_add_left h N
  have up : ∀ {c : Nat} (k : Nat), c < N → N + k ≠ c := fun k h => Nat.ne_of_gt (Nat.lt_of_lt_of_le h (Nat.le_add_right N k))
  { TIz := Nat.ne_of_lt (lt (by decide)), TOz := Nat.ne_of_lt (lt (by decide)), TITO := Nat.ne_of_lt (lt (by decide)), TIi1 := Nat.ne_of_gt (lt (i := 0) (by decide)), TIi2 := Nat.ne_of_gt (lt (by decide)), m1 := .head _, m2 := .head _,
    z1 := two_not (Nat.ne_of_gt (lt (i := 0) (by decide))) (up 4 a1), z2 := two_not (Nat.ne_of_gt (lt (by decide))) (up 4 b1), TO1 := two_not (Nat.ne_of_gt (lt (i := 0) (by decide))) (up 3 a1), TO2 := two_not (Nat.ne_of_gt (lt (by decide))) (up 3 b1),
    i12 := two_not (Nat.ne_of_lt (lt (i := 0) (by decide))) (up 0 b1), i21 := two_not (Nat.ne_of_gt (lt (i := 0) (by decide))) (up 1 a1) }
theorem srcs_zip (hh : A.handled = .none) (avs : ∀ b, Av b → ∃ o, s.heap.get? b = some o) (na : ¬ Av a) (nb : ¬ Av b) (ha : s.heap.IsTuple a xs) (hb : s.heap.IsTuple b ys) (X : All2 (Rep prog w Av s.heap) xs.toList l) (Y : All2 (Rep prog w Av s.heap) ys.toList m)
    (q : ∀ v h' tk, SrcsAt prog w A Av s { s with heap := h', toks := tk } .tp (zipL l m) v → Q v { s with heap := h', toks := tk }) : wpAny (model prog w) A (call (.type "zip") [.ref a, .ref b]) Q E s := by
  have a1 : a < s.heap.objs.size := by obtain ⟨o, ho, _⟩ := ha; exact Heap.lt_size ho
  have b1 : b < s.heap.objs.size := by obtain ⟨o, ho, _⟩ := hb; exact Heap.lt_size ho
  refine call_zipT ha hb fun h' hz hTI hTO hi1 hi2 k => q _ h' s.toks fun Q' E' q' => wpAny_pyIter_zip hz ?_
  generalize hN : s.heap.objs.size = N at *
  have W := walksZ (A := A) (zsep_new a1 b1) (drawsT (prog := prog) (w := w) (A := A.in1) hh N a (Nat.ne_of_lt a1) xs) (drawsT (A := A.in1) hh (N + 1) b (Nat.ne_of_lt (Nat.lt_succ_of_lt b1)) ys)
  have fr : ∀ i, s.heap.get? (N + i) = .none := fun i => by rw [← hN]; exact fresh_at i
  have wf : ∀ c ∈ [N + 4, N + 3, N, N + 1], s.heap.get? c = .none := fun c hc => by
    simp only [List.mem_cons, List.not_mem_nil, or_false] at hc
    rcases hc with rfl | rfl | rfl | rfl
    · exact fr 4
    · exact fr 3
    · exact fr 0
    · exact fr 1
  have G : Grow Av s.heap (fun c => Av c ∨ c ∈ [N + 4, N + 3, N, N + 1]) h' := grow_wr k wf
  refine q' _ _ _ _ _ h' s.toks (Trav.ofWalksT W fun i g st c hc => ?_) ⟨0, ?_, ⟨hz, hTI, ⟨_, _, hTO⟩, ⟨hi1, ha.at fun o e => k _ o e⟩, hi2, hb.at fun o e => k _ o e⟩, fun j d hd => ?_⟩ k wf fun c hc => ?_
  · obtain ⟨e1, e2, ⟨_, _, e3⟩, ⟨⟨_, e4, _⟩, ⟨_, e5, _⟩⟩, ⟨_, e6, _⟩, ⟨_, e7, _⟩⟩ := st
    simp only [List.mem_cons, List.mem_append, List.not_mem_nil, or_false] at hc
    rcases hc with rfl | rfl | rfl | (rfl | rfl) | (rfl | rfl)
    · exact ⟨_, e1⟩
    · exact ⟨_, e2⟩
    · exact ⟨_, e3⟩
    · exact ⟨_, e4⟩
    · exact ⟨_, e5⟩
    · exact ⟨_, e6⟩
    · exact ⟨_, e7⟩
  · rw [zipL_len, Nat.zero_add, ← X.length, ← Y.length, Array.length_toList, Array.length_toList]
  · obtain ⟨p, r, hp, hr, rfl⟩ := zipL_get hd
    refine ⟨_, rfl, ?_⟩
    rintro vals ⟨x, y, hx, hy, rfl⟩
    rw [Nat.zero_add] at hx hy
    exact ⟨(by show 2 ≤ lim; decide), .cons ((all2_at X hp (by simpa using hx)).grow G) (.cons ((all2_at Y hr (by simpa using hy)).grow G) .nil)⟩
  · simp only [List.mem_cons, List.mem_append, List.not_mem_nil, or_false] at hc ⊢
    rcases hc with rfl | rfl | rfl | (rfl | rfl) | (rfl | rfl)
    · simp
    · exact .inr fun q => by obtain ⟨o, ho⟩ := avs _ q; rw [fr 2] at ho; cases ho
    · simp
    · simp
    · exact .inr na
    · simp
    · exact .inr nb
theorem srcs_enum (hh : A.handled = .none) (na : ¬ Av a) (ha : s.heap.IsTuple a xs) (X : All2 (Rep prog w Av s.heap) xs.toList l)
    (q : ∀ v h' tk, SrcsAt prog w A Av s { s with heap := h', toks := tk } .tp (enumL 0 l) v → Q v { s with heap := h', toks := tk }) : wpAny (model prog w) A (call (.type "enumerate") [.ref a]) Q E s := by
  have a1 : a < s.heap.objs.size := by obtain ⟨o, ho, _⟩ := ha; exact Heap.lt_size ho
  refine call_enumT ha fun h' hz hi1 k => q _ h' s.toks fun Q' E' q' => wpAny_pyIter_enum hz ?_
  generalize hN : s.heap.objs.size = N at *
  have W := WalksT.enumerateD (A := A) (drawsT (prog := prog) (w := w) (A := A.in1) hh N a (Nat.ne_of_lt a1) xs) (N + 1) (Nat.succ_ne_self N) (two_not (Nat.succ_ne_self N) (Nat.ne_of_gt (Nat.lt_succ_of_lt a1))) (.head _)
  have fr : ∀ i, s.heap.get? (N + i) = .none := fun i => by rw [← hN]; exact fresh_at i
  have wf : ∀ c ∈ [N + 1, N], s.heap.get? c = .none := fun c hc => by
    simp only [List.mem_cons, List.not_mem_nil, or_false] at hc
    rcases hc with rfl | rfl
    · exact fr 1
    · exact fr 0
  have G : Grow Av s.heap (fun c => Av c ∨ c ∈ [N + 1, N]) h' := grow_wr k wf
  refine q' _ _ _ _ _ h' s.toks (Trav.ofWalksT W fun i g st c hc => ?_) ⟨0, ?_, ⟨⟨_, hz⟩, hi1, ha.at fun o e => k _ o e⟩, fun j d hd => ?_⟩ k wf fun c hc => ?_
  · obtain ⟨⟨_, e1⟩, ⟨_, e4, _⟩, ⟨_, e5, _⟩⟩ := st
    simp only [List.mem_cons, List.not_mem_nil, or_false] at hc
    rcases hc with rfl | rfl | rfl
    · exact ⟨_, e1⟩
    · exact ⟨_, e4⟩
    · exact ⟨_, e5⟩
  · rw [enumL_len, Nat.zero_add, ← X.length, Array.length_toList]
  · obtain ⟨p, hp, rfl⟩ := enumL_get hd
    refine ⟨_, rfl, ?_⟩
    rintro vals ⟨t, x, hx, rfl⟩
    rw [Nat.zero_add] at hx ⊢
    rw [Int.zero_add]
    exact ⟨(by show 2 ≤ lim; decide), .cons (.int _ _) (.cons ((all2_at X hp (by simpa using hx)).grow G) .nil)⟩
  · simp only [List.mem_cons, List.not_mem_nil, or_false] at hc ⊢
    rcases hc with rfl | rfl | rfl
    · simp
    · simp
    · exact .inr na
end
end Og
end
section
open PySem PySem.Calls PyProof.Rows
namespace Og
section
variable {prog : Program} {w : World} {B : Bs prog w} {n : Nat} {K : Cx} {env : Env} {hE hE' : Addr → Option Obj} {Mu Av : Addr → Prop} {own : List Addr} {A : Around} {ρ ρ' : Rho} {σ σ' : Sto} {s s' : Shared} {E : Value → Shared → Prop}
  {R : Type} {ih : Ev R}

noncomputable def SemI (prog : Program) (w : World) (e : PySem.Expr) (K : Cx) (ρ : Rho) (σ : Sto) (tup : Tm) (l : List PV) (σ' : Sto) : Prop :=
  ∀ {B : Bs prog w} {n env hE Mu A}, Pt B n K env A → ∀ {Av own s} {Q : Value → Shared → Prop} {E}, Fra B env hE Mu Av own ρ σ s →
    (∀ v Av' own' s', Stp Av own s Av' own' s' → Fra B env hE Mu Av' own' ρ σ' s' → Srcs prog w A Av' s' tup l v → Q v s') → wpAny (model prog w) A (eval e env) Q E s

noncomputable def SemJ (prog : Program) (w : World) (e : PySem.Expr) (K : Cx) (ρ : Rho) (σ : Sto) (tup : Tm) (l : List PV) (σ' : Sto) : Prop :=
  ∀ {B : Bs prog w} {n env hE Mu A}, Pt B n K env A → ∀ {Av own s} {Q : Value → Shared → Prop} {E}, Fra B env hE Mu Av own ρ σ s →
    (∀ v Av' own' s' s1, Stp Av own s Av' own' s' → Fra B env hE Mu Av' own' ρ σ' s' → SrcsAt prog w A Av' s' s1 tup l v → Q v s1) → wpAny (model prog w) A (eval e env) Q E s

noncomputable def Fit (tn : Bool) (tup : Tm) : Prop := tn = true ∧ tup = .nm ∨ tup = .both ∨ tn = false ∧ tup = .tp
theorem iterW_ok {tn : Bool} {y : W} {k : List PV → Option R} {r : R} (h : iterW tn y k = some r) : ∃ l tup, k l = some r ∧ Fit tn tup ∧ ∀ {A : Around} {Av own s v}, A.handled = .none → RepW prog w Av own s.heap v y → Srcs prog w A Av s tup l v := by
  obtain ⟨d, e, h⟩ := pureW_inv h
  subst e
  cases d with
  | tup l =>
    refine ⟨_, .both, h, .inr (.inl rfl), fun hh r => ?_⟩
    obtain ⟨a, vs, rfl, nA, hT, z, X⟩ := r.v_inv.tup_inv
    exact srcs_tup hh nA hT X
  | list l =>
    refine ⟨_, .both, h, .inr (.inl rfl), fun hh r => ?_⟩
    obtain ⟨a, vs, rfl, nA, hT, z, X⟩ := r.v_inv.list_inv
    exact srcs_list hh nA hT X
  | bytes l =>
    obtain ⟨t, h⟩ := cond_some h
    refine ⟨_, .nm, h, .inl ⟨t, rfl⟩, fun hh r => ?_⟩
    obtain ⟨b, t, rfl, z, rfl⟩ := r.v_inv.bytes_inv
    exact srcs_bytes hh
  | _ => exact none_some h
/-- a source read off -/
noncomputable def IterJ (prog : Program) (w : World) (tn : Bool) (e : PySem.Expr) (K : Cx) (ρ : Rho) (σ : Sto) (k : List PV → Sto → Option R) (r : R) : Prop :=
  plainE e = true ∧ ∃ l tup σ', k l σ' = some r ∧ Fit tn tup ∧ SemJ prog w e K ρ σ tup l σ'
theorem iterE_ok (O : Ok prog w ih) {tn : Bool} {e : PySem.Expr} {k : List PV → Sto → Option R} {r : R} (h : iterD ih tn e K ρ σ k = some r) : IterJ prog w tn e K ρ σ k r := by
  obtain ⟨pl, x1, σ1, h1, S1⟩ := O.e h
  obtain ⟨l, tup, h2, t, S2⟩ := iterW_ok (prog := prog) (w := w) h1
  exact ⟨pl, l, tup, σ1, h2, t, fun P _ _ _ _ _ F q => S1 P F fun v Av' own' s' st1 F1 r1 => q _ _ _ _ _ st1 F1 (S2 P.a.h r1)⟩

theorem bcode_at {x : Str} {c : Nat} (h : bcode x = c + 1) : bcode x ≠ 0 := by rw [h]; exact Nat.succ_ne_zero _
theorem range1_ok (O : Ok prog w ih) {tn : Bool} {f : Str} {p pos : Pos} {a : PySem.Expr} {k : List PV → Sto → Option R} {r : R} (q1 : bcode f = 10) (g1 : okN f = true) (g2 : globOk K f = true) (g3 : tn = true)
    (h : (ih.e a K ρ σ fun w σ => intW w fun n => bif tiny n then k (rangeL 0 n.toNat) σ else .none) = some r) : IterJ prog w tn (.Call (.Name f p) [a] [] pos) K ρ σ k r := by
  obtain ⟨pl, x1, σ1, h1, S1⟩ := O.e h
  obtain ⟨m, e, k1⟩ := intW_inv h1
  obtain ⟨hz, k2⟩ := cond_some k1
  subst e
  refine ⟨rfl, _, .nm, _, k2, .inl ⟨g3, rfl⟩, fun P _ _ _ _ _ F q => callName_builtin P F g1 g2 (bcode_at q1) (by rw [List.all_cons, pl]; rfl) ?_⟩
  rw [one_tree pl, q1]
  refine Calls.spliced_cons (S1 P F fun v Av' own' s' st1 F1 r1 => Calls.spliced_nil ?_)
  obtain ⟨t, rfl⟩ := r1.v_inv.int_inv
  refine call_range_1 ?_
  have k0 : ∀ b o, s'.heap.get? b = some o → (s'.heap.push { cls := .type "range", data := .fields #[.int 0 s'.toks, .int m t, .int 1 (s'.toks + 1)] }).get? b = some o := fun _ _ e => Heap.get?_push_of_some _ e
  have st2 : Stp Av' own' s' Av' own' { s' with heap := s'.heap.push { cls := .type "range", data := .fields #[.int 0 s'.toks, .int m t, .int 1 (s'.toks + 1)] }, toks := s'.toks + 1 + 1 } := Stp.ext k0
  have SR := srcs_range (prog := prog) (w := w) (Av := Av') (s := { s' with heap := s'.heap.push { cls := .type "range", data := .fields #[.int 0 s'.toks, .int m t, .int 1 (s'.toks + 1)] }, toks := s'.toks + 1 + 1 }) P.a.h (IsRange.new ..) (show tiny 0 = true by decide) hz
  rw [Int.sub_zero] at SR
  exact q _ _ _ _ _ (st1.trans st2) (F1.ext k0) SR
theorem range2_ok (O : Ok prog w ih) {tn : Bool} {f : Str} {p pos : Pos} {a b : PySem.Expr} {k : List PV → Sto → Option R} {r : R} (q1 : bcode f = 10) (g1 : okN f = true) (g2 : globOk K f = true) (g3 : tn = true)
    (h : (ih.e a K ρ σ fun w1 σ => ih.e b K ρ σ fun w2 σ => intW w1 fun m => intW w2 fun n => bif tiny m then bif tiny n then k (rangeL m (n - m).toNat) σ else .none else .none) = some r) : IterJ prog w tn (.Call (.Name f p) [a, b] [] pos) K ρ σ k r := by
  obtain ⟨pl, x1, σ1, h1, S1⟩ := O.e h
  obtain ⟨pl2, x2, σ2, h2, S2⟩ := O.e h1
  obtain ⟨m, e1, k1⟩ := intW_inv h2
  obtain ⟨m', e2, k2⟩ := intW_inv k1
  obtain ⟨hz, k3⟩ := cond_some k2
  obtain ⟨hz2, k4⟩ := cond_some k3
  subst e1 e2
  refine ⟨rfl, _, .nm, _, k4, .inl ⟨g3, rfl⟩, fun P _ _ _ _ _ F q => callName_builtin P F g1 g2 (bcode_at q1) (by rw [List.all_cons, List.all_cons, pl, pl2]; rfl) ?_⟩
  rw [two_tree pl pl2, q1]
  refine Calls.spliced_cons (S1 P F fun v Av' own' s' st1 F1 r1 => Calls.spliced_cons (S2 P F1 fun v2 Av2 own2 s2 st2 F2 r2 => Calls.spliced_nil ?_))
  obtain ⟨t, rfl⟩ := r1.v_inv.int_inv
  obtain ⟨u, rfl⟩ := r2.v_inv.int_inv
  refine call_range_2 ?_
  have k0 : ∀ b o, s2.heap.get? b = some o → (s2.heap.push { cls := .type "range", data := .fields #[.int m t, .int m' u, .int 1 s2.toks] }).get? b = some o := fun _ _ e => Heap.get?_push_of_some _ e
  have st3 : Stp Av2 own2 s2 Av2 own2 { s2 with heap := s2.heap.push { cls := .type "range", data := .fields #[.int m t, .int m' u, .int 1 s2.toks] }, toks := s2.toks + 1 } := Stp.ext k0
  exact q _ _ _ _ _ ((st1.trans st2).trans st3) (F2.ext k0) (srcs_range P.a.h (IsRange.new ..) hz hz2)
theorem zip_ok (O : Ok prog w ih) {tn : Bool} {f : Str} {p pos : Pos} {a b : PySem.Expr} {k : List PV → Sto → Option R} {r : R} (q1 : bcode f = 11) (g1 : okN f = true) (g2 : globOk K f = true) (g3 : tn = false)
    (h : (ih.e a K ρ σ fun w1 σ => ih.e b K ρ σ fun w2 σ => pureW w1 fun a => tupD a (fun x => pureW w2 fun b => tupD b (fun y => k (zipL x y) σ) .none) .none) = some r) : IterJ prog w tn (.Call (.Name f p) [a, b] [] pos) K ρ σ k r := by
  obtain ⟨pl, x1, σ1, h1, S1⟩ := O.e h
  obtain ⟨pl2, x2, σ2, h2, S2⟩ := O.e h1
  obtain ⟨d1, e1, k1⟩ := pureW_inv h2
  obtain ⟨l1, e1', k2⟩ := tupD_inv k1
  obtain ⟨d2, e2, k3⟩ := pureW_inv k2
  obtain ⟨l2, e2', k4⟩ := tupD_inv k3
  subst e1 e1' e2 e2'
  refine ⟨rfl, _, .tp, _, k4, .inr (.inr ⟨g3, rfl⟩), fun P _ _ _ _ _ F q => callName_builtin P F g1 g2 (bcode_at q1) (by rw [List.all_cons, List.all_cons, pl, pl2]; rfl) ?_⟩
  rw [two_tree pl pl2, q1]
  refine Calls.spliced_cons (S1 P F fun v Av' own' s' st1 F1 r1 => Calls.spliced_cons (S2 P F1 fun v2 Av2 own2 s2 st2 F2 r2 => Calls.spliced_nil ?_))
  obtain ⟨a1, xs, rfl, na, ha, _, X⟩ := (r1.stp st2).v_inv.tup_inv
  obtain ⟨b1, ys, rfl, nb, hb, _, Y⟩ := r2.v_inv.tup_inv
  exact srcs_zip P.a.h F2.avs na nb ha hb X Y fun v h' tk SR => q _ _ _ _ _ (st1.trans st2) F2 SR
theorem enum_ok (O : Ok prog w ih) {tn : Bool} {f : Str} {p pos : Pos} {a : PySem.Expr} {k : List PV → Sto → Option R} {r : R} (q1 : bcode f = 12) (g1 : okN f = true) (g2 : globOk K f = true) (g3 : tn = false)
    (h : (ih.e a K ρ σ fun w σ => pureW w fun d => tupD d (fun x => k (enumL 0 x) σ) .none) = some r) : IterJ prog w tn (.Call (.Name f p) [a] [] pos) K ρ σ k r := by
  obtain ⟨pl, x1, σ1, h1, S1⟩ := O.e h
  obtain ⟨d1, e1, k1⟩ := pureW_inv h1
  obtain ⟨l1, e1', k2⟩ := tupD_inv k1
  subst e1 e1'
  refine ⟨rfl, _, .tp, _, k2, .inr (.inr ⟨g3, rfl⟩), fun P _ _ _ _ _ F q => callName_builtin P F g1 g2 (bcode_at q1) (by rw [List.all_cons, pl]; rfl) ?_⟩
  rw [one_tree pl, q1]
  refine Calls.spliced_cons (S1 P F fun v Av' own' s' st1 F1 r1 => Calls.spliced_nil ?_)
  obtain ⟨a1, xs, rfl, na, ha, _, X⟩ := r1.v_inv.tup_inv
  exact srcs_enum P.a.h na ha X fun v h' tk SR => q _ _ _ _ _ st1 F1 SR

theorem src_code {ρ : Rho} {f : Str} {args : List PySem.Expr} : ∀ {c : Nat}, srcOf ρ f args = c + 1 → bcode f = (match c with | 0 => 10 | 1 => 10 | 2 => 11 | _ => 12) := by
  intro c h
  unfold srcOf at h
  cases q0 : get ρ f with
  | some _ => rw [q0] at h; cases h
  | none =>
  rw [q0] at h
  have h : (match bcode f with
    | 10 => (match sole args with | some _ => 1 | .none => bif isNo (duo args) then 0 else 2)
    | 11 => bif isNo (duo args) then 0 else 3
    | 12 => bif isNo (sole args) then 0 else 4
    | _ => 0) = c + 1 := h
  generalize bcode f = n at h
  match n, h with
  | 10, h =>
    cases q : sole args with
    | some _ => rw [q] at h; cases h; rfl
    | none =>
      rw [q] at h
      cases q2 : isNo (duo args) with
      | true => rw [q2] at h; cases h
      | false => rw [q2] at h; cases h; rfl
  | 11, h =>
    cases q2 : isNo (duo args) with
    | true => rw [q2] at h; cases h
    | false => rw [q2] at h; cases h; rfl
  | 12, h =>
    cases q2 : isNo (sole args) with
    | true => rw [q2] at h; cases h
    | false => rw [q2] at h; cases h; rfl
theorem glOk_inv {f : Str} {tn : Bool} (h : (bif glOk f K then tn else false) = true) : okN f = true ∧ globOk K f = true ∧ tn = true := by
  obtain ⟨h1, h2⟩ := bif_t h
  obtain ⟨h3, h4⟩ := bif_t h1
  exact ⟨h3, h4, h2⟩
theorem not_inv {b : Bool} (h : (!b) = true) : b = false := by cases b <;> first | rfl | exact false_ne h
theorem iterN_ok (O : Ok prog w ih) {tn : Bool} {f : Str} {p pos : Pos} {args : List PySem.Expr} {k : List PV → Sto → Option R} {r : R} : ∀ {c : Nat}, (∀ d, c = d + 1 → bcode f = (match d with | 0 => 10 | 1 => 10 | 2 => 11 | _ => 12)) → iterN ih c tn f p args pos K ρ σ k = some r → IterJ prog w tn (.Call (.Name f p) args [] pos) K ρ σ k r
  | 0, _, h => iterE_ok O h
  | 1, q, h => by
    obtain ⟨g, h⟩ := cond_some h
    obtain ⟨g1, g2, g3⟩ := glOk_inv g
    obtain ⟨a, e, h⟩ := opt_inv h
    rw [sole_inv e]
    exact range1_ok O (q 0 rfl) g1 g2 g3 h
  | 2, q, h => by
    obtain ⟨g, h⟩ := cond_some h
    obtain ⟨g1, g2, g3⟩ := glOk_inv g
    obtain ⟨a, e, h⟩ := opt_inv h
    rw [duo_inv e]
    exact range2_ok O (q 1 rfl) g1 g2 g3 h
  | 3, q, h => by
    obtain ⟨g, h⟩ := cond_some h
    obtain ⟨g1, g2, g3⟩ := glOk_inv g
    obtain ⟨a, e, h⟩ := opt_inv h
    rw [duo_inv e]
    exact zip_ok O (q 2 rfl) g1 g2 (not_inv g3) h
  | 4, q, h => by
    obtain ⟨g, h⟩ := cond_some h
    obtain ⟨g1, g2, g3⟩ := glOk_inv g
    obtain ⟨a, e, h⟩ := opt_inv h
    rw [sole_inv e]
    exact enum_ok O (q 3 rfl) g1 g2 (not_inv g3) h
  | _ + 5, _, h => none_some h
theorem iterK_ok (O : Ok prog w ih) {tn : Bool} {e : PySem.Expr} {k : List PV → Sto → Option R} {r : R} (h : iterK ih tn e K ρ σ k = some r) : IterJ prog w tn e K ρ σ k r := by
  cases e with
  | Call f args kws pos =>
    cases f with
    | Name x p =>
      obtain ⟨hk, h⟩ := cond_some (show (bif emptyL kws then iterN ih (srcOf ρ x args) tn x p args pos K ρ σ k else .none) = some r from h)
      obtain rfl := emptyL_inv hk
      exact iterN_ok O (fun _ e => src_code e) h
    | _ => exact iterE_ok O h
  | _ => exact iterE_ok O h

theorem fit_ok {t : PySem.Expr} {tup : Tm} (ht : (bif nameT t then true else tupT t) = true) (h : Fit (nameT t) tup) : tup.ok t = true := by
  cases q : nameT t with
  | true =>
    rw [q] at h
    rcases h with ⟨_, rfl⟩ | rfl | ⟨z, _⟩
    · exact q
    · show (nameT t || tupT t) = true; rw [q]; rfl
    · cases z
  | false =>
    rw [q] at ht h
    rcases h with ⟨z, _⟩ | rfl | ⟨_, rfl⟩
    · cases z
    · show (nameT t || tupT t) = true; rw [q]; exact ht
    · exact ht
theorem s_for (O : Ok prog w ih) {t it : PySem.Expr} {body : List Stmt} {pos : Pos} {k : Fl → Rho → Sto → Option R} {r : R} (h : (bif (bif nameT t then true else tupT t) then iterK ih (nameT t) it K ρ σ fun l σ => forL ih t body K l ρ σ k else .none) = some r) :
    ∃ f ρ' σ', k f ρ' σ' = some r ∧ SemS prog w (.For t it body [] pos) K ρ σ f ρ' σ' := by
  obtain ⟨ht, h⟩ := cond_some h
  obtain ⟨pl, l, tup, σ1, h1, htup, S1⟩ := iterK_ok O h
  obtain ⟨f, ρ2, σ2, h2, T⟩ := forL_tr O h1
  have hT := fit_ok ht htup
  exact ⟨_, _, _, h2, fun P fn _ _ _ _ _ F p => wpAny_For (S1 P F fun v Av' own' s' s1 st1 F1 SR => for_srcsAt P fn hT T F1 SR (p.stp st1)) (plain_set pl _)⟩
end
end Og
end
section
open PySem PySem.Calls PyProof.Rows
namespace Og
section
variable {prog : Program} {w : World} {B : Bs prog w} {n : Nat} {K : Cx} {env : Env} {hE hE' : Addr → Option Obj} {Mu Av : Addr → Prop} {own : List Addr} {A : Around} {ρ ρ' : Rho} {σ σ' : Sto} {s s' : Shared} {E : Value → Shared → Prop}
  {R : Type} {ih : Ev R}

theorem compLoop_any {elt target iter : PySem.Expr} {ifs : List PySem.Expr} {scope : Scope} {pos : Pos} {it acc : Value} {env : Env} {R : Result → Shared → Prop} (I : Nat → Shared → Prop)
    (turn : ∀ n s, I n s → wpAny (model prog w) A (pyNext it) (fun r s₁ => match r with
      | none => R (.ok .next) s₁
      | some v => wpAny (model prog w) A (letOwnedTupleGo target it v) (fun _ s₁' => wpAny (model prog w) A (assign target env v) (fun _ s₂ =>
          wpAny (model prog w) A (forIn ifs true fun c r => if r = true then do let ok ← isTrue c env (eval c env); pure (ForInStep.yield ok) else pure (ForInStep.yield r)) (fun ok s₃ =>
            if ok = true then wpAny (model prog w) A (eval elt env) (fun x s₄ =>
              wpAny (model prog w) A (call (.builtin "list.append") [acc, x]) (fun _ s₅ => ∃ m, m < n ∧ I m s₅) (notedBy (model prog w) A env fun e s' => R (.error e) s') s₄) (notedBy (model prog w) A env fun e s' => R (.error e) s') s₃
            else ∃ m, m < n ∧ I m s₃) (notedBy (model prog w) A env fun e s' => R (.error e) s') s₂) (notedBy (model prog w) A env fun e s' => R (.error e) s') s₁') (notedBy (model prog w) A env fun e s' => R (.error e) s') s₁) (notedBy (model prog w) A env fun e s' => R (.error e) s') s)
    (n : Nat) (h : I n s) : codeAny (model prog w) A (.compLoop (.ListComp elt [⟨target, iter, ifs, 0⟩] scope pos) 0 it acc env) R s := by
  refine codeAny_loop rfl I (fun n s hI => ?_) n h
  show wpAny _ A ((compTurn (.ListComp elt [⟨target, iter, ifs, 0⟩] scope pos) 0 it acc env).onRaise (fun x => do noteFrame x env; theTreesLotGoes x)) _ _ s
  refine wpAny_noted ?_
  rw [compTurn_list]
  refine wpAny_bind (wpAny_standAt (wpAny_bind (wpAny_mono (turn n s hI) (fun r s₁ h₁ => ?_) fun _ _ h' => h')))
  cases r with
  | none => exact wpAny_pure h₁
  | some v =>
    refine wpAny_bind (wpAny_mono h₁ (fun _ s₁' h₁' => ?_) fun _ _ h' => h')
    refine wpAny_bind (wpAny_mono h₁' (fun _ s₂ h₂ => wpAny_bind (wpAny_mono h₂ (fun ok s₃ h₃ => ?_) fun _ _ h' => h')) fun _ _ h' => h')
    cases ok with
    | false => exact wpAny_pure ⟨rfl, h₃⟩
    | true =>
      exact wpAny_bind (wpAny_bind (wpAny_mono h₃ (fun x s₄ h₄ => wpAny_bind (wpAny_mono h₄ (fun _ s₅ h₅ => wpAny_pure (wpAny_pure ⟨rfl, h₅⟩)) fun _ _ h' => h')) fun _ _ h' => h'))

-- the names of a comprehension
theorem relab_ok {sc : List (Str × NameKind)} {env : Env} (hk : env.scope.kind = .function) (hsc : sc = env.scope.names) : ∀ {names l : List (Str × NameKind)}, relab sc names = some l →
    l = (names.map fun (n, k) => if (k == NameKind.free && env.scope.kind == .function && env.kindOf n == some .cell) then (n, .cell) else (n, k)) ∧ (∀ x ∈ names, x.2 ≠ .cell) ∧ (∀ x, (x, NameKind.free) ∈ names → env.kindOf x = some .cell) ∧ ∀ x, (x, NameKind.cell) ∈ l → (x, NameKind.free) ∈ names
  | [], l, h => by cases h; exact ⟨rfl, (fun _ m => nomatch m), (fun _ m => nomatch m), (fun _ m => nomatch m)⟩
  | (x, k) :: r, l, h => by
    have plain : k ≠ .free → k ≠ .cell → (opt (relab sc r) fun l => some ((x, k) :: l)) = some l → l = (((x, k) :: r).map fun (n, k) => if (k == NameKind.free && env.scope.kind == .function && env.kindOf n == some .cell) then (n, .cell) else (n, k)) ∧
        (∀ y ∈ (x, k) :: r, y.2 ≠ .cell) ∧ (∀ y, (y, NameKind.free) ∈ (x, k) :: r → env.kindOf y = some .cell) ∧ ∀ y, (y, NameKind.cell) ∈ l → (y, NameKind.free) ∈ (x, k) :: r := fun n1 n2 h => by
      obtain ⟨l', q, h⟩ := opt_inv h
      cases h
      obtain ⟨i1, i2, i3, i4⟩ := relab_ok hk hsc q
      refine ⟨?_, fun y hy => ?_, fun y hy => ?_, fun y hy => ?_⟩
      · rw [List.map_cons, ← i1]
        have : (k == NameKind.free) = false := beq_eq_false_iff_ne.mpr n1
        simp [this]
      · rcases List.mem_cons.mp hy with e | hy
        · subst e; exact n2
        · exact i2 y hy
      · rcases List.mem_cons.mp hy with e | hy
        · cases e; exact absurd rfl n1
        · exact i3 y hy
      · rcases List.mem_cons.mp hy with e | hy
        · cases e; exact absurd rfl n2
        · exact .tail _ (i4 y hy)
    cases k with
    | «local» => exact plain (by decide) (by decide) h
    | globalImplicit => exact plain (by decide) (by decide) h
    | free =>
      obtain ⟨qc, h⟩ := cond_some (show (bif cellIn sc x then opt (relab sc r) fun l => some ((x, NameKind.cell) :: l) else .none) = some l from h)
      obtain ⟨l', q, h⟩ := opt_inv h
      cases h
      obtain ⟨i1, i2, i3, i4⟩ := relab_ok hk hsc q
      have kx : env.kindOf x = some .cell := by
        unfold cellIn at qc
        rw [kindIn_eq, hsc] at qc
        show env.scope.names.lookup x = _
        cases z : env.scope.names.lookup x with
        | none => rw [z] at qc; exact false_ne qc
        | some kk => rw [z] at qc; cases kk <;> first | rfl | exact false_ne qc
      refine ⟨?_, fun y hy => ?_, fun y hy => ?_, fun y hy => ?_⟩
      · rw [List.map_cons, ← i1]
        simp [hk, kx]
      · rcases List.mem_cons.mp hy with e | hy
        · subst e; exact (show NameKind.free ≠ NameKind.cell by decide)
        · exact i2 y hy
      · rcases List.mem_cons.mp hy with e | hy
        · cases e; exact kx
        · exact i3 y hy
      · rcases List.mem_cons.mp hy with e | hy
        · cases e; exact .head _
        · exact .tail _ (i4 y hy)
    | _ => exact none_some h
theorem ownB_ok : ∀ {names : List (Str × NameKind)}, ownB names = true → ∀ x k, (x, k) ∈ names → names.lookup x = some k
  | [], _, _, _, m => by cases m
  | (y, ky) :: r, h, x, k, m => by
    have h : (bif (kindIn r y).isSome then false else ownB r) = true := h
    have h' : (kindIn r y).isSome = false ∧ ownB r = true := by
      cases q : (kindIn r y).isSome with
      | true => rw [q] at h; exact false_ne h
      | false => rw [q] at h; exact ⟨rfl, h⟩
    rw [List.lookup_cons]
    rcases List.mem_cons.mp m with e | m1
    · cases e; simp
    · cases q : x == y with
      | false => exact ownB_ok h'.2 x k m1
      | true =>
        have e := eq_of_beq q
        have := ownB_ok h'.2 x k m1
        rw [kindIn_eq, ← e, this] at h'
        cases h'.1

theorem closure_go {env : Env} : ∀ (names : List (Str × NameKind)) (cs : List (Str × Addr)), (∀ x, (x, NameKind.free) ∈ names → ∃ a, env.cells.lookup x = some a) → ∃ cl,
    (forIn names cs (fun (x : Str × NameKind) (cs : List (Str × Addr)) => (if (x.2 == .free) = true then do let a ← cellOf env x.1; pure (ForInStep.yield ((x.1, a) :: cs)) else pure (ForInStep.yield cs) : Sem (ForInStep (List (Str × Addr))))) : Sem _) = pure cl ∧
    (∀ x a, (x, a) ∈ cl → (x, a) ∈ cs ∨ env.cells.lookup x = some a) ∧ (∀ p ∈ cs, p ∈ cl) ∧ ∀ x, (x, NameKind.free) ∈ names → ∃ a, (x, a) ∈ cl
  | [], cs, _ => ⟨cs, rfl, fun _ _ m => .inl m, fun _ m => m, fun _ m => by cases m⟩
  | (x, k) :: r, cs, h => by
    by_cases hk : k = .free
    · subst hk
      obtain ⟨a, ha⟩ := h x (.head _)
      obtain ⟨cl, h1, h2, h3, h4⟩ := closure_go r ((x, a) :: cs) fun y hy => h y (.tail _ hy)
      have hc : cellOf env x = pure a := by unfold cellOf; rw [ha]
      refine ⟨cl, ?_, fun y b m => ?_, fun p m => h3 p (.tail _ m), fun y m => ?_⟩
      · rw [List.forIn_cons]
        simp only [beq_self_eq_true, if_true, hc, pure_bind]
        exact h1
      · rcases h2 y b m with e | e
        · rcases List.mem_cons.mp e with e | e
          · cases e; exact .inr ha
          · exact .inl e
        · exact .inr e
      · rcases List.mem_cons.mp m with e | m
        · cases e; exact ⟨a, h3 _ (.head _)⟩
        · exact h4 y m
    · obtain ⟨cl, h1, h2, h3, h4⟩ := closure_go r cs fun y hy => h y (.tail _ hy)
      have hb : (k == NameKind.free) = false := by simpa using hk
      refine ⟨cl, ?_, h2, h3, fun y m => ?_⟩
      · rw [List.forIn_cons]
        simp only [hb, Bool.false_eq_true, if_false, pure_bind]
        exact h1
      · rcases List.mem_cons.mp m with e | m
        · cases e; exact absurd rfl hk
        · exact h4 y m
theorem lookup_of_mem {α : Type} {l : List (Str × α)} {x : Str} {a : α} (m : (x, a) ∈ l) : ∃ b, l.lookup x = some b ∧ (x, b) ∈ l := by
  induction l with
  | nil => cases m
  | cons p r ih =>
    obtain ⟨y, c⟩ := p
    rw [List.lookup_cons]
    cases q : x == y with
    | true =>
      have e := eq_of_beq q
      subst e
      exact ⟨c, rfl, .head _⟩
    | false =>
      rcases List.mem_cons.mp m with e | m
      · cases e; simp at q
      · obtain ⟨b, h1, h2⟩ := ih m
        exact ⟨b, h1, .tail _ h2⟩
theorem closure_ok {env : Env} {scope : Scope} (h : ∀ x, (x, NameKind.free) ∈ scope.names → ∃ a, env.cells.lookup x = some a) : ∃ cl, closureFor scope env = pure cl ∧ (∀ x a, cl.lookup x = some a → env.cells.lookup x = some a) ∧ ∀ x, (x, NameKind.free) ∈ scope.names → ∃ a, cl.lookup x = some a := by
  obtain ⟨cl, h1, h2, _, h4⟩ := closure_go scope.names [] h
  refine ⟨cl, ?_, fun x a e => ?_, fun x m => ?_⟩
  · unfold closureFor
    have e : (forIn scope.names ([] : List (Str × Addr)) fun x cs => match x with | (name, kind) => if (kind == NameKind.free) = true then do let __do_lift ← cellOf env name; pure (ForInStep.yield ((name, __do_lift) :: cs)) else pure (ForInStep.yield cs) : Sem _) = pure cl := h1
    first
      | (rw [e]; rfl)
      | (simp only [e]; rfl)
      | (show (forIn scope.names _ _ >>= _) = _; rw [e]; rfl)
  · rcases h2 x a (mem_of_lookup e) with m | m
    · cases m
    · exact m
  · obtain ⟨a, m⟩ := h4 x m
    obtain ⟨b, e, _⟩ := lookup_of_mem m
    exact ⟨b, e⟩
end
end Og
end
section
open PySem PySem.Calls PyProof.Rows
namespace Og
noncomputable def PureR (ρ : Rho) : Prop := ∀ x y, get ρ x = some y → ∃ d, y = W.v d
theorem PureR.upd {ρ : Rho} (h : PureR ρ) (x : Str) (d : PV) : PureR (upd ρ x (.v d)) := fun z y e => by
  rw [get_upd] at e
  split at e
  · cases e; exact ⟨d, rfl⟩
  · exact h z y e
theorem PureR.updAll : ∀ {ps : List (Str × W)} {ρ : Rho}, PureR ρ → (∀ p ∈ ps, ∃ d, p.2 = W.v d) → PureR (updAll ps ρ)
  | [], _, h, _ => h
  | (x, y) :: r, ρ, h, hp => by
    obtain ⟨d, e⟩ := hp _ (.head _)
    dsimp only at e
    subst e
    show PureR (Og.updAll r (Og.upd ρ x (.v d)))
    exact PureR.updAll (PureR.upd h x d) fun p m => hp p (List.mem_cons_of_mem _ m)
theorem bindT_names {ok : Str → Bool} {t : PySem.Expr} {d : PV} {ρ ρ' : Rho} (h0 : bindT ok t (.v d) ρ = some ρ') : ∃ ps : List (Str × W), ρ' = updAll ps ρ ∧ (∀ p ∈ ps, ok p.1 = true) ∧ ∀ p ∈ ps, ∃ d, p.2 = W.v d := by
  cases t with
  | Name x p =>
    obtain ⟨hx, h⟩ := cond_some (show (bif ok x then some (upd ρ x (.v d)) else .none) = some ρ' from h0)
    cases h
    exact ⟨[(_, .v d)], rfl, fun p m => by rw [List.mem_singleton] at m; subst m; exact hx, fun p m => by rw [List.mem_singleton] at m; subst m; exact ⟨d, rfl⟩⟩
  | Tuple ts c pos =>
    obtain ⟨l, _, h⟩ := seqD_inv (show seqD d (fun l => bindN ok ts (l.map W.v) ρ) = some ρ' from h0)
    obtain ⟨names, _, h2, h3, rfl⟩ := bindN_ok h
    refine ⟨_, rfl, fun p m => h2 _ (List.of_mem_zip m).1, fun p m => ?_⟩
    obtain ⟨d, _, e⟩ := List.mem_map.mp (List.of_mem_zip m).2
    exact ⟨d, e.symm⟩
  | _ => exact none_some h0

section
variable {prog : Program} {w : World} {B : Bs prog w} {n : Nat} {K : Cx} {env : Env} {hE hE' : Addr → Option Obj} {Mu Av Av' : Addr → Prop} {own own' : List Addr} {A : Around} {ρ ρ' : Rho} {σ σ' : Sto} {s s' : Shared} {E : Value → Shared → Prop}
  {R : Type} {ih : Ev R}

theorem Fra.weak (F : Fra B env hE Mu Av own ρ σ s) (h : ∀ x y, get ρ' x = some y → get ρ x = some y) : Fra B env hE Mu Av own ρ' σ s :=
  { F with
    vis := fun x y e => F.vis x y (h x y e)
    loc := let ⟨m, hn, hm⟩ := F.loc; ⟨m, hn, fun x y e => hm x y (h x y e)⟩
    box := fun x y e => F.box x y (h x y e) }
theorem RepW.forget {h : Heap} {v : Value} {d : PV} (r : RepW prog w Av own h v (.v d)) : RepW prog w Av own' h v (.v d) := .v r.v_inv
theorem Fra.forget (F : Fra B env hE Mu Av own ρ σ s) (hp : PureR ρ) : Fra B env hE Mu Av [] ρ [] s :=
  { base := F.base, prot := F.prot, av0 := F.av0, avs := F.avs, mu := F.mu, avL := F.avL, nwL := F.nwL, vis := F.vis,
    loc := let ⟨m, hn, hm⟩ := F.loc; ⟨m, hn, fun x y e l => by obtain ⟨d, rfl⟩ := hp x y e; obtain ⟨v, h1, h2⟩ := hm x _ e l; exact ⟨v, h1, h2.forget⟩⟩
    box := fun x y e l => by obtain ⟨d, rfl⟩ := hp x y e; obtain ⟨a, v, h1, h2, h3⟩ := F.box x _ e l; exact ⟨a, v, h1, h2, h3.forget⟩
    bxs := F.bxs, bxf := F.bxf, nd := .nil, avo := fun a m => by cases m
    cel := .nil }
theorem Stp.forget (S : Stp Av [] s Av' own' s') : Stp Av [] s Av' [] s' := ⟨S.gens, S.drawn, S.os, S.grow, [], rfl⟩

inductive Ifs (prog : Program) (w : World) : List PySem.Expr → Cx → Rho → Bool → Prop
  | nil {K : Cx} {ρ : Rho} : Ifs prog w [] K ρ true
  | yes {e r b} {K : Cx} {ρ : Rho} {σ' : Sto} : SemT prog w e K ρ [] true σ' → Ifs prog w r K ρ b → Ifs prog w (e :: r) K ρ b
  | no {e r} {K : Cx} {ρ : Rho} {σ' : Sto} : SemT prog w e K ρ [] false σ' → Ifs prog w (e :: r) K ρ false
theorem ifsT_ok (O : Ok prog w ih) : ∀ {es : List PySem.Expr} {k : Bool → Option R} {r : R}, ifsT ih K ρ es k = some r → ∃ b, k b = some r ∧ Ifs prog w es K ρ b
  | [], k, r, h => ⟨true, h, .nil⟩
  | e :: es, k, r, h => by
    obtain ⟨c, σ1, h1, S1⟩ := O.t (show (ih.t e K ρ [] fun b _ => bif b then ifsT ih K ρ es k else k false) = some r from h)
    cases c with
    | false => exact ⟨false, h1, .no S1⟩
    | true =>
      obtain ⟨b, h2, S2⟩ := ifsT_ok O h1
      exact ⟨b, h2, .yes S1 S2⟩
theorem ifs_false : ∀ (es : List PySem.Expr) {Q : Bool → Shared → Prop}, Q false s → wpAny (model prog w) A (forIn es false fun c r => if r = true then do let ok ← isTrue c env (eval c env); pure (ForInStep.yield ok) else pure (ForInStep.yield r)) Q E s
  | [], Q, q => wpAny_pure q
  | e :: es, Q, q => by
    rw [List.forIn_cons]
    simp only [Bool.false_eq_true, if_false]
    exact wpAny_bind (wpAny_pure (ifs_false es q))
theorem ifs_run (P : Pt B n K env A) (hp : PureR ρ) {es : List PySem.Expr} {b : Bool} (I : Ifs prog w es K ρ b) : ∀ {Av : Addr → Prop} {s : Shared} {Q : Bool → Shared → Prop}, Fra B env hE Mu Av [] ρ [] s →
    (∀ Av' s', Stp Av [] s Av' [] s' → Fra B env hE Mu Av' [] ρ [] s' → Q b s') → wpAny (model prog w) A (forIn es true fun c r => if r = true then do let ok ← isTrue c env (eval c env); pure (ForInStep.yield ok) else pure (ForInStep.yield r)) Q E s := by
  induction I with
  | nil => intro Av s Q F q; exact wpAny_pure (q _ _ (Stp.refl _ _ _) F)
  | yes S _ ih =>
    intro Av s Q F q
    rw [List.forIn_cons]
    simp only [if_true]
    refine wpAny_bind (wpAny_bind (S P F fun Av1 own1 s1 st1 F1 => wpAny_pure ?_))
    exact ih P hp (F1.forget hp) fun Av2 s2 st2 F2 => q _ _ (st1.forget.trans st2) F2
  | no S =>
    intro Av s Q F q
    rw [List.forIn_cons]
    simp only [if_true]
    refine wpAny_bind (wpAny_bind (S P F fun Av1 own1 s1 st1 F1 => wpAny_pure ?_))
    exact ifs_false _ (q _ _ st1.forget (F1.forget hp))

inductive CTr (prog : Program) (w : World) (t elt : PySem.Expr) (ifs : List PySem.Expr) (K : Cx) (ρ0 : Rho) : List PV → List PV → List PV → Prop
  | nil {acc} : CTr prog w t elt ifs K ρ0 [] acc acc
  | skip {d l acc res ρ'} : bindT (loOk K.sc) t (.v d) ρ0 = some ρ' → Ifs prog w ifs K ρ' false → CTr prog w t elt ifs K ρ0 l acc res → CTr prog w t elt ifs K ρ0 (d :: l) acc res
  | take {d l acc res ρ' y σ'} : bindT (loOk K.sc) t (.v d) ρ0 = some ρ' → Ifs prog w ifs K ρ' true → SemE prog w elt K ρ' [] (.v y) σ' → CTr prog w t elt ifs K ρ0 l (acc ++ [y]) res → CTr prog w t elt ifs K ρ0 (d :: l) acc res
theorem compL_tr (O : Ok prog w ih) {elt t : PySem.Expr} {ifs : List PySem.Expr} : ∀ {l acc : List PV} {k : List PV → Option R} {r : R}, compL ih elt t ifs K ρ l acc k = some r → ∃ res, k res = some r ∧ CTr prog w t elt ifs K ρ l acc res
  | [], acc, k, r, h => ⟨acc, h, .nil⟩
  | d :: l, acc, k, r, h => by
    obtain ⟨ρ', q, h⟩ := opt_inv (show (opt (bindT (loOk K.sc) t (.v d) ρ) fun ρ' => ifsT ih K ρ' ifs fun b => bif b then (ih.e elt K ρ' [] fun w _ => pureW w fun y => compL ih elt t ifs K ρ l (acc ++ [y]) k) else compL ih elt t ifs K ρ l acc k) = some r from h)
    obtain ⟨b, h1, I⟩ := ifsT_ok O h
    cases b with
    | false =>
      obtain ⟨res, h2, T⟩ := compL_tr O h1
      exact ⟨res, h2, .skip q I T⟩
    | true =>
      obtain ⟨_, x, σ1, h2, S⟩ := O.e (show (ih.e elt K ρ' [] fun w _ => pureW w fun y => compL ih elt t ifs K ρ l (acc ++ [y]) k) = some r from h1)
      obtain ⟨y, e, h3⟩ := pureW_inv h2
      subst e
      obtain ⟨res, h4, T⟩ := compL_tr O h3
      exact ⟨res, h4, .take q I S T⟩

theorem WrOk.sub {wr wr' : List Addr} (X : WrOk env hE Mu own wr') (h : ∀ b ∈ wr, b ∈ wr') : WrOk env hE Mu own wr :=
  ⟨fun b m => X.e b (h b m), fun b m => X.m b (h b m), fun m => X.l (h _ m), fun x a e m => X.c x a e (h a m), fun a m z => X.o a m (h a z)⟩

theorem comp_code {it : Value} {fp wr : List Addr} {St : (Addr → Prop) → List PV → Heap → Prop} {Mid : (Addr → Prop) → PV → List PV → Value → Heap → Prop} (TV : Trav prog w A it fp wr .both St Mid) (P : Pt B n K env A)
    {t elt iter : PySem.Expr} {ifs : List PySem.Expr} {scope : Scope} {pos : Pos} (ht : Tm.both.ok t = true) {ρ0 : Rho} (hp0 : PureR ρ0) (hc0 : ∀ x y, get ρ0 x = some y → loOk K.sc x = false) {l res : List PV} (T : CTr prog w t elt ifs K ρ0 l [] res) (hl : l.length ≤ lim)
    {D : Addr} {n0 : Nat} {R' : Result → Shared → Prop} (F : Fra B env hE (fun _ => False) Av [] ρ0 [] s) (st : St Av l s.heap) (X : WrOk env hE (fun _ => False) [] (D :: wr)) (wa : ∀ b ∈ D :: wr, Av b) (fpa : ∀ b ∈ fp, b ∈ wr ∨ ¬ Av b) (hDf : D ∉ fp)
    (hD : s.heap.get? D = some { cls := .type "list", dict := .none, data := .seq #[] n0, slots := #[] })
    (hR : ∀ Av1 s1 items nn, s1.gens = s.gens → s1.drawn = s.drawn → s1.os = s.os → (∀ b o, hE b = some o → s1.heap.get? b = some o) → (∃ m, s1.heap.Ns env.locals m) → s1.heap.get? D = some { cls := .type "list", dict := .none, data := .seq items nn, slots := #[] } → items.size ≤ lim →
      (∀ b, Av b → Av1 b) → All2 (Rep prog w Av1 s1.heap) items.toList res → R' (.ok .next) s1) :
    codeAny (model prog w) A (.compLoop (.ListComp elt [⟨t, iter, ifs, 0⟩] scope pos) 0 it (.ref D) env) R' s := by
  refine compLoop_any (fun m s' => ∃ l1 acc Av1 items nn, m = l1.length ∧ CTr prog w t elt ifs K ρ0 l1 acc res ∧ acc.length + l1.length ≤ lim ∧ Fra B env hE (fun _ => False) Av1 [] ρ0 [] s' ∧ St Av1 l1 s'.heap ∧ (∀ b ∈ D :: wr, Av1 b) ∧ (∀ b ∈ fp, b ∈ wr ∨ ¬ Av1 b) ∧
      s'.heap.get? D = some { cls := .type "list", dict := .none, data := .seq items nn, slots := #[] } ∧ All2 (Rep prog w Av1 s'.heap) items.toList acc ∧ Stp Av [] s Av1 [] s') ?_ l.length ⟨l, [], Av, #[], n0, rfl, T, by simpa using hl, F, st, wa, fpa, hD, .nil, Stp.refl _ _ _⟩
  rintro m s1 ⟨l1, acc, Av1, items, nn, rfl, T1, hz1, F1, I1, wa1, fpa1, hD1, X1, S1⟩
  have Xw : WrOk env hE (fun _ => False) [] wr := X.sub fun b m => .tail _ m
  have hDw : D ∉ wr := fun m => hDf (TV.sub D m)
  have sz : ∀ {items : Array Value} {acc : List PV} {h : Heap} {Av : Addr → Prop}, All2 (Rep prog w Av h) items.toList acc → items.size = acc.length := fun x => by rw [← x.length, Array.length_toList]
  have pure2 : ∀ {d ρ2}, bindT (loOk K.sc) t (.v d) ρ0 = some ρ2 → PureR ρ2 ∧ ∀ x y, get ρ0 x = some y → get ρ2 x = some y := fun hb => by
    obtain ⟨ps, rfl, h1, h2⟩ := bindT_names hb
    refine ⟨hp0.updAll h2, fun x y e => ?_⟩
    rw [get_updAll]
    have : ps.reverse.lookup x = .none := by
      cases q : ps.reverse.lookup x with
      | none => rfl
      | some y' =>
        have := h1 _ (List.mem_reverse.mp (mem_of_lookup q))
        rw [hc0 x y e] at this; cases this
    rw [this, e]; rfl
  have keepSt : ∀ {Av4 l2 h3 s4 ρ2}, (∀ b ∈ fp, ∃ o, h3.get? b = some o) → St Av1 l2 h3 → Fra B env (hTurn hE (D :: wr) h3) (fun _ => False) Av4 [] ρ2 [] s4 → Grow Av1 h3 Av4 s4.heap → St Av4 l2 s4.heap ∧ (∀ b ∈ fp, b ∈ wr ∨ ¬ Av4 b) := fun ex I3 F4 G => by
    refine ⟨TV.frame _ _ _ _ _ I3 (fun b hb o e => ?_) G, fun b hb => ?_⟩
    · rcases fpa1 b hb with m | m
      · exact F4.held X b (.tail _ m) o e
      · exact G.keep b o e m
    · rcases fpa1 b hb with m | m
      · exact .inl m
      · obtain ⟨o, ho⟩ := ex b hb
        exact .inr (G.off ho m)
  cases T1 with
  | nil =>
    refine TV.done Av1 s1 _ _ I1 fun h' tk k => ?_
    have G : Grow Av1 s1.heap Av1 h' := ⟨fun _ x => x, fun _ x y => absurd x y, fun b o q nb => k b o (fun m => nb (wa1 b (.tail _ m))) q⟩
    obtain ⟨mm, hn, _⟩ := F1.loc
    refine hR Av1 _ items nn S1.gens S1.drawn S1.os (fun b o e => k b o (fun m => by rw [Xw.e b m] at e; cases e) (F1.prot b o e (fun z => z))) ⟨mm, Heap.Ns.at' hn fun o e => k _ o Xw.l e⟩ (k D _ hDw hD1) (by rw [sz X1]; simpa using hz1) S1.grow.mono (X1.imp fun _ _ a => a.grow G)
  | @skip d l2 _ _ ρ2 hb IF T2 =>
    obtain ⟨hp2, hw2⟩ := pure2 hb
    refine TV.item Av1 d l2 s1 _ _ I1 (fun b m => wa1 b (.tail _ m)) F1.avs fun v h2 tk2 M2 k2 => ?_
    refine TV.go t Av1 d l2 v _ _ _ ht M2 (fun b m => wa1 b (.tail _ m)) fun h3 I3 rv k3 => ?_
    have ex3 := TV.here _ _ _ I3
    have k13 : ∀ b o, b ∉ wr → s1.heap.get? b = some o → h3.get? b = some o := fun b o nb e => k3 b o nb (k2 b o nb e)
    obtain ⟨F3, S3⟩ := F1.wrote (h' := h3) (tk := tk2) Xw (fun b m => wa1 b (.tail _ m)) k13 fun b hb => ex3 b (TV.sub b hb)
    have hD3 := k13 D _ hDw hD1
    refine assign_ok hb P P.loOk (F3.turnIn X) (.v rv) fun h4 tk4 F4 S4 => ?_
    refine ifs_run P hp2 IF F4 fun Av5 s5 S5 F5 => ?_
    rw [if_neg Bool.false_ne_true]
    have S35 := S4.trans S5
    obtain ⟨I5, fpa5⟩ := keepSt ex3 I3 F5 S35.grow
    refine ⟨l2.length, Nat.lt_succ_self _, l2, acc, Av5, items, nn, rfl, T2, by rw [List.length_cons] at hz1; omega, (F5.turnOut X.e).weak hw2, I5, fun b m => S35.grow.mono b (wa1 b m), fpa5, F5.held X D (.head _) _ hD3, X1.imp fun _ _ a => (a.grow S3.grow).grow S35.grow, (S1.trans S3).trans S35⟩
  | @take d l2 _ _ ρ2 y σ6 hb IF SE T2 =>
    obtain ⟨hp2, hw2⟩ := pure2 hb
    refine TV.item Av1 d l2 s1 _ _ I1 (fun b m => wa1 b (.tail _ m)) F1.avs fun v h2 tk2 M2 k2 => ?_
    refine TV.go t Av1 d l2 v _ _ _ ht M2 (fun b m => wa1 b (.tail _ m)) fun h3 I3 rv k3 => ?_
    have ex3 := TV.here _ _ _ I3
    have k13 : ∀ b o, b ∉ wr → s1.heap.get? b = some o → h3.get? b = some o := fun b o nb e => k3 b o nb (k2 b o nb e)
    obtain ⟨F3, S3⟩ := F1.wrote (h' := h3) (tk := tk2) Xw (fun b m => wa1 b (.tail _ m)) k13 fun b hb => ex3 b (TV.sub b hb)
    have hD3 := k13 D _ hDw hD1
    refine assign_ok hb P P.loOk (F3.turnIn X) (.v rv) fun h4 tk4 F4 S4 => ?_
    refine ifs_run P hp2 IF F4 fun Av5 s5 S5 F5 => ?_
    rw [if_pos rfl]
    refine SE P F5 fun u Av6 own6 s6 S6 F6 r6 => ?_
    have F6' := F6.forget hp2
    have S36 := (S4.trans S5).trans S6.forget
    have hD6 := F6'.held X D (.head _) _ hD3
    have X6 : All2 (Rep prog w Av6 s6.heap) items.toList acc := X1.imp fun _ _ a => (a.grow S3.grow).grow S36.grow
    obtain ⟨I6, fpa6⟩ := keepSt ex3 I3 F6' S36.grow
    have wa6 : ∀ b ∈ D :: wr, Av6 b := fun b m => S36.grow.mono b (wa1 b m)
    have hz7 : items.size ≤ sizeLine := by
      rw [sz X1]
      have : acc.length ≤ lim := by omega
      exact this
    refine wpAny_list_append_plain (hsz := hz7) ⟨nn, hD6⟩ fun h7 hp7 hs7 => ?_
    obtain ⟨n7, hD7⟩ := hp7
    have k7 : ∀ b o, b ∉ [D] → s6.heap.get? b = some o → h7.get? b = some o := fun b o nb e => hs7.extBut b o (fun z => nb (by simp [z])) e
    obtain ⟨F7, S7⟩ := (F6'.turnOut X.e).wrote (h' := h7) (tk := s6.toks) (X.sub (wr := [D]) fun b m => by rw [List.mem_singleton] at m; subst m; exact .head _) (fun b m => by rw [List.mem_singleton] at m; subst m; exact wa6 _ (.head _)) k7 fun b m => by rw [List.mem_singleton] at m; subst m; exact ⟨_, hD7⟩
    have ex6 := TV.here _ _ _ I6
    refine ⟨l2.length, Nat.lt_succ_self _, l2, acc ++ [y], Av6, items.push u, n7, rfl, T2, by rw [List.length_append, List.length_singleton]; rw [List.length_cons] at hz1; omega, F7.weak hw2,
      TV.frame _ _ _ _ _ I6 (fun b hb o e => k7 b o (fun z => by rw [List.mem_singleton] at z; subst z; exact hDf hb) e) S7.grow, wa6, fpa6, hD7, ?_, ((S1.trans S3).trans S36).trans S7⟩
    rw [Array.toList_push]
    exact (X6.imp fun _ _ a => a.grow S7.grow).append (.cons (r6.v_inv.grow S7.grow) .nil)

theorem freeOf_ok : ∀ {names : List (Str × NameKind)} {x : Str} {y : W}, get (freeOf names ρ) x = some y → (x, NameKind.cell) ∈ names ∧ get ρ x = some y ∧ ∃ d, y = .v d
  | [], x, y, e => none_some e
  | (z, kd) :: r, x, y, e => by
    have tl : get (freeOf r ρ) x = some y → (x, NameKind.cell) ∈ (z, kd) :: r ∧ get ρ x = some y ∧ ∃ d, y = .v d := fun e => by
      obtain ⟨h1, h2⟩ := freeOf_ok e
      exact ⟨.tail _ h1, h2⟩
    cases kd <;> try (exact tl e)
    have e : get (addV z (get ρ z) (freeOf r ρ)) x = some y := e
    unfold addV at e
    cases q : get ρ z with
    | none => rw [q] at e; exact tl e
    | some yy =>
      rw [q] at e
      cases yy with
      | c _ => exact tl e
      | v d =>
        have e : (bif strB z x then some (W.v d) else get (freeOf r ρ) x) = some y := e
        cases b : strB z x with
        | false => rw [b] at e; exact tl e
        | true =>
          rw [b] at e
          cases e
          have := (strB_iff _ _).mp b
          subst this
          exact ⟨.head _, q, d, rfl⟩

theorem comp_core {t elt iter : PySem.Expr} {ifs : List PySem.Expr} {scope : Scope} {pos : Pos} (ht : Tm.both.ok t = true) {sc : List (Str × NameKind)} (hsc : relab K.sc scope.names = some sc) (hkf : scope.kind = .function) (ho1 : ownB scope.names = true) (ho2 : ownB sc = true)
    {l res : List PV} (T : CTr prog w t elt ifs { K with sc := sc } (freeOf sc ρ) l [] res) (hl : l.length ≤ lim) (P : Pt B n K env A) {v : Value} {cl : List (Str × Addr)} (hcl : ∀ x a, cl.lookup x = some a → env.cells.lookup x = some a) (hcx : ∀ x, (x, NameKind.free) ∈ scope.names → ∃ a, cl.lookup x = some a)
    (F : Fra B env hE Mu Av own ρ σ s) (SR : Srcs prog w A Av s .both l v) {RR : Value → Addr → Result → Shared → Prop}
    (hRR : ∀ D C h' tk, s.heap.get? C = .none → (∃ m, h'.Ns C m) → (∀ b o, s.heap.get? b = some o → h'.get? b = some o) → Rep prog w (fun b => Av b ∨ b ∈ [C]) h' (.ref D) (.list res) → RR (.ref D) C (.ok .next) { s with heap := h', toks := tk }) :
    wpAny (model prog w) A (pyIter v) (fun it s₂ => wpAny (model prog w) A (newList []) (fun acc s₃ => wpAny (model prog w) A (newFunctionEnv scope env.globals cl [] env.qual none .none (some env)) (fun cenv s₄ =>
      codeAny (model prog w) A (.compStart (.ListComp elt [⟨t, iter, ifs, 0⟩] scope pos) 0 it acc { cenv with scope := relabel scope env }) (RR acc cenv.locals) s₄) E s₃) E s₂) E s := by
  obtain ⟨r1, r2, r3, r4⟩ := relab_ok P.x.kind P.x.sc hsc
  refine SR _ _ fun it fp wr St Mid h2 tk2 TV st2 k2 fr fpa => ?_
  refine wpAny_newObj_type (wpAny_newFunctionEnv r2 (by intro y hy; simp at hy) (fun h₁ hns₁ hsb₁ => ?_) hkf)
  dsimp only at hns₁ hsb₁ ⊢
  generalize hH2 : h2.push { cls := .type "list", dict := none, data := .seq ([] : List Value).toArray } = H2 at hns₁ hsb₁ ⊢
  have hC : H2.objs.size = h2.objs.size + 1 := by rw [← hH2, Heap.size_push]
  have hDC : h2.objs.size ≠ H2.objs.size := by rw [hC]; exact Nat.ne_of_lt (Nat.lt_succ_self _)
  have old : ∀ b o, h2.get? b = some o → h₁.get? b = some o := fun b o e => hsb₁.extBut b o (by rw [hC]; exact Nat.ne_of_lt (Nat.lt_succ_of_lt (Heap.lt_size e))) (Heap.get?_push_of_some _ (hH2 ▸ Heap.get?_push_of_some _ e))
  have hacc : h₁.get? h2.objs.size = some { cls := .type "list", dict := none, data := .seq #[], slots := #[] } := hsb₁.extBut _ _ hDC (Heap.get?_push_of_some _ (hH2 ▸ Heap.get?_push_size _ rfl))
  have fresh : ∀ {a}, h2.objs.size ≤ a → h2.get? a = none := fun {a} ha => by
    cases e : h2.get? a with
    | none => rfl
    | some o' => exact absurd (Heap.lt_size e) (Nat.not_lt.mpr ha)
  have olds : ∀ b o, s.heap.get? b = some o → h₁.get? b = some o := fun b o e => old b o (k2 b o e)
  have freshS : ∀ {a}, h2.get? a = none → s.heap.get? a = none := fun {a} e => by
    cases q : s.heap.get? a with
    | none => rfl
    | some o => have := k2 a o q; rw [e] at this; cases this
  have fD := freshS (fresh (Nat.le_refl _))
  have fC := freshS (fresh (a := H2.objs.size) (by rw [hC]; exact Nat.le_succ _))
  have exfp : ∀ b ∈ fp, ∃ o, h2.get? b = some o := TV.here _ _ _ st2
  have hDf : h2.objs.size ∉ fp := fun m => by obtain ⟨o, ho⟩ := exfp _ m; exact Nat.lt_irrefl _ (Heap.lt_size ho)
  have hCf : H2.objs.size ∉ fp := fun m => by obtain ⟨o, ho⟩ := exfp _ m; have := Heap.lt_size ho; rw [hC] at this; exact Nat.lt_irrefl _ (Nat.lt_of_succ_lt this)
  have hCex : ∃ o, h₁.get? H2.objs.size = some o := by obtain ⟨o, _, _, ho, _⟩ := hns₁; exact ⟨o, ho⟩
  -- the comprehension's frame
  let wr' := h2.objs.size :: wr
  let hE0 : Addr → Option Obj := fun b => if b ∈ H2.objs.size :: wr' then none else h₁.get? b
  let Av0 : Addr → Prop := fun b => Av b ∨ b ∈ H2.objs.size :: wr'
  have frw : ∀ b ∈ H2.objs.size :: wr', s.heap.get? b = none := fun b m => by
    rcases List.mem_cons.mp m with e | m
    · subst e; exact fC
    · rcases List.mem_cons.mp m with e | m
      · subst e; exact fD
      · exact fr b m
  have notOld : ∀ {b}, Av b → b ∉ H2.objs.size :: wr' := fun {b} a m => by obtain ⟨o, ho⟩ := F.avs b a; rw [frw b m] at ho; cases ho
  have kindC : ∀ x, Env.kindOf (compEnvC scope cl H2.objs.size env) x = sc.lookup x := fun x => by
    show (relabel scope env).names.lookup x = _
    rw [r1]; rfl
  have P' : Pt B n { K with sc := sc } (compEnvC scope cl H2.objs.size env) A := {
    k := P.k.sc sc
    a := P.a
    x := {
      kind := hkf
      glob := P.x.glob
      blt := P.x.blt
      sc := r1
      nd := fun x y a h h' => P.x.nd x y a (hcl x a h) (hcl y a h')
      bx := fun x h => hcx x (r4 x (mem_of_lookup (by rw [kindC] at h; exact h))) } }
  have hcell : ∀ x, (x, NameKind.cell) ∈ sc → env.kindOf x = some .cell := fun x m => r3 x (r4 x m)
  have G0 : Grow Av s.heap Av0 h₁ := ⟨fun _ x => .inl x, fun b x y => frw b (x.resolve_left y), fun b o e _ => olds b o e⟩
  have F0 : Fra B (compEnvC scope cl H2.objs.size env) hE0 (fun _ => False) Av0 [] (freeOf sc ρ) [] { s with heap := h₁, toks := tk2 + ([] : List (Str × Value)).length } := {
    base := fun b o q => olds b o (F.base b o q)
    prot := fun b o q _ => by
      dsimp only [hE0] at q
      split at q
      · cases q
      · exact q
    av0 := fun b q => by
      rcases q with q | q
      · exact F.av0 b q
      · cases z : B.h₀.get? b with
        | none => rfl
        | some o => have := F.base b o z; rw [frw b q] at this; cases this
    avs := fun b q => by
      rcases q with q | q
      · obtain ⟨o, ho⟩ := F.avs b q; exact ⟨o, olds b o ho⟩
      · rcases List.mem_cons.mp q with e | q
        · subst e; exact hCex
        · rcases List.mem_cons.mp q with e | q
          · subst e; exact ⟨_, hacc⟩
          · obtain ⟨o, ho⟩ := exfp b (TV.sub b q); exact ⟨o, old b o ho⟩
    mu := fun b z => z.elim
    avL := .inr (.head _)
    nwL := if_pos (List.mem_cons_self ..)
    vis := fun x y e => by
      rw [kindC]
      exact .inr (.inl (ownB_ok ho2 x _ (freeOf_ok e).1))
    loc := ⟨_, hns₁, fun x y e l => by
      rw [kindC, ownB_ok ho2 x _ (freeOf_ok e).1] at l; cases l⟩
    box := fun x y e _ => by
      obtain ⟨m, e2, d, rfl⟩ := freeOf_ok e
      obtain ⟨a, v', h1, h2', h3⟩ := F.box x _ e2 (.inl (hcell x m))
      obtain ⟨a', ha'⟩ := hcx x (r4 x m)
      have := hcl x a' ha'
      rw [h1] at this; cases this
      exact ⟨a, v', ha', h2'.keeps olds, .v (h3.v_inv.grow G0)⟩
    bxs := fun fn => by cases fn
    bxf := fun x a e => .inl (F.bxf x a (hcl x a e))
    nd := .nil
    avo := fun a m => by cases m
    cel := .nil }
  have X0 : WrOk (compEnvC scope cl H2.objs.size env) hE0 (fun _ => False) [] wr' := {
    e := fun b m => if_pos (List.mem_cons_of_mem _ m)
    m := fun b _ z => z
    l := fun m => by
      rcases List.mem_cons.mp m with e | m
      · exact hDC e.symm
      · exact hCf (TV.sub _ m)
    c := fun x a e m => notOld (F.bxf x a (hcl x a e)) (List.mem_cons_of_mem _ m)
    o := fun a m => by cases m }
  have stS : St Av0 l h₁ := by
    refine TV.frame _ _ _ _ _ st2 (fun b _ o e => old b o e) ⟨fun b x => x.imp id fun m => List.mem_cons_of_mem _ (List.mem_cons_of_mem _ m), fun b x y => ?_, fun b o e _ => old b o e⟩
    rcases x with x | x
    · exact absurd (.inl x) y
    · rcases List.mem_cons.mp x with e | x
      · subst e; exact fresh (by rw [hC]; exact Nat.le_succ _)
      · rcases List.mem_cons.mp x with e | x
        · subst e; exact fresh (Nat.le_refl _)
        · exact absurd (.inr x) y
  have loop : codeAny (model prog w) A (.compLoop (.ListComp elt [⟨t, iter, ifs, 0⟩] scope pos) 0 it (.ref h2.objs.size) (compEnvC scope cl H2.objs.size env)) (RR (.ref h2.objs.size) H2.objs.size) { s with heap := h₁, toks := tk2 + ([] : List (Str × Value)).length } := by
    refine comp_code (wr := wr) (iter := iter) (scope := scope) (pos := pos) (ρ0 := freeOf sc ρ) TV P' ht (fun x y e => (freeOf_ok e).2.2) (fun x y e => ?_) T hl F0 stS X0 (fun b m => .inr (List.mem_cons_of_mem _ m)) (fun b m => ?_) hDf hacc fun Av1 s1 items nn g1 g2 g3 hold hC1 hD1 hz1 hav X1 => ?_
    · unfold loOk
      rw [kindIn_eq, ownB_ok ho2 x _ (freeOf_ok e).1]
    · rcases fpa b m with z | z
      · exact .inl z
      · by_cases q : b ∈ wr
        · exact .inl q
        · refine .inr fun a => ?_
          rcases a with a | a
          · exact z a
          · rcases List.mem_cons.mp a with e | a
            · exact hCf (e ▸ m)
            · rcases List.mem_cons.mp a with e | a
              · exact hDf (e ▸ m)
              · exact q a
    · obtain ⟨hp1, g1', d1', t1', o1'⟩ := s1
      dsimp only at g1 g2 g3 hold hC1 hD1 X1
      subst g1 g2 g3
      refine hRR h2.objs.size H2.objs.size hp1 t1' fC hC1 (fun b o e => hold b o ?_) ?_
      · dsimp only [hE0]
        rw [if_neg fun m => by rw [frw b m] at e; cases e]
        exact olds b o e
      · refine .list (fun q => ?_) hD1 rfl rfl hz1 (RepL.of (X1.imp fun _ _ a => a.less fun b q => ?_))
        · rcases q with q | q
          · exact notOld q (List.mem_cons_of_mem _ (List.mem_cons_self ..))
          · rw [List.mem_singleton] at q; exact hDC q
        · rcases q with q | q
          · exact hav b (.inl q)
          · rw [List.mem_singleton] at q; subst q; exact hav _ (.inr (List.mem_cons_self ..))
  exact codeAny_compStart_list loop (TV.self _ _ _ _ _ stS loop)
end
end Og
end
section
open PySem PySem.Calls PyProof.Rows
namespace Og
section
variable {prog : Program} {w : World} {B : Bs prog w} {n : Nat} {K : Cx} {env : Env} {hE hE' : Addr → Option Obj} {Mu Av Av' : Addr → Prop} {own own' : List Addr} {A : Around} {ρ ρ' : Rho} {σ σ' : Sto} {s s' : Shared} {E : Value → Shared → Prop}
  {R : Type} {ih : Ev R}

noncomputable def CompI (prog : Program) (w : World) (elt t it : PySem.Expr) (ifs : List PySem.Expr) (scope : Scope) (K : Cx) (ρ : Rho) (σ : Sto) (res : List PV) (σ' : Sto) : Prop :=
  ∃ sc l, Tm.both.ok t = true ∧ relab K.sc scope.names = some sc ∧ scope.kind = .function ∧ ownB scope.names = true ∧ ownB sc = true ∧ plainE it = true ∧ l.length ≤ lim ∧ CTr prog w t elt ifs { K with sc := sc } (freeOf sc ρ) l [] res ∧
    SemI prog w it K ρ σ .both l σ'
theorem comp_parts (O : Ok prog w ih) {elt t it : PySem.Expr} {ifs : List PySem.Expr} {scope : Scope} {k : W → Sto → Option R} {r : R} (h0 : evComp ih elt t it ifs scope K ρ σ k = some r) :
    ∃ res σ', k (.v (.list res)) σ' = some r ∧ CompI prog w elt t it ifs scope K ρ σ res σ' := by
  obtain ⟨sc, q, h⟩ := opt_inv h0
  obtain ⟨hg, h⟩ := cond_some h
  obtain ⟨g1, hg⟩ := bif_t hg
  obtain ⟨g2, hg⟩ := bif_t hg
  obtain ⟨g3, g4⟩ := bif_t hg
  have hT : Tm.both.ok t = true := by
    show (nameT t || tupT t) = true
    cases z : nameT t with
    | true => rfl
    | false => rw [z] at g4; exact g4
  have hk : scope.kind = .function := by
    cases z : scope.kind <;> rw [z] at g1 <;> first | rfl | exact false_ne g1
  obtain ⟨pl, x1, σ1, h1, S1⟩ := O.e h
  obtain ⟨d, e1, h1⟩ := pureW_inv h1
  obtain ⟨l, e2, h1⟩ := seqD_inv h1
  obtain ⟨hf, h1⟩ := cond_some h1
  obtain ⟨res, h2, T⟩ := compL_tr O h1
  rw [e1] at S1
  refine ⟨res, σ1, h2, sc, _, hT, q, hk, g2, g3, pl, fits_iff hf, T, fun P _ _ _ _ _ F p => S1 P F fun v Av' own' s' st1 F1 r1 => p _ _ _ _ st1 F1 ?_⟩
  rcases e2 with e2 | e2
  · rw [e2] at r1
    obtain ⟨a, vs, rfl, nA, hT, z, X⟩ := r1.v_inv.tup_inv
    exact srcs_tup P.a.h nA hT X
  · rw [e2] at r1
    obtain ⟨a, vs, rfl, nA, hT, z, X⟩ := r1.v_inv.list_inv
    exact srcs_list P.a.h nA hT X

theorem comp_run {elt t it : PySem.Expr} {ifs : List PySem.Expr} {scope : Scope} {pos fpos : Pos} {res : List PV} (C0 : CompI prog w elt t it ifs scope K ρ σ res σ') (P : Pt B n K env A) {use : Option (Value → Sem Unit)} {Q : Value → Shared → Prop} (F : Fra B env hE Mu Av own ρ σ s)
    (q : ∀ D C Av1 own1 s1 h' tk, Stp Av own s Av1 own1 s1 → Fra B env hE Mu Av1 own1 ρ σ' s1 → s1.heap.get? C = .none → (∃ m, h'.Ns C m) → (∀ b o, s1.heap.get? b = some o → h'.get? b = some o) → Rep prog w (fun b => Av1 b ∨ b ∈ [C]) h' (.ref D) (.list res) →
      compPost (model prog w) A E use Q (.ref D) C (.ok .next) { s1 with heap := h', toks := tk }) :
    wpAny (model prog w) A (comprehension (.ListComp elt [⟨t, it, ifs, 0⟩] scope pos) scope env fpos (newList []) false (eval it env) use) Q E s := by
  obtain ⟨sc, l, hT, hsc, hk, ho1, ho2, pl, hl, T, S⟩ := C0
  obtain ⟨r1, r2, r3, r4⟩ := relab_ok P.x.kind P.x.sc hsc
  obtain ⟨cl, hcl0, hcl, hcx⟩ := closure_ok (env := env) (scope := scope) fun x m => P.x.bx x (r3 x m)
  refine wpAny_comprehension_free (e := .ListComp elt [⟨t, it, ifs, 0⟩] scope pos) (g := ⟨t, it, ifs, 0⟩) (gs := []) rfl (plain_set pl env) hcl0 hk (fun x m e => by
    obtain ⟨y, ky⟩ := x
    dsimp only at e
    subst e
    exact ownB_ok ho1 y _ m) (S P F fun v Av1 own1 s1 st1 F1 SR => ?_)
  exact comp_core (RR := fun acc C => compPost (model prog w) A E use Q acc C) hT hsc hk ho1 ho2 T hl P hcl hcx F1 SR fun D C h' tk fC hm k rv => q D C Av1 own1 s1 h' tk st1 F1 fC hm k rv

/-- the comprehension's names have gone -/
theorem Fra.gone {C : Addr} {own1 : List Addr} {Av1 : Addr → Prop} {s1 : Shared} {h' h2 : Heap} {tk : Nat} (F1 : Fra B env hE Mu Av own ρ σ s) (fC : s.heap.get? C = .none) (F2 : Fra B env hE Mu Av1 own1 ρ' σ' { s1 with heap := h' }) (S : Stp Av own s Av1 own1 { s1 with heap := h' }) (aC : Av1 C)
    (ho : WrOk env hE Mu own1 [C]) (hs : Heap.SameBut C h' h2) :
    Fra B env hE Mu (fun b => Av1 b ∧ b ∉ [C]) own1 ρ' σ' { s1 with heap := h2, toks := tk } ∧ Stp Av own s (fun b => Av1 b ∧ b ∉ [C]) own1 { s1 with heap := h2, toks := tk } ∧
      ∀ v d, Rep prog w Av1 h' v d → Rep prog w (fun b => Av1 b ∧ b ∉ [C]) h2 v d := by
  have kk : ∀ b o, b ∉ [C] → h'.get? b = some o → h2.get? b = some o := fun b o nb e => hs.extBut b o (fun z => nb (by simp [z])) e
  have wa : ∀ b ∈ [C], Av1 b := fun b mb => by rw [List.mem_singleton] at mb; subst mb; exact aC
  have F3 := F2.shed (h' := h2) (tk := tk) ho wa kk
  have G : Grow Av1 h' Av1 h2 := ⟨fun _ x => x, fun _ x y => absurd x y, fun b o e nb => kk b o (fun mb => nb (wa b mb)) e⟩
  refine ⟨F3, ⟨S.gens, S.drawn, S.os, ⟨?_, ?_, ?_⟩, S.pre⟩, fun v d rv => (rv.grow G).less fun b z => z.1⟩
  · intro b a
    refine ⟨S.grow.mono b a, ?_⟩
    intro mb
    rw [List.mem_singleton] at mb
    subst mb
    obtain ⟨o, ho⟩ := F1.avs b a
    rw [fC] at ho; cases ho
  · intro b a na
    exact S.grow.fresh b a.1 na
  · intro b o e na
    refine kk b o ?_ (S.grow.keep b o e na)
    intro mb
    rw [List.mem_singleton] at mb
    subst mb
    rw [fC] at e; cases e

theorem e_comp (O : Ok prog w ih) {elt t it : PySem.Expr} {ifs : List PySem.Expr} {scope : Scope} {pos : Pos} {k : W → Sto → Option R} {r : R} (h : evComp ih elt t it ifs scope K ρ σ k = some r) :
    ∃ y σ', k y σ' = some r ∧ SemE prog w (.ListComp elt [⟨t, it, ifs, 0⟩] scope pos) K ρ σ y σ' := by
  obtain ⟨res, σ1, h1, C0⟩ := comp_parts O h
  refine ⟨_, _, h1, fun {B n env hE Mu A} P Av own s Q E F p => ?_⟩
  rw [eval_ListComp]
  refine comp_run (use := .none) (pos := pos) C0 P F fun D C Av1 own1 s1 h' tk st1 F1 fC hm k rv => ?_
  obtain ⟨m, hn⟩ := hm
  refine ⟨m, hn, fun h2 hs => ?_⟩
  have fr : ∀ b ∈ [C], s1.heap.get? b = .none := fun b mb => by rw [List.mem_singleton] at mb; subst mb; exact fC
  obtain ⟨F2, S2⟩ := F1.grant (wr := [C]) (tk := tk) k fr fun b mb => by rw [List.mem_singleton] at mb; subst mb; obtain ⟨o, _, _, ho, _⟩ := hn; exact ⟨o, ho⟩
  obtain ⟨F3, S3, T3⟩ := F1.gone (s1 := { s1 with toks := tk }) (tk := tk) fC F2 S2 (.inr (List.mem_singleton.mpr rfl)) (F1.wrOk fr) hs
  exact p _ _ _ _ (st1.trans S3) F3 (.v (T3 _ _ rv))

theorem comp_firsts {elt t it : PySem.Expr} {ifs : List PySem.Expr} {scope : Scope} {pos : Pos} {u : Value → Sem Unit} :
    evalThenUse (.ListComp elt [⟨t, it, ifs, 0⟩] scope pos) env u = (comprehension (.ListComp elt [⟨t, it, ifs, 0⟩] scope pos) scope env (firstIterPos [⟨t, it, ifs, 0⟩] pos) (newList []) false (eval it env) (some u) >>= fun _ => pure ()) := rfl
theorem swap_comp {elt t it : PySem.Expr} {ifs : List PySem.Expr} {scope : Scope} {pos xp : Pos} {x : Str} {l : Nat} : ∃ b, swapsWith (.ListComp elt [⟨t, it, ifs, 0⟩] scope pos) (some (.Name x xp)) l env = pure b := ⟨_, rfl⟩

theorem e_compU (O : Ok prog w ih) {elt t it : PySem.Expr} {ifs : List PySem.Expr} {scope : Scope} {epos : Pos} {k : W → Sto → Option R} {r : R} (h : evComp ih elt t it ifs scope K ρ σ k = some r) :
    ∃ y σ', k y σ' = some r ∧ ∀ x xp pos, stOk K.sc x = true → SemS prog w (.Assign [.Name x xp] (.ListComp elt [⟨t, it, ifs, 0⟩] scope epos) pos) K ρ σ .next (upd ρ x y) σ' := by
  obtain ⟨res, σ1, h2, C0⟩ := comp_parts O h
  refine ⟨_, _, h2, fun x xp pos h1 => fun {B n env hE Mu A} P fn Av own s Q E F p => ?_⟩
  obtain ⟨b, hs⟩ := swap_comp (env := env) (elt := elt) (t := t) (it := it) (ifs := ifs) (scope := scope) (pos := epos) (xp := xp) (x := x) (l := pos.line)
  cases b with
  | false =>
    refine wpAny_Assign_Name ?_ hs
    rw [eval_ListComp]
    refine comp_run (use := .none) (pos := epos) C0 P F fun D C Av1 own1 s1 h' tk st1 F1 fC hm k rv => ?_
    obtain ⟨m, hn⟩ := hm
    refine ⟨m, hn, fun h2 hs => ?_⟩
    have fr : ∀ b ∈ [C], s1.heap.get? b = .none := fun b mb => by rw [List.mem_singleton] at mb; subst mb; exact fC
    obtain ⟨F2, S2⟩ := F1.grant (wr := [C]) (tk := tk) k fr fun b mb => by rw [List.mem_singleton] at mb; subst mb; obtain ⟨o, _, _, ho, _⟩ := hn; exact ⟨o, ho⟩
    obtain ⟨F3, S3, T3⟩ := F1.gone (s1 := { s1 with toks := tk }) (tk := tk) fC F2 S2 (.inr (List.mem_singleton.mpr rfl)) (F1.wrOk fr) hs
    exact store_ok P (P.stOk fn) h1 F3 (.v (T3 _ _ rv)) fun h' tk F4 st4 => p _ _ _ _ ((st1.trans S3).trans st4) F4 .next
  | true =>
    rw [exec_Assign_Name_used _ _ _ _ hs, comp_firsts]
    refine wpAny_bind (wpAny_standAt (wpAny_bind (wpAny_bind ?_)))
    refine comp_run (Q := fun _ s' => wpAny (model prog w) A (pure ()) (fun _ s'' => wpAny (model prog w) A (pure Flow.next) Q E s'') E s') (use := some (assign (.Name x xp) env)) (pos := epos) C0 P F fun D C Av1 own1 s1 h' tk st1 F1 fC hm k rv => ?_
    have fr : ∀ b ∈ [C], s1.heap.get? b = .none := fun b mb => by rw [List.mem_singleton] at mb; subst mb; exact fC
    obtain ⟨m, hn⟩ := hm
    obtain ⟨F2, S2⟩ := F1.grant (wr := [C]) (tk := tk) k fr fun b mb => by rw [List.mem_singleton] at mb; subst mb; obtain ⟨o, _, _, ho, _⟩ := hn; exact ⟨o, ho⟩
    have X := F1.wrOk fr
    show wpAny _ _ (assign (.Name x xp) env (.ref D)) _ _ _
    refine assign_Name (store_ok P (P.stOk fn) h1 (F2.turnIn (wr := [C]) X) (.v rv) fun h3 tk3 F3 S3 => ?_)
    have hC3 : ∀ o, h'.get? C = some o → h3.get? C = some o := fun o e => F3.held X C (List.mem_singleton.mpr rfl) o e
    refine ⟨m, Heap.Ns.at' hn hC3, fun h4 hs4 => ?_⟩
    have F3' := F3.turnOut (X.e)
    obtain ⟨F4, S4, _⟩ := F1.gone (s1 := { s1 with toks := tk3 }) (tk := tk3) fC F3' (S2.trans S3) (.inr (List.mem_singleton.mpr rfl)) X hs4
    exact wpAny_pure (wpAny_pure (p _ _ _ _ (st1.trans S4) F4 .next))

theorem comp_shape {elt : PySem.Expr} {gens : List Comprehension} {scope : Scope} {pos : Pos} {k : W → Sto → Option R} {r : R} (h0 : stepE ih (.ListComp elt gens scope pos) K ρ σ k = some r) : ∃ t it ifs, gens = [⟨t, it, ifs, 0⟩] ∧ evComp ih elt t it ifs scope K ρ σ k = some r := by
  obtain ⟨g, e, h⟩ := opt_inv (show (opt (sole gens) fun g => bif W.Z.eqB g.is_async 0 then evComp ih elt g.target g.iter g.ifs scope K ρ σ k else .none) = some r from h0)
  obtain ⟨z, h⟩ := cond_some h
  obtain ⟨t, it, ifs, a⟩ := g
  have z := (W.Z.eqB_iff _ _).mp z
  dsimp only at z
  subst z
  exact ⟨t, it, ifs, sole_inv e, h⟩
theorem call_ok (O : Ok prog w ih) {f : PySem.Expr} {args : List PySem.Expr} {kws : List Keyword} {pos : Pos} {k : W → Sto → Option R} {r : R} (h0 : stepE ih (.Call f args kws pos) K ρ σ k = some r) : ∃ x σ', k x σ' = some r ∧ SemE prog w (.Call f args kws pos) K ρ σ x σ' := by
  obtain ⟨hk, h⟩ := cond_some (show (bif emptyL kws then (match (generalizing := false) f with
    | .Attribute o name apos => bif Nat.beq apos.endLine pos.line then evMeth ih o name args K ρ σ k else .none
    | .Name x _ => evCall ih x args K ρ σ k
    | _ => .none) else .none) = some r from h0)
  obtain rfl := emptyL_inv hk
  cases f with
  | Attribute o name apos => exact e_method O h
  | Name x p => exact e_callName O h
  | _ => exact none_some h
theorem ok_e (O : Ok prog w ih) {e : PySem.Expr} {k : W → Sto → Option R} {r : R} (h : stepE ih e K ρ σ k = some r) : plainE e = true ∧ ∃ x σ', k x σ' = some r ∧ SemE prog w e K ρ σ x σ' := by
  cases e with
  | Constant c kd pos => exact ⟨rfl, e_const h⟩
  | Name x pos => exact ⟨rfl, e_name h⟩
  | BinOp l op r pos => exact ⟨rfl, e_bin O h⟩
  | UnaryOp op x pos => exact ⟨rfl, e_un O h⟩
  | IfExp t a b pos => exact ⟨rfl, e_if O h⟩
  | Tuple es c pos => exact ⟨rfl, e_tuple O h⟩
  | List es pos => exact ⟨rfl, e_list O h⟩
  | Compare l ops rs pos => exact ⟨rfl, e_cmp O h⟩
  | Dict ks vs pos => exact ⟨rfl, e_dict O h⟩
  | Subscript v i pos => exact ⟨rfl, e_sub O h⟩
  | Call f args kws pos => exact ⟨rfl, call_ok O h⟩
  | ListComp elt gens scope pos =>
    obtain ⟨t, it, ifs, e, h⟩ := comp_shape h
    rw [e]
    exact ⟨rfl, e_comp O h⟩
  | _ => exact none_some h
theorem ok_c (O : Ok prog w ih) {e : PySem.Expr} {k : W → Sto → Option R} {r : R} (h : stepE ih e K ρ σ k = some r) (hc : compE e = true) :
    ∃ x σ', k x σ' = some r ∧ ∀ y xp pos, stOk K.sc y = true → SemS prog w (.Assign [.Name y xp] e pos) K ρ σ .next (upd ρ y x) σ' := by
  cases e with
  | ListComp elt gens scope pos =>
    obtain ⟨t, it, ifs, e, h⟩ := comp_shape h
    rw [e]
    exact e_compU O h
  | _ => first | exact false_ne hc | exact none_some h
theorem ok_s (O : Ok prog w ih) {st : Stmt} {k : Fl → Rho → Sto → Option R} {r : R} (h : stepS ih st K ρ σ k = some r) : ∃ f ρ' σ', k f ρ' σ' = some r ∧ SemS prog w st K ρ σ f ρ' σ' := by
  cases st with
  | Return e pos => exact s_ret O h
  | Assign ts v pos => exact s_assign O h
  | AugAssign t op v pos =>
    cases t with
    | Name x xp => exact s_aug O h
    | _ => exact none_some h
  | Expr v pos => exact s_expr O h
  | If t a b pos => exact s_if O h
  | While t body el pos =>
    obtain ⟨hk, h'⟩ := cond_some (show (bif emptyL el then whL ih t body K ifsN ρ σ k else .none) = some r from h)
    rw [emptyL_inv hk]
    exact s_while O h'
  | For t it body el pos =>
    obtain ⟨hk, h'⟩ := cond_some (show (bif emptyL el then (bif (bif nameT t then true else tupT t) then iterK ih (nameT t) it K ρ σ fun l σ => forL ih t body K l ρ σ k else .none) else .none) = some r from h)
    rw [emptyL_inv hk]
    exact s_for O h'
  | _ => exact none_some h
theorem ok_step (O : Ok prog w ih) : Ok prog w (step ih) := ⟨fun h => ok_e O h, fun h => t_ok O h, fun h hc => ok_c O h hc, fun h => ok_s O h⟩
theorem ok_bot : Ok prog w (bot : Ev R) := ⟨fun h => none_some h, fun h => none_some h, fun h _ => none_some h, fun h => none_some h⟩
theorem ok_ev : ∀ m : Nat, Ok prog w (ev m : Ev R)
  | 0 => ok_bot
  | m + 1 => ok_step (ok_ev m)
end
end Og
end
section
open PySem PySem.Calls PyProof.Rows
namespace Og

/-- a def of the text, as it lies in the heap -/
structure IsDef {prog : Program} {w : World} (B : Bs prog w) (fd : FuncData) (params : List Str) (body : List Stmt) (sc : List (Str × NameKind)) : Prop where
  gl : fd.globals = mainGlobals
  bl : fd.builtins = builtinsNs
  cl : fd.closure = []
  kd : fd.scope.kind = .function
  co : fd.scope.isCoroutine = false
  ge : fd.scope.isGenerator = false
  bd : fd.body = .stmts body
  cd : B.h₀.CodeRec fd.code fd.qualname
  nm : fd.scope.names = sc
  pk : ∀ p ∈ params, sc.lookup p = some .local ∨ sc.lookup p = some .cell
  bi : ∀ (s : Shared) vs, (∀ b o, B.h₀.get? b = some o → s.heap.get? b = some o) → vs.length = params.length → BindsTo s fd ⟨vs, []⟩ (params.zip vs)
noncomputable def DefAt {prog : Program} {w : World} (B : Bs prog w) (f : Str) (params : List Str) (body : List Stmt) (sc : List (Str × NameKind)) : Prop :=
  ∃ a o fd, B.mg f = some (.ref a) ∧ B.h₀.get? a = some o ∧ o.data = .func fd ∧ IsDef B fd params body sc

theorem cellsFrom_acc {x : Str} : ∀ (names : List (Str × NameKind)) (n : Nat) (acc : List (Str × Addr)), (acc.lookup x).isSome = true → ((cellsFrom n names acc).lookup x).isSome = true
  | [], _, _, h => h
  | (y, k) :: r, n, acc, h => by
    unfold cellsFrom
    split
    · refine cellsFrom_acc r _ _ ?_
      rw [List.lookup_cons]
      cases x == y with
      | true => rfl
      | false => exact h
    · exact cellsFrom_acc r _ _ h
theorem cellsFrom_some {x : Str} : ∀ (names : List (Str × NameKind)) (n : Nat) (acc : List (Str × Addr)), (x, NameKind.cell) ∈ names → ((cellsFrom n names acc).lookup x).isSome = true
  | (y, k) :: r, n, acc, h => by
    unfold cellsFrom
    rcases List.mem_cons.mp h with e | h
    · cases e
      rw [if_pos (by rfl)]
      refine cellsFrom_acc r _ _ ?_
      rw [List.lookup_cons]
      simp
    · split
      · exact cellsFrom_some r _ _ h
      · exact cellsFrom_some r _ _ h

section
variable {prog : Program} {w : World} {B : Bs prog w} {n : Nat} {K : Cx} {A : Around} {Av : Addr → Prop} {own : List Addr} {ρ : Rho} {σ : Sto}

noncomputable def ArgInv (prog : Program) (w : World) (Av : Addr → Prop) (own : List Addr) (h : Heap) (kindOf : Str → Option NameKind) (ρ : Rho) (m cm : Str → Option Value) : Prop :=
  ∀ x y, get ρ x = some y → (kindOf x = some .local ∨ kindOf x = some .cell) ∧ (kindOf x = some .local → ∃ v, m x = some v ∧ RepW prog w Av own h v y) ∧ (kindOf x ≠ some .local → ∃ v, cm x = some v ∧ RepW prog w Av own h v y)
theorem args_inv {h : Heap} {kindOf : Str → Option NameKind} : ∀ {params : List Str} {vs : List Value} {ws : List W} {ρ ρ' : Rho} {m cm : Str → Option Value}, (∀ p ∈ params, kindOf p = some .local ∨ kindOf p = some .cell) →
    All2 (RepW prog w Av own h) vs ws → bindA params ws ρ = some ρ' → ArgInv prog w Av own h kindOf ρ m cm → ArgInv prog w Av own h kindOf ρ' (bindL kindOf (params.zip vs) m) (bindC kindOf (params.zip vs) cm)
  | [], _, _, ρ, ρ', m, cm, hp, r, e, I => by
    cases r with
    | nil => cases e; exact I
    | cons _ _ => exact none_some e
  | p :: ps, _, _, ρ, ρ', m, cm, hp, r, e, I => by
    cases r with
    | nil => exact none_some e
    | @cons v y vs ws r1 r2 =>
      have e : bindA ps ws (upd ρ p y) = some ρ' := e
      rw [List.zip_cons_cons]
      unfold bindL bindC
      refine args_inv (fun q hq => hp q (.tail _ hq)) r2 e ?_
      intro x z hz
      rw [get_upd] at hz
      by_cases hx : x = p
      · subst hx
        rw [if_pos rfl] at hz
        cases hz
        refine ⟨hp x (.head _), fun hl => ?_, fun hl => ?_⟩
        · rw [if_pos hl]; exact ⟨v, if_pos rfl, r1⟩
        · rw [if_neg hl]; exact ⟨v, if_pos rfl, r1⟩
      · rw [if_neg hx] at hz
        obtain ⟨i1, i2, i3⟩ := I x z hz
        refine ⟨i1, fun hl => ?_, fun hl => ?_⟩
        · obtain ⟨u, h1, h2⟩ := i2 hl
          refine ⟨u, ?_, h2⟩
          by_cases hq : kindOf p = some .local
          · rw [if_pos hq]; exact (if_neg hx).trans h1
          · rw [if_neg hq]; exact h1
        · obtain ⟨u, h1, h2⟩ := i3 hl
          refine ⟨u, ?_, h2⟩
          by_cases hq : kindOf p = some .local
          · rw [if_pos hq]; exact h1
          · rw [if_neg hq]; exact (if_neg hx).trans h1
theorem bindA_len : ∀ {ps : List Str} {ws : List W} {ρ ρ' : Rho}, bindA ps ws ρ = some ρ' → ps.length = ws.length
  | [], ws, _, _, h => by
    cases ws with
    | nil => rfl
    | cons _ _ => exact none_some h
  | p :: ps, ws, ρ, ρ', h => by
    cases ws with
    | nil => exact none_some h
    | cons w ws => exact congrArg (· + 1) (bindA_len (show bindA ps ws (upd ρ p w) = some ρ' from h))

theorem call_gen {s : Shared} {fd : FuncData} {params : List Str} {body : List Stmt} {a : Addr} {o : Obj} {vs : List Value} {ws : List W} {f : Fl} {ρ' : Rho} {σ' : Sto} {R' : Result → Shared → Prop}
    (D : IsDef B fd params body K.sc) (ho : B.h₀.get? a = some o) (hd : o.data = .func fd) (KO : KOk B n K) (AO : AOk A (n + 1))
    (base : ∀ b o, B.h₀.get? b = some o → s.heap.get? b = some o) (av0 : ∀ b, Av b → B.h₀.get? b = .none) (avs : ∀ b, Av b → ∃ o, s.heap.get? b = some o) (nd : own.Nodup) (ao : ∀ b ∈ own, Av b)
    (cel : All2 (CellIs prog w Av own s.heap) own σ) (args : All2 (RepW prog w Av own s.heap) vs ws) (hb : bindA params ws (blank K.sc) = some ρ) (S : SemSS prog w body K ρ σ f ρ' σ')
    (q : ∀ fl env Av' own' s', Stp Av own s Av' own' s' → Fra B env s.heap.get? (· ∈ own) Av' own' ρ' σ' s' → RepF prog w Av' own' s'.heap fl f → R' (.ok (.ret (match fl with | .ret v => v | _ => .none))) s') :
    codeAny (model prog w) A (.call (.ref a) ⟨vs, []⟩) R' s := by
  have hlen : vs.length = params.length := by rw [args.length, bindA_len hb]
  have kk : ∀ x, (callEnvC fd s.heap.objs.size a).kindOf x = K.sc.lookup x := fun x => by rw [← D.nm]; rfl
  have hin : ∀ x ∈ params.zip vs, K.sc.lookup x.1 = some .local ∨ K.sc.lookup x.1 = some .cell := fun x hx => D.pk _ (List.of_mem_zip hx).1
  refine codeAny_call_function (by have := AO.d; unfold recursionLimit; omega) (base _ _ ho) hd D.co D.ge D.bd (D.cd.keeps base) (D.bi s vs base hlen _ _ _ _ ?_)
  rw [D.cl]
  refine wpAny_newFunctionEnv_cells D.kd (fun x hx => ?_) (fun env he s₁ X => ?_)
  · rw [D.nm]
    rcases hin x hx with h | h
    · exact .inl h
    · exact .inr ⟨h, cellsFrom_some _ _ _ (PySem.mem_of_lookup h)⟩
  have he : env = callEnvC fd s.heap.objs.size a := he
  subst he
  refine ⟨(B.lim.keeps base).keeps X.toInCall.keep, codeAny_func ?_⟩
  obtain ⟨h₁, tk, e1, k1⟩ := X.done
  have hs : s₁.heap = h₁ := by rw [e1]
  have kp := X.toInCall.keep
  have fresh : ∀ {b}, s.heap.objs.size ≤ b → s.heap.get? b = .none := fun {b} hb => by
    cases q : s.heap.get? b with
    | none => rfl
    | some o => exact absurd (Heap.lt_size q) (Nat.not_lt.mpr hb)
  have G : Grow Av s.heap (fun b => Av b ∨ (s.heap.get? b = .none ∧ ∃ o, s₁.heap.get? b = some o)) s₁.heap :=
    ⟨fun _ x => .inl x, fun b x y => (by rcases x with x | x; · { exact absurd x y }; · { exact x.1 }), fun b o e _ => kp b o e⟩
  have I := args_inv (m := fun _ => .none) (cm := fun _ => .none) (kindOf := (callEnvC fd s.heap.objs.size a).kindOf) (fun p hp => by rw [kk]; exact D.pk p hp) args hb (fun x y h => by rw [get_blank] at h; cases h)
  have hL : s.heap.get? (callEnvC fd s.heap.objs.size a).locals = .none := fresh (Nat.le_refl _)
  have hcell : ∀ x c, (callEnvC fd s.heap.objs.size a).cells.lookup x = some c → s.heap.get? c = .none := fun x c h => fresh (Nat.le_of_lt (X.above x c (PySem.mem_of_lookup h)))
  have hcs : ∀ x, (callEnvC fd s.heap.objs.size a).kindOf x = some .cell → ∃ c, (callEnvC fd s.heap.objs.size a).cells.lookup x = some c := fun x h => by
    rw [kk] at h
    exact Option.isSome_iff_exists.mp (cellsFrom_some _ _ _ (by rw [D.nm]; exact PySem.mem_of_lookup h))
  have F : Fra B (callEnvC fd s.heap.objs.size a) s.heap.get? (· ∈ own) (fun b => Av b ∨ (s.heap.get? b = .none ∧ ∃ o, s₁.heap.get? b = some o)) own ρ σ s₁ :=
    { base := fun b o e => kp b o (base b o e), prot := fun b o e _ => kp b o e,
      av0 := fun b x => by
        rcases x with x | x
        · exact av0 b x
        · cases z : B.h₀.get? b with
          | none => rfl
          | some o => have := base b o z; rw [x.1] at this; cases this
      avs := fun b x => by
        rcases x with x | x
        · obtain ⟨o, ho⟩ := avs b x; exact ⟨o, kp b o ho⟩
        · exact x.2
      mu := fun b x => .inl (ao b x)
      avL := .inr ⟨hL, by obtain ⟨o, _, _, ho, _⟩ := X.toInCall.ns; exact ⟨o, ho⟩⟩
      nwL := hL
      vis := fun x y h => (I x y h).1.elim .inl fun h => .inr (.inl h)
      loc := ⟨_, X.toInCall.ns, fun x y h l => let ⟨v, h1, h2⟩ := (I x y h).2.1 l; ⟨v, h1, h2.grow0 G⟩⟩
      box := fun x y h l => by
        obtain ⟨i1, _, i3⟩ := I x y h
        have nl : (callEnvC fd s.heap.objs.size a).kindOf x ≠ some .local := by rcases l with l | l <;> rw [l] <;> decide
        obtain ⟨v, h1, h2⟩ := i3 nl
        have lc : (callEnvC fd s.heap.objs.size a).kindOf x = some .cell := i1.resolve_left nl
        obtain ⟨c, hc⟩ := hcs x lc
        exact ⟨c, v, hc, by rw [← h1]; exact X.cell x c hc, h2.grow0 G⟩
      bxs := fun _ x l => by
        obtain ⟨c, hc⟩ := hcs x l
        have := X.cell x c hc
        exact ⟨c, _, hc, this, .inr ⟨hcell x c hc, by obtain ⟨o, ho, _⟩ := this; exact ⟨o, ho⟩⟩, hcell x c hc⟩
      bxf := fun x c hc => .inr ⟨hcell x c hc, by obtain ⟨o, ho, _⟩ := X.cell x c hc; exact ⟨o, ho⟩⟩
      nd := nd
      avo := fun b hb => ⟨.inl (ao b hb), .inr hb⟩
      cel := cel.imp fun b ws z => by simpa using z.grow (ext := []) G (kp b) }
  have X0 : EnvOk (callEnvC fd s.heap.objs.size a) K :=
    { kind := D.kd, glob := D.gl, blt := D.bl, sc := D.nm.symm, nd := fun x y c h1 h2 => name_of_addr X.apart (PySem.mem_of_lookup h1) (PySem.mem_of_lookup h2), bx := hcs }
  have st : Stp Av own s (fun b => Av b ∨ (s.heap.get? b = .none ∧ ∃ o, s₁.heap.get? b = some o)) own s₁ :=
    ⟨by rw [e1], by rw [e1], by rw [e1], G, [], by simp⟩
  exact S ⟨KO, X0, AO.deeper _⟩ rfl F fun fl Av' own' s' st1 F1 r1 => q fl _ _ _ _ (st.trans st1) F1 r1

theorem shared_of {s s' : Shared} {own' : List Addr} {Av' : Addr → Prop} (st : Stp Av own s Av' own' s') : s' = { s with heap := s'.heap, toks := s'.toks } := by
  obtain ⟨h, g, d, t, o⟩ := s
  obtain ⟨h', g', d', t', o'⟩ := s'
  obtain ⟨e1, e2, e3, _, _⟩ := st
  dsimp only at e1 e2 e3
  subst e1 e2 e3
  rfl

/-- what turned is still, for who does not know it -/
theorem fz1_ok {Av' : Addr → Prop} {h : Heap} {v : Value} {x : W} {d : PV} (le : ∀ b, Av b → Av' b) (no : ∀ b ∈ own, ¬ Av b) (cel : All2 (CellIs prog w Av' own h) own σ) (r : RepW prog w Av' own h v x) (e : fz1 σ x = some d) : Rep prog w Av h v d := by
  cases r with
  | v r => cases e; exact r.less le
  | @c i a hi =>
    obtain ⟨l, q, e⟩ := opt_inv (show (opt σ[i]? fun l => opt (allV l) fun ds => some (.list ds)) = some d from e)
    obtain ⟨ds, q2, e⟩ := opt_inv e
    cases e
    obtain ⟨a', h1, vs, n, ho, z, X⟩ := cel.get q
    rw [hi] at h1
    cases h1
    exact .list (no _ (List.mem_of_getElem? hi)) ho rfl rfl z (RepL.of ((allV_all2 X q2).imp fun _ _ r => r.less le))
theorem fzL_ok {Av' : Addr → Prop} {h : Heap} (le : ∀ b, Av b → Av' b) (no : ∀ b ∈ own, ¬ Av b) (cel : All2 (CellIs prog w Av' own h) own σ) {vs : List Value} {xs : List W} (r : All2 (RepW prog w Av' own h) vs xs) : ∀ {ds : List PV}, fzL σ xs = some ds → All2 (Rep prog w Av h) vs ds := by
  induction r with
  | nil => intro ds e; cases e; exact .nil
  | @cons v x _ xs a _ ih =>
    intro ds e
    obtain ⟨d, e1, e⟩ := opt_inv (show (opt (fz1 σ x) fun d => opt (fzL σ xs) fun l => some (d :: l)) = some ds from e)
    obtain ⟨l, e2, e⟩ := opt_inv e
    cases e
    exact .cons (fz1_ok le no cel a e1) (ih e2)
theorem fz_ok {Av' : Addr → Prop} {h : Heap} {v : Value} {x : W} {d : PV} (le : ∀ b, Av b → Av' b) (no : ∀ b ∈ own, ¬ Av b) (cel : All2 (CellIs prog w Av' own h) own σ) (r : RepW prog w Av' own h v x) (e : fz σ x = some d) : Rep prog w Av h v d := by
  cases r with
  | v r => cases e; exact r.less le
  | @c i a hi =>
    obtain ⟨l, q, e⟩ := opt_inv (show (opt σ[i]? fun l => opt (fzL σ l) fun ds => some (.list ds)) = some d from e)
    obtain ⟨ds, q2, e⟩ := opt_inv e
    cases e
    obtain ⟨a', h1, vs, n, ho, z, X⟩ := cel.get q
    rw [hi] at h1
    cases h1
    exact .list (no _ (List.mem_of_getElem? hi)) ho rfl rfl z (RepL.of (fzL_ok le no cel X q2))

theorem lift_v {h : Heap} {vs : List Value} {ds : List PV} (r : All2 (Rep prog w Av h) vs ds) : All2 (RepW prog w Av own h) vs (ds.map W.v) := by
  induction r with
  | nil => exact .nil
  | cons r _ ih => exact .cons (.v r) ih
theorem fn_ok {f : Str} {params : List Str} {body : List Stmt} {g : List PV → Option PV} (D : DefAt B f params body K.sc) (KO : KOk B n K) (hg : ∀ ds d, g ds = some d → runF K params body ds = some d) : FnOk B (n + 1) f g := by
  obtain ⟨a, o, fd, h1, h2, h3, D⟩ := D
  refine ⟨a, o, fd, h1, h2, h3, fun A s Av vs ds d R' AO base av0 avs args e q => ?_⟩
  have e := hg ds d e
  obtain ⟨ρ, hb, e⟩ := opt_inv e
  obtain ⟨fl, ρ', σ', e1, S⟩ := evS_ok (prog := prog) (w := w) (ok_ev 40) e
  have args' : All2 (RepW prog w Av [] s.heap) vs (ds.map W.v) := lift_v args
  refine call_gen D h2 h3 KO AO base av0 avs .nil (fun _ h => by cases h) .nil args' hb S fun fv env Av' own' s' st F r => ?_
  rw [shared_of st]
  have le : ∀ b, Av b → Av' b := st.grow.mono
  have no : ∀ b ∈ own', ¬ Av b := fun b hb ab => by
    rcases (F.avo b hb).2 with z | z
    · obtain ⟨o, ho⟩ := avs b ab
      rw [ho] at z; cases z
    · cases z
  refine q _ _ _ (fun b o e => F.prot b o e (by intro z; cases z)) ?_
  cases r with
  | next => cases e1; exact .none
  | ret r => exact fz_ok le no F.cel r e1

theorem fc_ok {f : Str} {params : List Str} {body : List Stmt} {g : List W → Sto → Option (PV × Sto)} (D : DefAt B f params body K.sc) (KO : KOk B n K) (hg : ∀ ws σ r, g ws σ = some r → runC K params body ws σ = some r) : FcOk B (n + 1) f g := by
  obtain ⟨a, o, fd, h1, h2, h3, D⟩ := D
  refine ⟨a, o, fd, h1, h2, h3, fun A s Av own vs ws σ σ1 d R' AO base av0 avs nd ao cel args e q => ?_⟩
  have e := hg ws σ _ e
  obtain ⟨ρ, hb, e⟩ := opt_inv e
  obtain ⟨fl, ρ', σ', e1, S⟩ := evS_ok (prog := prog) (w := w) (ok_ev 40) e
  refine call_gen D h2 h3 KO AO base av0 avs nd ao cel args hb S fun fv env Av' own' s' st F r => ?_
  rw [shared_of st]
  have le : ∀ b, Av b → Av' b := st.grow.mono
  cases r with
  | next => cases e1
  | @ret v x r =>
    cases r with
    | c _ => cases e1
    | @v _ d' r =>
    dsimp only at e1
    obtain ⟨hl, e1⟩ := cond_some e1
    cases e1
    have hl := Nat.eq_of_beq_eq_true hl
    obtain ⟨ext, he⟩ := st.pre
    have hx : ext = [] := by
      have a1 := F.cel.length
      have a2 := cel.length
      rw [he, List.length_append] at a1
      exact List.length_eq_zero_iff.mp (by omega)
    subst hx
    rw [List.append_nil] at he
    subst he
    refine q _ _ _ (fun b o nb e => F.prot b o e nb) (F.cel.imp fun b ws z => ?_) (r.less le)
    obtain ⟨vs, n, ho, z, X⟩ := z
    refine ⟨vs, n, ho, z, X.imp fun v y r => ?_⟩
    cases r with
    | v r => exact .v (r.less le)
    | c e => exact .c e
end
end Og
end
section
open PySem
namespace Og
structure FD where
  ps : List Str
  body : List Stmt
  sc : List (Str × NameKind)
noncomputable def fdOf : List Stmt → Str → FD
  | [], _ => ⟨[], [], []⟩
  | .FunctionDef n a b _ _ _ s _ _ _ :: r, x => bif strB n x then ⟨a.args.map (·.arg), b, s.names⟩ else fdOf r x
  | _ :: r, x => fdOf r x
noncomputable def P (x : String) : FD := fdOf PySem.Challenge.pw_og0253_01.main.body (Str.ofString x)
noncomputable def bnd {α β : Type} (o : Option α) (f : α → Option β) : Option β := match o with | some x => f x | .none => .none
theorem bnd_some {α β : Type} (x : α) (f : α → Option β) : bnd (some x) f = f x := rfl
abbrev Fn := List PV → Option PV
abbrev Fc := List W → Sto → Option (PV × Sto)
noncomputable def tabS {α : Type} : List (String × α) → Str → Option α
  | [], _ => .none
  | (y, w) :: r, x => bif strB x (Str.ofString y) then some w else tabS r x
noncomputable def consts : List (String × PV) :=
  [("BOLD", .int 1), ("FAINT", .int 2), ("ITALIC", .int 4), ("BLINK", .int 8), ("FAST", .int 16), ("INVERSE", .int 32), ("HIDDEN", .int 64), ("STRUCK", .int 128), ("OVERLINE", .int 256),
   ("UNDER_SHIFT", .int 9), ("UNDER_MASK", .int 3584), ("NO_COLOUR", .int (-1)), ("DIRECT", .int 16777216), ("PLAIN", .tup [.int 0, .int (-1), .int (-1), .int (-1), .int 0]),
   ("FLAGS", .int 0), ("FORE", .int 1), ("BACK", .int 2), ("UNDER", .int 3), ("LINK", .int 4), ("SGR_RESET", .int 0), ("SGR_FORE", .int 38), ("SGR_BACK", .int 48), ("SGR_UNDER", .int 58),
   ("FIRST_BRIGHT", .int 8), ("FIRST_CUBE", .int 16), ("FIRST_GRAY", .int 232), ("MOST_COLOUR", .int 255), ("CUBE_LEVELS", .tup [.int 0, .int 95, .int 135, .int 175, .int 215, .int 255])]
noncomputable def muL (l : List Nat) : Pos → Bool := fun p => l.any (fun n => Nat.beq n p.line)
/-- the lines whose list displays (or sums of lists) make turning lists -/
noncomputable def mu : Pos → Bool := muL [23, 136, 160, 271, 274, 291, 296, 313, 315]
noncomputable def mk (x : String) (fn : List (String × Fn)) (fc : List (String × Fc)) : Cx := { sc := (P x).sc, gl := tabS consts, fn := tabS fn, fc := tabS fc, mu := mu }
noncomputable def callF (x : String) (fn : List (String × Fn)) (fc : List (String × Fc)) (ds : List PV) : Option PV := runF (mk x fn fc) (P x).ps (P x).body ds
noncomputable def callC (x : String) (fn : List (String × Fn)) (fc : List (String × Fc)) (ws : List W) (σ : Sto) : Option (PV × Sto) := runC (mk x fn fc) (P x).ps (P x).body ws σ

/-- the defs, each over those that it calls -/
noncomputable def fDec : Fn := callF "decimal_octets" [] []
noncomputable def fPenWith : Fn := callF "pen_with" [] []
noncomputable def fUnderOf : Fn := callF "under_of" [] []
noncomputable def fFlagsU : Fn := callF "flags_with_under" [] []
noncomputable def fIsDirect : Fn := callF "is_direct" [] []
noncomputable def fRgbOf : Fn := callF "rgb_of" [] []
noncomputable def fDirect : Fn := callF "direct_colour" [] []
noncomputable def fPart : Fn := callF "part_octets" [("decimal_octets", fDec)] []
noncomputable def fParams : Fn := callF "params_octets" [("part_octets", fPart)] []
noncomputable def fBits : Fn := callF "pen_bits" [] []
noncomputable def fPlain : Fn := callF "pen_plain_changed" [("pen_with", fPenWith), ("flags_with_under", fFlagsU), ("pen_bits", fBits)] []
noncomputable def fColour : Fn := callF "pen_colour_of" [("direct_colour", fDirect)] []
noncomputable def fSub : Fn := callF "pen_sub_changed" [("pen_with", fPenWith), ("flags_with_under", fFlagsU), ("pen_colour_of", fColour)] []
noncomputable def fApart : Fn := callF "pen_told_apart" [("pen_colour_of", fColour)] []
noncomputable def fApply : Fn := callF "apply_sgr" [("pen_sub_changed", fSub), ("pen_told_apart", fApart), ("pen_with", fPenWith), ("pen_plain_changed", fPlain)] []
noncomputable def fColP : Fn := callF "sgr_colour_params" [("is_direct", fIsDirect), ("rgb_of", fRgbOf)] []
noncomputable def fBitP : Fn := callF "sgr_bit_params" [("pen_bits", fBits)] []
noncomputable def fUndP : Fn := callF "sgr_under_params" [] []
noncomputable def fChg : Fn := callF "sgr_changes" [("sgr_bit_params", fBitP), ("sgr_under_params", fUndP), ("under_of", fUnderOf), ("sgr_colour_params", fColP)] []
noncomputable def fSixteen : Fn := callF "first_sixteen" [] []
noncomputable def fRgbN : Fn := callF "rgb_number" [] []
noncomputable def fPal : Fn := callF "palette_rgb" [("first_sixteen", fSixteen), ("rgb_number", fRgbN)] []
noncomputable def fDist : Fn := callF "colour_distance" [("rgb_of", fRgbOf)] []
noncomputable def fLevel : Fn := callF "nearest_level" [] []
noncomputable def fNear : Fn := callF "nearest_of_256" [("rgb_of", fRgbOf), ("nearest_level", fLevel), ("colour_distance", fDist), ("palette_rgb", fPal)] []
noncomputable def fTold : Fn := callF "pen_told" [("is_direct", fIsDirect), ("nearest_of_256", fNear)] []
noncomputable def fSgrP : Fn := callF "sgr_params" [("pen_told", fTold), ("sgr_changes", fChg), ("params_octets", fParams)] []
noncomputable def fSgr : Fn := callF "sgr_octets" [("sgr_params", fSgrP), ("params_octets", fParams)] []
noncomputable def fPenO : Fn := callF "pen_octets" [("sgr_changes", fChg), ("pen_told", fTold), ("params_octets", fParams)] []
noncomputable def cDraw : Fc := callC "_law_draw" [] []
noncomputable def fLBits : Fn := callF "_law_bits" [] []
noncomputable def cPen : Fc := callC "_law_pen" [] [("_law_draw", cDraw)]
noncomputable def fLCol : Fn := callF "_law_coloured" [] []
noncomputable def fFlagged : Fn := callF "_law_flagged" [("_law_bits", fLBits), ("_law_coloured", fLCol)] []
noncomputable def fLColour : Fn := callF "_law_colour" [] []
noncomputable def fRead : Fn := callF "_law_read" [("_law_colour", fLColour), ("_law_coloured", fLCol), ("_law_flagged", fFlagged)] []
noncomputable def fLParams : Fn := callF "_law_params" [] []
noncomputable def fWords : Fn := callF "_law_words" [] []
noncomputable def fLChg : Fn := callF "_law_changes" [("_law_bits", fLBits), ("_law_words", fWords)] []
noncomputable def fLeast : Fn := callF "_law_least" [("_law_changes", fLChg)] []
noncomputable def fMenu : Fn := callF "_law_menu" [] []
noncomputable def fLaw : Fn := callF "law" [("_law_menu", fMenu), ("nearest_of_256", fNear), ("sgr_octets", fSgr), ("_law_read", fRead), ("_law_params", fLParams), ("_law_least", fLeast), ("pen_octets", fPenO), ("apply_sgr", fApply)] [("_law_pen", cPen), ("_law_draw", cDraw)]

noncomputable def pn (f a b c l : Int) : PV := .tup [.int f, .int a, .int b, .int c, .int l]
noncomputable def pv1 (p : List Nat) : PV := .list (p.map fun n : Nat => .int n)
noncomputable def pvP (l : List (List Nat)) : PV := .list (l.map pv1)
noncomputable def isP (o : Option PV) (l : List (List Nat)) : Prop := o = some (pvP l)

theorem near_1 : fNear [.int 66051] = some (.int 16) := by kernel_rfl!
theorem near_0 : fNear [.int 0] = some (.int 16) := by kernel_rfl!
theorem menu_len : (bnd (fMenu []) fun d => match d with | .list l => some l.length | _ => .none) = some 45 := by kernel_rfl!
noncomputable def decOk (n : Nat) : Bool := match fDec [.int n] with | some (.bytes l) => natsB l (digs n) | _ => false
theorem dec_all : (List.range 256).all decOk = true := by kernel_rfl!
end Og
end
section
open PySem
namespace Og
noncomputable def e0 : PySem.Expr := .Constant .none 0 ⟨0, 0, 0, 0⟩
noncomputable def sAt (x : String) (i : Nat) : Stmt := ((P x).body[i]?).getD (.Pass ⟨0, 0, 0, 0⟩)
noncomputable def sOf : List Stmt → Nat → Stmt := fun l i => (l[i]?).getD (.Pass ⟨0, 0, 0, 0⟩)
noncomputable def vOf : Stmt → PySem.Expr
  | .Return (some e) _ => e
  | .Assign _ e _ => e
  | .Expr e _ => e
  | _ => e0
noncomputable def argOf : PySem.Expr → PySem.Expr
  | .Call _ (a :: _) _ _ => a
  | _ => e0
structure Cmp where
  elt : PySem.Expr
  t : PySem.Expr
  ifs : List PySem.Expr
  sc : List (Str × NameKind)
noncomputable def cmpOf : PySem.Expr → Cmp
  | .ListComp elt [⟨t, _, ifs, 0⟩] scope _ => ⟨elt, t, ifs, scope.names⟩
  | _ => ⟨e0, e0, [], []⟩
structure Lp where
  t : PySem.Expr
  body : List Stmt
noncomputable def lpOf : Stmt → Lp
  | .For t _ body _ _ => ⟨t, body⟩
  | .While t body _ _ => ⟨t, body⟩
  | _ => ⟨e0, []⟩
noncomputable def rel (x : String) (c : Cmp) : List (Str × NameKind) := (relab (P x).sc c.sc).getD []

/-! ## numbers -/
theorem natsB_eq {a b : List Nat} (h : natsB a b = true) : a = b := (natsB_iff a b).mp h
theorem dec_int {n : Nat} (h : n < 256) : fDec [.int n] = some (.bytes (digs n)) := by
  have := List.all_eq_true.mp dec_all n (List.mem_range.mpr h)
  unfold decOk at this
  split at this
  · rename_i l e
    rw [e, natsB_eq this]
  · cases this
noncomputable def dgOk (n : Nat) : Bool := Nat.ble 1 (digs n).length && Nat.ble (digs n).length 3 && (digs n).all (fun d => Nat.ble 48 d && Nat.ble d 57) && Nat.beq ((digs n).foldl (fun a d => a * 10 + (d - 48)) 0) n
theorem dg_all : (List.range 256).all dgOk = true := by kernel_rfl!
structure DgOk (n : Nat) : Prop where
  lo : 1 ≤ (digs n).length
  hi : (digs n).length ≤ 3
  dg : ∀ d ∈ digs n, 48 ≤ d ∧ d ≤ 57
  va : (digs n).foldl (fun a d => a * 10 + (d - 48)) 0 = n
theorem dg_ok {n : Nat} (h : n < 256) : DgOk n := by
  have := List.all_eq_true.mp dg_all n (List.mem_range.mpr h)
  unfold dgOk at this
  simp only [Bool.and_eq_true, List.all_eq_true, Nat.ble_eq, Nat.beq_eq] at this
  exact ⟨this.1.1.1, this.1.1.2, fun d hd => this.1.2 d hd, this.2⟩

theorem part_sh (dec : Fn) (n : Int) : callF "part_octets" [("decimal_octets", dec)] [] [.int n] = bnd (dec [.int n]) some := by kernel_rfl!
theorem part_int {n : Nat} (h : n < 256) : fPart [.int n] = some (.bytes (digs n)) := by
  unfold fPart
  rw [part_sh, dec_int h]
  rfl

/-! ## the octets of parameters -/
noncomputable def pC1 : Cmp := cmpOf (argOf (vOf (sAt "params_octets" 0)))
noncomputable def pC2 : Cmp := cmpOf (argOf pC1.elt)
noncomputable def pK (pt : Fn) : Cx := { mk "params_octets" [("part_octets", pt)] [] with sc := rel "params_octets" pC1 }
noncomputable def pK2 (pt : Fn) : Cx := { mk "params_octets" [("part_octets", pt)] [] with sc := (relab (rel "params_octets" pC1) pC2.sc).getD [] }
theorem pp_sh (pt : Fn) (X : List PV) : callF "params_octets" [("part_octets", pt)] [] [.list X] =
    bif fits X.length then compL (ev 37) pC1.elt pC1.t [] (pK pt) [] X [] (fun acc => match allB acc with
      | some bs => bif fits (glue [59] bs).length then some (.bytes (glue [59] bs)) else .none | .none => .none) else .none := by kernel_rfl!
theorem pp_out (pt : Fn) (p X acc : List PV) (k : List PV → Option PV) : compL (ev 37) pC1.elt pC1.t [] (pK pt) [] (.list p :: X) acc k =
    bif fits p.length then compL (ev 35) pC2.elt pC2.t [] (pK2 pt) [] p [] (fun a2 => match allB a2 with
      | some bs => bif fits (glue [58] bs).length then compL (ev 37) pC1.elt pC1.t [] (pK pt) [] X (acc ++ [.bytes (glue [58] bs)]) k else .none | .none => .none) else .none := by kernel_rfl!
theorem pp_in (pt : Fn) (d : PV) (p acc : List PV) (k : List PV → Option PV) : compL (ev 35) pC2.elt pC2.t [] (pK2 pt) [] (d :: p) acc k =
    bnd (pt [d]) fun x => compL (ev 35) pC2.elt pC2.t [] (pK2 pt) [] p (acc ++ [x]) k := by kernel_rfl!
theorem fits_ok {n : Nat} (h : n ≤ 16777216) : fits n = true := Nat.ble_eq.mpr h
theorem glueLen {α : Type} (s : α) (m : Nat) : ∀ l : List (List α), (∀ x ∈ l, x.length ≤ m) → (glue [s] l).length ≤ l.length * (m + 1)
  | [], _ => by simp [glue]
  | [a], h => by
    have := h a (by simp)
    simp only [glue, List.length_cons, List.length_nil]; omega
  | a :: b :: r, h => by
    have h1 := h a (by simp)
    have h2 := glueLen s m (b :: r) (fun x hx => h x (List.mem_cons_of_mem _ hx))
    simp only [glue, List.length_append, List.length_cons, List.length_nil] at *
    rw [Nat.add_mul (r.length + 1) 1 (m + 1)]
    omega
noncomputable def txt1 (p : List Nat) : List Nat := glue [58] (p.map fun n : Nat => digs n)
noncomputable def txt (l : List (List Nat)) : List Nat := glue [59] (l.map txt1)
structure Sm1 (p : List Nat) : Prop where
  lo : 1 ≤ p.length
  hi : p.length ≤ 5
  lt : ∀ n ∈ p, n < 256
noncomputable def Sm (l : List (List Nat)) : Prop := ∀ p ∈ l, Sm1 p
theorem txt1_len {p : List Nat} (h : Sm1 p) : (txt1 p).length ≤ 20 := by
  unfold txt1
  have := glueLen 58 3 (p.map fun n : Nat => digs n) (fun x hx => by
    obtain ⟨n, hn, rfl⟩ := List.mem_map.mp hx
    exact (dg_ok (h.lt n hn)).hi)
  rw [List.length_map] at this
  have := h.hi
  omega
theorem txt_len {l : List (List Nat)} (h : Sm l) : (txt l).length ≤ l.length * 21 := by
  unfold txt
  have := glueLen 59 20 (l.map txt1) (fun x hx => by
    obtain ⟨p, hp, rfl⟩ := List.mem_map.mp hx
    exact txt1_len (h p hp))
  rwa [List.length_map] at this
theorem allB_map {α : Type} (f : α → List Nat) : ∀ p : List α, allB (p.map fun n => .bytes (f n)) = some (p.map f)
  | [] => rfl
  | n :: r => by
    show opt (allB (r.map fun n => .bytes (f n))) (fun l => some (f n :: l)) = _
    rw [allB_map f r]; rfl
theorem pp_in_all (pt : Fn) (k : List PV → Option PV) : ∀ (p : List Nat) (acc : List PV), (∀ n ∈ p, pt [.int n] = some (.bytes (digs n))) →
    compL (ev 35) pC2.elt pC2.t [] (pK2 pt) [] (p.map fun n : Nat => .int n) acc k = k (acc ++ p.map fun n : Nat => .bytes (digs n))
  | [], acc, _ => by
    show k acc = k _
    rw [List.map_nil, List.append_nil]
  | n :: r, acc, h => by
    rw [List.map_cons, pp_in, h n (by simp)]
    show compL _ _ _ _ _ _ _ _ _ = _
    rw [pp_in_all pt k r _ (fun m hm => h m (List.mem_cons_of_mem _ hm)), List.append_assoc]; rfl
theorem pp_out_all (pt : Fn) (hp : ∀ n : Nat, n < 256 → pt [.int n] = some (.bytes (digs n))) (k : List PV → Option PV) : ∀ (l : List (List Nat)) (acc : List PV), Sm l →
    compL (ev 37) pC1.elt pC1.t [] (pK pt) [] (l.map pv1) acc k = k (acc ++ l.map fun p => .bytes (txt1 p))
  | [], acc, _ => by
    show k acc = k _
    rw [List.map_nil, List.append_nil]
  | p :: r, acc, h => by
    have hp1 := h p (by simp)
    rw [List.map_cons]
    unfold pv1
    rw [pp_out, List.length_map, fits_ok (by have := hp1.hi; omega)]
    dsimp only [cond_true]
    rw [pp_in_all pt _ p [] (fun n hn => hp n (hp1.lt n hn)), List.nil_append, allB_map (fun n : Nat => digs n)]
    dsimp only
    have := txt1_len hp1
    unfold txt1 at this
    rw [fits_ok (by omega)]
    dsimp only [cond_true]
    have e := pp_out_all pt hp k r (acc ++ [.bytes (txt1 p)]) (fun q hq => h q (List.mem_cons_of_mem _ hq))
    unfold txt1 pv1 at e
    unfold txt1
    rw [e, List.append_assoc]; rfl
theorem params_ok {l : List (List Nat)} (h : Sm l) (hl : l.length ≤ 1000) : fParams [pvP l] = some (.bytes (txt l)) := by
  unfold fParams pvP
  rw [pp_sh, List.length_map, fits_ok (by omega)]
  dsimp only [cond_true]
  rw [pp_out_all fPart (fun n hn => part_int hn) _ l [] h, List.nil_append, allB_map txt1]
  dsimp only
  have := txt_len h
  unfold txt at this ⊢
  rw [fits_ok (by omega)]
  rfl
end Og
end
section
open PySem
namespace Og
noncomputable def zipE : List (Str × NameKind) → List (Option W) → Rho
  | [], _ => []
  | (n, _) :: r, [] => (n, .none) :: zipE r []
  | (n, _) :: r, v :: vs => (n, v) :: zipE r vs
noncomputable def env (x : String) (vs : List (Option W)) : Rho := zipE (P x).sc vs
noncomputable def fin : Fl → Rho → Sto → Option PV := fun f _ σ => match f with | .ret w => fz σ w | .next => some .none
noncomputable def contS (x : String) (i : Nat) (K : Cx) : Fl → Rho → Sto → Option PV := fun f ρ σ => match f with
  | .next => evS (ev 40) ((P x).body.drop i) K ρ σ fin
  | .ret w => fin (.ret w) ρ σ
noncomputable def oi (i : Int) : Option W := some (.v (.int i))
noncomputable def ov (d : PV) : Option W := some (.v d)
noncomputable def oc (i : Nat) : Option W := some (.c i)
structure J where
  a : Option W
  b : Option W
  c : Option W
  d : Option W
  e : Option W
  f : Option W
noncomputable def lp (x : String) (i : Nat) : Lp := lpOf (sAt x i)

abbrev Row := Nat × Nat × Nat
noncomputable def rowL : List Row := [(1, 1, 22), (2, 2, 22), (4, 3, 23), (8, 5, 25), (16, 6, 25), (32, 7, 27), (64, 8, 28), (128, 9, 29), (256, 53, 55)]
noncomputable def rowV (r : Row) : PV := .tup [.int r.1, .int r.2.1, .int r.2.2]
noncomputable def tb (h b : Int) : Bool := !W.Z.eqB (Builtin.bitAnd h b) 0
noncomputable def msk (c : Nat) (h : Int) : Int := rowL.foldl (fun h (r : Row) => bif Nat.beq r.2.2 c then Builtin.bitAnd h (Builtin.bitNot r.1) else h) h

/-! ## the single bits -/
noncomputable def bK : Cx := mk "sgr_bit_params" [("pen_bits", fBits)] []
noncomputable def bρ (o n h : Int) (j : J) : Rho := env "sgr_bit_params" [oi o, oi n, oc 0, oc 1, oi h, j.a, j.b, j.c, j.d, j.e, j.f]
noncomputable def b1 : Lp := lp "sgr_bit_params" 1
noncomputable def b2 : Lp := lp "sgr_bit_params" 2
noncomputable def it1 (c : Nat) : W := .v (pv1 [c])

theorem mem_rowL {r : Row} {Q : Row → Prop} (h : r ∈ rowL) (a : Q (1, 1, 22)) (b : Q (2, 2, 22)) (c : Q (4, 3, 23)) (d : Q (8, 5, 25)) (e : Q (16, 6, 25)) (f : Q (32, 7, 27)) (g : Q (64, 8, 28)) (i : Q (128, 9, 29)) (j : Q (256, 53, 55)) : Q r := by
  simp only [rowL, List.mem_cons, List.not_mem_nil, or_false] at h
  rcases h with rfl | rfl | rfl | rfl | rfl | rfl | rfl | rfl | rfl <;> assumption
noncomputable def turn1 (o n h : Int) (X : List PV) (j : J) (cs ss : List W) (k : Fl → Rho → Sto → Option PV) (r : Row) : Prop :=
  forL (ev 39) b1.t b1.body bK (rowV r :: X) (bρ o n h j) [cs, ss] k =
    bif tb h r.1 then (bif !tb n r.1 then
      (bnd (pushAt (.c 0) (it1 r.2.2) [cs, ss]) fun σ => forL (ev 39) b1.t b1.body bK X (bρ o n (msk r.2.2 h) ⟨oi r.1, oi r.2.1, oi r.2.2, oi 256, oi 53, oi 55⟩) σ k)
      else forL (ev 39) b1.t b1.body bK X (bρ o n h ⟨oi r.1, oi r.2.1, oi r.2.2, j.d, j.e, j.f⟩) [cs, ss] k)
    else forL (ev 39) b1.t b1.body bK X (bρ o n h ⟨oi r.1, oi r.2.1, oi r.2.2, j.d, j.e, j.f⟩) [cs, ss] k
section
variable (o n h : Int) (X : List PV) (j : J) (cs ss : List W) (k : Fl → Rho → Sto → Option PV)
theorem t1_0 : turn1 o n h X j cs ss k (1, 1, 22) := by unfold turn1; kernel_rfl!
theorem t1_1 : turn1 o n h X j cs ss k (2, 2, 22) := by unfold turn1; kernel_rfl!
theorem t1_2 : turn1 o n h X j cs ss k (4, 3, 23) := by unfold turn1; kernel_rfl!
theorem t1_3 : turn1 o n h X j cs ss k (8, 5, 25) := by unfold turn1; kernel_rfl!
theorem t1_4 : turn1 o n h X j cs ss k (16, 6, 25) := by unfold turn1; kernel_rfl!
theorem t1_5 : turn1 o n h X j cs ss k (32, 7, 27) := by unfold turn1; kernel_rfl!
theorem t1_6 : turn1 o n h X j cs ss k (64, 8, 28) := by unfold turn1; kernel_rfl!
theorem t1_7 : turn1 o n h X j cs ss k (128, 9, 29) := by unfold turn1; kernel_rfl!
theorem t1_8 : turn1 o n h X j cs ss k (256, 53, 55) := by unfold turn1; kernel_rfl!
theorem t1_all {r : Row} (hr : r ∈ rowL) : turn1 o n h X j cs ss k r :=
  mem_rowL hr (t1_0 ..) (t1_1 ..) (t1_2 ..) (t1_3 ..) (t1_4 ..) (t1_5 ..) (t1_6 ..) (t1_7 ..) (t1_8 ..)
theorem t2_all (r : Row) : forL (ev 39) b2.t b2.body bK (rowV r :: X) (bρ o n h j) [cs, ss] k =
    bif tb n r.1 then (bif !tb h r.1 then
      (bnd (pushAt (.c 1) (it1 r.2.1) [cs, ss]) fun σ => forL (ev 39) b2.t b2.body bK X (bρ o n h ⟨oi r.1, oi r.2.1, oi r.2.2, j.d, j.e, j.f⟩) σ k)
      else forL (ev 39) b2.t b2.body bK X (bρ o n h ⟨oi r.1, oi r.2.1, oi r.2.2, j.d, j.e, j.f⟩) [cs, ss] k)
    else forL (ev 39) b2.t b2.body bK X (bρ o n h ⟨oi r.1, oi r.2.1, oi r.2.2, j.d, j.e, j.f⟩) [cs, ss] k := by kernel_rfl!
theorem bit_s0 : callF "sgr_bit_params" [("pen_bits", fBits)] [] [.int o, .int n] =
    forL (ev 39) b1.t b1.body bK (rowL.map rowV) (bρ o n o ⟨.none, .none, .none, .none, .none, .none⟩) [[], []] (contS "sgr_bit_params" 2 bK) := by kernel_rfl!
theorem bit_s2 : contS "sgr_bit_params" 2 bK .next (bρ o n h j) [cs, ss] = forL (ev 39) b2.t b2.body bK (rowL.map rowV) (bρ o n h j) [cs, ss] (contS "sgr_bit_params" 3 bK) := by kernel_rfl!
theorem bit_s3 : contS "sgr_bit_params" 3 bK .next (bρ o n h j) [cs, ss] = addW false (.c 0) (.c 1) [cs, ss] (fun w σ => fz σ w) := by kernel_rfl!
end
theorem push0 {cs ss : List W} {w : W} (h : cs.length ≤ 1000) : pushAt (.c 0) w [cs, ss] = some [cs ++ [w], ss] := by
  show (bif fits (cs.length + 1) then some [cs ++ [w], ss] else .none) = _
  rw [fits_ok (by omega)]; rfl
theorem push1 {cs ss : List W} {w : W} (h : ss.length ≤ 1000) : pushAt (.c 1) w [cs, ss] = some [cs, ss ++ [w]] := by
  show (bif fits (ss.length + 1) then some [cs, ss ++ [w]] else .none) = _
  rw [fits_ok (by omega)]; rfl
noncomputable def clrS : List Row → Int → Int → List Nat × Int
  | [], h, _ => ([], h)
  | r :: t, h, n => bif (tb h r.1 && !tb n r.1) then (r.2.2 :: (clrS t (msk r.2.2 h) n).1, (clrS t (msk r.2.2 h) n).2) else clrS t h n
noncomputable def setS : List Row → Int → Int → List Nat
  | [], _, _ => []
  | r :: t, h, n => bif (tb n r.1 && !tb h r.1) then r.2.1 :: setS t h n else setS t h n
theorem clrS_len : ∀ (l : List Row) (h n : Int), (clrS l h n).1.length ≤ l.length
  | [], _, _ => Nat.le_refl _
  | r :: t, h, n => by
    unfold clrS
    cases (tb h r.1 && !tb n r.1)
    · have := clrS_len t h n; simp only [cond_false, List.length_cons]; omega
    · have := clrS_len t (msk r.2.2 h) n; simp only [cond_true, List.length_cons]; omega
theorem setS_len : ∀ (l : List Row) (h n : Int), (setS l h n).length ≤ l.length
  | [], _, _ => Nat.le_refl _
  | r :: t, h, n => by
    unfold setS
    cases (tb n r.1 && !tb h r.1)
    · have := setS_len t h n; simp only [cond_false, List.length_cons]; omega
    · have := setS_len t h n; simp only [cond_true, List.length_cons]; omega
theorem loop1 (o n : Int) (ss : List W) (k : Fl → Rho → Sto → Option PV) : ∀ (l : List Row) (h : Int) (j : J) (cs : List W), (∀ r ∈ l, r ∈ rowL) → cs.length + l.length ≤ 100 →
    ∃ j', forL (ev 39) b1.t b1.body bK (l.map rowV) (bρ o n h j) [cs, ss] k = k .next (bρ o n (clrS l h n).2 j') [cs ++ (clrS l h n).1.map it1, ss]
  | [], h, j, cs, _, _ => ⟨j, by
      show k .next _ _ = _
      simp only [clrS, List.map_nil, List.append_nil]⟩
  | r :: t, h, j, cs, hl, hn => by
    have e := t1_all o n h (t.map rowV) j cs ss k (hl r (by simp))
    unfold turn1 at e
    rw [List.map_cons, e]
    simp only [List.length_cons] at hn
    have ht : ∀ q ∈ t, q ∈ rowL := fun q hq => hl q (List.mem_cons_of_mem _ hq)
    unfold clrS
    cases tb h r.1 <;> cases tb n r.1 <;> simp only [cond_true, cond_false, Bool.not_true, Bool.not_false, Bool.and_true, Bool.and_false, Bool.false_and, Bool.true_and]
    · exact loop1 o n ss k t h _ cs ht (by omega)
    · exact loop1 o n ss k t h _ cs ht (by omega)
    · rw [push0 (by omega)]
      obtain ⟨j', e⟩ := loop1 o n ss k t (msk r.2.2 h) ⟨oi r.1, oi r.2.1, oi r.2.2, oi 256, oi 53, oi 55⟩ (cs ++ [it1 r.2.2]) ht (by simp only [List.length_append, List.length_cons, List.length_nil]; omega)
      refine ⟨j', ?_⟩
      show forL _ _ _ _ _ _ _ _ = _
      rw [e, List.append_assoc]; rfl
    · exact loop1 o n ss k t h _ cs ht (by omega)
theorem loop2 (o n h : Int) (cs : List W) (k : Fl → Rho → Sto → Option PV) : ∀ (l : List Row) (j : J) (ss : List W), ss.length + l.length ≤ 100 →
    ∃ j', forL (ev 39) b2.t b2.body bK (l.map rowV) (bρ o n h j) [cs, ss] k = k .next (bρ o n h j') [cs, ss ++ (setS l h n).map it1]
  | [], j, ss, _ => ⟨j, by
      show k .next _ _ = _
      simp only [setS, List.map_nil, List.append_nil]⟩
  | r :: t, j, ss, hn => by
    rw [List.map_cons, t2_all]
    simp only [List.length_cons] at hn
    unfold setS
    cases tb h r.1 <;> cases tb n r.1 <;> simp only [cond_true, cond_false, Bool.not_true, Bool.not_false, Bool.and_true, Bool.and_false, Bool.false_and, Bool.true_and]
    · exact loop2 o n h cs k t _ ss (by omega)
    · rw [push1 (by omega)]
      obtain ⟨j', e⟩ := loop2 o n h cs k t ⟨oi r.1, oi r.2.1, oi r.2.2, j.d, j.e, j.f⟩ (ss ++ [it1 r.2.1]) (by simp only [List.length_append, List.length_cons, List.length_nil]; omega)
      refine ⟨j', ?_⟩
      show forL _ _ _ _ _ _ _ _ = _
      rw [e, List.append_assoc]; rfl
    · exact loop2 o n h cs k t _ ss (by omega)
    · exact loop2 o n h cs k t _ ss (by omega)
theorem allV_it1 (l : List Nat) : allV (l.map it1) = some (l.map fun c => pv1 [c]) := by
  have : l.map it1 = (l.map fun c => pv1 [c]).map W.v := by rw [List.map_map]; rfl
  rw [this, allV_map]
noncomputable def bitsS (o n : Int) : List Nat := (clrS rowL o n).1 ++ setS rowL (clrS rowL o n).2 n
noncomputable def ones (l : List Nat) : List (List Nat) := l.map fun c => [c]
theorem bitP_ok (o n : Int) : fBitP [.int o, .int n] = some (pvP (ones (bitsS o n))) := by
  unfold fBitP
  rw [bit_s0]
  obtain ⟨j, e⟩ := loop1 o n [] (contS "sgr_bit_params" 2 bK) rowL o ⟨.none, .none, .none, .none, .none, .none⟩ [] (fun _ h => h) (by decide)
  rw [e, bit_s2]
  obtain ⟨j, e⟩ := loop2 o n (clrS rowL o n).2 ([] ++ (clrS rowL o n).1.map it1) (contS "sgr_bit_params" 3 bK) rowL j [] (by decide)
  rw [e, bit_s3, List.nil_append, List.nil_append]
  show opt (allV ((clrS rowL o n).1.map it1)) (fun x => opt (allV ((setS rowL (clrS rowL o n).2 n).map it1)) fun y => bif fits (x.length + y.length) then some (PV.list (x ++ y)) else .none) = _
  rw [allV_it1, opt_some, allV_it1, opt_some]
  have h1 := clrS_len rowL o n
  have h2 := setS_len rowL (clrS rowL o n).2 n
  have h3 : rowL.length = 9 := rfl
  rw [List.length_map, List.length_map, fits_ok (by omega), ← List.map_append]
  show some _ = _
  unfold pvP ones bitsS
  rw [List.map_map]; rfl
end Og
end
section
open PySem
namespace Og
noncomputable def ifOf : Stmt → List Stmt
  | .If _ a _ _ => a
  | _ => []
noncomputable def rightOf : PySem.Expr → PySem.Expr
  | .BinOp _ _ r _ => r
  | _ => e0
noncomputable def lK (wd : Fn) : Cx := mk "_law_changes" [("_law_bits", fLBits), ("_law_words", wd)] []
noncomputable def lρ (o n low : PV) (w : W) (j : J) : Rho := env "_law_changes" [ov o, ov n, ov low, some w, j.a, j.b, j.c, j.d]
noncomputable def l1 : Lp := lp "_law_changes" 1
noncomputable def l4 : Lp := lp "_law_changes" 4
noncomputable def lc1 : Cmp := cmpOf (argOf (vOf (sOf (ifOf (sOf l1.body 0)) 1)))
noncomputable def lc2 : Cmp := cmpOf (rightOf (vOf (sAt "_law_changes" 2)))
noncomputable def lcK1 (wd : Fn) : Cx := { lK wd with sc := rel "_law_changes" lc1 }
noncomputable def lcK2 (wd : Fn) : Cx := { lK wd with sc := rel "_law_changes" lc2 }
noncomputable def lcρ1 (low : PV) (off : Nat) : Rho := freeOf (rel "_law_changes" lc1) (lρ .none .none low (.v .none) ⟨.none, .none, oi off, .none, .none, .none⟩)
noncomputable def lcρ2 (n low : PV) : Rho := freeOf (rel "_law_changes" lc2) (lρ .none n low (.v .none) ⟨.none, .none, .none, .none, .none, .none⟩)
noncomputable def o1 (x b : Int) : Bool := W.Z.eqB ((x.fdiv b).fmod 2) 1
noncomputable def o0 (x b : Int) : Bool := W.Z.eqB ((x.fdiv b).fmod 2) 0
noncomputable def st (n : Nat) : PV := .str (digs n)
noncomputable def turnL (wd : Fn) (fo fn co1 co2 co3 lo cn1 cn2 cn3 ln : Int) (low : Int) (X : List PV) (j : J) (fs : List W) (k : Fl → Rho → Sto → Option PV) (r : Row) : Prop :=
  forL (ev 39) l1.t l1.body (lK wd) (rowV r :: X) (lρ (pn fo co1 co2 co3 lo) (pn fn cn1 cn2 cn3 ln) (.int low) (.c 0) j) [fs] k =
    bif o1 low r.1 then (bif o0 fn r.1 then
      (bnd (pushAt (.c 0) (.v (st r.2.2)) [fs]) fun σ => compL (ev 35) lc1.elt lc1.t lc1.ifs (lcK1 wd) (lcρ1 (.int low) r.2.2) (rowL.map rowV) [] fun acc =>
        callB 9 [.v (.list acc)] σ fun d => forL (ev 39) l1.t l1.body (lK wd) X (lρ (pn fo co1 co2 co3 lo) (pn fn cn1 cn2 cn3 ln) d (.c 0) ⟨oi r.1, oi r.2.1, oi r.2.2, j.d, .none, .none⟩) σ k)
      else forL (ev 39) l1.t l1.body (lK wd) X (lρ (pn fo co1 co2 co3 lo) (pn fn cn1 cn2 cn3 ln) (.int low) (.c 0) ⟨oi r.1, oi r.2.1, oi r.2.2, j.d, .none, .none⟩) [fs] k)
    else forL (ev 39) l1.t l1.body (lK wd) X (lρ (pn fo co1 co2 co3 lo) (pn fn cn1 cn2 cn3 ln) (.int low) (.c 0) ⟨oi r.1, oi r.2.1, oi r.2.2, j.d, .none, .none⟩) [fs] k
noncomputable def tC1 (wd : Fn) (low : Int) (X : List PV) (off : Nat) (acc : List PV) (q : List PV → Option PV) (r : Row) : Prop :=
  compL (ev 35) lc1.elt lc1.t lc1.ifs (lcK1 wd) (lcρ1 (.int low) off) (rowV r :: X) acc q =
    bif o1 low r.1 then (bif !W.Z.eqB r.2.2 off then compL (ev 35) lc1.elt lc1.t lc1.ifs (lcK1 wd) (lcρ1 (.int low) off) X (acc ++ [.int r.1]) q
      else compL (ev 35) lc1.elt lc1.t lc1.ifs (lcK1 wd) (lcρ1 (.int low) off) X acc q) else compL (ev 35) lc1.elt lc1.t lc1.ifs (lcK1 wd) (lcρ1 (.int low) off) X acc q
noncomputable def tC2 (wd : Fn) (fn cn1 cn2 cn3 ln low : Int) (X : List PV) (acc : List PV) (q : List PV → Option PV) (r : Row) : Prop :=
  compL (ev 37) lc2.elt lc2.t lc2.ifs (lcK2 wd) (lcρ2 (pn fn cn1 cn2 cn3 ln) (.int low)) (rowV r :: X) acc q =
    bif o1 fn r.1 then (bif o0 low r.1 then compL (ev 37) lc2.elt lc2.t lc2.ifs (lcK2 wd) (lcρ2 (pn fn cn1 cn2 cn3 ln) (.int low)) X (acc ++ [st r.2.1]) q
      else compL (ev 37) lc2.elt lc2.t lc2.ifs (lcK2 wd) (lcρ2 (pn fn cn1 cn2 cn3 ln) (.int low)) X acc q) else compL (ev 37) lc2.elt lc2.t lc2.ifs (lcK2 wd) (lcρ2 (pn fn cn1 cn2 cn3 ln) (.int low)) X acc q
noncomputable def turn4 (wd : Fn) (fo fn co1 co2 co3 lo cn1 cn2 cn3 ln low : Int) (X : List PV) (j : J) (fs gs : List W) (k : Fl → Rho → Sto → Option PV) (p : Nat) (c d : Int) (w : W) : Prop :=
  forL (ev 39) l4.t l4.body (lK wd) (.int p :: X) (lρ (pn fo co1 co2 co3 lo) (pn fn cn1 cn2 cn3 ln) (.int low) w j) [fs, gs] k =
    bif !W.Z.eqB c d then bnd (wd [.int p, .int d]) (fun x => addW false w (.v x) [fs, gs] fun w σ => forL (ev 39) l4.t l4.body (lK wd) X (lρ (pn fo co1 co2 co3 lo) (pn fn cn1 cn2 cn3 ln) (.int low) w ⟨j.a, j.b, j.c, oi p, .none, .none⟩) σ k)
    else forL (ev 39) l4.t l4.body (lK wd) X (lρ (pn fo co1 co2 co3 lo) (pn fn cn1 cn2 cn3 ln) (.int low) w ⟨j.a, j.b, j.c, oi p, .none, .none⟩) [fs, gs] k
section
variable (wd : Fn) (fo fn co1 co2 co3 lo cn1 cn2 cn3 ln : Int) (low : Int) (X : List PV) (j : J) (fs gs : List W) (k : Fl → Rho → Sto → Option PV)
theorem tl_0 : turnL wd fo fn co1 co2 co3 lo cn1 cn2 cn3 ln low X j fs k (1, 1, 22) := by unfold turnL; kernel_rfl!
theorem tl_1 : turnL wd fo fn co1 co2 co3 lo cn1 cn2 cn3 ln low X j fs k (2, 2, 22) := by unfold turnL; kernel_rfl!
theorem tl_2 : turnL wd fo fn co1 co2 co3 lo cn1 cn2 cn3 ln low X j fs k (4, 3, 23) := by unfold turnL; kernel_rfl!
theorem tl_3 : turnL wd fo fn co1 co2 co3 lo cn1 cn2 cn3 ln low X j fs k (8, 5, 25) := by unfold turnL; kernel_rfl!
theorem tl_4 : turnL wd fo fn co1 co2 co3 lo cn1 cn2 cn3 ln low X j fs k (16, 6, 25) := by unfold turnL; kernel_rfl!
theorem tl_5 : turnL wd fo fn co1 co2 co3 lo cn1 cn2 cn3 ln low X j fs k (32, 7, 27) := by unfold turnL; kernel_rfl!
theorem tl_6 : turnL wd fo fn co1 co2 co3 lo cn1 cn2 cn3 ln low X j fs k (64, 8, 28) := by unfold turnL; kernel_rfl!
theorem tl_7 : turnL wd fo fn co1 co2 co3 lo cn1 cn2 cn3 ln low X j fs k (128, 9, 29) := by unfold turnL; kernel_rfl!
theorem tl_8 : turnL wd fo fn co1 co2 co3 lo cn1 cn2 cn3 ln low X j fs k (256, 53, 55) := by unfold turnL; kernel_rfl!
theorem tl_all {r : Row} (hr : r ∈ rowL) : turnL wd fo fn co1 co2 co3 lo cn1 cn2 cn3 ln low X j fs k r :=
  mem_rowL hr (tl_0 ..) (tl_1 ..) (tl_2 ..) (tl_3 ..) (tl_4 ..) (tl_5 ..) (tl_6 ..) (tl_7 ..) (tl_8 ..)
theorem tc1_0 (off : Nat) (acc : List PV) (q : List PV → Option PV) : tC1 wd low X off acc q (1, 1, 22) := by unfold tC1; kernel_rfl!
theorem tc1_1 (off : Nat) (acc : List PV) (q : List PV → Option PV) : tC1 wd low X off acc q (2, 2, 22) := by unfold tC1; kernel_rfl!
theorem tc1_2 (off : Nat) (acc : List PV) (q : List PV → Option PV) : tC1 wd low X off acc q (4, 3, 23) := by unfold tC1; kernel_rfl!
theorem tc1_3 (off : Nat) (acc : List PV) (q : List PV → Option PV) : tC1 wd low X off acc q (8, 5, 25) := by unfold tC1; kernel_rfl!
theorem tc1_4 (off : Nat) (acc : List PV) (q : List PV → Option PV) : tC1 wd low X off acc q (16, 6, 25) := by unfold tC1; kernel_rfl!
theorem tc1_5 (off : Nat) (acc : List PV) (q : List PV → Option PV) : tC1 wd low X off acc q (32, 7, 27) := by unfold tC1; kernel_rfl!
theorem tc1_6 (off : Nat) (acc : List PV) (q : List PV → Option PV) : tC1 wd low X off acc q (64, 8, 28) := by unfold tC1; kernel_rfl!
theorem tc1_7 (off : Nat) (acc : List PV) (q : List PV → Option PV) : tC1 wd low X off acc q (128, 9, 29) := by unfold tC1; kernel_rfl!
theorem tc1_8 (off : Nat) (acc : List PV) (q : List PV → Option PV) : tC1 wd low X off acc q (256, 53, 55) := by unfold tC1; kernel_rfl!
theorem tc1_all (off : Nat) (acc : List PV) (q : List PV → Option PV) {r : Row} (hr : r ∈ rowL) : tC1 wd low X off acc q r :=
  mem_rowL hr (tc1_0 ..) (tc1_1 ..) (tc1_2 ..) (tc1_3 ..) (tc1_4 ..) (tc1_5 ..) (tc1_6 ..) (tc1_7 ..) (tc1_8 ..)
theorem tc2_0 (acc : List PV) (q : List PV → Option PV) : tC2 wd fn cn1 cn2 cn3 ln low X acc q (1, 1, 22) := by unfold tC2; kernel_rfl!
theorem tc2_1 (acc : List PV) (q : List PV → Option PV) : tC2 wd fn cn1 cn2 cn3 ln low X acc q (2, 2, 22) := by unfold tC2; kernel_rfl!
theorem tc2_2 (acc : List PV) (q : List PV → Option PV) : tC2 wd fn cn1 cn2 cn3 ln low X acc q (4, 3, 23) := by unfold tC2; kernel_rfl!
theorem tc2_3 (acc : List PV) (q : List PV → Option PV) : tC2 wd fn cn1 cn2 cn3 ln low X acc q (8, 5, 25) := by unfold tC2; kernel_rfl!
theorem tc2_4 (acc : List PV) (q : List PV → Option PV) : tC2 wd fn cn1 cn2 cn3 ln low X acc q (16, 6, 25) := by unfold tC2; kernel_rfl!
theorem tc2_5 (acc : List PV) (q : List PV → Option PV) : tC2 wd fn cn1 cn2 cn3 ln low X acc q (32, 7, 27) := by unfold tC2; kernel_rfl!
theorem tc2_6 (acc : List PV) (q : List PV → Option PV) : tC2 wd fn cn1 cn2 cn3 ln low X acc q (64, 8, 28) := by unfold tC2; kernel_rfl!
theorem tc2_7 (acc : List PV) (q : List PV → Option PV) : tC2 wd fn cn1 cn2 cn3 ln low X acc q (128, 9, 29) := by unfold tC2; kernel_rfl!
theorem tc2_8 (acc : List PV) (q : List PV → Option PV) : tC2 wd fn cn1 cn2 cn3 ln low X acc q (256, 53, 55) := by unfold tC2; kernel_rfl!
theorem tc2_all (acc : List PV) (q : List PV → Option PV) {r : Row} (hr : r ∈ rowL) : tC2 wd fn cn1 cn2 cn3 ln low X acc q r :=
  mem_rowL hr (tc2_0 ..) (tc2_1 ..) (tc2_2 ..) (tc2_3 ..) (tc2_4 ..) (tc2_5 ..) (tc2_6 ..) (tc2_7 ..) (tc2_8 ..)
theorem lchg_s0 : callF "_law_changes" [("_law_bits", fLBits), ("_law_words", wd)] [] [pn fo co1 co2 co3 lo, pn fn cn1 cn2 cn3 ln] =
    forL (ev 39) l1.t l1.body (lK wd) (rowL.map rowV) (lρ (pn fo co1 co2 co3 lo) (pn fn cn1 cn2 cn3 ln) (.int (fo.fmod 512)) (.c 0) ⟨.none, .none, .none, .none, .none, .none⟩) [[]] (contS "_law_changes" 2 (lK wd)) := by kernel_rfl!
theorem lchg_s2 : contS "_law_changes" 2 (lK wd) .next (lρ (pn fo co1 co2 co3 lo) (pn fn cn1 cn2 cn3 ln) (.int low) (.c 0) j) [fs] =
    compL (ev 37) lc2.elt lc2.t lc2.ifs (lcK2 wd) (lcρ2 (pn fn cn1 cn2 cn3 ln) (.int low)) (rowL.map rowV) [] (fun acc => addW true (.c 0) (.v (.list acc)) [fs] fun w σ =>
      contS "_law_changes" 3 (lK wd) .next (lρ (pn fo co1 co2 co3 lo) (pn fn cn1 cn2 cn3 ln) (.int low) w j) σ) := by kernel_rfl!
noncomputable def unW : List PV := [st 24, st 4, st 21, .str [52, 58, 51], .str [52, 58, 52], .str [52, 58, 53]]
theorem lchg_s3 : contS "_law_changes" 3 (lK wd) .next (lρ (pn fo co1 co2 co3 lo) (pn fn cn1 cn2 cn3 ln) (.int low) (.c 1) j) [fs, gs] =
    bif !W.Z.eqB (fo.fdiv 512) (fn.fdiv 512) then subK (.v (.list unW)) (.v (.int (fn.fdiv 512))) [fs, gs] (fun x σ => bnd (pushAt (.c 1) x σ) fun σ =>
      contS "_law_changes" 4 (lK wd) .next (lρ (pn fo co1 co2 co3 lo) (pn fn cn1 cn2 cn3 ln) (.int low) (.c 1) j) σ)
    else contS "_law_changes" 4 (lK wd) .next (lρ (pn fo co1 co2 co3 lo) (pn fn cn1 cn2 cn3 ln) (.int low) (.c 1) j) [fs, gs] := by kernel_rfl!
theorem t4_1c : turn4 wd fo fn co1 co2 co3 lo cn1 cn2 cn3 ln low X j fs gs k 1 co1 cn1 (.c 1) := by unfold turn4; kernel_rfl!
theorem t4_2c : turn4 wd fo fn co1 co2 co3 lo cn1 cn2 cn3 ln low X j fs gs k 2 co2 cn2 (.c 1) := by unfold turn4; kernel_rfl!
theorem t4_3c : turn4 wd fo fn co1 co2 co3 lo cn1 cn2 cn3 ln low X j fs gs k 3 co3 cn3 (.c 1) := by unfold turn4; kernel_rfl!
theorem t4_1v (L : List PV) : turn4 wd fo fn co1 co2 co3 lo cn1 cn2 cn3 ln low X j fs gs k 1 co1 cn1 (.v (.list L)) := by unfold turn4; kernel_rfl!
theorem t4_2v (L : List PV) : turn4 wd fo fn co1 co2 co3 lo cn1 cn2 cn3 ln low X j fs gs k 2 co2 cn2 (.v (.list L)) := by unfold turn4; kernel_rfl!
theorem t4_3v (L : List PV) : turn4 wd fo fn co1 co2 co3 lo cn1 cn2 cn3 ln low X j fs gs k 3 co3 cn3 (.v (.list L)) := by unfold turn4; kernel_rfl!
theorem lchg_s4 (w : W) : contS "_law_changes" 4 (lK wd) .next (lρ (pn fo co1 co2 co3 lo) (pn fn cn1 cn2 cn3 ln) (.int low) w j) [fs, gs] =
    forL (ev 39) l4.t l4.body (lK wd) [.int 1, .int 2, .int 3] (lρ (pn fo co1 co2 co3 lo) (pn fn cn1 cn2 cn3 ln) (.int low) w j) [fs, gs] (contS "_law_changes" 5 (lK wd)) := by kernel_rfl!
theorem lchg_s5 (w : W) : contS "_law_changes" 5 (lK wd) .next (lρ (pn fo co1 co2 co3 lo) (pn fn cn1 cn2 cn3 ln) (.int low) w j) [fs, gs] = fz [fs, gs] w := by kernel_rfl!
end
end Og
end
section
open PySem
namespace Og
theorem eqB_nat (a b : Nat) : W.Z.eqB (a : Int) (b : Int) = Nat.beq a b := by
  rw [Bool.eq_iff_iff, W.Z.eqB_iff, Nat.beq_eq]
  omega
theorem fdiv_nat (a b : Nat) : (a : Int).fdiv (b : Int) = ((a / b : Nat) : Int) := (Int.ofNat_fdiv a b).symm
theorem fmod_nat (a b : Nat) : (a : Int).fmod (b : Int) = ((a % b : Nat) : Int) := (Int.ofNat_fmod a b).symm
theorem and_nat (a b : Nat) : Builtin.bitAnd (a : Int) (b : Int) = ((a &&& b : Nat) : Int) := by
  unfold Builtin.bitAnd
  have h1 : decide ((0 : Int) ≤ (a : Int)) = true := by simp
  have h2 : decide ((0 : Int) ≤ (b : Int)) = true := by simp
  rw [h1, h2]
  rfl
theorem clr_nat (a b : Nat) : Builtin.bitAnd (a : Int) (Builtin.bitNot (b : Int)) = ((a - (a &&& b) : Nat) : Int) := by
  unfold Builtin.bitAnd
  have h1 : decide ((0 : Int) ≤ (a : Int)) = true := by simp
  have h2 : decide ((0 : Int) ≤ Builtin.bitNot (b : Int)) = false := by
    unfold Builtin.bitNot
    simp only [decide_eq_false_iff_not]; omega
  rw [h1, h2]
  have h3 : (Builtin.bitNot (Builtin.bitNot (b : Int))).toNat = b := by
    unfold Builtin.bitNot; omega
  dsimp only
  rw [h3]
  have : a &&& b ≤ a := Nat.and_le_left
  show (a : Int) - ((a &&& b : Nat) : Int) = _
  omega
noncomputable def tN (m b : Nat) : Bool := Nat.beq (m / b % 2) 1
theorem o1_nat (m b : Nat) : o1 (m : Int) (b : Int) = tN m b := by
  unfold o1 tN
  rw [fdiv_nat, show (2 : Int) = ((2 : Nat) : Int) from rfl, fmod_nat, show (1 : Int) = ((1 : Nat) : Int) from rfl, eqB_nat]
theorem o0_nat (m b : Nat) : o0 (m : Int) (b : Int) = !tN m b := by
  unfold o0 tN
  rw [fdiv_nat, show (2 : Int) = ((2 : Nat) : Int) from rfl, fmod_nat, show (0 : Int) = ((0 : Nat) : Int) from rfl, eqB_nat]
  have : m / b % 2 = 0 ∨ m / b % 2 = 1 := Nat.mod_two_eq_zero_or_one _
  rcases this with h | h <;> rw [h] <;> rfl
theorem and_bit (m i : Nat) : m &&& 2 ^ i = (m / 2 ^ i % 2) * 2 ^ i := by
  have hb : m.testBit i = decide (m / 2 ^ i % 2 = 1) := Nat.testBit_eq_decide_div_mod_eq
  apply Nat.eq_of_testBit_eq
  intro j
  rw [Nat.testBit_and, Nat.testBit_two_pow]
  have : m / 2 ^ i % 2 = 0 ∨ m / 2 ^ i % 2 = 1 := Nat.mod_two_eq_zero_or_one _
  rcases this with h | h
  · rw [h] at hb ⊢
    by_cases e : i = j
    · subst e; rw [hb]; simp
    · simp [e]
  · rw [h] at hb ⊢
    rw [Nat.one_mul, Nat.testBit_two_pow]
    by_cases e : i = j
    · subst e; rw [hb]; simp
    · simp [e]
theorem tb_nat (m i : Nat) : tb (m : Int) ((2 ^ i : Nat) : Int) = tN m (2 ^ i) := by
  unfold tb tN
  rw [and_nat, show (0 : Int) = ((0 : Nat) : Int) from rfl, eqB_nat, and_bit]
  have : m / 2 ^ i % 2 = 0 ∨ m / 2 ^ i % 2 = 1 := Nat.mod_two_eq_zero_or_one _
  have hp : 0 < 2 ^ i := Nat.two_pow_pos i
  rcases this with h | h
  · rw [h, Nat.zero_mul]; rfl
  · rw [h, Nat.one_mul]
    have : Nat.beq (2 ^ i) 0 = false := by
      cases e : Nat.beq (2 ^ i) 0 with
      | false => rfl
      | true => rw [Nat.eq_of_beq_eq_true e] at hp; exact absurd hp (Nat.lt_irrefl 0)
    rw [this]; rfl
noncomputable def clr1 (m b : Nat) : Nat := m - (m / b % 2) * b
theorem clr_bit (m i : Nat) : Builtin.bitAnd (m : Int) (Builtin.bitNot ((2 ^ i : Nat) : Int)) = ((clr1 m (2 ^ i) : Nat) : Int) := by
  rw [clr_nat, and_bit]; rfl
/-- the rows as bits -/
structure IsBit (b : Nat) : Prop where
  tb : ∀ m : Nat, tb (m : Int) (b : Int) = tN m b
  cl : ∀ m : Nat, Builtin.bitAnd (m : Int) (Builtin.bitNot (b : Int)) = ((clr1 m b : Nat) : Int)
  up : ∀ l u, l < 512 → tN (l + 512 * u) b = tN l b
  cu : ∀ l u, l < 512 → clr1 (l + 512 * u) b = clr1 l b + 512 * u
  lt : ∀ l, clr1 l b ≤ l
theorem isBit_of (b i c : Nat) (h : b = 2 ^ i) (hc : 512 = b * (2 * c)) : IsBit b := by
  have hp : 0 < b := by rw [h]; exact Nat.two_pow_pos i
  have up : ∀ l u : Nat, (l + 512 * u) / b % 2 = l / b % 2 := fun l u => by
    rw [hc, Nat.mul_assoc, Nat.add_mul_div_left _ _ hp, Nat.mul_assoc, Nat.add_mul_mod_self_left]
  subst h
  refine ⟨fun m => tb_nat m i, fun m => clr_bit m i, fun l u h => ?_, fun l u h => ?_, fun l => Nat.sub_le _ _⟩
  · unfold tN; rw [up l u]
  · unfold clr1; rw [up l u]
    have : l / 2 ^ i % 2 * 2 ^ i ≤ l := Nat.le_trans (Nat.mul_le_mul_right _ (Nat.mod_le _ _)) (Nat.div_mul_le_self l (2 ^ i))
    exact Nat.sub_add_comm this
theorem isBit {r : Row} (hr : r ∈ rowL) : IsBit r.1 :=
  mem_rowL (Q := fun r => IsBit r.1) hr (isBit_of 1 0 256 rfl rfl) (isBit_of 2 1 128 rfl rfl) (isBit_of 4 2 64 rfl rfl) (isBit_of 8 3 32 rfl rfl) (isBit_of 16 4 16 rfl rfl)
    (isBit_of 32 5 8 rfl rfl) (isBit_of 64 6 4 rfl rfl) (isBit_of 128 7 2 rfl rfl) (isBit_of 256 8 1 rfl rfl)

noncomputable def lowL (c : Nat) (low : Nat) : List Row → List Nat
  | [] => []
  | r :: t => bif tN low r.1 then (bif !Nat.beq r.2.2 c then r.1 :: lowL c low t else lowL c low t) else lowL c low t
noncomputable def lowS (c : Nat) (low : Nat) : Nat := (lowL c low rowL).sum
noncomputable def mskN (c : Nat) (l : List Row) (m : Nat) : Nat := l.foldl (fun m r => bif Nat.beq r.2.2 c then clr1 m r.1 else m) m
theorem msk_nat (c : Nat) : ∀ (l : List Row) (m : Nat), (∀ r ∈ l, r ∈ rowL) → l.foldl (fun h (r : Row) => bif Nat.beq r.2.2 c then Builtin.bitAnd h (Builtin.bitNot r.1) else h) (m : Int) = ((mskN c l m : Nat) : Int)
  | [], m, _ => rfl
  | r :: t, m, h => by
    unfold mskN
    rw [List.foldl_cons, List.foldl_cons]
    cases Nat.beq r.2.2 c
    · exact msk_nat c t m (fun q hq => h q (List.mem_cons_of_mem _ hq))
    · simp only [cond_true]
      rw [(isBit (h r (by simp))).cl]
      exact msk_nat c t _ (fun q hq => h q (List.mem_cons_of_mem _ hq))
theorem mskN_up (c u : Nat) : ∀ (l : List Row) (m : Nat), (∀ r ∈ l, r ∈ rowL) → m < 512 → mskN c l (m + 512 * u) = mskN c l m + 512 * u
  | [], m, _, _ => rfl
  | r :: t, m, h, hm => by
    unfold mskN
    rw [List.foldl_cons, List.foldl_cons]
    have ht : ∀ q ∈ t, q ∈ rowL := fun q hq => h q (List.mem_cons_of_mem _ hq)
    cases Nat.beq r.2.2 c
    · exact mskN_up c u t m ht hm
    · simp only [cond_true]
      have B := isBit (h r (by simp))
      rw [B.cu m u hm]
      exact mskN_up c u t _ ht (Nat.lt_of_le_of_lt (B.lt m) hm)
noncomputable def clearsL : List Nat := [22, 23, 25, 27, 28, 29, 55]
noncomputable def mOk (h : Nat) : Bool := clearsL.all fun c => Nat.beq (mskN c rowL h) (lowS c h) && Nat.blt (lowS c h) 512
theorem m_all : (List.range 512).all mOk = true := by kernel_rfl!
theorem m_ok {c h : Nat} (hc : c ∈ clearsL) (hh : h < 512) : mskN c rowL h = lowS c h ∧ lowS c h < 512 := by
  have := List.all_eq_true.mp m_all h (List.mem_range.mpr hh)
  have := List.all_eq_true.mp this c hc
  simpa using this
theorem clear_mem {r : Row} (hr : r ∈ rowL) : r.2.2 ∈ clearsL :=
  mem_rowL (Q := fun r => r.2.2 ∈ clearsL) hr (by decide) (by decide) (by decide) (by decide) (by decide) (by decide) (by decide) (by decide) (by decide)
theorem msk_ok {r : Row} {l u : Nat} (hr : r ∈ rowL) (hl : l < 512) : msk r.2.2 ((l + 512 * u : Nat) : Int) = ((lowS r.2.2 l + 512 * u : Nat) : Int) := by
  unfold msk
  rw [msk_nat _ rowL _ (fun _ h => h), mskN_up _ _ rowL _ (fun _ h => h) hl, (m_ok (clear_mem hr) hl).1]
end Og
end
section
open PySem
namespace Og
noncomputable def clrN : List Row → Nat → Nat → List Nat × Nat
  | [], h, _ => ([], h)
  | r :: t, h, n => bif (tN h r.1 && !tN n r.1) then (r.2.2 :: (clrN t (lowS r.2.2 h) n).1, (clrN t (lowS r.2.2 h) n).2) else clrN t h n
noncomputable def setN : List Row → Nat → Nat → List Nat
  | [], _, _ => []
  | r :: t, h, n => bif (tN n r.1 && !tN h r.1) then r.2.1 :: setN t h n else setN t h n
noncomputable def bitsN (l n : Nat) : List Nat := (clrN rowL l n).1 ++ setN rowL (clrN rowL l n).2 n
noncomputable def fl (l u : Nat) : Int := ((l + 512 * u : Nat) : Int)
theorem tb_fl {r : Row} (hr : r ∈ rowL) {l u : Nat} (hl : l < 512) : tb (fl l u) r.1 = tN l r.1 := by
  unfold fl; rw [(isBit hr).tb, (isBit hr).up l u hl]
theorem o1_fl {r : Row} (hr : r ∈ rowL) {l u : Nat} (hl : l < 512) : o1 (fl l u) r.1 = tN l r.1 := by
  unfold fl; rw [o1_nat, (isBit hr).up l u hl]
theorem o0_fl {r : Row} (hr : r ∈ rowL) {l u : Nat} (hl : l < 512) : o0 (fl l u) r.1 = !tN l r.1 := by
  unfold fl; rw [o0_nat, (isBit hr).up l u hl]
theorem lowS_lt {r : Row} (hr : r ∈ rowL) {l : Nat} (hl : l < 512) : lowS r.2.2 l < 512 := (m_ok (clear_mem hr) hl).2
theorem clrN_lt (n : Nat) : ∀ (t : List Row) (h : Nat), (∀ r ∈ t, r ∈ rowL) → h < 512 → (clrN t h n).2 < 512
  | [], h, _, hh => hh
  | r :: t, h, hl, hh => by
    have ht : ∀ q ∈ t, q ∈ rowL := fun q hq => hl q (List.mem_cons_of_mem _ hq)
    unfold clrN
    cases (tN h r.1 && !tN n r.1)
    · exact clrN_lt n t h ht hh
    · exact clrN_lt n t _ ht (lowS_lt (hl r (by simp)) hh)
theorem clrS_nat {n v u : Nat} (hn : n < 512) : ∀ (t : List Row) (h : Nat), (∀ r ∈ t, r ∈ rowL) → h < 512 → clrS t (fl h u) (fl n v) = ((clrN t h n).1, fl (clrN t h n).2 u)
  | [], h, _, _ => rfl
  | r :: t, h, hl, hh => by
    have ht : ∀ q ∈ t, q ∈ rowL := fun q hq => hl q (List.mem_cons_of_mem _ hq)
    have hr := hl r (by simp)
    unfold clrS clrN
    rw [tb_fl hr hh, tb_fl hr hn]
    cases (tN h r.1 && !tN n r.1)
    · exact clrS_nat hn t h ht hh
    · have e : msk r.2.2 (fl h u) = fl (lowS r.2.2 h) u := msk_ok hr hh
      rw [e, clrS_nat hn t _ ht (lowS_lt hr hh)]
      rfl
theorem setS_nat {h n v u : Nat} (hh : h < 512) (hn : n < 512) : ∀ (t : List Row), (∀ r ∈ t, r ∈ rowL) → setS t (fl h u) (fl n v) = setN t h n
  | [], _ => rfl
  | r :: t, hl => by
    have ht : ∀ q ∈ t, q ∈ rowL := fun q hq => hl q (List.mem_cons_of_mem _ hq)
    have hr := hl r (by simp)
    unfold setS setN
    rw [tb_fl hr hh, tb_fl hr hn, setS_nat hh hn t ht]
theorem bitP_nat {l n u v : Nat} (hl : l < 512) (hn : n < 512) : fBitP [.int (fl l u), .int (fl n v)] = some (pvP (ones (bitsN l n))) := by
  rw [bitP_ok]
  unfold bitsS bitsN
  rw [clrS_nat hn rowL l (fun _ h => h) hl, setS_nat (clrN_lt n rowL l (fun _ h => h) hl) hn rowL (fun _ h => h)]
theorem clrN_len (n : Nat) : ∀ (l : List Row) (h : Nat), (clrN l h n).1.length ≤ l.length
  | [], _ => Nat.le_refl _
  | r :: t, h => by
    unfold clrN
    cases (tN h r.1 && !tN n r.1)
    · have := clrN_len n t h; simp only [cond_false, List.length_cons]; omega
    · have := clrN_len n t (lowS r.2.2 h); simp only [cond_true, List.length_cons]; omega
theorem setN_len (h n : Nat) : ∀ (l : List Row), (setN l h n).length ≤ l.length
  | [] => Nat.le_refl _
  | r :: t => by
    unfold setN
    cases (tN n r.1 && !tN h r.1)
    · have := setN_len h n t; simp only [cond_false, List.length_cons]; omega
    · have := setN_len h n t; simp only [cond_true, List.length_cons]; omega

/-! ## the law's own changes -/
theorem lc1_all (wd : Fn) (h off : Nat) (q : List PV → Option PV) : ∀ (l : List Row) (acc : List PV), (∀ r ∈ l, r ∈ rowL) →
    compL (ev 35) lc1.elt lc1.t lc1.ifs (lcK1 wd) (lcρ1 (.int h) off) (l.map rowV) acc q = q (acc ++ (lowL off h l).map fun b : Nat => PV.int b)
  | [], acc, _ => by
    show q acc = q _
    simp only [lowL, List.map_nil, List.append_nil]
  | r :: t, acc, hl => by
    have ht : ∀ q ∈ t, q ∈ rowL := fun q hq => hl q (List.mem_cons_of_mem _ hq)
    have e := tc1_all wd h (t.map rowV) off acc q (hl r (by simp))
    unfold tC1 at e
    rw [List.map_cons, e, o1_nat, eqB_nat]
    unfold lowL
    cases tN h r.1 <;> cases Nat.beq r.2.2 off <;> simp only [cond_true, cond_false, Bool.not_true, Bool.not_false]
    · exact lc1_all wd h off q t acc ht
    · exact lc1_all wd h off q t acc ht
    · rw [lc1_all wd h off q t _ ht, List.append_assoc]; rfl
    · exact lc1_all wd h off q t acc ht
theorem sumLOk : ∀ (l : List Nat) (a : Nat), a + l.sum < 1000000000 → sumL (a : Int) (l.map fun b : Nat => (b : Int)) = some ((a + l.sum : Nat) : Int)
  | [], a, _ => by simp [sumL]
  | b :: r, a, h => by
    rw [List.sum_cons] at h
    rw [List.map_cons, List.sum_cons]
    unfold sumL
    have h1 : tiny (b : Int) = true := by unfold tiny; rw [Nat.blt_eq]; omega
    have h2 : tiny ((a : Int) + (b : Int)) = true := by unfold tiny; rw [Nat.blt_eq]; omega
    rw [h1, h2]
    have := sumLOk r (a + b) (by omega)
    rw [Int.natCast_add] at this
    rw [cond_true, cond_true, this, Nat.add_assoc]
theorem call_sum (l : List Nat) (σ : Sto) (k : PV → Option PV) (h : l.sum < 1000000) : callB 9 [.v (.list (l.map fun b : Nat => PV.int b))] σ k = k (.int (l.sum : Nat)) := by
  show opt (allI (l.map fun b : Nat => PV.int b)) (fun ns => opt (sumL 0 ns) fun i => k (.int i)) = _
  have e : (l.map fun b : Nat => PV.int b) = (l.map fun b : Nat => (b : Int)).map PV.int := by rw [List.map_map]; rfl
  have := sumLOk l 0 (by omega)
  rw [e, allI_map, opt_some, show (0 : Int) = ((0 : Nat) : Int) from rfl, this, opt_some, Nat.zero_add]
theorem push00 {cs : List W} {w : W} (h : cs.length ≤ 1000) : pushAt (.c 0) w [cs] = some [cs ++ [w]] := by
  show (bif fits (cs.length + 1) then some [cs ++ [w]] else .none) = _
  rw [fits_ok (by omega)]; rfl
theorem lloop1 (wd : Fn) (fo co1 co2 co3 lo cn1 cn2 cn3 ln : Int) {n v : Nat} (hn : n < 512) (k : Fl → Rho → Sto → Option PV) : ∀ (l : List Row) (h : Nat) (j : J) (fs : List W), (∀ r ∈ l, r ∈ rowL) → h < 512 → fs.length + l.length ≤ 100 →
    ∃ j', forL (ev 39) l1.t l1.body (lK wd) (l.map rowV) (lρ (pn fo co1 co2 co3 lo) (pn (fl n v) cn1 cn2 cn3 ln) (.int h) (.c 0) j) [fs] k =
      k .next (lρ (pn fo co1 co2 co3 lo) (pn (fl n v) cn1 cn2 cn3 ln) (.int (clrN l h n).2) (.c 0) j') [fs ++ (clrN l h n).1.map fun c => .v (st c)]
  | [], h, j, fs, _, _, _ => ⟨j, by
      show k .next _ _ = _
      simp only [clrN, List.map_nil, List.append_nil]⟩
  | r :: t, h, j, fs, hl, hh, hf => by
    have ht : ∀ q ∈ t, q ∈ rowL := fun q hq => hl q (List.mem_cons_of_mem _ hq)
    have hr := hl r (by simp)
    have e := tl_all wd fo (fl n v) co1 co2 co3 lo cn1 cn2 cn3 ln h (t.map rowV) j fs k hr
    unfold turnL at e
    simp only [List.length_cons] at hf
    rw [List.map_cons, e, o1_nat, o0_fl hr hn]
    unfold clrN
    cases tN h r.1 <;> cases tN n r.1 <;> simp only [cond_true, cond_false, Bool.not_true, Bool.not_false, Bool.and_true, Bool.and_false]
    · exact lloop1 wd fo co1 co2 co3 lo cn1 cn2 cn3 ln hn k t h _ fs ht hh (by omega)
    · exact lloop1 wd fo co1 co2 co3 lo cn1 cn2 cn3 ln hn k t h _ fs ht hh (by omega)
    · rw [push00 (by omega)]
      have hs := lowS_lt hr hh
      obtain ⟨j', e⟩ := lloop1 wd fo co1 co2 co3 lo cn1 cn2 cn3 ln hn k t (lowS r.2.2 h) ⟨oi r.1, oi r.2.1, oi r.2.2, j.d, .none, .none⟩ (fs ++ [.v (st r.2.2)]) ht hs (by simp only [List.length_append, List.length_cons, List.length_nil]; omega)
      refine ⟨j', ?_⟩
      show compL _ _ _ _ _ _ _ _ _ = _
      rw [lc1_all wd h r.2.2 _ rowL [] (fun _ h => h), List.nil_append, call_sum _ _ _ (by unfold lowS at hs; omega)]
      rw [List.append_assoc] at e
      exact e
    · exact lloop1 wd fo co1 co2 co3 lo cn1 cn2 cn3 ln hn k t h _ fs ht hh (by omega)
theorem lc2_all (wd : Fn) (cn1 cn2 cn3 ln : Int) {n v h : Nat} (hn : n < 512) (q : List PV → Option PV) : ∀ (l : List Row) (acc : List PV), (∀ r ∈ l, r ∈ rowL) →
    compL (ev 37) lc2.elt lc2.t lc2.ifs (lcK2 wd) (lcρ2 (pn (fl n v) cn1 cn2 cn3 ln) (.int h)) (l.map rowV) acc q = q (acc ++ (setN l h n).map st)
  | [], acc, _ => by
    show q acc = q _
    simp only [setN, List.map_nil, List.append_nil]
  | r :: t, acc, hl => by
    have ht : ∀ q ∈ t, q ∈ rowL := fun q hq => hl q (List.mem_cons_of_mem _ hq)
    have hr := hl r (by simp)
    have e := tc2_all wd (fl n v) cn1 cn2 cn3 ln h (t.map rowV) acc q hr
    unfold tC2 at e
    rw [List.map_cons, e, o1_fl hr hn, o0_nat]
    unfold setN
    cases tN n r.1 <;> cases tN h r.1 <;> simp only [cond_true, cond_false, Bool.not_true, Bool.not_false, Bool.and_true, Bool.and_false]
    · exact lc2_all wd cn1 cn2 cn3 ln hn q t acc ht
    · exact lc2_all wd cn1 cn2 cn3 ln hn q t acc ht
    · rw [lc2_all wd cn1 cn2 cn3 ln hn q t _ ht, List.append_assoc]; rfl
    · exact lc2_all wd cn1 cn2 cn3 ln hn q t acc ht
end Og
end
section
open PySem
namespace Og
noncomputable def Cols : List Int := [-1, 1, 9, 77, 16, 16843267, 16777216]
noncomputable def colS (p : Nat) (d : Int) : List (List Nat) :=
  let first := 20 + 10 * p
  bif W.Z.eqB d (-1) then [[first + 9]] else
  bif W.Z.leB 16777216 d then [[first + 8], [2], [d.toNat / 65536 % 256], [d.toNat / 256 % 256], [d.toNat % 256]] else
  bif (bif Nat.beq p 3 then true else W.Z.leB 16 d) then [[first + 8], [5], [d.toNat]] else
  [[bif W.Z.ltB d 8 then first + d.toNat else first + 60 + d.toNat - 8]]
noncomputable def undL : List (List Nat) := [[24], [4], [21], [4, 3], [4, 4], [4, 5]]
noncomputable def undS (v u : Nat) : List (List Nat) := bif Nat.beq v u then [] else (match undL[u]? with | some q => [q] | .none => [])
noncomputable def colG (p : Nat) (c d : Int) : List (List Nat) := bif W.Z.eqB c d then [] else colS p d
noncomputable def tx (q : List Nat) : PV := .str (txt1 q)
theorem mem_cols {d : Int} {Q : Int → Prop} (h : d ∈ Cols) (a : Q (-1)) (b : Q 1) (c : Q 9) (e : Q 77) (f : Q 16) (g : Q 16843267) (i : Q 16777216) : Q d := by
  simp only [Cols, List.mem_cons, List.not_mem_nil, or_false] at h
  rcases h with rfl | rfl | rfl | rfl | rfl | rfl | rfl <;> assumption
noncomputable def WordsOk (p : Nat) (d : Int) : Prop := fWords [.int p, .int d] = some (.list ((colS p d).map tx))
noncomputable def ColPOk (p : Nat) (d : Int) : Prop := fColP [.int p, .int d] = some (pvP (colS p d))
theorem words_1 {d : Int} (h : d ∈ Cols) : WordsOk 1 d := mem_cols h (by unfold WordsOk; kernel_rfl!) (by unfold WordsOk; kernel_rfl!) (by unfold WordsOk; kernel_rfl!) (by unfold WordsOk; kernel_rfl!) (by unfold WordsOk; kernel_rfl!) (by unfold WordsOk; kernel_rfl!) (by unfold WordsOk; kernel_rfl!)
theorem words_2 {d : Int} (h : d ∈ Cols) : WordsOk 2 d := mem_cols h (by unfold WordsOk; kernel_rfl!) (by unfold WordsOk; kernel_rfl!) (by unfold WordsOk; kernel_rfl!) (by unfold WordsOk; kernel_rfl!) (by unfold WordsOk; kernel_rfl!) (by unfold WordsOk; kernel_rfl!) (by unfold WordsOk; kernel_rfl!)
theorem words_3 {d : Int} (h : d ∈ Cols) : WordsOk 3 d := mem_cols h (by unfold WordsOk; kernel_rfl!) (by unfold WordsOk; kernel_rfl!) (by unfold WordsOk; kernel_rfl!) (by unfold WordsOk; kernel_rfl!) (by unfold WordsOk; kernel_rfl!) (by unfold WordsOk; kernel_rfl!) (by unfold WordsOk; kernel_rfl!)
theorem colP_1 {d : Int} (h : d ∈ Cols) : ColPOk 1 d := mem_cols h (by unfold ColPOk; kernel_rfl!) (by unfold ColPOk; kernel_rfl!) (by unfold ColPOk; kernel_rfl!) (by unfold ColPOk; kernel_rfl!) (by unfold ColPOk; kernel_rfl!) (by unfold ColPOk; kernel_rfl!) (by unfold ColPOk; kernel_rfl!)
theorem colP_2 {d : Int} (h : d ∈ Cols) : ColPOk 2 d := mem_cols h (by unfold ColPOk; kernel_rfl!) (by unfold ColPOk; kernel_rfl!) (by unfold ColPOk; kernel_rfl!) (by unfold ColPOk; kernel_rfl!) (by unfold ColPOk; kernel_rfl!) (by unfold ColPOk; kernel_rfl!) (by unfold ColPOk; kernel_rfl!)
theorem colP_3 {d : Int} (h : d ∈ Cols) : ColPOk 3 d := mem_cols h (by unfold ColPOk; kernel_rfl!) (by unfold ColPOk; kernel_rfl!) (by unfold ColPOk; kernel_rfl!) (by unfold ColPOk; kernel_rfl!) (by unfold ColPOk; kernel_rfl!) (by unfold ColPOk; kernel_rfl!) (by unfold ColPOk; kernel_rfl!)
noncomputable def ColLen (p : Nat) (d : Int) : Prop := (colS p d).length ≤ 5 ∧ ∀ q ∈ colS p d, Sm1 q
theorem sm1_one {n : Nat} (h : n < 256) : Sm1 [n] := ⟨by simp, by simp, by simpa using h⟩
theorem colS_len (p : Nat) (d : Int) : (colS p d).length ≤ 5 := by
  unfold colS
  cases W.Z.eqB d (-1)
  · cases W.Z.leB 16777216 d
    · dsimp only [cond_false]
      cases (bif Nat.beq p 3 then true else W.Z.leB 16 d) <;> simp
    · simp
  · simp
theorem colG_len (p : Nat) (c d : Int) : (colG p c d).length ≤ 5 := by
  unfold colG
  have := colS_len p d
  cases W.Z.eqB c d
  · exact this
  · simp
theorem undS_len (v u : Nat) : (undS v u).length ≤ 1 := by
  unfold undS
  cases Nat.beq v u
  · dsimp only [cond_false]
    cases undL[u]? <;> simp
  · simp
theorem six {u : Nat} {Q : Nat → Prop} (h : u < 6) (a : Q 0) (b : Q 1) (c : Q 2) (d : Q 3) (e : Q 4) (f : Q 5) : Q u := by
  match u, h with
  | 0, _ => exact a
  | 1, _ => exact b
  | 2, _ => exact c
  | 3, _ => exact d
  | 4, _ => exact e
  | 5, _ => exact f
theorem undP_ok {v u : Nat} (hv : v < 6) (hu : u < 6) : fUndP [.int v, .int u] = some (pvP (undS v u)) := by
  refine six (Q := fun v => fUndP [.int v, .int u] = some (pvP (undS v u))) hv ?_ ?_ ?_ ?_ ?_ ?_ <;>
    refine six (Q := fun u => fUndP [.int _, .int u] = some (pvP (undS _ u))) hu ?_ ?_ ?_ ?_ ?_ ?_ <;> kernel_rfl!
noncomputable def HasL (w : W) (gs : List W) (L : List PV) : Prop := (w = .c 1 ∧ gs = L.map W.v) ∨ w = .v (.list L)
theorem HasL.list {w : W} {fs gs : List W} {L : List PV} (h : HasL w gs L) : listV [fs, gs] w = some L := by
  rcases h with ⟨rfl, rfl⟩ | rfl
  · exact allV_map L
  · rfl
theorem HasL.add {w : W} {fs gs : List W} {L y : List PV} (h : HasL w gs L) (n : L.length + y.length ≤ 1000) (k : W → Sto → Option PV) : addW false w (.v (.list y)) [fs, gs] k = k (.v (.list (L ++ y))) [fs, gs] := by
  have e : addW false w (.v (.list y)) [fs, gs] k = opt (listV [fs, gs] w) fun x => bif fits (x.length + y.length) then k (.v (.list (x ++ y))) [fs, gs] else .none := by
    rcases h with ⟨rfl, rfl⟩ | rfl
    · rfl
    · rfl
  rw [e, h.list, opt_some, fits_ok (by omega)]; rfl
theorem HasL.fz {w : W} {fs gs : List W} {L : List PV} (h : HasL w gs L) : fz [fs, gs] w = some (.list L) := by
  rcases h with ⟨rfl, rfl⟩ | rfl
  · show opt (fzL [fs, L.map W.v] (L.map W.v)) (fun ds => some (PV.list ds)) = _
    have : ∀ (σ : Sto) (l : List PV), fzL σ (l.map W.v) = some l := by
      intro σ l
      induction l with
      | nil => rfl
      | cons d r ih =>
        show opt (fzL σ (r.map W.v)) (fun l => some (d :: l)) = _
        rw [ih]
    rw [this]
  · rfl
section
variable (fo fn co1 co2 co3 lo cn1 cn2 cn3 ln low : Int) (X : List PV) (j : J) (fs gs : List W) (k : Fl → Rho → Sto → Option PV)
noncomputable def stepC (p : Nat) (c d : Int) : Prop := ∀ (w : W) (L : List PV) (j : J), HasL w gs L → L.length ≤ 100 → ∃ w' j', HasL w' gs (L ++ (colG p c d).map tx) ∧
  forL (ev 39) l4.t l4.body (lK fWords) (.int p :: X) (lρ (pn fo co1 co2 co3 lo) (pn fn cn1 cn2 cn3 ln) (.int low) w j) [fs, gs] k =
  forL (ev 39) l4.t l4.body (lK fWords) X (lρ (pn fo co1 co2 co3 lo) (pn fn cn1 cn2 cn3 ln) (.int low) w' j') [fs, gs] k
theorem stepC_of (p : Nat) (c d : Int) (h : WordsOk p d) (t1 : ∀ j gs, turn4 fWords fo fn co1 co2 co3 lo cn1 cn2 cn3 ln low X j fs gs k p c d (.c 1))
    (t2 : ∀ j L, turn4 fWords fo fn co1 co2 co3 lo cn1 cn2 cn3 ln low X j fs gs k p c d (.v (.list L))) : stepC fo fn co1 co2 co3 lo cn1 cn2 cn3 ln low X fs gs k p c d := by
  intro w L j hw hL
  have t : turn4 fWords fo fn co1 co2 co3 lo cn1 cn2 cn3 ln low X j fs gs k p c d w := by
    rcases hw with ⟨rfl, rfl⟩ | rfl
    · exact t1 j _
    · exact t2 j L
  unfold turn4 at t
  rw [t]
  unfold WordsOk at h
  have hl := colS_len p d
  unfold colG
  cases W.Z.eqB c d
  · simp only [Bool.not_false, cond_true, cond_false]
    rw [h]
    refine ⟨_, ⟨j.a, j.b, j.c, oi p, .none, .none⟩, .inr rfl, ?_⟩
    rw [bnd_some, hw.add (by rw [List.length_map]; omega)]
  · simp only [Bool.not_true, cond_true, cond_false, List.map_nil, List.append_nil]
    exact ⟨_, ⟨j.a, j.b, j.c, oi p, .none, .none⟩, hw, rfl⟩
end
/-- the changes from one look to another -/
noncomputable def chgN (l u : Nat) (a b c : Int) (l' u' : Nat) (a' b' c' : Int) : List (List Nat) :=
  ones (bitsN l l') ++ (undS u u' ++ (colG 1 a a' ++ (colG 2 b b' ++ colG 3 c c')))
theorem fdiv512 {l u : Nat} (h : l < 512) : (fl l u).fdiv 512 = (u : Nat) := by
  unfold fl
  rw [show (512 : Int) = ((512 : Nat) : Int) from rfl, fdiv_nat]
  congr 1; omega
theorem fmod512 {l u : Nat} (h : l < 512) : (fl l u).fmod 512 = (l : Nat) := by
  unfold fl
  rw [show (512 : Int) = ((512 : Nat) : Int) from rfl, fmod_nat]
  congr 1; omega
theorem addW_push {x y : List PV} (h : x.length + y.length ≤ 1000) (k : W → Sto → Option PV) : addW true (.c 0) (.v (.list y)) [x.map W.v] k = k (.c 1) [x.map W.v, (x ++ y).map W.v] := by
  show opt (allV (x.map W.v)) (fun x' => bif fits (x'.length + y.length) then k (.c 1) ([x.map W.v] ++ [(x' ++ y).map W.v]) else .none) = _
  rw [allV_map, opt_some, fits_ok (by omega)]; rfl
theorem sub_un {u : Nat} (h : u < 6) (σ : Sto) (k : W → Sto → Option PV) : ∃ q, undL[u]? = some q ∧ subK (.v (.list unW)) (.v (.int u)) σ k = k (.v (tx q)) σ :=
  six (Q := fun u => ∃ q, undL[u]? = some q ∧ subK (.v (.list unW)) (.v (.int u)) σ k = k (.v (tx q)) σ) h
    ⟨[24], rfl, by kernel_rfl!⟩ ⟨[4], rfl, by kernel_rfl!⟩ ⟨[21], rfl, by kernel_rfl!⟩ ⟨[4, 3], rfl, by kernel_rfl!⟩ ⟨[4, 4], rfl, by kernel_rfl!⟩ ⟨[4, 5], rfl, by kernel_rfl!⟩
theorem lchg_ok {l u l' u' : Nat} {a b c lk a' b' c' lk' : Int} (hl : l < 512) (hl' : l' < 512) (hu' : u' < 6) (ha : a' ∈ Cols) (hb : b' ∈ Cols) (hc : c' ∈ Cols) :
    fLChg [pn (fl l u) a b c lk, pn (fl l' u') a' b' c' lk'] = some (.list ((chgN l u a b c l' u' a' b' c').map tx)) := by
  unfold fLChg
  rw [lchg_s0, fmod512 hl]
  obtain ⟨j, e⟩ := lloop1 fWords (fl l u) a b c lk a' b' c' lk' (v := u') hl' (contS "_law_changes" 2 (lK fWords)) rowL l ⟨.none, .none, .none, .none, .none, .none⟩ [] (fun _ h => h) hl (by decide)
  rw [e, lchg_s2, lc2_all fWords a' b' c' lk' hl' _ rowL [] (fun _ h => h), List.nil_append, List.nil_append]
  have e1 : ((clrN rowL l l').1.map fun c => W.v (st c)) = ((clrN rowL l l').1.map st).map W.v := by rw [List.map_map]; rfl
  have n1 := clrN_len l' rowL l
  have n2 := setN_len (clrN rowL l l').2 l' rowL
  have n3 : rowL.length = 9 := rfl
  rw [e1, addW_push (by simp only [List.length_map]; omega), lchg_s3, fdiv512 hl, fdiv512 hl', eqB_nat, ← List.map_append]
  have hst : ∀ n : Nat, st n = tx [n] := fun n => rfl
  have e2 : ((clrN rowL l l').1 ++ setN rowL (clrN rowL l l').2 l').map st = (ones (bitsN l l')).map tx := by
    unfold ones bitsN; rw [List.map_map]; rfl
  rw [e2]
  have n4 : ((ones (bitsN l l')).map tx).length ≤ 18 := by rw [← e2]; simp only [List.length_map, List.length_append]; omega
  -- the underline
  have key : ∃ j', (bif !Nat.beq u u' then subK (.v (.list unW)) (.v (.int u')) [((clrN rowL l l').1.map st).map W.v, ((ones (bitsN l l')).map tx).map W.v] (fun x σ => bnd (pushAt (.c 1) x σ) fun σ =>
      contS "_law_changes" 4 (lK fWords) .next (lρ (pn (fl l u) a b c lk) (pn (fl l' u') a' b' c' lk') (.int (clrN rowL l l').2) (.c 1) j) σ)
    else contS "_law_changes" 4 (lK fWords) .next (lρ (pn (fl l u) a b c lk) (pn (fl l' u') a' b' c' lk') (.int (clrN rowL l l').2) (.c 1) j) [((clrN rowL l l').1.map st).map W.v, ((ones (bitsN l l')).map tx).map W.v]) =
    contS "_law_changes" 4 (lK fWords) .next (lρ (pn (fl l u) a b c lk) (pn (fl l' u') a' b' c' lk') (.int (clrN rowL l l').2) (.c 1) j') [((clrN rowL l l').1.map st).map W.v, ((ones (bitsN l l') ++ undS u u').map tx).map W.v] := by
    refine ⟨j, ?_⟩
    unfold undS
    cases Nat.beq u u'
    · simp only [Bool.not_false, cond_true, cond_false]
      obtain ⟨q, hq, e⟩ := sub_un hu' [((clrN rowL l l').1.map st).map W.v, ((ones (bitsN l l')).map tx).map W.v] (fun x σ => bnd (pushAt (.c 1) x σ) fun σ =>
        contS "_law_changes" 4 (lK fWords) .next (lρ (pn (fl l u) a b c lk) (pn (fl l' u') a' b' c' lk') (.int (clrN rowL l l').2) (.c 1) j) σ)
      rw [e, hq, push1 (by rw [List.length_map]; omega), bnd_some]
      simp only [List.map_append, List.map_cons, List.map_nil]
    · simp only [Bool.not_true, cond_true, cond_false, List.append_nil]
  obtain ⟨j', key⟩ := key
  rw [key, lchg_s4]
  have n5 := undS_len u u'
  have hL : ((ones (bitsN l l') ++ undS u u').map tx).length ≤ 19 := by
    rw [List.map_append, List.length_append, List.length_map (as := undS u u')]; omega
  obtain ⟨w1, j1, h1, e1⟩ := stepC_of (fl l u) (fl l' u') a b c lk a' b' c' lk' (clrN rowL l l').2 [.int 2, .int 3] (((clrN rowL l l').1.map st).map W.v) (((ones (bitsN l l') ++ undS u u').map tx).map W.v) (contS "_law_changes" 5 (lK fWords)) 1 a a' (words_1 ha)
    (fun _ _ => t4_1c ..) (fun _ _ => t4_1v ..) (.c 1) _ j' (.inl ⟨rfl, rfl⟩) (by omega)
  have m1 := colG_len 1 a a'
  obtain ⟨w2, j2, h2, e2⟩ := stepC_of (fl l u) (fl l' u') a b c lk a' b' c' lk' (clrN rowL l l').2 [.int 3] (((clrN rowL l l').1.map st).map W.v) (((ones (bitsN l l') ++ undS u u').map tx).map W.v) (contS "_law_changes" 5 (lK fWords)) 2 b b' (words_2 hb)
    (fun _ _ => t4_2c ..) (fun _ _ => t4_2v ..) w1 _ j1 h1 (by rw [List.length_append, List.length_map (as := colG 1 a a')]; omega)
  have m2 := colG_len 2 b b'
  obtain ⟨w3, j3, h3, e3⟩ := stepC_of (fl l u) (fl l' u') a b c lk a' b' c' lk' (clrN rowL l l').2 [] (((clrN rowL l l').1.map st).map W.v) (((ones (bitsN l l') ++ undS u u').map tx).map W.v) (contS "_law_changes" 5 (lK fWords)) 3 c c' (words_3 hc)
    (fun _ _ => t4_3c ..) (fun _ _ => t4_3v ..) w2 _ j2 h2 (by rw [List.length_append, List.length_append, List.length_map (as := colG 1 a a'), List.length_map (as := colG 2 b b')]; omega)
  rw [show (PV.int 1 : PV) = .int ((1 : Nat) : Int) from rfl, show (PV.int 2 : PV) = .int ((2 : Nat) : Int) from rfl, show (PV.int 3 : PV) = .int ((3 : Nat) : Int) from rfl] at *
  rw [e1, e2, e3]
  show contS "_law_changes" 5 (lK fWords) .next _ _ = _
  rw [lchg_s5, h3.fz]
  unfold chgN
  simp only [List.map_append, List.append_assoc]
end Og
end
section
open PySem
namespace Og
noncomputable def addE (w1 w2 : W) (σ : Sto) (k : W → Sto → Option PV) : Option PV := binW false e0 e0 .Add w1 w2 σ k
/-! ## sgr_changes -/
noncomputable def cK (bt ud uo cp : Fn) : Cx := mk "sgr_changes" [("sgr_bit_params", bt), ("sgr_under_params", ud), ("under_of", uo), ("sgr_colour_params", cp)] []
noncomputable def cρ (o n : PV) (w : Option W) (p : Option W) : Rho := env "sgr_changes" [ov o, ov n, w, p]
noncomputable def c2 : Lp := lp "sgr_changes" 2
section
variable (bt ud uo cp : Fn) (fo fn a b c lk a' b' c' lk' : Int) (X L : List PV) (p : Option W) (k : Fl → Rho → Sto → Option PV)
theorem chg_s0 : callF "sgr_changes" [("sgr_bit_params", bt), ("sgr_under_params", ud), ("under_of", uo), ("sgr_colour_params", cp)] [] [pn fo a b c lk, pn fn a' b' c' lk'] =
    bnd (bt [.int fo, .int fn]) fun x => contS "sgr_changes" 1 (cK bt ud uo cp) .next (cρ (pn fo a b c lk) (pn fn a' b' c' lk') (ov x) .none) [] := by kernel_rfl!
theorem chg_s1 : contS "sgr_changes" 1 (cK bt ud uo cp) .next (cρ (pn fo a b c lk) (pn fn a' b' c' lk') (ov (.list L)) p) [] =
    bnd (uo [.int fo]) fun x => bnd (uo [.int fn]) fun y => bnd (ud [x, y]) fun z => addE (.v (.list L)) (.v z) [] fun w σ => contS "sgr_changes" 2 (cK bt ud uo cp) .next (cρ (pn fo a b c lk) (pn fn a' b' c' lk') (some w) p) σ := by kernel_rfl!
theorem chg_s2 : contS "sgr_changes" 2 (cK bt ud uo cp) .next (cρ (pn fo a b c lk) (pn fn a' b' c' lk') (ov (.list L)) p) [] =
    forL (ev 39) c2.t c2.body (cK bt ud uo cp) [.int 1, .int 2, .int 3] (cρ (pn fo a b c lk) (pn fn a' b' c' lk') (ov (.list L)) p) [] (contS "sgr_changes" 3 (cK bt ud uo cp)) := by kernel_rfl!
theorem chg_s3 : contS "sgr_changes" 3 (cK bt ud uo cp) .next (cρ (pn fo a b c lk) (pn fn a' b' c' lk') (ov (.list L)) p) [] = some (.list L) := by kernel_rfl!
noncomputable def turnG (q : Nat) (x y : Int) : Prop := forL (ev 39) c2.t c2.body (cK bt ud uo cp) (.int q :: X) (cρ (pn fo a b c lk) (pn fn a' b' c' lk') (ov (.list L)) p) [] k =
  bif !W.Z.eqB x y then bnd (cp [.int q, .int y]) (fun z => addE (.v (.list L)) (.v z) [] fun w σ => forL (ev 39) c2.t c2.body (cK bt ud uo cp) X (cρ (pn fo a b c lk) (pn fn a' b' c' lk') (some w) (oi q)) σ k)
  else forL (ev 39) c2.t c2.body (cK bt ud uo cp) X (cρ (pn fo a b c lk) (pn fn a' b' c' lk') (ov (.list L)) (oi q)) [] k
theorem tg_1 : turnG bt ud uo cp fo fn a b c lk a' b' c' lk' X L p k 1 a a' := by unfold turnG; kernel_rfl!
theorem tg_2 : turnG bt ud uo cp fo fn a b c lk a' b' c' lk' X L p k 2 b b' := by unfold turnG; kernel_rfl!
theorem tg_3 : turnG bt ud uo cp fo fn a b c lk a' b' c' lk' X L p k 3 c c' := by unfold turnG; kernel_rfl!
end
/-! ## pen_told -/
noncomputable def tellK (nr : Fn) (can : Bool) (c : Int) (k : PV → Option PV) : Option PV := bif W.Z.leB 16777216 c then (bif !can then bnd (nr [.int (c - 16777216)]) k else k (.int c)) else k (.int c)
theorem told_s (nr : Fn) (f a b c lk : Int) (can : Bool) : callF "pen_told" [("is_direct", fIsDirect), ("nearest_of_256", nr)] [] [pn f a b c lk, .bool can] =
    tellK nr can a fun x => tellK nr can b fun y => tellK nr can c fun z => some (.tup [.int f, x, y, z, .int 0]) := by kernel_rfl!
/-! ## sgr_params -/
noncomputable def sK (pt ch po : Fn) : Cx := mk "sgr_params" [("pen_told", pt), ("sgr_changes", ch), ("params_octets", po)] []
noncomputable def sρ (o n can : PV) (h t c a : Option W) : Rho := env "sgr_params" [ov o, ov n, ov can, h, t, c, a]
section
variable (pt ch po : Fn) (o n can x y : PV) (fo fn a b c lk a' b' c' lk' : Int) (L M : List PV)
theorem sgrp_s0 : callF "sgr_params" [("pen_told", pt), ("sgr_changes", ch), ("params_octets", po)] [] [o, n, can] =
    bnd (pt [o, can]) fun h => bnd (pt [n, can]) fun t => contS "sgr_params" 1 (sK pt ch po) .next (sρ o n can (ov h) (ov t) .none .none) [] := by kernel_rfl!
theorem sgrp_s1 : contS "sgr_params" 1 (sK pt ch po) .next (sρ o n can (ov (pn fo a b c lk)) (ov (pn fn a' b' c' lk')) .none .none) [] =
    bif eqvL [.int fo, .int a, .int b, .int c, .int lk] [.int fn, .int a', .int b', .int c', .int lk'] then some .none else
      contS "sgr_params" 2 (sK pt ch po) .next (sρ o n can (ov (pn fo a b c lk)) (ov (pn fn a' b' c' lk')) .none .none) [] := by kernel_rfl!
theorem sgrp_s2 : contS "sgr_params" 2 (sK pt ch po) .next (sρ o n can (ov x) (ov y) .none .none) [] =
    bnd (ch [x, y]) fun z => bnd (ch [pn 0 (-1) (-1) (-1) 0, y]) fun t => contS "sgr_params" 4 (sK pt ch po) .next (sρ o n can (ov x) (ov y) (ov z) (ov t)) [] := by kernel_rfl!
theorem sgrp_s4 (z : PV) : contS "sgr_params" 4 (sK pt ch po) .next (sρ o n can (ov x) (ov y) (ov z) (ov (.list L))) [] =
    bif W.Z.eqB (L.length : Int) 0 then contS "sgr_params" 5 (sK pt ch po) .next (sρ o n can (ov x) (ov y) (ov z) (ov (.list []))) []
    else addE (.v (.list [.list [.int 0]])) (.v (.list L)) [] fun w σ => contS "sgr_params" 5 (sK pt ch po) .next (sρ o n can (ov x) (ov y) (ov z) (some w)) σ := by kernel_rfl!
theorem sgrp_s5 (z t : PV) : contS "sgr_params" 5 (sK pt ch po) .next (sρ o n can (ov x) (ov y) (ov z) (ov t)) [] =
    bnd (po [z]) fun b1 => callB 1 [.v b1] [] fun n1 => bnd (po [t]) fun b2 => callB 1 [.v b2] [] fun n2 => bnd (cmpV .LtE n1 n2) fun q => bif q then some z else some t := by kernel_rfl!
/-! ## sgr_octets, pen_octets -/
noncomputable def oK (sp po : Fn) : Cx := mk "sgr_octets" [("sgr_params", sp), ("params_octets", po)] []
noncomputable def oρ (o n can : PV) (p : Option W) : Rho := env "sgr_octets" [ov o, ov n, ov can, p]
theorem sgr_s0 (sp : Fn) : callF "sgr_octets" [("sgr_params", sp), ("params_octets", po)] [] [o, n, can] = bnd (sp [o, n, can]) fun p => contS "sgr_octets" 1 (oK sp po) .next (oρ o n can (ov p)) [] := by kernel_rfl!
theorem sgr_s1n (sp : Fn) : contS "sgr_octets" 1 (oK sp po) .next (oρ o n can (ov .none)) [] = some (.bytes []) := by kernel_rfl!
theorem sgr_s1 (sp : Fn) : contS "sgr_octets" 1 (oK sp po) .next (oρ o n can (ov (.list L))) [] =
    bnd (po [.list L]) fun b => addE (.v (.bytes [27, 91])) (.v b) [] fun w σ => addE w (.v (.bytes [109])) σ fun w σ => fz σ w := by kernel_rfl!
theorem peno_s : callF "pen_octets" [("sgr_changes", ch), ("pen_told", pt), ("params_octets", po)] [] [o] =
    bnd (pt [o, .bool true]) fun t => bnd (ch [pn 0 (-1) (-1) (-1) 0, t]) fun x => addE (.v (.list [.list [.int 0]])) (.v x) [] fun w _ => bnd (allV [w]) fun ds => bnd (po ds) some := by kernel_rfl!
end
/-! ## _law_least -/
noncomputable def eK (lc : Fn) : Cx := mk "_law_least" [("_law_changes", lc)] []
noncomputable def eρ (o n : PV) (p a : Option W) : Rho := env "_law_least" [ov o, ov n, p, a]
noncomputable def plainT : PV := pn 0 (-1) (-1) (-1) 0
section
variable (lc : Fn) (o : PV) (fn a' b' c' lk' : Int) (L : List PV)
theorem least_s0 : callF "_law_least" [("_law_changes", lc)] [] [o, pn fn a' b' c' lk'] =
    bif eqvL [.int fn, .int a', .int b', .int c'] [.int 0, .int (-1), .int (-1), .int (-1)] then contS "_law_least" 2 (eK lc) .next (eρ o (pn fn a' b' c' lk') (ov plainT) (ov (.list []))) []
    else bnd (lc [plainT, pn fn a' b' c' lk']) fun x => addE (.v (.list [.str [48]])) (.v x) [] fun w σ => contS "_law_least" 2 (eK lc) .next (eρ o (pn fn a' b' c' lk') (ov plainT) (some w)) σ := by kernel_rfl!
noncomputable def joinN (l : List PV) (k : Int → Option PV) : Option PV := bnd (allS l) fun bs => bif fits ((glue [59] bs).length + 1) then k (glue [59] bs).length else .none
theorem least_s2 (n p : PV) : contS "_law_least" 2 (eK lc) .next (eρ o n (ov p) (ov (.list L))) [] =
    bnd (lc [o, n]) fun x => bnd (listV [] (.v x)) fun l => joinN l fun i => joinN L fun j => some (.int (bif W.Z.ltB j i then j else i)) := by kernel_rfl!
end
end Og
end
section
open PySem
namespace Og
noncomputable def uOk (m : Nat) : Bool := Nat.beq (m &&& 3584) (m / 512 * 512)
theorem u_all : (List.range 3072).all uOk = true := by kernel_rfl!
theorem under_s (f : Int) : fUnderOf [.int f] = some (.int ((Builtin.bitAnd f 3584).fdiv (2 ^ (9 : Nat)))) := by kernel_rfl!
theorem under_ok {l u : Nat} (hl : l < 512) (hu : u < 6) : fUnderOf [.int (fl l u)] = some (.int u) := by
  rw [under_s]
  unfold fl
  have := List.all_eq_true.mp u_all (l + 512 * u) (List.mem_range.mpr (by omega))
  have := Nat.eq_of_beq_eq_true this
  rw [show (3584 : Int) = ((3584 : Nat) : Int) from rfl, and_nat, this, show ((2 : Int) ^ (9 : Nat)) = ((512 : Nat) : Int) from rfl, fdiv_nat]
  congr 3; omega
theorem addE_list {x y : List PV} (h : x.length + y.length ≤ 1000) (k : W → Sto → Option PV) : addE (.v (.list x)) (.v (.list y)) [] k = k (.v (.list (x ++ y))) [] := by
  show (bif fits (x.length + y.length) then k (.v (.list (x ++ y))) [] else .none) = _
  rw [fits_ok (by omega)]; rfl
theorem pvP_len (l : List (List Nat)) : (l.map pv1).length = l.length := List.length_map ..
theorem chgN_len (l u : Nat) (a b c : Int) (l' u' : Nat) (a' b' c' : Int) : (chgN l u a b c l' u' a' b' c').length ≤ 34 := by
  unfold chgN ones bitsN
  have n1 := clrN_len l' rowL l
  have n2 := setN_len (clrN rowL l l').2 l' rowL
  have n3 : rowL.length = 9 := rfl
  have n4 := undS_len u u'
  have n5 := colG_len 1 a a'
  have n6 := colG_len 2 b b'
  have n7 := colG_len 3 c c'
  simp only [List.length_append, List.length_map]
  omega
section
variable (fo fn : Int) (a b c lk a' b' c' lk' : Int) (X : List PV) (k : Fl → Rho → Sto → Option PV)
theorem stepG_of (q : Nat) (x y : Int) (h : ColPOk q y) (t : ∀ L p, turnG fBitP fUndP fUnderOf fColP fo fn a b c lk a' b' c' lk' X L p k q x y) (l : List (List Nat)) (p : Option W) (hl : l.length ≤ 100) :
    forL (ev 39) c2.t c2.body (cK fBitP fUndP fUnderOf fColP) (.int q :: X) (cρ (pn fo a b c lk) (pn fn a' b' c' lk') (ov (pvP l)) p) [] k =
    forL (ev 39) c2.t c2.body (cK fBitP fUndP fUnderOf fColP) X (cρ (pn fo a b c lk) (pn fn a' b' c' lk') (ov (pvP (l ++ colG q x y))) (oi q)) [] k := by
  have t := t (l.map pv1) p
  unfold turnG at t
  show forL _ _ _ _ _ (cρ _ _ (ov (.list (l.map pv1))) _) _ _ = _
  rw [t]
  unfold ColPOk at h
  have hc := colS_len q y
  unfold colG
  cases W.Z.eqB x y
  · simp only [Bool.not_false, cond_true, cond_false]
    rw [h, bnd_some]
    unfold pvP
    rw [addE_list (by simp only [List.length_map]; omega), ← List.map_append]; rfl
  · simp only [Bool.not_true, cond_true, cond_false, List.append_nil]; rfl
end
theorem chg_ok {l u l' u' : Nat} {a b c lk a' b' c' lk' : Int} (hl : l < 512) (hl' : l' < 512) (hu : u < 6) (hu' : u' < 6) (ha : a' ∈ Cols) (hb : b' ∈ Cols) (hc : c' ∈ Cols) :
    fChg [pn (fl l u) a b c lk, pn (fl l' u') a' b' c' lk'] = some (pvP (chgN l u a b c l' u' a' b' c')) := by
  unfold fChg
  rw [chg_s0, bitP_nat hl hl', bnd_some]
  unfold pvP
  rw [chg_s1, under_ok hl hu, bnd_some, under_ok hl' hu', bnd_some, undP_ok hu hu', bnd_some]
  have n1 := clrN_len l' rowL l
  have n2 := setN_len (clrN rowL l l').2 l' rowL
  have n3 : rowL.length = 9 := rfl
  have n4 := undS_len u u'
  have n5 := colG_len 1 a a'
  have n6 := colG_len 2 b b'
  have n7 : (ones (bitsN l l')).length ≤ 18 := by unfold ones bitsN; simp only [List.length_map, List.length_append]; omega
  unfold pvP
  rw [addE_list (by simp only [List.length_map]; omega), ← List.map_append]
  show contS _ _ _ _ (cρ _ _ (ov (.list _)) _) _ = _
  rw [chg_s2]
  have e1 := stepG_of (fl l u) (fl l' u') a b c lk a' b' c' lk' [.int 2, .int 3] (contS "sgr_changes" 3 (cK fBitP fUndP fUnderOf fColP)) 1 a a' (colP_1 ha) (fun _ _ => tg_1 ..) (ones (bitsN l l') ++ undS u u') .none (by rw [List.length_append]; omega)
  have e2 := stepG_of (fl l u) (fl l' u') a b c lk a' b' c' lk' [.int 3] (contS "sgr_changes" 3 (cK fBitP fUndP fUnderOf fColP)) 2 b b' (colP_2 hb) (fun _ _ => tg_2 ..) (ones (bitsN l l') ++ undS u u' ++ colG 1 a a') (oi 1) (by simp only [List.length_append]; omega)
  have e3 := stepG_of (fl l u) (fl l' u') a b c lk a' b' c' lk' [] (contS "sgr_changes" 3 (cK fBitP fUndP fUnderOf fColP)) 3 c c' (colP_3 hc) (fun _ _ => tg_3 ..) (ones (bitsN l l') ++ undS u u' ++ colG 1 a a' ++ colG 2 b b') (oi 2) (by simp only [List.length_append]; omega)
  refine e1.trans (e2.trans (e3.trans ?_))
  show contS "sgr_changes" 3 _ .next (cρ _ _ (ov (.list _)) _) _ = _
  rw [chg_s3]
  unfold chgN
  simp only [List.map_append, List.append_assoc]
/-! ## the colours as told -/
noncomputable def Six : List Int := [-1, 1, 9, 77, 16843267, 16777216]
theorem mem_six {d : Int} {Q : Int → Prop} (h : d ∈ Six) (a : Q (-1)) (b : Q 1) (c : Q 9) (e : Q 77) (g : Q 16843267) (i : Q 16777216) : Q d := by
  simp only [Six, List.mem_cons, List.not_mem_nil, or_false] at h
  rcases h with rfl | rfl | rfl | rfl | rfl | rfl <;> assumption
noncomputable def told (can : Bool) (c : Int) : Int := bif can then c else (bif W.Z.leB 16777216 c then 16 else c)
theorem told_mem (can : Bool) {c : Int} (h : c ∈ Six) : told can c ∈ Cols := by
  cases can
  · exact mem_six (Q := fun c => told false c ∈ Cols) h (by decide) (by decide) (by decide) (by decide) (by decide) (by decide)
  · exact mem_six (Q := fun c => told true c ∈ Cols) h (by decide) (by decide) (by decide) (by decide) (by decide) (by decide)
theorem tell_ok (can : Bool) {c : Int} (h : c ∈ Six) (k : PV → Option PV) : tellK fNear can c k = k (.int (told can c)) := by
  cases can
  · refine mem_six (Q := fun c => tellK fNear false c k = k (.int (told false c))) h rfl rfl rfl rfl ?_ ?_
    · show bnd (fNear [.int (16843267 - 16777216)]) k = _
      rw [show (16843267 - 16777216 : Int) = 66051 from rfl, near_1]; rfl
    · show bnd (fNear [.int (16777216 - 16777216)]) k = _
      rw [show (16777216 - 16777216 : Int) = 0 from rfl, near_0]; rfl
  · exact mem_six (Q := fun c => tellK fNear true c k = k (.int (told true c))) h rfl rfl rfl rfl rfl rfl
theorem told_ok (f lk : Int) (can : Bool) {a b c : Int} (ha : a ∈ Six) (hb : b ∈ Six) (hc : c ∈ Six) : fTold [pn f a b c lk, .bool can] = some (pn f (told can a) (told can b) (told can c) 0) := by
  unfold fTold
  rw [told_s, tell_ok can ha, tell_ok can hb, tell_ok can hc]; rfl
/-! ## small numbers -/
theorem clrN_mem (n : Nat) : ∀ (t : List Row) (h : Nat), (∀ r ∈ t, r ∈ rowL) → ∀ c ∈ (clrN t h n).1, c < 256
  | [], h, _, c, hc => by cases hc
  | r :: t, h, hl, c, hc => by
    have ht : ∀ q ∈ t, q ∈ rowL := fun q hq => hl q (List.mem_cons_of_mem _ hq)
    unfold clrN at hc
    revert hc
    cases (tN h r.1 && !tN n r.1)
    · exact clrN_mem n t h ht c
    · intro hc
      rcases List.mem_cons.mp hc with rfl | hc
      · exact mem_rowL (Q := fun r => r.2.2 < 256) (hl r (by simp)) (by decide) (by decide) (by decide) (by decide) (by decide) (by decide) (by decide) (by decide) (by decide)
      · exact clrN_mem n t _ ht c hc
theorem setN_mem (h n : Nat) : ∀ (t : List Row), (∀ r ∈ t, r ∈ rowL) → ∀ c ∈ setN t h n, c < 256
  | [], _, c, hc => by cases hc
  | r :: t, hl, c, hc => by
    have ht : ∀ q ∈ t, q ∈ rowL := fun q hq => hl q (List.mem_cons_of_mem _ hq)
    unfold setN at hc
    revert hc
    cases (tN n r.1 && !tN h r.1)
    · exact setN_mem h n t ht c
    · intro hc
      rcases List.mem_cons.mp hc with rfl | hc
      · exact mem_rowL (Q := fun r => r.2.1 < 256) (hl r (by simp)) (by decide) (by decide) (by decide) (by decide) (by decide) (by decide) (by decide) (by decide) (by decide)
      · exact setN_mem h n t ht c hc
noncomputable def smB (l : List (List Nat)) : Bool := l.all fun p => Nat.ble 1 p.length && (Nat.ble p.length 5 && p.all fun n => Nat.blt n 256)
theorem sm_of {l : List (List Nat)} (h : smB l = true) : Sm l := fun p hp => by
  have := List.all_eq_true.mp h p hp
  simp only [Bool.and_eq_true, Nat.ble_eq, List.all_eq_true, Nat.blt_eq] at this
  exact ⟨this.1, this.2.1, this.2.2⟩
theorem Sm.app {x y : List (List Nat)} (h : Sm x) (h2 : Sm y) : Sm (x ++ y) := fun p hp => by
  rcases List.mem_append.mp hp with q | q
  · exact h p q
  · exact h2 p q
theorem sm_nil : Sm [] := fun _ h => by cases h
theorem bits_sm (l l' : Nat) : Sm (ones (bitsN l l')) := fun p hp => by
  obtain ⟨n, hn, rfl⟩ := List.mem_map.mp hp
  refine sm1_one ?_
  rcases List.mem_append.mp hn with q | q
  · exact clrN_mem l' rowL l (fun _ h => h) n q
  · exact setN_mem _ l' rowL (fun _ h => h) n q
theorem und_sm {u u' : Nat} (h : u' < 6) : Sm (undS u u') := by
  unfold undS
  cases Nat.beq u u'
  · exact six (Q := fun u' => Sm (bif false then [] else match undL[u']? with | some q => [q] | .none => [])) h (sm_of rfl) (sm_of rfl) (sm_of rfl) (sm_of rfl) (sm_of rfl) (sm_of rfl)
  · exact sm_nil
theorem col_sm {p : Nat} (hp : p = 1 ∨ p = 2 ∨ p = 3) {c d : Int} (h : d ∈ Cols) : Sm (colG p c d) := by
  unfold colG
  cases W.Z.eqB c d
  · rcases hp with rfl | rfl | rfl
    · exact mem_cols (Q := fun d => Sm (colS 1 d)) h (sm_of rfl) (sm_of rfl) (sm_of rfl) (sm_of rfl) (sm_of rfl) (sm_of rfl) (sm_of rfl)
    · exact mem_cols (Q := fun d => Sm (colS 2 d)) h (sm_of rfl) (sm_of rfl) (sm_of rfl) (sm_of rfl) (sm_of rfl) (sm_of rfl) (sm_of rfl)
    · exact mem_cols (Q := fun d => Sm (colS 3 d)) h (sm_of rfl) (sm_of rfl) (sm_of rfl) (sm_of rfl) (sm_of rfl) (sm_of rfl) (sm_of rfl)
  · exact sm_nil
theorem chg_sm {l u l' u' : Nat} {a b c a' b' c' : Int} (hu' : u' < 6) (ha : a' ∈ Cols) (hb : b' ∈ Cols) (hc : c' ∈ Cols) : Sm (chgN l u a b c l' u' a' b' c') :=
  (bits_sm l l').app ((und_sm hu').app ((col_sm (.inl rfl) ha).app ((col_sm (.inr (.inl rfl)) hb).app (col_sm (.inr (.inr rfl)) hc))))
end Og
end
section
open PySem
namespace Og
/-! ## _law_params -/
noncomputable def pmK : Cx := mk "_law_params" [] []
noncomputable def pmρ (o : PV) (f n c : Option W) : Rho := env "_law_params" [ov o, f, n, c]
noncomputable def pm : Lp := lp "_law_params" 1
noncomputable def elseOf : Stmt → List Stmt
  | .If _ _ b _ => b
  | _ => []
noncomputable def pmElse : List Stmt := elseOf (sOf (elseOf (sOf pm.body 0)) 0)
noncomputable def io (n : Nat) : PV := .int n
section
variable (o : PV) (X : List PV) (q r : Option W) (σ : Sto) (k : Fl → Rho → Sto → Option PV) (bs : List Nat)
theorem pm_s0 : callF "_law_params" [] [] [.bytes bs] = forL (ev 39) pm.t pm.body pmK (bs.map io) (pmρ (.bytes bs) (oc 1) (ov .none) .none) [[.v .none], [.c 0]] (contS "_law_params" 2 pmK) := by kernel_rfl!
theorem pm_s2 : contS "_law_params" 2 pmK .next (pmρ o (oc 1) q r) σ = fz σ (.c 1) := by kernel_rfl!
theorem pm_59 : forL (ev 39) pm.t pm.body pmK (.int 59 :: X) (pmρ o (oc 1) q r) σ k =
    bnd (pushAt (.c 1) (.c σ.length) (σ ++ [[.v .none]])) fun σ => forL (ev 39) pm.t pm.body pmK X (pmρ o (oc 1) q (oi 59)) σ k := by kernel_rfl!
theorem pm_58 : forL (ev 39) pm.t pm.body pmK (.int 58 :: X) (pmρ o (oc 1) q r) σ k =
    subK (.c 1) (.v (.int (-1))) σ fun w σ => bnd (pushAt w (.v .none) σ) fun σ => forL (ev 39) pm.t pm.body pmK X (pmρ o (oc 1) q (oi 58)) σ k := by kernel_rfl!
noncomputable def pmK2 (o : PV) (X : List PV) (k : Fl → Rho → Sto → Option PV) : Fl → Rho → Sto → Option PV := fun f ρ σ => match f with
  | .next => forL (ev 39) pm.t pm.body pmK X ρ σ k
  | .ret w => k (.ret w) ρ σ
theorem pm_d (d : Int) : forL (ev 39) pm.t pm.body pmK (.int d :: X) (pmρ o (oc 1) q r) σ k =
    bif W.Z.eqB d 59 then (bnd (pushAt (.c 1) (.c σ.length) (σ ++ [[.v .none]])) fun σ => forL (ev 39) pm.t pm.body pmK X (pmρ o (oc 1) q (oi d)) σ k)
    else bif W.Z.eqB d 58 then (subK (.c 1) (.v (.int (-1))) σ fun w σ => bnd (pushAt w (.v .none) σ) fun σ => forL (ev 39) pm.t pm.body pmK X (pmρ o (oc 1) q (oi d)) σ k)
    else subK (.c 1) (.v (.int (-1))) σ fun w σ => subK w (.v (.int (-1))) σ fun x σ => evS (ev 37) (pmElse.drop 1) pmK (pmρ o (oc 1) (some x) (oi d)) σ (pmK2 o X k) := by kernel_rfl!
theorem pm_dn (d : Int) : evS (ev 37) (pmElse.drop 1) pmK (pmρ o (oc 1) (ov .none) (oi d)) σ k =
    subK (.c 1) (.v (.int (-1))) σ fun w σ => bnd (setAt w (-1) (.v (.int (0 * 10 + d - 48))) σ) fun σ => k .next (pmρ o (oc 1) (ov .none) (oi d)) σ := by kernel_rfl!
theorem pm_di (d i : Int) : evS (ev 37) (pmElse.drop 1) pmK (pmρ o (oc 1) (oi i) (oi d)) σ k =
    subK (.c 1) (.v (.int (-1))) σ fun w σ => bnd (setAt w (-1) (.v (.int (i * 10 + d - 48))) σ) fun σ => k .next (pmρ o (oc 1) (oi i) (oi d)) σ := by kernel_rfl!
end
theorem sub_last {σ : Sto} {n : Nat} {l : List W} {w : W} (h : σ[n]? = some (l ++ [w])) (k : W → Sto → Option PV) : subK (.c n) (.v (.int (-1))) σ k = k w σ := by
  show opt σ[n]? (fun l => opt (place (-1) l.length) fun j => opt l[j]? fun w => k w σ) = _
  rw [h, opt_some]
  have e : place (-1) (l ++ [w]).length = some l.length := by
    show (bif Nat.blt 0 (l ++ [w]).length then some ((l ++ [w]).length - (0 + 1)) else .none) = _
    rw [List.length_append]
    have : Nat.blt 0 (l.length + [w].length) = true := by rw [Nat.blt_eq]; simp
    rw [this]
    simp
  rw [e, opt_some, List.getElem?_append_right (Nat.le_refl _), Nat.sub_self]
  rfl
theorem set_last {σ : Sto} {n : Nat} {l : List W} {w x : W} (h : σ[n]? = some (l ++ [w])) : setAt (.c n) (-1) x σ = some (σ.set n (l ++ [x])) := by
  show opt σ[n]? (fun l => opt (place (-1) l.length) fun j => some (σ.set n (l.set j x))) = _
  rw [h, opt_some]
  have e : place (-1) (l ++ [w]).length = some l.length := by
    show (bif Nat.blt 0 (l ++ [w]).length then some ((l ++ [w]).length - (0 + 1)) else .none) = _
    rw [List.length_append]
    have : Nat.blt 0 (l.length + [w].length) = true := by rw [Nat.blt_eq]; simp
    rw [this]
    simp
  rw [e, opt_some, List.set_append_right _ _ (Nat.le_refl _), Nat.sub_self]
  rfl
theorem push_at {σ : Sto} {n : Nat} {l : List W} {w : W} (h : σ[n]? = some l) (hl : l.length ≤ 1000) : pushAt (.c n) w σ = some (σ.set n (l ++ [w])) := by
  show opt σ[n]? (fun l => bif fits (l.length + 1) then some (σ.set n (l ++ [w])) else .none) = _
  rw [h, opt_some, fits_ok (by omega)]; rfl
noncomputable def outer (m : Nat) : List W := .c 0 :: (List.range' 2 m).map W.c
noncomputable def sto (q0 : List PV) (r : List (List PV)) : Sto := q0.map W.v :: outer r.length :: r.map (·.map W.v)
noncomputable def stS : List (List PV) → List PV → Sto
  | [], p => sto p []
  | q :: r, p => sto q (r ++ [p])
noncomputable def li : List (List PV) → Nat
  | [] => 0
  | _ :: r => r.length + 2
theorem outer_succ (m : Nat) : outer (m + 1) = outer m ++ [.c (m + 2)] := by
  unfold outer
  rw [List.range'_1_concat, List.map_append, List.cons_append, Nat.add_comm 2 m]; rfl
theorem outer_len (m : Nat) : (outer m).length = m + 1 := by
  unfold outer; simp
theorem stS_1 (Q : List (List PV)) (p : List PV) : ∃ l, (stS Q p)[1]? = some (l ++ [.c (li Q)]) ∧ l ++ [.c (li Q)] = outer Q.length := by
  cases Q with
  | nil => exact ⟨[], rfl, rfl⟩
  | cons q r =>
    refine ⟨outer r.length, ?_, (outer_succ r.length).symm⟩
    show some (outer (r ++ [p]).length) = _
    rw [List.length_append]
    show some (outer (r.length + 1)) = _
    rw [outer_succ]; rfl
theorem stS_li (Q : List (List PV)) (p : List PV) : (stS Q p)[li Q]? = some (p.map W.v) := by
  cases Q with
  | nil => rfl
  | cons q r =>
    show ((r ++ [p]).map (·.map W.v))[r.length]? = _
    rw [List.map_append, List.getElem?_append_right (by simp), List.length_map, Nat.sub_self]; rfl
theorem stS_set (Q : List (List PV)) (p p' : List PV) : (stS Q p).set (li Q) (p'.map W.v) = stS Q p' := by
  cases Q with
  | nil => rfl
  | cons q r =>
    show (q.map W.v) :: (outer (r ++ [p]).length) :: (((r ++ [p]).map (·.map W.v)).set r.length (p'.map W.v)) = _
    show _ = sto q (r ++ [p'])
    unfold sto
    rw [List.map_append, List.set_append_right _ _ (by simp), List.length_map, Nat.sub_self, List.length_append, List.length_append, List.map_append]; rfl
theorem stS_len (Q : List (List PV)) (p : List PV) : (stS Q p).length = Q.length + 2 := by
  cases Q with
  | nil => rfl
  | cons q r =>
    show (((r ++ [p]).map (·.map W.v)).length + 1) + 1 = _
    simp
theorem stS_new (Q : List (List PV)) (p : List PV) (h : Q.length ≤ 900) : pushAt (.c 1) (.c (stS Q p).length) (stS Q p ++ [[.v .none]]) = some (stS (Q ++ [p]) [.none]) := by
  obtain ⟨l, h1, h2⟩ := stS_1 Q p
  have h3 : (stS Q p ++ [[W.v .none]])[1]? = some (outer Q.length) := by
    rw [List.getElem?_append_left (by rw [stS_len]; omega), h1, h2]
  rw [push_at h3 (by rw [outer_len]; omega), stS_len, ← outer_succ]
  cases Q with
  | nil => rfl
  | cons q r =>
    show some ((q.map W.v) :: outer ((q :: r).length + 1) :: ((r ++ [p]).map (·.map W.v) ++ [[W.v .none]])) = some (sto q ((r ++ [p]) ++ [[.none]]))
    unfold sto
    simp only [List.length_append, List.length_cons, List.length_nil, List.map_append, List.map_cons, List.map_nil]
theorem fzL_range (σ : Sto) : ∀ (rs : List (List PV)) (j : Nat), (∀ i (h : i < rs.length), σ[j + i]? = some (rs[i].map W.v)) → fzL σ ((List.range' j rs.length).map W.c) = some (rs.map PV.list)
  | [], j, _ => rfl
  | p :: r, j, h => by
    rw [List.length_cons, List.range'_succ, List.map_cons]
    have h0 := h 0 (by simp)
    have ih := fzL_range σ r (j + 1) (fun i hi => by
      have := h (i + 1) (by simp; omega)
      rw [show j + (i + 1) = j + 1 + i by omega] at this
      exact this)
    show opt (fz1 σ (.c j)) (fun d => opt (fzL σ ((List.range' (j + 1) r.length).map W.c)) fun l => some (d :: l)) = _
    rw [ih]
    have e : fz1 σ (.c j) = some (.list p) := by
      show opt σ[j]? (fun l => opt (allV l) fun ds => some (PV.list ds)) = _
      rw [show σ[j]? = some (p.map W.v) from h0, opt_some, allV_map]
    rw [e]; rfl
theorem stS_fz (Q : List (List PV)) (p : List PV) : fz (stS Q p) (.c 1) = some (.list ((Q ++ [p]).map PV.list)) := by
  have key : ∀ (q : List PV) (rs : List (List PV)), fz (sto q rs) (.c 1) = some (.list ((q :: rs).map PV.list)) := by
    intro q rs
    show opt (fzL (sto q rs) (outer rs.length)) (fun ds => some (PV.list ds)) = _
    have e1 : fz1 (sto q rs) (.c 0) = some (.list q) := by
      show opt (allV (q.map W.v)) (fun ds => some (PV.list ds)) = _
      rw [allV_map]
    have e2 := fzL_range (sto q rs) rs 2 (fun i hi => by
      rw [Nat.add_comm]
      show (rs.map (·.map W.v))[i]? = _
      rw [List.getElem?_map, List.getElem?_eq_getElem hi]; rfl)
    unfold outer
    show opt (opt (fz1 (sto q rs) (.c 0)) fun d => opt (fzL (sto q rs) ((List.range' 2 rs.length).map W.c)) fun l => some (d :: l)) (fun ds => some (PV.list ds)) = _
    rw [e1, e2]; rfl
  cases Q with
  | nil => exact key p []
  | cons q r => exact key q (r ++ [p])
/-! ## reading numbers -/
noncomputable def pmF (o : PV) (nu c : Option W) (k : Fl → Rho → Sto → Option PV) (X : List PV) (σ : Sto) : Option PV := forL (ev 39) pm.t pm.body pmK X (pmρ o (oc 1) nu c) σ k
/-- the parser comes from one state to another over these signs -/
noncomputable def Run (xs : List Nat) (Q : List (List PV)) (p : List PV) (Q' : List (List PV)) (p' : List PV) : Prop :=
  ∀ o nu c k X, ∃ nu' c', pmF o nu c k (xs.map io ++ X) (stS Q p) = pmF o nu' c' k X (stS Q' p')
theorem Run.trans {xs ys : List Nat} {Q Q' Q'' : List (List PV)} {p p' p'' : List PV} (a : Run xs Q p Q' p') (b : Run ys Q' p' Q'' p'') : Run (xs ++ ys) Q p Q'' p'' := by
  intro o nu c k X
  rw [List.map_append, List.append_assoc]
  obtain ⟨nu1, c1, e1⟩ := a o nu c k (ys.map io ++ X)
  obtain ⟨nu2, c2, e2⟩ := b o nu1 c1 k X
  exact ⟨nu2, c2, e1.trans e2⟩
theorem Run.refl (Q : List (List PV)) (p : List PV) : Run [] Q p Q p := fun _ nu c _ _ => ⟨nu, c, rfl⟩
theorem run_59 {Q : List (List PV)} {p : List PV} (h : Q.length ≤ 900) : Run [59] Q p (Q ++ [p]) [.none] := by
  intro o nu c k X
  refine ⟨nu, oi 59, ?_⟩
  show forL _ _ _ _ (.int 59 :: X) _ _ _ = _
  rw [pm_59, stS_new Q p h]; rfl
theorem run_58 {Q : List (List PV)} {p : List PV} (h : p.length ≤ 900) : Run [58] Q p Q (p ++ [.none]) := by
  intro o nu c k X
  refine ⟨nu, oi 58, ?_⟩
  show forL _ _ _ _ (.int 58 :: X) _ _ _ = _
  obtain ⟨l, h1, h2⟩ := stS_1 Q p
  rw [pm_58, sub_last h1, push_at (stS_li Q p) (by rw [List.length_map]; omega)]
  have := stS_set Q p (p ++ [.none])
  rw [List.map_append] at this
  rw [bnd_some]
  show forL _ _ _ _ _ _ ((stS Q p).set (li Q) (p.map W.v ++ [PV.none].map W.v)) _ = _
  rw [this]; rfl
theorem run_d {Q : List (List PV)} {p : List PV} {d : Nat} (h1 : 48 ≤ d) (h2 : d ≤ 57) {cur : PV} {v : Nat} (hc : cur = .none ∧ v = d - 48 ∨ ∃ i : Nat, cur = .int i ∧ v = i * 10 + (d - 48)) : Run [d] Q (p ++ [cur]) Q (p ++ [.int v]) := by
  intro o nu c k X
  have e59 : W.Z.eqB (d : Int) 59 = false := by rw [show (59 : Int) = ((59 : Nat) : Int) from rfl, eqB_nat]; cases e : Nat.beq d 59 with
    | false => rfl
    | true => have := Nat.eq_of_beq_eq_true e; omega
  have e58 : W.Z.eqB (d : Int) 58 = false := by rw [show (58 : Int) = ((58 : Nat) : Int) from rfl, eqB_nat]; cases e : Nat.beq d 58 with
    | false => rfl
    | true => have := Nat.eq_of_beq_eq_true e; omega
  obtain ⟨l, g1, g2⟩ := stS_1 Q (p ++ [cur])
  have g3 : (stS Q (p ++ [cur]))[li Q]? = some (p.map W.v ++ [.v cur]) := by rw [stS_li, List.map_append]; rfl
  have g4 : ∀ x : PV, (stS Q (p ++ [cur])).set (li Q) (p.map W.v ++ [.v x]) = stS Q (p ++ [x]) := fun x => by
    have := stS_set Q (p ++ [cur]) (p ++ [x])
    rw [List.map_append] at this
    exact this
  show ∃ nu' c', forL (ev 39) pm.t pm.body pmK (.int d :: X) (pmρ o (oc 1) nu c) (stS Q (p ++ [cur])) k = _
  rcases hc with ⟨rfl, rfl⟩ | ⟨i, rfl, rfl⟩
  · refine ⟨ov .none, oi d, ?_⟩
    rw [pm_d, e59, e58, cond_false, cond_false, sub_last g1, sub_last g3]
    refine (pm_dn o _ _ (d : Int)).trans ?_
    rw [sub_last g1, set_last g3, bnd_some, g4]
    have : (0 * 10 + (d : Int) - 48) = ((d - 48 : Nat) : Int) := by omega
    rw [this]; rfl
  · refine ⟨oi i, oi d, ?_⟩
    rw [pm_d, e59, e58, cond_false, cond_false, sub_last g1, sub_last g3]
    refine (pm_di o _ _ (d : Int) (i : Int)).trans ?_
    rw [sub_last g1, set_last g3, bnd_some, g4]
    have : ((i : Int) * 10 + (d : Int) - 48) = ((i * 10 + (d - 48) : Nat) : Int) := by omega
    rw [this]; rfl
theorem run_ds {Q : List (List PV)} {p : List PV} : ∀ (ds : List Nat) (i : Nat), (∀ d ∈ ds, 48 ≤ d ∧ d ≤ 57) → Run ds Q (p ++ [.int i]) Q (p ++ [.int (ds.foldl (fun a d => a * 10 + (d - 48)) i : Nat)])
  | [], i, _ => Run.refl _ _
  | d :: r, i, h => by
    have h0 := h d (by simp)
    have a : Run [d] Q (p ++ [.int i]) Q (p ++ [.int (i * 10 + (d - 48) : Nat)]) := run_d h0.1 h0.2 (.inr ⟨i, rfl, rfl⟩)
    exact a.trans (run_ds r _ (fun x hx => h x (List.mem_cons_of_mem _ hx)))
theorem run_num {Q : List (List PV)} {p : List PV} {n : Nat} (h : n < 256) : Run (digs n) Q (p ++ [.none]) Q (p ++ [.int n]) := by
  have D := dg_ok h
  cases e : digs n with
  | nil => have := D.lo; rw [e] at this; simp at this
  | cons d r =>
    have dg := D.dg
    have va := D.va
    rw [e] at dg va
    have h0 := dg d (by simp)
    have a : Run [d] Q (p ++ [.none]) Q (p ++ [.int (d - 48 : Nat)]) := run_d h0.1 h0.2 (.inl ⟨rfl, rfl⟩)
    have b := a.trans (run_ds (Q := Q) (p := p) r (d - 48) (fun x hx => dg x (List.mem_cons_of_mem _ hx)))
    have : r.foldl (fun a d => a * 10 + (d - 48)) (d - 48) = n := by
      rw [← va, List.foldl_cons, Nat.zero_mul, Nat.zero_add]
    rw [this] at b
    exact b
theorem run_1 {Q : List (List PV)} : ∀ (p : List Nat) (pre : List PV), p ≠ [] → (∀ n ∈ p, n < 256) → pre.length + p.length ≤ 900 → Run (txt1 p) Q (pre ++ [.none]) Q (pre ++ p.map io)
  | [], _, h, _, _ => absurd rfl h
  | [n], pre, _, h, _ => run_num (h n (by simp))
  | a :: b :: r, pre, _, h, hl => by
    simp only [List.length_cons] at hl
    have e : txt1 (a :: b :: r) = digs a ++ ([58] ++ txt1 (b :: r)) := rfl
    rw [e]
    have h1 : Run (digs a) Q (pre ++ [.none]) Q (pre ++ [.int a]) := run_num (h a (by simp))
    have h2 : Run [58] Q (pre ++ [.int a]) Q (pre ++ [.int a] ++ [.none]) := run_58 (by simp only [List.length_append, List.length_cons, List.length_nil]; omega)
    have h3 := run_1 (Q := Q) (b :: r) (pre ++ [.int a]) (by simp) (fun x hx => h x (List.mem_cons_of_mem _ hx)) (by simp only [List.length_append, List.length_cons, List.length_nil]; omega)
    have := h1.trans (h2.trans h3)
    rw [List.append_assoc] at this
    exact this
theorem run_all : ∀ (l : List (List Nat)) (Q : List (List PV)), l ≠ [] → Sm l → Q.length + l.length ≤ 900 → ∃ Q' p', Run (txt l) Q [.none] Q' p' ∧ Q' ++ [p'] = Q ++ l.map (·.map io)
  | [], _, h, _, _ => absurd rfl h
  | [p], Q, _, h, _ => by
    have hp := h p (by simp)
    exact ⟨Q, p.map io, run_1 p [] (fun e => by have := hp.lo; rw [e] at this; simp at this) hp.lt (by have := hp.hi; simp only [List.length_nil]; omega), rfl⟩
  | a :: b :: r, Q, _, h, hl => by
    simp only [List.length_cons] at hl
    have hp := h a (by simp)
    have e : txt (a :: b :: r) = txt1 a ++ ([59] ++ txt (b :: r)) := rfl
    have h1 : Run (txt1 a) Q [.none] Q (a.map io) := run_1 a [] (fun e => by have := hp.lo; rw [e] at this; simp at this) hp.lt (by have := hp.hi; simp only [List.length_nil]; omega)
    have h2 : Run [59] Q (a.map io) (Q ++ [a.map io]) [.none] := run_59 (by omega)
    obtain ⟨Q', p', h3, h4⟩ := run_all (b :: r) (Q ++ [a.map io]) (by simp) (fun x hx => h x (List.mem_cons_of_mem _ hx)) (by simp only [List.length_append, List.length_cons, List.length_nil]; omega)
    refine ⟨Q', p', e ▸ h1.trans (h2.trans h3), ?_⟩
    rw [h4, List.append_assoc]; rfl
theorem parse_ok {l : List (List Nat)} (h0 : l ≠ []) (h : Sm l) (hl : l.length ≤ 800) : fLParams [.bytes (txt l)] = some (pvP l) := by
  unfold fLParams
  rw [pm_s0]
  obtain ⟨Q', p', h1, h2⟩ := run_all l [] h0 h (by simp only [List.length_nil]; omega)
  obtain ⟨nu, c, e⟩ := h1 (.bytes (txt l)) (ov .none) .none (contS "_law_params" 2 pmK) []
  rw [List.append_nil] at e
  refine Eq.trans e ?_
  show contS "_law_params" 2 pmK .next (pmρ _ (oc 1) nu c) (stS Q' p') = _
  rw [pm_s2, stS_fz, h2, List.nil_append, List.map_map]
  rfl
theorem parse_nil : fLParams [.bytes []] = some (.list [.list [.none]]) := by kernel_rfl!
end Og
end
section
open PySem
namespace Og
noncomputable def nums : List Nat := [1, 2, 3, 4, 5, 6, 7, 8, 9, 21, 22, 23, 24, 25, 26, 27, 28, 29, 31, 39, 41, 47, 49, 53, 55, 59, 91, 94, 101, 107, 200]
noncomputable def flK : List Row → Nat → Int → (Int → Option PV) → Option PV
  | [], _, low, k => k low
  | r :: t, n, low, k =>
    let k2 : Int → Option PV := fun low => bif Nat.beq n r.2.2 then (bif o1 low r.1 then flK t n (low - r.1) k else flK t n low k) else flK t n low k
    bif Nat.beq n r.2.1 then (bif o0 low r.1 then k2 (low + r.1) else k2 low) else k2 low
noncomputable def undF (n : Nat) (f : Int) : Int := bif Nat.beq n 4 then 1 else bif Nat.beq n 21 then 2 else bif Nat.beq n 24 then 0 else f.fdiv 512
noncomputable def colF (p n : Nat) (c : Int) : Int :=
  bif Nat.beq p 3 then (bif Nat.beq n 59 then -1 else c) else
  bif (Nat.ble (20 + 10 * p) n && Nat.blt n (28 + 10 * p)) then ((n - (20 + 10 * p) : Nat) : Int) else
  bif (Nat.ble (80 + 10 * p) n && Nat.blt n (88 + 10 * p)) then ((n - (80 + 10 * p) + 8 : Nat) : Int) else
  bif Nat.beq n (29 + 10 * p) then -1 else c
noncomputable def plF (n : Nat) (f : Int) : Int :=
  bif Nat.beq n 4 then Builtin.bitOr (Builtin.bitAnd f (Builtin.bitNot 3584)) (1 * 2 ^ (9 : Nat)) else
  bif Nat.beq n 21 then Builtin.bitOr (Builtin.bitAnd f (Builtin.bitNot 3584)) (2 * 2 ^ (9 : Nat)) else
  bif Nat.beq n 24 then Builtin.bitOr (Builtin.bitAnd f (Builtin.bitNot 3584)) (0 * 2 ^ (9 : Nat)) else
  rowL.foldl (fun f (r : Row) => bif Nat.beq n r.2.1 then Builtin.bitOr f r.1 else bif Nat.beq n r.2.2 then Builtin.bitAnd f (Builtin.bitNot r.1) else f) f
noncomputable def FlagIs (n : Nat) : Prop := ∀ f a b c lk : Int, fFlagged [pn f a b c lk, .int n] = flK rowL n (f.fmod 512) fun low => some (pn (low + 512 * undF n f) (colF 1 n a) (colF 2 n b) (colF 3 n c) lk)
noncomputable def PlainIs (n : Nat) : Prop := ∀ f a b c lk : Int, fPlain [pn f a b c lk, .int n] = some (pn (plF n f) (colF 1 n a) (colF 2 n b) (colF 3 n c) lk)
theorem fg_1 : FlagIs 1 := by unfold FlagIs; intro f a b c lk; kernel_rfl!
theorem fg_2 : FlagIs 2 := by unfold FlagIs; intro f a b c lk; kernel_rfl!
theorem fg_3 : FlagIs 3 := by unfold FlagIs; intro f a b c lk; kernel_rfl!
theorem fg_4 : FlagIs 4 := by unfold FlagIs; intro f a b c lk; kernel_rfl!
theorem fg_5 : FlagIs 5 := by unfold FlagIs; intro f a b c lk; kernel_rfl!
theorem fg_6 : FlagIs 6 := by unfold FlagIs; intro f a b c lk; kernel_rfl!
theorem fg_7 : FlagIs 7 := by unfold FlagIs; intro f a b c lk; kernel_rfl!
theorem fg_8 : FlagIs 8 := by unfold FlagIs; intro f a b c lk; kernel_rfl!
theorem fg_9 : FlagIs 9 := by unfold FlagIs; intro f a b c lk; kernel_rfl!
theorem fg_21 : FlagIs 21 := by unfold FlagIs; intro f a b c lk; kernel_rfl!
theorem fg_22 : FlagIs 22 := by unfold FlagIs; intro f a b c lk; kernel_rfl!
theorem fg_23 : FlagIs 23 := by unfold FlagIs; intro f a b c lk; kernel_rfl!
theorem fg_24 : FlagIs 24 := by unfold FlagIs; intro f a b c lk; kernel_rfl!
theorem fg_25 : FlagIs 25 := by unfold FlagIs; intro f a b c lk; kernel_rfl!
theorem fg_26 : FlagIs 26 := by unfold FlagIs; intro f a b c lk; kernel_rfl!
theorem fg_27 : FlagIs 27 := by unfold FlagIs; intro f a b c lk; kernel_rfl!
theorem fg_28 : FlagIs 28 := by unfold FlagIs; intro f a b c lk; kernel_rfl!
theorem fg_29 : FlagIs 29 := by unfold FlagIs; intro f a b c lk; kernel_rfl!
theorem fg_31 : FlagIs 31 := by unfold FlagIs; intro f a b c lk; kernel_rfl!
theorem fg_39 : FlagIs 39 := by unfold FlagIs; intro f a b c lk; kernel_rfl!
theorem fg_41 : FlagIs 41 := by unfold FlagIs; intro f a b c lk; kernel_rfl!
theorem fg_47 : FlagIs 47 := by unfold FlagIs; intro f a b c lk; kernel_rfl!
theorem fg_49 : FlagIs 49 := by unfold FlagIs; intro f a b c lk; kernel_rfl!
theorem fg_53 : FlagIs 53 := by unfold FlagIs; intro f a b c lk; kernel_rfl!
theorem fg_55 : FlagIs 55 := by unfold FlagIs; intro f a b c lk; kernel_rfl!
theorem fg_59 : FlagIs 59 := by unfold FlagIs; intro f a b c lk; kernel_rfl!
theorem fg_91 : FlagIs 91 := by unfold FlagIs; intro f a b c lk; kernel_rfl!
theorem fg_94 : FlagIs 94 := by unfold FlagIs; intro f a b c lk; kernel_rfl!
theorem fg_101 : FlagIs 101 := by unfold FlagIs; intro f a b c lk; kernel_rfl!
theorem fg_107 : FlagIs 107 := by unfold FlagIs; intro f a b c lk; kernel_rfl!
theorem fg_200 : FlagIs 200 := by unfold FlagIs; intro f a b c lk; kernel_rfl!
theorem pl_1 : PlainIs 1 := by unfold PlainIs; intro f a b c lk; kernel_rfl!
theorem pl_2 : PlainIs 2 := by unfold PlainIs; intro f a b c lk; kernel_rfl!
theorem pl_3 : PlainIs 3 := by unfold PlainIs; intro f a b c lk; kernel_rfl!
theorem pl_4 : PlainIs 4 := by unfold PlainIs; intro f a b c lk; kernel_rfl!
theorem pl_5 : PlainIs 5 := by unfold PlainIs; intro f a b c lk; kernel_rfl!
theorem pl_6 : PlainIs 6 := by unfold PlainIs; intro f a b c lk; kernel_rfl!
theorem pl_7 : PlainIs 7 := by unfold PlainIs; intro f a b c lk; kernel_rfl!
theorem pl_8 : PlainIs 8 := by unfold PlainIs; intro f a b c lk; kernel_rfl!
theorem pl_9 : PlainIs 9 := by unfold PlainIs; intro f a b c lk; kernel_rfl!
theorem pl_21 : PlainIs 21 := by unfold PlainIs; intro f a b c lk; kernel_rfl!
theorem pl_22 : PlainIs 22 := by unfold PlainIs; intro f a b c lk; kernel_rfl!
theorem pl_23 : PlainIs 23 := by unfold PlainIs; intro f a b c lk; kernel_rfl!
theorem pl_24 : PlainIs 24 := by unfold PlainIs; intro f a b c lk; kernel_rfl!
theorem pl_25 : PlainIs 25 := by unfold PlainIs; intro f a b c lk; kernel_rfl!
theorem pl_26 : PlainIs 26 := by unfold PlainIs; intro f a b c lk; kernel_rfl!
theorem pl_27 : PlainIs 27 := by unfold PlainIs; intro f a b c lk; kernel_rfl!
theorem pl_28 : PlainIs 28 := by unfold PlainIs; intro f a b c lk; kernel_rfl!
theorem pl_29 : PlainIs 29 := by unfold PlainIs; intro f a b c lk; kernel_rfl!
theorem pl_31 : PlainIs 31 := by unfold PlainIs; intro f a b c lk; kernel_rfl!
theorem pl_39 : PlainIs 39 := by unfold PlainIs; intro f a b c lk; kernel_rfl!
theorem pl_41 : PlainIs 41 := by unfold PlainIs; intro f a b c lk; kernel_rfl!
theorem pl_47 : PlainIs 47 := by unfold PlainIs; intro f a b c lk; kernel_rfl!
theorem pl_49 : PlainIs 49 := by unfold PlainIs; intro f a b c lk; kernel_rfl!
theorem pl_53 : PlainIs 53 := by unfold PlainIs; intro f a b c lk; kernel_rfl!
theorem pl_55 : PlainIs 55 := by unfold PlainIs; intro f a b c lk; kernel_rfl!
theorem pl_59 : PlainIs 59 := by unfold PlainIs; intro f a b c lk; kernel_rfl!
theorem pl_91 : PlainIs 91 := by unfold PlainIs; intro f a b c lk; kernel_rfl!
theorem pl_94 : PlainIs 94 := by unfold PlainIs; intro f a b c lk; kernel_rfl!
theorem pl_101 : PlainIs 101 := by unfold PlainIs; intro f a b c lk; kernel_rfl!
theorem pl_107 : PlainIs 107 := by unfold PlainIs; intro f a b c lk; kernel_rfl!
theorem pl_200 : PlainIs 200 := by unfold PlainIs; intro f a b c lk; kernel_rfl!
theorem mem_nums {n : Nat} {Q : Nat → Prop} (h : n ∈ nums) (h1 : Q 1) (h2 : Q 2) (h3 : Q 3) (h4 : Q 4) (h5 : Q 5) (h6 : Q 6) (h7 : Q 7) (h8 : Q 8) (h9 : Q 9) (h21 : Q 21) (h22 : Q 22) (h23 : Q 23) (h24 : Q 24) (h25 : Q 25) (h26 : Q 26) (h27 : Q 27) (h28 : Q 28) (h29 : Q 29) (h31 : Q 31) (h39 : Q 39) (h41 : Q 41) (h47 : Q 47) (h49 : Q 49) (h53 : Q 53) (h55 : Q 55) (h59 : Q 59) (h91 : Q 91) (h94 : Q 94) (h101 : Q 101) (h107 : Q 107) (h200 : Q 200) : Q n := by
  simp only [nums, List.mem_cons, List.not_mem_nil, or_false] at h
  rcases h with rfl | rfl | rfl | rfl | rfl | rfl | rfl | rfl | rfl | rfl | rfl | rfl | rfl | rfl | rfl | rfl | rfl | rfl | rfl | rfl | rfl | rfl | rfl | rfl | rfl | rfl | rfl | rfl | rfl | rfl | rfl <;> assumption
theorem flag_is {n : Nat} (h : n ∈ nums) : FlagIs n := mem_nums h fg_1 fg_2 fg_3 fg_4 fg_5 fg_6 fg_7 fg_8 fg_9 fg_21 fg_22 fg_23 fg_24 fg_25 fg_26 fg_27 fg_28 fg_29 fg_31 fg_39 fg_41 fg_47 fg_49 fg_53 fg_55 fg_59 fg_91 fg_94 fg_101 fg_107 fg_200
theorem plain_is {n : Nat} (h : n ∈ nums) : PlainIs n := mem_nums h pl_1 pl_2 pl_3 pl_4 pl_5 pl_6 pl_7 pl_8 pl_9 pl_21 pl_22 pl_23 pl_24 pl_25 pl_26 pl_27 pl_28 pl_29 pl_31 pl_39 pl_41 pl_47 pl_49 pl_53 pl_55 pl_59 pl_91 pl_94 pl_101 pl_107 pl_200
end Og
end
section
open PySem
namespace Og
noncomputable def up1 (m b : Nat) : Nat := bif tN m b then m else m + b
noncomputable def dn1 (m b : Nat) : Nat := bif tN m b then m - b else m
noncomputable def flN : List Row → Nat → Nat → Nat
  | [], _, l => l
  | r :: t, n, l =>
    flN t n (bif Nat.beq n r.2.2 then dn1 (bif Nat.beq n r.2.1 then up1 l r.1 else l) r.1 else (bif Nat.beq n r.2.1 then up1 l r.1 else l))
theorem tN_le {m b : Nat} (h : tN m b = true) : b ≤ m := by
  unfold tN at h
  have := Nat.eq_of_beq_eq_true h
  by_cases e : b ≤ m
  · exact e
  · rw [Nat.div_eq_of_lt (by omega)] at this; simp at this
theorem dn1_eq (m b : Nat) : dn1 m b = clr1 m b := by
  unfold dn1 clr1
  cases e : tN m b
  · unfold tN at e
    have : m / b % 2 = 0 := by
      have h : m / b % 2 = 0 ∨ m / b % 2 = 1 := by omega
      rcases h with h | h
      · exact h
      · rw [h] at e; cases e
    rw [this, cond_false]; omega
  · unfold tN at e
    rw [Nat.eq_of_beq_eq_true e, cond_true, Nat.one_mul]
theorem flK_nat (n : Nat) (k : Int → Option PV) : ∀ (t : List Row) (l : Nat), flK t n (l : Int) k = k (flN t n l : Nat)
  | [], l => rfl
  | r :: t, l => by
    have A : ∀ m : Nat, (bif Nat.beq n r.2.2 then (bif o1 (m : Int) r.1 then flK t n ((m : Int) - r.1) k else flK t n m k) else flK t n m k) =
        k (flN t n (bif Nat.beq n r.2.2 then dn1 m r.1 else m) : Nat) := by
      intro m
      cases Nat.beq n r.2.2
      · exact flK_nat n k t m
      · rw [cond_true, cond_true, o1_nat]
        unfold dn1
        cases e : tN m r.1
        · exact flK_nat n k t m
        · have := tN_le e
          have := flK_nat n k t (m - r.1)
          rw [Int.ofNat_sub (tN_le e)] at this
          exact this
    unfold flK flN
    dsimp only
    cases Nat.beq n r.2.1
    · rw [cond_false, cond_false]
      exact A l
    · rw [cond_true, cond_true, o0_nat]
      unfold up1
      cases tN l r.1
      · rw [Bool.not_false, cond_true, cond_false, ← Int.natCast_add]
        exact A (l + r.1)
      · rw [Bool.not_true, cond_false, cond_true]
        exact A l
noncomputable def up1Ok (l : Nat) : Bool := rowL.all fun r => Nat.blt (up1 l r.1) 512 && Nat.beq (l ||| r.1) (up1 l r.1)
theorem up_all : (List.range 512).all up1Ok = true := by kernel_rfl!
theorem up_ok {r : Row} (hr : r ∈ rowL) {l : Nat} (hl : l < 512) : up1 l r.1 < 512 ∧ l ||| r.1 = up1 l r.1 := by
  have := List.all_eq_true.mp (List.all_eq_true.mp up_all l (List.mem_range.mpr hl)) r hr
  simpa using this
theorem dn_lt {m b : Nat} (h : m < 512) : dn1 m b < 512 := by
  unfold dn1
  cases tN m b
  · exact h
  · rw [cond_true]; omega
theorem flN_lt (n : Nat) : ∀ (t : List Row) (l : Nat), (∀ r ∈ t, r ∈ rowL) → l < 512 → flN t n l < 512
  | [], _, _, h => h
  | r :: t, l, ht, h => by
    have hr := ht r (by simp)
    unfold flN
    refine flN_lt n t _ (fun q hq => ht q (List.mem_cons_of_mem _ hq)) ?_
    cases Nat.beq n r.2.2 <;> cases Nat.beq n r.2.1
    · exact h
    · exact (up_ok hr h).1
    · exact dn_lt h
    · exact dn_lt (up_ok hr h).1
theorem or_nat (a b : Nat) : Builtin.bitOr (a : Int) (b : Int) = ((a ||| b : Nat) : Int) := by
  unfold Builtin.bitOr Builtin.bitAnd
  have h1 : decide ((0 : Int) ≤ Builtin.bitNot (a : Int)) = false := by
    unfold Builtin.bitNot
    simp only [decide_eq_false_iff_not]; omega
  have h2 : decide ((0 : Int) ≤ Builtin.bitNot (b : Int)) = false := by
    unfold Builtin.bitNot
    simp only [decide_eq_false_iff_not]; omega
  rw [h1, h2]
  dsimp only
  have h3 : ∀ c : Nat, (Builtin.bitNot (Builtin.bitNot (c : Int))) = c := by
    intro c; unfold Builtin.bitNot; omega
  rw [h3 a, h3 b, h3]; rfl
theorem or_up {l u b : Nat} (hl : l < 512) (hb : b < 512) : (l + 512 * u) ||| b = (l ||| b) + 512 * u := by
  have h1 : 2 ^ 9 * u + l = 2 ^ 9 * u ||| l := Nat.two_pow_add_eq_or_of_lt (by exact hl) u
  have h2 : 2 ^ 9 * u + (l ||| b) = 2 ^ 9 * u ||| (l ||| b) := Nat.two_pow_add_eq_or_of_lt (Nat.or_lt_two_pow (n := 9) hl hb) u
  have e1 : l + 512 * u = 2 ^ 9 * u ||| l := by rw [← h1]; omega
  have e2 : (l ||| b) + 512 * u = 2 ^ 9 * u ||| (l ||| b) := by rw [← h2]; omega
  rw [e1, e2, Nat.or_assoc]
theorem row_lt {r : Row} (hr : r ∈ rowL) : r.1 < 512 :=
  mem_rowL (Q := fun r => r.1 < 512) hr (by decide) (by decide) (by decide) (by decide) (by decide) (by decide) (by decide) (by decide) (by decide)
theorem or_fl {r : Row} (hr : r ∈ rowL) {l u : Nat} (hl : l < 512) : Builtin.bitOr (fl l u) r.1 = fl (up1 l r.1) u := by
  unfold fl
  rw [or_nat, or_up hl (row_lt hr), (up_ok hr hl).2]
theorem cl_fl {r : Row} (hr : r ∈ rowL) {l u : Nat} (hl : l < 512) : Builtin.bitAnd (fl l u) (Builtin.bitNot r.1) = fl (dn1 l r.1) u := by
  unfold fl
  rw [(isBit hr).cl, (isBit hr).cu l u hl, dn1_eq]
/-- no number both sets and clears -/
theorem row_ne {r : Row} (hr : r ∈ rowL) {n : Nat} (h : Nat.beq n r.2.1 = true) : Nat.beq n r.2.2 = false := by
  have := Nat.eq_of_beq_eq_true h
  subst this
  exact mem_rowL (Q := fun r => Nat.beq r.2.1 r.2.2 = false) hr rfl rfl rfl rfl rfl rfl rfl rfl rfl
theorem fold_fl (n u : Nat) : ∀ (t : List Row) (l : Nat), (∀ r ∈ t, r ∈ rowL) → l < 512 →
    t.foldl (fun f (r : Row) => bif Nat.beq n r.2.1 then Builtin.bitOr f r.1 else bif Nat.beq n r.2.2 then Builtin.bitAnd f (Builtin.bitNot r.1) else f) (fl l u) = fl (flN t n l) u
  | [], _, _, _ => rfl
  | r :: t, l, ht, h => by
    have hr := ht r (by simp)
    have ht' : ∀ q ∈ t, q ∈ rowL := fun q hq => ht q (List.mem_cons_of_mem _ hq)
    rw [List.foldl_cons]
    unfold flN
    cases e : Nat.beq n r.2.1
    · cases Nat.beq n r.2.2
      · exact fold_fl n u t l ht' h
      · simp only [cond_false, cond_true]
        rw [cl_fl hr h]
        exact fold_fl n u t _ ht' (dn_lt h)
    · rw [row_ne hr e]
      simp only [cond_false, cond_true]
      rw [or_fl hr h]
      exact fold_fl n u t _ ht' (up_ok hr h).1
noncomputable def undN (n u : Nat) : Nat := bif Nat.beq n 4 then 1 else bif Nat.beq n 21 then 2 else bif Nat.beq n 24 then 0 else u
theorem clr_und {l u : Nat} (hl : l < 512) (hu : u < 6) : Builtin.bitAnd (fl l u) (Builtin.bitNot 3584) = (l : Nat) := by
  unfold fl
  have := List.all_eq_true.mp u_all (l + 512 * u) (List.mem_range.mpr (by omega))
  have := Nat.eq_of_beq_eq_true this
  rw [show (3584 : Int) = ((3584 : Nat) : Int) from rfl, clr_nat, this]
  congr 1; omega
theorem or_und {l v : Nat} (hl : l < 512) : Builtin.bitOr (l : Int) ((512 * v : Nat) : Int) = fl l v := by
  unfold fl
  rw [or_nat]
  have h1 : 2 ^ 9 * v + l = 2 ^ 9 * v ||| l := Nat.two_pow_add_eq_or_of_lt (by exact hl) v
  congr 1
  rw [Nat.or_comm, show 512 * v = 2 ^ 9 * v from rfl, ← h1]; omega
theorem plF_fl {n l u : Nat} (hl : l < 512) (hu : u < 6) : plF n (fl l u) = fl (flN rowL n l) (undN n u) := by
  unfold plF undN
  cases e4 : Nat.beq n 4
  · cases e21 : Nat.beq n 21
    · cases e24 : Nat.beq n 24
      · exact fold_fl n u rowL l (fun _ h => h) hl
      · have := Nat.eq_of_beq_eq_true e24
        subst this
        simp only [cond_false, cond_true]
        rw [clr_und hl hu, show (0 * 2 ^ (9 : Nat) : Int) = ((512 * 0 : Nat) : Int) from rfl, or_und hl]; rfl
    · have := Nat.eq_of_beq_eq_true e21
      subst this
      simp only [cond_false, cond_true]
      rw [clr_und hl hu, show (2 * 2 ^ (9 : Nat) : Int) = ((512 * 2 : Nat) : Int) from rfl, or_und hl]; rfl
  · have := Nat.eq_of_beq_eq_true e4
    subst this
    simp only [cond_true]
    rw [clr_und hl hu, show (1 * 2 ^ (9 : Nat) : Int) = ((512 * 1 : Nat) : Int) from rfl, or_und hl]; rfl
theorem undF_fl {n l u : Nat} (hl : l < 512) : undF n (fl l u) = (undN n u : Nat) := by
  unfold undF undN
  cases Nat.beq n 4 <;> cases Nat.beq n 21 <;> cases Nat.beq n 24 <;> first | rfl | exact fdiv512 hl
theorem undN_lt {n u : Nat} (hu : u < 6) : undN n u < 6 := by
  unfold undN
  cases Nat.beq n 4 <;> cases Nat.beq n 21 <;> cases Nat.beq n 24 <;> simp only [cond_true, cond_false] <;> omega
theorem flagged_ok {n l u : Nat} (hn : n ∈ nums) (hl : l < 512) (a b c lk : Int) : fFlagged [pn (fl l u) a b c lk, .int n] = some (pn (fl (flN rowL n l) (undN n u)) (colF 1 n a) (colF 2 n b) (colF 3 n c) lk) := by
  rw [flag_is hn, fmod512 hl, flK_nat, undF_fl hl]
  congr 2
theorem plain_ok {n l u : Nat} (hn : n ∈ nums) (hl : l < 512) (hu : u < 6) (a b c lk : Int) : fPlain [pn (fl l u) a b c lk, .int n] = some (pn (fl (flN rowL n l) (undN n u)) (colF 1 n a) (colF 2 n b) (colF 3 n c) lk) := by
  rw [plain_is hn, plF_fl hl hu]
end Og
end
section
open PySem
namespace Og
/-! ## _law_read -/
noncomputable def rK (fg : Fn) : Cx := mk "_law_read" [("_law_colour", fLColour), ("_law_coloured", fLCol), ("_law_flagged", fg)] []
noncomputable def rρ (pen par rest : PV) (j : J) : Rho := env "_law_read" [ov pen, ov par, ov rest, j.a, j.b, j.c, j.d, j.e, j.f]
noncomputable def rL : Lp := lp "_law_read" 1
noncomputable def rW (fg : Fn) (n : Nat) (pen par : PV) (R : List PV) (j : J) (k : Fl → Rho → Sto → Option PV) : Option PV := whL (ev 39) rL.t rL.body (rK fg) n (rρ pen par (.list R) j) [] k
noncomputable def j0 : J := ⟨.none, .none, .none, .none, .none, .none⟩
section
variable (fg : Fn) (n : Nat) (pen par : PV) (f a b c lk : Int) (R : List PV) (j : J) (k : Fl → Rho → Sto → Option PV)
theorem rd_s0 : callF "_law_read" [("_law_colour", fLColour), ("_law_coloured", fLCol), ("_law_flagged", fg)] [] [pen, .list R] =
    bif !emptyB R then rW fg 100 pen (.list R) R j0 (contS "_law_read" 2 (rK fg)) else rW fg 100 pen (.list R) [.list [.none]] j0 (contS "_law_read" 2 (rK fg)) := by kernel_rfl!
theorem rd_s2 (r : PV) : contS "_law_read" 2 (rK fg) .next (rρ pen par r j) [] = some pen := by kernel_rfl!
theorem rd_end : rW fg (n + 1) pen par [] j k = k .next (rρ pen par (.list []) j) [] := by kernel_rfl!
noncomputable def NumT (q : Nat) : Prop := ∀ (fg : Fn) (n : Nat) (pen par : PV) (R : List PV) (j : J) (k : Fl → Rho → Sto → Option PV), rW fg (n + 1) pen par (.list [.int q] :: R) j k = bnd (fg [pen, .int q]) fun d => rW fg n d par R ⟨ov (.list [.int q]), oi q, j.c, j.d, j.e, j.f⟩ k
theorem rn_1 : NumT 1 := by unfold NumT; intros; kernel_rfl!
theorem rn_2 : NumT 2 := by unfold NumT; intros; kernel_rfl!
theorem rn_3 : NumT 3 := by unfold NumT; intros; kernel_rfl!
theorem rn_4 : NumT 4 := by unfold NumT; intros; kernel_rfl!
theorem rn_5 : NumT 5 := by unfold NumT; intros; kernel_rfl!
theorem rn_6 : NumT 6 := by unfold NumT; intros; kernel_rfl!
theorem rn_7 : NumT 7 := by unfold NumT; intros; kernel_rfl!
theorem rn_8 : NumT 8 := by unfold NumT; intros; kernel_rfl!
theorem rn_9 : NumT 9 := by unfold NumT; intros; kernel_rfl!
theorem rn_21 : NumT 21 := by unfold NumT; intros; kernel_rfl!
theorem rn_22 : NumT 22 := by unfold NumT; intros; kernel_rfl!
theorem rn_23 : NumT 23 := by unfold NumT; intros; kernel_rfl!
theorem rn_24 : NumT 24 := by unfold NumT; intros; kernel_rfl!
theorem rn_25 : NumT 25 := by unfold NumT; intros; kernel_rfl!
theorem rn_26 : NumT 26 := by unfold NumT; intros; kernel_rfl!
theorem rn_27 : NumT 27 := by unfold NumT; intros; kernel_rfl!
theorem rn_28 : NumT 28 := by unfold NumT; intros; kernel_rfl!
theorem rn_29 : NumT 29 := by unfold NumT; intros; kernel_rfl!
theorem rn_31 : NumT 31 := by unfold NumT; intros; kernel_rfl!
theorem rn_39 : NumT 39 := by unfold NumT; intros; kernel_rfl!
theorem rn_41 : NumT 41 := by unfold NumT; intros; kernel_rfl!
theorem rn_47 : NumT 47 := by unfold NumT; intros; kernel_rfl!
theorem rn_49 : NumT 49 := by unfold NumT; intros; kernel_rfl!
theorem rn_53 : NumT 53 := by unfold NumT; intros; kernel_rfl!
theorem rn_55 : NumT 55 := by unfold NumT; intros; kernel_rfl!
theorem rn_59 : NumT 59 := by unfold NumT; intros; kernel_rfl!
theorem rn_91 : NumT 91 := by unfold NumT; intros; kernel_rfl!
theorem rn_94 : NumT 94 := by unfold NumT; intros; kernel_rfl!
theorem rn_101 : NumT 101 := by unfold NumT; intros; kernel_rfl!
theorem rn_107 : NumT 107 := by unfold NumT; intros; kernel_rfl!
theorem rn_200 : NumT 200 := by unfold NumT; intros; kernel_rfl!
theorem num_t {q : Nat} (h : q ∈ nums) : NumT q := mem_nums h rn_1 rn_2 rn_3 rn_4 rn_5 rn_6 rn_7 rn_8 rn_9 rn_21 rn_22 rn_23 rn_24 rn_25 rn_26 rn_27 rn_28 rn_29 rn_31 rn_39 rn_41 rn_47 rn_49 rn_53 rn_55 rn_59 rn_91 rn_94 rn_101 rn_107 rn_200
theorem rg_0 : rW fg (n + 1) (pn f a b c lk) par (.list [.none] :: R) j k = rW fg n (pn 0 (-1) (-1) (-1) lk) par R ⟨ov (.list [.none]), oi 0, j.c, j.d, j.e, j.f⟩ k := by kernel_rfl!
theorem rg_1 : rW fg (n + 1) (pn f a b c lk) par (.list [.int 0] :: R) j k = rW fg n (pn 0 (-1) (-1) (-1) lk) par R ⟨ov (.list [.int 0]), oi 0, j.c, j.d, j.e, j.f⟩ k := by kernel_rfl!
theorem rg_2 : rW fg (n + 1) (pn f a b c lk) par (.list [.int 4, .int 0] :: R) j k = rW fg n (pn (f.fmod 512 + 512 * 0) a b c lk) par R ⟨ov (.list [.int 4, .int 0]), oi 4, j.c, j.d, j.e, j.f⟩ k := by kernel_rfl!
theorem rg_3 : rW fg (n + 1) (pn f a b c lk) par (.list [.int 4, .int 1] :: R) j k = rW fg n (pn (f.fmod 512 + 512 * 1) a b c lk) par R ⟨ov (.list [.int 4, .int 1]), oi 4, j.c, j.d, j.e, j.f⟩ k := by kernel_rfl!
theorem rg_4 : rW fg (n + 1) (pn f a b c lk) par (.list [.int 4, .int 2] :: R) j k = rW fg n (pn (f.fmod 512 + 512 * 2) a b c lk) par R ⟨ov (.list [.int 4, .int 2]), oi 4, j.c, j.d, j.e, j.f⟩ k := by kernel_rfl!
theorem rg_5 : rW fg (n + 1) (pn f a b c lk) par (.list [.int 4, .int 3] :: R) j k = rW fg n (pn (f.fmod 512 + 512 * 3) a b c lk) par R ⟨ov (.list [.int 4, .int 3]), oi 4, j.c, j.d, j.e, j.f⟩ k := by kernel_rfl!
theorem rg_6 : rW fg (n + 1) (pn f a b c lk) par (.list [.int 4, .int 4] :: R) j k = rW fg n (pn (f.fmod 512 + 512 * 4) a b c lk) par R ⟨ov (.list [.int 4, .int 4]), oi 4, j.c, j.d, j.e, j.f⟩ k := by kernel_rfl!
theorem rg_7 : rW fg (n + 1) (pn f a b c lk) par (.list [.int 4, .int 5] :: R) j k = rW fg n (pn (f.fmod 512 + 512 * 5) a b c lk) par R ⟨ov (.list [.int 4, .int 5]), oi 4, j.c, j.d, j.e, j.f⟩ k := by kernel_rfl!
theorem rg_8 : rW fg (n + 1) (pn f a b c lk) par (.list [.int 4, .int 7] :: R) j k = rW fg n (pn f a b c lk) par R ⟨ov (.list [.int 4, .int 7]), oi 4, j.c, j.d, j.e, j.f⟩ k := by kernel_rfl!
theorem rg_9 : rW fg (n + 1) (pn f a b c lk) par (.list [.int 1, .int 2] :: R) j k = rW fg n (pn f a b c lk) par R ⟨ov (.list [.int 1, .int 2]), oi 1, j.c, j.d, j.e, j.f⟩ k := by kernel_rfl!
theorem rg_10 : rW fg (n + 1) (pn f a b c lk) par (.list [.int 4, .none] :: R) j k = rW fg n (pn f a b c lk) par R ⟨ov (.list [.int 4, .none]), oi 4, j.c, j.d, j.e, j.f⟩ k := by kernel_rfl!
theorem rg_11 : rW fg (n + 1) (pn f a b c lk) par (.list [.int 48, .int 5, .int 3] :: R) j k = rW fg n (pn f a 3 c lk) par R ⟨ov (.list [.int 48, .int 5, .int 3]), oi 48, ov (.int 5), ov (.list [.int 3]), j.e, ov (.int 3)⟩ k := by kernel_rfl!
theorem rg_12 : rW fg (n + 1) (pn f a b c lk) par (.list [.int 48, .int 2, .int 1, .int 2, .int 3] :: R) j k = rW fg n (pn f a 16843267 c lk) par R ⟨ov (.list [.int 48, .int 2, .int 1, .int 2, .int 3]), oi 48, ov (.int 2), ov (.list [.int 1, .int 2, .int 3]), j.e, ov (.int 16843267)⟩ k := by kernel_rfl!
theorem rg_13 : rW fg (n + 1) (pn f a b c lk) par (.list [.int 58, .int 2, .int 0, .int 9, .int 8, .int 7] :: R) j k = rW fg n (pn f a b 17369095 lk) par R ⟨ov (.list [.int 58, .int 2, .int 0, .int 9, .int 8, .int 7]), oi 58, ov (.int 2), ov (.list [.int 9, .int 8, .int 7]), j.e, ov (.int 17369095)⟩ k := by kernel_rfl!
theorem rg_14 : rW fg (n + 1) (pn f a b c lk) par (.list [.int 38, .int 5, .int 300] :: R) j k = rW fg n (pn f a b c lk) par R ⟨ov (.list [.int 38, .int 5, .int 300]), oi 38, ov (.int 5), ov (.list [.int 300]), j.e, ov (.none)⟩ k := by kernel_rfl!
theorem rg_15 : rW fg (n + 1) (pn f a b c lk) par (.list [.int 38] :: .list [.int 5] :: .list [.int 77] :: R) j k = rW fg n (pn f 77 b c lk) par R ⟨ov (.list [.int 38]), oi 38, ov (.int 5), ov (.list [.int 77]), oi 1, ov (.int 77)⟩ k := by kernel_rfl!
theorem rg_16 : rW fg (n + 1) (pn f a b c lk) par (.list [.int 38] :: .list [.int 5] :: .list [.int 16] :: R) j k = rW fg n (pn f 16 b c lk) par R ⟨ov (.list [.int 38]), oi 38, ov (.int 5), ov (.list [.int 16]), oi 1, ov (.int 16)⟩ k := by kernel_rfl!
theorem rg_17 : rW fg (n + 1) (pn f a b c lk) par (.list [.int 38] :: .list [.int 2] :: .list [.int 1] :: .list [.int 2] :: .list [.int 3] :: R) j k = rW fg n (pn f 16843267 b c lk) par R ⟨ov (.list [.int 38]), oi 38, ov (.int 2), ov (.list [.int 1, .int 2, .int 3]), oi 3, ov (.int 16843267)⟩ k := by kernel_rfl!
theorem rg_18 : rW fg (n + 1) (pn f a b c lk) par (.list [.int 38] :: .list [.int 2] :: .list [.int 0] :: .list [.int 0] :: .list [.int 0] :: R) j k = rW fg n (pn f 16777216 b c lk) par R ⟨ov (.list [.int 38]), oi 38, ov (.int 2), ov (.list [.int 0, .int 0, .int 0]), oi 3, ov (.int 16777216)⟩ k := by kernel_rfl!
theorem rg_19 : rW fg (n + 1) (pn f a b c lk) par (.list [.int 48] :: .list [.int 5] :: .list [.int 77] :: R) j k = rW fg n (pn f a 77 c lk) par R ⟨ov (.list [.int 48]), oi 48, ov (.int 5), ov (.list [.int 77]), oi 1, ov (.int 77)⟩ k := by kernel_rfl!
theorem rg_20 : rW fg (n + 1) (pn f a b c lk) par (.list [.int 48] :: .list [.int 5] :: .list [.int 16] :: R) j k = rW fg n (pn f a 16 c lk) par R ⟨ov (.list [.int 48]), oi 48, ov (.int 5), ov (.list [.int 16]), oi 1, ov (.int 16)⟩ k := by kernel_rfl!
theorem rg_21 : rW fg (n + 1) (pn f a b c lk) par (.list [.int 48] :: .list [.int 2] :: .list [.int 1] :: .list [.int 2] :: .list [.int 3] :: R) j k = rW fg n (pn f a 16843267 c lk) par R ⟨ov (.list [.int 48]), oi 48, ov (.int 2), ov (.list [.int 1, .int 2, .int 3]), oi 3, ov (.int 16843267)⟩ k := by kernel_rfl!
theorem rg_22 : rW fg (n + 1) (pn f a b c lk) par (.list [.int 48] :: .list [.int 2] :: .list [.int 0] :: .list [.int 0] :: .list [.int 0] :: R) j k = rW fg n (pn f a 16777216 c lk) par R ⟨ov (.list [.int 48]), oi 48, ov (.int 2), ov (.list [.int 0, .int 0, .int 0]), oi 3, ov (.int 16777216)⟩ k := by kernel_rfl!
theorem rg_23 : rW fg (n + 1) (pn f a b c lk) par (.list [.int 58] :: .list [.int 5] :: .list [.int 77] :: R) j k = rW fg n (pn f a b 77 lk) par R ⟨ov (.list [.int 58]), oi 58, ov (.int 5), ov (.list [.int 77]), oi 1, ov (.int 77)⟩ k := by kernel_rfl!
theorem rg_24 : rW fg (n + 1) (pn f a b c lk) par (.list [.int 58] :: .list [.int 5] :: .list [.int 16] :: R) j k = rW fg n (pn f a b 16 lk) par R ⟨ov (.list [.int 58]), oi 58, ov (.int 5), ov (.list [.int 16]), oi 1, ov (.int 16)⟩ k := by kernel_rfl!
theorem rg_25 : rW fg (n + 1) (pn f a b c lk) par (.list [.int 58] :: .list [.int 2] :: .list [.int 1] :: .list [.int 2] :: .list [.int 3] :: R) j k = rW fg n (pn f a b 16843267 lk) par R ⟨ov (.list [.int 58]), oi 58, ov (.int 2), ov (.list [.int 1, .int 2, .int 3]), oi 3, ov (.int 16843267)⟩ k := by kernel_rfl!
theorem rg_26 : rW fg (n + 1) (pn f a b c lk) par (.list [.int 58] :: .list [.int 2] :: .list [.int 0] :: .list [.int 0] :: .list [.int 0] :: R) j k = rW fg n (pn f a b 16777216 lk) par R ⟨ov (.list [.int 58]), oi 58, ov (.int 2), ov (.list [.int 0, .int 0, .int 0]), oi 3, ov (.int 16777216)⟩ k := by kernel_rfl!
theorem rg_27 : rW fg (n + 1) (pn f a b c lk) par (.list [.int 58] :: .list [.int 5] :: .list [.int 1] :: R) j k = rW fg n (pn f a b 1 lk) par R ⟨ov (.list [.int 58]), oi 58, ov (.int 5), ov (.list [.int 1]), oi 1, ov (.int 1)⟩ k := by kernel_rfl!
theorem rg_28 : rW fg (n + 1) (pn f a b c lk) par (.list [.int 58] :: .list [.int 5] :: .list [.int 9] :: R) j k = rW fg n (pn f a b 9 lk) par R ⟨ov (.list [.int 58]), oi 58, ov (.int 5), ov (.list [.int 9]), oi 1, ov (.int 9)⟩ k := by kernel_rfl!
theorem rg_29 : rW fg (n + 1) (pn f a b c lk) par (.list [.int 38] :: .list [.int 5] :: .list [.int 200] :: R) j k = rW fg n (pn f 200 b c lk) par R ⟨ov (.list [.int 38]), oi 38, ov (.int 5), ov (.list [.int 200]), oi 1, ov (.int 200)⟩ k := by kernel_rfl!
theorem rg_30 : rW fg (n + 1) (pn f a b c lk) par (.list [.int 58] :: .list [.int 5] :: .list [.int 300] :: R) j k = rW fg n (pn f a b c lk) par R ⟨ov (.list [.int 58]), oi 58, ov (.int 5), ov (.list [.int 300]), oi 1, ov (.none)⟩ k := by kernel_rfl!
theorem rg_31 : rW fg (n + 1) (pn f a b c lk) par (.list [.int 48] :: .list [.int 7] :: R) j k = rW fg n (pn f a b c lk) par R ⟨ov (.list [.int 48]), oi 48, ov (.int 7), ov (.list []), oi 0, ov (.none)⟩ k := by kernel_rfl!
theorem rg_32 : rW fg (n + 1) (pn f a b c lk) par (.list [.int 38] :: .list [.int 2] :: .list [.int 1] :: .list [.int 256] :: .list [.int 3] :: R) j k = rW fg n (pn f a b c lk) par R ⟨ov (.list [.int 38]), oi 38, ov (.int 2), ov (.list [.int 1, .int 256, .int 3]), oi 3, ov (.none)⟩ k := by kernel_rfl!
theorem rg_33 : rW fg (n + 1) (pn f a b c lk) par (.list [.int 48] :: .list [.int 2] :: .list [.none] :: .list [.int 7] :: .list [.none] :: R) j k = rW fg n (pn f a 16779008 c lk) par R ⟨ov (.list [.int 48]), oi 48, ov (.int 2), ov (.list [.none, .int 7, .none]), oi 3, ov (.int 16779008)⟩ k := by kernel_rfl!
theorem rg_34 : rW fg (n + 1) (pn f a b c lk) par (.list [.int 38] :: []) j k = rW fg n (pn f a b c lk) par [] ⟨ov (.list [.int 38]), oi 38, ov (.none), ov (.list []), oi 0, ov (.none)⟩ k := by kernel_rfl!
theorem rg_35 : rW fg (n + 1) (pn f a b c lk) par (.list [.int 48] :: .list [.int 5] :: []) j k = rW fg n (pn f a b c lk) par [] ⟨ov (.list [.int 48]), oi 48, ov (.int 5), ov (.list []), oi 1, ov (.none)⟩ k := by kernel_rfl!
theorem rg_36 : rW fg (n + 1) (pn f a b c lk) par (.list [.int 58] :: .list [.int 2] :: .list [.int 1] :: []) j k = rW fg n (pn f a b c lk) par [] ⟨ov (.list [.int 58]), oi 58, ov (.int 2), ov (.list [.int 1]), oi 3, ov (.none)⟩ k := by kernel_rfl!
end
end Og
end
section
open PySem
namespace Og
/-- a look -/
structure S where
  l : Nat
  u : Nat
  a : Int
  b : Int
  c : Int
structure S.Wf (s : S) : Prop where
  l : s.l < 512
  u : s.u < 6
noncomputable def pS (s : S) (lk : Int) : PV := pn (fl s.l s.u) s.a s.b s.c lk
noncomputable def numS (n : Nat) (s : S) : S := ⟨flN rowL n s.l, undN n s.u, colF 1 n s.a, colF 2 n s.b, colF 3 n s.c⟩
theorem numS_wf {n : Nat} {s : S} (h : s.Wf) : (numS n s).Wf := ⟨flN_lt n rowL s.l (fun _ h => h) h.l, undN_lt h.u⟩
noncomputable def setC (p : Nat) (d : Int) (s : S) : S := ⟨s.l, s.u, bif Nat.beq p 1 then d else s.a, bif Nat.beq p 2 then d else s.b, bif Nat.beq p 3 then d else s.c⟩
noncomputable def setU (v : Nat) (s : S) : S := { s with u := v }
noncomputable def setL (l : Nat) (s : S) : S := { s with l := l }
/-- one turn of the law's reader -/
noncomputable def LawT (g : List PV) (e : S → S) : Prop := ∀ (n : Nat) (s : S) (lk : Int) (R : List PV) (par : PV) (j : J) (k : Fl → Rho → Sto → Option PV), s.Wf →
  ∃ j', rW fFlagged (n + 1) (pS s lk) par (g ++ R) j k = rW fFlagged n (pS (e s) lk) par R j' k
theorem lawT_num {q : Nat} (h : q ∈ nums) : LawT [.list [.int q]] (numS q) := by
  intro n s lk R par j k w
  have e := num_t h fFlagged n (pS s lk) par R j k
  unfold pS at e
  rw [flagged_ok h w.l, bnd_some] at e
  exact ⟨_, e⟩
theorem LawT.eq {g : List PV} {e e' : S → S} (h : LawT g e) (q : ∀ s, s.Wf → e s = e' s) : LawT g e' := by
  intro n s lk R par j k w
  obtain ⟨j', e⟩ := h n s lk R par j k w
  exact ⟨j', by rw [e, q s w]⟩
theorem fm {s : S} (w : s.Wf) (v : Nat) : (fl s.l s.u).fmod 512 + 512 * (v : Int) = fl s.l v := by
  rw [fmod512 w.l]; unfold fl; omega
theorem lt_0 : LawT [.list [.none]] (fun _ => ⟨0, 0, -1, -1, -1⟩) := by
  intro n s lk R par j k w
  exact ⟨_, rg_0 fFlagged n par (fl s.l s.u) s.a s.b s.c lk R j k⟩
theorem lt_1 : LawT [.list [.int 0]] (fun _ => ⟨0, 0, -1, -1, -1⟩) := by
  intro n s lk R par j k w
  exact ⟨_, rg_1 fFlagged n par (fl s.l s.u) s.a s.b s.c lk R j k⟩
theorem lt_2 : LawT [.list [.int 4, .int 0]] (setU 0) := by
  intro n s lk R par j k w
  have e := rg_2 fFlagged n par (fl s.l s.u) s.a s.b s.c lk R j k
  have t := fm w 0
  rw [show (((0 : Nat)) : Int) = 0 from rfl] at t
  rw [t] at e
  exact ⟨_, e⟩
theorem lt_3 : LawT [.list [.int 4, .int 1]] (setU 1) := by
  intro n s lk R par j k w
  have e := rg_3 fFlagged n par (fl s.l s.u) s.a s.b s.c lk R j k
  have t := fm w 1
  rw [show (((1 : Nat)) : Int) = 1 from rfl] at t
  rw [t] at e
  exact ⟨_, e⟩
theorem lt_4 : LawT [.list [.int 4, .int 2]] (setU 2) := by
  intro n s lk R par j k w
  have e := rg_4 fFlagged n par (fl s.l s.u) s.a s.b s.c lk R j k
  have t := fm w 2
  rw [show (((2 : Nat)) : Int) = 2 from rfl] at t
  rw [t] at e
  exact ⟨_, e⟩
theorem lt_5 : LawT [.list [.int 4, .int 3]] (setU 3) := by
  intro n s lk R par j k w
  have e := rg_5 fFlagged n par (fl s.l s.u) s.a s.b s.c lk R j k
  have t := fm w 3
  rw [show (((3 : Nat)) : Int) = 3 from rfl] at t
  rw [t] at e
  exact ⟨_, e⟩
theorem lt_6 : LawT [.list [.int 4, .int 4]] (setU 4) := by
  intro n s lk R par j k w
  have e := rg_6 fFlagged n par (fl s.l s.u) s.a s.b s.c lk R j k
  have t := fm w 4
  rw [show (((4 : Nat)) : Int) = 4 from rfl] at t
  rw [t] at e
  exact ⟨_, e⟩
theorem lt_7 : LawT [.list [.int 4, .int 5]] (setU 5) := by
  intro n s lk R par j k w
  have e := rg_7 fFlagged n par (fl s.l s.u) s.a s.b s.c lk R j k
  have t := fm w 5
  rw [show (((5 : Nat)) : Int) = 5 from rfl] at t
  rw [t] at e
  exact ⟨_, e⟩
theorem lt_8 : LawT [.list [.int 4, .int 7]] (fun s => s) := by
  intro n s lk R par j k w
  exact ⟨_, rg_8 fFlagged n par (fl s.l s.u) s.a s.b s.c lk R j k⟩
theorem lt_9 : LawT [.list [.int 1, .int 2]] (fun s => s) := by
  intro n s lk R par j k w
  exact ⟨_, rg_9 fFlagged n par (fl s.l s.u) s.a s.b s.c lk R j k⟩
theorem lt_10 : LawT [.list [.int 4, .none]] (fun s => s) := by
  intro n s lk R par j k w
  exact ⟨_, rg_10 fFlagged n par (fl s.l s.u) s.a s.b s.c lk R j k⟩
theorem lt_11 : LawT [.list [.int 48, .int 5, .int 3]] (setC 2 3) := by
  intro n s lk R par j k w
  exact ⟨_, rg_11 fFlagged n par (fl s.l s.u) s.a s.b s.c lk R j k⟩
theorem lt_12 : LawT [.list [.int 48, .int 2, .int 1, .int 2, .int 3]] (setC 2 16843267) := by
  intro n s lk R par j k w
  exact ⟨_, rg_12 fFlagged n par (fl s.l s.u) s.a s.b s.c lk R j k⟩
theorem lt_13 : LawT [.list [.int 58, .int 2, .int 0, .int 9, .int 8, .int 7]] (setC 3 17369095) := by
  intro n s lk R par j k w
  exact ⟨_, rg_13 fFlagged n par (fl s.l s.u) s.a s.b s.c lk R j k⟩
theorem lt_14 : LawT [.list [.int 38, .int 5, .int 300]] (fun s => s) := by
  intro n s lk R par j k w
  exact ⟨_, rg_14 fFlagged n par (fl s.l s.u) s.a s.b s.c lk R j k⟩
theorem lt_15 : LawT [.list [.int 38], .list [.int 5], .list [.int 77]] (setC 1 77) := by
  intro n s lk R par j k w
  exact ⟨_, rg_15 fFlagged n par (fl s.l s.u) s.a s.b s.c lk R j k⟩
theorem lt_16 : LawT [.list [.int 38], .list [.int 5], .list [.int 16]] (setC 1 16) := by
  intro n s lk R par j k w
  exact ⟨_, rg_16 fFlagged n par (fl s.l s.u) s.a s.b s.c lk R j k⟩
theorem lt_17 : LawT [.list [.int 38], .list [.int 2], .list [.int 1], .list [.int 2], .list [.int 3]] (setC 1 16843267) := by
  intro n s lk R par j k w
  exact ⟨_, rg_17 fFlagged n par (fl s.l s.u) s.a s.b s.c lk R j k⟩
theorem lt_18 : LawT [.list [.int 38], .list [.int 2], .list [.int 0], .list [.int 0], .list [.int 0]] (setC 1 16777216) := by
  intro n s lk R par j k w
  exact ⟨_, rg_18 fFlagged n par (fl s.l s.u) s.a s.b s.c lk R j k⟩
theorem lt_19 : LawT [.list [.int 48], .list [.int 5], .list [.int 77]] (setC 2 77) := by
  intro n s lk R par j k w
  exact ⟨_, rg_19 fFlagged n par (fl s.l s.u) s.a s.b s.c lk R j k⟩
theorem lt_20 : LawT [.list [.int 48], .list [.int 5], .list [.int 16]] (setC 2 16) := by
  intro n s lk R par j k w
  exact ⟨_, rg_20 fFlagged n par (fl s.l s.u) s.a s.b s.c lk R j k⟩
theorem lt_21 : LawT [.list [.int 48], .list [.int 2], .list [.int 1], .list [.int 2], .list [.int 3]] (setC 2 16843267) := by
  intro n s lk R par j k w
  exact ⟨_, rg_21 fFlagged n par (fl s.l s.u) s.a s.b s.c lk R j k⟩
theorem lt_22 : LawT [.list [.int 48], .list [.int 2], .list [.int 0], .list [.int 0], .list [.int 0]] (setC 2 16777216) := by
  intro n s lk R par j k w
  exact ⟨_, rg_22 fFlagged n par (fl s.l s.u) s.a s.b s.c lk R j k⟩
theorem lt_23 : LawT [.list [.int 58], .list [.int 5], .list [.int 77]] (setC 3 77) := by
  intro n s lk R par j k w
  exact ⟨_, rg_23 fFlagged n par (fl s.l s.u) s.a s.b s.c lk R j k⟩
theorem lt_24 : LawT [.list [.int 58], .list [.int 5], .list [.int 16]] (setC 3 16) := by
  intro n s lk R par j k w
  exact ⟨_, rg_24 fFlagged n par (fl s.l s.u) s.a s.b s.c lk R j k⟩
theorem lt_25 : LawT [.list [.int 58], .list [.int 2], .list [.int 1], .list [.int 2], .list [.int 3]] (setC 3 16843267) := by
  intro n s lk R par j k w
  exact ⟨_, rg_25 fFlagged n par (fl s.l s.u) s.a s.b s.c lk R j k⟩
theorem lt_26 : LawT [.list [.int 58], .list [.int 2], .list [.int 0], .list [.int 0], .list [.int 0]] (setC 3 16777216) := by
  intro n s lk R par j k w
  exact ⟨_, rg_26 fFlagged n par (fl s.l s.u) s.a s.b s.c lk R j k⟩
theorem lt_27 : LawT [.list [.int 58], .list [.int 5], .list [.int 1]] (setC 3 1) := by
  intro n s lk R par j k w
  exact ⟨_, rg_27 fFlagged n par (fl s.l s.u) s.a s.b s.c lk R j k⟩
theorem lt_28 : LawT [.list [.int 58], .list [.int 5], .list [.int 9]] (setC 3 9) := by
  intro n s lk R par j k w
  exact ⟨_, rg_28 fFlagged n par (fl s.l s.u) s.a s.b s.c lk R j k⟩
theorem lt_29 : LawT [.list [.int 38], .list [.int 5], .list [.int 200]] (setC 1 200) := by
  intro n s lk R par j k w
  exact ⟨_, rg_29 fFlagged n par (fl s.l s.u) s.a s.b s.c lk R j k⟩
theorem lt_30 : LawT [.list [.int 58], .list [.int 5], .list [.int 300]] (fun s => s) := by
  intro n s lk R par j k w
  exact ⟨_, rg_30 fFlagged n par (fl s.l s.u) s.a s.b s.c lk R j k⟩
theorem lt_31 : LawT [.list [.int 48], .list [.int 7]] (fun s => s) := by
  intro n s lk R par j k w
  exact ⟨_, rg_31 fFlagged n par (fl s.l s.u) s.a s.b s.c lk R j k⟩
theorem lt_32 : LawT [.list [.int 38], .list [.int 2], .list [.int 1], .list [.int 256], .list [.int 3]] (fun s => s) := by
  intro n s lk R par j k w
  exact ⟨_, rg_32 fFlagged n par (fl s.l s.u) s.a s.b s.c lk R j k⟩
theorem lt_33 : LawT [.list [.int 48], .list [.int 2], .list [.none], .list [.int 7], .list [.none]] (setC 2 16779008) := by
  intro n s lk R par j k w
  exact ⟨_, rg_33 fFlagged n par (fl s.l s.u) s.a s.b s.c lk R j k⟩
end Og
end
section
open PySem
namespace Og
noncomputable def Reads (q : Nat) (P : List PV) (s s' : S) : Prop := ∀ (m : Nat) (lk : Int) (par : PV) (R : List PV) (j : J) (k : Fl → Rho → Sto → Option PV),
  ∃ j', rW fFlagged (m + q) (pS s lk) par (P ++ R) j k = rW fFlagged m (pS s' lk) par R j' k
theorem Reads.refl (s : S) : Reads 0 [] s s := fun _ _ _ _ j _ => ⟨j, rfl⟩
theorem Reads.trans {q q' : Nat} {P P' : List PV} {s s' s'' : S} (a : Reads q P s s') (b : Reads q' P' s' s'') : Reads (q' + q) (P ++ P') s s'' := by
  intro m lk par R j k
  obtain ⟨j1, e1⟩ := a (m + q') lk par (P' ++ R) j k
  obtain ⟨j2, e2⟩ := b m lk par R j1 k
  refine ⟨j2, ?_⟩
  rw [List.append_assoc, ← Nat.add_assoc, e1, e2]
theorem LawT.reads {g : List PV} {e : S → S} (h : LawT g e) {s : S} (w : s.Wf) : Reads 1 g s (e s) := fun m lk par R j k => h m s lk R par j k w
theorem not_cons {α : Type} {p r : α} {t : List α} (ep : ¬ p = r) (np : p ∉ t) : p ∉ r :: t := fun hm => by
  rcases List.mem_cons.mp hm with z | z
  · exact ep z
  · exact np z
/-! ## bits by sight -/
theorem tN_bit (m i : Nat) : tN m (2 ^ i) = m.testBit i := by
  unfold tN
  rw [Nat.testBit_eq_decide_div_mod_eq, Bool.eq_iff_iff, Nat.beq_eq, decide_eq_true_iff]
theorem row_pow {r : Row} (hr : r ∈ rowL) : ∃ i, i < 9 ∧ r.1 = 2 ^ i :=
  mem_rowL (Q := fun r => ∃ i, i < 9 ∧ r.1 = 2 ^ i) hr ⟨0, by decide, rfl⟩ ⟨1, by decide, rfl⟩ ⟨2, by decide, rfl⟩ ⟨3, by decide, rfl⟩ ⟨4, by decide, rfl⟩ ⟨5, by decide, rfl⟩ ⟨6, by decide, rfl⟩ ⟨7, by decide, rfl⟩ ⟨8, by decide, rfl⟩
theorem pow_row {i : Nat} (h : i < 9) : ∃ r ∈ rowL, r.1 = 2 ^ i := by
  match i, h with
  | 0, _ => exact ⟨(1, 1, 22), by decide, rfl⟩
  | 1, _ => exact ⟨(2, 2, 22), by decide, rfl⟩
  | 2, _ => exact ⟨(4, 3, 23), by decide, rfl⟩
  | 3, _ => exact ⟨(8, 5, 25), by decide, rfl⟩
  | 4, _ => exact ⟨(16, 6, 25), by decide, rfl⟩
  | 5, _ => exact ⟨(32, 7, 27), by decide, rfl⟩
  | 6, _ => exact ⟨(64, 8, 28), by decide, rfl⟩
  | 7, _ => exact ⟨(128, 9, 29), by decide, rfl⟩
  | 8, _ => exact ⟨(256, 53, 55), by decide, rfl⟩
theorem bits_ext {l n : Nat} (hl : l < 512) (hn : n < 512) (h : ∀ r ∈ rowL, tN l r.1 = tN n r.1) : l = n := by
  apply Nat.eq_of_testBit_eq
  intro i
  by_cases e : i < 9
  · obtain ⟨r, hr, er⟩ := pow_row e
    have := h r hr
    rw [er, tN_bit, tN_bit] at this
    exact this
  · have hp : 2 ^ 9 ≤ 2 ^ i := Nat.pow_le_pow_right (by decide) (by omega)
    rw [Nat.testBit_lt_two_pow (Nat.lt_of_lt_of_le hl hp), Nat.testBit_lt_two_pow (Nat.lt_of_lt_of_le hn hp)]
theorem up_bits {r q : Row} (hr : r ∈ rowL) (hq : q ∈ rowL) {l : Nat} (hl : l < 512) : tN (up1 l r.1) q.1 = (tN l q.1 || decide (r.1 = q.1)) := by
  rw [← (up_ok hr hl).2]
  obtain ⟨i, _, ei⟩ := row_pow hr
  obtain ⟨j, _, ej⟩ := row_pow hq
  rw [ei, ej, tN_bit, tN_bit, Nat.testBit_or, Nat.testBit_two_pow]
  congr 1
  rw [Bool.eq_iff_iff, decide_eq_true_iff, decide_eq_true_iff]
  exact ⟨fun h => by rw [h], fun h => (Nat.pow_right_inj (by decide : 1 < 2)).mp h⟩
noncomputable def lowOk (l : Nat) : Bool := clearsL.all fun c => Nat.beq (lowS c l) (l &&& lowS c 511)
theorem low_all : (List.range 512).all lowOk = true := by kernel_rfl!
theorem low_bits {r q : Row} (hr : r ∈ rowL) (hq : q ∈ rowL) {l : Nat} (hl : l < 512) : tN (lowS r.2.2 l) q.1 = (tN l q.1 && tN (lowS r.2.2 511) q.1) := by
  have := List.all_eq_true.mp (List.all_eq_true.mp low_all l (List.mem_range.mpr hl)) _ (clear_mem hr)
  rw [Nat.eq_of_beq_eq_true this]
  obtain ⟨j, _, ej⟩ := row_pow hq
  rw [ej, tN_bit, tN_bit, tN_bit, Nat.testBit_and]
theorem low_own {r : Row} (hr : r ∈ rowL) : tN (lowS r.2.2 511) r.1 = false :=
  mem_rowL (Q := fun r => tN (lowS r.2.2 511) r.1 = false) hr (by kernel_rfl!) (by kernel_rfl!) (by kernel_rfl!) (by kernel_rfl!) (by kernel_rfl!) (by kernel_rfl!) (by kernel_rfl!) (by kernel_rfl!) (by kernel_rfl!)
/-- after the clearing none is set that the new one has not -/
theorem clrN_sub {n : Nat} : ∀ (t : List Row) (h : Nat), (∀ r ∈ t, r ∈ rowL) → h < 512 → (∀ q ∈ rowL, q ∉ t → tN h q.1 = true → tN n q.1 = true) → ∀ q ∈ rowL, tN (clrN t h n).2 q.1 = true → tN n q.1 = true
  | [], h, _, _, I, q, hq, e => I q hq (by simp) e
  | r :: t, h, ht, hh, I, q, hq, e => by
    have hr := ht r (by simp)
    have ht' : ∀ q ∈ t, q ∈ rowL := fun q hq => ht q (List.mem_cons_of_mem _ hq)
    unfold clrN at e
    cases c : (tN h r.1 && !tN n r.1)
    · rw [c, cond_false] at e
      refine clrN_sub t h ht' hh (fun p hp np hb => ?_) q hq e
      by_cases ep : p = r
      · subst ep
        rw [hb, Bool.true_and] at c
        simpa using c
      · exact I p hp (not_cons ep np) hb
    · rw [c, cond_true] at e
      refine clrN_sub t (lowS r.2.2 h) ht' (lowS_lt hr hh) (fun p hp np hb => ?_) q hq e
      rw [low_bits hr hp hh, Bool.and_eq_true] at hb
      by_cases ep : p = r
      · subst ep
        rw [low_own hr] at hb
        exact absurd hb.2 (by decide)
      · exact I p hp (not_cons ep np) hb.1
noncomputable def rdS : List Row → Nat → Nat → Nat → Nat
  | [], _, _, l => l
  | r :: t, h, n, l => bif (tN n r.1 && !tN h r.1) then rdS t h n (up1 l r.1) else rdS t h n l
theorem rdS_eq {h n : Nat} (hn : n < 512) : ∀ (t : List Row) (l : Nat), (∀ r ∈ t, r ∈ rowL) → l < 512 → (∀ q ∈ rowL, tN l q.1 = true → tN n q.1 = true) → (∀ q ∈ rowL, tN h q.1 = true → tN l q.1 = true) →
    (∀ q ∈ rowL, q ∉ t → tN n q.1 = true → tN l q.1 = true) → rdS t h n l = n
  | [], l, _, hl, I1, _, I3 => bits_ext hl hn fun q hq => by
      rw [Bool.eq_iff_iff]; exact ⟨I1 q hq, I3 q hq (by simp)⟩
  | r :: t, l, ht, hl, I1, I2, I3 => by
    have hr := ht r (by simp)
    have ht' : ∀ q ∈ t, q ∈ rowL := fun q hq => ht q (List.mem_cons_of_mem _ hq)
    unfold rdS
    cases c : (tN n r.1 && !tN h r.1)
    · rw [cond_false]
      refine rdS_eq hn t l ht' hl I1 I2 (fun p hp np hb => ?_)
      by_cases ep : p = r
      · subst ep
        rw [hb, Bool.true_and] at c
        exact I2 p hp (by simpa using c)
      · exact I3 p hp (not_cons ep np) hb
    · rw [cond_true]
      rw [Bool.and_eq_true] at c
      refine rdS_eq hn t (up1 l r.1) ht' (up_ok hr hl).1 (fun p hp hb => ?_) (fun p hp hb => ?_) (fun p hp np hb => ?_)
      · rw [up_bits hr hp hl, Bool.or_eq_true] at hb
        rcases hb with hb | hb
        · exact I1 p hp hb
        · rw [← of_decide_eq_true hb]; exact c.1
      · rw [up_bits hr hp hl, I2 p hp hb]; rfl
      · rw [up_bits hr hp hl]
        by_cases ep : p = r
        · subst ep; simp
        · rw [I3 p hp (not_cons ep np) hb]; rfl
/-! ## reading the changes -/
theorem on_num {r : Row} (hr : r ∈ rowL) : r.2.1 ∈ nums :=
  mem_rowL (Q := fun r => r.2.1 ∈ nums) hr (by decide) (by decide) (by decide) (by decide) (by decide) (by decide) (by decide) (by decide) (by decide)
theorem off_num {r : Row} (hr : r ∈ rowL) : r.2.2 ∈ nums :=
  mem_rowL (Q := fun r => r.2.2 ∈ nums) hr (by decide) (by decide) (by decide) (by decide) (by decide) (by decide) (by decide) (by decide) (by decide)
theorem on_eff {r : Row} (hr : r ∈ rowL) (s : S) : numS r.2.1 s = setL (up1 s.l r.1) s :=
  mem_rowL (Q := fun r => numS r.2.1 s = setL (up1 s.l r.1) s) hr rfl rfl rfl rfl rfl rfl rfl rfl rfl
noncomputable def offE (c l : Nat) : Prop := flN rowL c l = mskN c rowL l
theorem off_eff {r : Row} (hr : r ∈ rowL) (s : S) (w : s.Wf) : numS r.2.2 s = setL (lowS r.2.2 s.l) s := by
  have e : numS r.2.2 s = setL (flN rowL r.2.2 s.l) s :=
    mem_rowL (Q := fun r => numS r.2.2 s = setL (flN rowL r.2.2 s.l) s) hr rfl rfl rfl rfl rfl rfl rfl rfl rfl
  have e2 : flN rowL r.2.2 s.l = mskN r.2.2 rowL s.l := by
    refine mem_rowL (Q := fun r => flN rowL r.2.2 s.l = mskN r.2.2 rowL s.l) hr ?_ ?_ ?_ ?_ ?_ ?_ ?_ ?_ ?_
    · show dn1 (dn1 s.l 1) 2 = clr1 (clr1 s.l 1) 2; rw [dn1_eq, dn1_eq]
    · show dn1 (dn1 s.l 1) 2 = clr1 (clr1 s.l 1) 2; rw [dn1_eq, dn1_eq]
    · show dn1 s.l 4 = clr1 s.l 4; rw [dn1_eq]
    · show dn1 (dn1 s.l 8) 16 = clr1 (clr1 s.l 8) 16; rw [dn1_eq, dn1_eq]
    · show dn1 (dn1 s.l 8) 16 = clr1 (clr1 s.l 8) 16; rw [dn1_eq, dn1_eq]
    · show dn1 s.l 32 = clr1 s.l 32; rw [dn1_eq]
    · show dn1 s.l 64 = clr1 s.l 64; rw [dn1_eq]
    · show dn1 s.l 128 = clr1 s.l 128; rw [dn1_eq]
    · show dn1 s.l 256 = clr1 s.l 256; rw [dn1_eq]
  rw [e, e2, (m_ok (clear_mem hr) w.l).1]
theorem setL_wf {s : S} (w : s.Wf) {l : Nat} (h : l < 512) : (setL l s).Wf := ⟨h, w.u⟩
theorem read_clr {n : Nat} : ∀ (t : List Row) (s : S), (∀ r ∈ t, r ∈ rowL) → s.Wf → Reads (clrN t s.l n).1.length ((ones (clrN t s.l n).1).map pv1) s (setL (clrN t s.l n).2 s)
  | [], s, _, _ => Reads.refl s
  | r :: t, s, ht, w => by
    have hr := ht r (by simp)
    have ht' : ∀ q ∈ t, q ∈ rowL := fun q hq => ht q (List.mem_cons_of_mem _ hq)
    unfold clrN
    cases (tN s.l r.1 && !tN n r.1)
    · exact read_clr t s ht' w
    · rw [cond_true]
      have h1 := (lawT_num (off_num hr)).reads w
      rw [off_eff hr s w] at h1
      exact h1.trans (read_clr t (setL (lowS r.2.2 s.l) s) ht' (setL_wf w (lowS_lt hr w.l)))
theorem read_set {h n : Nat} : ∀ (t : List Row) (s : S), (∀ r ∈ t, r ∈ rowL) → s.Wf → Reads (setN t h n).length ((ones (setN t h n)).map pv1) s (setL (rdS t h n s.l) s)
  | [], s, _, _ => Reads.refl s
  | r :: t, s, ht, w => by
    have hr := ht r (by simp)
    have ht' : ∀ q ∈ t, q ∈ rowL := fun q hq => ht q (List.mem_cons_of_mem _ hq)
    unfold setN rdS
    cases (tN n r.1 && !tN h r.1)
    · exact read_set t s ht' w
    · rw [cond_true]
      have h1 := (lawT_num (on_num hr)).reads w
      rw [on_eff hr s] at h1
      exact h1.trans (read_set t (setL (up1 s.l r.1) s) ht' (setL_wf w (up_ok hr w.l).1))
theorem read_bits {n : Nat} (hn : n < 512) (s : S) (w : s.Wf) : ∃ q, q ≤ 18 ∧ Reads q ((ones (bitsN s.l n)).map pv1) s (setL n s) := by
  have hc := clrN_lt n rowL s.l (fun _ h => h) w.l
  have h1 := read_clr (n := n) rowL s (fun _ h => h) w
  have h2 := read_set (h := (clrN rowL s.l n).2) (n := n) rowL (setL (clrN rowL s.l n).2 s) (fun _ h => h) (setL_wf w hc)
  have hs : ∀ q ∈ rowL, tN (clrN rowL s.l n).2 q.1 = true → tN n q.1 = true := clrN_sub rowL s.l (fun _ h => h) w.l (fun q hq nq => absurd hq nq)
  have e : rdS rowL (clrN rowL s.l n).2 n (clrN rowL s.l n).2 = n := rdS_eq hn rowL _ (fun _ h => h) hc hs (fun _ _ h => h) (fun q hq nq => absurd hq nq)
  have h3 := h1.trans h2
  rw [show (setL (clrN rowL s.l n).2 s).l = (clrN rowL s.l n).2 from rfl, e] at h3
  have n1 := clrN_len n rowL s.l
  have n2 := setN_len (clrN rowL s.l n).2 n rowL
  have n3 : rowL.length = 9 := rfl
  refine ⟨(setN rowL (clrN rowL s.l n).2 n).length + (clrN rowL s.l n).1.length, by omega, ?_⟩
  unfold bitsN ones
  rw [List.map_append, List.map_append]
  exact h3
end Og
end
section
open PySem
namespace Og
theorem num_in {n : Nat} (h : nums.contains n = true) : n ∈ nums := by simpa using h
theorem Reads.cast {q : Nat} {P P' : List PV} {s t t' : S} (h : Reads q P s t) (e : P' = P) (e2 : t' = t) : Reads q P' s t' := by rw [e, e2]; exact h
noncomputable def undO (v : Nat) : List (List Nat) := match undL[v]? with | some q => [q] | .none => []
theorem undS_eq (v u : Nat) : undS v u = bif Nat.beq v u then [] else undO u := by
  unfold undS undO
  cases undL[u]? <;> rfl
theorem read_und {s : S} (w : s.Wf) {v : Nat} (hv : v < 6) : ∃ q, q ≤ 1 ∧ Reads q ((undS s.u v).map pv1) s (setU v s) := by
  rw [undS_eq]
  cases e : Nat.beq s.u v
  · refine ⟨1, Nat.le_refl _, ?_⟩
    rw [cond_false]
    exact six (Q := fun v => Reads 1 ((undO v).map pv1) s (setU v s)) hv
      (((lawT_num (q := 24) (num_in rfl)).reads w).cast (by kernel_rfl!) (by kernel_rfl!)) (((lawT_num (q := 4) (num_in rfl)).reads w).cast (by kernel_rfl!) (by kernel_rfl!)) (((lawT_num (q := 21) (num_in rfl)).reads w).cast (by kernel_rfl!) (by kernel_rfl!)) ((lt_5.reads w).cast (by kernel_rfl!) (by kernel_rfl!)) ((lt_6.reads w).cast (by kernel_rfl!) (by kernel_rfl!)) ((lt_7.reads w).cast (by kernel_rfl!) (by kernel_rfl!))
  · refine ⟨0, Nat.zero_le _, ?_⟩
    have := Nat.eq_of_beq_eq_true e
    subst this
    exact Reads.refl s
theorem read_col1 {s : S} (w : s.Wf) {d : Int} (hd : d ∈ Cols) : Reads 1 ((colS 1 d).map pv1) s (setC 1 d s) :=
  mem_cols (Q := fun d => Reads 1 ((colS 1 d).map pv1) s (setC 1 d s)) hd (((lawT_num (q := 39) (num_in rfl)).reads w).cast (by kernel_rfl!) (by kernel_rfl!)) (((lawT_num (q := 31) (num_in rfl)).reads w).cast (by kernel_rfl!) (by kernel_rfl!)) (((lawT_num (q := 91) (num_in rfl)).reads w).cast (by kernel_rfl!) (by kernel_rfl!)) ((lt_15.reads w).cast (by kernel_rfl!) (by kernel_rfl!)) ((lt_16.reads w).cast (by kernel_rfl!) (by kernel_rfl!)) ((lt_17.reads w).cast (by kernel_rfl!) (by kernel_rfl!)) ((lt_18.reads w).cast (by kernel_rfl!) (by kernel_rfl!))
theorem read_col2 {s : S} (w : s.Wf) {d : Int} (hd : d ∈ Cols) : Reads 1 ((colS 2 d).map pv1) s (setC 2 d s) :=
  mem_cols (Q := fun d => Reads 1 ((colS 2 d).map pv1) s (setC 2 d s)) hd (((lawT_num (q := 49) (num_in rfl)).reads w).cast (by kernel_rfl!) (by kernel_rfl!)) (((lawT_num (q := 41) (num_in rfl)).reads w).cast (by kernel_rfl!) (by kernel_rfl!)) (((lawT_num (q := 101) (num_in rfl)).reads w).cast (by kernel_rfl!) (by kernel_rfl!)) ((lt_19.reads w).cast (by kernel_rfl!) (by kernel_rfl!)) ((lt_20.reads w).cast (by kernel_rfl!) (by kernel_rfl!)) ((lt_21.reads w).cast (by kernel_rfl!) (by kernel_rfl!)) ((lt_22.reads w).cast (by kernel_rfl!) (by kernel_rfl!))
theorem read_col3 {s : S} (w : s.Wf) {d : Int} (hd : d ∈ Cols) : Reads 1 ((colS 3 d).map pv1) s (setC 3 d s) :=
  mem_cols (Q := fun d => Reads 1 ((colS 3 d).map pv1) s (setC 3 d s)) hd (((lawT_num (q := 59) (num_in rfl)).reads w).cast (by kernel_rfl!) (by kernel_rfl!)) ((lt_27.reads w).cast (by kernel_rfl!) (by kernel_rfl!)) ((lt_28.reads w).cast (by kernel_rfl!) (by kernel_rfl!)) ((lt_23.reads w).cast (by kernel_rfl!) (by kernel_rfl!)) ((lt_24.reads w).cast (by kernel_rfl!) (by kernel_rfl!)) ((lt_25.reads w).cast (by kernel_rfl!) (by kernel_rfl!)) ((lt_26.reads w).cast (by kernel_rfl!) (by kernel_rfl!))
theorem read_colG {p : Nat} {c d : Int} {s s' : S} (h : Reads 1 ((colS p d).map pv1) s s') (e : c = d → s = s') : ∃ q, q ≤ 1 ∧ Reads q ((colG p c d).map pv1) s s' := by
  unfold colG
  cases q : W.Z.eqB c d
  · exact ⟨1, Nat.le_refl _, h⟩
  · have := e ((W.Z.eqB_iff _ _).mp q)
    subst this
    exact ⟨0, Nat.zero_le _, Reads.refl s⟩
structure S.Cf (s : S) : Prop where
  w : s.Wf
  a : s.a ∈ Cols
  b : s.b ∈ Cols
  c : s.c ∈ Cols
noncomputable def chgS (s t : S) : List (List Nat) := chgN s.l s.u s.a s.b s.c t.l t.u t.a t.b t.c
theorem read_chg {s t : S} (w : s.Wf) (h : t.Cf) : ∃ q, q ≤ 30 ∧ Reads q ((chgS s t).map pv1) s t := by
  obtain ⟨q1, n1, r1⟩ := read_bits h.w.l s w
  have w1 : (setL t.l s).Wf := ⟨h.w.l, w.u⟩
  obtain ⟨q2, n2, r2⟩ := read_und w1 h.w.u
  have w2 : (setU t.u (setL t.l s)).Wf := ⟨h.w.l, h.w.u⟩
  obtain ⟨q3, n3, r3⟩ := read_colG (c := s.a) (read_col1 w2 h.a) (fun e => by unfold setC; rw [← e]; rfl)
  have w3 : (setC 1 t.a (setU t.u (setL t.l s))).Wf := ⟨h.w.l, h.w.u⟩
  obtain ⟨q4, n4, r4⟩ := read_colG (c := s.b) (read_col2 w3 h.b) (fun e => by unfold setC; rw [← e]; rfl)
  have w4 : (setC 2 t.b (setC 1 t.a (setU t.u (setL t.l s)))).Wf := ⟨h.w.l, h.w.u⟩
  obtain ⟨q5, n5, r5⟩ := read_colG (c := s.c) (read_col3 w4 h.c) (fun e => by unfold setC; rw [← e]; rfl)
  refine ⟨q5 + q4 + q3 + q2 + q1, by omega, ?_⟩
  have r := r1.trans (r2.trans (r3.trans (r4.trans r5)))
  unfold chgS chgN
  rw [List.map_append, List.map_append, List.map_append, List.map_append]
  exact r
theorem fl_inj {l u l' u' : Nat} (h : l < 512) (h' : l' < 512) (e : fl l u = fl l' u') : l = l' ∧ u = u' := by
  unfold fl at e
  omega
theorem pS_inj {s t : S} {lk lk' : Int} (w : s.Wf) (w' : t.Wf) (e : pS s lk = pS t lk') : s = t := by
  obtain ⟨l, u, a, b, c⟩ := s
  obtain ⟨l', u', a', b', c'⟩ := t
  unfold pS pn at e
  simp only [PV.tup.injEq, List.cons.injEq, PV.int.injEq] at e
  obtain ⟨e1, e2, e3, e4, _⟩ := e
  obtain ⟨r1, r2⟩ := fl_inj w.l w'.l e1
  simp only at r1 r2 e2 e3 e4
  subst r1 r2 e2 e3 e4
  rfl
theorem Reads.fin {q : Nat} {P : List PV} {s t : S} (h : Reads q P s t) (hq : q ≤ 90) (lk : Int) (par : PV) (j : J) : rW fFlagged 100 (pS s lk) par P j (contS "_law_read" 2 (rK fFlagged)) = some (pS t lk) := by
  obtain ⟨j', e⟩ := h (100 - q) lk par [] j (contS "_law_read" 2 (rK fFlagged))
  rw [List.append_nil, Nat.sub_add_cancel (by omega)] at e
  rw [e, show 100 - q = (99 - q) + 1 by omega, rd_end, rd_s2]
theorem Reads.nil_eq {q : Nat} {s t : S} (h : Reads q [] s t) (w : s.Wf) (w' : t.Wf) : s = t := by
  obtain ⟨j', e⟩ := h 1 0 .none [] j0 (contS "_law_read" 2 (rK fFlagged))
  rw [show ([] ++ [] : List PV) = [] from rfl, Nat.add_comm, rd_end, rd_s2, rd_end, rd_s2] at e
  exact pS_inj w w' (Option.some.inj e)
theorem chg_nil {s t : S} (w : s.Wf) (h : t.Cf) (e : chgS s t = []) : s = t := by
  obtain ⟨q, _, r⟩ := read_chg w h
  rw [e] at r
  exact Reads.nil_eq r w h.w
noncomputable def plS : S := ⟨0, 0, -1, -1, -1⟩
theorem plS_wf : plS.Wf := ⟨by decide, by decide⟩
theorem plS_cf : plS.Cf := ⟨plS_wf, by decide, by decide, by decide⟩
theorem chg_self_pl : chgS plS plS = [] := by kernel_rfl!
theorem read_reset {s : S} (w : s.Wf) : Reads 1 [pv1 [0]] s plS := (lt_1.reads w).cast (by kernel_rfl!) (by kernel_rfl!)
theorem read_none {s : S} (w : s.Wf) : Reads 1 [.list [.none]] s plS := (lt_0.reads w).cast (by kernel_rfl!) (by kernel_rfl!)
theorem fRead_ok {q : Nat} {P : List PV} {s t : S} (h : Reads q P s t) (hq : q ≤ 90) (hP : P ≠ []) (lk : Int) : fRead [pS s lk, .list P] = some (pS t lk) := by
  unfold fRead
  rw [rd_s0]
  have : emptyB P = false := by cases P with
    | nil => exact absurd rfl hP
    | cons _ _ => rfl
  rw [this, Bool.not_false, cond_true, h.fin hq]
theorem fRead_nil {s : S} (w : s.Wf) (lk : Int) : fRead [pS s lk, .list []] = some (pS plS lk) := by
  unfold fRead
  rw [rd_s0, show emptyB ([] : List PV) = true from rfl, Bool.not_true, cond_false]
  exact (read_none w).fin (by omega) lk _ _
/-- the way by a reset -/
noncomputable def anewS (t : S) : List (List Nat) := bif emptyB ((chgS plS t).map pv1) then [] else [0] :: chgS plS t
theorem anew_pl {t : S} (h : t.Cf) : emptyB ((chgS plS t).map pv1) = true ↔ t = plS := by
  constructor
  · intro e
    cases q : chgS plS t with
    | nil => exact (chg_nil plS_wf h q).symm
    | cons x y => rw [q] at e; cases e
  · rintro rfl
    rw [chg_self_pl]; rfl
theorem chgS_len (s t : S) : (chgS s t).length ≤ 34 := chgN_len ..
theorem chgS_sm {s t : S} (h : t.Cf) : Sm (chgS s t) := chg_sm h.w.u h.a h.b h.c
theorem anew_sm {t : S} (h : t.Cf) : Sm (anewS t) := by
  unfold anewS
  cases emptyB ((chgS plS t).map pv1)
  · exact Sm.app (x := [[0]]) (sm_of rfl) (chgS_sm h)
  · exact sm_nil
theorem anew_len (t : S) : (anewS t).length ≤ 35 := by
  unfold anewS
  have := chgS_len plS t
  cases emptyB ((chgS plS t).map pv1)
  · simp only [cond_false, List.length_cons]; omega
  · simp
noncomputable def selS (s t : S) : List (List Nat) := bif Nat.ble (txt (chgS s t)).length (txt (anewS t)).length then chgS s t else anewS t
theorem sel_sm {s t : S} (h : t.Cf) : Sm (selS s t) := by
  unfold selS
  cases Nat.ble (txt (chgS s t)).length (txt (anewS t)).length
  · exact anew_sm h
  · exact chgS_sm h
theorem sel_len (s t : S) : (selS s t).length ≤ 35 := by
  unfold selS
  have := chgS_len s t
  have := anew_len t
  cases Nat.ble (txt (chgS s t)).length (txt (anewS t)).length
  · exact anew_len t
  · show (chgS s t).length ≤ 35; omega
theorem pvP_eq (l : List (List Nat)) : pvP l = .list (l.map pv1) := rfl
theorem pvP_cons (p : List Nat) (l : List (List Nat)) : pvP (p :: l) = .list ([pv1 p] ++ l.map pv1) := rfl
theorem txt_nil : txt [] = [] := rfl
/-- what the octets' parameters say leads to the new look -/
theorem sel_read {s t : S} (w : s.Wf) (h : t.Cf) (ne : s ≠ t) (lk : Int) : bnd (fLParams [.bytes (txt (selS s t))]) (fun p => fRead [pS s lk, p]) = some (pS t lk) := by
  unfold selS
  cases Nat.ble (txt (chgS s t)).length (txt (anewS t)).length
  · rw [cond_false]
    have e := anew_pl h
    have sm := anew_sm h
    have ln := anew_len t
    cases q : emptyB ((chgS plS t).map pv1)
    · have ea : anewS t = [0] :: chgS plS t := by unfold anewS; rw [q, cond_false]
      rw [ea] at sm ln ⊢
      rw [parse_ok (by simp) sm (by omega), bnd_some, pvP_cons]
      obtain ⟨n, hn, r⟩ := read_chg plS_wf h
      have r2 := (read_reset w).trans r
      exact fRead_ok r2 (by omega) (by simp) lk
    · have ea : anewS t = [] := by unfold anewS; rw [q, cond_true]
      have et := e.mp q
      rw [ea, txt_nil, parse_nil, bnd_some, et]
      exact fRead_ok (read_none w) (by omega) (by simp) lk
  · rw [cond_true]
    have ne2 : chgS s t ≠ [] := fun e => ne (chg_nil w h e)
    have ln := chgS_len s t
    rw [parse_ok ne2 (chgS_sm h) (by omega), bnd_some, pvP_eq]
    obtain ⟨n, hn, r⟩ := read_chg w h
    exact fRead_ok r (by omega) (by simpa using ne2) lk
end Og
end
section
open PySem
namespace Og
theorem leB_nat (a b : Nat) : W.Z.leB (a : Int) (b : Int) = Nat.ble a b := by
  rw [Bool.eq_iff_iff, W.Z.leB_iff, Nat.ble_eq]; omega
theorem ltB_nat (a b : Nat) : W.Z.ltB (a : Int) (b : Int) = Nat.blt a b := by
  rw [Bool.eq_iff_iff, W.Z.ltB_iff, Nat.blt_eq]; omega
noncomputable def eqS (s t : S) (lk : Int) : Bool := eqvL [.int (fl s.l s.u), .int s.a, .int s.b, .int s.c, .int lk] [.int (fl t.l t.u), .int t.a, .int t.b, .int t.c, .int lk]
theorem eqI (x y : Int) : W.Z.eqB x y = decide (x = y) := by rw [Bool.eq_iff_iff, W.Z.eqB_iff, decide_eq_true_iff]
theorem eqvL_i {a b : Int} {r t : List PV} : eqvL (.int a :: r) (.int b :: t) = true ↔ a = b ∧ eqvL r t = true := by
  show (bif W.Z.eqB a b then eqvL r t else false) = true ↔ _
  cases h : W.Z.eqB a b
  · exact ⟨fun z => (Bool.noConfusion z), fun z => absurd ((W.Z.eqB_iff a b).mpr z.1) (by rw [h]; exact Bool.false_ne_true)⟩
  · exact ⟨fun z => ⟨(W.Z.eqB_iff a b).mp h, z⟩, fun z => z.2⟩
theorem eqS_iff {s t : S} (w : s.Wf) (w' : t.Wf) (lk : Int) : eqS s t lk = true ↔ s = t := by
  refine ⟨fun h => ?_, fun h => ?_⟩
  · obtain ⟨e1, h⟩ := eqvL_i.mp h
    obtain ⟨e2, h⟩ := eqvL_i.mp h
    obtain ⟨e3, h⟩ := eqvL_i.mp h
    obtain ⟨e4, h⟩ := eqvL_i.mp h
    refine pS_inj (lk := 0) (lk' := 0) w w' ?_
    unfold pS; rw [e1, e2, e3, e4]
  · subst h
    exact eqvL_i.mpr ⟨rfl, eqvL_i.mpr ⟨rfl, eqvL_i.mpr ⟨rfl, eqvL_i.mpr ⟨rfl, eqvL_i.mpr ⟨rfl, rfl⟩⟩⟩⟩⟩
noncomputable def isPl (t : S) : Bool := eqvL [.int (fl t.l t.u), .int t.a, .int t.b, .int t.c] [.int 0, .int (-1), .int (-1), .int (-1)]
theorem isPl_iff {t : S} (w : t.Wf) : isPl t = true ↔ t = plS := by
  rw [← eqS_iff w plS_wf 0]
  refine ⟨fun h => ?_, fun h => ?_⟩
  · obtain ⟨e1, h⟩ := eqvL_i.mp h
    obtain ⟨e2, h⟩ := eqvL_i.mp h
    obtain ⟨e3, h⟩ := eqvL_i.mp h
    obtain ⟨e4, h⟩ := eqvL_i.mp h
    exact eqvL_i.mpr ⟨e1, eqvL_i.mpr ⟨e2, eqvL_i.mpr ⟨e3, eqvL_i.mpr ⟨e4, eqvL_i.mpr ⟨rfl, rfl⟩⟩⟩⟩⟩
  · obtain ⟨e1, h⟩ := eqvL_i.mp h
    obtain ⟨e2, h⟩ := eqvL_i.mp h
    obtain ⟨e3, h⟩ := eqvL_i.mp h
    obtain ⟨e4, h⟩ := eqvL_i.mp h
    exact eqvL_i.mpr ⟨e1, eqvL_i.mpr ⟨e2, eqvL_i.mpr ⟨e3, eqvL_i.mpr ⟨e4, rfl⟩⟩⟩⟩
theorem isPl_eq {t : S} (h : t.Cf) : isPl t = emptyB ((chgS plS t).map pv1) := by
  rw [Bool.eq_iff_iff, isPl_iff h.w, anew_pl h]
theorem plain_pS : pn 0 (-1) (-1) (-1) 0 = pS plS 0 := rfl
theorem chg_pS {s t : S} (w : s.Wf) (h : t.Cf) (lk lk' : Int) : fChg [pS s lk, pS t lk'] = some (pvP (chgS s t)) := chg_ok w.l h.w.l w.u h.w.u h.a h.b h.c
theorem lchg_pS {s t : S} (w : s.Wf) (h : t.Cf) (lk lk' : Int) : fLChg [pS s lk, pS t lk'] = some (.list ((chgS s t).map tx)) := lchg_ok w.l h.w.l h.w.u h.a h.b h.c
theorem len_empty (l : List (List Nat)) : W.Z.eqB ((l.map pv1).length : Int) 0 = emptyB (l.map pv1) := by
  rw [show (0 : Int) = ((0 : Nat) : Int) from rfl, eqB_nat]
  cases l <;> rfl
theorem callB_len (l : List Nat) (σ : Sto) (k : PV → Option PV) : callB 1 [.v (.bytes l)] σ k = k (.int (l.length : Nat)) := rfl
theorem cmp_le (a b : Int) : cmpV .LtE (.int a) (.int b) = some (W.Z.leB a b) := rfl
theorem listV_l (σ : Sto) (l : List PV) : listV σ (.v (.list l)) = some l := rfl
theorem sgrP_ok {o n : PV} {can : Bool} {s t : S} (ho : fTold [o, .bool can] = some (pS s 0)) (hn : fTold [n, .bool can] = some (pS t 0)) (w : s.Wf) (h : t.Cf) :
    fSgrP [o, n, .bool can] = bif eqS s t 0 then some .none else some (pvP (selS s t)) := by
  unfold fSgrP
  rw [sgrp_s0, ho, bnd_some, hn, bnd_some]
  unfold pS
  rw [sgrp_s1]
  show (bif eqS s t 0 then _ else _) = _
  cases eqS s t 0
  · rw [cond_false, cond_false, sgrp_s2]
    have c1 := chg_pS w h 0 0
    have c2 := chg_pS plS_wf h 0 0
    rw [← plain_pS] at c2
    unfold pS at c1 c2
    rw [c1, bnd_some, c2, bnd_some]
    unfold pvP
    rw [sgrp_s4, len_empty]
    have m1 := chgS_len s t
    have m2 := chgS_len plS t
    have m3 := anew_len t
    have e : (bif emptyB ((chgS plS t).map pv1) then contS "sgr_params" 5 (sK fTold fChg fParams) .next (sρ o n (.bool can) (ov (pn (fl s.l s.u) s.a s.b s.c 0)) (ov (pn (fl t.l t.u) t.a t.b t.c 0)) (ov (.list ((chgS s t).map pv1))) (ov (.list []))) []
        else addE (.v (.list [.list [.int 0]])) (.v (.list ((chgS plS t).map pv1))) [] fun w σ => contS "sgr_params" 5 (sK fTold fChg fParams) .next (sρ o n (.bool can) (ov (pn (fl s.l s.u) s.a s.b s.c 0)) (ov (pn (fl t.l t.u) t.a t.b t.c 0)) (ov (.list ((chgS s t).map pv1))) (some w)) σ) =
        contS "sgr_params" 5 (sK fTold fChg fParams) .next (sρ o n (.bool can) (ov (pn (fl s.l s.u) s.a s.b s.c 0)) (ov (pn (fl t.l t.u) t.a t.b t.c 0)) (ov (pvP (chgS s t))) (ov (pvP (anewS t)))) [] := by
      unfold anewS
      cases emptyB ((chgS plS t).map pv1)
      · rw [cond_false, cond_false, addE_list (by simp only [List.length_cons, List.length_nil, List.length_map]; omega)]; rfl
      · rfl
    rw [e, sgrp_s5, params_ok (chgS_sm h) (by omega), bnd_some, callB_len]
    rw [params_ok (anew_sm h) (by omega), bnd_some, callB_len, cmp_le, bnd_some, leB_nat]
    unfold selS
    cases Nat.ble (txt (chgS s t)).length (txt (anewS t)).length <;> rfl
  · rfl
theorem sgr_ok {o n : PV} {can : Bool} {s t : S} (ho : fTold [o, .bool can] = some (pS s 0)) (hn : fTold [n, .bool can] = some (pS t 0)) (w : s.Wf) (h : t.Cf) :
    fSgr [o, n, .bool can] = bif eqS s t 0 then some (.bytes []) else some (.bytes ([27, 91] ++ txt (selS s t) ++ [109])) := by
  unfold fSgr
  rw [sgr_s0, sgrP_ok ho hn w h]
  cases eqS s t 0
  · rw [cond_false, cond_false, bnd_some]
    unfold pvP
    rw [sgr_s1]
    have hl := sel_len s t
    have := params_ok (sel_sm (s := s) h) (by omega)
    unfold pvP at this
    have hx := txt_len (sel_sm (s := s) h)
    rw [this, bnd_some]
    show (bif fits ([27, 91].length + (txt (selS s t)).length) then addE (.v (.bytes ([27, 91] ++ txt (selS s t)))) (.v (.bytes [109])) [] (fun w σ => fz σ w) else .none) = _
    rw [fits_ok (by simp only [List.length_cons, List.length_nil]; omega), cond_true]
    show (bif fits (([27, 91] ++ txt (selS s t)).length + [109].length) then (fz [] (.v (.bytes (([27, 91] ++ txt (selS s t)) ++ [109])))) else .none) = _
    rw [fits_ok (by simp only [List.length_append, List.length_cons, List.length_nil]; omega)]; rfl
  · rw [cond_true, cond_true, bnd_some, sgr_s1n]
theorem allS_tx : ∀ l : List (List Nat), allS (l.map tx) = some (l.map txt1)
  | [] => rfl
  | p :: r => by
    show opt (allS (r.map tx)) (fun l => some (txt1 p :: l)) = _
    rw [allS_tx r]; rfl
theorem joinN_ok {l : List (List Nat)} (h : Sm l) (hl : l.length ≤ 1000) (k : Int → Option PV) : joinN (l.map tx) k = k ((txt l).length : Nat) := by
  unfold joinN
  rw [allS_tx, bnd_some]
  have := txt_len h
  unfold txt at this ⊢
  rw [fits_ok (by omega)]; rfl
theorem least_ok {s t : S} (w : s.Wf) (h : t.Cf) (lk lk' : Int) : fLeast [pS s lk, pS t lk'] = some (.int (txt (selS s t)).length) := by
  unfold fLeast
  have c1 := lchg_pS w h lk lk'
  have c2 := lchg_pS plS_wf h 0 lk'
  have m1 := chgS_len s t
  have m2 := chgS_len plS t
  have m3 := anew_len t
  have key : fLeast [pS s lk, pS t lk'] = contS "_law_least" 2 (eK fLChg) .next (eρ (pS s lk) (pS t lk') (ov plainT) (ov (.list ((anewS t).map tx)))) [] := by
    unfold fLeast
    show callF _ _ _ [pS s lk, pn (fl t.l t.u) t.a t.b t.c lk'] = _
    rw [least_s0]
    show (bif isPl t then _ else _) = _
    rw [isPl_eq h]
    unfold anewS
    cases emptyB ((chgS plS t).map pv1)
    · rw [cond_false, cond_false]
      show bnd (fLChg [pS plS 0, pS t lk']) _ = _
      rw [c2, bnd_some, addE_list (by simp only [List.length_cons, List.length_nil, List.length_map]; omega)]; rfl
    · rfl
  unfold fLeast at key
  rw [key, least_s2]
  rw [c1, bnd_some, listV_l, bnd_some]
  rw [joinN_ok (chgS_sm h) (by omega), joinN_ok (anew_sm h) (by omega), ltB_nat]
  unfold selS
  have e : Nat.blt (txt (anewS t)).length (txt (chgS s t)).length = !Nat.ble (txt (chgS s t)).length (txt (anewS t)).length := by
    rw [Bool.eq_iff_iff, Nat.blt_eq, Bool.not_eq_true', ← Bool.not_eq_true, Nat.ble_eq]; omega
  rw [e]
  cases Nat.ble (txt (chgS s t)).length (txt (anewS t)).length <;> rfl
theorem penO_ok {n : PV} {t : S} (hn : fTold [n, .bool true] = some (pS t 0)) (h : t.Cf) : fPenO [n] = some (.bytes (txt ([0] :: chgS plS t))) := by
  unfold fPenO
  have c2 := chg_pS plS_wf h 0 0
  have m2 := chgS_len plS t
  rw [peno_s, hn, bnd_some, plain_pS, c2, bnd_some, pvP_eq, addE_list (by simp only [List.length_cons, List.length_nil, List.length_map]; omega)]
  have sm : Sm ([0] :: chgS plS t) := Sm.app (x := [[0]]) (sm_of rfl) (chgS_sm h)
  have := params_ok sm (by simp only [List.length_cons]; omega)
  show bnd (fParams [pvP ([0] :: chgS plS t)]) some = _
  rw [this, bnd_some]
theorem penO_read {t : S} (h : t.Cf) (lk : Int) : bnd (fLParams [.bytes (txt ([0] :: chgS plS t))]) (fun p => fRead [pS plS lk, p]) = some (pS t lk) := by
  have sm : Sm ([0] :: chgS plS t) := Sm.app (x := [[0]]) (sm_of rfl) (chgS_sm h)
  have m2 := chgS_len plS t
  rw [parse_ok (by simp) sm (by simp only [List.length_cons]; omega), bnd_some, pvP_cons]
  obtain ⟨n, hn, r⟩ := read_chg plS_wf h
  have r2 := (read_reset plS_wf).trans r
  exact fRead_ok r2 (by omega) (by simp) lk
end Og
end
section
open PySem
namespace Og
noncomputable def tgtOf : Stmt → PySem.Expr
  | .Assign (t :: _) _ _ => t
  | _ => e0
noncomputable def aK (sb ta pl : Fn) : Cx := mk "apply_sgr" [("pen_sub_changed", sb), ("pen_told_apart", ta), ("pen_with", fPenWith), ("pen_plain_changed", pl)] []
noncomputable def plcs : PV := .dict [(38, .int 1), (48, .int 2), (58, .int 3)]
noncomputable def aρ (pen par found : PV) (at' : Int) (rows : PV) (a b c : Option W) : Rho := env "apply_sgr" [ov pen, ov par, ov found, oi at', ov rows, ov plcs, a, b, c]
noncomputable def aL : Lp := lp "apply_sgr" 3
noncomputable def aElse : List Stmt := elseOf (sOf aL.body 2)
noncomputable def aCol : List Stmt := ifOf (sOf aElse 0)
section
variable (sb ta pl : Fn) (n : Nat) (pen par found : PV) (at' : Int) (X : List PV) (p q r : Option W) (k : Fl → Rho → Sto → Option PV)
noncomputable def aW : Option PV := whL (ev 39) aL.t aL.body (aK sb ta pl) n (aρ pen par found at' (.list X) p q r) [] k
noncomputable def aC : Fl → Rho → Sto → Option PV := fun f ρ σ => match f with
  | .next => whL (ev 39) aL.t aL.body (aK sb ta pl) n ρ σ k
  | .ret w => k (.ret w) ρ σ
noncomputable def kk (k : Fl → Rho → Sto → Option PV) : Fl → Rho → Sto → Option PV := fun f ρ σ => match f with
  | .next => k .next ρ σ
  | .ret w => k (.ret w) ρ σ
theorem ap_s0 : callF "apply_sgr" [("pen_sub_changed", sb), ("pen_told_apart", ta), ("pen_with", fPenWith), ("pen_plain_changed", pl)] [] [pen, .list X] =
    bif W.Z.ltB 0 (X.length : Int) then aW sb ta pl 100 pen (.list X) pen 0 X .none .none .none (contS "apply_sgr" 4 (aK sb ta pl)) else aW sb ta pl 100 pen (.list X) pen 0 [.list [.none]] .none .none .none (contS "apply_sgr" 4 (aK sb ta pl)) := by kernel_rfl!
theorem ap_s4 : contS "apply_sgr" 4 (aK sb ta pl) .next (aρ pen par found at' (.list X) p q r) [] = some found := by kernel_rfl!
theorem ap_t : aW sb ta pl (n + 1) pen par found at' X p q r k =
    bif W.Z.ltB at' (X.length : Int) then subK (.v (.list X)) (.v (.int at')) [] (fun w σ => evS (ev 39) (aL.body.drop 1) (aK sb ta pl) (aρ pen par found at' (.list X) (some w) q r) σ (aC sb ta pl n k))
    else k .next (aρ pen par found at' (.list X) p q r) [] := by kernel_rfl!
noncomputable def apS (g : List PV) : Option PV := evS (ev 39) (aL.body.drop 1) (aK sb ta pl) (aρ pen par found at' (.list X) (ov (.list g)) q r) [] k
noncomputable def ApN (m : Nat) : Prop := ∀ (sb ta pl : Fn) (pen par found : PV) (at' : Int) (X : List PV) (q r : Option W) (k : Fl → Rho → Sto → Option PV),
  apS sb ta pl pen par found at' X q r k [.int m] = bnd (pl [found, .int m]) fun d => k .next (aρ pen par d (at' + 1) (.list X) (ov (.list [.int m])) (oi m) r) []
theorem ap_0 : apS sb ta pl pen par found at' X q r k [.int 0] = bnd (pl [found, .int 0]) fun d => k .next (aρ pen par d (at' + 1) (.list X) (ov (.list [.int 0])) (oi 0) r) [] := by kernel_rfl!
theorem ap_none : apS sb ta pl pen par found at' X q r k [.none] = bnd (pl [found, .int 0]) fun d => k .next (aρ pen par d (at' + 1) (.list X) (ov (.list [.none])) (oi 0) r) [] := by kernel_rfl!
noncomputable def ApSub (g0 : Int) (g : List PV) : Prop := ∀ (sb ta pl : Fn) (pen par found : PV) (at' : Int) (X : List PV) (q r : Option W) (k : Fl → Rho → Sto → Option PV),
  apS sb ta pl pen par found at' X q r k g = bnd (sb [found, .list g]) fun d => k .next (aρ pen par d (at' + 1) (.list X) (ov (.list g)) (oi g0) r) []
noncomputable def ApCol (m : Nat) : Prop := ∀ (sb ta pl : Fn) (pen par found : PV) (at' : Int) (X : List PV) (q r : Option W) (k : Fl → Rho → Sto → Option PV),
  apS sb ta pl pen par found at' X q r k [.int m] = bnd (ta [.list X, .int at']) fun x => bnd (bindT (stOk (aK sb ta pl).sc) (tgtOf (sOf aCol 0)) (.v x) (aρ pen par found at' (.list X) (ov (.list [.int m])) (oi m) r)) fun ρ =>
    evS (ev 37) (aCol.drop 1) (aK sb ta pl) ρ [] (kk k)
theorem apcol_38 : ApCol 38 := by unfold ApCol; intros; kernel_rfl!
theorem apcol_48 : ApCol 48 := by unfold ApCol; intros; kernel_rfl!
theorem apcol_58 : ApCol 58 := by unfold ApCol; intros; kernel_rfl!
theorem ap_bind (x : PV) (i : Int) : bindT (stOk (aK sb ta pl).sc) (tgtOf (sOf aCol 0)) (.v (.tup [x, .int i])) (aρ pen par found at' (.list X) p q r) = some (aρ pen par found i (.list X) p q (ov x)) := by kernel_rfl!
theorem ap_cn : evS (ev 37) (aCol.drop 1) (aK sb ta pl) (aρ pen par found at' (.list X) p q (ov .none)) [] k = k .next (aρ pen par found at' (.list X) p q (ov .none)) [] := by kernel_rfl!
theorem ap_c38 (f a b c lk d : Int) : evS (ev 37) (aCol.drop 1) (aK sb ta pl) (aρ pen par (pn f a b c lk) at' (.list X) p (oi 38) (oi d)) [] k = k .next (aρ pen par (pn f d b c lk) at' (.list X) p (oi 38) (oi d)) [] := by kernel_rfl!
theorem ap_c48 (f a b c lk d : Int) : evS (ev 37) (aCol.drop 1) (aK sb ta pl) (aρ pen par (pn f a b c lk) at' (.list X) p (oi 48) (oi d)) [] k = k .next (aρ pen par (pn f a d c lk) at' (.list X) p (oi 48) (oi d)) [] := by kernel_rfl!
theorem ap_c58 (f a b c lk d : Int) : evS (ev 37) (aCol.drop 1) (aK sb ta pl) (aρ pen par (pn f a b c lk) at' (.list X) p (oi 58) (oi d)) [] k = k .next (aρ pen par (pn f a b d lk) at' (.list X) p (oi 58) (oi d)) [] := by kernel_rfl!
end
/-! ## pen_told_apart -/
noncomputable def tK : Cx := mk "pen_told_apart" [("pen_colour_of", fColour)] []
noncomputable def tρ (X : PV) (at' : Int) (v m : Option W) : Rho := env "pen_told_apart" [ov X, oi at', v, m]
noncomputable def tC : Cmp := cmpOf (vOf (sAt "pen_told_apart" 0))
noncomputable def tK2 : Cx := { tK with sc := rel "pen_told_apart" tC }
section
variable (X Y T acc : List PV) (at' : Int) (k : List PV → Option PV)
theorem ta_s0 : fApart [.list X, .int at'] = bif fits (cut (some (at' + 1)) (some (at' + 5)) X).length then compL (ev 38) tC.elt tC.t tC.ifs tK2 [] (cut (some (at' + 1)) (some (at' + 5)) X) [] (fun acc =>
    contS "pen_told_apart" 1 tK .next (tρ (.list X) at' (ov (.list acc)) .none) []) else .none := by kernel_rfl!
theorem ta_t (h : PV) (t : List PV) : compL (ev 38) tC.elt tC.t tC.ifs tK2 [] (.list (h :: t) :: Y) acc k = compL (ev 38) tC.elt tC.t tC.ifs tK2 [] Y (acc ++ [h]) k := by kernel_rfl!
noncomputable def TaIs (acc : List PV) (d : PV) (m : Int) : Prop := ∀ (X : PV) (at' : Int), contS "pen_told_apart" 1 tK .next (tρ X at' (ov (.list acc)) .none) [] = some (.tup [d, .int (at' + 2 + m)])
theorem ta_200 : TaIs (.int 5 :: .int 200 :: T) (.int 200) 1 := by unfold TaIs; intros; kernel_rfl!
theorem ta_300 : TaIs (.int 5 :: .int 300 :: T) .none 1 := by unfold TaIs; intros; kernel_rfl!
theorem ta_7 : TaIs (.int 7 :: T) .none 0 := by unfold TaIs; intros; kernel_rfl!
theorem ta_123 : TaIs (.int 2 :: .int 1 :: .int 2 :: .int 3 :: T) (.int 16843267) 3 := by unfold TaIs; intros; kernel_rfl!
theorem ta_256 : TaIs (.int 2 :: .int 1 :: .int 256 :: .int 3 :: T) .none 3 := by unfold TaIs; intros; kernel_rfl!
theorem ta_n7n : TaIs (.int 2 :: .none :: .int 7 :: .none :: T) (.int 16779008) 3 := by unfold TaIs; intros; kernel_rfl!
theorem ta_5 : TaIs [.int 5] .none 1 := by unfold TaIs; intros; kernel_rfl!
theorem ta_21 : TaIs [.int 2, .int 1] .none 3 := by unfold TaIs; intros; kernel_rfl!
theorem ta_e (X : PV) : contS "pen_told_apart" 1 tK .next (tρ X at' (ov (.list [])) .none) [] = some (.tup [.none, .int (at' + 1)]) := by kernel_rfl!
end
end Og
end
section
open PySem
namespace Og
/-- each parameter has a number at its head -/
noncomputable def Hd (l : List PV) : Prop := ∀ x ∈ l, ∃ h t, x = .list (h :: t)
theorem Hd.tail {x : PV} {l : List PV} (h : Hd (x :: l)) : Hd l := fun y hy => h y (List.mem_cons_of_mem _ hy)
theorem place_at (a m : Nat) (h : a < m) : place (a : Int) m = some a := by
  show (bif Nat.blt a m then some a else .none) = _
  rw [Nat.blt_eq.mpr h]; rfl
theorem sub_at (A Y : List PV) (x : PV) (σ : Sto) (k : W → Sto → Option PV) : subK (.v (.list (A ++ x :: Y))) (.v (.int (A.length : Nat))) σ k = k (.v x) σ := by
  show opt (place (A.length : Nat) (A ++ x :: Y).length) (fun j => opt (A ++ x :: Y)[j]? fun d => k (.v d) σ) = _
  rw [place_at _ _ (by rw [List.length_append, List.length_cons]; omega), opt_some, List.getElem?_append_right (Nat.le_refl _), Nat.sub_self]; rfl
theorem clip_nat (n j : Nat) : clip n (j : Int) = bif Nat.ble j n then j else n := rfl
theorem cut_at (A Y : List PV) (x : PV) : cut (some ((A.length : Int) + 1)) (some ((A.length : Int) + 5)) (A ++ x :: Y) = Y.take 4 := by
  have e1 : ((A.length : Int) + 1) = ((A.length + 1 : Nat) : Int) := by omega
  have e2 : ((A.length : Int) + 5) = ((A.length + 5 : Nat) : Int) := by omega
  unfold cut
  dsimp only
  rw [e1, e2, clip_nat, clip_nat]
  have hl : (A ++ x :: Y).length = A.length + 1 + Y.length := by rw [List.length_append, List.length_cons]; omega
  have c1 : Nat.ble (A.length + 1) (A ++ x :: Y).length = true := by rw [Nat.ble_eq, hl]; omega
  rw [c1, cond_true]
  have e3 : (A ++ x :: Y).drop (A.length + 1) = Y := by
    rw [List.drop_append, List.drop_eq_nil_of_le (by omega), show A.length + 1 - A.length = 1 by omega]; rfl
  rw [e3]
  cases c2 : Nat.ble (A.length + 5) (A ++ x :: Y).length
  · have : ¬ A.length + 5 ≤ (A ++ x :: Y).length := fun h => by rw [Nat.ble_eq.mpr h] at c2; cases c2
    rw [cond_false, List.take_of_length_le (by omega), List.take_of_length_le (by omega)]
  · rw [cond_true, show A.length + 5 - (A.length + 1) = 4 by omega]
theorem heads_all (k : List PV → Option PV) : ∀ (Y acc : List PV), Hd Y → ∃ T, compL (ev 38) tC.elt tC.t tC.ifs tK2 [] Y acc k = k (acc ++ T)
  | [], acc, _ => ⟨[], by
      show k acc = _
      rw [List.append_nil]⟩
  | x :: Y, acc, h => by
    obtain ⟨hd, t, rfl⟩ := h x (by simp)
    rw [ta_t]
    obtain ⟨T, e⟩ := heads_all k Y (acc ++ [hd]) h.tail
    exact ⟨hd :: T, by rw [e, List.append_assoc]; rfl⟩
theorem Hd.take {l : List PV} (h : Hd l) (n : Nat) : Hd (l.take n) := fun x hx => h x (List.mem_of_mem_take hx)
/-- pen_told_apart where the numbers stand apart -/
theorem apart_of (A R : List PV) (x : PV) (hs : List PV) (d : PV) (m : Nat) (hR : Hd R) (hl : hs.length ≤ 4) (h : ∀ T, TaIs (hs ++ T) d m) :
    fApart [.list (A ++ x :: (hs.map (fun h => PV.list [h]) ++ R)), .int (A.length : Nat)] = some (.tup [d, .int ((A.length + 2 + m : Nat) : Int)]) := by
  rw [ta_s0, cut_at, fits_ok (by rw [List.length_take]; omega), cond_true]
  have key : ∀ (hs : List PV) (n : Nat) (acc : List PV) (k : List PV → Option PV), hs.length ≤ n → ∃ T, compL (ev 38) tC.elt tC.t tC.ifs tK2 [] ((hs.map (fun h => PV.list [h]) ++ R).take n) acc k = k (acc ++ (hs ++ T)) := by
    intro hs
    induction hs with
    | nil =>
      intro n acc k _
      obtain ⟨T, e⟩ := heads_all k (R.take n) acc (hR.take n)
      exact ⟨T, e⟩
    | cons y r ih =>
      intro n acc k hn
      cases n with
      | zero => simp at hn
      | succ n =>
        rw [List.map_cons, List.cons_append, List.take_succ_cons, ta_t]
        obtain ⟨T, e⟩ := ih n (acc ++ [y]) k (by simpa using hn)
        exact ⟨T, by rw [e, List.append_assoc]; rfl⟩
  obtain ⟨T, e⟩ := key hs 4 [] (fun acc => contS "pen_told_apart" 1 tK .next (tρ (.list (A ++ x :: (hs.map (fun h => PV.list [h]) ++ R))) (A.length : Nat) (ov (.list acc)) .none) []) hl
  rw [e, List.nil_append, h T]
  congr 5
/-- one turn of apply_sgr -/
noncomputable def aWf (n : Nat) (pen par found : PV) (i : Nat) (X : List PV) (p q r : Option W) (k : Fl → Rho → Sto → Option PV) : Option PV := aW fSub fApart fPlain n pen par found (i : Int) X p q r k
noncomputable def ApT (g : List PV) (e : S → S) : Prop := ∀ (n : Nat) (s : S) (lk : Int) (A R : List PV) (pen par : PV) (p q r : Option W) (k : Fl → Rho → Sto → Option PV), s.Wf → Hd R →
  ∃ p' q' r', aWf (n + 1) pen par (pS s lk) A.length (A ++ (g ++ R)) p q r k = aWf n pen par (pS (e s) lk) (A.length + g.length) (A ++ (g ++ R)) p' q' r' k
theorem ap_go (n : Nat) (found : PV) (A Y g : List PV) (pen par : PV) (p q r : Option W) (k : Fl → Rho → Sto → Option PV) :
    aWf (n + 1) pen par found A.length (A ++ (.list g :: Y)) p q r k = apS fSub fApart fPlain pen par found (A.length : Nat) (A ++ (.list g :: Y)) q r (aC fSub fApart fPlain n k) g := by
  unfold aWf
  rw [ap_t, ltB_nat]
  have : Nat.blt A.length (A ++ (.list g :: Y)).length = true := by rw [Nat.blt_eq, List.length_append, List.length_cons]; omega
  rw [this, cond_true, sub_at]; rfl
theorem apT_num {m : Nat} (hm : m ∈ nums) (h : ApN m) : ApT [.list [.int m]] (numS m) := by
  intro n s lk A R pen par p q r k w hR
  have e := ap_go n (pS s lk) A R [.int m] pen par p q r k
  rw [h] at e
  unfold pS at e
  rw [plain_ok hm w.l w.u, bnd_some] at e
  exact ⟨_, _, _, e⟩
theorem plain_0 (f a b c lk : Int) : fPlain [pn f a b c lk, .int 0] = some (pn 0 (-1) (-1) (-1) lk) := by kernel_rfl!
theorem apT_0 : ApT [.list [.int 0]] (fun _ => plS) := by
  intro n s lk A R pen par p q r k w hR
  have e := ap_go n (pS s lk) A R [.int 0] pen par p q r k
  rw [ap_0] at e
  unfold pS at e
  rw [plain_0, bnd_some] at e
  exact ⟨_, _, _, e⟩
theorem apT_none : ApT [.list [.none]] (fun _ => plS) := by
  intro n s lk A R pen par p q r k w hR
  have e := ap_go n (pS s lk) A R [.none] pen par p q r k
  rw [ap_none] at e
  unfold pS at e
  rw [plain_0, bnd_some] at e
  exact ⟨_, _, _, e⟩
theorem apT_sub {g0 : Int} {g : List PV} {e : S → S} (h : ApSub g0 g) (he : ∀ (s : S) (lk : Int), s.Wf → fSub [pS s lk, .list g] = some (pS (e s) lk)) : ApT [.list g] e := by
  intro n s lk A R pen par p q r k w hR
  have x := ap_go n (pS s lk) A R g pen par p q r k
  rw [h, he s lk w, bnd_some] at x
  exact ⟨_, _, _, x⟩
theorem sub_und (f a b c lk : Int) (v : Nat) (hv : v = 0 ∨ v = 3) : fSub [pn f a b c lk, .list [.int 4, .int v]] = some (pn (Builtin.bitOr (Builtin.bitAnd f (Builtin.bitNot 3584)) (v * 2 ^ (9 : Nat))) a b c lk) := by
  rcases hv with rfl | rfl <;> kernel_rfl!
theorem sub_und_ok (s : S) (lk : Int) (w : s.Wf) (v : Nat) (hv : v = 0 ∨ v = 3) : fSub [pS s lk, .list [.int 4, .int v]] = some (pS (setU v s) lk) := by
  unfold pS
  rw [sub_und _ _ _ _ _ v hv, clr_und w.l w.u, show ((v : Int) * 2 ^ (9 : Nat)) = ((512 * v : Nat) : Int) by rcases hv with rfl | rfl <;> rfl, or_und w.l]; rfl
end Og
end
section
open PySem
namespace Og
noncomputable def grp (m : Nat) (hs : List PV) : List PV := .list [.int m] :: hs.map fun h => PV.list [h]
theorem go_col {m : Nat} (hm : ApCol m) {hs : List PV} {d : PV} {q0 : Nat} (hq : hs.length = q0 + 1) (h4 : hs.length ≤ 4) (ht : ∀ T, TaIs (hs ++ T) d q0) (n : Nat) (s : S) (lk : Int) (A R : List PV) (pen par : PV) (p q r : Option W)
    (k : Fl → Rho → Sto → Option PV) (hR : Hd R) : aWf (n + 1) pen par (pS s lk) A.length (A ++ (grp m hs ++ R)) p q r k =
      evS (ev 37) (aCol.drop 1) (aK fSub fApart fPlain) (aρ pen par (pS s lk) ((A.length + (grp m hs).length : Nat) : Int) (.list (A ++ (grp m hs ++ R))) (ov (.list [.int m])) (oi m) (ov d)) [] (kk (aC fSub fApart fPlain n k)) := by
  have e := ap_go n (pS s lk) A (hs.map (fun h => PV.list [h]) ++ R) [.int m] pen par p q r k
  rw [hm, apart_of A R _ hs d q0 hR h4 ht, bnd_some, ap_bind, bnd_some] at e
  have el : A.length + (grp m hs).length = A.length + 2 + q0 := by unfold grp; simp only [List.length_cons, List.length_map]; omega
  rw [el]
  exact e
theorem apT_same {m : Nat} (hm : ApCol m) {hs : List PV} {q0 : Nat} (hq : hs.length = q0 + 1) (h4 : hs.length ≤ 4) (ht : ∀ T, TaIs (hs ++ T) .none q0) : ApT (grp m hs) (fun s => s) := by
  intro n s lk A R pen par p q r k w hR
  have e := go_col hm hq h4 ht n s lk A R pen par p q r k hR
  rw [ap_cn] at e
  exact ⟨_, _, _, e⟩
theorem apT_38 {hs : List PV} {d : Int} {q0 : Nat} (hq : hs.length = q0 + 1) (h4 : hs.length ≤ 4) (ht : ∀ T, TaIs (hs ++ T) (.int d) q0) : ApT (grp 38 hs) (setC 1 d) := by
  intro n s lk A R pen par p q r k w hR
  have e := go_col apcol_38 hq h4 ht n s lk A R pen par p q r k hR
  unfold pS at e
  have e := e.trans (ap_c38 fSub fApart fPlain pen par _ _ _ _ _ _ _ _ _ d)
  exact ⟨_, _, _, e⟩
theorem apT_48 {hs : List PV} {d : Int} {q0 : Nat} (hq : hs.length = q0 + 1) (h4 : hs.length ≤ 4) (ht : ∀ T, TaIs (hs ++ T) (.int d) q0) : ApT (grp 48 hs) (setC 2 d) := by
  intro n s lk A R pen par p q r k w hR
  have e := go_col apcol_48 hq h4 ht n s lk A R pen par p q r k hR
  unfold pS at e
  have e := e.trans (ap_c48 fSub fApart fPlain pen par _ _ _ _ _ _ _ _ _ d)
  exact ⟨_, _, _, e⟩
theorem an_1 : ApN 1 := by unfold ApN; intros; kernel_rfl!
theorem an_2 : ApN 2 := by unfold ApN; intros; kernel_rfl!
theorem an_3 : ApN 3 := by unfold ApN; intros; kernel_rfl!
theorem an_4 : ApN 4 := by unfold ApN; intros; kernel_rfl!
theorem an_5 : ApN 5 := by unfold ApN; intros; kernel_rfl!
theorem an_6 : ApN 6 := by unfold ApN; intros; kernel_rfl!
theorem an_7 : ApN 7 := by unfold ApN; intros; kernel_rfl!
theorem an_8 : ApN 8 := by unfold ApN; intros; kernel_rfl!
theorem an_9 : ApN 9 := by unfold ApN; intros; kernel_rfl!
theorem an_21 : ApN 21 := by unfold ApN; intros; kernel_rfl!
theorem an_22 : ApN 22 := by unfold ApN; intros; kernel_rfl!
theorem an_23 : ApN 23 := by unfold ApN; intros; kernel_rfl!
theorem an_24 : ApN 24 := by unfold ApN; intros; kernel_rfl!
theorem an_25 : ApN 25 := by unfold ApN; intros; kernel_rfl!
theorem an_26 : ApN 26 := by unfold ApN; intros; kernel_rfl!
theorem an_27 : ApN 27 := by unfold ApN; intros; kernel_rfl!
theorem an_28 : ApN 28 := by unfold ApN; intros; kernel_rfl!
theorem an_29 : ApN 29 := by unfold ApN; intros; kernel_rfl!
theorem an_31 : ApN 31 := by unfold ApN; intros; kernel_rfl!
theorem an_39 : ApN 39 := by unfold ApN; intros; kernel_rfl!
theorem an_47 : ApN 47 := by unfold ApN; intros; kernel_rfl!
theorem an_49 : ApN 49 := by unfold ApN; intros; kernel_rfl!
theorem an_53 : ApN 53 := by unfold ApN; intros; kernel_rfl!
theorem an_55 : ApN 55 := by unfold ApN; intros; kernel_rfl!
theorem an_59 : ApN 59 := by unfold ApN; intros; kernel_rfl!
theorem an_94 : ApN 94 := by unfold ApN; intros; kernel_rfl!
theorem an_107 : ApN 107 := by unfold ApN; intros; kernel_rfl!
theorem an_200 : ApN 200 := by unfold ApN; intros; kernel_rfl!
theorem as_0 : ApSub 4 [.int 4, .int 3] := by unfold ApSub; intros; kernel_rfl!
theorem av_0 : ApT [.list [.int 4, .int 3]] (setU 3) := apT_sub as_0 fun s lk w => sub_und_ok s lk w 3 (by omega)
theorem as_1 : ApSub 4 [.int 4, .int 0] := by unfold ApSub; intros; kernel_rfl!
theorem av_1 : ApT [.list [.int 4, .int 0]] (setU 0) := apT_sub as_1 fun s lk w => sub_und_ok s lk w 0 (by omega)
theorem as_2 : ApSub 4 [.int 4, .int 7] := by unfold ApSub; intros; kernel_rfl!
theorem sv_2 (f a b c lk : Int) : fSub [pn f a b c lk, .list [.int 4, .int 7]] = some (pn f a b c lk) := by kernel_rfl!
theorem av_2 : ApT [.list [.int 4, .int 7]] (fun s => s) := apT_sub as_2 fun s lk w => sv_2 ..
theorem as_3 : ApSub 1 [.int 1, .int 2] := by unfold ApSub; intros; kernel_rfl!
theorem sv_3 (f a b c lk : Int) : fSub [pn f a b c lk, .list [.int 1, .int 2]] = some (pn f a b c lk) := by kernel_rfl!
theorem av_3 : ApT [.list [.int 1, .int 2]] (fun s => s) := apT_sub as_3 fun s lk w => sv_3 ..
theorem as_4 : ApSub 48 [.int 48, .int 5, .int 3] := by unfold ApSub; intros; kernel_rfl!
theorem sv_4 (f a b c lk : Int) : fSub [pn f a b c lk, .list [.int 48, .int 5, .int 3]] = some (pn f a 3 c lk) := by kernel_rfl!
theorem av_4 : ApT [.list [.int 48, .int 5, .int 3]] (setC 2 3) := apT_sub as_4 fun s lk w => sv_4 ..
theorem as_5 : ApSub 48 [.int 48, .int 2, .int 1, .int 2, .int 3] := by unfold ApSub; intros; kernel_rfl!
theorem sv_5 (f a b c lk : Int) : fSub [pn f a b c lk, .list [.int 48, .int 2, .int 1, .int 2, .int 3]] = some (pn f a 16843267 c lk) := by kernel_rfl!
theorem av_5 : ApT [.list [.int 48, .int 2, .int 1, .int 2, .int 3]] (setC 2 16843267) := apT_sub as_5 fun s lk w => sv_5 ..
theorem as_6 : ApSub 58 [.int 58, .int 2, .int 0, .int 9, .int 8, .int 7] := by unfold ApSub; intros; kernel_rfl!
theorem sv_6 (f a b c lk : Int) : fSub [pn f a b c lk, .list [.int 58, .int 2, .int 0, .int 9, .int 8, .int 7]] = some (pn f a b 17369095 lk) := by kernel_rfl!
theorem av_6 : ApT [.list [.int 58, .int 2, .int 0, .int 9, .int 8, .int 7]] (setC 3 17369095) := apT_sub as_6 fun s lk w => sv_6 ..
theorem as_7 : ApSub 38 [.int 38, .int 5, .int 300] := by unfold ApSub; intros; kernel_rfl!
theorem sv_7 (f a b c lk : Int) : fSub [pn f a b c lk, .list [.int 38, .int 5, .int 300]] = some (pn f a b c lk) := by kernel_rfl!
theorem av_7 : ApT [.list [.int 38, .int 5, .int 300]] (fun s => s) := apT_sub as_7 fun s lk w => sv_7 ..
theorem as_8 : ApSub 4 [.int 4, .none] := by unfold ApSub; intros; kernel_rfl!
theorem sv_8 (f a b c lk : Int) : fSub [pn f a b c lk, .list [.int 4, .none]] = some (pn f a b c lk) := by kernel_rfl!
theorem av_8 : ApT [.list [.int 4, .none]] (fun s => s) := apT_sub as_8 fun s lk w => sv_8 ..
structure It (g : List PV) : Prop where
  ex : ∃ e : S → S, LawT g e ∧ ApT g e ∧ ∀ s : S, s.Wf → (e s).Wf
  hd : Hd g
  ne : g ≠ []
noncomputable def hdB : List PV → Bool
  | [] => true
  | .list (_ :: _) :: r => hdB r
  | _ :: _ => false
theorem hd_of : ∀ {l : List PV}, hdB l = true → Hd l
  | [], _ => fun _ h => by cases h
  | .list (x :: y) :: r, h => fun z hz => by
    rcases List.mem_cons.mp hz with rfl | hz
    · exact ⟨x, y, rfl⟩
    · exact hd_of (l := r) h z hz
theorem same_wf (s : S) (h : s.Wf) : S.Wf ((fun s => s) s) := h
theorem setU_wf {v : Nat} (hv : v < 6) (s : S) (h : s.Wf) : (setU v s).Wf := ⟨h.l, hv⟩
theorem setC_wf {p : Nat} {d : Int} (s : S) (h : s.Wf) : (setC p d s).Wf := ⟨h.l, h.u⟩
theorem it_0 : It [.list [.int 1]] := ⟨⟨numS 1, lawT_num (q := 1) (num_in rfl), apT_num (m := 1) (num_in rfl) an_1, fun s h => numS_wf h⟩, hd_of rfl, by simp⟩
theorem it_1 : It [.list [.int 2]] := ⟨⟨numS 2, lawT_num (q := 2) (num_in rfl), apT_num (m := 2) (num_in rfl) an_2, fun s h => numS_wf h⟩, hd_of rfl, by simp⟩
theorem it_2 : It [.list [.int 3]] := ⟨⟨numS 3, lawT_num (q := 3) (num_in rfl), apT_num (m := 3) (num_in rfl) an_3, fun s h => numS_wf h⟩, hd_of rfl, by simp⟩
theorem it_3 : It [.list [.int 4]] := ⟨⟨numS 4, lawT_num (q := 4) (num_in rfl), apT_num (m := 4) (num_in rfl) an_4, fun s h => numS_wf h⟩, hd_of rfl, by simp⟩
theorem it_4 : It [.list [.int 5]] := ⟨⟨numS 5, lawT_num (q := 5) (num_in rfl), apT_num (m := 5) (num_in rfl) an_5, fun s h => numS_wf h⟩, hd_of rfl, by simp⟩
theorem it_5 : It [.list [.int 6]] := ⟨⟨numS 6, lawT_num (q := 6) (num_in rfl), apT_num (m := 6) (num_in rfl) an_6, fun s h => numS_wf h⟩, hd_of rfl, by simp⟩
theorem it_6 : It [.list [.int 7]] := ⟨⟨numS 7, lawT_num (q := 7) (num_in rfl), apT_num (m := 7) (num_in rfl) an_7, fun s h => numS_wf h⟩, hd_of rfl, by simp⟩
theorem it_7 : It [.list [.int 8]] := ⟨⟨numS 8, lawT_num (q := 8) (num_in rfl), apT_num (m := 8) (num_in rfl) an_8, fun s h => numS_wf h⟩, hd_of rfl, by simp⟩
theorem it_8 : It [.list [.int 9]] := ⟨⟨numS 9, lawT_num (q := 9) (num_in rfl), apT_num (m := 9) (num_in rfl) an_9, fun s h => numS_wf h⟩, hd_of rfl, by simp⟩
theorem it_9 : It [.list [.int 21]] := ⟨⟨numS 21, lawT_num (q := 21) (num_in rfl), apT_num (m := 21) (num_in rfl) an_21, fun s h => numS_wf h⟩, hd_of rfl, by simp⟩
theorem it_10 : It [.list [.int 22]] := ⟨⟨numS 22, lawT_num (q := 22) (num_in rfl), apT_num (m := 22) (num_in rfl) an_22, fun s h => numS_wf h⟩, hd_of rfl, by simp⟩
theorem it_11 : It [.list [.int 23]] := ⟨⟨numS 23, lawT_num (q := 23) (num_in rfl), apT_num (m := 23) (num_in rfl) an_23, fun s h => numS_wf h⟩, hd_of rfl, by simp⟩
theorem it_12 : It [.list [.int 24]] := ⟨⟨numS 24, lawT_num (q := 24) (num_in rfl), apT_num (m := 24) (num_in rfl) an_24, fun s h => numS_wf h⟩, hd_of rfl, by simp⟩
theorem it_13 : It [.list [.int 25]] := ⟨⟨numS 25, lawT_num (q := 25) (num_in rfl), apT_num (m := 25) (num_in rfl) an_25, fun s h => numS_wf h⟩, hd_of rfl, by simp⟩
theorem it_14 : It [.list [.int 26]] := ⟨⟨numS 26, lawT_num (q := 26) (num_in rfl), apT_num (m := 26) (num_in rfl) an_26, fun s h => numS_wf h⟩, hd_of rfl, by simp⟩
theorem it_15 : It [.list [.int 27]] := ⟨⟨numS 27, lawT_num (q := 27) (num_in rfl), apT_num (m := 27) (num_in rfl) an_27, fun s h => numS_wf h⟩, hd_of rfl, by simp⟩
theorem it_16 : It [.list [.int 28]] := ⟨⟨numS 28, lawT_num (q := 28) (num_in rfl), apT_num (m := 28) (num_in rfl) an_28, fun s h => numS_wf h⟩, hd_of rfl, by simp⟩
theorem it_17 : It [.list [.int 29]] := ⟨⟨numS 29, lawT_num (q := 29) (num_in rfl), apT_num (m := 29) (num_in rfl) an_29, fun s h => numS_wf h⟩, hd_of rfl, by simp⟩
theorem it_18 : It [.list [.int 31]] := ⟨⟨numS 31, lawT_num (q := 31) (num_in rfl), apT_num (m := 31) (num_in rfl) an_31, fun s h => numS_wf h⟩, hd_of rfl, by simp⟩
theorem it_19 : It [.list [.int 39]] := ⟨⟨numS 39, lawT_num (q := 39) (num_in rfl), apT_num (m := 39) (num_in rfl) an_39, fun s h => numS_wf h⟩, hd_of rfl, by simp⟩
theorem it_20 : It [.list [.int 47]] := ⟨⟨numS 47, lawT_num (q := 47) (num_in rfl), apT_num (m := 47) (num_in rfl) an_47, fun s h => numS_wf h⟩, hd_of rfl, by simp⟩
theorem it_21 : It [.list [.int 49]] := ⟨⟨numS 49, lawT_num (q := 49) (num_in rfl), apT_num (m := 49) (num_in rfl) an_49, fun s h => numS_wf h⟩, hd_of rfl, by simp⟩
theorem it_22 : It [.list [.int 53]] := ⟨⟨numS 53, lawT_num (q := 53) (num_in rfl), apT_num (m := 53) (num_in rfl) an_53, fun s h => numS_wf h⟩, hd_of rfl, by simp⟩
theorem it_23 : It [.list [.int 55]] := ⟨⟨numS 55, lawT_num (q := 55) (num_in rfl), apT_num (m := 55) (num_in rfl) an_55, fun s h => numS_wf h⟩, hd_of rfl, by simp⟩
theorem it_24 : It [.list [.int 59]] := ⟨⟨numS 59, lawT_num (q := 59) (num_in rfl), apT_num (m := 59) (num_in rfl) an_59, fun s h => numS_wf h⟩, hd_of rfl, by simp⟩
theorem it_25 : It [.list [.none]] := ⟨⟨fun _ => plS, lt_0, apT_none, fun _ _ => plS_wf⟩, hd_of rfl, by simp⟩
theorem it_26 : It [.list [.int 0]] := ⟨⟨fun _ => plS, lt_1, apT_0, fun _ _ => plS_wf⟩, hd_of rfl, by simp⟩
theorem it_27 : It [.list [.int 94]] := ⟨⟨numS 94, lawT_num (q := 94) (num_in rfl), apT_num (m := 94) (num_in rfl) an_94, fun s h => numS_wf h⟩, hd_of rfl, by simp⟩
theorem it_28 : It [.list [.int 107]] := ⟨⟨numS 107, lawT_num (q := 107) (num_in rfl), apT_num (m := 107) (num_in rfl) an_107, fun s h => numS_wf h⟩, hd_of rfl, by simp⟩
theorem it_29 : It [.list [.int 4, .int 3]] := ⟨⟨setU 3, lt_5, av_0, setU_wf (by decide)⟩, hd_of rfl, by simp⟩
theorem it_30 : It [.list [.int 4, .int 0]] := ⟨⟨setU 0, lt_2, av_1, setU_wf (by decide)⟩, hd_of rfl, by simp⟩
theorem it_31 : It [.list [.int 4, .int 7]] := ⟨⟨fun s => s, lt_8, av_2, same_wf⟩, hd_of rfl, by simp⟩
theorem it_32 : It [.list [.int 1, .int 2]] := ⟨⟨fun s => s, lt_9, av_3, same_wf⟩, hd_of rfl, by simp⟩
theorem it_33 : It [.list [.int 38], .list [.int 5], .list [.int 200]] := ⟨⟨setC 1 200, lt_29, apT_38 (hs := [.int 5, .int 200]) (d := 200) (q0 := 1) rfl (by decide) (fun T => ta_200 T), setC_wf⟩, hd_of rfl, by simp⟩
theorem it_34 : It [.list [.int 48, .int 5, .int 3]] := ⟨⟨setC 2 3, lt_11, av_4, setC_wf⟩, hd_of rfl, by simp⟩
theorem it_35 : It [.list [.int 38], .list [.int 2], .list [.int 1], .list [.int 2], .list [.int 3]] := ⟨⟨setC 1 16843267, lt_17, apT_38 (hs := [.int 2, .int 1, .int 2, .int 3]) (d := 16843267) (q0 := 3) rfl (by decide) (fun T => ta_123 T), setC_wf⟩, hd_of rfl, by simp⟩
theorem it_36 : It [.list [.int 48, .int 2, .int 1, .int 2, .int 3]] := ⟨⟨setC 2 16843267, lt_12, av_5, setC_wf⟩, hd_of rfl, by simp⟩
theorem it_37 : It [.list [.int 58, .int 2, .int 0, .int 9, .int 8, .int 7]] := ⟨⟨setC 3 17369095, lt_13, av_6, setC_wf⟩, hd_of rfl, by simp⟩
theorem it_38 : It [.list [.int 58], .list [.int 5], .list [.int 300]] := ⟨⟨fun s => s, lt_30, apT_same apcol_58 (hs := [.int 5, .int 300]) (q0 := 1) rfl (by decide) (fun T => ta_300 T), same_wf⟩, hd_of rfl, by simp⟩
theorem it_39 : It [.list [.int 48], .list [.int 7]] := ⟨⟨fun s => s, lt_31, apT_same apcol_48 (hs := [.int 7]) (q0 := 0) rfl (by decide) (fun T => ta_7 T), same_wf⟩, hd_of rfl, by simp⟩
theorem it_40 : It [.list [.int 38], .list [.int 2], .list [.int 1], .list [.int 256], .list [.int 3]] := ⟨⟨fun s => s, lt_32, apT_same apcol_38 (hs := [.int 2, .int 1, .int 256, .int 3]) (q0 := 3) rfl (by decide) (fun T => ta_256 T), same_wf⟩, hd_of rfl, by simp⟩
theorem it_41 : It [.list [.int 48], .list [.int 2], .list [.none], .list [.int 7], .list [.none]] := ⟨⟨setC 2 16779008, lt_33, apT_48 (hs := [.int 2, .none, .int 7, .none]) (d := 16779008) (q0 := 3) rfl (by decide) (fun T => ta_n7n T), setC_wf⟩, hd_of rfl, by simp⟩
theorem it_42 : It [.list [.int 38, .int 5, .int 300]] := ⟨⟨fun s => s, lt_14, av_7, same_wf⟩, hd_of rfl, by simp⟩
theorem it_43 : It [.list [.int 200]] := ⟨⟨numS 200, lawT_num (q := 200) (num_in rfl), apT_num (m := 200) (num_in rfl) an_200, fun s h => numS_wf h⟩, hd_of rfl, by simp⟩
theorem it_44 : It [.list [.int 4, .none]] := ⟨⟨fun s => s, lt_10, av_8, same_wf⟩, hd_of rfl, by simp⟩
noncomputable def menuL : List (List PV) := [[.list [.int 1]], [.list [.int 2]], [.list [.int 3]], [.list [.int 4]], [.list [.int 5]], [.list [.int 6]], [.list [.int 7]], [.list [.int 8]], [.list [.int 9]], [.list [.int 21]], [.list [.int 22]], [.list [.int 23]], [.list [.int 24]], [.list [.int 25]], [.list [.int 26]], [.list [.int 27]], [.list [.int 28]], [.list [.int 29]], [.list [.int 31]], [.list [.int 39]], [.list [.int 47]], [.list [.int 49]], [.list [.int 53]], [.list [.int 55]], [.list [.int 59]], [.list [.none]], [.list [.int 0]], [.list [.int 94]], [.list [.int 107]], [.list [.int 4, .int 3]], [.list [.int 4, .int 0]], [.list [.int 4, .int 7]], [.list [.int 1, .int 2]], [.list [.int 38], .list [.int 5], .list [.int 200]], [.list [.int 48, .int 5, .int 3]], [.list [.int 38], .list [.int 2], .list [.int 1], .list [.int 2], .list [.int 3]], [.list [.int 48, .int 2, .int 1, .int 2, .int 3]], [.list [.int 58, .int 2, .int 0, .int 9, .int 8, .int 7]], [.list [.int 58], .list [.int 5], .list [.int 300]], [.list [.int 48], .list [.int 7]], [.list [.int 38], .list [.int 2], .list [.int 1], .list [.int 256], .list [.int 3]], [.list [.int 48], .list [.int 2], .list [.none], .list [.int 7], .list [.none]], [.list [.int 38, .int 5, .int 300]], [.list [.int 200]], [.list [.int 4, .none]]]
theorem menu_is : fMenu [] = some (.list (menuL.map PV.list)) := by kernel_rfl!
theorem menu_it : ∀ i (h : i < 45), ∃ g, menuL[i]? = some g ∧ It g
  | 0, _ => ⟨_, rfl, it_0⟩
  | 1, _ => ⟨_, rfl, it_1⟩
  | 2, _ => ⟨_, rfl, it_2⟩
  | 3, _ => ⟨_, rfl, it_3⟩
  | 4, _ => ⟨_, rfl, it_4⟩
  | 5, _ => ⟨_, rfl, it_5⟩
  | 6, _ => ⟨_, rfl, it_6⟩
  | 7, _ => ⟨_, rfl, it_7⟩
  | 8, _ => ⟨_, rfl, it_8⟩
  | 9, _ => ⟨_, rfl, it_9⟩
  | 10, _ => ⟨_, rfl, it_10⟩
  | 11, _ => ⟨_, rfl, it_11⟩
  | 12, _ => ⟨_, rfl, it_12⟩
  | 13, _ => ⟨_, rfl, it_13⟩
  | 14, _ => ⟨_, rfl, it_14⟩
  | 15, _ => ⟨_, rfl, it_15⟩
  | 16, _ => ⟨_, rfl, it_16⟩
  | 17, _ => ⟨_, rfl, it_17⟩
  | 18, _ => ⟨_, rfl, it_18⟩
  | 19, _ => ⟨_, rfl, it_19⟩
  | 20, _ => ⟨_, rfl, it_20⟩
  | 21, _ => ⟨_, rfl, it_21⟩
  | 22, _ => ⟨_, rfl, it_22⟩
  | 23, _ => ⟨_, rfl, it_23⟩
  | 24, _ => ⟨_, rfl, it_24⟩
  | 25, _ => ⟨_, rfl, it_25⟩
  | 26, _ => ⟨_, rfl, it_26⟩
  | 27, _ => ⟨_, rfl, it_27⟩
  | 28, _ => ⟨_, rfl, it_28⟩
  | 29, _ => ⟨_, rfl, it_29⟩
  | 30, _ => ⟨_, rfl, it_30⟩
  | 31, _ => ⟨_, rfl, it_31⟩
  | 32, _ => ⟨_, rfl, it_32⟩
  | 33, _ => ⟨_, rfl, it_33⟩
  | 34, _ => ⟨_, rfl, it_34⟩
  | 35, _ => ⟨_, rfl, it_35⟩
  | 36, _ => ⟨_, rfl, it_36⟩
  | 37, _ => ⟨_, rfl, it_37⟩
  | 38, _ => ⟨_, rfl, it_38⟩
  | 39, _ => ⟨_, rfl, it_39⟩
  | 40, _ => ⟨_, rfl, it_40⟩
  | 41, _ => ⟨_, rfl, it_41⟩
  | 42, _ => ⟨_, rfl, it_42⟩
  | 43, _ => ⟨_, rfl, it_43⟩
  | 44, _ => ⟨_, rfl, it_44⟩
  | n + 45, h => absurd h (by omega)
end Og
end
section
open PySem
namespace Og
noncomputable def tails : List (List PV) := [[], [.list [.int 38]], [.list [.int 48], .list [.int 5]], [.list [.int 58], .list [.int 2], .list [.int 1]]]
/-- a row's end, cut short -/
structure TailOk (T : List PV) : Prop where
  hd : Hd T
  law : ∀ (n : Nat) (s : S) (lk : Int) (par : PV) (j : J), rW fFlagged (n + 2) (pS s lk) par T j (contS "_law_read" 2 (rK fFlagged)) = some (pS s lk)
  ap : ∀ (n : Nat) (s : S) (lk : Int) (A : List PV) (pen par : PV) (p q r : Option W), aWf (n + 2) pen par (pS s lk) A.length (A ++ T) p q r (contS "apply_sgr" 4 (aK fSub fApart fPlain)) = some (pS s lk)
theorem ap_end (n : Nat) (found pen par : PV) (i : Nat) (X : List PV) (p q r : Option W) (h : X.length ≤ i) : aWf (n + 1) pen par found i X p q r (contS "apply_sgr" 4 (aK fSub fApart fPlain)) = some found := by
  unfold aWf
  rw [ap_t, ltB_nat]
  have : Nat.blt i X.length = false := by
    cases e : Nat.blt i X.length with
    | false => rfl
    | true => rw [Nat.blt_eq] at e; omega
  rw [this, cond_false, ap_s4]
theorem tail_0 : TailOk [] := by
  refine ⟨fun _ h => (by cases h), fun n s lk par j => ?_, fun n s lk A pen par p q r => ?_⟩
  · rw [rd_end, rd_s2]
  · exact ap_end _ _ _ _ _ _ _ _ _ (by simp)
/-- the colour's turn, whatever stands behind -/
theorem go_end {m : Nat} (hm : ApCol m) (A Y : List PV) {i : Nat} (ht : fApart [.list (A ++ .list [.int m] :: Y), .int (A.length : Nat)] = some (.tup [.none, .int (i : Nat)])) (hi : A.length + 1 + Y.length ≤ i) (n : Nat) (s : S) (lk : Int) (pen par : PV) (p q r : Option W) :
    aWf (n + 2) pen par (pS s lk) A.length (A ++ .list [.int m] :: Y) p q r (contS "apply_sgr" 4 (aK fSub fApart fPlain)) = some (pS s lk) := by
  have e := ap_go (n + 1) (pS s lk) A Y [.int m] pen par p q r (contS "apply_sgr" 4 (aK fSub fApart fPlain))
  rw [hm, ht, bnd_some, ap_bind, bnd_some, ap_cn] at e
  refine e.trans ?_
  show aWf (n + 1) pen par (pS s lk) i _ _ _ _ _ = _
  exact ap_end _ _ _ _ _ _ _ _ _ (by rw [List.length_append, List.length_cons]; omega)
theorem cast_1 (a : Nat) : ((a : Int) + 1) = ((a + 1 : Nat) : Int) := by omega
theorem cast_2 (a b : Nat) : ((a : Int) + 2 + (b : Int)) = ((a + 2 + b : Nat) : Int) := by omega
theorem tail_1 : TailOk [.list [.int 38]] := by
  refine ⟨hd_of rfl, fun n s lk par j => ?_, fun n s lk A pen par p q r => ?_⟩
  · unfold pS
    rw [rg_34, rd_end, rd_s2]
  · refine go_end apcol_38 A [] (i := A.length + 1) ?_ (by simp) n s lk pen par p q r
    rw [ta_s0, cut_at]
    show contS "pen_told_apart" 1 tK .next (tρ _ _ (ov (.list [])) .none) [] = _
    rw [ta_e, cast_1]
theorem tail_2 : TailOk [.list [.int 48], .list [.int 5]] := by
  refine ⟨hd_of rfl, fun n s lk par j => ?_, fun n s lk A pen par p q r => ?_⟩
  · unfold pS
    rw [rg_35, rd_end, rd_s2]
  · refine go_end apcol_48 A [.list [.int 5]] (i := A.length + 3) ?_ (by simp) n s lk pen par p q r
    rw [ta_s0, cut_at]
    show compL (ev 38) tC.elt tC.t tC.ifs tK2 [] [.list (.int 5 :: [])] [] _ = _
    rw [ta_t]
    show contS "pen_told_apart" 1 tK .next (tρ _ _ (ov (.list [.int 5])) .none) [] = _
    rw [ta_5]
    congr 4
theorem tail_3 : TailOk [.list [.int 58], .list [.int 2], .list [.int 1]] := by
  refine ⟨hd_of rfl, fun n s lk par j => ?_, fun n s lk A pen par p q r => ?_⟩
  · unfold pS
    rw [rg_36, rd_end, rd_s2]
  · refine go_end apcol_58 A [.list [.int 2], .list [.int 1]] (i := A.length + 5) ?_ (by simp) n s lk pen par p q r
    rw [ta_s0, cut_at]
    show compL (ev 38) tC.elt tC.t tC.ifs tK2 [] [.list (.int 2 :: []), .list (.int 1 :: [])] [] _ = _
    rw [ta_t, ta_t]
    show contS "pen_told_apart" 1 tK .next (tρ _ _ (ov (.list [.int 2, .int 1])) .none) [] = _
    rw [ta_21]
    congr 4
theorem tails_ok : ∀ i (h : i < 4), ∃ T, tails[i]? = some T ∧ TailOk T
  | 0, _ => ⟨_, rfl, tail_0⟩
  | 1, _ => ⟨_, rfl, tail_1⟩
  | 2, _ => ⟨_, rfl, tail_2⟩
  | 3, _ => ⟨_, rfl, tail_3⟩
  | n + 4, h => absurd h (by omega)
theorem Hd.app {x y : List PV} (h : Hd x) (h2 : Hd y) : Hd (x ++ y) := fun z hz => by
  rcases List.mem_append.mp hz with q | q
  · exact h z q
  · exact h2 z q
theorem hd_flat : ∀ {gs : List (List PV)}, (∀ g ∈ gs, It g) → Hd gs.flatten
  | [], _ => fun _ h => by cases h
  | g :: r, h => by
    rw [List.flatten_cons]
    exact (h g (by simp)).hd.app (hd_flat fun q hq => h q (List.mem_cons_of_mem _ hq))
theorem both_go {T : List PV} (hT : Hd T) : ∀ (gs : List (List PV)) (s : S), (∀ g ∈ gs, It g) → s.Wf → ∃ s' : S, s'.Wf ∧
    (∀ (n : Nat) (lk : Int) (par : PV) (j : J) (k : Fl → Rho → Sto → Option PV), ∃ j', rW fFlagged (n + gs.length) (pS s lk) par (gs.flatten ++ T) j k = rW fFlagged n (pS s' lk) par T j' k) ∧
    (∀ (n : Nat) (lk : Int) (A : List PV) (pen par : PV) (p q r : Option W) (k : Fl → Rho → Sto → Option PV), ∃ p' q' r',
      aWf (n + gs.length) pen par (pS s lk) A.length (A ++ (gs.flatten ++ T)) p q r k = aWf n pen par (pS s' lk) (A ++ gs.flatten).length (A ++ (gs.flatten ++ T)) p' q' r' k)
  | [], s, _, w => ⟨s, w, fun _ _ _ j _ => ⟨j, rfl⟩, fun n lk A pen par p q r k => ⟨p, q, r, by rw [List.flatten_nil, List.append_nil]; rfl⟩⟩
  | g :: t, s, h, w => by
    obtain ⟨⟨e, hl, ha, hw⟩, hd, ne⟩ := h g (by simp)
    have ht : ∀ q ∈ t, It q := fun q hq => h q (List.mem_cons_of_mem _ hq)
    obtain ⟨s', w', L, B⟩ := both_go hT t (e s) ht (hw s w)
    refine ⟨s', w', fun n lk par j k => ?_, fun n lk A pen par p q r k => ?_⟩
    · obtain ⟨j1, e1⟩ := hl (n + t.length) s lk (t.flatten ++ T) par j k w
      obtain ⟨j2, e2⟩ := L n lk par j1 k
      refine ⟨j2, ?_⟩
      rw [List.flatten_cons, List.length_cons, List.append_assoc, ← Nat.add_assoc, e1, e2]
    · obtain ⟨p1, q1, r1, e1⟩ := ha (n + t.length) s lk A (t.flatten ++ T) pen par p q r k w ((hd_flat ht).app hT)
      obtain ⟨p2, q2, r2, e2⟩ := B n lk (A ++ g) pen par p1 q1 r1 k
      refine ⟨p2, q2, r2, ?_⟩
      rw [List.length_append, List.append_assoc, List.append_assoc] at e2
      rw [List.flatten_cons, List.length_cons, List.append_assoc g, ← Nat.add_assoc, e1]
      exact e2
/-- apply_sgr and the law's reader make the same look of a row from the menu -/
theorem both_read {gs : List (List PV)} {T : List PV} {s : S} (hg : ∀ g ∈ gs, It g) (hn : gs.length ≤ 50) (hT : TailOk T) (w : s.Wf) (lk : Int) :
    ∃ s' : S, fApply [pS s lk, .list (gs.flatten ++ T)] = some (pS s' lk) ∧ fRead [pS s lk, .list (gs.flatten ++ T)] = some (pS s' lk) := by
  cases e : gs.flatten ++ T with
  | nil =>
    refine ⟨plS, ?_, fRead_nil w lk⟩
    unfold fApply
    rw [ap_s0, show W.Z.ltB 0 (([] : List PV).length : Int) = false from rfl, cond_false]
    have e0 : aW fSub fApart fPlain 100 (pS s lk) (.list []) (pS s lk) 0 [.list [.none]] .none .none .none (contS "apply_sgr" 4 (aK fSub fApart fPlain)) =
        aWf 100 (pS s lk) (.list []) (pS s lk) ([] : List PV).length ([] ++ ([.list [.none]] ++ [])) .none .none .none (contS "apply_sgr" 4 (aK fSub fApart fPlain)) := by
      unfold aWf
      rw [List.nil_append, List.append_nil, List.length_nil, Int.natCast_zero]
    rw [e0]
    obtain ⟨p, q, r, e2⟩ := apT_none 99 s lk [] [] (pS s lk) (.list []) .none .none .none (contS "apply_sgr" 4 (aK fSub fApart fPlain)) w (fun _ h => by cases h)
    refine e2.trans ?_
    exact ap_end 98 _ _ _ _ _ _ _ _ (by simp)
  | cons x X =>
    obtain ⟨s', w', L, B⟩ := both_go hT.hd gs s hg w
    rw [← e]
    refine ⟨s', ?_, ?_⟩
    · unfold fApply
      rw [ap_s0]
      have h0 : W.Z.ltB 0 ((gs.flatten ++ T).length : Int) = true := by
        rw [show (0 : Int) = ((0 : Nat) : Int) from rfl, ltB_nat, Nat.blt_eq, e]; simp
      rw [h0, cond_true]
      obtain ⟨p, q, r, e2⟩ := B (100 - gs.length) lk [] (pS s lk) (.list (gs.flatten ++ T)) .none .none .none (contS "apply_sgr" 4 (aK fSub fApart fPlain))
      rw [Nat.sub_add_cancel (by omega)] at e2
      refine e2.trans ?_
      rw [show 100 - gs.length = (98 - gs.length) + 2 by omega, List.nil_append, List.nil_append]
      exact hT.ap ..
    · unfold fRead
      rw [rd_s0]
      have h0 : emptyB (gs.flatten ++ T) = false := by rw [e]; rfl
      rw [h0, Bool.not_false, cond_true]
      obtain ⟨j', e2⟩ := L (100 - gs.length) lk (.list (gs.flatten ++ T)) j0 (contS "_law_read" 2 (rK fFlagged))
      rw [Nat.sub_add_cancel (by omega)] at e2
      rw [e2, show 100 - gs.length = (98 - gs.length) + 2 by omega]
      exact hT.law ..
end Og
end
section
open PySem
namespace Og
/-! ## the draws -/
noncomputable def finC (n : Nat) : Fl → Rho → Sto → Option (PV × Sto) := fun f _ σ => match f with
  | .ret (.v d) => bif Nat.beq σ.length n then some (d, σ) else .none
  | _ => .none
noncomputable def contC (x : String) (i : Nat) (K : Cx) (n : Nat) : Fl → Rho → Sto → Option (PV × Sto) := fun f ρ σ => match f with
  | .next => evS (ev 40) ((P x).body.drop i) K ρ σ (finC n)
  | .ret w => finC n (.ret w) ρ σ
noncomputable def dK : Cx := mk "_law_draw" [] []
noncomputable def dρ (below : Int) (turn cells cell mixed : Option W) : Rho := env "_law_draw" [oc 0, oi below, turn, cells, cell, mixed]
noncomputable def modC (w : W) (b : Int) (σ : Sto) (k : W → Sto → Option (PV × Sto)) : Option (PV × Sto) := binW false e0 e0 .Mod w (.v (.int b)) σ k
noncomputable def deck (L : List PV) (t : Int) : List W := [.v (.list L), .v (.int t)]
section
variable (L : List PV) (t b c : Int) (σ : Sto) (k : W → Sto → Option (PV × Sto)) (n : Nat)
theorem draw_s : cDraw [.c 0, .v (.int b)] (deck L t :: σ) =
    bif W.Z.leB (t + 1) (L.length : Int) then subK (.v (.list L)) (.v (.int (t + 1 - 1))) (deck L (t + 1) :: σ) (fun w σ' => modC w b σ' fun w σ' => finC (σ.length + 1) (.ret w) [] σ')
    else contC "_law_draw" 3 dK (σ.length + 1) .next (dρ b (oi (t + 1)) (ov (.list L)) .none .none) (deck L (t + 1) :: σ) := by kernel_rfl!
theorem draw_3 (x : PV) : contC "_law_draw" 3 dK n .next (dρ b (oi t) (ov (.list (x :: L))) .none .none) σ =
    bif divOk ((x :: L).length : Int) then subK (.v (.list (x :: L))) (.v (.int (t.fmod ((x :: L).length : Int)))) σ (fun w σ' =>
      contC "_law_draw" 4 dK n .next (dρ b (oi t) (ov (.list (x :: L))) (some w) .none) σ') else .none := by kernel_rfl!
theorem contC_next (x : String) (i : Nat) (K : Cx) (ρ : Rho) : contC x i K n .next ρ σ = evS (ev 40) ((P x).body.drop i) K ρ σ (finC n) := rfl
theorem evS_step {e : Ev (PV × Sto)} {s : Stmt} {r : List Stmt} {K : Cx} {ρ ρ' : Rho} {q : Fl → Rho → Sto → Option (PV × Sto)} (h : ∀ kk, e.s s K ρ σ kk = kk .next ρ' σ) : evS e (s :: r) K ρ σ q = evS e r K ρ' σ q :=
  (show evS e (s :: r) K ρ σ q = _ from rfl).trans (h _)
theorem draw_3a (kk : Fl → Rho → Sto → Option (PV × Sto)) : (ev 40).s (sAt "_law_draw" 3) dK (dρ b (oi t) (ov (.list [])) .none .none) σ kk = kk .next (dρ b (oi t) (ov (.list [])) (oi 7) .none) σ := by kernel_rfl!
theorem draw_b : (P "_law_draw").body.drop 3 = sAt "_law_draw" 3 :: (P "_law_draw").body.drop 4 := by kernel_rfl!
theorem draw_3n : contC "_law_draw" 3 dK n .next (dρ b (oi t) (ov (.list [])) .none .none) σ =
      contC "_law_draw" 4 dK n .next (dρ b (oi t) (ov (.list [])) (oi 7) .none) σ := by
  rw [contC_next, contC_next, draw_b]
  exact evS_step σ fun kk => draw_3a t b σ kk
noncomputable def mix1 (c t : Int) : Int := ((c.fmod 2147483629 + 60013 * t * t + 17) * 48271).fmod 2147483647
theorem draw_m : contC "_law_draw" 4 dK n .next (dρ b (oi t) (ov (.list L)) (oi c) .none) σ =
    bif small (60013 * t) then (bif small (mix1 c t) then (bif divOk b then finC n (.ret (.v (.int ((((mix1 c t * mix1 c t + t).fmod 2147483579).fdiv 64).fmod b)))) [] σ else .none) else .none) else .none := by kernel_rfl!
end
theorem fmod_lt {b : Int} (h : 0 < b) (a : Int) : 0 ≤ a.fmod b ∧ a.fmod b < b := ⟨Int.fmod_nonneg_of_pos a h, Int.fmod_lt_of_pos a h⟩
theorem small_of {x : Int} (h : 0 ≤ x) (h2 : x < 18446744073709551616) : small x = true := by
  unfold small; rw [Nat.blt_eq]; omega
/-- a draw gives a number below, and turns the deck on -/
theorem draw_ok {l : List Int} {t b : Int} (hl : l.length ≤ 24) (ht : 0 ≤ t) (ht2 : t ≤ 1000) (hb : 0 < b) (hd : divOk b = true) (σ : Sto) :
    ∃ i : Int, 0 ≤ i ∧ i < b ∧ cDraw [.c 0, .v (.int b)] (deck (l.map PV.int) t :: σ) = some (.int i, deck (l.map PV.int) (t + 1) :: σ) := by
  have key : ∃ i : Int, 0 ≤ i ∧ i < b ∧ cDraw [.c 0, .v (.int b)] (deck (l.map PV.int) t :: σ) = some (.int i, deck (l.map PV.int) (t + 1) :: σ) := by
    have hm : ∀ c : Int, ∃ i : Int, 0 ≤ i ∧ i < b ∧ contC "_law_draw" 4 dK (σ.length + 1) .next (dρ b (oi (t + 1)) (ov (.list (l.map PV.int))) (oi c) .none) (deck (l.map PV.int) (t + 1) :: σ) = some (.int i, deck (l.map PV.int) (t + 1) :: σ) := by
      intro c
      rw [draw_m]
      have m := fmod_lt (b := 2147483647) (by decide) ((c.fmod 2147483629 + 60013 * (t + 1) * (t + 1) + 17) * 48271)
      rw [small_of (by omega) (by omega), cond_true, small_of (x := mix1 c (t + 1)) m.1 (by unfold mix1; omega), cond_true, hd, cond_true]
      have r := fmod_lt hb (((mix1 c (t + 1) * mix1 c (t + 1) + (t + 1)).fmod 2147483579).fdiv 64)
      refine ⟨_, r.1, r.2, ?_⟩
      show (bif Nat.beq (σ.length + 1) (σ.length + 1) then _ else _) = _
      rw [Nat.beq_refl]; rfl
    have e := draw_s (l.map PV.int) t b σ
    show ∃ i : Int, 0 ≤ i ∧ i < b ∧ cDraw [.c 0, .v (.int b)] (deck (l.map PV.int) t :: σ) = _
    rw [e]
    have sub : ∀ (j : Nat) (h : j < l.length) (σ' : Sto) (k : W → Sto → Option (PV × Sto)), subK (.v (.list (l.map PV.int))) (.v (.int (j : Int))) σ' k = k (.v (.int l[j])) σ' := by
      intro j h σ' k
      show opt (place (j : Nat) (l.map PV.int).length) (fun j => opt (l.map PV.int)[j]? fun d => k (.v d) σ') = _
      rw [List.length_map, place_at j l.length h, opt_some, List.getElem?_map, List.getElem?_eq_getElem h]; rfl
    obtain ⟨n, rfl⟩ := Int.eq_ofNat_of_zero_le ht
    cases c1 : W.Z.leB ((n : Int) + 1) ((l.map PV.int).length : Int)
    · rw [cond_false]
      cases l with
      | nil =>
        rw [List.map_nil, draw_3n]
        exact hm 7
      | cons x l' =>
        rw [List.map_cons, draw_3]
        have hdv : divOk ((PV.int x :: l'.map PV.int).length : Int) = true := by
          rw [← List.map_cons, List.length_map]
          have : ∀ m : Nat, m < 25 → 0 < m → divOk (m : Int) = true := by decide +kernel
          exact this _ (by omega) (by simp)
        rw [hdv, cond_true]
        have ej : ((n : Int) + 1).fmod ((PV.int x :: l'.map PV.int).length : Int) = (((n + 1) % (x :: l').length : Nat) : Int) := by
          rw [← List.map_cons, List.length_map, show ((n : Int) + 1) = ((n + 1 : Nat) : Int) by omega, fmod_nat]
        rw [ej]
        have sb := sub _ (Nat.mod_lt (n + 1) (show 0 < (x :: l').length by simp))
        rw [List.map_cons] at sb
        rw [sb]
        exact hm _
    · rw [cond_true]
      have hn : n < l.length := by
        have := (W.Z.leB_iff _ _).mp c1
        rw [List.length_map] at this; omega
      have en : ((n : Int) + 1 - 1) = (n : Nat) := by omega
      rw [en, sub n hn]
      have r := fmod_lt hb (l[n])
      refine ⟨_, r.1, r.2, ?_⟩
      show (bif divOk b then finC (σ.length + 1) (.ret (.v (.int (l[n].fmod b)))) [] (deck (l.map PV.int) ((n : Int) + 1) :: σ) else .none) = _
      rw [hd, cond_true]
      show (bif Nat.beq (σ.length + 1) (σ.length + 1) then _ else _) = _
      rw [Nat.beq_refl]; rfl
  exact key
/-! ## a look drawn -/
noncomputable def sixV : List PV := [.int (-1), .int 1, .int 9, .int 77, .int 16843267, .int 16777216]
noncomputable def lit512 : PySem.Expr := .Constant (.int 512) 0 ⟨0, 0, 0, 0⟩
noncomputable def mulC (w1 w2 : W) (σ : Sto) (k : W → Sto → Option (PV × Sto)) : Option (PV × Sto) := binW false lit512 e0 .Mult w1 w2 σ k
noncomputable def addC (w1 w2 : W) (σ : Sto) (k : W → Sto → Option (PV × Sto)) : Option (PV × Sto) := binW false e0 e0 .Add w1 w2 σ k
theorem pen_s (d : Fc) (σ0 : Sto) : callC "_law_pen" [] [("_law_draw", d)] [.c 0] σ0 =
    bnd (d [.c 0, .v (.int 512)] σ0) fun r1 => bnd (d [.c 0, .v (.int 6)] r1.2) fun r2 => mulC (.v (.int 512)) (.v r2.1) r2.2 fun w σ => addC (.v r1.1) w σ fun wf σ =>
      bnd (d [.c 0, .v (.int 6)] σ) fun r3 => subK (.v (.list sixV)) (.v r3.1) r3.2 fun w3 σ3 =>
      bnd (d [.c 0, .v (.int 6)] σ3) fun r4 => subK (.v (.list sixV)) (.v r4.1) r4.2 fun w4 σ4 => bnd (d [.c 0, .v (.int 6)] σ4) fun r5 => subK (.v (.list sixV)) (.v r5.1) r5.2 fun w5 σ5 =>
      bnd (d [.c 0, .v (.int 2)] σ5) fun r6 => bnd (allV [wf, w3, w4, w5, .v r6.1]) fun l => finC σ0.length (.ret (.v (.tup l))) [] r6.2 := by kernel_rfl!
end Og
end
section
open PySem
namespace Og
/-! ## the law, statement by statement -/
noncomputable def wK (mf nr sg rd lp ls po ap : Fn) (pen : Fc) (d : Fc) : Cx :=
  mk "law" [("_law_menu", mf), ("nearest_of_256", nr), ("sgr_octets", sg), ("_law_read", rd), ("_law_params", lp), ("_law_least", ls), ("pen_octets", po), ("apply_sgr", ap)] [("_law_pen", pen), ("_law_draw", d)]
noncomputable def wρ (sc m o n can : Option W) (sh pen parts oct par go : Option W) : Rho := env "law" [sc, oc 0, m, o, n, can, sh, pen, parts, oct, par, go]
noncomputable def w3 : Lp := lp "law" 3
noncomputable def w8 : Lp := lp "law" 8
noncomputable def tell2 (nr : Fn) (can : Bool) (c : Int) (k : PV → Option PV) : Option PV := bif can then k (.int c) else bif W.Z.ltB c 16777216 then k (.int c) else bnd (nr [.int (c - 16777216)]) k
noncomputable def rangeK (w : W) (k : List PV → Option PV) : Option PV := match w with
  | .v (.int n) => bif tiny n then k (rangeL 0 n.toNat) else .none
  | _ => .none
noncomputable def fls : Option PV := some (.bool false)
noncomputable def tailsV : List PV := tails.map PV.list
section
variable (mf nr sg rd lp' ls po ap : Fn) (pen : Fc) (d : Fc) (X L M O : List PV) (D : List W) (σ : Sto) (sc m : Option W) (o n : PV) (can : Bool) (p q r s t u : Option W) (k : Fl → Rho → Sto → Option PV)
theorem law_s0 : callF "law" [("_law_menu", mf), ("nearest_of_256", nr), ("sgr_octets", sg), ("_law_read", rd), ("_law_params", lp'), ("_law_least", ls), ("pen_octets", po), ("apply_sgr", ap)] [("_law_pen", pen), ("_law_draw", d)] [.list X] =
    bnd (mf []) fun m => contS "law" 1 (wK mf nr sg rd lp' ls po ap pen d) .next (wρ (ov (.list X)) (ov m) .none .none .none .none .none .none .none .none .none) [[.v (.list (cut .none (some 24) X)), .v (.int 0)]] := by kernel_rfl!
theorem law_s1 : contS "law" 1 (wK mf nr sg rd lp' ls po ap pen d) .next (wρ sc m .none .none .none .none .none .none .none .none .none) σ =
    bnd (pen [.c 0] σ) fun r1 => bnd (pen [.c 0] r1.2) fun r2 => bnd (d [.c 0, .v (.int 3)] r2.2) fun r3 => bnd (cmpV .Gt r3.1 (.int 0)) fun c => contS "law" 2 (wK mf nr sg rd lp' ls po ap pen d) .next (wρ sc m (ov r1.1) (ov r2.1) (ov (.bool c)) .none .none .none .none .none .none) r3.2 := by kernel_rfl!
theorem law_s2 : contS "law" 2 (wK mf nr sg rd lp' ls po ap pen d) .next (wρ sc m (ov o) (ov n) (ov (.bool can)) .none .none .none .none .none .none) [D] =
    forL (ev 39) w3.t w3.body (wK mf nr sg rd lp' ls po ap pen d) [o, n] (wρ sc m (ov o) (ov n) (ov (.bool can)) (oc 1) .none .none .none .none .none) [D, []] (contS "law" 4 (wK mf nr sg rd lp' ls po ap pen d)) := by kernel_rfl!
theorem law_t3 (fo oa ob oc' lk f a b c l : Int) (S : List W) : forL (ev 39) w3.t w3.body (wK mf nr sg rd lp' ls po ap pen d) (pn f a b c l :: X) (wρ sc m (ov (pn fo oa ob oc' lk)) (ov n) (ov (.bool can)) (oc 1) p q .none .none .none) [D, S] k =
    tell2 nr can a fun x => tell2 nr can b fun y => tell2 nr can c fun z => bnd (pushAt (.c 1) (.v (.tup [.int f, x, y, z, .int lk])) [D, S]) fun σ =>
      forL (ev 39) w3.t w3.body (wK mf nr sg rd lp' ls po ap pen d) X (wρ sc m (ov (pn fo oa ob oc' lk)) (ov n) (ov (.bool can)) (oc 1) (ov (pn f a b c l)) (ov (.list [x, y, z])) .none .none .none) σ k := by kernel_rfl!
theorem law_s4 : contS "law" 4 (wK mf nr sg rd lp' ls po ap pen d) .next (wρ sc m (ov o) (ov n) (ov (.bool can)) (oc 1) p q .none .none .none) σ =
    bnd (sg [o, n, .bool can]) fun x => contS "law" 5 (wK mf nr sg rd lp' ls po ap pen d) .next (wρ sc m (ov o) (ov n) (ov (.bool can)) (oc 1) p q (ov x) .none .none) σ := by kernel_rfl!
theorem law_s5 (B : List Nat) (f a b c l f' a' b' c' l' : Int) : contS "law" 5 (wK mf nr sg rd lp' ls po ap pen d) .next (wρ sc m (ov o) (ov n) (ov (.bool can)) (oc 1) p q (ov (.bytes B)) .none .none) [D, [.v (pn f a b c l), .v (pn f' a' b' c' l')]] =
    bif eqvL [.int f, .int a, .int b, .int c, .int l] [.int f', .int a', .int b', .int c', .int l'] then
      (bif !natsB B [] then fls else contS "law" 6 (wK mf nr sg rd lp' ls po ap pen d) .next (wρ sc m (ov o) (ov n) (ov (.bool can)) (oc 1) p q (ov (.bytes B)) .none .none) [D, [.v (pn f a b c l), .v (pn f' a' b' c' l')]])
    else bif !natsB (cut .none (some 2) B) [27, 91] then fls else bif !natsB (cut (some (-1)) .none B) [109] then fls else
      bnd (lp' [.bytes (cut (some 2) (some (-1)) B)]) fun x => bnd (rd [pn f a b c l, x]) fun y => bnd (cmpV .NotEq y (pn f' a' b' c' l')) fun e => bif e then fls else
      bnd (ls [pn f a b c l, pn f' a' b' c' l']) fun z => bnd (cmpV .NotEq (.int ((B.length : Int) - 3)) z) fun e => bif e then fls else
      contS "law" 6 (wK mf nr sg rd lp' ls po ap pen d) .next (wρ sc m (ov o) (ov n) (ov (.bool can)) (oc 1) p q (ov (.bytes B)) .none .none) [D, [.v (pn f a b c l), .v (pn f' a' b' c' l')]] := by kernel_rfl!
theorem law_s6 (f a b c l : Int) : contS "law" 6 (wK mf nr sg rd lp' ls po ap pen d) .next (wρ sc m (ov o) (ov (pn f a b c l)) (ov (.bool can)) (oc 1) p q r .none .none) σ =
    bnd (po [pn f a b c l]) fun x => bnd (lp' [x]) fun y => bnd (rd [pn 0 (-1) (-1) (-1) l, y]) fun z => bnd (cmpV .NotEq z (pn f a b c l)) fun e => bif e then fls else
      contS "law" 7 (wK mf nr sg rd lp' ls po ap pen d) .next (wρ sc m (ov o) (ov (pn f a b c l)) (ov (.bool can)) (oc 1) p q r .none .none) σ := by kernel_rfl!
theorem law_s7 : contS "law" 7 (wK mf nr sg rd lp' ls po ap pen d) .next (wρ sc m (ov o) (ov n) (ov (.bool can)) (oc 1) p q r .none .none) σ =
    bnd (d [.c 0, .v (.int 6)] σ) fun x => rangeK (.v x.1) fun l => forL (ev 39) w8.t w8.body (wK mf nr sg rd lp' ls po ap pen d) l (wρ sc m (ov o) (ov n) (ov (.bool can)) (oc 1) p q r (ov (.list [])) .none) x.2 (contS "law" 9 (wK mf nr sg rd lp' ls po ap pen d)) := by kernel_rfl!
theorem law_t8 (x : PV) : forL (ev 39) w8.t w8.body (wK mf nr sg rd lp' ls po ap pen d) (x :: X) (wρ sc (ov (.list M)) (ov o) (ov n) (ov (.bool can)) (oc 1) p q r (ov (.list L)) s) σ k =
    bnd (d [.c 0, .v (.int (M.length : Nat))] σ) fun y => subK (.v (.list M)) (.v y.1) y.2 fun w σ => addE (.v (.list L)) w σ fun w σ =>
      forL (ev 39) w8.t w8.body (wK mf nr sg rd lp' ls po ap pen d) X (wρ sc (ov (.list M)) (ov o) (ov n) (ov (.bool can)) (oc 1) p q r (some w) (ov x)) σ k := by kernel_rfl!
theorem law_s9 : contS "law" 9 (wK mf nr sg rd lp' ls po ap pen d) .next (wρ sc m (ov o) (ov n) (ov (.bool can)) (oc 1) p q r (ov (.list L)) s) σ =
    bnd (d [.c 0, .v (.int 4)] σ) fun y => subK (.v (.list tailsV)) (.v y.1) y.2 fun w σ => addE (.v (.list L)) w σ fun w σ =>
      contS "law" 10 (wK mf nr sg rd lp' ls po ap pen d) .next (wρ sc m (ov o) (ov n) (ov (.bool can)) (oc 1) p q r (some w) s) σ := by kernel_rfl!
theorem law_s10 : contS "law" 10 (wK mf nr sg rd lp' ls po ap pen d) .next (wρ sc m (ov o) (ov n) (ov (.bool can)) (oc 1) p q r (ov (.list L)) s) σ =
    bnd (ap [o, .list L]) fun x => bnd (rd [o, .list L]) fun y => bnd (cmpV .Eq x y) fun e => some (.bool e) := by kernel_rfl!
end
end Og
end
section
open PySem
namespace Og
theorem bnd_bnd {α β γ : Type} (o : Option α) (f : α → Option β) (g : β → Option γ) : (bnd o fun x => bnd (f x) g) = bnd (bnd o f) g := by
  cases o <;> rfl
/-- a look as drawn -/
structure S.Sx (s : S) : Prop where
  w : s.Wf
  a : s.a ∈ Six
  b : s.b ∈ Six
  c : s.c ∈ Six
noncomputable def tl (can : Bool) (s : S) : S := ⟨s.l, s.u, told can s.a, told can s.b, told can s.c⟩
theorem S.Sx.tl {s : S} (h : s.Sx) (can : Bool) : (Og.tl can s).Cf := ⟨⟨h.w.l, h.w.u⟩, told_mem can h.a, told_mem can h.b, told_mem can h.c⟩
theorem tl_true (s : S) : tl true s = s := rfl
theorem sub_six {i : Int} (h0 : 0 ≤ i) (h1 : i < 6) (σ : Sto) (k : W → Sto → Option (PV × Sto)) : ∃ c ∈ Six, subK (.v (.list sixV)) (.v (.int i)) σ k = k (.v (.int c)) σ := by
  obtain ⟨n, rfl⟩ := Int.eq_ofNat_of_zero_le h0
  have hn : n < 6 := by omega
  exact six (Q := fun n => ∃ c ∈ Six, subK (.v (.list sixV)) (.v (.int (n : Nat))) σ k = k (.v (.int c)) σ) hn ⟨-1, by decide, rfl⟩ ⟨1, by decide, rfl⟩ ⟨9, by decide, rfl⟩ ⟨77, by decide, rfl⟩ ⟨16843267, by decide, rfl⟩ ⟨16777216, by decide, rfl⟩
theorem pen_ok {l : List Int} {t : Int} (hl : l.length ≤ 24) (ht : 0 ≤ t) (ht2 : t ≤ 900) (σ : Sto) :
    ∃ (s : S) (lk : Int), s.Sx ∧ cPen [.c 0] (deck (l.map PV.int) t :: σ) = some (pS s lk, deck (l.map PV.int) (t + 6) :: σ) := by
  obtain ⟨i1, a1, b1, e1⟩ := draw_ok (b := 512) hl ht (by omega) (by decide) (by decide +kernel) σ
  obtain ⟨i2, a2, b2, e2⟩ := draw_ok (t := t + 1) (b := 6) hl (by omega) (by omega) (by decide) (by decide +kernel) σ
  obtain ⟨i3, a3, b3, e3⟩ := draw_ok (t := t + 1 + 1) (b := 6) hl (by omega) (by omega) (by decide) (by decide +kernel) σ
  obtain ⟨i4, a4, b4, e4⟩ := draw_ok (t := t + 1 + 1 + 1) (b := 6) hl (by omega) (by omega) (by decide) (by decide +kernel) σ
  obtain ⟨i5, a5, b5, e5⟩ := draw_ok (t := t + 1 + 1 + 1 + 1) (b := 6) hl (by omega) (by omega) (by decide) (by decide +kernel) σ
  obtain ⟨i6, a6, b6, e6⟩ := draw_ok (t := t + 1 + 1 + 1 + 1 + 1) (b := 2) hl (by omega) (by omega) (by decide) (by decide +kernel) σ
  have hs := pen_s cDraw (deck (l.map PV.int) t :: σ)
  unfold cPen
  rw [hs, e1, bnd_some, e2, bnd_some]
  have hmul : ∀ (σ : Sto) (k : W → Sto → Option (PV × Sto)), mulC (.v (.int 512)) (.v (.int i2)) σ k = k (.v (.int (512 * i2))) σ := fun _ _ => rfl
  have hadd : ∀ (σ : Sto) (k : W → Sto → Option (PV × Sto)), addC (.v (.int i1)) (.v (.int (512 * i2))) σ k = k (.v (.int (i1 + 512 * i2))) σ := fun _ _ => rfl
  rw [hmul, hadd, e3, bnd_some]
  dsimp only
  obtain ⟨c1, m1, f1⟩ := sub_six a3 b3 (deck (l.map PV.int) (t + 1 + 1 + 1) :: σ) (fun w3 σ3 =>
      bnd (cDraw [.c 0, .v (.int 6)] σ3) fun r4 => subK (.v (.list sixV)) (.v r4.1) r4.2 fun w4 σ4 => bnd (cDraw [.c 0, .v (.int 6)] σ4) fun r5 => subK (.v (.list sixV)) (.v r5.1) r5.2 fun w5 σ5 =>
      bnd (cDraw [.c 0, .v (.int 2)] σ5) fun r6 => bnd (allV [.v (.int (i1 + 512 * i2)), w3, w4, w5, .v r6.1]) fun l_1 => finC (deck (l.map PV.int) t :: σ).length (.ret (.v (.tup l_1))) [] r6.2)
  rw [f1, e4, bnd_some]
  dsimp only
  obtain ⟨c2, m2, f2⟩ := sub_six a4 b4 (deck (l.map PV.int) (t + 1 + 1 + 1 + 1) :: σ) (fun w4 σ4 => bnd (cDraw [.c 0, .v (.int 6)] σ4) fun r5 => subK (.v (.list sixV)) (.v r5.1) r5.2 fun w5 σ5 =>
      bnd (cDraw [.c 0, .v (.int 2)] σ5) fun r6 => bnd (allV [.v (.int (i1 + 512 * i2)), .v (.int c1), w4, w5, .v r6.1]) fun l_1 => finC (deck (l.map PV.int) t :: σ).length (.ret (.v (.tup l_1))) [] r6.2)
  rw [f2, e5, bnd_some]
  dsimp only
  obtain ⟨c3, m3, f3⟩ := sub_six a5 b5 (deck (l.map PV.int) (t + 1 + 1 + 1 + 1 + 1) :: σ) (fun w5 σ5 =>
      bnd (cDraw [.c 0, .v (.int 2)] σ5) fun r6 => bnd (allV [.v (.int (i1 + 512 * i2)), .v (.int c1), .v (.int c2), w5, .v r6.1]) fun l_1 => finC (deck (l.map PV.int) t :: σ).length (.ret (.v (.tup l_1))) [] r6.2)
  rw [f3, e6, bnd_some]
  obtain ⟨n1, rfl⟩ := Int.eq_ofNat_of_zero_le a1
  obtain ⟨n2, rfl⟩ := Int.eq_ofNat_of_zero_le a2
  refine ⟨⟨n1, n2, c1, c2, c3⟩, i6, ⟨⟨by show n1 < 512; omega, by show n2 < 6; omega⟩, m1, m2, m3⟩, ?_⟩
  have ef : ((n1 : Int) + 512 * (n2 : Int)) = fl n1 n2 := by unfold fl; omega
  rw [ef, show t + 1 + 1 + 1 + 1 + 1 + 1 = t + 6 by omega]
  show (bif Nat.beq (σ.length + 1) (σ.length + 1) then _ else _) = _
  rw [Nat.beq_refl]; rfl
theorem tell2_ok (can : Bool) {c : Int} (h : c ∈ Six) (k : PV → Option PV) : tell2 fNear can c k = k (.int (told can c)) := by
  cases can
  · refine mem_six (Q := fun c => tell2 fNear false c k = k (.int (told false c))) h rfl rfl rfl rfl ?_ ?_
    · show bnd (fNear [.int (16843267 - 16777216)]) k = _
      rw [show (16843267 - 16777216 : Int) = 66051 from rfl, near_1]; rfl
    · show bnd (fNear [.int (16777216 - 16777216)]) k = _
      rw [show (16777216 - 16777216 : Int) = 0 from rfl, near_0]; rfl
  · exact mem_six (Q := fun c => tell2 fNear true c k = k (.int (told true c))) h rfl rfl rfl rfl rfl rfl
theorem eq_self {s : S} (w : s.Wf) (lk : Int) : cmpV .Eq (pS s lk) (pS s lk) = some true := by
  have : eqS s s lk = true := (eqS_iff w w lk).mpr rfl
  show some (eqS s s lk) = _
  rw [this]
theorem ne_self {s : S} (w : s.Wf) (lk : Int) : cmpV .NotEq (pS s lk) (pS s lk) = some false := by
  have : eqS s s lk = true := (eqS_iff w w lk).mpr rfl
  show some (!eqS s s lk) = _
  rw [this]; rfl
theorem eq_any (f a b c l : Int) : cmpV .Eq (pn f a b c l) (pn f a b c l) = some true := by
  show some (eqvL _ _) = _
  simp [eqvL, eqv, eqI]
theorem ne_int (a : Int) : cmpV .NotEq (.int a) (.int a) = some false := by
  show some (!W.Z.eqB a a) = _
  rw [eqI]; simp
theorem cut_head (T : List Nat) : cut .none (some 2) ([27, 91] ++ T ++ [109]) = [27, 91] := by
  unfold cut
  dsimp only
  show ((List.drop 0 ([27, 91] ++ T ++ [109])).take ((bif Nat.ble 2 ([27, 91] ++ T ++ [109]).length then 2 else ([27, 91] ++ T ++ [109]).length) - 0)) = _
  have : Nat.ble 2 ([27, 91] ++ T ++ [109]).length = true := by rw [Nat.ble_eq]; simp
  rw [this]; rfl
theorem cut_last (T : List Nat) : cut (some (-1)) .none ([27, 91] ++ T ++ [109]) = [109] := by
  unfold cut
  show List.drop (([27, 91] ++ T ++ [109]).length - (0 + 1)) ([27, 91] ++ T ++ [109]) = _
  have e : ([27, 91] ++ T ++ [109]).length - (0 + 1) = ([27, 91] ++ T).length := by simp
  rw [e, List.drop_left]
theorem cut_mid (T : List Nat) : cut (some 2) (some (-1)) ([27, 91] ++ T ++ [109]) = T := by
  unfold cut
  show (List.drop (bif Nat.ble 2 ([27, 91] ++ T ++ [109]).length then 2 else ([27, 91] ++ T ++ [109]).length) ([27, 91] ++ T ++ [109])).take ((([27, 91] ++ T ++ [109]).length - (0 + 1)) - (bif Nat.ble 2 ([27, 91] ++ T ++ [109]).length then 2 else ([27, 91] ++ T ++ [109]).length)) = _
  have : Nat.ble 2 ([27, 91] ++ T ++ [109]).length = true := by rw [Nat.ble_eq]; simp
  rw [this, cond_true]
  show (T ++ [109]).take _ = _
  have e : ([27, 91] ++ T ++ [109]).length - (0 + 1) - 2 = T.length := by simp
  rw [e, List.take_left]
theorem six_cols {c : Int} (h : c ∈ Six) : c ∈ Cols := mem_six (Q := fun c => c ∈ Cols) h (by decide) (by decide) (by decide) (by decide) (by decide) (by decide)
theorem addE_any {x y : List PV} (h : x.length + y.length ≤ 1000) (σ : Sto) (k : W → Sto → Option PV) : addE (.v (.list x)) (.v (.list y)) σ k = k (.v (.list (x ++ y))) σ := by
  show (bif fits (x.length + y.length) then k (.v (.list (x ++ y))) σ else .none) = _
  rw [fits_ok (by omega)]; rfl
theorem menu_small : (menuL.all fun g => Nat.ble g.length 5) = true := by decide +kernel
theorem tails_small : (tails.all fun g => Nat.ble g.length 5) = true := by decide +kernel
theorem sub_list {Ls : List (List PV)} {i : Nat} {g : List PV} (h : Ls[i]? = some g) (σ : Sto) (k : W → Sto → Option PV) : subK (.v (.list (Ls.map PV.list))) (.v (.int (i : Nat))) σ k = k (.v (.list g)) σ := by
  have hi : i < Ls.length := (List.getElem?_eq_some_iff.mp h).1
  show opt (place (i : Nat) (Ls.map PV.list).length) (fun j => opt (Ls.map PV.list)[j]? fun d => k (.v d) σ) = _
  rw [List.length_map, place_at i Ls.length hi, opt_some, List.getElem?_map, h]; rfl
noncomputable def Kw : Cx := wK fMenu fNear fSgr fRead fLParams fLeast fPenO fApply cPen cDraw
theorem rows_go {l : List Int} (hl : l.length ≤ 24) (sc : Option W) (o n : PV) (can : Bool) (p q r : Option W) (S' : List W) (k : Fl → Rho → Sto → Option PV) : ∀ (m : Nat) (a t : Int) (gs : List (List PV)) (s : Option W), 0 ≤ t → t + m ≤ 900 → gs.length + m ≤ 20 → (∀ g ∈ gs, It g) → gs.flatten.length ≤ 5 * gs.length →
    ∃ (gs' : List (List PV)) (t' : Int) (s' : Option W), (∀ g ∈ gs', It g) ∧ gs'.length ≤ gs.length + m ∧ gs'.flatten.length ≤ 5 * gs'.length ∧ 0 ≤ t' ∧ t' ≤ t + m ∧
      forL (ev 39) w8.t w8.body Kw (rangeL a m) (wρ sc (ov (.list (menuL.map PV.list))) (ov o) (ov n) (ov (.bool can)) (oc 1) p q r (ov (.list gs.flatten)) s) [deck (l.map PV.int) t, S'] k =
      k .next (wρ sc (ov (.list (menuL.map PV.list))) (ov o) (ov n) (ov (.bool can)) (oc 1) p q r (ov (.list gs'.flatten)) s') [deck (l.map PV.int) t', S']
  | 0, a, t, gs, s, h0, _, _, hg, hf => ⟨gs, t, s, hg, by omega, hf, h0, by omega, rfl⟩
  | m + 1, a, t, gs, s, h0, h1, h2, hg, hf => by
    obtain ⟨i, i0, i1, e⟩ := draw_ok (t := t) (b := 45) hl h0 (by omega) (by decide) (by decide +kernel) [S']
    obtain ⟨i, rfl⟩ := Int.eq_ofNat_of_zero_le i0
    obtain ⟨g, eg, ig⟩ := menu_it i (by omega)
    have gl : g.length ≤ 5 := by
      have := List.all_eq_true.mp menu_small g (List.mem_of_getElem? eg)
      simpa using this
    have eL : ((gs ++ [g]).flatten) = gs.flatten ++ g := by simp
    obtain ⟨gs', t', s', A, B, C, D, E, F⟩ := rows_go hl sc o n can p q r S' k m (a + 1) (t + 1) (gs ++ [g]) (ov (.int a)) (by omega) (by omega) (by rw [List.length_append, List.length_cons, List.length_nil]; omega)
      (fun x hx => by
        rcases List.mem_append.mp hx with z | z
        · exact hg x z
        · rw [List.mem_singleton.mp z]; exact ig)
      (by rw [eL, List.length_append, List.length_append, List.length_cons, List.length_nil]; omega)
    refine ⟨gs', t', s', A, by rw [List.length_append, List.length_cons, List.length_nil] at B; omega, C, D, by omega, ?_⟩
    rw [← F]
    show forL _ _ _ _ (.int a :: rangeL (a + 1) m) _ _ _ = _
    unfold Kw
    rw [law_t8]
    rw [show (((menuL.map PV.list).length : Nat) : Int) = 45 from rfl, e, bnd_some]
    rw [sub_list eg, addE_any (by omega), eL]; rfl
theorem law_true (l : List Int) : fLaw [.list (l.map PV.int)] = some (.bool true) := by
  have hc : cut .none (some 24) (l.map PV.int) = (l.take 24).map PV.int := by
    unfold cut
    show ((l.map PV.int).drop 0).take ((bif Nat.ble 24 (l.map PV.int).length then 24 else (l.map PV.int).length) - 0) = _
    rw [List.drop_zero, List.map_take, List.length_map]
    cases c : Nat.ble 24 l.length
    · have : ¬ 24 ≤ l.length := fun h => by rw [Nat.ble_eq.mpr h] at c; cases c
      rw [cond_false, List.take_of_length_le (by simp), List.take_of_length_le (by rw [List.length_map]; omega)]
    · rfl
  have hl : (l.take 24).length ≤ 24 := by rw [List.length_take]; omega
  generalize l.take 24 = c at hc hl
  unfold fLaw
  rw [law_s0, menu_is, bnd_some, hc]
  show contS "law" 1 Kw .next _ [deck (c.map PV.int) 0] = _
  obtain ⟨so, lko, hso, e1⟩ := pen_ok (t := 0) hl (by omega) (by omega) []
  obtain ⟨sn, lkn, hsn, e2⟩ := pen_ok (t := 0 + 6) hl (by omega) (by omega) []
  obtain ⟨i3, a3, b3, e3⟩ := draw_ok (t := 0 + 6 + 6) (b := 3) hl (by omega) (by omega) (by decide) (by decide +kernel) []
  unfold Kw
  rw [law_s1, e1, bnd_some, e2, bnd_some, e3, bnd_some]
  show contS "law" 2 Kw .next (wρ _ _ (ov (pS so lko)) (ov (pS sn lkn)) (ov (.bool (W.Z.ltB 0 i3))) _ _ _ _ _ _) [deck (c.map PV.int) (0 + 6 + 6 + 1)] = _
  generalize W.Z.ltB 0 i3 = can
  generalize ht : (0 + 6 + 6 + 1 : Int) = t
  have ht0 : t = 13 := by rw [← ht]; rfl
  unfold Kw
  rw [law_s2]
  unfold pS
  rw [law_t3, tell2_ok can hso.a, tell2_ok can hso.b, tell2_ok can hso.c, push1 (by simp), bnd_some, law_t3, tell2_ok can hsn.a, tell2_ok can hsn.b, tell2_ok can hsn.c, push1 (by simp), bnd_some]
  show contS "law" 4 Kw .next (wρ _ _ (ov (pS so lko)) (ov (pS sn lkn)) (ov (.bool can)) (oc 1) _ _ .none .none .none) [deck (c.map PV.int) t, [.v (pS (tl can so) lko), .v (pS (tl can sn) lko)]] = _
  unfold Kw
  rw [law_s4]
  have to : fTold [pS so lko, .bool can] = some (pS (tl can so) 0) := told_ok _ _ can hso.a hso.b hso.c
  have tn : fTold [pS sn lkn, .bool can] = some (pS (tl can sn) 0) := told_ok _ _ can hsn.a hsn.b hsn.c
  have ho := hso.tl can
  have hn := hsn.tl can
  rw [sgr_ok to tn ho.w hn]
  -- the octets
  have oct : ∀ (p q : Option W) (sc m : Option W), (bnd (bif eqS (tl can so) (tl can sn) 0 then some (.bytes []) else some (.bytes ([27, 91] ++ txt (selS (tl can so) (tl can sn)) ++ [109]))) fun x =>
      contS "law" 5 Kw .next (wρ sc m (ov (pS so lko)) (ov (pS sn lkn)) (ov (.bool can)) (oc 1) p q (ov x) .none .none) [deck (c.map PV.int) t, [.v (pS (tl can so) lko), .v (pS (tl can sn) lko)]]) =
      contS "law" 6 Kw .next (wρ sc m (ov (pS so lko)) (ov (pS sn lkn)) (ov (.bool can)) (oc 1) p q (ov (.bytes (bif eqS (tl can so) (tl can sn) 0 then [] else ([27, 91] ++ txt (selS (tl can so) (tl can sn)) ++ [109])))) .none .none) [deck (c.map PV.int) t, [.v (pS (tl can so) lko), .v (pS (tl can sn) lko)]] := by
    intro p q sc m
    have hq : eqS (tl can so) (tl can sn) lko = eqS (tl can so) (tl can sn) 0 := by
      rw [Bool.eq_iff_iff, eqS_iff ho.w hn.w, eqS_iff ho.w hn.w]
    cases e : eqS (tl can so) (tl can sn) 0
    · have ne : tl can so ≠ tl can sn := fun h => by rw [(eqS_iff ho.w hn.w 0).mpr h] at e; cases e
      rw [cond_false, bnd_some]
      unfold Kw
      unfold pS
      rw [law_s5]
      show (bif eqS (tl can so) (tl can sn) lko then _ else _) = _
      rw [hq, e, cond_false, cut_head, cut_last, cut_mid, bnd_bnd]
      have r := sel_read ho.w hn ne lko
      have z := least_ok ho.w hn lko lko
      unfold pS at r z
      rw [show natsB [27, 91] [27, 91] = true from rfl, show natsB [109] [109] = true from rfl, Bool.not_true, cond_false, cond_false, r, bnd_some]
      have q1 := ne_self hn.w lko
      unfold pS at q1
      rw [q1, bnd_some, cond_false, z, bnd_some]
      have q2 : ((([27, 91] ++ txt (selS (tl can so) (tl can sn)) ++ [109]).length : Int) - 3) = ((txt (selS (tl can so) (tl can sn))).length : Int) := by
        simp only [List.length_append, List.length_cons, List.length_nil]; omega
      rw [q2, ne_int, bnd_some, cond_false, cond_false]
    · rw [cond_true, bnd_some]
      unfold Kw
      unfold pS
      rw [law_s5]
      show (bif eqS (tl can so) (tl can sn) lko then _ else _) = _
      rw [hq, e, cond_true]; rfl
  have oct' := oct
  unfold Kw at oct'
  rw [oct']
  unfold pS
  rw [law_s6]
  have tn2 : fTold [pS sn lkn, .bool true] = some (pS sn 0) := told_ok _ _ true hsn.a hsn.b hsn.c
  have hn2 : sn.Cf := hsn.tl true
  have po := penO_ok tn2 hn2
  have pr := penO_read hn2 lkn
  have pe := ne_self hsn.w lkn
  unfold pS at po pr pe
  rw [po, bnd_some, bnd_bnd]
  show bnd (bnd _ fun y => fRead [pn (fl plS.l plS.u) plS.a plS.b plS.c lkn, y]) _ = _
  rw [pr, bnd_some, pe, bnd_some, cond_false, law_s7]
  obtain ⟨m, a4, b4, e4⟩ := draw_ok (t := t) (b := 6) hl (by omega) (by omega) (by decide) (by decide +kernel) [[.v (pS (tl can so) lko), .v (pS (tl can sn) lko)]]
  unfold pS at e4
  obtain ⟨m, rfl⟩ := Int.eq_ofNat_of_zero_le a4
  rw [e4, bnd_some]
  show rangeK (.v (.int (m : Int))) _ = _
  have hm : tiny (m : Int) = true := by unfold tiny; rw [Nat.blt_eq]; omega
  show (bif tiny (m : Int) then _ else _) = _
  rw [hm, cond_true]
  show forL _ _ _ _ (rangeL 0 m) _ _ _ = _
  obtain ⟨gs, t', s', ig, gl, gf, g0, g1, F⟩ := rows_go hl (ov (.list (l.map PV.int))) (pS so lko) (pS sn lkn) can (ov (pS sn lkn)) (ov (.list [.int (told can sn.a), .int (told can sn.b), .int (told can sn.c)]))
    (ov (.bytes (bif eqS (tl can so) (tl can sn) 0 then [] else ([27, 91] ++ txt (selS (tl can so) (tl can sn)) ++ [109])))) [.v (pS (tl can so) lko), .v (pS (tl can sn) lko)] (contS "law" 9 Kw) m 0 (t + 1) [] .none (by omega) (by omega) (by simp only [List.length_nil]; omega)
    (fun _ h => by cases h) (by simp)
  simp only [List.length_nil] at gl
  unfold Kw at F
  unfold pS at F
  rw [List.flatten_nil] at F
  refine Eq.trans F ?_
  rw [law_s9]
  obtain ⟨i, a5, b5, e5⟩ := draw_ok (t := t') (b := 4) hl g0 (by omega) (by decide) (by decide +kernel) [[.v (pS (tl can so) lko), .v (pS (tl can sn) lko)]]
  obtain ⟨i, rfl⟩ := Int.eq_ofNat_of_zero_le a5
  obtain ⟨T, eT, hT⟩ := tails_ok i (by omega)
  have tl5 : T.length ≤ 5 := by
    have := List.all_eq_true.mp tails_small T (List.mem_of_getElem? eT)
    simpa using this
  unfold pS at e5
  rw [e5, bnd_some]
  unfold tailsV
  rw [sub_list eT, addE_any (by omega)]
  show contS "law" 10 _ .next (wρ _ _ _ _ _ _ _ _ _ (ov (.list (gs.flatten ++ T))) _) _ = _
  rw [law_s10]
  obtain ⟨z, za, zr⟩ := both_read ig (by omega) hT hso.w lko
  unfold pS at za zr
  rw [za, bnd_some, zr, bnd_some, eq_any, bnd_some]
end Og
end
section
open PySem PySem.Calls PyProof.Rows
namespace Og
theorem lookup_zip {α : Type} : ∀ {names : List Str} {vs : List α}, vs.length = names.length → ∀ x ∈ names, ((names.zip vs).lookup x).isSome = true
  | [], _, _, x, h => by cases h
  | y :: r, [], h, _, _ => by simp at h
  | y :: r, v :: vs, h, x, m => by
    rw [List.zip_cons_cons, List.lookup_cons]
    cases q : x == y with
    | true => rfl
    | false =>
      rcases List.mem_cons.mp m with e | m
      · subst e; simp at q
      · exact lookup_zip (by simpa using h) x m
theorem filterMap_same {α β : Type} {f g : α → Option β} : ∀ {l : List α}, (∀ x ∈ l, f x = g x) → l.filterMap f = l.filterMap g
  | [], _ => rfl
  | a :: r, h => by rw [List.filterMap_cons, List.filterMap_cons, h a (.head _), filterMap_same fun x m => h x (.tail _ m)]
theorem filter_zip {α : Type} : ∀ {names : List Str} {vs : List α}, vs.length = names.length → names.Nodup → names.filterMap (fun n => ((names.zip vs).lookup n).map (n, ·)) = names.zip vs
  | [], _, _, _ => rfl
  | y :: r, [], h, _ => by simp at h
  | y :: r, v :: vs, h, nd => by
    rw [List.nodup_cons] at nd
    rw [List.zip_cons_cons, List.filterMap_cons, List.lookup_cons]
    simp only [beq_self_eq_true, Option.map_some]
    congr 1
    refine Eq.trans ?_ (filter_zip (by simpa using h) nd.2)
    refine filterMap_same fun x m => ?_
    rw [List.lookup_cons]
    have : (x == y) = false := by
      cases q : x == y with
      | false => rfl
      | true => exact absurd (eq_of_beq q ▸ m) nd.1
    rw [this]
theorem forIn_same {l : List (Str × Value)} {s : List (Str × Value)} (h : ∀ p ∈ l, (s.lookup p.1).isSome = true) {k : Str × Value → List (Str × Value) → Sem (ForInStep (List (Str × Value)))} (hk : ∀ p ∈ l, k p s = pure (.yield s)) : forIn l s k = (pure s : Sem _) := by
  induction l with
  | nil => rfl
  | cons p r ih =>
    rw [List.forIn_cons, hk p (.head _), pure_bind]
    exact ih (fun q m => h q (.tail _ m)) fun q m => hk q (.tail _ m)
theorem binds_gen {fd : FuncData} {vs : List Value} {names : List Str} (hp : fd.params.posonlyargs = []) (hk : fd.params.kwonlyargs = []) (hv : fd.params.vararg = none) (hw : fd.params.kwarg = none) (hn : fd.params.args.map (·.arg) = names) (nd : names.Nodup) (hl : vs.length = names.length) :
    bindArgs fd ⟨vs, []⟩ = seqItems? fd.defaults >>= fun _ => pure (names.zip vs) := by
  unfold bindArgs
  simp only [hp, hk, hv, hw, hn, List.map_nil, List.nil_append, List.append_nil, List.forIn_nil, pure_bind, hl]
  congr 1
  funext o
  rw [if_neg (by simp)]
  have hm : ∀ k, List.filter (fun n => (List.lookup n (names.zip vs)).isNone) (List.take k names) = [] := fun k => by
    rw [List.filter_eq_nil_iff]
    intro x m
    have := lookup_zip hl x (List.mem_of_mem_take m)
    cases q : List.lookup x (names.zip vs) with
    | none => rw [q] at this; cases this
    | some _ => simp
  rw [hm, if_neg (by simp), forIn_same (fun p m => lookup_zip hl _ (List.mem_of_mem_drop (List.of_mem_zip m).1)) fun p m => by
    have := lookup_zip hl _ (List.mem_of_mem_drop (List.of_mem_zip m).1)
    cases q : List.lookup p.1 (names.zip vs) with
    | none => rw [q] at this; cases this
    | some _ => simp, pure_bind]
  simp only [filter_zip hl nd]
  rfl
theorem binds_none {s : Shared} {fd : FuncData} {vs : List Value} {names : List Str} (hp : fd.params.posonlyargs = []) (hk : fd.params.kwonlyargs = []) (hv : fd.params.vararg = none) (hw : fd.params.kwarg = none) (hn : fd.params.args.map (·.arg) = names) (nd : names.Nodup) (hl : vs.length = names.length)
    (hd : fd.defaults = .none) : BindsTo s fd ⟨vs, []⟩ (names.zip vs) := .of_eq (by rw [binds_gen hp hk hv hw hn nd hl, hd]; rfl)
theorem binds_dflt {s : Shared} {fd : FuncData} {vs : List Value} {names : List Str} {t : Addr} {o : Obj} {items : Array Value} {n : Nat} (hp : fd.params.posonlyargs = []) (hk : fd.params.kwonlyargs = []) (hv : fd.params.vararg = none) (hw : fd.params.kwarg = none) (hn : fd.params.args.map (·.arg) = names) (nd : names.Nodup) (hl : vs.length = names.length)
    (hd : fd.defaults = .ref t) (ho : s.heap.get? t = some o) (hs : o.data = .seq items n) : BindsTo s fd ⟨vs, []⟩ (names.zip vs) := .of_defaults hd ho hs (binds_gen hp hk hv hw hn nd hl) rfl

-- the defs, as they lie
noncomputable def nodupB : List Str → Bool
  | [] => true
  | x :: r => bif r.any (strB x) then false else nodupB r
theorem nodupB_ok : ∀ {l : List Str}, nodupB l = true → l.Nodup
  | [], _ => .nil
  | x :: r, h => by
    unfold nodupB at h
    cases q : r.any (strB x) with
    | true => rw [q] at h; cases h
    | false =>
      rw [q] at h
      refine List.nodup_cons.mpr ⟨fun m => ?_, nodupB_ok h⟩
      have := List.any_eq_false.mp q x m
      exact this ((strB_iff x x).mpr rfl)
noncomputable def okPar (p : Arguments) : Bool := match p.posonlyargs, p.kwonlyargs, p.vararg, p.kwarg with
  | [], [], .none, .none => true
  | _, _, _, _ => false
noncomputable def okRec (d : DefRec) : Bool := bif okPar d.params then bif isFun d.scope.kind then bif d.scope.isCoroutine then false else bif d.scope.isGenerator then false else
  bif nodupB (d.params.args.map (·.arg)) then (d.params.args.map (·.arg)).all fun p => match kindIn d.scope.names p with | some .local => true | some .cell => true | _ => false else false else false else false
noncomputable def seenAt (l : List DefRec) (x : String) : Option (List Str × List Stmt × List (Str × NameKind) × Bool) := (l.find? fun d => strB d.name (Str.ofString x)).map fun d => (d.params.args.map (·.arg), d.body, d.scope.names, okRec d)
noncomputable def plainNames : List String := ["decimal_octets", "pen_with", "under_of", "flags_with_under", "is_direct", "rgb_of", "direct_colour", "part_octets",
  "params_octets", "pen_bits", "pen_plain_changed", "pen_colour_of", "pen_sub_changed", "pen_told_apart", "apply_sgr",
  "sgr_colour_params", "sgr_bit_params", "sgr_under_params", "sgr_changes", "pen_told", "pen_octets", "first_sixteen",
  "rgb_number", "palette_rgb", "colour_distance", "nearest_level", "nearest_of_256", "_law_draw", "_law_bits",
  "_law_pen", "_law_coloured", "_law_flagged", "_law_colour", "_law_read", "_law_params", "_law_words", "_law_changes",
  "_law_least", "_law_menu", "law"]
theorem seen_plain : plainNames.map (seenAt (recsOf view)) = plainNames.map fun x => some ((P x).ps, (P x).body, (P x).sc, true) := by kernel_rfl!
theorem seen_dflt : ["sgr_params", "sgr_octets"].map (seenAt ddefs) = ["sgr_params", "sgr_octets"].map fun x => some ((P x).ps, (P x).body, (P x).sc, true) := by kernel_rfl!
theorem seen_rec {l : List DefRec} {x : String} {a : List Str} {b : List Stmt} {c : List (Str × NameKind)} (h : seenAt l x = some (a, b, c, true)) : ∃ d ∈ l, d.name = Str.ofString x ∧ d.params.args.map (·.arg) = a ∧ d.body = b ∧ d.scope.names = c ∧
    d.params.posonlyargs = [] ∧ d.params.kwonlyargs = [] ∧ d.params.vararg = .none ∧ d.params.kwarg = .none ∧ a.Nodup ∧ d.scope.kind = .function ∧ d.scope.isCoroutine = false ∧ d.scope.isGenerator = false ∧ ∀ p ∈ a, c.lookup p = some .local ∨ c.lookup p = some .cell := by
  unfold seenAt at h
  obtain ⟨d, h1, h2⟩ := Option.map_eq_some_iff.mp h
  have hn : d.name = Str.ofString x := (strB_iff _ _).mp (List.find?_some (p := fun d : DefRec => strB d.name (Str.ofString x)) h1)
  simp only [Prod.mk.injEq] at h2
  obtain ⟨rfl, rfl, rfl, ok⟩ := h2
  unfold okRec at ok
  obtain ⟨o1, ok⟩ := bif_t ok
  obtain ⟨o2, ok⟩ := bif_t ok
  refine ⟨d, List.mem_of_find?_eq_some h1, hn, rfl, rfl, rfl, ?_⟩
  cases q1 : d.scope.isCoroutine with
  | true => rw [q1] at ok; cases ok
  | false =>
  rw [q1] at ok
  dsimp only [cond_false] at ok
  cases q2 : d.scope.isGenerator with
  | true => rw [q2] at ok; cases ok
  | false =>
  rw [q2] at ok
  dsimp only [cond_false] at ok
  obtain ⟨o3, o4⟩ := bif_t ok
  have hk : d.scope.kind = .function := by
    cases z : d.scope.kind <;> rw [z] at o2 <;> first | rfl | cases o2
  have hp : d.params.posonlyargs = [] ∧ d.params.kwonlyargs = [] ∧ d.params.vararg = .none ∧ d.params.kwarg = .none := by
    unfold okPar at o1
    split at o1
    · exact ⟨by assumption, by assumption, by assumption, by assumption⟩
    · cases o1
  refine ⟨hp.1, hp.2.1, hp.2.2.1, hp.2.2.2, nodupB_ok o3, hk, rfl, rfl, fun p m => ?_⟩
  have := List.all_eq_true.mp o4 p m
  rw [kindIn_eq] at this
  split at this
  · exact .inl (by assumption)
  · exact .inr (by assumption)
  · cases this
section
variable {prog : Program} {w : World} {B : Bs prog w}
theorem defAt_plain {loose' : List Str} {mean : ExcName → Option Value} {mb : Str → Option Value} (T : Top view loose' mean B.mg mb B.h₀) {x : String} (hx : x ∈ plainNames) : DefAt B (Str.ofString x) (P x).ps (P x).body (P x).sc := by
  obtain ⟨d, hd, e1, e2, e3, e4, p1, p2, p3, p4, nd, k1, k2, k3, pk⟩ := seen_rec (List.map_inj_left.mp seen_plain x hx)
  obtain ⟨a, o, pm, code, doc, h1, h2, h3, h4⟩ := T.fn d hd
  exact ⟨a, o, _, e1 ▸ h1, h2, h3, { gl := rfl, bl := rfl, cl := rfl, kd := k1, co := k2, ge := k3, bd := by rw [← e3]; rfl, cd := h4, nm := e4, pk := pk, bi := fun s vs _ hl => binds_none p1 p2 p3 p4 e2 nd hl rfl }⟩
theorem defAt_dflt (T : Says B.h₀) {x : String} (hx : x ∈ ["sgr_params", "sgr_octets"]) : DefAt B (Str.ofString x) (P x).ps (P x).body (P x).sc := by
  obtain ⟨d, hd, e1, e2, e3, e4, p1, p2, p3, p4, nd, k1, k2, k3, pk⟩ := seen_rec (List.map_inj_left.mp seen_dflt x hx)
  obtain ⟨m, hm, T⟩ := T
  obtain ⟨a, o, pm, code, doc, t, ot, items, n, h1, h2, h3, h4, h5, h6, h7⟩ := T d hd
  have : m = B.mg := hm.eq_nsMap.trans B.hg.eq_nsMap.symm
  subst this
  exact ⟨a, o, _, e1 ▸ h1, h2, h3, { gl := rfl, bl := rfl, cl := rfl, kd := k1, co := k2, ge := k3, bd := by rw [← e3]; rfl, cd := h4, nm := e4, pk := pk, bi := fun s vs hb hl => binds_dflt p1 p2 p3 p4 e2 nd hl rfl (hb _ _ h5) h6 }⟩
end
end Og
end
section
open PySem PySem.Calls PyProof.Rows PySem.W
namespace Og
noncomputable def bnames : List String := ["len", "abs", "bytes", "list", "tuple", "str", "max", "min", "sum", "range", "zip", "enumerate"]
theorem bcode_go {x : Str} {y : String} {r m : Nat} (h : (bif strB x (Str.ofString y) then m else r) ≠ 0) : x = Str.ofString y ∨ r ≠ 0 := by
  cases q : strB x (Str.ofString y) with
  | true => exact .inl ((strB_iff _ _).mp q)
  | false => rw [q] at h; exact .inr h
theorem bcode_in {x : Str} (h : bcode x ≠ 0) : ∃ b ∈ bnames, x = Str.ofString b := by
  have l : ∀ {b : String} {r : List String} {p : Prop}, (x = Str.ofString b ∨ p) → (p → ∃ c ∈ r, x = Str.ofString c) → ∃ c ∈ b :: r, x = Str.ofString c := fun h k =>
    h.elim (fun e => ⟨_, .head _, e⟩) fun h => let ⟨c, m, e⟩ := k h; ⟨c, .tail _ m, e⟩
  exact l (bcode_go h) fun h => l (bcode_go h) fun h => l (bcode_go h) fun h => l (bcode_go h) fun h => l (bcode_go h) fun h => l (bcode_go h) fun h =>
    l (bcode_go h) fun h => l (bcode_go h) fun h => l (bcode_go h) fun h => l (bcode_go h) fun h => l (bcode_go h) fun h => l (bcode_go h) fun h => absurd rfl h
noncomputable def offB (l : List Str) (x : Str) : Bool := bif l.any (strB x) then false else true
theorem offB_ok {l : List Str} {x : Str} (h : offB l x = true) : x ∉ l := fun m => by
  unfold offB at h
  cases q : l.any (strB x) with
  | true => rw [q] at h; cases h
  | false => exact List.any_eq_false.mp q x m ((strB_iff x x).mpr rfl)
theorem bi_off : (bnames.all fun b => bif offB startupNames (Str.ofString b) then bif offB (looseW view loose) (Str.ofString b) then bif offB ((recsOf view).map (·.name)) (Str.ofString b) then
    bif offB ((litsOf view).map (·.1)) (Str.ofString b) then bif offB ((clssOf view (looseW view loose)).map (·.name)) (Str.ofString b) then offB ["__name__"] (Str.ofString b) else false else false else false else false else false) = true := by kernel_rfl!
theorem bi_boot : (bnames.map fun b => bootBuiltins (Str.ofString b)) = bnames.map fun b => some (bval (bcode (Str.ofString b))) := by kernel_rfl!

noncomputable def scal : List (String × Int) := [("BOLD", 1), ("FAINT", 2), ("ITALIC", 4), ("BLINK", 8), ("FAST", 16), ("INVERSE", 32), ("HIDDEN", 64), ("STRUCK", 128), ("OVERLINE", 256),
   ("UNDER_SHIFT", 9), ("NO_COLOUR", -1), ("DIRECT", 16777216), ("FLAGS", 0), ("FORE", 1), ("BACK", 2), ("UNDER", 3), ("LINK", 4), ("SGR_RESET", 0), ("SGR_FORE", 38), ("SGR_BACK", 48), ("SGR_UNDER", 58),
   ("FIRST_BRIGHT", 8), ("FIRST_CUBE", 16), ("FIRST_GRAY", 232), ("MOST_COLOUR", 255)]
theorem scal_val : (scal.map fun p => valOf view (Str.ofString p.1)) = scal.map fun p => some (PyData.int p.2) := by kernel_rfl!
theorem cube_val : (wlitsOf view).map (fun c => (c.1, c.2)) = [(Str.ofString "CUBE_LEVELS", WData.tuple ([0, 95, 135, 175, 215, 255].map WData.int))] := by kernel_rfl!

theorem reads_ints {R : WRecords} {cl : Str → Option Addr} {h : Heap} {Av : Addr → Prop} {prog : Program} {w : World} : ∀ {ns : List Int} {vs : List Value} {as : List Addr}, ReadsAllW R cl h vs (ns.map WData.int) as → All2 (Rep prog w Av h) vs (ns.map PV.int)
  | [], _, _, r => by cases r; exact .nil
  | n :: ns, _, _, r => by
    cases r with
    | cons a r =>
      cases a
      exact .cons (.int _ _) (reads_ints r)
theorem reads_tup {R : WRecords} {cl : Str → Option Addr} {h : Heap} {Av : Addr → Prop} {prog : Program} {w : World} {ns : List Int} {v : Value} {as : List Addr} (hz : ns.length ≤ lim) (r : ReadsW R cl h v (.tuple (ns.map WData.int)) as) (ha : ∀ a, v = .ref a → ¬ Av a) : Rep prog w Av h v (.tup (ns.map PV.int)) := by
  cases r with
  | tuple ho hc hd r =>
    have X := reads_ints (prog := prog) (w := w) (Av := Av) r
    have := X.length
    rw [Array.length_toList, List.length_map] at this
    exact .tup (ha _ rfl) ho hc hd (by omega) (RepL.of X)

noncomputable def AllP {α : Type} (Q : α → Prop) : List α → Prop
  | [] => True
  | a :: r => Q a ∧ AllP Q r
theorem AllP.mem {α : Type} {Q : α → Prop} : ∀ {l : List α}, AllP Q l → ∀ a ∈ l, Q a
  | a :: r, h, b, m => by
    rcases List.mem_cons.mp m with e | m
    · subst e; exact h.1
    · exact AllP.mem h.2 b m
section
variable {prog : Program} {w : World}
/-- the call's own ground -/
noncomputable def mkBs {mean : ExcName → Option Value} {mg mb : Str → Option Value} {h : Heap} (T : Top view (looseW view loose) mean mg mb h) : Bs prog w where
  h₀ := h
  mg := mg
  mb := mb
  hg := T.g
  hb := T.b
  lim := T.nolimit
  bi := fun x hx => by
    obtain ⟨b, hb, rfl⟩ := bcode_in hx
    have e := List.all_eq_true.mp bi_off b hb
    obtain ⟨e1, e⟩ := bif_t e
    obtain ⟨e2, e⟩ := bif_t e
    obtain ⟨e3, e⟩ := bif_t e
    obtain ⟨e4, e⟩ := bif_t e
    obtain ⟨e5, e6⟩ := bif_t e
    refine ⟨T.free _ (offB_ok e1) (offB_ok e2) (offB_ok e3) (offB_ok e4) (offB_ok e5), ?_⟩
    rw [T.builtins _ fun z => offB_ok e6 (by rw [z]; exact .head _)]
    exact List.map_inj_left.mp bi_boot b hb

structure Gnd (B : Bs prog w) : Prop where
  c : ∀ p ∈ consts, ∃ v, B.mg (Str.ofString p.1) = some v ∧ Rep prog w (fun _ => False) B.h₀ v p.2
  d : ∀ x ∈ plainNames, DefAt B (Str.ofString x) (P x).ps (P x).body (P x).sc
  e : ∀ x ∈ ["sgr_params", "sgr_octets"], DefAt B (Str.ofString x) (P x).ps (P x).body (P x).sc

theorem tabS_ok {α : Type} : ∀ {l : List (String × α)} {x : Str} {a : α}, tabS l x = some a → ∃ p ∈ l, x = Str.ofString p.1 ∧ p.2 = a
  | [], _, _, h => by cases h
  | (y, b) :: r, x, a, h => by
    unfold tabS at h
    cases q : strB x (Str.ofString y) with
    | true =>
      rw [q] at h
      cases h
      exact ⟨_, .head _, (strB_iff _ _).mp q, rfl⟩
    | false =>
      rw [q] at h
      obtain ⟨p, m, e⟩ := tabS_ok h
      exact ⟨p, .tail _ m, e⟩

theorem gnd {mean : ExcName → Option Value} {mg mb : Str → Option Value} {h : Heap} (T : Top view (looseW view loose) mean mg mb h) (D : TopW view mg h) (X : XL view lv mg h) (Y : Says h) : Gnd (mkBs (prog := prog) (w := w) T) where
  d := fun x hx => defAt_plain (B := mkBs T) T hx
  e := fun x hx => defAt_dflt (B := mkBs T) Y hx
  c := by
    have sc : ∀ p ∈ scal, ∃ v, mg (Str.ofString p.1) = some v ∧ Rep prog w (fun _ => False) h v (.int p.2) := fun p hp => by
      obtain ⟨v, h1, h2⟩ := T.const _ _ (List.map_inj_left.mp scal_val p hp)
      refine ⟨v, h1, ?_⟩
      cases h2 h
      exact .int _ _
    have um : ∃ v, mg (Str.ofString "UNDER_MASK") = some v ∧ Rep prog w (fun _ => False) h v (.int 3584) := by
      obtain ⟨v, h1, h2⟩ := X.2.val (Str.ofString "UNDER_MASK", .int 3584) (.head _)
      refine ⟨v, h1, ?_⟩
      cases h2
      exact .int _ _
    have pl : ∃ v, mg (Str.ofString "PLAIN") = some v ∧ Rep prog w (fun _ => False) h v (.tup [.int 0, .int (-1), .int (-1), .int (-1), .int 0]) := by
      obtain ⟨v, h1, h2⟩ := X.2.val (Str.ofString "PLAIN", .tuple [.int 0, .int (-1), .int (-1), .int (-1), .int 0]) (.tail _ (.tail _ (.head _)))
      exact ⟨v, h1, reads_tup (ns := [0, -1, -1, -1, 0]) (by decide) h2 fun _ _ z => z⟩
    have cu : ∃ v, mg (Str.ofString "CUBE_LEVELS") = some v ∧ Rep prog w (fun _ => False) h v (.tup [.int 0, .int 95, .int 135, .int 175, .int 215, .int 255]) := by
      have m : (Str.ofString "CUBE_LEVELS", WData.tuple ([0, 95, 135, 175, 215, 255].map WData.int)) ∈ wlitsOf view := by
        have : (wlitsOf view).map (fun c => (c.1, c.2)) = wlitsOf view := by simp
        rw [← this, cube_val]; exact .head _
      obtain ⟨v, h1, h2⟩ := D.lits _ m
      exact ⟨v, h1, reads_tup (ns := [0, 95, 135, 175, 215, 255]) (by decide) h2 fun _ _ z => z⟩
    have sc : ∀ {n : String} {i : Int}, (n, i) ∈ scal → ∃ v, mg (Str.ofString n) = some v ∧ Rep prog w (fun _ => False) h v (.int i) := fun m => sc _ m
    exact AllP.mem (Q := fun p : String × PV => ∃ v, mg (Str.ofString p.1) = some v ∧ Rep prog w (fun _ => False) h v p.2) (l := consts) ⟨sc (by decide +kernel), sc (by decide +kernel), sc (by decide +kernel), sc (by decide +kernel), sc (by decide +kernel), sc (by decide +kernel), sc (by decide +kernel), sc (by decide +kernel), sc (by decide +kernel), sc (by decide +kernel), um, sc (by decide +kernel), sc (by decide +kernel), pl, sc (by decide +kernel), sc (by decide +kernel), sc (by decide +kernel), sc (by decide +kernel), sc (by decide +kernel), sc (by decide +kernel), sc (by decide +kernel), sc (by decide +kernel), sc (by decide +kernel), sc (by decide +kernel), sc (by decide +kernel), sc (by decide +kernel), sc (by decide +kernel), cu, trivial⟩

theorem FnOk.up {B : Bs prog w} {n m : Nat} {f : Str} {g : List PV → Option PV} (le : n ≤ m) (F : FnOk B n f g) : FnOk B m f g := by
  obtain ⟨a, o, fd, h1, h2, h3, F⟩ := F
  exact ⟨a, o, fd, h1, h2, h3, fun A s Av vs ds d R' AO => F A s Av vs ds d R' (AO.less le)⟩
theorem FcOk.up {B : Bs prog w} {n m : Nat} {f : Str} {g : List W → Sto → Option (PV × Sto)} (le : n ≤ m) (F : FcOk B n f g) : FcOk B m f g := by
  obtain ⟨a, o, fd, h1, h2, h3, F⟩ := F
  exact ⟨a, o, fd, h1, h2, h3, fun A s Av own vs ws σ σ' d R' AO => F A s Av own vs ws σ σ' d R' (AO.less le)⟩
theorem kok {B : Bs prog w} {n : Nat} (G : Gnd B) (x : String) {fn : List (String × Fn)} {fc : List (String × Fc)} (h1 : AllP (fun p => FnOk B n (Str.ofString p.1) p.2) fn) (h2 : AllP (fun p => FcOk B n (Str.ofString p.1) p.2) fc) : KOk B n (mk x fn fc) where
  gl := fun x d h _ => by
    obtain ⟨p, m, rfl, rfl⟩ := tabS_ok (show tabS consts x = some d from h)
    exact G.c p m
  fn := fun x g h => by
    obtain ⟨p, m, rfl, rfl⟩ := tabS_ok (show tabS fn x = some g from h)
    exact h1.mem p m
  fc := fun x g h => by
    obtain ⟨p, m, rfl, rfl⟩ := tabS_ok (show tabS fc x = some g from h)
    exact h2.mem p m
theorem fnG {B : Bs prog w} {n : Nat} (G : Gnd B) {x : String} (hx : x ∈ plainNames) {fn : List (String × Fn)} {fc : List (String × Fc)} (h1 : AllP (fun p => FnOk B n (Str.ofString p.1) p.2) fn) (h2 : AllP (fun p => FcOk B n (Str.ofString p.1) p.2) fc) : FnOk B (n + 1) (Str.ofString x) (callF x fn fc) :=
  fn_ok (K := mk x fn fc) (G.d x hx) (kok G x h1 h2) fun _ _ h => h
theorem fnE {B : Bs prog w} {n : Nat} (G : Gnd B) {x : String} (hx : x ∈ ["sgr_params", "sgr_octets"]) {fn : List (String × Fn)} {fc : List (String × Fc)} (h1 : AllP (fun p => FnOk B n (Str.ofString p.1) p.2) fn) (h2 : AllP (fun p => FcOk B n (Str.ofString p.1) p.2) fc) : FnOk B (n + 1) (Str.ofString x) (callF x fn fc) :=
  fn_ok (K := mk x fn fc) (G.e x hx) (kok G x h1 h2) fun _ _ h => h
theorem fcG {B : Bs prog w} {n : Nat} (G : Gnd B) {x : String} (hx : x ∈ plainNames) {fn : List (String × Fn)} {fc : List (String × Fc)} (h1 : AllP (fun p => FnOk B n (Str.ofString p.1) p.2) fn) (h2 : AllP (fun p => FcOk B n (Str.ofString p.1) p.2) fc) : FcOk B (n + 1) (Str.ofString x) (callC x fn fc) :=
  fc_ok (K := mk x fn fc) (G.d x hx) (kok G x h1 h2) fun _ _ _ h => h
end
end Og
end
section
open PySem PySem.Calls PyProof.Rows PySem.W
namespace Og
section
variable {prog : Program} {w : World} {B : Bs prog w}
theorem k_fDec (G : Gnd B) : FnOk B 1 (Str.ofString "decimal_octets") fDec := fnG (n := 0) G (by decide +kernel) trivial trivial
theorem k_fPenWith (G : Gnd B) : FnOk B 1 (Str.ofString "pen_with") fPenWith := fnG (n := 0) G (by decide +kernel) trivial trivial
theorem k_fUnderOf (G : Gnd B) : FnOk B 1 (Str.ofString "under_of") fUnderOf := fnG (n := 0) G (by decide +kernel) trivial trivial
theorem k_fFlagsU (G : Gnd B) : FnOk B 1 (Str.ofString "flags_with_under") fFlagsU := fnG (n := 0) G (by decide +kernel) trivial trivial
theorem k_fIsDirect (G : Gnd B) : FnOk B 1 (Str.ofString "is_direct") fIsDirect := fnG (n := 0) G (by decide +kernel) trivial trivial
theorem k_fRgbOf (G : Gnd B) : FnOk B 1 (Str.ofString "rgb_of") fRgbOf := fnG (n := 0) G (by decide +kernel) trivial trivial
theorem k_fDirect (G : Gnd B) : FnOk B 1 (Str.ofString "direct_colour") fDirect := fnG (n := 0) G (by decide +kernel) trivial trivial
theorem k_fPart (G : Gnd B) : FnOk B 2 (Str.ofString "part_octets") fPart := fnG (n := 1) G (by decide +kernel) ⟨(k_fDec G).up (by decide), trivial⟩ trivial
theorem k_fParams (G : Gnd B) : FnOk B 3 (Str.ofString "params_octets") fParams := fnG (n := 2) G (by decide +kernel) ⟨(k_fPart G).up (by decide), trivial⟩ trivial
theorem k_fBits (G : Gnd B) : FnOk B 1 (Str.ofString "pen_bits") fBits := fnG (n := 0) G (by decide +kernel) trivial trivial
theorem k_fPlain (G : Gnd B) : FnOk B 2 (Str.ofString "pen_plain_changed") fPlain := fnG (n := 1) G (by decide +kernel) ⟨(k_fPenWith G).up (by decide), ⟨(k_fFlagsU G).up (by decide), ⟨(k_fBits G).up (by decide), trivial⟩⟩⟩ trivial
theorem k_fColour (G : Gnd B) : FnOk B 2 (Str.ofString "pen_colour_of") fColour := fnG (n := 1) G (by decide +kernel) ⟨(k_fDirect G).up (by decide), trivial⟩ trivial
theorem k_fSub (G : Gnd B) : FnOk B 3 (Str.ofString "pen_sub_changed") fSub := fnG (n := 2) G (by decide +kernel) ⟨(k_fPenWith G).up (by decide), ⟨(k_fFlagsU G).up (by decide), ⟨(k_fColour G).up (by decide), trivial⟩⟩⟩ trivial
theorem k_fApart (G : Gnd B) : FnOk B 3 (Str.ofString "pen_told_apart") fApart := fnG (n := 2) G (by decide +kernel) ⟨(k_fColour G).up (by decide), trivial⟩ trivial
theorem k_fApply (G : Gnd B) : FnOk B 4 (Str.ofString "apply_sgr") fApply := fnG (n := 3) G (by decide +kernel) ⟨(k_fSub G).up (by decide), ⟨(k_fApart G).up (by decide), ⟨(k_fPenWith G).up (by decide), ⟨(k_fPlain G).up (by decide), trivial⟩⟩⟩⟩ trivial
theorem k_fColP (G : Gnd B) : FnOk B 2 (Str.ofString "sgr_colour_params") fColP := fnG (n := 1) G (by decide +kernel) ⟨(k_fIsDirect G).up (by decide), ⟨(k_fRgbOf G).up (by decide), trivial⟩⟩ trivial
theorem k_fBitP (G : Gnd B) : FnOk B 2 (Str.ofString "sgr_bit_params") fBitP := fnG (n := 1) G (by decide +kernel) ⟨(k_fBits G).up (by decide), trivial⟩ trivial
theorem k_fUndP (G : Gnd B) : FnOk B 1 (Str.ofString "sgr_under_params") fUndP := fnG (n := 0) G (by decide +kernel) trivial trivial
theorem k_fChg (G : Gnd B) : FnOk B 3 (Str.ofString "sgr_changes") fChg := fnG (n := 2) G (by decide +kernel) ⟨(k_fBitP G).up (by decide), ⟨(k_fUndP G).up (by decide), ⟨(k_fUnderOf G).up (by decide), ⟨(k_fColP G).up (by decide), trivial⟩⟩⟩⟩ trivial
theorem k_fSixteen (G : Gnd B) : FnOk B 1 (Str.ofString "first_sixteen") fSixteen := fnG (n := 0) G (by decide +kernel) trivial trivial
theorem k_fRgbN (G : Gnd B) : FnOk B 1 (Str.ofString "rgb_number") fRgbN := fnG (n := 0) G (by decide +kernel) trivial trivial
theorem k_fPal (G : Gnd B) : FnOk B 2 (Str.ofString "palette_rgb") fPal := fnG (n := 1) G (by decide +kernel) ⟨(k_fSixteen G).up (by decide), ⟨(k_fRgbN G).up (by decide), trivial⟩⟩ trivial
theorem k_fDist (G : Gnd B) : FnOk B 2 (Str.ofString "colour_distance") fDist := fnG (n := 1) G (by decide +kernel) ⟨(k_fRgbOf G).up (by decide), trivial⟩ trivial
theorem k_fLevel (G : Gnd B) : FnOk B 1 (Str.ofString "nearest_level") fLevel := fnG (n := 0) G (by decide +kernel) trivial trivial
theorem k_fNear (G : Gnd B) : FnOk B 3 (Str.ofString "nearest_of_256") fNear := fnG (n := 2) G (by decide +kernel) ⟨(k_fRgbOf G).up (by decide), ⟨(k_fLevel G).up (by decide), ⟨(k_fDist G).up (by decide), ⟨(k_fPal G).up (by decide), trivial⟩⟩⟩⟩ trivial
theorem k_fTold (G : Gnd B) : FnOk B 4 (Str.ofString "pen_told") fTold := fnG (n := 3) G (by decide +kernel) ⟨(k_fIsDirect G).up (by decide), ⟨(k_fNear G).up (by decide), trivial⟩⟩ trivial
theorem k_fSgrP (G : Gnd B) : FnOk B 5 (Str.ofString "sgr_params") fSgrP := fnE (n := 4) G (by decide +kernel) ⟨(k_fTold G).up (by decide), ⟨(k_fChg G).up (by decide), ⟨(k_fParams G).up (by decide), trivial⟩⟩⟩ trivial
theorem k_fSgr (G : Gnd B) : FnOk B 6 (Str.ofString "sgr_octets") fSgr := fnE (n := 5) G (by decide +kernel) ⟨(k_fSgrP G).up (by decide), ⟨(k_fParams G).up (by decide), trivial⟩⟩ trivial
theorem k_fPenO (G : Gnd B) : FnOk B 5 (Str.ofString "pen_octets") fPenO := fnG (n := 4) G (by decide +kernel) ⟨(k_fChg G).up (by decide), ⟨(k_fTold G).up (by decide), ⟨(k_fParams G).up (by decide), trivial⟩⟩⟩ trivial
theorem k_cDraw (G : Gnd B) : FcOk B 1 (Str.ofString "_law_draw") cDraw := fcG (n := 0) G (by decide +kernel) trivial trivial
theorem k_fLBits (G : Gnd B) : FnOk B 1 (Str.ofString "_law_bits") fLBits := fnG (n := 0) G (by decide +kernel) trivial trivial
theorem k_cPen (G : Gnd B) : FcOk B 2 (Str.ofString "_law_pen") cPen := fcG (n := 1) G (by decide +kernel) trivial ⟨(k_cDraw G).up (by decide), trivial⟩
theorem k_fLCol (G : Gnd B) : FnOk B 1 (Str.ofString "_law_coloured") fLCol := fnG (n := 0) G (by decide +kernel) trivial trivial
theorem k_fFlagged (G : Gnd B) : FnOk B 2 (Str.ofString "_law_flagged") fFlagged := fnG (n := 1) G (by decide +kernel) ⟨(k_fLBits G).up (by decide), ⟨(k_fLCol G).up (by decide), trivial⟩⟩ trivial
theorem k_fLColour (G : Gnd B) : FnOk B 1 (Str.ofString "_law_colour") fLColour := fnG (n := 0) G (by decide +kernel) trivial trivial
theorem k_fRead (G : Gnd B) : FnOk B 3 (Str.ofString "_law_read") fRead := fnG (n := 2) G (by decide +kernel) ⟨(k_fLColour G).up (by decide), ⟨(k_fLCol G).up (by decide), ⟨(k_fFlagged G).up (by decide), trivial⟩⟩⟩ trivial
theorem k_fLParams (G : Gnd B) : FnOk B 1 (Str.ofString "_law_params") fLParams := fnG (n := 0) G (by decide +kernel) trivial trivial
theorem k_fWords (G : Gnd B) : FnOk B 1 (Str.ofString "_law_words") fWords := fnG (n := 0) G (by decide +kernel) trivial trivial
theorem k_fLChg (G : Gnd B) : FnOk B 2 (Str.ofString "_law_changes") fLChg := fnG (n := 1) G (by decide +kernel) ⟨(k_fLBits G).up (by decide), ⟨(k_fWords G).up (by decide), trivial⟩⟩ trivial
theorem k_fLeast (G : Gnd B) : FnOk B 3 (Str.ofString "_law_least") fLeast := fnG (n := 2) G (by decide +kernel) ⟨(k_fLChg G).up (by decide), trivial⟩ trivial
theorem k_fMenu (G : Gnd B) : FnOk B 1 (Str.ofString "_law_menu") fMenu := fnG (n := 0) G (by decide +kernel) trivial trivial
theorem k_fLaw (G : Gnd B) : FnOk B 7 (Str.ofString "law") fLaw := fnG (n := 6) G (by decide +kernel) ⟨(k_fMenu G).up (by decide), ⟨(k_fNear G).up (by decide), ⟨(k_fSgr G).up (by decide), ⟨(k_fRead G).up (by decide), ⟨(k_fLParams G).up (by decide), ⟨(k_fLeast G).up (by decide), ⟨(k_fPenO G).up (by decide), ⟨(k_fApply G).up (by decide), trivial⟩⟩⟩⟩⟩⟩⟩⟩ ⟨(k_cPen G).up (by decide), ⟨(k_cDraw G).up (by decide), trivial⟩⟩
end
end Og
end
section
open PySem PySem.Calls PyProof.Rows PySem.W
namespace Og
theorem items_ints : ∀ {xs : List WData}, WShape.hasItems [] xs .int = true → ∃ ns : List Int, xs = ns.map WData.int
  | [], _ => ⟨[], rfl⟩
  | x :: xs, h => by
    obtain ⟨h1, h2⟩ := Bool.and_eq_true_iff.mp (show (WShape.has [] x .int && WShape.hasItems [] xs .int) = true from h)
    obtain ⟨i, rfl⟩ := hasW_int h1
    obtain ⟨ns, rfl⟩ := items_ints h2
    exact ⟨i :: ns, rfl⟩
theorem pre_args {args : List WData} (h : PySem.Challenge.rw_og0253_01.row.toRowW.claim.pre args = true) : ∃ ns : List Int, args = [.list (ns.map WData.int)] ∧ ns.length ≤ 63 := by
  obtain ⟨h1, h2⟩ := pre_splitW h
  obtain ⟨d, r, rfl, h3, h4⟩ := hasAllW_cons (R := []) (e := .list .int) (es := []) h1
  obtain rfl := hasAllW_nil h4
  obtain ⟨xs, rfl, h5⟩ := hasW_list h3
  obtain ⟨ns, rfl⟩ := items_ints h5
  refine ⟨ns, rfl, ?_⟩
  by_cases q : ns.length ≤ 63
  · exact q
  · exfalso
    have h2 : (WTm.and (.not (.lt (.lit (.int 63)) (.len (.arg 0)))) (.lit (.bool true))).holds [] { args := [.list (ns.map WData.int)] } = true := h2
    have e : less? (.int 63) (.int ((ns.map WData.int).length : Nat)) = some true := by
      rw [List.length_map]
      show some (decide ((63 : Int) < (ns.length : Nat))) = some true
      rw [decide_eq_true (by omega)]
    have h3 : ((match (match (match (less? (WData.int 63) (WData.int ((ns.map WData.int).length : Nat))).map WData.bool with | some (WData.bool b) => some (WData.bool (!b)) | _ => none) with | some (WData.bool false) => some (WData.bool false) | some (WData.bool true) => some (WData.bool true) | _ => none) with | some (WData.bool true) => true | _ => false) : Bool) = true := h2
    rw [e] at h3
    cases h3
theorem post_true {args ds : List WData} : PySem.Challenge.rw_og0253_01.row.toRowW.claim.post args (.bool true) ds = true := by
  show (WShape.has [] (.bool true) .bool && (match some (WData.bool (same (WData.bool true) (WData.bool true))) with | some (WData.bool true) => true | _ => false)) = true
  rw [same_self]
  rfl
theorem walk (d : DefRec) (kwd : List (Str × PySem.Expr)) (hd : defOf view PySem.Challenge.rw_og0253_01.row.name = some (d, kwd)) : WalkO view loose (XL view lv) (Hook.says hook) PySem.Challenge.rw_og0253_01.row.toRowW d kwd fun f vs => PySem.call f vs := by
  intro w s₀ s₁ mg mb G Y a o pm cd doc dV kV h2 h3 h4 h5 h6 hg args vals as hpre hlay hr hwell hlow
  obtain ⟨ns, rfl, hlen⟩ := pre_args hpre
  have K := k_fLaw (gnd (prog := PySem.Challenge.rw_og0253_01.row.toRowW.prog) (w := w) G.T G.W G.X Y)
  obtain ⟨a', o', fd, e1, e2, e3, K⟩ := K
  have hn := defOf_name hd
  have ea : a' = a := by
    have : mg (Str.ofString "law") = some (.ref a) := by rw [hn] at h6; exact h6
    rw [show mg (Str.ofString "law") = some (.ref a') from e1] at this
    injection this with q; injection q with q
  subst ea
  cases hr with
  | cons r1 r2 =>
  cases r2
  cases r1 with
  | @list l ol vs n xs as' ho hc hd' r =>
  refine wpAny_call (K callerA s₁ (fun _ => False) [.ref l] [.list (ns.map PV.int)] (.bool true) _ ⟨rfl, by decide, by decide⟩ (fun _ _ e => e) (fun _ z => z.elim) (fun _ z => z.elim) (.cons ?_ .nil) (law_true ns) fun v h' tk k rv => ?_)
  · have X := reads_ints (prog := PySem.Challenge.rw_og0253_01.row.toRowW.prog) (w := w) (Av := fun _ => False) r
    have z := X.length
    rw [Array.length_toList, List.length_map] at z
    exact .list (fun q => q) ho hc hd' (by rw [z]; exact Nat.le_trans hlen (by decide)) (RepL.of X)
  · obtain rfl := rv.bool_inv
    refine GoodW.toG ⟨.inl ⟨.bool true, .bool true, [], rfl, fun _ => rfl, .bool true, post_true, fun _ => ⟨.nil, fun _ m => by cases m⟩⟩, k, rfl, hg⟩
theorem law_holds : PySem.Challenge.rw_og0253_01.Holds := head walk
end Og
end
theorem PySem.Challenge.cw_og0253_01_holds : PySem.Challenge.rw_og0253_01.Holds :=
  Og.law_holds
