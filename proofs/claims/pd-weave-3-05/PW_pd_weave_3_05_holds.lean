import PyProof.Rows.All
import Wide.All
import OpenK.AllK
import Wide.FinOn
import PySem.Challenge.RW_pd_weave_3_05
set_option Elab.async false

section
set_option autoImplicit false
namespace Mine
open PySem

inductive AV where
  | none
  | bool (b : Bool)
  | int (i : Int)
  | str (x : Str)
  | ref (i : Nat)

structure AO where
  isL : Bool
  items : List AV

structure ST where
  ρ : Str → Option AV
  σ : List AO

inductive Fl where
  | next | brk | cont
  | ret (v : AV)

noncomputable def upd (ρ : Str → Option AV) (x : Str) (v : AV) : Str → Option AV := fun y => if y = x then some v else ρ y

noncomputable abbrev Fn := List AV → List AO → (AV → List AO → Prop) → (Str → Prop) → Prop

structure Thy where
  glob : Str → Option AV
  fn : Str → Option Fn
  exc : Str → Bool

structure Cx where
  κ : Str → Option NameKind
  n₀ : Nat

noncomputable abbrev KE := AV → ST → Prop
noncomputable abbrev KX := Bool → Str → ST → Prop

structure Sm where
  e : Cx → Expr → ST → KE → KX → Prop
  t : Cx → Expr → ST → (Bool → ST → Prop) → KX → Prop
  s : Cx → Stmt → ST → (Fl → ST → Prop) → KX → Prop

mutual
inductive Tr (σ : List AO) : AV → PyData → Prop
  | none : Tr σ .none .none
  | bool (b : Bool) : Tr σ (.bool b) (.bool b)
  | int (i : Int) : Tr σ (.int i) (.int i)
  | str (x : Str) : PyData.strOk x = true → Tr σ (.str x) (.str x)
  | list {i : Nat} {xs : List AV} {ds : List PyData} : σ[i]? = some ⟨true, xs⟩ → TrAll σ xs ds → Tr σ (.ref i) (.list ds)
  | tuple {i : Nat} {xs : List AV} {ds : List PyData} : σ[i]? = some ⟨false, xs⟩ → TrAll σ xs ds → Tr σ (.ref i) (.tuple ds)
inductive TrAll (σ : List AO) : List AV → List PyData → Prop
  | nil : TrAll σ [] []
  | cons {a : AV} {as : List AV} {d : PyData} {ds : List PyData} : Tr σ a d → TrAll σ as ds → TrAll σ (a :: as) (d :: ds)
end

inductive EV where
  | const (k : Const)
  | name (x : Str)
  | bin (l : Expr) (op : Operator) (r : Expr)
  | un (op : UnaryOp) (x : Expr)
  | tup (es : List Expr)
  | lst (es : List Expr)
  | cut (v : Expr) (lo hi : Option Expr)
  | item (v i : Expr)
  | call (f : Str) (args : List Expr)
  | comp (elt : Expr) (x : Str) (it : Expr) (ifs : List Expr) (scope : Scope)
  | fstr (x : Str) (e : Expr) (c : Int) (y : Str)
  | bool (op : BoolOp) (vs : List Expr)
  | cmp1 (l : Expr) (op : CmpOp) (r : Expr)
  | cmp2 (l : Expr) (op₁ op₂ : CmpOp) (r₁ r₂ : Expr)
  | other

noncomputable def one {α : Type} : List α → Option α
  | [] => none
  | a :: r => (match r with | [] => some a | _ :: _ => none)
noncomputable def two {α : Type} (l : List α) : Option (α × α) :=
  match l with
  | [] => none
  | a :: r => (one r).map fun b => (a, b)
theorem one_inv {α : Type} {l : List α} {a : α} (h : one l = some a) : l = [a] := by
  cases l with
  | nil => cases h
  | cons b r => cases r with
    | nil => cases h; rfl
    | cons _ _ => cases h
theorem two_inv {α : Type} {l : List α} {a b : α} (h : two l = some (a, b)) : l = [a, b] := by
  cases l with
  | nil => cases h
  | cons c r =>
    have h : (one r).map (fun b => (c, b)) = some (a, b) := h
    cases ho : one r with
    | none => rw [ho] at h; cases h
    | some d => rw [ho] at h; cases h; rw [one_inv ho]

noncomputable def subW (v i : Expr) : EV :=
  match i with
  | .Slice lo hi stp _ => stp.elim (.cut v lo hi) fun _ => .item v i
  | i => .item v i
noncomputable def callW (f : Expr) (args : List Expr) (kw : List Keyword) : EV :=
  match f with
  | .Name g _ => (match kw with | [] => .call g args | _ :: _ => .other)
  | _ => .other
noncomputable def compW (elt : Expr) (gs : List Comprehension) (scope : Scope) : EV :=
  match gs with
  | [] => .other
  | g :: r => (match r with
    | _ :: _ => .other
    | [] => (match g.target with
      | .Name x _ => if g.is_async = 0 then .comp elt x g.iter g.ifs scope else .other
      | _ => .other))
noncomputable def cmpW (l : Expr) (ops : List CmpOp) (rs : List Expr) : EV :=
  match ops, rs with
  | [op], [r] => .cmp1 l op r
  | [op₁, op₂], [r₁, r₂] => .cmp2 l op₁ op₂ r₁ r₂
  | _, _ => .other

noncomputable def partS (e : Expr) : Option Str :=
  match e with
  | .Constant k _ _ => (match k with | .str x => some x | _ => none)
  | _ => none
noncomputable def partF (e : Expr) : Option (Expr × Int) :=
  match e with
  | .FormattedValue e c sp _ => (match sp with | none => some (e, c) | some _ => none)
  | _ => none
theorem partS_inv {e : Expr} {x : Str} (h : partS e = some x) : ∃ k p, e = .Constant (.str x) k p := by
  cases e with
  | Constant k a p => cases k with
    | str y => cases h; exact ⟨a, p, rfl⟩
    | _ => cases h
  | _ => cases h
theorem partF_inv {e v : Expr} {c : Int} (h : partF e = some (v, c)) : ∃ p, e = .FormattedValue v c none p := by
  cases e with
  | FormattedValue w d sp p => cases sp with
    | none => cases h; exact ⟨p, rfl⟩
    | some _ => cases h
  | _ => cases h
noncomputable def fstrW (ps : List Expr) : EV :=
  match ps with
  | [] => .other
  | a :: r => (two r).elim .other fun bc => (partS a).elim .other fun x => (partF bc.1).elim .other fun e => (partS bc.2).elim .other fun y => .fstr x e.1 e.2 y

noncomputable def eview : Expr → EV
  | .Constant k _ _ => .const k
  | .Name x _ => .name x
  | .BinOp l op r _ => .bin l op r
  | .UnaryOp op x _ => .un op x
  | .Tuple es _ _ => .tup es
  | .List es _ => .lst es
  | .Subscript v i _ => subW v i
  | .Call f args kw _ => callW f args kw
  | .ListComp elt gs scope _ => compW elt gs scope
  | .JoinedStr ps _ => fstrW ps
  | .BoolOp op vs _ => .bool op vs
  | .Compare l ops rs _ => cmpW l ops rs
  | _ => .other

inductive EForm : Expr → EV → Prop
  | const (k : Const) (a : Nat) (p : Pos) : EForm (.Constant k a p) (.const k)
  | name (x : Str) (p : Pos) : EForm (.Name x p) (.name x)
  | bin (l : Expr) (op : Operator) (r : Expr) (p : Pos) : EForm (.BinOp l op r p) (.bin l op r)
  | un (op : UnaryOp) (x : Expr) (p : Pos) : EForm (.UnaryOp op x p) (.un op x)
  | tup (es : List Expr) (k : Nat) (p : Pos) : EForm (.Tuple es k p) (.tup es)
  | lst (es : List Expr) (p : Pos) : EForm (.List es p) (.lst es)
  | cut (v : Expr) (lo hi : Option Expr) (q p : Pos) : EForm (.Subscript v (.Slice lo hi none q) p) (.cut v lo hi)
  | item (v i : Expr) (p : Pos) : EForm (.Subscript v i p) (.item v i)
  | call (f : Str) (args : List Expr) (q p : Pos) : EForm (.Call (.Name f q) args [] p) (.call f args)
  | comp (elt : Expr) (x : Str) (it : Expr) (ifs : List Expr) (scope : Scope) (q p : Pos) : EForm (.ListComp elt [⟨.Name x q, it, ifs, 0⟩] scope p) (.comp elt x it ifs scope)
  | fstr (x : Str) (e : Expr) (c : Int) (y : Str) (k₁ k₃ : Nat) (p₁ p₂ p₃ p : Pos) : EForm (.JoinedStr [.Constant (.str x) k₁ p₁, .FormattedValue e c none p₂, .Constant (.str y) k₃ p₃] p) (.fstr x e c y)
  | bool (op : BoolOp) (vs : List Expr) (p : Pos) : EForm (.BoolOp op vs p) (.bool op vs)
  | cmp1 (l : Expr) (op : CmpOp) (r : Expr) (p : Pos) : EForm (.Compare l [op] [r] p) (.cmp1 l op r)
  | cmp2 (l : Expr) (op₁ op₂ : CmpOp) (r₁ r₂ : Expr) (p : Pos) : EForm (.Compare l [op₁, op₂] [r₁, r₂] p) (.cmp2 l op₁ op₂ r₁ r₂)
  | other (e : Expr) : EForm e .other

theorem eform_sub (v i : Expr) (p : Pos) : EForm (.Subscript v i p) (subW v i) := by
  cases i with
  | Slice lo hi stp q => cases stp with
    | none => exact .cut ..
    | some _ => exact .item ..
  | _ => exact .item ..
theorem eform_call (f : Expr) (args : List Expr) (kw : List Keyword) (p : Pos) : EForm (.Call f args kw p) (callW f args kw) := by
  cases f with
  | Name g q => cases kw with
    | nil => exact .call ..
    | cons _ _ => exact .other _
  | _ => exact .other _
theorem eform_comp (elt : Expr) (gs : List Comprehension) (scope : Scope) (p : Pos) : EForm (.ListComp elt gs scope p) (compW elt gs scope) := by
  cases gs with
  | nil => exact .other _
  | cons g r => cases r with
    | cons _ _ => exact .other _
    | nil =>
      obtain ⟨t, it, ifs, a⟩ := g
      cases t with
      | Name x q =>
        by_cases h : a = 0
        · subst h; exact .comp ..
        · have : compW elt [⟨.Name x q, it, ifs, a⟩] scope = .other := if_neg h
          rw [this]; exact .other _
      | _ => exact .other _
theorem eform_cmp (l : Expr) (ops : List CmpOp) (rs : List Expr) (p : Pos) : EForm (.Compare l ops rs p) (cmpW l ops rs) := by
  match ops, rs with
  | [_], [_] => exact .cmp1 ..
  | [_, _], [_, _] => exact .cmp2 ..
  | [], _ => exact .other _
  | [_], [] => exact .other _
  | [_], _ :: _ :: _ => exact .other _
  | [_, _], [] => exact .other _
  | [_, _], [_] => exact .other _
  | [_, _], _ :: _ :: _ :: _ => exact .other _
  | _ :: _ :: _ :: _, [] => exact .other _
  | _ :: _ :: _ :: _, _ :: _ => exact .other _
theorem eform_fstr (ps : List Expr) (p : Pos) : EForm (.JoinedStr ps p) (fstrW ps) := by
  cases ps with
  | nil => exact .other _
  | cons a r =>
    show EForm _ ((two r).elim .other fun bc => (partS a).elim .other fun x => (partF bc.1).elim .other fun e => (partS bc.2).elim .other fun y => .fstr x e.1 e.2 y)
    cases h1 : two r with
    | none => exact .other _
    | some bc =>
      cases h2 : partS a with
      | none => exact .other _
      | some x =>
        dsimp only [Option.elim]
        cases h3 : partF bc.1 with
        | none => exact .other _
        | some e =>
          cases h4 : partS bc.2 with
          | none => exact .other _
          | some y =>
            obtain ⟨_, _, e1⟩ := partS_inv h2
            obtain ⟨_, e2⟩ := partF_inv h3
            obtain ⟨_, _, e3⟩ := partS_inv h4
            rw [two_inv h1, e1, e2, e3]
            exact .fstr ..
theorem eform (e : Expr) : EForm e (eview e) := by
  cases e with
  | Constant => exact .const ..
  | Name => exact .name ..
  | BinOp => exact .bin ..
  | UnaryOp => exact .un ..
  | Tuple => exact .tup ..
  | List => exact .lst ..
  | Subscript => exact eform_sub ..
  | Call => exact eform_call ..
  | ListComp => exact eform_comp ..
  | JoinedStr => exact eform_fstr ..
  | BoolOp => exact .bool ..
  | Compare => exact eform_cmp ..
  | _ => exact .other _

inductive HV where
  | ret (x : Str)
  | set (x : Str) (b : Bool)
  | other

noncomputable def retW (e : Option Expr) : HV :=
  match e with
  | none => .other
  | some e => (match eview e with
    | .const k => (match k with | .str x => .ret x | _ => .other)
    | _ => .other)
noncomputable def setW (t v : Expr) : HV :=
  match eview t, eview v with
  | .name x, .const k => (match k with | .bool b => .set x b | _ => .other)
  | _, _ => .other
noncomputable def hview (h : List Stmt) : HV :=
  (one h).elim .other fun s => (match s with
    | .Return e _ => retW e
    | .Assign ts v _ => (one ts).elim .other fun t => setW t v
    | _ => .other)
inductive HForm : List Stmt → HV → Prop
  | ret (x : Str) (k : Nat) (p q : Pos) : HForm [.Return (some (.Constant (.str x) k p)) q] (.ret x)
  | set (x : Str) (b : Bool) (k : Nat) (o p q : Pos) : HForm [.Assign [.Name x o] (.Constant (.bool b) k p) q] (.set x b)
  | other (h : List Stmt) : HForm h .other
theorem hform_ret (e : Option Expr) (q : Pos) : HForm [.Return e q] (retW e) := by
  cases e with
  | none => exact .other _
  | some e =>
    show HForm _ (match eview e with | .const k => _ | _ => _)
    have hf := eform e
    generalize eview e = w at hf
    cases hf with
    | const k => cases k with
      | str x => exact .ret ..
      | _ => exact .other _
    | _ => exact .other _
theorem hform_set (t v : Expr) (q : Pos) : HForm [.Assign [t] v q] (setW t v) := by
  show HForm _ (match eview t, eview v with | .name x, .const k => _ | _, _ => _)
  have hf := eform t
  generalize eview t = w at hf
  cases hf with
  | name x =>
    have hf := eform v
    generalize eview v = w at hf
    cases hf with
    | const k => cases k with
      | bool x => exact .set ..
      | _ => exact .other _
    | _ => exact .other _
  | _ => exact .other _
theorem hform (h : List Stmt) : HForm h (hview h) := by
  cases h with
  | nil => exact .other _
  | cons s r => cases r with
    | cons _ _ => exact .other _
    | nil => cases s with
      | Return e q => exact hform_ret e q
      | Assign ts v q => cases ts with
        | nil => exact .other _
        | cons t r => cases r with
          | cons _ _ => exact .other _
          | nil => exact hform_set t v q
      | _ => exact .other _

inductive SV where
  | pass
  | assign (t v : Expr)
  | aug (x : Str) (op : Operator) (v : Expr)
  | app (o : Expr) (m : Str) (a : Expr) (ap p : Pos)
  | ite (t : Expr) (b o : List Stmt)
  | loop (x : Str) (px : Pos) (it : Expr) (b : List Stmt)
  | ret (e : Expr)
  | raise (C : Str) (m : Expr)
  | tryE (b : List Stmt) (C : Str) (h : List Stmt)
  | other

noncomputable def augW (t : Expr) (op : Operator) (v : Expr) : SV :=
  match eview t with
  | .name x => .aug x op v
  | _ => .other
noncomputable def appW (c : Expr) : SV :=
  match c with
  | .Call f as kw p => (match f with
    | .Attribute o m ap => (one as).elim .other fun a => (match kw with | [] => .app o m a ap p | _ :: _ => .other)
    | _ => .other)
  | _ => .other
noncomputable def loopW (t it : Expr) (b o : List Stmt) : SV :=
  match t with
  | .Name x px => (match o with | [] => .loop x px it b | _ :: _ => .other)
  | _ => .other
noncomputable def raiseW (e c : Option Expr) : SV :=
  match c with
  | some _ => .other
  | none => e.elim .other fun e => (match eview e with
    | .call C as => (one as).elim .other fun m => .raise C m
    | _ => .other)
noncomputable def exceptW (b : List Stmt) (h : ExceptHandler) : SV :=
  match h with
  | .ExceptHandler ty n h _ => (match n with
    | some _ => .other
    | none => ty.elim .other fun e => (match eview e with
      | .name C => .tryE b C h
      | _ => .other))
noncomputable def tryW (b : List Stmt) (hs : List ExceptHandler) (o f : List Stmt) : SV :=
  (one hs).elim .other fun h => (match o with
    | _ :: _ => .other
    | [] => (match f with
      | _ :: _ => .other
      | [] => exceptW b h))
noncomputable def sview : Stmt → SV
  | .Pass _ => .pass
  | .Assign ts v _ => (one ts).elim .other fun t => .assign t v
  | .AugAssign t op v _ => augW t op v
  | .Expr c _ => appW c
  | .If t b o _ => .ite t b o
  | .For t it b o _ => loopW t it b o
  | .Return e _ => e.elim .other fun e => .ret e
  | .Raise e c _ => raiseW e c
  | .Try b hs o f _ => tryW b hs o f
  | _ => .other

inductive SForm : Stmt → SV → Prop
  | pass (p : Pos) : SForm (.Pass p) .pass
  | assign (t v : Expr) (p : Pos) : SForm (.Assign [t] v p) (.assign t v)
  | aug (x : Str) (op : Operator) (v : Expr) (q p : Pos) : SForm (.AugAssign (.Name x q) op v p) (.aug x op v)
  | app (o : Expr) (m : Str) (a : Expr) (ap p q : Pos) : SForm (.Expr (.Call (.Attribute o m ap) [a] [] p) q) (.app o m a ap p)
  | ite (t : Expr) (b o : List Stmt) (p : Pos) : SForm (.If t b o p) (.ite t b o)
  | loop (x : Str) (px : Pos) (it : Expr) (b : List Stmt) (p : Pos) : SForm (.For (.Name x px) it b [] p) (.loop x px it b)
  | ret (e : Expr) (p : Pos) : SForm (.Return (some e) p) (.ret e)
  | raise (C : Str) (m : Expr) (o q p : Pos) : SForm (.Raise (some (.Call (.Name C o) [m] [] q)) none p) (.raise C m)
  | tryE (b : List Stmt) (C : Str) (h : List Stmt) (o q p : Pos) : SForm (.Try b [.ExceptHandler (some (.Name C o)) none h q] [] [] p) (.tryE b C h)
  | other (s : Stmt) : SForm s .other

theorem sform_aug (t : Expr) (op : Operator) (v : Expr) (p : Pos) : SForm (.AugAssign t op v p) (augW t op v) := by
  show SForm _ (match eview t with | .name x => _ | _ => _)
  have hf := eform t
  generalize eview t = w at hf
  cases hf with
  | name => exact .aug ..
  | _ => exact .other _
theorem sform_app (c : Expr) (q : Pos) : SForm (.Expr c q) (appW c) := by
  cases c with
  | Call f as kw p => cases f with
    | Attribute o m ap => cases as with
      | nil => exact .other _
      | cons a r => cases r with
        | cons _ _ => exact .other _
        | nil => cases kw with
          | nil => exact .app ..
          | cons _ _ => exact .other _
    | _ => exact .other _
  | _ => exact .other _
theorem sform_loop (t it : Expr) (b o : List Stmt) (p : Pos) : SForm (.For t it b o p) (loopW t it b o) := by
  cases t with
  | Name x px => cases o with
    | nil => exact .loop ..
    | cons _ _ => exact .other _
  | _ => exact .other _
theorem sform_raise (e c : Option Expr) (p : Pos) : SForm (.Raise e c p) (raiseW e c) := by
  cases c with
  | some _ => exact .other _
  | none => cases e with
    | none => exact .other _
    | some e =>
      show SForm _ (match eview e with | .call C as => _ | _ => _)
      have hf := eform e
      generalize eview e = w at hf
      cases hf with
      | call C as => cases as with
        | nil => exact .other _
        | cons m r => cases r with
          | cons _ _ => exact .other _
          | nil => exact .raise ..
      | _ => exact .other _
theorem sform_try (b : List Stmt) (hs : List ExceptHandler) (o f : List Stmt) (p : Pos) : SForm (.Try b hs o f p) (tryW b hs o f) := by
  cases hs with
  | nil => exact .other _
  | cons h r => cases r with
    | cons _ _ => exact .other _
    | nil => cases o with
      | cons _ _ => exact .other _
      | nil => cases f with
        | cons _ _ => exact .other _
        | nil =>
          obtain ⟨ty, n, h, q⟩ := h
          cases n with
          | some _ => exact .other _
          | none => cases ty with
            | none => exact .other _
            | some e =>
              show SForm _ (match eview e with | .name C => _ | _ => _)
              have hf := eform e
              generalize eview e = w at hf
              cases hf with
              | name => exact .tryE ..
              | _ => exact .other _
theorem sform (s : Stmt) : SForm s (sview s) := by
  cases s with
  | Pass => exact .pass _
  | Assign ts v p => cases ts with
    | nil => exact .other _
    | cons t r => cases r with
      | nil => exact .assign ..
      | cons _ _ => exact .other _
  | AugAssign => exact sform_aug ..
  | Expr => exact sform_app ..
  | If => exact .ite ..
  | For => exact sform_loop ..
  | Return e p => cases e with
    | none => exact .other _
    | some e => exact .ret ..
  | Raise => exact sform_raise ..
  | Try => exact sform_try ..
  | _ => exact .other _

noncomputable def small : Nat := 4096

noncomputable def oneI (a : AV) (f : Int → Prop) : Prop :=
  match a with
  | .int i => f i
  | _ => False
noncomputable def refA (a : AV) (f : Nat → Prop) : Prop :=
  match a with
  | .ref i => f i
  | _ => False
theorem oneI_inv {a : AV} {f : Int → Prop} (h : oneI a f) : ∃ i, a = .int i ∧ f i := by
  cases a with
  | int i => exact ⟨i, rfl, h⟩
  | _ => exact h.elim
theorem refA_inv {a : AV} {f : Nat → Prop} (h : refA a f) : ∃ i, a = .ref i ∧ f i := by
  cases a with
  | ref i => exact ⟨i, rfl, h⟩
  | _ => exact h.elim
noncomputable def intsA (a b : AV) (f : Int → Int → Prop) : Prop := oneI a fun i => oneI b fun j => f i j
theorem intsA_inv {a b : AV} {f : Int → Int → Prop} (h : intsA a b f) : ∃ i j, a = .int i ∧ b = .int j ∧ f i j := by
  obtain ⟨i, e1, h1⟩ := oneI_inv h
  obtain ⟨j, e2, h2⟩ := oneI_inv h1
  exact ⟨i, j, e1, e2, h2⟩

noncomputable def addA (a b : AV) (σ : List AO) (Q : AV → List AO → Prop) : Prop :=
  match a with
  | .int i => oneI b fun j => Q (.int (i + j)) σ
  | .ref i => refA b fun j => ∃ xs ys, σ[i]? = some ⟨true, xs⟩ ∧ σ[j]? = some ⟨true, ys⟩ ∧ xs.length + ys.length ≤ small ∧ Q (.ref σ.length) (σ ++ [⟨true, xs ++ ys⟩])
  | _ => False

noncomputable def binA (op : Operator) (a b : AV) (σ : List AO) (Q : AV → List AO → Prop) : Prop :=
  match op with
  | .Add => addA a b σ Q
  | .Sub => intsA a b fun i j => Q (.int (i - j)) σ
  | .Mult => intsA a b fun i j => i.natAbs < 2 ^ 20 ∧ j.natAbs < 2 ^ 20 ∧ Q (.int (i * j)) σ
  | .Mod => intsA a b fun i j => j ≠ 0 ∧ Q (.int (i.fmod j)) σ
  | .FloorDiv => intsA a b fun i j => j ≠ 0 ∧ j.natAbs < 1073741824 ∧ Q (.int (i.fdiv j)) σ
  | _ => False

noncomputable def isA (a b : AV) (σ : List AO) (Q : Bool → Prop) : Prop :=
  match a with
  | .ref i => (match b with
    | .ref j => (∃ xs, σ[i]? = some ⟨true, xs⟩) ∧ (∃ o, σ[j]? = some o) ∧ Q (decide (i = j))
    | .none => Q false
    | _ => False)
  | .none => (match b with | .none => Q true | _ => False)
  | .str _ => (match b with | .ref _ => Q false | _ => False)
  | _ => False

noncomputable def cmpA (op : CmpOp) (a b : AV) (σ : List AO) (Q : Bool → Prop) : Prop :=
  match op with
  | .Lt => intsA a b fun i j => Q (decide (i < j))
  | .LtE => intsA a b fun i j => Q (decide (i ≤ j))
  | .Gt => intsA a b fun i j => Q (decide (j < i))
  | .GtE => intsA a b fun i j => Q (decide (j ≤ i))
  | .Is => isA a b σ Q
  | .Eq => ∃ d e, Tr σ a d ∧ Tr σ b e ∧ d.depth ≤ 64 ∧ e.depth ≤ 64 ∧ Q (PyData.eqv d e)
  | .NotEq => ∃ d e, Tr σ a d ∧ Tr σ b e ∧ d.depth ≤ 64 ∧ e.depth ≤ 64 ∧ Q (!PyData.eqv d e)
  | .NotIn => refA b fun i => ∃ d o ds, Tr σ a d ∧ σ[i]? = some o ∧ TrAll σ o.items ds ∧ d.depth ≤ 64 ∧ PyData.depthAll ds ≤ 63 ∧ Q (!(ds.any fun y => PyData.eqv y d))
  | _ => False

noncomputable def itemA (a k : AV) (σ : List AO) (Q : AV → Prop) : Prop :=
  refA a fun i => oneI k fun k => ∃ o j v, σ[i]? = some o ∧ -(2 ^ 62) < k ∧ k < 2 ^ 62 ∧ seqIndex? k o.items.length = some j ∧ o.items[j]? = some v ∧ Q v

noncomputable def partZ : AV → Option (Option Int)
  | .none => some none
  | .int i => some (some i)
  | _ => none

noncomputable def sliceL {α : Type} (xs : List α) (lo hi : Option Int) : List α :=
  (xs.drop (lo.elim 0 (clipAt xs.length))).take (hi.elim xs.length (clipAt xs.length) - lo.elim 0 (clipAt xs.length))

noncomputable def sliceA (a l h : AV) (σ : List AO) (Q : AV → List AO → Prop) : Prop :=
  match a with
  | .ref i => ∃ xs lo hi, σ[i]? = some ⟨true, xs⟩ ∧ xs.length ≤ small ∧ partZ l = some lo ∧ partZ h = some hi ∧ Q (.ref σ.length) (σ ++ [⟨true, sliceL xs lo hi⟩])
  | _ => False

theorem one_elim {α : Type} {l : List α} {f : α → Prop} (h : (one l).elim False f) : ∃ a, l = [a] ∧ f a := by
  cases ho : one l with
  | none => rw [ho] at h; exact h.elim
  | some a => rw [ho] at h; exact ⟨a, one_inv ho, h⟩
theorem two_elim {α : Type} {l : List α} {f : α × α → Prop} (h : (two l).elim False f) : ∃ a b, l = [a, b] ∧ f (a, b) := by
  cases ho : two l with
  | none => rw [ho] at h; exact h.elim
  | some a => rw [ho] at h; exact ⟨a.1, a.2, two_inv ho, h⟩

noncomputable def lenA (vs : List AV) (σ : List AO) (Q : AV → List AO → Prop) : Prop := (one vs).elim False fun a => refA a fun i => ∃ o, σ[i]? = some o ∧ o.items.length ≤ small ∧ Q (.int o.items.length) σ
noncomputable def lstA (vs : List AV) (σ : List AO) (Q : AV → List AO → Prop) : Prop := (one vs).elim False fun a => refA a fun i => ∃ xs, σ[i]? = some ⟨true, xs⟩ ∧ xs.length ≤ small ∧ Q (.ref σ.length) (σ ++ [⟨true, xs⟩])
noncomputable def minA (f : Int → Int → Int) (vs : List AV) (σ : List AO) (Q : AV → List AO → Prop) : Prop := (two vs).elim False fun a => intsA a.1 a.2 fun i j => Q (.int (f i j)) σ
noncomputable def builtinA (f : Str) (vs : List AV) (σ : List AO) (Q : AV → List AO → Prop) : Prop :=
  if f = "len" then lenA vs σ Q
  else if f = "list" then lstA vs σ Q
  else if f = "min" then minA min vs σ Q
  else if f = "max" then minA max vs σ Q
  else False

noncomputable def callA (Θ : Thy) (c : Cx) (f : Str) (vs : List AV) (st : ST) (Q : KE) (X : KX) : Prop :=
  c.κ f = some .globalImplicit ∧ (match Θ.fn f with
    | some P => P vs st.σ (fun v σ => Q v ⟨st.ρ, σ⟩) (fun k => X false k st)
    | none => builtinA f vs st.σ (fun v σ => Q v ⟨st.ρ, σ⟩))

noncomputable def noStars : List Expr → Bool
  | [] => true
  | .Starred .. :: _ => false
  | _ :: r => noStars r

noncomputable def calleeOk (Θ : Thy) (f : Str) : Prop := (Θ.fn f).isSome = true ∨ f = "len" ∨ f = "list" ∨ f = "min" ∨ f = "max"

noncomputable def argsA (f : Expr → ST → KE → KX → Prop) : List Expr → ST → (List AV → ST → Prop) → KX → Prop
  | [], st, Q, _ => Q [] st
  | e :: r, st, Q, X => f e st (fun v st => argsA f r st (fun vs st => Q (v :: vs) st) X) X

noncomputable def partA (f : Expr → ST → KE → KX → Prop) (x : Option Expr) (st : ST) (Q : KE) (X : KX) : Prop :=
  match x with
  | none => Q .none st
  | some e => f e st Q X

noncomputable def seqA (f : Stmt → ST → (Fl → ST → Prop) → KX → Prop) : List Stmt → ST → (Fl → ST → Prop) → KX → Prop
  | [], st, Q, _ => Q .next st
  | s :: r, st, Q, X => f s st (fun fl st => match fl with | .next => seqA f r st Q X | fl => Q fl st) X

structure It where
  items : List AV
  own : Option (Nat × AO)

noncomputable def It.ok (it : It) (σ : List AO) : Prop :=
  match it.own with
  | none => True
  | some (i, o) => σ[i]? = some o

noncomputable def upInts (a : Int) (n : Nat) : List AV := (List.range n).map fun (k : Nat) => AV.int (a + (k : Int))
noncomputable def downInts (a : Int) (n : Nat) : List AV := (List.range n).map fun (k : Nat) => AV.int (a - (k : Int))

noncomputable def rangeA (vs : List AV) (Q : List AV → Prop) : Prop :=
  match vs with
  | [] => False
  | a :: r => oneI a fun a => (match r with
    | [] => -small ≤ a ∧ a ≤ small ∧ Q (upInts 0 a.toNat)
    | b :: r => oneI b fun b => (match r with
      | [] => -small ≤ a ∧ a ≤ small ∧ -small ≤ b ∧ b ≤ small ∧ Q (upInts a (b - a).toNat)
      | c :: r => oneI c fun d => (match r with
        | [] => d = -1 ∧ -small ≤ a ∧ a ≤ small ∧ -small ≤ b ∧ b ≤ small ∧ Q (downInts a (a - b).toNat)
        | _ :: _ => False)))

noncomputable def seqItA (v : AV) (st : ST) (Q : It → ST → Prop) : Prop :=
  match v with
  | .ref i => ∃ o, st.σ[i]? = some o ∧ o.items.length ≤ small ∧ Q ⟨o.items, some (i, o)⟩ st
  | _ => False

noncomputable def iterA (Θ : Thy) (c : Cx) (f : Expr → ST → KE → KX → Prop) (it : Expr) (st : ST) (Q : It → ST → Prop) (X : KX) : Prop :=
  match eview it with
  | .call g args =>
    if g = "range" then noStars args = true ∧ c.κ g = some .globalImplicit ∧ argsA f args st (fun vs st => rangeA vs fun xs => Q ⟨xs, none⟩ st) X
    else f it st (fun v st => seqItA v st Q) X
  | _ => f it st (fun v st => seqItA v st Q) X

noncomputable def forA (it : It) (bind : AV → ST → (ST → Prop) → Prop) (body : ST → (Fl → ST → Prop) → Prop) : List AV → ST → (Fl → ST → Prop) → Prop
  | [], st, Q => it.ok st.σ ∧ Q .next st
  | x :: xs, st, Q => it.ok st.σ ∧ bind x st (fun st => body st (fun fl st => match fl with
      | .next | .cont => forA it bind body xs st Q
      | .brk => Q .next st
      | .ret v => Q (.ret v) st))

noncomputable def compA (it : It) (step : AV → ST → (Option AV → ST → Prop) → Prop) : List AV → List AV → ST → (List AV → ST → Prop) → Prop
  | [], acc, st, Q => it.ok st.σ ∧ Q acc st
  | x :: xs, acc, st, Q => it.ok st.σ ∧ step x st (fun r st => compA it step xs (acc ++ r.toList) st Q)

noncomputable def bindNames (c : Cx) : List Expr → List AV → ST → (ST → Prop) → Prop
  | [], [], st, Q => Q st
  | .Name x _ :: r, v :: vs, st, Q => c.κ x = some .local ∧ bindNames c r vs ⟨upd st.ρ x v, st.σ⟩ Q
  | _, _, _, _ => False

noncomputable def bindA (c : Cx) (t : Expr) (v : AV) (st : ST) (Q : ST → Prop) : Prop :=
  match t with
  | .Name x _ => c.κ x = some .local ∧ Q ⟨upd st.ρ x v, st.σ⟩
  | .Tuple ts _ _ => (match v with
    | .ref i => ∃ xs, st.σ[i]? = some ⟨false, xs⟩ ∧ xs.length = ts.length ∧ bindNames c ts xs st Q
    | _ => False)
  | _ => False

noncomputable def notSet : Expr → Bool
  | .Set .. => false
  | _ => true

noncomputable def plainT : Expr → Bool
  | .List _ _ => false
  | .Starred _ _ => false
  | _ => true
noncomputable def tupLen : Expr → Option Nat
  | .Tuple ts _ _ => some ts.length
  | _ => none
noncomputable def notSwapped (t v : Expr) : Bool := plainT t && (match v with
  | .SetComp .. => false
  | .DictComp .. => false
  | .ListComp .. => (tupLen t).isNone
  | .Tuple .. => (tupLen t).elim true fun n => n != 2 && n != 3
  | _ => true)

noncomputable def appendA (c : Cx) (l v : AV) (st : ST) (Q : ST → Prop) : Prop :=
  match l with
  | .ref i => c.n₀ ≤ i ∧ ∃ xs, st.σ[i]? = some ⟨true, xs⟩ ∧ xs.length < small ∧ Q ⟨st.ρ, st.σ.set i ⟨true, xs ++ [v]⟩⟩
  | _ => False

noncomputable def isListA (l : AV) (σ : List AO) : Prop :=
  match l with
  | .ref i => ∃ xs, σ[i]? = some ⟨true, xs⟩
  | _ => False

noncomputable def plainBase : Expr → Bool
  | .Name .. => true
  | .Subscript .. => true
  | _ => false

noncomputable def augA (op : Operator) (a b : AV) (Q : AV → Prop) : Prop :=
  match op with
  | .Add => intsA a b fun i j => Q (.int (i + j))
  | .Sub => intsA a b fun i j => Q (.int (i - j))
  | _ => False

noncomputable def handlerA (c : Cx) (h : List Stmt) (st : ST) (Q : Fl → ST → Prop) : Prop :=
  match hview h with
  | .ret x => Q (.ret (.str x)) st
  | .set x b => c.κ x = some .local ∧ Q .next ⟨upd st.ρ x (.bool b), st.σ⟩
  | .other => False

noncomputable def allA (t : Expr → ST → (Bool → ST → Prop) → KX → Prop) (op : BoolOp) : List Expr → ST → (Bool → ST → Prop) → KX → Prop
  | [], st, Q, _ => Q (op == .And) st
  | e :: r, st, Q, X => t e st (fun b st => match op, b with
      | .And, false => Q false st
      | .Or, true => Q true st
      | _, _ => allA t op r st Q X) X

noncomputable def condA (t : Expr → ST → (Bool → ST → Prop) → KX → Prop) (ifs : List Expr) (st : ST) (Q : Bool → ST → Prop) (X : KX) : Prop :=
  match ifs with
  | [] => Q true st
  | [e] => t e st Q X
  | _ => False

noncomputable def noX : KX := fun _ _ _ => False

noncomputable def compκ (scope : Scope) : Str → Option NameKind := fun x => match scope.names.lookup x with
  | some .free => some .cell
  | k => k

noncomputable def maskρ (scope : Scope) (ρ : Str → Option AV) : Str → Option AV := fun y => if scope.names.lookup y = some .local then none else ρ y

noncomputable def compOk (scope : Scope) (κ : Str → Option NameKind) (x : Str) : Prop :=
  scope.kind = .function ∧ scope.names.lookup x = some .local ∧ (∀ y ∈ scope.names, y.2 ≠ .cell) ∧ (∀ y ∈ scope.names, y.2 = .local → scope.names.lookup y.1 = some .local) ∧
    (∀ y ∈ scope.names, y.2 = .free → κ y.1 = some .cell ∧ scope.names.lookup y.1 = some .free)

noncomputable def compStep (f : Expr → ST → KE → KX → Prop) (t : Expr → ST → (Bool → ST → Prop) → KX → Prop) (x : Str) (ifs : List Expr) (elt : Expr) (v : AV) (st : ST) (Q : Option AV → ST → Prop) : Prop :=
  condA t ifs ⟨upd st.ρ x v, st.σ⟩ (fun b st => if b then f elt st (fun v st => Q (some v) st) noX else Q none st) noX

noncomputable def constA (k : Const) (st : ST) (Q : KE) : Prop :=
  match k with
  | .none => Q .none st
  | .bool b => Q (.bool b) st
  | .int i => Q (.int i) st
  | .str x => Q (.str x) st
  | _ => False

noncomputable def nameA (Θ : Thy) (c : Cx) (x : Str) (st : ST) (Q : KE) : Prop := x ≠ "__debug__" ∧ (match c.κ x with
    | some .local => ∃ v, st.ρ x = some v ∧ Q v st
    | some .cell => ∃ v, st.ρ x = some v ∧ Q v st
    | some .globalImplicit => ∃ v, Θ.glob x = some v ∧ Q v st
    | _ => False)

noncomputable def stepEw (Θ : Thy) (S : Sm) (c : Cx) (w : EV) (st : ST) (Q : KE) (X : KX) : Prop :=
  match w with
  | .const k => constA k st Q
  | .name x => nameA Θ c x st Q
  | .bin l op r => S.e c l st (fun a st => S.e c r st (fun b st => binA op a b st.σ fun v σ => Q v ⟨st.ρ, σ⟩) X) X
  | .un op x => op = .USub ∧ S.e c x st (fun a st => match a with | .int i => Q (.int (-i)) st | _ => False) X
  | .tup es => noStars es = true ∧ argsA (S.e c) es st (fun vs st => vs.length ≤ small ∧ Q (.ref st.σ.length) ⟨st.ρ, st.σ ++ [⟨false, vs⟩]⟩) X
  | .lst es => noStars es = true ∧ argsA (S.e c) es st (fun vs st => vs.length ≤ small ∧ Q (.ref st.σ.length) ⟨st.ρ, st.σ ++ [⟨true, vs⟩]⟩) X
  | .cut v lo hi => S.e c v st (fun a st => partA (S.e c) lo st (fun l st => partA (S.e c) hi st (fun h st => sliceA a l h st.σ fun v σ => Q v ⟨st.ρ, σ⟩) X) X) X
  | .item v i => S.e c v st (fun a st => S.e c i st (fun k st => itemA a k st.σ fun v => Q v st) X) X
  | .call f args => f ≠ "__debug__" ∧ noStars args = true ∧ c.κ f = some .globalImplicit ∧ calleeOk Θ f ∧ argsA (S.e c) args st (fun vs st => callA Θ c f vs st Q X) X
  | .comp elt x it ifs scope => notSet it = true ∧ compOk scope c.κ x ∧ iterA Θ c (S.e c) it st (fun its st₁ =>
      compA its (compStep (S.e ⟨compκ scope, c.n₀⟩) (S.t ⟨compκ scope, c.n₀⟩) x ifs elt) its.items [] ⟨maskρ scope st₁.ρ, st₁.σ⟩ (fun acc st₂ => Q (.ref st₂.σ.length) ⟨st₁.ρ, st₂.σ ++ [⟨true, acc⟩]⟩)) X
  | .fstr x e k y => k = -1 ∧ x.length ≤ 64 ∧ y.length ≤ 64 ∧ S.e c e st (fun v st => oneI v fun i => i.natAbs < 10 ^ 9 ∧ Q (.str (Str.empty ++ x ++ Str.ofString (toString i) ++ y)) st) X
  | _ => False

noncomputable def stepE (Θ : Thy) (S : Sm) (c : Cx) (e : Expr) (st : ST) (Q : KE) (X : KX) : Prop := stepEw Θ S c (eview e) st Q X

noncomputable def stepTw (S : Sm) (c : Cx) (e : Expr) (w : EV) (st : ST) (Q : Bool → ST → Prop) (X : KX) : Prop :=
  match w with
  | .un op x => op = .Not ∧ S.t c x st (fun b st => Q (!b) st) X
  | .bool op vs => allA (S.t c) op vs st Q X
  | .cmp1 l op r => notSet r = true ∧ S.e c l st (fun a st => S.e c r st (fun b st => cmpA op a b st.σ fun v => Q v st) X) X
  | .cmp2 l op₁ op₂ r₁ r₂ => notSet r₁ = true ∧ notSet r₂ = true ∧ S.e c l st (fun a st => S.e c r₁ st (fun b st => cmpA op₁ a b st.σ fun v =>
      if v then S.e c r₂ st (fun d st => cmpA op₂ b d st.σ fun v => Q v st) X else Q false st) X) X
  | .name _ => S.e c e st (fun v st => match v with | .bool b => Q b st | _ => False) X
  | .call _ _ => S.e c e st (fun v st => match v with | .bool b => Q b st | _ => False) X
  | _ => False

noncomputable def stepT (S : Sm) (c : Cx) (e : Expr) (st : ST) (Q : Bool → ST → Prop) (X : KX) : Prop := stepTw S c e (eview e) st Q X

noncomputable def stepSw (Θ : Thy) (S : Sm) (c : Cx) (w : SV) (st : ST) (Q : Fl → ST → Prop) (X : KX) : Prop :=
  match w with
  | .pass => Q .next st
  | .assign t v => notSwapped t v = true ∧ stepE Θ S c v st (fun a st => bindA c t a st fun st => Q .next st) X
  | .aug x op v => c.κ x = some .local ∧ ∃ old, st.ρ x = some old ∧ S.e c v st (fun b st => augA op old b fun r => Q .next ⟨upd st.ρ x r, st.σ⟩) X
  | .app o m a ap p => m = "append" ∧ plainBase o = true ∧ ap.endLine = p.line ∧ noStars [a] = true ∧ S.e c o st (fun l st => isListA l st.σ ∧ S.e c a st (fun v st => appendA c l v st fun st => Q .next st) X) X
  | .ite t b o => S.t c t st (fun v st => if v then seqA (S.s c) b st Q X else seqA (S.s c) o st Q X) X
  | .loop x p it b => notSet it = true ∧ iterA Θ c (S.e c) it st (fun its st => forA its (bindA c (.Name x p)) (fun st Q => seqA (S.s c) b st Q X) its.items st Q) X
  | .ret e => S.e c e st (fun v st => Q (.ret v) st) X
  | .raise C m => C ≠ "__debug__" ∧ noStars [m] = true ∧ c.κ C = some .globalImplicit ∧ Θ.exc C = true ∧ S.e c m st (fun v st => match v with | .str _ => X true C st | _ => False) X
  | .tryE b C h => seqA (S.s c) b st Q (fun own k st => own = false ∧ k = C ∧ C ≠ "__debug__" ∧ c.κ C = some .globalImplicit ∧ Θ.exc C = true ∧ handlerA c h st Q)
  | .other => False

noncomputable def stepS (Θ : Thy) (S : Sm) (c : Cx) (s : Stmt) (st : ST) (Q : Fl → ST → Prop) (X : KX) : Prop := stepSw Θ S c (sview s) st Q X

noncomputable def W (Θ : Thy) : Nat → Sm
  | 0 => ⟨fun _ _ _ _ _ => False, fun _ _ _ _ _ => False, fun _ _ _ _ _ => False⟩
  | n + 1 => ⟨stepE Θ (W Θ n), stepT (W Θ n), stepS Θ (W Θ n)⟩

noncomputable def bindP : List Str → List AV → (Str → Option AV) → Str → Option AV
  | x :: xs, v :: vs, ρ => bindP xs vs (upd ρ x v)
  | _, _, ρ => ρ

noncomputable def callF (Θ : Thy) (n : Nat) (params : List Str) (scope : Scope) (body : List Stmt) : Fn := fun vs σ Q E =>
  vs.length = params.length ∧ seqA ((W Θ n).s ⟨fun x => scope.names.lookup x, σ.length⟩) body ⟨bindP params vs fun _ => none, σ⟩
    (fun fl st => Q (match fl with | .ret v => v | _ => .none) st.σ) (fun _ k _ => E k)

end Mine

end

section
set_option autoImplicit false
namespace Mine
open PySem

noncomputable def RepV (φ : List Addr) : AV → Value → Prop
  | .none, v => v = .none
  | .bool b, v => v = .bool b
  | .int i, v => ∃ t, v = .int i t
  | .str x, v => ∃ t, v = .str x t
  | .ref i, v => ∃ a, φ[i]? = some a ∧ v = .ref a

inductive RepL (φ : List Addr) : List AV → List Value → Prop
  | nil : RepL φ [] []
  | cons {a : AV} {as : List AV} {v : Value} {vs : List Value} : RepV φ a v → RepL φ as vs → RepL φ (a :: as) (v :: vs)

noncomputable abbrev seqObj (isL : Bool) (vs : List Value) (n : Nat) : Obj := { cls := .type (if isL then "list" else "tuple"), data := .seq vs.toArray n }

structure StoR (φ : List Addr) (σ : List AO) (h : Heap) : Prop where
  len : φ.length = σ.length
  nodup : φ.Nodup
  obj : ∀ (i : Nat) (o : AO), σ[i]? = some o → ∃ a vs n, φ[i]? = some a ∧ RepL φ o.items vs ∧ h.get? a = some (seqObj o.isL vs n)

noncomputable def FrsR (h base : Heap) (frs : List Env) : Prop :=
  ∀ env ∈ frs, env.scope.kind = .function ∧ ∃ L o es n, env.frame = some L ∧ base.get? L = none ∧ h.get? L = some o ∧ o.data = .dict es n

noncomputable def frAddrs (frs : List Env) : List Addr := frs.filterMap (·.frame)

noncomputable def KeepR (frs : List Env) (g h : Heap) : Prop :=
  ∀ b o, g.get? b = some o → (b ∉ frAddrs frs → h.get? b = some o) ∧ (b ∈ frAddrs frs → ∃ sl, h.get? b = some { o with slots := sl })

structure Act where
  base : Heap
  os : OsState
  env : Env
  frs : List Env
  g₀ : Heap
  n₀ : Nat
  held : List (Addr × Obj)
  nss : List (Addr × (Str → Option Value))
  kc : List (Addr × Option Value)
  φ₀ : List Addr

noncomputable def Act.put (a : Act) (hd : List (Addr × Obj)) : Act := { a with held := hd }

structure Rel (a : Act) (φ : List Addr) (st : ST) (s : Shared) : Prop where
  ns : ∃ m, s.heap.Ns a.env.locals m ∧ ∀ x v, a.env.kindOf x = some .local → st.ρ x = some v → ∃ w, m x = some w ∧ RepV φ v w
  nsNew : a.g₀.get? a.env.locals = none
  cells : ∀ x v, a.env.kindOf x = some .cell → st.ρ x = some v → ∃ c w, a.env.cells.lookup x = some c ∧ s.heap.IsCell c (some w) ∧ RepV φ v w
  sto : StoR φ st.σ s.heap
  keep : KeepR a.frs a.g₀ s.heap
  n₀le : a.n₀ ≤ φ.length
  fresh : ∀ i ad, a.n₀ ≤ i → φ[i]? = some ad → a.g₀.get? ad = none
  frames : FrsR s.heap a.base a.frs
  baseIn : ∀ b o, a.base.get? b = some o → b ∉ frAddrs a.frs ∧ a.g₀.get? b = some o
  held : ∀ p ∈ a.held, s.heap.get? p.1 = some p.2 ∧ p.1 ∉ φ ∧ (∀ es n, p.2.data ≠ .dict es n) ∧ (∀ v, p.2.data ≠ .cell v)
  nss : ∀ p ∈ a.nss, s.heap.Ns p.1 p.2 ∧ p.1 ≠ a.env.locals
  kc : ∀ p ∈ a.kc, s.heap.IsCell p.1 p.2
  pre : a.φ₀ <+: φ
  gens : s.gens = #[]
  os : s.os = a.os

theorem RepV.mono {φ φ' : List Addr} (h : φ <+: φ') {a : AV} {v : Value} (r : RepV φ a v) : RepV φ' a v := by
  cases a with
  | ref i =>
    obtain ⟨ad, e, rfl⟩ := r
    obtain ⟨t, rfl⟩ := h
    exact ⟨ad, by rw [List.getElem?_append_left (List.getElem?_eq_some_iff.mp e).1]; exact e, rfl⟩
  | _ => exact r
theorem RepL.mono {φ φ' : List Addr} (h : φ <+: φ') {as : List AV} {vs : List Value} (r : RepL φ as vs) : RepL φ' as vs := by
  induction r with
  | nil => exact .nil
  | cons h1 _ ih => exact .cons (h1.mono h) ih
theorem RepL.length {φ : List Addr} {as : List AV} {vs : List Value} (r : RepL φ as vs) : vs.length = as.length := by
  induction r with
  | nil => rfl
  | cons _ _ ih => simp [ih]
theorem RepL.get {φ : List Addr} {as : List AV} {vs : List Value} (r : RepL φ as vs) {i : Nat} {a : AV} (h : as[i]? = some a) : ∃ v, vs[i]? = some v ∧ RepV φ a v := by
  induction r generalizing i with
  | nil => simp at h
  | cons h1 _ ih =>
    cases i with
    | zero => simp at h; subst h; exact ⟨_, rfl, h1⟩
    | succ i => simp at h; simpa using ih h
theorem RepL.append {φ : List Addr} {as bs : List AV} {vs ws : List Value} (r : RepL φ as vs) (q : RepL φ bs ws) : RepL φ (as ++ bs) (vs ++ ws) := by
  induction r with
  | nil => exact q
  | cons h1 _ ih => exact .cons h1 ih
theorem RepL.take {φ : List Addr} {as : List AV} {vs : List Value} (r : RepL φ as vs) (k : Nat) : RepL φ (as.take k) (vs.take k) := by
  induction r generalizing k with
  | nil => simp; exact .nil
  | cons h1 _ ih =>
    cases k with
    | zero => exact .nil
    | succ k => simp; exact .cons h1 (ih k)
theorem RepL.drop {φ : List Addr} {as : List AV} {vs : List Value} (r : RepL φ as vs) (k : Nat) : RepL φ (as.drop k) (vs.drop k) := by
  induction r generalizing k with
  | nil => simp; exact .nil
  | cons h1 h2 ih =>
    cases k with
    | zero => exact .cons h1 h2
    | succ k => simp; exact ih k

theorem KeepR.refl (frs : List Env) (g : Heap) : KeepR frs g g := fun _ o e => ⟨fun _ => e, fun _ => ⟨o.slots, e⟩⟩
theorem KeepR.stays {frs : List Env} {g h : Heap} (k : g.StaysIn h) : KeepR frs g h := fun b o e => ⟨fun _ => k b o e, fun _ => ⟨o.slots, k b o e⟩⟩
theorem KeepR.trans {frs : List Env} {g h k : Heap} (x : KeepR frs g h) (y : KeepR frs h k) : KeepR frs g k := fun b o e =>
  ⟨fun n => (y b o ((x b o e).1 n)).1 n, fun m => by
    obtain ⟨sl, h1⟩ := (x b o e).2 m
    obtain ⟨sl', h2⟩ := (y b _ h1).2 m
    exact ⟨sl', h2⟩⟩
theorem KeepR.data {frs : List Env} {g h : Heap} (x : KeepR frs g h) {b : Addr} {o : Obj} (e : g.get? b = some o) : ∃ sl, h.get? b = some { o with slots := sl } := by
  by_cases m : b ∈ frAddrs frs
  · exact (x b o e).2 m
  · exact ⟨o.slots, (x b o e).1 m⟩
theorem KeepR.ns {frs : List Env} {g h : Heap} (x : KeepR frs g h) {L : Addr} {m : Str → Option Value} (n : g.Ns L m) : h.Ns L m := by
  obtain ⟨o, es, ep, ho, hd, hk, hf⟩ := n
  obtain ⟨sl, e⟩ := x.data ho
  exact ⟨_, es, ep, e, hd, hk, hf⟩
theorem KeepR.cell {frs : List Env} {g h : Heap} (x : KeepR frs g h) {c : Addr} {v : Option Value} (n : g.IsCell c v) : h.IsCell c v := by
  obtain ⟨o, ho, hd⟩ := n
  obtain ⟨sl, e⟩ := x.data ho
  exact ⟨_, e, hd⟩
theorem KeepR.frsR {frs : List Env} {g h base : Heap} (x : KeepR frs g h) (f : FrsR g base frs) : FrsR h base frs := fun env m => by
  obtain ⟨hk, L, o, es, n, hf, hb, ho, hd⟩ := f env m
  obtain ⟨sl, e⟩ := x.data ho
  exact ⟨hk, L, _, es, n, hf, hb, e, hd⟩
theorem FrsR.dict {h base : Heap} {frs : List Env} (f : FrsR h base frs) {b : Addr} (m : b ∈ frAddrs frs) : base.get? b = none ∧ ∃ o es n, h.get? b = some o ∧ o.data = .dict es n := by
  obtain ⟨env, he, hf⟩ := List.mem_filterMap.mp m
  obtain ⟨_, L, o, es, n, hf', hb, ho, hd⟩ := f env he
  rw [hf] at hf'
  cases hf'
  exact ⟨hb, o, es, n, ho, hd⟩
theorem FrsR.fun {h base : Heap} : ∀ {frs : List Env}, FrsR h base frs → h.FunFrames base frs
  | [], _ => trivial
  | env :: r, f => by
    obtain ⟨hk, L, o, es, n, hf, hb, ho, hd⟩ := f env (.head _)
    exact ⟨by rw [hk]; decide, ⟨L, o, hf, hb, ho, fun vs q => by rw [hd] at q; cases q⟩, FrsR.fun fun e he => f e (.tail _ he)⟩
theorem FrsR.off {h base : Heap} {frs : List Env} (f : FrsR h base frs) {b : Addr} {o : Obj} (e : h.get? b = some o) (hd : ∀ es n, o.data ≠ .dict es n) : b ∉ frAddrs frs := fun m => by
  obtain ⟨_, o', es, n, ho, hd'⟩ := f.dict m
  rw [e] at ho
  cases ho
  exact hd es n hd'
theorem seqObj_nodict {isL : Bool} {vs : List Value} {n : Nat} : ∀ es k, (seqObj isL vs n).data ≠ .dict es k := fun _ _ h => nomatch h
theorem StoR.keep {φ : List Addr} {σ : List AO} {g h base : Heap} {frs : List Env} (x : StoR φ σ g) (k : KeepR frs g h) (f : FrsR g base frs) : StoR φ σ h :=
  ⟨x.len, x.nodup, fun i o e => by
    obtain ⟨a, vs, n, h1, h2, h3⟩ := x.obj i o e
    exact ⟨a, vs, n, h1, h2, (k a _ h3).1 (f.off h3 seqObj_nodict)⟩⟩

section
variable {a : Act} {φ : List Addr} {st : ST} {s : Shared}

theorem Rel.baseStays (R : Rel a φ st s) : a.base.StaysIn s.heap := fun b o e => (R.keep b o (R.baseIn b o e).2).1 (R.baseIn b o e).1
theorem Rel.fun (R : Rel a φ st s) : s.heap.FunFrames a.base a.frs := R.frames.fun

theorem Rel.kept {s' : Shared} (R : Rel a φ st s) (k : KeepR a.frs s.heap s'.heap) (hg : s'.gens = s.gens) (ho : s'.os = s.os) : Rel a φ st s' where
  ns := by
    obtain ⟨m, h1, h2⟩ := R.ns
    exact ⟨m, k.ns h1, h2⟩
  nsNew := R.nsNew
  cells := fun x v h1 h2 => by
    obtain ⟨c, w, e1, e2, e3⟩ := R.cells x v h1 h2
    exact ⟨c, w, e1, k.cell e2, e3⟩
  sto := R.sto.keep k R.frames
  keep := R.keep.trans k
  n₀le := R.n₀le
  fresh := R.fresh
  frames := k.frsR R.frames
  baseIn := R.baseIn
  held := fun p hp => by
    obtain ⟨h1, h2, h3, h4⟩ := R.held p hp
    exact ⟨(k _ _ h1).1 (R.frames.off h1 h3), h2, h3, h4⟩
  nss := fun p hp => ⟨k.ns (R.nss p hp).1, (R.nss p hp).2⟩
  kc := fun p hp => k.cell (R.kc p hp)
  pre := R.pre
  gens := hg.trans R.gens
  os := ho.trans R.os
theorem Rel.stays {s' : Shared} (R : Rel a φ st s) (k : s.heap.StaysIn s'.heap) (hg : s'.gens = s.gens) (ho : s'.os = s.os) : Rel a φ st s' := R.kept (.stays k) hg ho
theorem Rel.tok (R : Rel a φ st s) (t : Nat) : Rel a φ st { s with toks := t } := R.stays (fun _ _ e => e) rfl rfl
theorem Rel.push (R : Rel a φ st s) (o : Obj) (t : Nat) : Rel a φ st { s with heap := s.heap.push o, toks := t } := R.stays (fun _ _ e => Heap.get?_push_of_some _ e) rfl rfl

theorem nodup_snoc {l : List Addr} {x : Addr} (h : l.Nodup) (n : x ∉ l) : (l ++ [x]).Nodup := by
  rw [List.nodup_append]
  exact ⟨h, by simp, fun a ha b hb e => by simp at hb; subst hb; subst e; exact n ha⟩

theorem nodup_inj {l : List Addr} (h : l.Nodup) {i j : Nat} (hi : i < l.length) (hj : j < l.length) (e : l[i] = l[j]) : i = j := by
  rcases Nat.lt_trichotomy i j with q | q | q
  · exact absurd e (List.pairwise_iff_getElem.mp h i j hi hj q)
  · exact q
  · exact absurd e.symm (List.pairwise_iff_getElem.mp h j i hj hi q)

theorem Rel.addr_some (R : Rel a φ st s) {ad : Addr} (m : ad ∈ φ) : ∃ o, s.heap.get? ad = some o := by
  obtain ⟨i, hi⟩ := List.mem_iff_getElem?.mp m
  have hl := (List.getElem?_eq_some_iff.mp hi).1
  rw [R.sto.len] at hl
  obtain ⟨ad', vs, n, h1, _, h3⟩ := R.sto.obj i _ (List.getElem?_eq_getElem hl)
  rw [hi] at h1
  cases h1
  exact ⟨_, h3⟩

theorem Rel.adopt {isL : Bool} {xs : List AV} {vs : List Value} {n : Nat} {ad : Addr} (R : Rel a φ st s) (nm : ad ∉ φ) (he : s.heap.get? ad = some (seqObj isL vs n)) (hg₀ : a.g₀.get? ad = none)
    (r : RepL φ xs vs) (hh : ad ∉ a.held.map (·.1)) : Rel a (φ ++ [ad]) ⟨st.ρ, st.σ ++ [⟨isL, xs⟩]⟩ s := by
  have p : φ <+: φ ++ [ad] := ⟨_, rfl⟩
  refine ⟨?_, R.nsNew, ?_, ⟨by simp [R.sto.len], nodup_snoc R.sto.nodup nm, ?_⟩, R.keep, ?_, ?_, R.frames, R.baseIn, ?_, R.nss, R.kc, ?_, R.gens, R.os⟩
  · obtain ⟨m, h1, h2⟩ := R.ns
    exact ⟨m, h1, fun x v q1 q2 => by
      obtain ⟨w, e1, e2⟩ := h2 x v q1 q2
      exact ⟨w, e1, e2.mono p⟩⟩
  · intro x v q1 q2
    obtain ⟨c, w, e1, e2, e3⟩ := R.cells x v q1 q2
    exact ⟨c, w, e1, e2, e3.mono p⟩
  · intro i o e
    by_cases hi : i < st.σ.length
    · rw [List.getElem?_append_left hi] at e
      obtain ⟨a', vs', n', h1, h2, h3⟩ := R.sto.obj i o e
      exact ⟨a', vs', n', by rw [List.getElem?_append_left (by rw [R.sto.len]; exact hi)]; exact h1, h2.mono p, h3⟩
    · rw [List.getElem?_append_right (by omega)] at e
      have : i = st.σ.length := by
        have := (List.getElem?_eq_some_iff.mp e).1
        simp at this; omega
      subst this
      simp at e
      subst e
      exact ⟨ad, vs, n, by rw [← R.sto.len]; simp, r.mono p, he⟩
  · have := R.n₀le; simp; omega
  · intro i ad' hi e
    by_cases hl : i < φ.length
    · rw [List.getElem?_append_left hl] at e
      exact R.fresh i ad' hi e
    · rw [List.getElem?_append_right (by omega)] at e
      have e' : ad' = ad := by
        have h1 := (List.getElem?_eq_some_iff.mp e)
        obtain ⟨h1, h2⟩ := h1
        simp at h2; exact h2.symm
      subst e'
      exact hg₀
  · intro q hq
    obtain ⟨h1, h2, h3, h4⟩ := R.held q hq
    refine ⟨h1, fun m => ?_, h3, h4⟩
    rcases List.mem_append.mp m with m | m
    · exact h2 m
    · simp at m
      exact hh (m ▸ List.mem_map.mpr ⟨q, hq, rfl⟩)
  · obtain ⟨t, e⟩ := R.pre
    exact ⟨t ++ [ad], by rw [← e, List.append_assoc]⟩

theorem Rel.alloc {s' : Shared} {isL : Bool} {xs : List AV} {vs : List Value} {n : Nat} {ad : Addr} (R : Rel a φ st s) (k : s.heap.StaysIn s'.heap) (hn : s.heap.get? ad = none) (he : s'.heap.get? ad = some (seqObj isL vs n))
    (r : RepL φ xs vs) (hg : s'.gens = s.gens) (ho : s'.os = s.os) (hh : ad ∉ a.held.map (·.1)) : Rel a (φ ++ [ad]) ⟨st.ρ, st.σ ++ [⟨isL, xs⟩]⟩ s' := by
  refine (R.stays k hg ho).adopt (fun m => ?_) he ?_ r hh
  · obtain ⟨o, e⟩ := R.addr_some m
    rw [hn] at e; cases e
  · cases q : a.g₀.get? ad with
    | none => rfl
    | some o =>
      obtain ⟨sl, e2⟩ := R.keep.data q
      rw [hn] at e2; cases e2
theorem Rel.held_off (R : Rel a φ st s) {ad : Addr} (hn : s.heap.get? ad = none) : ad ∉ a.held.map (·.1) := fun m => by
  obtain ⟨p, hp, rfl⟩ := List.mem_map.mp m
  rw [(R.held p hp).1] at hn; cases hn
theorem get?_size (h : Heap) : h.get? h.objs.size = none := by
  cases e : h.get? h.objs.size with
  | none => rfl
  | some o => exact absurd (Heap.lt_size e) (Nat.lt_irrefl _)
theorem Rel.new {isL : Bool} {xs : List AV} {vs : List Value} (R : Rel a φ st s) (r : RepL φ xs vs) (t : Nat) :
    Rel a (φ ++ [s.heap.objs.size]) ⟨st.ρ, st.σ ++ [⟨isL, xs⟩]⟩ { s with heap := s.heap.push (seqObj isL vs 0), toks := t } :=
  R.alloc (n := 0) (fun _ _ e => Heap.get?_push_of_some _ e) (get?_size _) (Heap.get?_push_size _ rfl) r rfl rfl (R.held_off (get?_size _))

theorem Rel.setLocal {x : Str} {v : AV} {w : Value} {h' : Heap} {m : Str → Option Value} (R : Rel a φ st s) (hl : a.env.kindOf x = some .local) (r : RepV φ v w) (hm : s.heap.Ns a.env.locals m)
    (hrep : ∀ x v, a.env.kindOf x = some .local → st.ρ x = some v → ∃ w, m x = some w ∧ RepV φ v w)
    (hn : h'.Ns a.env.locals (fun y => if y = x then some w else m y)) (hs : Heap.SameBut a.env.locals s.heap h') (t : Nat) : Rel a φ ⟨upd st.ρ x v, st.σ⟩ { s with heap := h', toks := t } := by
  obtain ⟨oL, es, ep, hL, hLd, _⟩ := id hm
  have oth : ∀ b o, s.heap.get? b = some o → (∀ es n, o.data ≠ .dict es n) → h'.get? b = some o := fun b o e nd => (hs.2 b fun q => by
    subst q; rw [e] at hL; cases hL; exact nd _ _ hLd).trans e
  refine ⟨⟨_, hn, fun y u hk hy => ?_⟩, R.nsNew, fun y u hk hy => ?_, ⟨R.sto.len, R.sto.nodup, fun i o e => ?_⟩, fun b o e => ?_, R.n₀le, R.fresh, fun env he => ?_, R.baseIn, fun p hp => ?_, fun p hp => ⟨(R.nss p hp).1.sameBut hs (R.nss p hp).2, (R.nss p hp).2⟩, fun p hp => ?_, R.pre, R.gens, R.os⟩
  · by_cases q : y = x
    · subst q
      have hy' : some v = some u := by simpa [upd] using hy
      cases hy'
      exact ⟨w, by simp, r⟩
    · have hy' : st.ρ y = some u := by simpa [upd, q] using hy
      obtain ⟨w', e1, e2⟩ := hrep y u hk hy'
      exact ⟨w', by simp [q, e1], e2⟩
  · have q : y ≠ x := fun q => by subst q; rw [hl] at hk; cases hk
    have hy' : st.ρ y = some u := by simpa [upd, q] using hy
    obtain ⟨c, w', e1, ⟨o, e2, e4⟩, e3⟩ := R.cells y u hk hy'
    exact ⟨c, w', e1, ⟨o, oth c o e2 (fun es n z => by rw [e4] at z; cases z), e4⟩, e3⟩
  · obtain ⟨ad, vs, n, h1, h2, h3⟩ := R.sto.obj i o e
    exact ⟨ad, vs, n, h1, h2, oth _ _ h3 seqObj_nodict⟩
  · have hne : b ≠ a.env.locals := fun q => by rw [q, R.nsNew] at e; cases e
    rw [show ({ s with heap := h', toks := t } : Shared).heap = h' from rfl, hs.2 b hne]
    exact R.keep b o e
  · obtain ⟨hk, L, o, es', n, hf, hb, ho, hd⟩ := R.frames env he
    by_cases q : L = a.env.locals
    · subst q
      obtain ⟨o', es2, ep2, ho', hd', _⟩ := hn
      exact ⟨hk, _, o', es2, ep2, hf, hb, ho', hd'⟩
    · exact ⟨hk, L, o, es', n, hf, hb, (hs.2 L q).trans ho, hd⟩
  · obtain ⟨h1, h2, h3, h4⟩ := R.held p hp
    exact ⟨oth _ _ h1 h3, h2, h3, h4⟩
  · obtain ⟨o, e, d⟩ := R.kc p hp
    exact ⟨o, oth _ _ e (fun es n z => by rw [d] at z; cases z), d⟩

theorem Rel.setList {i : Nat} {ad : Addr} {xs : List AV} {vs : List Value} {n : Nat} {h' : Heap} (R : Rel a φ st s) (hi : a.n₀ ≤ i) (hx : ∃ ys, st.σ[i]? = some ⟨true, ys⟩) (had : φ[i]? = some ad) (hs : Heap.SameBut ad s.heap h')
    (he : h'.get? ad = some (seqObj true vs n)) (r : RepL φ xs vs) (t : Nat) : Rel a φ ⟨st.ρ, st.σ.set i ⟨true, xs⟩⟩ { s with heap := h', toks := t } := by
  obtain ⟨ys, hy⟩ := hx
  obtain ⟨ad', ws, k, h1, _, h3⟩ := R.sto.obj i _ hy
  rw [had] at h1
  cases h1
  have oth : ∀ b o, s.heap.get? b = some o → b ≠ ad → h'.get? b = some o := fun b o e nb => (hs.2 b nb).trans e
  have nd : ∀ b o es n, s.heap.get? b = some o → o.data = .dict es n → b ≠ ad := fun b o es n e d q => by
    subst q; rw [h3] at e; cases e; cases d
  refine ⟨?_, R.nsNew, fun y u hk hy => ?_, ⟨by simp [R.sto.len], R.sto.nodup, fun j o e => ?_⟩, fun b o e => ?_, R.n₀le, R.fresh, fun env he' => ?_, R.baseIn, fun p hp => ?_, fun p hp => ?_, fun p hp => ?_, R.pre, R.gens, R.os⟩
  · obtain ⟨m, ⟨o, es, ep, ho, hd, q⟩, h2⟩ := R.ns
    exact ⟨m, ⟨o, es, ep, oth _ _ ho (nd _ _ _ _ ho hd), hd, q⟩, h2⟩
  · obtain ⟨c, w', e1, ⟨o, e2, e4⟩, e3⟩ := R.cells y u hk hy
    exact ⟨c, w', e1, ⟨o, oth c o e2 (fun z => by subst z; rw [h3] at e2; cases e2; cases e4), e4⟩, e3⟩
  · by_cases q : j = i
    · subst q
      have hl : j < st.σ.length := (List.getElem?_eq_some_iff.mp hy).1
      have e' : o = ⟨true, xs⟩ := by simpa [hl] using e.symm
      subst e'
      exact ⟨ad, vs, n, had, r, he⟩
    · rw [List.getElem?_set_ne (Ne.symm q)] at e
      obtain ⟨ad', vs', n', g1, g2, g3⟩ := R.sto.obj j o e
      refine ⟨ad', vs', n', g1, g2, oth _ _ g3 fun z => ?_⟩
      subst z
      obtain ⟨l1, l2⟩ := List.getElem?_eq_some_iff.mp g1
      obtain ⟨l3, l4⟩ := List.getElem?_eq_some_iff.mp had
      exact q (nodup_inj R.sto.nodup l1 l3 (l2.trans l4.symm))
  · have hne : b ≠ ad := fun q => by rw [q, R.fresh i ad hi had] at e; cases e
    rw [show ({ s with heap := h', toks := t } : Shared).heap = h' from rfl, hs.2 b hne]
    exact R.keep b o e
  · obtain ⟨hk, L, o, es', n', hf, hb, ho, hd⟩ := R.frames env he'
    exact ⟨hk, L, o, es', n', hf, hb, oth _ _ ho (nd _ _ _ _ ho hd), hd⟩
  · obtain ⟨g1, g2, g3, g4⟩ := R.held p hp
    exact ⟨oth _ _ g1 fun q => g2 (q ▸ List.mem_iff_getElem?.mpr ⟨i, had⟩), g2, g3, g4⟩
  · obtain ⟨⟨o, es, ep, ho, hd, q⟩, h2⟩ := R.nss p hp
    exact ⟨⟨o, es, ep, oth _ _ ho (nd _ _ _ _ ho hd), hd, q⟩, h2⟩
  · obtain ⟨o, e, d⟩ := R.kc p hp
    exact ⟨o, oth _ _ e (fun z => by rw [z, h3] at e; cases e; cases d), d⟩

theorem Rel.but {I : Addr} {oI : Obj} {s' : Shared} (R : Rel a φ st s) (hI : s.heap.get? I = some oI) (hL : I ≠ a.env.locals) (hφ : I ∉ φ) (hc : ∀ v, oI.data ≠ .cell v) (hf : I ∉ frAddrs a.frs) (hg : a.g₀.get? I = none) (hh : I ∉ a.held.map (·.1)) (hn : I ∉ a.nss.map (·.1))
    (k : ∀ b o, b ≠ I → s.heap.get? b = some o → s'.heap.get? b = some o) (hgn : s'.gens = s.gens) (hos : s'.os = s.os) : Rel a φ st s' := by
  have nc : ∀ c v, s.heap.IsCell c v → c ≠ I := fun c v x q => by
    obtain ⟨o, e, d⟩ := x
    subst q; rw [e] at hI; cases hI; exact hc _ d
  refine ⟨?_, R.nsNew, fun y u hk hy => ?_, ⟨R.sto.len, R.sto.nodup, fun j o e => ?_⟩, fun b o e => ?_, R.n₀le, R.fresh, fun env he => ?_, R.baseIn, fun p hp => ?_, fun p hp => ?_, fun p hp => ?_, R.pre, hgn.trans R.gens, hos.trans R.os⟩
  · obtain ⟨m, ⟨o, es, ep, ho, r⟩, h2⟩ := R.ns
    exact ⟨m, ⟨o, es, ep, k _ _ (Ne.symm hL) ho, r⟩, h2⟩
  · obtain ⟨c, w', e1, e2, e3⟩ := R.cells y u hk hy
    have hne := nc c _ e2
    obtain ⟨o, e2, e4⟩ := e2
    exact ⟨c, w', e1, ⟨o, k c o hne e2, e4⟩, e3⟩
  · obtain ⟨ad, vs, n, h1, h2, h3⟩ := R.sto.obj j o e
    exact ⟨ad, vs, n, h1, h2, k _ _ (fun q => hφ (q ▸ List.mem_iff_getElem?.mpr ⟨j, h1⟩)) h3⟩
  · have hne : b ≠ I := fun q => by rw [q, hg] at e; cases e
    refine ⟨fun n => k b o hne ((R.keep b o e).1 n), fun m => ?_⟩
    obtain ⟨sl, e'⟩ := (R.keep b o e).2 m
    exact ⟨sl, k b _ hne e'⟩
  · obtain ⟨hk, L, o, es', n, hf', hb, ho, hd⟩ := R.frames env he
    exact ⟨hk, L, o, es', n, hf', hb, k _ _ (fun q => hf (q ▸ List.mem_filterMap.mpr ⟨env, he, hf'⟩)) ho, hd⟩
  · obtain ⟨h1, h2, h3, h4⟩ := R.held p hp
    exact ⟨k _ _ (fun q => hh (q ▸ List.mem_map.mpr ⟨p, hp, rfl⟩)) h1, h2, h3, h4⟩
  · obtain ⟨⟨o, es, ep, ho, r⟩, h2⟩ := R.nss p hp
    exact ⟨⟨o, es, ep, k _ _ (fun q => hn (q ▸ List.mem_map.mpr ⟨p, hp, rfl⟩)) ho, r⟩, h2⟩
  · have hne := nc _ _ (R.kc p hp)
    obtain ⟨o, e, d⟩ := R.kc p hp
    exact ⟨o, k _ _ hne e, d⟩
theorem Rel.ns_addr (R : Rel a φ st s) : ∃ o es n, s.heap.get? a.env.locals = some o ∧ o.data = .dict es n := by
  obtain ⟨m, ⟨o, es, ep, ho, hd, _⟩, _⟩ := R.ns
  exact ⟨o, es, ep, ho, hd⟩
theorem Rel.nodict_off (R : Rel a φ st s) {I : Addr} {oI : Obj} (hI : s.heap.get? I = some oI) (hd : ∀ es n, oI.data ≠ .dict es n) : I ≠ a.env.locals ∧ I ∉ a.nss.map (·.1) := by
  refine ⟨fun q => ?_, fun q => ?_⟩
  · obtain ⟨o, es, n, h1, h2⟩ := R.ns_addr
    subst q; rw [hI] at h1; cases h1; exact hd _ _ h2
  · obtain ⟨p, hp, rfl⟩ := List.mem_map.mp q
    obtain ⟨⟨o, es, ep, ho, h2, _⟩, _⟩ := R.nss p hp
    rw [hI] at ho; cases ho; exact hd _ _ h2
theorem Rel.record_off (R : Rel a φ st s) {I : Addr} {oI : Obj} {vs : Array Value} (hI : s.heap.get? I = some oI) (hd : oI.data = .fields vs) : I ∉ φ := fun m => by
  obtain ⟨i, hi⟩ := List.mem_iff_getElem?.mp m
  have hl := (List.getElem?_eq_some_iff.mp hi).1
  rw [R.sto.len] at hl
  obtain ⟨ad', ws, n, h1, _, h3⟩ := R.sto.obj i _ (List.getElem?_eq_getElem hl)
  rw [hi] at h1
  cases h1
  rw [hI] at h3
  cases h3
  cases hd
theorem Rel.butSeq {I : Addr} {oI : Obj} {s' : Shared} (R : Rel a φ st s) (hI : s.heap.get? I = some oI) (hd : ∀ es n, oI.data ≠ .dict es n) (hc : ∀ v, oI.data ≠ .cell v) (hφ : I ∉ φ) (hg : a.g₀.get? I = none) (hh : I ∉ a.held.map (·.1))
    (k : ∀ b o, b ≠ I → s.heap.get? b = some o → s'.heap.get? b = some o) (hgn : s'.gens = s.gens) (hos : s'.os = s.os) : Rel a φ st s' :=
  R.but hI (R.nodict_off hI hd).1 hφ hc (R.frames.off hI hd) hg hh (R.nodict_off hI hd).2 k hgn hos
theorem Rel.butOne {I : Addr} {oI : Obj} {vs : Array Value} {s' : Shared} (R : Rel a φ st s) (hI : s.heap.get? I = some oI) (hd : oI.data = .fields vs) (hg : a.g₀.get? I = none) (hh : I ∉ a.held.map (·.1))
    (k : ∀ b o, b ≠ I → s.heap.get? b = some o → s'.heap.get? b = some o) (hgn : s'.gens = s.gens) (hos : s'.os = s.os) : Rel a φ st s' :=
  R.butSeq hI (fun es n z => by rw [hd] at z; cases z) (fun v z => by rw [hd] at z; cases z) (R.record_off hI hd) hg hh k hgn hos

theorem Rel.hold {I : Addr} {oI : Obj} (R : Rel a φ st s) (hI : s.heap.get? I = some oI) (hn : I ∉ φ) (h1 : ∀ es n, oI.data ≠ .dict es n) (h2 : ∀ v, oI.data ≠ .cell v) : Rel (a.put ((I, oI) :: a.held)) φ st s :=
  ⟨R.ns, R.nsNew, R.cells, R.sto, R.keep, R.n₀le, R.fresh, R.frames, R.baseIn, fun p hp => by
    rcases List.mem_cons.mp hp with rfl | hp
    · exact ⟨hI, hn, h1, h2⟩
    · exact R.held p hp, R.nss, R.kc, R.pre, R.gens, R.os⟩
theorem Rel.unhold {p : Addr × Obj} (R : Rel (a.put (p :: a.held)) φ st s) : Rel a φ st s :=
  ⟨R.ns, R.nsNew, R.cells, R.sto, R.keep, R.n₀le, R.fresh, R.frames, R.baseIn, fun q hq => R.held q (.tail _ hq), R.nss, R.kc, R.pre, R.gens, R.os⟩
theorem Rel.swap {s' : Shared} (R : Rel a φ st s) (hh : s'.heap = s.heap) (hg : s'.gens = s.gens) (ho : s'.os = s.os) : Rel a φ st s' := R.stays (by rw [hh]; exact fun _ _ e => e) hg ho

theorem Rel.called {φ' : List Addr} {σ' : List AO} {s' : Shared} (R : Rel a φ st s) (p : φ <+: φ') (k : KeepR a.frs s.heap s'.heap) (S : StoR φ' σ' s'.heap) (hn : ∀ i ad, φ.length ≤ i → φ'[i]? = some ad → s.heap.get? ad = none)
    (hg : s'.gens = #[]) (ho : s'.os = a.os) : Rel a φ' ⟨st.ρ, σ'⟩ s' := by
  have R' : Rel a φ st s' := R.kept k (hg.trans R.gens.symm) (ho.trans R.os.symm)
  have inew : ∀ ad, ad ∈ φ' → ad ∈ φ ∨ s.heap.get? ad = none := fun ad m => by
    obtain ⟨i, hi⟩ := List.mem_iff_getElem?.mp m
    by_cases q : i < φ.length
    · obtain ⟨t, rfl⟩ := p
      rw [List.getElem?_append_left q] at hi
      exact .inl (List.mem_iff_getElem?.mpr ⟨i, hi⟩)
    · exact .inr (hn i ad (by omega) hi)
  refine ⟨?_, R'.nsNew, ?_, S, R'.keep, Nat.le_trans R.n₀le p.length_le, ?_, R'.frames, R'.baseIn, ?_, R'.nss, R'.kc, R.pre.trans p, R'.gens, R'.os⟩
  · obtain ⟨m, h1, h2⟩ := R'.ns
    exact ⟨m, h1, fun x v q1 q2 => by
      obtain ⟨w, e1, e2⟩ := h2 x v q1 q2
      exact ⟨w, e1, e2.mono p⟩⟩
  · intro x v q1 q2
    obtain ⟨c, w, e1, e2, e3⟩ := R'.cells x v q1 q2
    exact ⟨c, w, e1, e2, e3.mono p⟩
  · intro i ad hi e
    by_cases q : i < φ.length
    · obtain ⟨t, rfl⟩ := p
      rw [List.getElem?_append_left q] at e
      exact R.fresh i ad hi e
    · have hh := hn i ad (by omega) e
      cases z : a.g₀.get? ad with
      | none => rfl
      | some o =>
        obtain ⟨sl, e2⟩ := R.keep.data z
        rw [hh] at e2; cases e2
  · intro q hq
    obtain ⟨h1, h2, h3, h4⟩ := R'.held q hq
    refine ⟨h1, fun m => ?_, h3, h4⟩
    rcases inew _ m with m | m
    · exact h2 m
    · rw [(R.held q hq).1] at m; cases m
end

end Mine

end

section
set_option autoImplicit false
namespace Mine
open PySem

theorem rNone {φ : List Addr} : RepV φ .none .none := rfl
theorem rBool {φ : List Addr} {b : Bool} : RepV φ (.bool b) (.bool b) := rfl
theorem rInt {φ : List Addr} {i : Int} {t : Tok} : RepV φ (.int i) (.int i t) := ⟨t, rfl⟩
theorem rStr {φ : List Addr} {x : Str} {t : Tok} : RepV φ (.str x) (.str x t) := ⟨t, rfl⟩
theorem rRef {φ : List Addr} {i : Nat} {ad : Addr} (h : φ[i]? = some ad) : RepV φ (.ref i) (.ref ad) := ⟨ad, h, rfl⟩
theorem rNew {a : Act} {φ : List Addr} {st : ST} {s : Shared} (R : Rel a φ st s) {ad : Addr} : RepV (φ ++ [ad]) (.ref st.σ.length) (.ref ad) := rRef (by rw [← R.sto.len]; simp)
theorem pre1 {φ : List Addr} {ad : Addr} : φ <+: φ ++ [ad] := ⟨_, rfl⟩
noncomputable abbrev pre0 (φ : List Addr) : φ <+: φ := List.prefix_refl φ

structure Gd where
  prog : Program
  w : World
  Θ : Thy
  base : Heap
  os : OsState
  φ₀ : List Addr
  mg : Str → Option Value
  mb : Str → Option Value
  cls : Str → Addr
  r : Nat

structure Ok (D : Gd) (A : Around) (a : Act) (c : Cx) : Prop where
  κ : ∀ x, c.κ x = a.env.kindOf x
  n₀ : c.n₀ = a.n₀
  base : a.base = D.base
  os : a.os = D.os
  φ₀ : a.φ₀ = D.φ₀
  frames : A.frames = some a.frs
  handled : A.handled = none
  depth : A.depth + D.r < recursionLimit
  units : A.units + 4 * D.r + 100 < cLine
  glob : a.env.globals = mainGlobals
  bi : a.env.builtins = builtinsNs
  kind : a.env.scope.kind = .function
  cells : ∀ x, a.env.kindOf x = some .cell → ∃ ad, a.env.cells.lookup x = some ad
  frame : ∃ L, a.env.frame = some L

noncomputable def Flies (frs : List Env) (h : Heap) (e : Addr) (C : Addr) (h' : Heap) : Prop :=
  ∃ B a0, (∀ b o, h.get? b = some o → b ∉ frAddrs frs → B.get? b = some o) ∧ Heap.FlyingW B frs e (.ref C) a0 h' ∧ h.UpToSlots h'

noncomputable def PostE (a : Act) (φ : List Addr) (QA : KE) (Q : Value → Shared → Prop) : Prop :=
  ∀ φ' st' s' v w, φ <+: φ' → Rel a φ' st' s' → RepV φ' v w → QA v st' → Q w s'
noncomputable def PostB (a : Act) (φ : List Addr) (QA : Bool → ST → Prop) (Q : Bool → Shared → Prop) : Prop :=
  ∀ φ' st' s' b, φ <+: φ' → Rel a φ' st' s' → QA b st' → Q b s'
noncomputable def PostL (a : Act) (φ : List Addr) (QA : List AV → ST → Prop) (Q : List Value → Shared → Prop) : Prop :=
  ∀ φ' st' s' vs ws, φ <+: φ' → Rel a φ' st' s' → RepL φ' vs ws → QA vs st' → Q ws s'
inductive RepF (φ : List Addr) : Fl → Flow → Prop
  | next : RepF φ .next .next
  | brk : RepF φ .brk .brk
  | cont : RepF φ .cont .cont
  | ret {v : AV} {w : Value} : RepV φ v w → RepF φ (.ret v) (.ret w)
noncomputable def PostF (a : Act) (φ : List Addr) (QA : Fl → ST → Prop) (Q : Flow → Shared → Prop) : Prop :=
  ∀ φ' st' s' f g, φ <+: φ' → Rel a φ' st' s' → RepF φ' f g → QA f st' → Q g s'

structure PostX (D : Gd) (a : Act) (φ : List Addr) (X : KX) (E : Value → Shared → Prop) : Prop where
  own : ∀ C st' φ' h e vs s', φ <+: φ' → Rel a φ' st' { s' with heap := h } → Heap.MadeExcOf h s'.heap e (.ref (D.cls C)) vs → X true C st' → E (.ref e) s'
  fly : ∀ C st' φ' h e s', φ <+: φ' → Rel a φ' st' { s' with heap := h } → Flies a.frs h e (D.cls C) s'.heap → X false C st' → E (.ref e) s'

theorem PostX.mono {D : Gd} {a : Act} {φ φ' : List Addr} {X : KX} {E : Value → Shared → Prop} (h : PostX D a φ X E) (p : φ <+: φ') : PostX D a φ' X E :=
  ⟨fun C st' φ'' h' e vs s' q => h.own C st' φ'' h' e vs s' (p.trans q), fun C st' φ'' h' e s' q => h.fly C st' φ'' h' e s' (p.trans q)⟩
theorem PostX.no {D : Gd} {a : Act} {φ : List Addr} {E : Value → Shared → Prop} : PostX D a φ noX E := ⟨fun _ _ _ _ _ _ _ _ _ _ h => h.elim, fun _ _ _ _ _ _ _ _ _ h => h.elim⟩

noncomputable def SndE (D : Gd) (f : Cx → Expr → ST → KE → KX → Prop) : Prop :=
  ∀ e A a c φ st s Q E QA X, Ok D A a c → Rel a φ st s → f c e st QA X → PostE a φ QA Q → PostX D a φ X E → wpAny (model D.prog D.w) A (eval e a.env) Q E s
noncomputable def SndT (D : Gd) (f : Cx → Expr → ST → (Bool → ST → Prop) → KX → Prop) : Prop :=
  ∀ e A a c φ st s Q E QA X, Ok D A a c → Rel a φ st s → f c e st QA X → PostB a φ QA Q → PostX D a φ X E → wpAny (model D.prog D.w) A (isTrue e a.env (eval e a.env)) Q E s
noncomputable def SndS (D : Gd) (f : Cx → Stmt → ST → (Fl → ST → Prop) → KX → Prop) : Prop :=
  ∀ e A a c φ st s Q E QA X, Ok D A a c → (∃ outer, a.frs = a.env :: outer) → Rel a φ st s → f c e st QA X → PostF a φ QA Q → PostX D a φ X E → PassesOwn (model D.prog D.w) A a.env E → wpAny (model D.prog D.w) A (exec e a.env) Q E s

noncomputable def CallJ (D : Gd) (fa : Addr) (P : Fn) : Prop :=
  ∀ A frs φ σ s args vals QA EA (R : Result → Shared → Prop), A.frames = some frs → A.handled = none → A.depth + D.r < recursionLimit → A.units + 4 * D.r + 100 < cLine →
    FrsR s.heap D.base frs → (∀ b o, D.base.get? b = some o → b ∉ frAddrs frs ∧ s.heap.get? b = some o) → StoR φ σ s.heap → D.φ₀ <+: φ → s.gens = #[] → s.os = D.os → RepL φ args vals → P args σ QA EA →
    (∀ φ' σ' s' v w, φ <+: φ' → KeepR frs s.heap s'.heap → StoR φ' σ' s'.heap → (∀ i ad, φ.length ≤ i → φ'[i]? = some ad → s.heap.get? ad = none) → s'.gens = #[] → s'.os = D.os → RepV φ' v w → QA v σ' → R (.ok (.ret w)) s') →
    (∀ C e s', Flies frs s.heap e (D.cls C) s'.heap → s'.gens = #[] → s'.os = D.os → EA C → R (.error (.ref e)) s') →
    codeAny (model D.prog D.w) A (.call (.ref fa) ⟨vals, []⟩) R s

structure Gnd (D : Gd) : Prop where
  g : D.base.Ns mainGlobals D.mg
  b : D.base.Ns builtinsNs D.mb
  nolimit : D.base.NoLimit
  glob : ∀ x v, D.Θ.glob x = some v → ∃ u, D.mg x = some u ∧ RepV D.φ₀ v u
  fn : ∀ f P, D.Θ.fn f = some P → ∃ fa o fd, D.mg f = some (.ref fa) ∧ D.base.get? fa = some o ∧ o.data = .func fd ∧ CallJ D fa P
  len : D.mg "len" = none ∧ D.mb "len" = some (.builtin "len")
  list : D.mg "list" = none ∧ D.mb "list" = some (.type "list")
  min : D.mg "min" = none ∧ D.mb "min" = some (.builtin "min")
  max : D.mg "max" = none ∧ D.mb "max" = some (.builtin "max")
  range : D.mg "range" = none ∧ D.mb "range" = some (.type "range")
  exc : ∀ C, D.Θ.exc C = true → ∃ bmB newId initId B, PyProof.Rows.OwnCls C (D.cls C) bmB newId D.mg D.base ∧ ExcBaseFacts B newId initId bmB

section
variable {D : Gd} {A : Around} {a : Act} {c : Cx} {φ : List Addr} {st : ST} {s : Shared}

theorem Rel.at_base (R : Rel a φ st s) (K : Ok D A a c) : ∀ b o, D.base.get? b = some o → s.heap.get? b = some o := fun b o e => R.baseStays b o (by rw [K.base]; exact e)
theorem Rel.obj (R : Rel a φ st s) {i : Nat} {o : AO} (h : st.σ[i]? = some o) : ∃ ad vs n, φ[i]? = some ad ∧ RepL φ o.items vs ∧ s.heap.get? ad = some (seqObj o.isL vs n) := R.sto.obj i o h
theorem Rel.isSeq (R : Rel a φ st s) {i : Nat} {o : AO} {w : Value} (h : st.σ[i]? = some o) (r : RepV φ (.ref i) w) : ∃ ad vs n, φ[i]? = some ad ∧ w = .ref ad ∧ RepL φ o.items vs ∧ s.heap.get? ad = some (seqObj o.isL vs n) := by
  obtain ⟨ad, vs, n, h1, h2, h3⟩ := R.obj h
  obtain ⟨ad', e1, rfl⟩ := r
  rw [h1] at e1
  cases e1
  exact ⟨ad, vs, n, h1, rfl, h2, h3⟩
theorem small_fits {n : Nat} (h : n ≤ small) : n ≤ sizeLine := by rw [sizeLine_eq]; unfold small at h; omega

mutual
theorem Rel.reads (R : Rel a φ st s) : ∀ {v : AV} {d : PyData} {w : Value}, Tr st.σ v d → RepV φ v w → ∃ as, Reads s.heap w d as
  | _, _, _, .none, r => by cases (r : _ = _); exact ⟨_, .none⟩
  | _, _, _, .bool b, r => by cases (r : _ = _); exact ⟨_, .bool b⟩
  | _, _, _, .int i, r => by obtain ⟨t, rfl⟩ := r; exact ⟨_, .int i t⟩
  | _, _, _, .str x _, r => by obtain ⟨t, rfl⟩ := r; exact ⟨_, .str x t⟩
  | _, _, _, .list h t, r => by
    obtain ⟨ad, vs, n, _, rfl, h2, h3⟩ := R.isSeq h r
    obtain ⟨as, q⟩ := Rel.readsAll R t h2
    exact ⟨_, .list h3 rfl rfl (by simpa using q)⟩
  | _, _, _, .tuple h t, r => by
    obtain ⟨ad, vs, n, _, rfl, h2, h3⟩ := R.isSeq h r
    obtain ⟨as, q⟩ := Rel.readsAll R t h2
    exact ⟨_, .tuple h3 rfl rfl (by simpa using q)⟩
theorem Rel.readsAll (R : Rel a φ st s) : ∀ {vs : List AV} {ds : List PyData} {ws : List Value}, TrAll st.σ vs ds → RepL φ vs ws → ∃ as, ReadsAll s.heap ws ds as
  | _, _, _, .nil, .nil => ⟨_, .nil⟩
  | _, _, _, .cons h t, .cons r q => by
    obtain ⟨as, x⟩ := Rel.reads R h r
    obtain ⟨bs, y⟩ := Rel.readsAll R t q
    exact ⟨_, .cons x y⟩
end
mutual
theorem Tr.lay {σ : List AO} : ∀ {v : AV} {d : PyData}, Tr σ v d → d.canLay0 = true
  | _, _, .none => rfl
  | _, _, .bool _ => rfl
  | _, _, .int _ => rfl
  | _, _, .str _ h => h
  | _, _, .list _ t => TrAll.lay t
  | _, _, .tuple _ t => TrAll.lay t
theorem TrAll.lay {σ : List AO} : ∀ {vs : List AV} {ds : List PyData}, TrAll σ vs ds → PyData.canLayAll0 ds = true
  | _, _, .nil => rfl
  | _, _, .cons h t => by rw [PyData.canLayAll0, Tr.lay h, TrAll.lay t]; rfl
end

theorem snd_args {f : Cx → Expr → ST → KE → KX → Prop} (H : SndE D f) : ∀ (es : List Expr) {A : Around} {a : Act} {c : Cx} {φ : List Addr} {st : ST} {s : Shared} {Q : List Value → Shared → Prop} {E : Value → Shared → Prop} {QA : List AV → ST → Prop} {X : KX} {pos : Pos},
    (∀ e ∈ es, ∀ x p, e ≠ .Starred x p) → Ok D A a c → Rel a φ st s → argsA (f c) es st QA X → PostL a φ QA Q → PostX D a φ X E → wpAny (model D.prog D.w) A (spliced (backTo pos (starEach es a.env))) Q E s
  | [], A, a, c, φ, st, s, Q, E, QA, X, pos, _, K, R, h, hQ, hX => Calls.spliced_nil (hQ φ st s [] [] (List.prefix_refl _) R .nil h)
  | e :: r, A, a, c, φ, st, s, Q, E, QA, X, pos, hn, K, R, h, hQ, hX => by
    have he : starEach (e :: r) a.env = (false, eval e a.env) :: starEach r a.env := by
      cases e <;> first | rfl | exact absurd rfl (hn _ (.head _) _ _)
    refine PyProof.Rows.spliced_more (H e A a c φ st s _ E _ X K R h (fun φ' st' s' v w p R' rv h' => ?_) hX) he
    refine snd_args H r (fun e he => hn e (.tail _ he)) K R' h' (fun φ'' st'' s'' vs ws p' R'' rl q => ?_) (hX.mono p)
    exact hQ φ'' st'' s'' _ _ (p.trans p') R'' (.cons (rv.mono p') rl) q

theorem snd_part {f : Cx → Expr → ST → KE → KX → Prop} (H : SndE D f) (x : Option Expr) {Q : Value → Shared → Prop} {E : Value → Shared → Prop} {QA : KE} {X : KX}
    (K : Ok D A a c) (R : Rel a φ st s) (h : partA (f c) x st QA X) (hQ : PostE a φ QA Q) (hX : PostX D a φ X E) : wpAny (model D.prog D.w) A (evalPart x a.env) Q E s := by
  cases x with
  | none => rw [evalPart_none]; exact wpAny_pure (hQ φ st s _ _ (List.prefix_refl _) R rNone h)
  | some e => rw [evalPart_some]; exact H e A a c φ st s Q E QA X K R h hQ hX
end

section
variable {D : Gd} {A : Around} {a : Act} {c : Cx} {φ : List Addr} {st : ST} {s : Shared} {Q : Value → Shared → Prop} {E : Value → Shared → Prop} {QA : KE} {X : KX}

theorem deb {x : Str} (h : x ≠ "__debug__") : (x == ("__debug__" : Str)) = false := by
  cases q : x == ("__debug__" : Str) with
  | false => rfl
  | true => exact absurd (beq_iff_eq.mp q) h

theorem name_glob (G : Gnd D) (K : Ok D A a c) (R : Rel a φ st s) {x : Str} {p : Pos} {u : Value} (hd : x ≠ "__debug__") (hk : c.κ x = some .globalImplicit) (hu : D.mg x = some u) (h : Q u s) : wpAny (model D.prog D.w) A (eval (.Name x p) a.env) Q E s :=
  Calls.Name_function_global K.kind (by rw [← K.κ]; exact hk) (Calls.loadGlobal_global (by rw [K.glob]; exact G.g.keeps (R.at_base K)) hu h) (deb hd)
theorem name_builtin (G : Gnd D) (K : Ok D A a c) (R : Rel a φ st s) {x : Str} {p : Pos} {u : Value} (hd : x ≠ "__debug__") (hk : c.κ x = some .globalImplicit) (hu : D.mg x = none ∧ D.mb x = some u) (h : Q u s) : wpAny (model D.prog D.w) A (eval (.Name x p) a.env) Q E s :=
  Calls.Name_function_global K.kind (by rw [← K.κ]; exact hk) (Calls.loadGlobal_builtin (by rw [K.glob]; exact G.g.keeps (R.at_base K)) hu.1 (by rw [K.bi]; exact G.b.keeps (R.at_base K)) hu.2 h) (deb hd)

theorem snd_name (G : Gnd D) (K : Ok D A a c) (R : Rel a φ st s) {x : Str} {p : Pos} (hd : x ≠ "__debug__") (h : match c.κ x with
    | some .local => ∃ v, st.ρ x = some v ∧ QA v st
    | some .cell => ∃ v, st.ρ x = some v ∧ QA v st
    | some .globalImplicit => ∃ v, D.Θ.glob x = some v ∧ QA v st
    | _ => False) (hQ : PostE a φ QA Q) : wpAny (model D.prog D.w) A (eval (.Name x p) a.env) Q E s := by
  split at h
  · rename_i hk
    obtain ⟨v, hv, q⟩ := h
    obtain ⟨m, hm, hr⟩ := R.ns
    rw [K.κ] at hk
    obtain ⟨w, e1, e2⟩ := hr x v hk hv
    exact wpAny_Name (wpAny_loadName_local K.kind hk hm e1 (hQ φ st s v w (List.prefix_refl _) R e2 q)) (deb hd)
  · rename_i hk
    obtain ⟨v, hv, q⟩ := h
    rw [K.κ] at hk
    obtain ⟨cl, w, e1, e2, e3⟩ := R.cells x v hk hv
    exact wpAny_Name (wpAny_loadName_cell K.kind hk e1 e2 (hQ φ st s v w (List.prefix_refl _) R e3 q)) (deb hd)
  · rename_i hk
    obtain ⟨v, hv, q⟩ := h
    obtain ⟨u, e1, e2⟩ := G.glob x v hv
    exact name_glob G K R hd hk e1 (hQ φ st s v u (List.prefix_refl _) R (e2.mono (by rw [← K.φ₀]; exact R.pre)) q)
  · exact h.elim

theorem snd_bin (R : Rel a φ st s) {op : Operator} {x y : AV} {v w : Value} (rx : RepV φ x v) (ry : RepV φ y w) (h : binA op x y st.σ fun v σ => QA v ⟨st.ρ, σ⟩) (hQ : PostE a φ QA Q) : wpAny (model D.prog D.w) A (binaryOp op v w) Q E s := by
  cases op with
  | Add =>
    have h : addA x y st.σ fun v σ => QA v ⟨st.ρ, σ⟩ := h
    cases x with
    | int i =>
      obtain ⟨j, rfl, h'⟩ := oneI_inv h
      obtain ⟨t, rfl⟩ := rx; obtain ⟨u, rfl⟩ := ry
      exact PyProof.Rows.add_int (hQ φ st _ _ _ (pre0 φ) (R.tok _) rInt h')
    | ref i =>
      obtain ⟨j, rfl, xs, ys, h1, h2, h3, q⟩ := refA_inv h
      obtain ⟨ad, vs, n, _, rfl, r1, g1⟩ := R.isSeq h1 rx
      obtain ⟨ad', vs', n', _, rfl, r2, g2⟩ := R.isSeq h2 ry
      have l1 := r1.length
      have l2 := r2.length
      dsimp only at l1 l2
      refine P.add_list g1 g2 ?_ (by simp only [List.size_toArray]; exact small_fits (by omega))
      rw [List.append_toArray]
      exact hQ _ _ _ _ _ pre1 (R.new (isL := true) (r1.append r2) s.toks) (rNew R) q
    | _ => exact h.elim
  | Sub =>
    obtain ⟨i, j, rfl, rfl, h'⟩ := intsA_inv h
    obtain ⟨t, rfl⟩ := rx; obtain ⟨u, rfl⟩ := ry
    exact PyProof.Rows.sub_int (hQ φ st _ _ _ (pre0 φ) (R.tok _) rInt h')
  | Mult =>
    obtain ⟨i, j, rfl, rfl, h'⟩ := intsA_inv h
    obtain ⟨t, rfl⟩ := rx; obtain ⟨u, rfl⟩ := ry
    exact PyProof.Rows.mul_int (hQ φ st _ _ _ (pre0 φ) (R.tok _) rInt h'.2.2) (IntMulOk.of_left (intBits_le_64 (by omega) (by omega)))
  | Mod =>
    obtain ⟨i, j, rfl, rfl, h'⟩ := intsA_inv h
    obtain ⟨t, rfl⟩ := rx; obtain ⟨u, rfl⟩ := ry
    exact PyProof.Rows.mod_int h'.1 (hQ φ st _ _ _ (pre0 φ) (R.tok _) rInt h'.2)
  | FloorDiv =>
    obtain ⟨i, j, rfl, rfl, h'⟩ := intsA_inv h
    obtain ⟨t, rfl⟩ := rx; obtain ⟨u, rfl⟩ := ry
    exact PyProof.Rows.floordiv_int h'.1 (hQ φ st _ _ _ (pre0 φ) (R.tok _) rInt h'.2.2) (.inl (PyProof.noPylong_small h'.2.1))
  | _ => exact h.elim

theorem snd_is (R : Rel a φ st s) {x y : AV} {v w : Value} {P : Bool → Prop} (rx : RepV φ x v) (ry : RepV φ y w) (h : isA x y st.σ P) (hQ : ∀ b, P b → Q (.bool b) s) : wpAny (model D.prog D.w) A (compareOp .Is v w) Q E s := by
  cases x with
  | ref i => cases y with
    | ref j =>
      obtain ⟨⟨xs, h1⟩, ⟨o, h2⟩, p⟩ := h
      obtain ⟨ad, vs, n, f1, rfl, r1, g1⟩ := R.isSeq h1 rx
      obtain ⟨ad', vs', n', f2, rfl, r2, g2⟩ := R.isSeq h2 ry
      by_cases q : i = j
      · subst q
        rw [f1] at f2
        cases f2
        exact wpAny_is_ref_self (hQ _ (by simpa using p))
      · have hne : ad ≠ ad' := fun z => by
          subst z
          obtain ⟨l1, l2⟩ := List.getElem?_eq_some_iff.mp f1
          obtain ⟨l3, l4⟩ := List.getElem?_eq_some_iff.mp f2
          exact q (nodup_inj R.sto.nodup l1 l3 (l2.trans l4.symm))
        exact wpAny_is_ref_other hne g1 g2 (by intro z; simp at z) (hQ _ (by simpa [q] using p))
    | none =>
      obtain ⟨ad, _, rfl⟩ := rx
      cases (ry : _ = _)
      exact wpAny_is_other rfl (by intro z; cases z) (hQ _ h)
    | _ => exact h.elim
  | none => cases y with
    | none =>
      cases (rx : _ = _); cases (ry : _ = _)
      exact wpAny_is_self rfl (hQ _ h)
    | _ => exact h.elim
  | str x => cases y with
    | ref j =>
      obtain ⟨t, rfl⟩ := rx
      obtain ⟨ad, _, rfl⟩ := ry
      exact wpAny_is_other rfl (by intro z; cases z) (hQ _ h)
    | _ => exact h.elim
  | _ => exact h.elim

theorem snd_cmp (K : Ok D A a c) (R : Rel a φ st s) {op : CmpOp} {x y : AV} {v w : Value} {P : Bool → Prop} (rx : RepV φ x v) (ry : RepV φ y w) (h : cmpA op x y st.σ P) (hQ : ∀ b, P b → Q (.bool b) s) : wpAny (model D.prog D.w) A (compareOp op v w) Q E s := by
  have eqs : ∀ d e, Tr st.σ x d → Tr st.σ y e → d.depth ≤ 64 → e.depth ≤ 64 → ((P (PyData.eqv d e) → wpAny (model D.prog D.w) A (compareOp .Eq v w) Q E s) ∧ (P (!PyData.eqv d e) → wpAny (model D.prog D.w) A (compareOp .NotEq v w) Q E s)) := fun d e t1 t2 d1 d2 => by
    obtain ⟨as, q1⟩ := R.reads t1 rx
    obtain ⟨bs, q2⟩ := R.reads t2 ry
    have hu : A.units + min d.depth e.depth < cLine := by have := K.units; omega
    exact ⟨fun p => SeqAt.compareEq_reads q1 q2 t1.lay t2.lay hu (hQ _ p), fun p => SeqAt.compareNe_reads q1 q2 t1.lay t2.lay hu (hQ _ p)⟩
  cases op with
  | Lt =>
    obtain ⟨i, j, rfl, rfl, h'⟩ := intsA_inv h
    obtain ⟨t, rfl⟩ := rx; obtain ⟨u, rfl⟩ := ry
    exact PyProof.Rows.lt_int (hQ _ h')
  | LtE =>
    obtain ⟨i, j, rfl, rfl, h'⟩ := intsA_inv h
    obtain ⟨t, rfl⟩ := rx; obtain ⟨u, rfl⟩ := ry
    exact PyProof.Rows.le_int (hQ _ h')
  | Gt =>
    obtain ⟨i, j, rfl, rfl, h'⟩ := intsA_inv h
    obtain ⟨t, rfl⟩ := rx; obtain ⟨u, rfl⟩ := ry
    exact PyProof.Rows.gt_int (hQ _ h')
  | GtE =>
    obtain ⟨i, j, rfl, rfl, h'⟩ := intsA_inv h
    obtain ⟨t, rfl⟩ := rx; obtain ⟨u, rfl⟩ := ry
    exact PyProof.Rows.ge_int (hQ _ h')
  | Is => exact snd_is R rx ry h hQ
  | Eq =>
    obtain ⟨d, e, t1, t2, d1, d2, p⟩ := h
    exact (eqs d e t1 t2 d1 d2).1 p
  | NotEq =>
    obtain ⟨d, e, t1, t2, d1, d2, p⟩ := h
    exact (eqs d e t1 t2 d1 d2).2 p
  | NotIn =>
    obtain ⟨i, rfl, d, o, ds, t1, h1, t2, d1, d2, p⟩ := refA_inv h
    obtain ⟨ad, vs, n, _, rfl, r1, g1⟩ := R.isSeq h1 ry
    obtain ⟨as, q1⟩ := R.reads t1 rx
    obtain ⟨bs, q2⟩ := R.readsAll t2 r1
    have hu : A.units + 1 + min (PyData.depthAll ds) d.depth < cLine := by have := K.units; omega
    obtain ⟨isL, items⟩ := o
    cases isL with
    | true => exact SeqAt.notIn_list_reads (.list g1 rfl rfl (by simpa using q2)) q1 t2.lay t1.lay hu (hQ _ p)
    | false => exact SeqAt.notIn_tuple_reads (.tuple g1 rfl rfl (by simpa using q2)) q1 t2.lay t1.lay hu (hQ _ p)
  | _ => exact h.elim

theorem seqIndex_cases {k : Int} {n j : Nat} (h : seqIndex? k n = some j) : (0 ≤ k ∧ k < n ∧ j = k.toNat) ∨ (k < 0 ∧ -(n : Int) ≤ k ∧ j = (k + n).toNat) := by
  unfold seqIndex? at h
  by_cases q : k < 0
  · simp only [q, if_true] at h
    split at h
    · rename_i hb
      simp only [Bool.and_eq_true, decide_eq_true_eq] at hb
      cases h
      exact .inr ⟨q, by omega, rfl⟩
    · cases h
  · simp only [q, if_false] at h
    split at h
    · rename_i hb
      simp only [Bool.and_eq_true, decide_eq_true_eq] at hb
      cases h
      exact .inl ⟨by omega, by omega, rfl⟩
    · cases h

theorem subs_ops (slice : Expr) (o i : Value) : ∃ ops, subscripted slice false o i = operate ops (getItem o i) := by
  cases slice with
  | Slice lo hi st p => cases st <;> exact ⟨_, rfl⟩
  | _ => exact ⟨_, rfl⟩

theorem snd_item (R : Rel a φ st s) {value slice : Expr} {x y : AV} {v w : Value} {P : AV → Prop} (rx : RepV φ x v) (ry : RepV φ y w) (h : itemA x y st.σ P) (hQ : ∀ u z, RepV φ u z → P u → Q z s) :
    wpAny (model D.prog D.w) A (PyProof.Rows.subscriptTail value slice v w) Q E s := by
  obtain ⟨i, rfl, h'⟩ := refA_inv h
  obtain ⟨k, rfl, o, j, u, h1, h2, h3, h4, h5, p⟩ := oneI_inv h'
  · obtain ⟨ad, vs, n, _, rfl, r1, g1⟩ := R.isSeq h1 rx
    obtain ⟨t, rfl⟩ := ry
    obtain ⟨z, e1, e2⟩ := r1.get h5
    have l1 := r1.length
    obtain ⟨ops, ho⟩ := subs_ops slice (.ref ad) (.int _ t)
    obtain ⟨isL, items⟩ := o
    cases isL with
    | false =>
      have ht : PyProof.Rows.IsTup s.heap ad vs.toArray := ⟨_, g1, rfl, n, rfl⟩
      exact PyProof.Rows.tail_any ht.typeIs PyProof.Rows.slot_tuple_getitem.lookup (PyProof.Rows.getItem_tuple ht (by omega) (by omega) (by simpa [l1] using h4) (by simpa using e1) (hQ _ _ e2 p)) ho
    | true =>
      have hl : s.heap.IsList ad vs.toArray := ⟨_, g1, rfl, n, rfl⟩
      refine PyProof.Rows.tail_any hl.typeIs slot_list_getitem.lookup ?_ ho
      dsimp only at l1 h4
      rcases seqIndex_cases h4 with ⟨q1, q2, rfl⟩ | ⟨q1, q2, rfl⟩
      · exact wpAny_getItem_list hl q1 (by omega) (by simpa using e1) (hQ _ _ e2 p)
      · exact wpAny_getItem_list_neg hl q1 (by simp only [List.size_toArray]; omega) (by omega) (by simpa [l1] using e1) (hQ _ _ e2 p)
end
end Mine

end

section
set_option autoImplicit false
namespace Mine
open PySem

section
variable {D : Gd} {A : Around} {a : Act} {c : Cx} {φ : List Addr} {st : ST} {s : Shared} {Q : Value → Shared → Prop} {E : Value → Shared → Prop} {QA : KE} {X : KX}

theorem isPart_of {φ : List Addr} {v : AV} {w : Value} {k : Option Int} (r : RepV φ v w) (h : partZ v = some k) : IsPart w k := by
  cases v with
  | none => cases (r : _ = _); cases h; exact .none
  | int i => obtain ⟨t, rfl⟩ := r; cases h; exact .int i t
  | _ => cases h

theorem snd_slice (R : Rel a φ st s) {value slice : Expr} {x l h : AV} {v vl vh : Value} {sl : Addr} (rx : RepV φ x v) (rl : RepV φ l vl) (rh : RepV φ h vh) (hs : s.heap.IsSliceOf sl vl vh .none)
    (H : sliceA x l h st.σ fun v σ => QA v ⟨st.ρ, σ⟩) (hQ : PostE a φ QA Q) : wpAny (model D.prog D.w) A (PyProof.Rows.subscriptTail value slice v (.ref sl)) Q E s := by
  unfold sliceA at H
  split at H
  · obtain ⟨xs, lo, hi, h1, h2, h3, h4, q⟩ := H
    obtain ⟨ad, vs, n, _, rfl, r1, g1⟩ := R.isSeq h1 rx
    have l1 := r1.length
    dsimp only at l1 r1
    have hl : s.heap.IsList ad vs.toArray := ⟨_, g1, rfl, n, rfl⟩
    obtain ⟨ops, ho⟩ := subs_ops slice (.ref ad) (.ref sl)
    refine PyProof.Rows.tail_any hl.typeIs slot_list_getitem.lookup (wpAny_getItem_list_slice hl hs (isPart_of rl h3) (isPart_of rh h4) .none (by simp) ?_ (by simp only [List.size_toArray]; exact small_fits (by omega))) ho
    rw [slicePick_plain]
    simp only [List.size_toArray]
    have r2 : RepL φ (sliceL xs lo hi) ((vs.drop (lo.elim 0 (clipAt vs.length))).take (hi.elim vs.length (clipAt vs.length) - lo.elim 0 (clipAt vs.length))) := by
      unfold sliceL
      rw [l1]
      exact (r1.drop _).take _
    exact hQ _ _ _ _ _ pre1 (R.new (isL := true) r2 s.toks) (rNew R) q
  · exact H.elim

theorem noStars_all : ∀ {es : List Expr}, noStars es = true → ∀ e ∈ es, ∀ x p, e ≠ .Starred x p
  | e :: r, h, e', m, x, p, q => by
    subst q
    rcases List.mem_cons.mp m with rfl | m
    · cases h
    · refine noStars_all (es := r) ?_ _ m x p rfl
      cases e <;> first | exact h | cases h

theorem noStar {es : List Expr} {env : Env} {pos : Pos} (h : ∀ e ∈ es, ∀ x p, e ≠ .Starred x p) : (backTo pos (starEach es env)).any (·.1) = false := by
  induction es with
  | nil => rfl
  | cons e r ih =>
    have he : starEach (e :: r) env = (false, eval e env) :: starEach r env := by
      cases e <;> first | rfl | exact absurd rfl (h _ (.head _) _ _)
    rw [he]
    show (false || (backTo pos (starEach r env)).any (·.1)) = false
    rw [ih fun e he => h e (.tail _ he)]
    rfl

theorem snd_evalArgs {f : Cx → Expr → ST → KE → KX → Prop} (H : SndE D f) (es : List Expr) {Q : Args → Shared → Prop} {QA : List AV → ST → Prop} {pos : Pos} {fv : Value}
    (hn : ∀ e ∈ es, ∀ x p, e ≠ .Starred x p) (K : Ok D A a c) (R : Rel a φ st s) (h : argsA (f c) es st QA X) (hQ : PostL a φ QA fun ws s' => Q ⟨ws, []⟩ s') (hX : PostX D a φ X E) :
    wpAny (model D.prog D.w) A (evalArgs fv true (backTo pos (starEach es a.env)) []) Q E s := by
  have hsp := snd_args H es (pos := pos) hn K R h hQ hX
  cases es with
  | nil => exact PyProof.Rows.evalArgs_empty (hQ φ st s [] [] (pre0 φ) R .nil h)
  | cons e r =>
    have he : starEach (e :: r) a.env = (false, eval e a.env) :: starEach r a.env := by
      cases e <;> first | rfl | exact absurd rfl (hn _ (.head _) _ _)
    rw [he] at hsp ⊢
    exact Calls.evalArgs_plain hsp

theorem snd_builtin (G : Gnd D) (K : Ok D A a c) (R : Rel a φ st s) {f : Str} {vs : List AV} {ws : List Value} {u : Value} (r : RepL φ vs ws) (hu : D.mg f = none ∧ D.mb f = some u) (h : builtinA f vs st.σ fun v σ => QA v ⟨st.ρ, σ⟩) (hQ : PostE a φ QA Q) :
    wpAny (model D.prog D.w) A (call u ws) Q E s := by
  unfold builtinA at h
  by_cases hf : f = "len"
  · rw [if_pos hf] at h
    subst hf
    obtain rfl : u = .builtin "len" := by have := hu.2; rw [G.len.2] at this; exact (Option.some.inj this).symm
    obtain ⟨x, rfl, h₁⟩ := one_elim h
    obtain ⟨i, rfl, o, h1, h2, q⟩ := refA_inv h₁
    cases r with
    | cons r0 rr =>
      cases rr
      obtain ⟨ad, vs, n, _, rfl, r1, g1⟩ := R.isSeq h1 r0
      have l1 := r1.length
      obtain ⟨isL, items⟩ := o
      dsimp only at l1 q h2
      have hfit : ((vs.toArray.size : Nat) : Int) < 2 ^ 63 := by simp only [List.size_toArray]; unfold small at h2; omega
      cases isL with
      | true =>
        refine Calls.call_len_list ⟨_, g1, rfl, n, rfl⟩ hfit (hQ φ st _ _ _ (pre0 φ) (R.tok _) rInt ?_)
        simp only [List.size_toArray, l1]; exact q
      | false =>
        refine PyProof.Rows.len_tuple ⟨_, g1, rfl, n, rfl⟩ hfit (hQ φ st _ _ _ (pre0 φ) (R.tok _) rInt ?_)
        simp only [List.size_toArray, l1]; exact q
  rw [if_neg hf] at h
  clear hf
  by_cases hf : f = "list"
  · rw [if_pos hf] at h
    subst hf
    obtain rfl : u = .type "list" := by have := hu.2; rw [G.list.2] at this; exact (Option.some.inj this).symm
    obtain ⟨x, rfl, h₁⟩ := one_elim h
    obtain ⟨i, rfl, xs, h1, h2, q⟩ := refA_inv h₁
    cases r with
    | cons r0 rr =>
      cases rr
      obtain ⟨ad, vs, n, _, rfl, r1, g1⟩ := R.isSeq h1 r0
      have l1 := r1.length
      dsimp only at l1 r1
      refine call_list_seq ad (.inl rfl) g1 rfl rfl (fun h' c' hk hD => ?_) (by simp only [List.size_toArray]; exact small_fits (by omega))
      exact hQ _ _ _ _ _ pre1 (R.alloc (s' := { s with heap := h' }) (isL := true) hk (get?_size _) hD r1 rfl rfl (R.held_off (get?_size _))) (rNew R) q
  rw [if_neg hf] at h
  clear hf
  by_cases hf : f = "min"
  · rw [if_pos hf] at h
    subst hf
    obtain rfl : u = .builtin "min" := by have := hu.2; rw [G.min.2] at this; exact (Option.some.inj this).symm
    obtain ⟨x, y, rfl, h₁⟩ := two_elim h
    obtain ⟨x, y, rfl, rfl, h₂⟩ := intsA_inv h₁
    cases r with
    | cons r0 rr =>
      cases rr with
      | cons r2 rr =>
        cases rr
        obtain ⟨t, rfl⟩ := r0
        obtain ⟨t', rfl⟩ := r2
        refine min_two_ints K.handled fun h' tk hk => ?_
        have R' : Rel a φ st { s with heap := h', toks := tk } := R.stays hk rfl rfl
        by_cases q : y < x
        · rw [if_pos q]; exact hQ φ st _ _ _ (pre0 φ) R' rInt (by rw [Int.min_eq_right (by omega)] at h₂; exact h₂)
        · rw [if_neg q]; exact hQ φ st _ _ _ (pre0 φ) R' rInt (by rw [Int.min_eq_left (by omega)] at h₂; exact h₂)
  rw [if_neg hf] at h
  clear hf
  by_cases hf : f = "max"
  · rw [if_pos hf] at h
    subst hf
    obtain rfl : u = .builtin "max" := by have := hu.2; rw [G.max.2] at this; exact (Option.some.inj this).symm
    obtain ⟨x, y, rfl, h₁⟩ := two_elim h
    obtain ⟨x, y, rfl, rfl, h₂⟩ := intsA_inv h₁
    cases r with
    | cons r0 rr =>
      cases rr with
      | cons r2 rr =>
        cases rr
        obtain ⟨t, rfl⟩ := r0
        obtain ⟨t', rfl⟩ := r2
        refine max_two_ints K.handled fun h' tk hk => ?_
        have R' : Rel a φ st { s with heap := h', toks := tk } := R.stays hk rfl rfl
        by_cases q : y > x
        · rw [if_pos q]; exact hQ φ st _ _ _ (pre0 φ) R' rInt (by rw [Int.max_eq_right (by omega)] at h₂; exact h₂)
        · rw [if_neg q]; exact hQ φ st _ _ _ (pre0 φ) R' rInt (by rw [Int.max_eq_left (by omega)] at h₂; exact h₂)
  rw [if_neg hf] at h
  exact h.elim

theorem snd_own (K : Ok D A a c) (R : Rel a φ st s) {fa : Addr} {P : Fn} {vs : List AV} {ws : List Value} (J : CallJ D fa P) (r : RepL φ vs ws) (h : P vs st.σ (fun v σ => QA v ⟨st.ρ, σ⟩) (fun k => X false k st)) (hQ : PostE a φ QA Q) (hX : PostX D a φ X E) :
    wpAny (model D.prog D.w) A (call (.ref fa) ws) Q E s := by
  refine wpAny_call (J A a.frs φ st.σ s vs ws _ _ _ K.frames K.handled K.depth K.units (by rw [← K.base]; exact R.frames) (fun b o e => ?_) R.sto (by rw [← K.φ₀]; exact R.pre) R.gens (R.os.trans K.os) r h ?_ ?_)
  · have e' : a.base.get? b = some o := by rw [K.base]; exact e
    exact ⟨(R.baseIn b o e').1, R.baseStays b o e'⟩
  · intro φ' σ' s' v w p k S hn hg ho rv q
    exact hQ φ' ⟨st.ρ, σ'⟩ s' v w p (R.called p k S hn hg (ho.trans K.os.symm)) rv q
  · intro C e s' fl hg ho q
    exact hX.fly C st φ s.heap e s' (pre0 φ) (R.swap rfl (hg.trans R.gens.symm) (ho.trans (R.os.trans K.os).symm)) fl q

theorem snd_call {f : Cx → Expr → ST → KE → KX → Prop} (H : SndE D f) (G : Gnd D) (K : Ok D A a c) (R : Rel a φ st s) {g : Str} {np pos : Pos} {es : List Expr} (hn : ∀ e ∈ es, ∀ x p, e ≠ .Starred x p) (hd : g ≠ "__debug__")
    (h : argsA (f c) es st (fun vs st => callA D.Θ c g vs st QA X) X) (hk : c.κ g = some .globalImplicit) (hc : calleeOk D.Θ g)
    (hQ : PostE a φ QA Q) (hX : PostX D a φ X E) : wpAny (model D.prog D.w) A (eval (.Call (.Name g np) es [] pos) a.env) Q E s := by
  refine wpAny_Call_ofName ?_
  have hg : (∃ P, D.Θ.fn g = some P) ∨ (D.Θ.fn g = none ∧ ∃ u, (D.mg g = none ∧ D.mb g = some u) ∧ ((∃ id, u = .builtin id) ∨ ∃ T, u = .type T)) := by
    cases q : D.Θ.fn g with
    | some P => exact .inl ⟨P, rfl⟩
    | none =>
      refine .inr ⟨rfl, ?_⟩
      rcases hc with z | rfl | rfl | rfl | rfl
      · rw [q] at z; cases z
      · exact ⟨_, G.len, .inl ⟨_, rfl⟩⟩
      · exact ⟨_, G.list, .inr ⟨_, rfl⟩⟩
      · exact ⟨_, G.min, .inl ⟨_, rfl⟩⟩
      · exact ⟨_, G.max, .inl ⟨_, rfl⟩⟩
  rcases hg with ⟨P, hP⟩ | ⟨hP, u, hu, hT⟩
  · obtain ⟨fa, o, fd, e1, e2, e3, J⟩ := G.fn g P hP
    refine name_glob G K R hd hk e1 (Calls.callWith_function (o := o) (fd := fd) (snd_evalArgs H es hn K R h (fun φ' st' s' vs ws p R' r q => ?_) hX))
    unfold callA at q
    rw [hP] at q
    exact ⟨⟨R'.at_base K fa o e2, e3⟩, snd_own K R' J r q.2 (fun φ'' st'' s'' v w p' => hQ φ'' st'' s'' v w (p.trans p')) (hX.mono p)⟩
  · refine name_builtin G K R hd hk hu ?_
    have fin : PostL a φ (fun vs st => callA D.Θ c g vs st QA X) fun ws s' => wpAny (model D.prog D.w) A (call u ([] ++ ws) []) Q E s' := fun φ' st' s' vs ws p R' r q => by
      unfold callA at q
      rw [hP] at q
      exact snd_builtin G K R' r hu q.2 (fun φ'' st'' s'' v w p' => hQ φ'' st'' s'' v w (p.trans p'))
    rcases hT with ⟨id, rfl⟩ | ⟨T, rfl⟩
    · exact Calls.callWith_builtin (noStar hn) (snd_evalArgs H es hn K R h fin hX)
    · exact callWith_type (noStar hn) (snd_evalArgs H es hn K R h fin hX)
end
end Mine

end

section
set_option autoImplicit false
namespace Mine
open PySem

inductive ItAt (φ : List Addr) (its : It) (I : Addr) (i : Nat) (h : Heap) : Prop
  | list {id : Nat} {ad : Addr} : its.own = some (id, ⟨true, its.items⟩) → φ[id]? = some ad → h.IsListIter I ad i → ItAt φ its I i h
  | tuple {id : Nat} {ad : Addr} : its.own = some (id, ⟨false, its.items⟩) → φ[id]? = some ad → h.IsTupleIter I ad i → ItAt φ its I i h
  | range {x c : Int} : its.own = none → (∀ k, k < its.items.length → its.items[k]? = some (.int (x + k * c))) → IsRangeIter h I (x + (i : Int) * c) ((its.items.length : Int) - (i : Int)) c → ItAt φ its I i h

section
variable {D : Gd} {A : Around} {a : Act} {c : Cx} {φ : List Addr} {st : ST} {s : Shared} {its : It} {I : Addr} {i : Nat}

theorem ItAt.obj {h : Heap} (x : ItAt φ its I i h) : ∃ o vs, h.get? I = some o ∧ o.data = .fields vs := by
  cases x with
  | list _ _ x => obtain ⟨o, h1, _, h3⟩ := x; exact ⟨o, _, h1, h3⟩
  | tuple _ _ x => obtain ⟨o, h1, _, h3⟩ := x; exact ⟨o, _, h1, h3⟩
  | range _ _ x => exact ⟨_, _, x, rfl⟩
theorem ItAt.at {φ' : List Addr} {h h' : Heap} (x : ItAt φ its I i h) (p : φ <+: φ') (e : ∀ o, h.get? I = some o → h'.get? I = some o) : ItAt φ' its I i h' := by
  have up : ∀ {id : Nat} {ad : Addr}, φ[id]? = some ad → φ'[id]? = some ad := fun {id ad} q => by
    obtain ⟨t, rfl⟩ := p
    rw [List.getElem?_append_left (List.getElem?_eq_some_iff.mp q).1]; exact q
  cases x with
  | list h1 h2 x => obtain ⟨o, e1, r⟩ := x; exact .list h1 (up h2) ⟨o, e o e1, r⟩
  | tuple h1 h2 x => obtain ⟨o, e1, r⟩ := x; exact .tuple h1 (up h2) ⟨o, e o e1, r⟩
  | range h1 h2 x => exact .range h1 h2 (e _ x)

theorem it_next {Q : Option Value → Shared → Prop} {E : Value → Shared → Prop} (K : Ok D A a c) (R : Rel a φ st s) (x : ItAt φ its I i s.heap) (hok : its.ok st.σ) (hg : a.g₀.get? I = none) (hh : I ∉ a.held.map (·.1))
    (item : ∀ v av h' tk, its.items[i]? = some av → RepV φ av v → ItAt φ its I (i + 1) h' → Rel a φ st { s with heap := h', toks := tk } → Q (some v) { s with heap := h', toks := tk })
    (done : ∀ h' tk, i = its.items.length → Rel a φ st { s with heap := h', toks := tk } → Q none { s with heap := h', toks := tk }) (hi : i ≤ its.items.length) :
    wpAny (model D.prog D.w) A (pyNext (.ref I)) Q E s := by
  obtain ⟨oI, ws, hI, hd⟩ := x.obj
  have rel : ∀ h' tk, (∀ b o, b ∉ [I] → s.heap.get? b = some o → h'.get? b = some o) → Rel a φ st { s with heap := h', toks := tk } := fun h' tk k =>
    R.butOne (s' := { s with heap := h', toks := tk }) hI hd hg hh (fun b o nb e => k b o (by simpa using nb) e) rfl rfl
  cases x with
  | @list id ad h1 h2 x =>
    unfold It.ok at hok
    rw [h1] at hok
    obtain ⟨ad', vs, n, e1, r1, g1⟩ := R.obj hok
    rw [h2] at e1
    cases e1
    have l1 := r1.length
    dsimp only at l1 r1
    have hl : s.heap.IsList _ vs.toArray := ⟨_, g1, rfl, n, rfl⟩
    have hne : ad ≠ I := fun q => by subst q; rw [g1] at hI; cases hI; cases hd
    have W := Walks.list (prog := D.prog) (w := D.w) K.handled I ad hne vs.toArray
    by_cases q : i < its.items.length
    · refine W.item i s Q E (by simp [l1, q]) ⟨x, hl⟩ fun v h' tk hP hst hk => ?_
      have hP' : vs[i]? = some v := by simpa using hP
      obtain ⟨w, e2, e3⟩ := r1.get (List.getElem?_eq_getElem q)
      rw [hP'] at e2
      cases e2
      exact item v _ h' tk (List.getElem?_eq_getElem q) e3 (.list h1 h2 hst.1) (rel h' tk hk)
    · have e : i = its.items.length := by omega
      refine W.done s Q E (by simp only [List.size_toArray, l1, ← e]; exact ⟨x, hl⟩) fun h' tk hk => done h' tk e (rel h' tk hk)
  | @tuple id ad h1 h2 x =>
    unfold It.ok at hok
    rw [h1] at hok
    obtain ⟨ad', vs, n, e1, r1, g1⟩ := R.obj hok
    rw [h2] at e1
    cases e1
    have l1 := r1.length
    dsimp only at l1 r1
    have hl : s.heap.IsTuple _ vs.toArray := ⟨_, g1, rfl, n, rfl⟩
    have hne : ad ≠ I := fun q => by subst q; rw [g1] at hI; cases hI; cases hd
    have W := Walks.tuple (prog := D.prog) (w := D.w) K.handled I ad hne vs.toArray
    by_cases q : i < its.items.length
    · refine W.item i s Q E (by simp [l1, q]) ⟨x, hl⟩ fun v h' tk hP hst hk => ?_
      have hP' : vs[i]? = some v := by simpa using hP
      obtain ⟨w, e2, e3⟩ := r1.get (List.getElem?_eq_getElem q)
      rw [hP'] at e2
      cases e2
      exact item v _ h' tk (List.getElem?_eq_getElem q) e3 (.tuple h1 h2 hst.1) (rel h' tk hk)
    · have e : i = its.items.length := by omega
      refine W.done s Q E (by simp only [List.size_toArray, l1, ← e]; exact ⟨x, hl⟩) fun h' tk hk => done h' tk e (rel h' tk hk)
  | @range x0 c0 h1 h2 x =>
    have W := Walks.range (prog := D.prog) (w := D.w) K.handled I x0 c0 its.items.length
    by_cases q : i < its.items.length
    · refine W.item i s Q E q x fun v h' tk hP hst hk => ?_
      obtain ⟨t, rfl⟩ := hP
      exact item _ _ h' tk (h2 i q) rInt (.range h1 h2 hst) (rel h' tk hk)
    · have e : i = its.items.length := by omega
      exact W.done s Q E (by rw [← e] at x ⊢; exact x) fun h' tk hk => done h' tk e (rel h' tk hk)

theorem it_self {Q : Value → Shared → Prop} {E : Value → Shared → Prop} (x : ItAt φ its I i s.heap) (h : Q (.ref I) s) : wpAny (model D.prog D.w) A (pyIter (.ref I)) Q E s := by
  cases x with
  | list _ _ x => exact wpAny_pyIter_listiter x h
  | tuple _ _ x => exact wpAny_pyIter_tupleiter x h
  | range _ _ x => exact wpAny_pyIter_rangeiter x h

theorem small_range {x y d : Int} (hx : -(small : Int) ≤ x) (hx' : x ≤ small) (hy : -(small : Int) ≤ y) (hy' : y ≤ small) (hd : d = 1 ∨ d = -1) (n : Int) (hn : Builtin.Range.rangeSize x y d = n) (hn0 : 0 ≤ n) (hn1 : n ≤ 2 * small) : Builtin.Range.small x y d = true := by
  have hs : (small : Int) = 4096 := rfl
  unfold Builtin.Range.small
  rw [hn]
  simp only [Builtin.Range.rangeFitsLong, Bool.and_eq_true, Bool.or_eq_true, decide_eq_true_eq, beq_iff_eq]
  rcases hd with rfl | rfl
  · refine ⟨⟨⟨⟨?_, ?_⟩, ?_⟩, ?_⟩, .inr ?_⟩ <;> (try simp) <;> omega
  · refine ⟨⟨⟨⟨?_, ?_⟩, ?_⟩, ?_⟩, .inr ?_⟩ <;> (try simp) <;> omega

theorem rangeSize_down (x y : Int) : Builtin.Range.rangeSize x y (-1) = ((x - y).toNat : Int) := by
  unfold Builtin.Range.rangeSize
  simp only [show ¬ ((-1 : Int) > 0) by decide, if_false]
  split
  · simp; omega
  · omega
theorem rangeSize_up (x y : Int) : Builtin.Range.rangeSize x y 1 = ((y - x).toNat : Int) := by
  rw [rangeSize_one]
  split <;> omega

theorem upInts_get (x : Int) (n k : Nat) (h : k < (upInts x n).length) : (upInts x n)[k]? = some (.int (x + k * 1)) := by
  unfold upInts at h ⊢
  have : k < n := by simpa using h
  simp [this]
theorem downInts_get (x : Int) (n k : Nat) (h : k < (downInts x n).length) : (downInts x n)[k]? = some (.int (x + k * (-1))) := by
  unfold downInts at h ⊢
  have : k < n := by simpa using h
  simp [this]
  omega
theorem upInts_length (x : Int) (n : Nat) : (upInts x n).length = n := by simp [upInts]
theorem downInts_length (x : Int) (n : Nat) : (downInts x n).length = n := by simp [downInts]

theorem snd_iter {f : Cx → Expr → ST → KE → KX → Prop} (H : SndE D f) (G : Gnd D) (K : Ok D A a c) (R : Rel a φ st s) (it : Expr) {Q : Value → Shared → Prop} {E : Value → Shared → Prop} {QA : It → ST → Prop} {X : KX}
    (h : iterA D.Θ c (f c) it st QA X) (hX : PostX D a φ X E)
    (hQ : ∀ φ' st' s' its I, φ <+: φ' → Rel a φ' st' s' → QA its st' → its.ok st'.σ → ItAt φ' its I 0 s'.heap → a.g₀.get? I = none → I ∉ a.held.map (·.1) → its.items.length ≤ 2 * small → Q (.ref I) s') :
    wpAny (model D.prog D.w) A (eval it a.env) (fun x s₁ => wpAny (model D.prog D.w) A (pyIter x) Q E s₁) E s := by
  have fresh : ∀ {φ : List Addr} {st : ST} {s : Shared}, Rel a φ st s → a.g₀.get? s.heap.objs.size = none := fun {φ st s} R => by
    cases z : a.g₀.get? s.heap.objs.size with
    | none => rfl
    | some o =>
      obtain ⟨sl, e2⟩ := R.keep.data z
      exact absurd (Heap.lt_size e2) (Nat.lt_irrefl _)
  have seq : ∀ {e : Expr}, f c e st (fun v st => seqItA v st QA) X → wpAny (model D.prog D.w) A (eval e a.env) (fun x s₁ => wpAny (model D.prog D.w) A (pyIter x) Q E s₁) E s := fun {e} h => by
    refine H e A a c φ st s _ E _ X K R h (fun φ' st' s' v w p R' rv q => ?_) hX
    unfold seqItA at q
    split at q
    · rename_i id
      obtain ⟨o, h1, h2, q⟩ := q
      obtain ⟨ad, vs, n, f1, rfl, r1, g1⟩ := R'.isSeq h1 rv
      obtain ⟨isL, items⟩ := o
      cases isL with
      | true =>
        refine wpAny_pyIter_list ⟨_, g1, rfl, n, rfl⟩ ?_
        exact hQ φ' st' _ ⟨items, some (id, ⟨true, items⟩)⟩ s'.heap.objs.size p (R'.push _ _) q h1 (.list rfl f1 ⟨_, Heap.get?_push_size _ rfl, rfl, rfl⟩) (fresh R') (R'.held_off (get?_size _)) (by dsimp only at h2 ⊢; omega)
      | false =>
        refine wpAny_pyIter_tuple ⟨_, g1, rfl, n, rfl⟩ ?_
        exact hQ φ' st' _ ⟨items, some (id, ⟨false, items⟩)⟩ s'.heap.objs.size p (R'.push _ _) q h1 (.tuple rfl f1 ⟨_, Heap.get?_push_size _ rfl, rfl, rfl⟩) (fresh R') (R'.held_off (get?_size _)) (by dsimp only at h2 ⊢; omega)
    · exact q.elim
  have rng : ∀ {φ' : List Addr} {st' : ST} {s' : Shared} {x y d : Int} {t u v : Tok} {xs : List AV}, φ <+: φ' → Rel a φ' st' s' → -(small : Int) ≤ x → x ≤ small → -(small : Int) ≤ y → y ≤ small → (d = 1 ∨ d = -1) →
      Builtin.Range.rangeSize x y d = (xs.length : Int) → (∀ k, k < xs.length → xs[k]? = some (.int (x + k * d))) → QA ⟨xs, none⟩ st' →
      ∀ tk, wpAny (model D.prog D.w) A (pyIter (.ref s'.heap.objs.size)) Q E { s' with heap := s'.heap.push { cls := .type "range", data := .fields #[.int x t, .int y u, .int d v] }, toks := tk } := fun {φ' st' s' x y d t u v xs} p R' hx hx' hy hy' hd hsz hk q tk => by
    have hlen : (xs.length : Int) ≤ 2 * small := by
      rw [← hsz]
      have hs : (small : Int) = 4096 := rfl
      rcases hd with rfl | rfl
      · rw [rangeSize_up]; omega
      · rw [rangeSize_down]; omega
    refine wpAny_pyIter_range (IsRange.new ..) (small_range hx hx' hy hy' hd _ hsz (by omega) hlen) ?_
    refine hQ φ' st' _ ⟨xs, none⟩ _ p ((R'.push _ tk).push _ tk) q trivial (.range (x := x) (c := d) rfl hk ?_) (fresh (R'.push _ tk)) ((R'.push _ tk).held_off (get?_size _)) (by dsimp only; omega)
    show IsRangeIter _ _ (x + ((0 : Nat) : Int) * d) ((xs.length : Int) - ((0 : Nat) : Int)) d
    have e1 : x + ((0 : Nat) : Int) * d = x := by simp
    have e2 : (xs.length : Int) - ((0 : Nat) : Int) = (xs.length : Int) := by simp
    rw [e1, e2, hsz]
    exact Heap.get?_push_size _ rfl
  unfold iterA at h
  have hf := eform it
  generalize eview it = w at hf h
  cases hf with
  | call g args np pos =>
    dsimp only at h
    by_cases hg : g = "range"
    · rw [if_pos hg] at h
      subst hg
      obtain ⟨hn, hk, h⟩ := h
      refine wpAny_Call_ofName (name_builtin G K R (by decide) hk G.range (callWith_type (noStar (noStars_all hn)) (snd_evalArgs H args (noStars_all hn) K R h (fun φ' st' s' vs ws p R' r q => ?_) hX)))
      have hs : (small : Int) = 4096 := rfl
      cases vs with
      | nil => exact q.elim
      | cons a₁ r₁ =>
        obtain ⟨n, rfl, q₁⟩ := oneI_inv q
        cases r with
        | cons r0 rr =>
          obtain ⟨t, rfl⟩ := r0
          cases rr with
          | nil =>
            refine call_range_1 ?_
            exact rng p R' (by omega) (by omega) q₁.1 q₁.2.1 (.inl rfl) (by rw [rangeSize_up, upInts_length]; simp) (upInts_get 0 _) q₁.2.2 _
          | cons r2 rr =>
            obtain ⟨n', rfl, q₂⟩ := oneI_inv q₁
            obtain ⟨t', rfl⟩ := r2
            cases rr with
            | nil =>
              refine call_range_2 ?_
              exact rng p R' q₂.1 q₂.2.1 q₂.2.2.1 q₂.2.2.2.1 (.inl rfl) (by rw [rangeSize_up, upInts_length]) (upInts_get _ _) q₂.2.2.2.2 _
            | cons r3 rr =>
              obtain ⟨n'', rfl, q₃⟩ := oneI_inv q₂
              obtain ⟨t'', rfl⟩ := r3
              cases rr with
              | nil =>
                obtain ⟨rfl, h1, h2, h3, h4, q₃⟩ := q₃
                refine call_range_3 (by decide) ?_ (.inl (PyProof.noPylong_small (by decide)))
                exact rng p R' h1 h2 h3 h4 (.inr rfl) (by rw [rangeSize_down, downInts_length]) (downInts_get _ _) q₃ _
              | cons _ _ => exact q₃.elim
    · rw [if_neg hg] at h
      exact seq h
  | _ => exact seq h
end
end Mine

end

section
set_option autoImplicit false
namespace Mine
open PySem

theorem closure_go {env : Env} (f : Str × NameKind → List (Str × Addr) → Sem (ForInStep (List (Str × Addr))))
    (hf : ∀ n k r, f (n, k) r = if k == .free then (do let a ← cellOf env n; pure (.yield ((n, a) :: r))) else pure (.yield r)) :
    ∀ (names : List (Str × NameKind)) (acc : List (Str × Addr)), (∀ y ∈ names, y.2 = .free → ∃ c, env.cells.lookup y.1 = some c) → (∀ n c, acc.lookup n = some c → env.cells.lookup n = some c) →
      ∃ cl, forIn names acc f = pure cl ∧ (∀ n c, cl.lookup n = some c → env.cells.lookup n = some c) ∧ (∀ y ∈ names, y.2 = .free → ∃ c, cl.lookup y.1 = some c) ∧ (∀ n, (acc.lookup n).isSome = true → (cl.lookup n).isSome = true)
  | [], acc, _, ha => ⟨acc, by simp, ha, fun _ h => (nomatch h), fun _ h => h⟩
  | (n, k) :: r, acc, h, ha => by
    have hr : ∀ y ∈ r, y.2 = .free → ∃ c, env.cells.lookup y.1 = some c := fun y hy => h y (.tail _ hy)
    by_cases hk : k = .free
    · subst hk
      obtain ⟨c, hc⟩ := h (n, .free) (.head _) rfl
      have ha' : ∀ m d, ((n, c) :: acc).lookup m = some d → env.cells.lookup m = some d := fun m d e => by
        rw [List.lookup_cons] at e
        cases q : m == n with
        | true => rw [q] at e; cases e; rw [beq_iff_eq.mp q]; exact hc
        | false => rw [q] at e; exact ha m d e
      obtain ⟨cl, e1, e2, e3, e4⟩ := closure_go f hf r ((n, c) :: acc) hr ha'
      refine ⟨cl, ?_, e2, fun y hy hf' => ?_, fun m hm => e4 m ?_⟩
      · rw [List.forIn_cons, hf]
        simp only [beq_self_eq_true, if_true, cellOf, hc, pure_bind]
        exact e1
      · rcases List.mem_cons.mp hy with rfl | hy
        · exact Option.isSome_iff_exists.mp (e4 n (by simp))
        · exact e3 y hy hf'
      · rw [List.lookup_cons]
        cases q : m == n with
        | true => rfl
        | false => exact hm
    · obtain ⟨cl, e1, e2, e3, e4⟩ := closure_go f hf r acc hr ha
      have hb : (k == NameKind.free) = false := by simpa using hk
      refine ⟨cl, ?_, e2, fun y hy hf' => ?_, e4⟩
      · rw [List.forIn_cons, hf]
        simp only [hb, Bool.false_eq_true, if_false, pure_bind]
        exact e1
      · rcases List.mem_cons.mp hy with rfl | hy
        · exact absurd hf' hk
        · exact e3 y hy hf'

theorem closure_pure {scope : Scope} {env : Env} (h : ∀ y ∈ scope.names, y.2 = .free → ∃ c, env.cells.lookup y.1 = some c) :
    ∃ cl, closureFor scope env = pure cl ∧ (∀ n c, cl.lookup n = some c → env.cells.lookup n = some c) ∧ (∀ y ∈ scope.names, y.2 = .free → ∃ c, cl.lookup y.1 = some c) := by
  obtain ⟨cl, e1, e2, e3, _⟩ := closure_go (env := env) (fun x r => match x with | (n, k) => if k == .free then (do let a ← cellOf env n; pure (.yield ((n, a) :: r))) else pure (.yield r)) (fun _ _ _ => rfl) scope.names [] h (fun _ _ h => nomatch h)
  refine ⟨cl, ?_, e2, e3⟩
  unfold closureFor
  show (forIn scope.names ([] : List (Str × Addr)) _ >>= fun r => pure r) = pure cl
  rw [bind_pure]
  exact e1

theorem relabel_lookup {env : Env} (hk : env.scope.kind = .function) : ∀ {names : List (Str × NameKind)} (x : Str), (∀ y ∈ names, y.2 = .free → env.kindOf y.1 = some .cell) →
    (names.map fun (n, k) => if (k == NameKind.free && env.scope.kind == .function && env.kindOf n == some .cell) then (n, NameKind.cell) else (n, k)).lookup x = (match names.lookup x with | some .free => some .cell | k => k)
  | [], x, _ => rfl
  | (n, k) :: r, x, h => by
    have ih := relabel_lookup hk (names := r) x fun y hy => h y (.tail _ hy)
    rw [List.map_cons]
    by_cases q : k = .free
    · subst q
      have hc := h (n, .free) (.head _) rfl
      have e : (NameKind.free == NameKind.free && env.scope.kind == .function && env.kindOf n == some .cell) = true := by rw [hk, hc]; rfl
      simp only [e, if_true]
      rw [List.lookup_cons, List.lookup_cons, ih]
      cases z : x == n <;> rfl
    · have e : (k == NameKind.free && env.scope.kind == .function && env.kindOf n == some .cell) = false := by
        have : (k == NameKind.free) = false := by simpa using q
        rw [this]; rfl
      simp only [e, Bool.false_eq_true, if_false]
      rw [List.lookup_cons, List.lookup_cons, ih]
      cases z : x == n with
      | false => rfl
      | true => cases k <;> first | rfl | exact absurd rfl q

noncomputable def cellsNow (h : Heap) (cs : List (Str × Addr)) : List (Addr × Option Value) :=
  cs.filterMap fun p => match h.get? p.2 with
    | some o => (match o.data with | .cell v => some (p.2, v) | _ => none)
    | none => none
theorem cellsNow_is {h : Heap} {cs : List (Str × Addr)} : ∀ p ∈ cellsNow h cs, h.IsCell p.1 p.2 := fun p hp => by
  obtain ⟨q, _, e⟩ := List.mem_filterMap.mp hp
  split at e
  · rename_i o ho
    split at e
    · rename_i v hv
      cases e
      exact ⟨o, ho, hv⟩
    · cases e
  · cases e
theorem cellsNow_mem {h : Heap} {cs : List (Str × Addr)} {n : Str} {c : Addr} {v : Option Value} (hc : cs.lookup n = some c) (hv : h.IsCell c v) : (c, v) ∈ cellsNow h cs := by
  obtain ⟨o, ho, hd⟩ := hv
  exact List.mem_filterMap.mpr ⟨(n, c), mem_of_lookup hc, by simp [ho, hd]⟩

section
variable {D : Gd} {A : Around} {a : Act} {c : Cx} {φ : List Addr} {st : ST} {s : Shared}

noncomputable abbrev compAct (a : Act) (cenv : Env) (m : Str → Option Value) (kcs : List (Addr × Option Value)) : Act := { a with env := cenv, nss := (a.env.locals, m) :: a.nss, kc := kcs ++ a.kc }

theorem Rel.enterComp {cenv : Env} {m mc : Str → Option Value} {s' : Shared} {scope : Scope} (R : Rel a φ st s) (hm : s.heap.Ns a.env.locals m) (k : s.heap.StaysIn s'.heap) (hg : s'.gens = s.gens) (ho : s'.os = s.os)
    (hC : s'.heap.Ns cenv.locals mc) (hCn : s.heap.get? cenv.locals = none) (hkl : ∀ x, cenv.kindOf x = some .local → scope.names.lookup x = some .local) (hkc : ∀ x, cenv.kindOf x = some .cell → a.env.kindOf x = some .cell ∧ cenv.cells.lookup x = a.env.cells.lookup x) :
    Rel (compAct a cenv m (cellsNow s.heap a.env.cells)) φ ⟨maskρ scope st.ρ, st.σ⟩ s' := by
  have R' := R.stays k hg ho
  refine ⟨⟨mc, hC, fun x v h1 h2 => ?_⟩, ?_, fun x v h1 h2 => ?_, R'.sto, R'.keep, R'.n₀le, R'.fresh, R'.frames, R'.baseIn, R'.held, fun p hp => ?_, fun p hp => ?_, R'.pre, R'.gens, R'.os⟩
  · have h2' : (if scope.names.lookup x = some .local then none else st.ρ x) = some v := h2
    rw [if_pos (hkl x h1)] at h2'
    cases h2'
  · show a.g₀.get? cenv.locals = none
    cases z : a.g₀.get? cenv.locals with
    | none => rfl
    | some o =>
      obtain ⟨sl, e2⟩ := R.keep.data z
      rw [hCn] at e2; cases e2
  · have h2' : (if scope.names.lookup x = some .local then none else st.ρ x) = some v := h2
    split at h2'
    · cases h2'
    · obtain ⟨q1, q2⟩ := hkc x h1
      obtain ⟨cc, w, e1, e2, e3⟩ := R'.cells x v q1 h2'
      exact ⟨cc, w, q2.trans e1, e2, e3⟩
  · rcases List.mem_cons.mp hp with rfl | hp
    · refine ⟨hm.keeps k, fun q => ?_⟩
      obtain ⟨o, _, _, ho', _⟩ := hm
      have q' : a.env.locals = cenv.locals := q
      rw [q', hCn] at ho'; cases ho'
    · refine ⟨(R'.nss p hp).1, fun q => ?_⟩
      obtain ⟨⟨o, _, _, ho', _⟩, _⟩ := R.nss p hp
      have q' : p.1 = cenv.locals := q
      rw [q', hCn] at ho'; cases ho'
  · rcases List.mem_append.mp hp with hp | hp
    · exact (cellsNow_is p hp).keeps k
    · exact R'.kc p hp

theorem Rel.leaveComp {cenv : Env} {m : Str → Option Value} {φ' : List Addr} {st' : ST} {s' : Shared} (R : Rel a φ st s) (hrep : ∀ x v, a.env.kindOf x = some .local → st.ρ x = some v → ∃ w, m x = some w ∧ RepV φ v w) (p : φ <+: φ')
    (R' : Rel (compAct a cenv m (cellsNow s.heap a.env.cells)) φ' st' s') : Rel a φ' ⟨st.ρ, st'.σ⟩ s' := by
  refine ⟨⟨m, (R'.nss (a.env.locals, m) (.head _)).1, fun x v h1 h2 => ?_⟩, R.nsNew, fun x v h1 h2 => ?_, R'.sto, R'.keep, R'.n₀le, R'.fresh, R'.frames, R'.baseIn, R'.held, fun q hq => ⟨(R'.nss q (.tail _ hq)).1, (R.nss q hq).2⟩, fun q hq => R'.kc q (List.mem_append_right _ hq), R'.pre, R'.gens, R'.os⟩
  · obtain ⟨w, e1, e2⟩ := hrep x v h1 h2
    exact ⟨w, e1, e2.mono p⟩
  · obtain ⟨cc, w, e1, e2, e3⟩ := R.cells x v h1 h2
    exact ⟨cc, w, e1, R'.kc (cc, some w) (List.mem_append_left _ (cellsNow_mem e1 e2)), e3.mono p⟩

theorem Rel.butComp {C : Addr} {m : Str → Option Value} {h' : Heap} (R : Rel a φ st s) (hC : s.heap.Ns C m) (hL : C ≠ a.env.locals) (hf : C ∉ frAddrs a.frs) (hg : a.g₀.get? C = none) (hn : C ∉ a.nss.map (·.1)) (hs : Heap.SameBut C s.heap h') : Rel a φ st { s with heap := h' } := by
  obtain ⟨o, es, ep, ho, hd, _⟩ := hC
  refine R.but (s' := { s with heap := h' }) ho hL (fun q => ?_) (fun v z => by rw [hd] at z; cases z) hf hg (fun q => ?_) hn (fun b o' nb e => (hs.2 b nb).trans e) rfl rfl
  · obtain ⟨i, hi⟩ := List.mem_iff_getElem?.mp q
    have hl := (List.getElem?_eq_some_iff.mp hi).1
    rw [R.sto.len] at hl
    obtain ⟨ad', ws, n, h1, _, h3⟩ := R.sto.obj i _ (List.getElem?_eq_getElem hl)
    rw [hi] at h1
    cases h1
    rw [ho] at h3
    cases h3
    cases hd
  · obtain ⟨p, hp, rfl⟩ := List.mem_map.mp q
    obtain ⟨h1, _, h3, _⟩ := R.held p hp
    rw [ho] at h1
    cases h1
    exact h3 _ _ hd

inductive CompInv (its : It) (I acc₀ : Addr) (φ₁ : List Addr) (B : Act) (C : List AV → List AV → ST → Prop) : Nat → Shared → Prop
  | mk (i : Nat) (φ' : List Addr) (st' : ST) (accs : List AV) (vs : List Value) (n : Nat) {s' : Shared} : φ₁ <+: φ' → Rel B φ' st' s' → ItAt φ' its I i s'.heap → i ≤ its.items.length → s'.heap.get? acc₀ = some (seqObj true vs n) → RepL φ' accs vs → accs.length ≤ i → acc₀ ∉ φ' → C (its.items.drop i) accs st' →
    CompInv its I acc₀ φ₁ B C (its.items.length + 1 - i) s'

set_option maxHeartbeats 1000000 in
theorem snd_compCore {f : Cx → Expr → ST → KE → KX → Prop} {g : Cx → Expr → ST → (Bool → ST → Prop) → KX → Prop} (H : SndE D f) (HT : SndT D g) (G : Gnd D) (K : Ok D A a c) (R : Rel a φ st s) {elt it : Expr} {ifs : List Expr} {scope : Scope} {x : Str} {px pos : Pos}
    {QA : KE} {X : KX} {E : Value → Shared → Prop} {use : Option (Value → Sem Unit)} {Q : Value → Shared → Prop} {cl : List (Str × Addr)}
    (hclos : (∀ n cc, cl.lookup n = some cc → a.env.cells.lookup n = some cc) ∧ (∀ y ∈ scope.names, y.2 = .free → ∃ cc, cl.lookup y.1 = some cc))
    (hok : compOk scope c.κ x)
    (h : iterA D.Θ c (f c) it st (fun its st₁ =>
      compA its (compStep (f ⟨compκ scope, c.n₀⟩) (g ⟨compκ scope, c.n₀⟩) x ifs elt) its.items [] ⟨maskρ scope st₁.ρ, st₁.σ⟩ (fun acc st₂ => QA (.ref st₂.σ.length) ⟨st₁.ρ, st₂.σ ++ [⟨true, acc⟩]⟩)) X) (hX : PostX D a φ X E)
    (post : ∀ φ' st' s' C acc mC, φ <+: φ' → Rel a φ' st' s' → RepV φ' (.ref (st'.σ.length - 1)) (.ref acc) → QA (.ref (st'.σ.length - 1)) st' → s'.heap.Ns C mC → C ≠ a.env.locals → C ∉ frAddrs a.frs → a.g₀.get? C = none → C ∉ a.nss.map (·.1) →
      compPost (model D.prog D.w) A E use Q (.ref acc) C (.ok .next) s') :
    wpAny (model D.prog D.w) A (eval it a.env) (fun x' s₁ => wpAny (model D.prog D.w) A (pyIter x') (fun it' s₂ => wpAny (model D.prog D.w) A (newList []) (fun acc s₃ =>
      wpAny (model D.prog D.w) A (newFunctionEnv scope a.env.globals cl [] a.env.qual none .none (some a.env)) (fun cenv s₄ =>
        codeAny (model D.prog D.w) A (.compStart (.ListComp elt [⟨.Name x px, it, ifs, 0⟩] scope pos) 0 it' acc { cenv with scope := relabel scope a.env }) (compPost (model D.prog D.w) A E use Q acc cenv.locals) s₄) E s₃) E s₂) E s₁) E s := by
  obtain ⟨hkind, hx, hncell, hnames, hfree⟩ := hok
  refine snd_iter H G K R it h hX fun φ₁ st₁ s₁ its I p₁ R₁ hcomp hitok hit hIg hIh hlen => ?_
  have hfree' : ∀ y ∈ scope.names, y.2 = .free → a.env.kindOf y.1 = some .cell := fun y hy hf => by rw [← K.κ]; exact (hfree y hy hf).1
  refine wpAny_newObj_type (wpAny_newFunctionEnv hncell (by intro y hy; simp at hy) (fun h₁ hns₁ hsb₁ => ?_) hkind)
  dsimp only at hns₁ hsb₁ ⊢
  generalize hH2 : s₁.heap.push { cls := .type "list", dict := none, data := .seq ([] : List Value).toArray } = H2 at hns₁ hsb₁ ⊢
  have hC : H2.objs.size = s₁.heap.objs.size + 1 := by rw [← hH2, Heap.size_push]
  have hDC : s₁.heap.objs.size ≠ H2.objs.size := by rw [hC]; exact Nat.ne_of_lt (Nat.lt_succ_self _)
  have old : ∀ b o, s₁.heap.get? b = some o → h₁.get? b = some o := fun b o e => hsb₁.extBut b o (by rw [hC]; exact Nat.ne_of_lt (Nat.lt_succ_of_lt (Heap.lt_size e))) (Heap.get?_push_of_some _ (hH2 ▸ Heap.get?_push_of_some _ e))
  have hacc : h₁.get? s₁.heap.objs.size = some (seqObj true [] 0) := hsb₁.extBut _ _ hDC (Heap.get?_push_of_some _ (hH2 ▸ Heap.get?_push_size _ rfl))
  have fresh : ∀ ad, s₁.heap.objs.size ≤ ad → s₁.heap.get? ad = none := fun ad ha => by
    cases e : s₁.heap.get? ad with
    | none => rfl
    | some o' => exact absurd (Heap.lt_size e) (Nat.not_lt.mpr ha)
  have hCn := fresh H2.objs.size (by rw [hC]; exact Nat.le_succ _)
  have hCf : H2.objs.size ∉ frAddrs a.frs := fun m => by
    obtain ⟨_, o, _, _, ho, _⟩ := R₁.frames.dict m
    rw [hCn] at ho; cases ho
  have hCL : H2.objs.size ≠ a.env.locals := fun q => by
    obtain ⟨o, _, _, ho, _⟩ := R₁.ns_addr
    rw [← q, hCn] at ho; cases ho
  have hCg : a.g₀.get? H2.objs.size = none := by
    cases z : a.g₀.get? H2.objs.size with
    | none => rfl
    | some o =>
      obtain ⟨sl, e2⟩ := R₁.keep.data z
      rw [hCn] at e2; cases e2
  have hCns : H2.objs.size ∉ a.nss.map (·.1) := fun m => by
    obtain ⟨p, hp, e⟩ := List.mem_map.mp m
    obtain ⟨⟨o, _, _, ho, _⟩, _⟩ := R₁.nss p hp
    rw [e, hCn] at ho; cases ho
  have hAn := fresh s₁.heap.objs.size (Nat.le_refl _)
  have hAg : a.g₀.get? s₁.heap.objs.size = none := by
    cases z : a.g₀.get? s₁.heap.objs.size with
    | none => rfl
    | some o =>
      obtain ⟨sl, e2⟩ := R₁.keep.data z
      rw [hAn] at e2; cases e2
  have hIA : I ≠ s₁.heap.objs.size := fun q => by
    obtain ⟨o, _, e, _⟩ := hit.obj
    rw [q, hAn] at e; cases e
  obtain ⟨m, hm, hrep⟩ := R₁.ns
  have hkl : ∀ y, (compEnvC scope cl H2.objs.size a.env).kindOf y = (match scope.names.lookup y with | some .free => some .cell | k => k) := fun y => relabel_lookup K.kind y hfree'
  have R₂ : Rel (compAct a (compEnvC scope cl H2.objs.size a.env) m (cellsNow s₁.heap a.env.cells)) φ₁ ⟨maskρ scope st₁.ρ, st₁.σ⟩ { s₁ with heap := h₁ } := by
    refine R₁.enterComp (s' := { s₁ with heap := h₁ }) hm old rfl rfl hns₁ hCn (fun y hy => ?_) fun y hy => ?_
    · rw [hkl] at hy
      split at hy
      · cases hy
      · exact hy
    · rw [hkl] at hy
      split at hy
      · rename_i hq
        have hmem := mem_of_lookup hq
        refine ⟨hfree' _ hmem rfl, ?_⟩
        obtain ⟨cc, hcc⟩ := hclos.2 _ hmem rfl
        show cl.lookup y = _
        rw [hcc]
        exact (hclos.1 _ _ hcc).symm
      · exact absurd rfl (hncell _ (mem_of_lookup hy))
  have K₂ : ∀ hd, Ok D A ((compAct a (compEnvC scope cl H2.objs.size a.env) m (cellsNow s₁.heap a.env.cells)).put hd) ⟨compκ scope, c.n₀⟩ := fun hd =>
    ⟨fun y => (hkl y).symm, K.n₀, K.base, K.os, K.φ₀, K.frames, K.handled, K.depth, K.units, K.glob, K.bi, hkind, fun y hy => by
      rw [show Act.env ((compAct a (compEnvC scope cl H2.objs.size a.env) m (cellsNow s₁.heap a.env.cells)).put hd) = compEnvC scope cl H2.objs.size a.env from rfl, hkl] at hy
      split at hy
      · rename_i hq
        exact hclos.2 _ (mem_of_lookup hq) rfl
      · exact absurd rfl (hncell _ (mem_of_lookup hy)), K.frame⟩
  have hheld : ∀ {φ' : List Addr} {st' : ST} {s' : Shared}, Rel (compAct a (compEnvC scope cl H2.objs.size a.env) m (cellsNow s₁.heap a.env.cells)) φ' st' s' → s₁.heap.objs.size ∉ a.held.map (·.1) := fun _ q => by
    obtain ⟨p, hp, e⟩ := List.mem_map.mp q
    have := (R₁.held p hp).1
    rw [e, hAn] at this; cases this
  have loop : ∀ s₃ : Shared, s₃ = { s₁ with heap := h₁, toks := s₁.toks + ([] : List (Str × Value)).length } →
      codeAny (model D.prog D.w) A (.compLoop (.ListComp elt [⟨.Name x px, it, ifs, 0⟩] scope pos) 0 (.ref I) (.ref s₁.heap.objs.size) (compEnvC scope cl H2.objs.size a.env))
        (compPost (model D.prog D.w) A E use Q (.ref s₁.heap.objs.size) H2.objs.size) s₃ := by
    rintro s₃ rfl
    refine codeAny_compLoop_tests
      (CompInv its I s₁.heap.objs.size φ₁ (compAct a (compEnvC scope cl H2.objs.size a.env) m (cellsNow s₁.heap a.env.cells)) fun items accs st' =>
        compA its (compStep (f ⟨compκ scope, c.n₀⟩) (g ⟨compκ scope, c.n₀⟩) x ifs elt) items accs st' (fun acc st₂ => QA (.ref st₂.σ.length) ⟨st₁.ρ, st₂.σ ++ [⟨true, acc⟩]⟩)) ?_ (its.items.length + 1)
      (.mk 0 φ₁ _ [] [] 0 (pre0 φ₁) (R₂.tok _) (hit.at (pre0 φ₁) (fun o e => old _ _ e)) (Nat.zero_le _) hacc .nil (Nat.le_refl _) (fun q => by
        obtain ⟨o, e⟩ := R₁.addr_some q
        rw [hAn] at e; cases e) (by simpa using hcomp))
    rintro k s' ⟨i, φ', st', accs, vs, n, p', R', hit', hi, hobj, racc, haccl, haφ, hco⟩
    have hok' : its.ok st'.σ := by
      cases hq : its.items.drop i with
      | nil => rw [hq] at hco; exact hco.1
      | cons y ys => rw [hq] at hco; exact hco.1
    have RH := R'.hold hobj haφ seqObj_nodict (fun v z => nomatch z)
    refine it_next (K₂ ((s₁.heap.objs.size, seqObj true vs n) :: a.held)) RH hit' hok' hIg (fun q => ?_) (fun v av h' tk hav rav hit₂ R₃ => ?_) (fun h' tk he R₃ => ?_) hi
    · rcases List.mem_cons.mp q with q | q
      · exact hIA q
      · exact hIh q
    · have hlt : i < its.items.length := (List.getElem?_eq_some_iff.mp hav).1
      have hdrop : its.items.drop i = av :: its.items.drop (i + 1) := by
        rw [List.drop_eq_getElem_cons hlt]
        congr 1
        exact (List.getElem?_eq_some_iff.mp hav).2
      rw [hdrop] at hco
      obtain ⟨_, hco⟩ := hco
      obtain ⟨m₃, hm₃, hrep₃⟩ := R₃.ns
      have hxl : (compEnvC scope cl H2.objs.size a.env).kindOf x = some .local := by rw [hkl, hx]
      refine wpAny_assign_Name (wpAny_storeName_local hxl hm₃ (fun h₄ hn₄ hs₄ => ?_) (by rw [show (compEnvC scope cl H2.objs.size a.env).scope.kind = .function from hkind]; rfl))
      have R₄ := R₃.setLocal (v := av) hxl rav hm₃ hrep₃ hn₄ hs₄ (tk + 1)
      have hit₄ : ItAt φ' its I (i + 1) h₄ := hit₂.at (pre0 φ') fun o e => by
        obtain ⟨o', vs', e', d'⟩ := hit₂.obj
        refine (hs₄.2 I fun q => ?_).trans e
        obtain ⟨o2, es2, ep2, ho2, hd2, _⟩ := hm₃
        have ho2' : h'.get? I = some o2 := by rw [q]; exact ho2
        rw [e'] at ho2'
        cases ho2'
        rw [d'] at hd2
        cases hd2
      obtain ⟨oI, vsI, hoI, hdI⟩ := hit₄.obj
      have R₅ := R₄.hold (I := I) (oI := oI) hoI (R₄.record_off hoI hdI) (fun es n z => by rw [hdI] at z; cases z) (fun v z => by rw [hdI] at z; cases z)
      have stay : ∀ {φ'' : List Addr} {st'' : ST} {s'' : Shared}, φ' <+: φ'' → Rel ((compAct a (compEnvC scope cl H2.objs.size a.env) m (cellsNow s₁.heap a.env.cells)).put ((I, oI) :: (s₁.heap.objs.size, seqObj true vs n) :: a.held)) φ'' st'' s'' →
          ItAt φ'' its I (i + 1) s''.heap ∧ s''.heap.get? s₁.heap.objs.size = some (seqObj true vs n) ∧ s₁.heap.objs.size ∉ φ'' ∧ Rel (compAct a (compEnvC scope cl H2.objs.size a.env) m (cellsNow s₁.heap a.env.cells)) φ'' st'' s'' := fun {φ'' st'' s''} p R₆ => by
        refine ⟨hit₄.at p fun o e => ?_, (R₆.held _ (.tail _ (.head _))).1, (R₆.held _ (.tail _ (.head _))).2.1, R₆.unhold.unhold⟩
        rw [hoI] at e
        cases e
        exact (R₆.held _ (.head _)).1
      have tests : wpAny (model D.prog D.w) A (forIn ifs true fun c r => if r = true then do let ok ← isTrue c (compEnvC scope cl H2.objs.size a.env) (eval c (compEnvC scope cl H2.objs.size a.env)); pure (ForInStep.yield ok) else pure (ForInStep.yield r))
          (fun ok s₃ => ∃ φ'' st'', φ' <+: φ'' ∧ Rel ((compAct a (compEnvC scope cl H2.objs.size a.env) m (cellsNow s₁.heap a.env.cells)).put ((I, oI) :: (s₁.heap.objs.size, seqObj true vs n) :: a.held)) φ'' st'' s₃ ∧
            (if ok then f ⟨compκ scope, c.n₀⟩ elt st'' (fun v st => compA its (compStep (f ⟨compκ scope, c.n₀⟩) (g ⟨compκ scope, c.n₀⟩) x ifs elt) (its.items.drop (i + 1)) (accs ++ (some v).toList) st (fun acc st₂ => QA (.ref st₂.σ.length) ⟨st₁.ρ, st₂.σ ++ [⟨true, acc⟩]⟩)) noX else compA its (compStep (f ⟨compκ scope, c.n₀⟩) (g ⟨compκ scope, c.n₀⟩) x ifs elt) (its.items.drop (i + 1)) (accs ++ (none : Option AV).toList) st'' (fun acc st₂ => QA (.ref st₂.σ.length) ⟨st₁.ρ, st₂.σ ++ [⟨true, acc⟩]⟩)))
          (notedBy (model D.prog D.w) A (compEnvC scope cl H2.objs.size a.env) fun e s' => compPost (model D.prog D.w) A E use Q (.ref s₁.heap.objs.size) H2.objs.size (.error e) s') { s' with heap := h₄, toks := tk + 1 } := by
        unfold compStep condA at hco
        split at hco
        · exact wpAny_tests_nil ⟨φ', _, pre0 φ', R₅, hco⟩
        · refine wpAny_tests_one (HT _ A _ _ φ' _ _ _ _ _ noX (K₂ _) R₅ hco (fun φ'' st'' s'' b p R₆ q => ⟨φ'', st'', p, R₆, q⟩) PostX.no)
        · exact hco.elim
      refine wpAny_mono tests (fun ok s₅ h₅ => ?_) fun _ _ e => e
      obtain ⟨φ'', st'', p'', R₆, hq⟩ := h₅
      cases ok with
      | false =>
        simp only [Bool.false_eq_true, if_false] at hq ⊢
        obtain ⟨q1, q2, q3, q4⟩ := stay p'' R₆
        exact ⟨_, by omega, .mk (i + 1) φ'' st'' accs vs n (p'.trans p'') q4 q1 hlt q2 (racc.mono p'') (by omega) q3 (by simpa using hq)⟩
      | true =>
        simp only [if_true] at hq ⊢
        refine H elt A _ _ φ'' st'' s₅ _ _ _ noX (K₂ _) R₆ hq (fun φ₇ st₇ s₇ v w p₇ R₇ rv q₇ => ?_) PostX.no
        obtain ⟨q1, q2, q3, q4⟩ := stay (p''.trans p₇) R₇
        have hsz : vs.length ≤ sizeLine := by
          have := racc.length
          have hs : small = 4096 := rfl
          exact Nat.le_trans (show vs.length ≤ 2 * small by omega) (by rw [sizeLine_eq]; omega)
        refine wpAny_list_append_plain ⟨n, q2⟩ (fun h₈ hl₈ hs₈ => ?_) (by simpa using hsz)
        obtain ⟨n₈, e₈⟩ := hl₈
        rw [List.push_toArray] at e₈
        have R₈ : Rel (compAct a (compEnvC scope cl H2.objs.size a.env) m (cellsNow s₁.heap a.env.cells)) φ₇ st₇ { s₇ with heap := h₈ } :=
          q4.butSeq (s' := { s₇ with heap := h₈ }) q2 seqObj_nodict (fun v z => nomatch z) q3 hAg (hheld q4) (fun b o nb e => (hs₈.2 b nb).trans e) rfl rfl
        refine ⟨_, by omega, .mk (i + 1) φ₇ st₇ (accs ++ [v]) (vs ++ [w]) n₈ ((p'.trans p'').trans p₇) R₈ (q1.at (pre0 φ₇) (fun o e => (hs₈.2 I hIA).trans e)) hlt e₈ ((racc.mono (p''.trans p₇)).append (.cons rv .nil)) (by simp; omega) q3 (by simpa using q₇)⟩
    · -- the end
      subst he
      simp only [List.drop_length] at hco
      obtain ⟨_, hq⟩ := hco
      have hobj₃ : h'.get? s₁.heap.objs.size = some (seqObj true vs n) := (R₃.held _ (.head _)).1
      have R₄ := R₁.leaveComp (s' := { s' with heap := h', toks := tk }) hrep p' R₃.unhold
      obtain ⟨mC, hmC, _⟩ := R₃.ns
      have haφ' := (R₃.held _ (.head _)).2.1
      have R₅ : Rel a (φ' ++ [s₁.heap.objs.size]) ⟨st₁.ρ, st'.σ ++ [⟨true, accs⟩]⟩ { s' with heap := h', toks := tk } :=
        R₄.adopt haφ' hobj₃ hAg racc (hheld R₃.unhold)
      refine post (φ' ++ [s₁.heap.objs.size]) ⟨st₁.ρ, st'.σ ++ [⟨true, accs⟩]⟩ _ H2.objs.size s₁.heap.objs.size mC ((p₁.trans p').trans pre1) R₅ ?_ ?_ hmC hCL hCf hCg hCns
      · have := rNew R₄ (ad := s₁.heap.objs.size)
        simpa using this
      · simpa using hq
  exact codeAny_compStart_list (loop _ rfl) (it_self (hit.at (pre0 φ₁) fun o e => old _ _ e) (loop _ rfl))

theorem snd_comp {f : Cx → Expr → ST → KE → KX → Prop} {g : Cx → Expr → ST → (Bool → ST → Prop) → KX → Prop} (H : SndE D f) (HT : SndT D g) (G : Gnd D) (K : Ok D A a c) (R : Rel a φ st s) {elt it : Expr} {ifs : List Expr} {scope : Scope} {x : Str} {px pos : Pos}
    {QA : KE} {X : KX} {E : Value → Shared → Prop} {Q : Value → Shared → Prop} (hs : notSet it = true) (hok : compOk scope c.κ x)
    (h : iterA D.Θ c (f c) it st (fun its st₁ => compA its (compStep (f ⟨compκ scope, c.n₀⟩) (g ⟨compκ scope, c.n₀⟩) x ifs elt) its.items [] ⟨maskρ scope st₁.ρ, st₁.σ⟩ (fun acc st₂ => QA (.ref st₂.σ.length) ⟨st₁.ρ, st₂.σ ++ [⟨true, acc⟩]⟩)) X)
    (hQ : PostE a φ QA Q) (hX : PostX D a φ X E) : wpAny (model D.prog D.w) A (eval (.ListComp elt [⟨.Name x px, it, ifs, 0⟩] scope pos) a.env) Q E s := by
  obtain ⟨cl, hcl, hc1, hc2⟩ := closure_pure (scope := scope) (env := a.env) fun y hy hf => K.cells _ (by rw [← K.κ]; exact (hok.2.2.2.2 y hy hf).1)
  rw [eval_ListComp]
  have hs' : ∀ v, foldedSetIterable it a.env v = pure v := by intro v; cases it <;> first | rfl | cases hs
  refine wpAny_comprehension_free (use := none) rfl hs' hcl hok.1 hok.2.2.2.1 (snd_compCore H HT G K R ⟨hc1, hc2⟩ hok h hX fun φ' st' s' C acc mC p R' rv q hC hCL hCf hCg hCn => ?_)
  exact ⟨mC, hC, fun h' hs' => hQ φ' st' _ _ _ p (R'.butComp hC hCL hCf hCg hCn hs') rv q⟩
end
end Mine

end

section
set_option autoImplicit false
namespace Mine
open PySem

structure Snd (D : Gd) (S : Sm) : Prop where
  e : SndE D S.e
  t : SndT D S.t
  s : SndS D S.s

section
variable {D : Gd}

theorem len_toString_int {i : Int} (h : i.natAbs < 10 ^ 9) : (Str.ofString (toString i)).length ≤ 16 := by
  rw [PySem.ofString_length]
  have := int_text_length_le10 (k := 9) (by decide) h
  omega

theorem snd_fstr {f : Cx → Expr → ST → KE → KX → Prop} (H : SndE D f) {A : Around} {a : Act} {c : Cx} {φ : List Addr} {st : ST} {s : Shared} {Q : Value → Shared → Prop} {E : Value → Shared → Prop} {QA : KE} {X : KX} {x y : Str} {e : Expr} {k₁ k₃ : Nat} {p₁ p₂ p₃ : Pos}
    (hx : x.length ≤ 64) (hy : y.length ≤ 64) (K : Ok D A a c) (R : Rel a φ st s) (h : f c e st (fun v st => oneI v fun i => i.natAbs < 10 ^ 9 ∧ QA (.str (Str.empty ++ x ++ Str.ofString (toString i) ++ y)) st) X) (hQ : PostE a φ QA Q) (hX : PostX D a φ X E) :
      Joins (model D.prog D.w) A E (evalEach [.Constant (.str x) k₁ p₁, .FormattedValue e (-1) none p₂, .Constant (.str y) k₃ p₃] a.env) Str.empty (fun out s₁ => out.length ≤ sizeLine ∧ Q (.str out s₁.toks) { s₁ with toks := s₁.toks + 1 }) s := by
  have l0 : (Str.empty ++ x).length ≤ 64 := by rw [Str.length_append]; exact Nat.le_trans (Nat.le_of_eq (Nat.zero_add _)) hx
  refine wpAny_Constant_str ⟨x, _, rfl, by rw [sizeLine_eq]; exact Nat.le_trans l0 (by decide), ?_⟩
  refine wpAny_FormattedValue_plain (H e A a c φ st _ _ E _ X K (R.tok _) h (fun φ' st' s' av w p R' rv q => ?_) hX)
  obtain ⟨i, rfl, hi, q⟩ := oneI_inv q
  obtain ⟨t, rfl⟩ := rv
  have hlog : i.natAbs.log2 < 1920 := by
    by_cases z : i.natAbs = 0
    · rw [z]; decide
    · exact (Nat.log2_lt z).mpr (Nat.lt_of_lt_of_le hi (by decide +kernel))
  have l1 : (Str.empty ++ x ++ Str.ofString (toString i)).length ≤ 80 := by rw [Str.length_append]; exact Nat.add_le_add l0 (len_toString_int hi)
  have l2 : (Str.empty ++ x ++ Str.ofString (toString i) ++ y).length ≤ 144 := by rw [Str.length_append]; exact Nat.add_le_add l1 hy
  refine wpAny_formatField_int hlog ⟨_, _, rfl, by rw [sizeLine_eq]; exact Nat.le_trans l1 (by decide), ?_⟩
  refine wpAny_Constant_str ⟨y, _, rfl, by rw [sizeLine_eq]; exact Nat.le_trans l2 (by decide), ?_⟩
  exact ⟨by rw [sizeLine_eq]; exact Nat.le_trans l2 (by decide), hQ φ' st' _ _ _ p (((R'.tok _).tok _).tok _) rStr q⟩

theorem step_sndE {S : Sm} (G : Gnd D) (H : Snd D S) : SndE D (stepE D.Θ S) := by
  intro e A a c φ st s Q E QA X K R h hQ hX
  have hf := eform e
  have h : stepEw D.Θ S c (eview e) st QA X := h
  generalize eview e = w at hf h
  cases hf with
  | const k kk kp =>
    cases k with
    | none => exact wpAny_Constant_none (hQ φ st _ _ _ (pre0 φ) R rNone h)
    | bool => exact wpAny_Constant_bool (hQ φ st _ _ _ (pre0 φ) R rBool h)
    | int => exact wpAny_Constant_int (hQ φ st _ _ _ (pre0 φ) (R.tok _) rInt h)
    | str => exact wpAny_Constant_str (hQ φ st _ _ _ (pre0 φ) (R.tok _) rStr h)
    | _ => exact h.elim
  | name x p =>
    have h : nameA D.Θ c x st QA := h
    exact snd_name G K R h.1 h.2 hQ
  | bin l op r pos =>
    refine wpAny_BinOp (H.e _ A a c φ st s _ E _ X K R h (fun φ₁ st₁ s₁ x v p₁ R₁ rx h₁ => ?_) hX)
    refine H.e _ A a c φ₁ st₁ s₁ _ E _ X K R₁ h₁ (fun φ₂ st₂ s₂ y w p₂ R₂ ry h₂ => ?_) (hX.mono p₁)
    exact snd_bin R₂ (rx.mono p₂) ry h₂ (fun φ' st' s' v w p => hQ φ' st' s' v w ((p₁.trans p₂).trans p))
  | un op x pos =>
    obtain ⟨rfl, h'⟩ := h
    refine wpAny_UnaryOp (H.e _ A a c φ st s _ E _ X K R h' (fun φ₁ st₁ s₁ x v p₁ R₁ rx h₁ => ?_) hX)
    cases x with
    | int i =>
      obtain ⟨t, rfl⟩ := rx
      exact PyProof.Rows.neg_int (hQ φ₁ st₁ _ _ _ p₁ (R₁.tok _) rInt h₁)
    | _ => exact h₁.elim
  | tup es kk pos =>
    obtain ⟨hn, h⟩ := h
    refine wpAny_Tuple (snd_args H.e _ (noStars_all hn) K R h (fun φ₁ st₁ s₁ vs ws p₁ R₁ r h₁ => ?_) hX)
    exact ⟨small_fits (by rw [r.length]; exact h₁.1), hQ _ _ _ _ _ (p₁.trans pre1) (R₁.new (isL := false) r s₁.toks) (rNew R₁) h₁.2⟩
  | lst es pos =>
    obtain ⟨hn, h⟩ := h
    refine wpAny_List (snd_args H.e _ (noStars_all hn) K R h (fun φ₁ st₁ s₁ vs ws p₁ R₁ r h₁ => ?_) hX)
    exact ⟨small_fits (by rw [r.length]; exact h₁.1), hQ _ _ _ _ _ (p₁.trans pre1) (R₁.new (isL := true) r s₁.toks) (rNew R₁) h₁.2⟩
  | cut v lo hi sp pos =>
      refine PyProof.Rows.Subscript_ (H.e _ A a c φ st s _ E _ X K R h (fun φ₁ st₁ s₁ x v p₁ R₁ rx h₁ => ?_) hX)
      refine wpAny_Slice (snd_part H.e _ K R₁ h₁ (fun φ₂ st₂ s₂ l vl p₂ R₂ rl h₂ => ?_) (hX.mono p₁))
      refine snd_part H.e _ K R₂ h₂ (fun φ₃ st₃ s₃ y vh p₃ R₃ rh h₃ => ?_) (hX.mono (p₁.trans p₂))
      rw [evalPart_none]
      refine wpAny_pure ?_
      exact snd_slice (R₃.push _ s₃.toks) ((rx.mono p₂).mono p₃) (rl.mono p₃) rh (Heap.IsSliceOf.new ..) h₃ (fun φ' st' s' v w p => hQ φ' st' s' v w (((p₁.trans p₂).trans p₃).trans p))
  | item v i pos =>
      refine PyProof.Rows.Subscript_ (H.e _ A a c φ st s _ E _ X K R h (fun φ₁ st₁ s₁ x v p₁ R₁ rx h₁ => ?_) hX)
      refine H.e _ A a c φ₁ st₁ s₁ _ E _ X K R₁ h₁ (fun φ₂ st₂ s₂ y w p₂ R₂ ry h₂ => ?_) (hX.mono p₁)
      exact snd_item R₂ (rx.mono p₂) ry h₂ (fun u z r q => hQ φ₂ st₂ s₂ u z (p₁.trans p₂) R₂ r q)
  | call f args fp pos =>
    obtain ⟨hd, hn, hk, hc, h⟩ := h
    exact snd_call H.e G K R (noStars_all hn) hd h hk hc hQ hX
  | comp elt x it ifs scope xp pos =>
    obtain ⟨hs, hok, h⟩ := h
    exact snd_comp H.e H.t G K R hs hok h hQ hX
  | fstr x e k y k₁ k₃ p₁ p₂ p₃ pos =>
    obtain ⟨rfl, hx, hy, h'⟩ := h
    exact wpAny_JoinedStr (snd_fstr H.e hx hy K R h' hQ hX)
  | _ => exact h.elim

theorem snd_all {S : Sm} (H : Snd D S) (op : BoolOp) : ∀ (es : List Expr) {A : Around} {a : Act} {c : Cx} {φ : List Addr} {st : ST} {s : Shared} {Q : Bool → Shared → Prop} {E : Value → Shared → Prop} {QA : Bool → ST → Prop} {X : KX},
    Ok D A a c → Rel a φ st s → allA (S.t c) op es st QA X → PostB a φ QA Q → PostX D a φ X E → wpAny (model D.prog D.w) A (allTrue op es a.env) Q E s
  | [], A, a, c, φ, st, s, Q, E, QA, X, K, R, h, hQ, hX => by
    cases op
    · exact wpAny_allTrue_And_nil (hQ φ st s _ (pre0 φ) R h)
    · exact wpAny_allTrue_Or_nil (hQ φ st s _ (pre0 φ) R h)
  | e :: r, A, a, c, φ, st, s, Q, E, QA, X, K, R, h, hQ, hX => by
    cases op
    · refine wpAny_allTrue_And_cons (H.t e A a c φ st s _ E _ X K R h (fun φ₁ st₁ s₁ b p₁ R₁ h₁ => ?_) hX)
      cases b with
      | false => exact hQ φ₁ st₁ s₁ _ p₁ R₁ h₁
      | true => exact snd_all H .And r K R₁ h₁ (fun φ' st' s' b p => hQ φ' st' s' b (p₁.trans p)) (hX.mono p₁)
    · refine wpAny_allTrue_Or_cons (H.t e A a c φ st s _ E _ X K R h (fun φ₁ st₁ s₁ b p₁ R₁ h₁ => ?_) hX)
      cases b with
      | true => exact hQ φ₁ st₁ s₁ _ p₁ R₁ h₁
      | false => exact snd_all H .Or r K R₁ h₁ (fun φ' st' s' b p => hQ φ' st' s' b (p₁.trans p)) (hX.mono p₁)

theorem marks_off {op : CmpOp} {e : Expr} (h : notSet e = true) : behindInMarks op e = false := by
  cases e <;> first | rfl | cases h

theorem snd_val {S : Sm} (H : Snd D S) {A : Around} {a : Act} {c : Cx} {φ : List Addr} {st : ST} {s : Shared} {Q : Bool → Shared → Prop} {E : Value → Shared → Prop} {QA : Bool → ST → Prop} {X : KX} (e : Expr)
    (K : Ok D A a c) (R : Rel a φ st s) (h : S.e c e st (fun v st => match v with | .bool b => QA b st | _ => False) X) (hQ : PostB a φ QA Q) (hX : PostX D a φ X E)
    (he : isTrue e a.env (eval e a.env) = (do let v ← eval e a.env; standAt e.pos; holding [v] (truthy v))) : wpAny (model D.prog D.w) A (isTrue e a.env (eval e a.env)) Q E s := by
  refine wpAny_isTrue_value (H.e e A a c φ st s _ E _ X K R h (fun φ₁ st₁ s₁ v w p₁ R₁ rv h₁ => ?_) hX) he
  cases v with
  | bool b =>
    cases (rv : _ = _)
    exact wpAny_truthy_bool (hQ φ₁ st₁ s₁ b p₁ R₁ h₁)
  | _ => exact h₁.elim

theorem step_sndT {S : Sm} (H : Snd D S) : SndT D (stepT S) := by
  intro e A a c φ st s Q E QA X K R h hQ hX
  have hf := eform e
  have h : stepTw S c e (eview e) st QA X := h
  generalize eview e = w at hf h
  cases hf with
  | un op x pos =>
    obtain ⟨rfl, h'⟩ := h
    exact wpAny_isTrue_Not (H.t _ A a c φ st s _ E _ X K R h' (fun φ₁ st₁ s₁ b p₁ R₁ h₁ => hQ φ₁ st₁ s₁ _ p₁ R₁ h₁) hX)
  | bool op vs pos => exact wpAny_isTrue_BoolOp (snd_all H _ _ K R h hQ hX)
  | cmp1 l op r pos =>
    obtain ⟨hn, h⟩ := h
    refine wpAny_isTrue_Compare1 (H.e _ A a c φ st s _ E _ X K R h (fun φ₁ st₁ s₁ x v p₁ R₁ rx h₁ => ?_) hX) (marks_off hn)
    refine H.e _ A a c φ₁ st₁ s₁ _ E _ X K R₁ h₁ (fun φ₂ st₂ s₂ y w p₂ R₂ ry h₂ => ?_) (hX.mono p₁)
    exact snd_cmp K R₂ (rx.mono p₂) ry h₂ (fun b q => wpAny_truthy_bool (hQ φ₂ st₂ s₂ b (p₁.trans p₂) R₂ q))
  | cmp2 l op₁ op₂ r₁ r₂ pos =>
    obtain ⟨hn₁, hn₂, h⟩ := h
    refine PyProof.Rows.isTrue_chain (rs := []) (H.e _ A a c φ st s _ E _ X K R h (fun φ₁ st₁ s₁ x v p₁ R₁ rx h₁ => ?_) hX) (marks_off hn₂)
    refine PyProof.Rows.test_link (H.e _ A a c φ₁ st₁ s₁ _ E _ X K R₁ h₁ (fun φ₂ st₂ s₂ y w p₂ R₂ ry h₂ => ?_) (hX.mono p₁))
    refine snd_cmp K R₂ (rx.mono p₂) ry h₂ (fun b q => wpAny_truthy_bool ?_)
    cases b with
    | false => exact hQ φ₂ st₂ s₂ _ (p₁.trans p₂) R₂ q
    | true =>
      simp only [if_true] at q ⊢
      refine PyProof.Rows.test_last (H.e _ A a c φ₂ st₂ s₂ _ E _ X K R₂ q (fun φ₃ st₃ s₃ z u p₃ R₃ rz h₃ => ?_) (hX.mono (p₁.trans p₂)))
      exact snd_cmp K R₃ (ry.mono p₃) rz h₃ (fun b q => wpAny_truthy_bool (hQ φ₃ st₃ s₃ b ((p₁.trans p₂).trans p₃) R₃ q))
  | name x p => exact snd_val H _ K R h hQ hX rfl
  | call f args q p => exact snd_val H _ K R h hQ hX rfl
  | _ => exact h.elim
end
end Mine

end

section
set_option autoImplicit false
namespace Mine
open PySem

section
variable {D : Gd}

theorem snd_seq {f : Cx → Stmt → ST → (Fl → ST → Prop) → KX → Prop} (H : SndS D f) : ∀ (ss : List Stmt) {A : Around} {a : Act} {c : Cx} {φ : List Addr} {st : ST} {s : Shared} {Q : Flow → Shared → Prop} {E : Value → Shared → Prop} {QA : Fl → ST → Prop} {X : KX},
    Ok D A a c → (∃ outer, a.frs = a.env :: outer) → Rel a φ st s → seqA (f c) ss st QA X → PostF a φ QA Q → PostX D a φ X E → PassesOwn (model D.prog D.w) A a.env E → wpAny (model D.prog D.w) A (execs ss a.env) Q E s
  | [], A, a, c, φ, st, s, Q, E, QA, X, K, hf, R, h, hQ, hX, hP => wpAny_execs_nil (hQ φ st s _ _ (pre0 φ) R .next h)
  | x :: r, A, a, c, φ, st, s, Q, E, QA, X, K, hf, R, h, hQ, hX, hP => by
    refine wpAny_execs_cons (H x A a c φ st s _ E _ X K hf R h (fun φ₁ st₁ s₁ fl g p₁ R₁ rf h₁ => ?_) hX hP)
    cases rf with
    | next => exact snd_seq H r K hf R₁ h₁ (fun φ' st' s' f g p => hQ φ' st' s' f g (p₁.trans p)) (hX.mono p₁) hP
    | brk => exact hQ φ₁ st₁ s₁ _ _ p₁ R₁ .brk h₁
    | cont => exact hQ φ₁ st₁ s₁ _ _ p₁ R₁ .cont h₁
    | ret rv => exact hQ φ₁ st₁ s₁ _ _ p₁ R₁ (.ret rv) h₁

section
variable {A : Around} {a : Act} {c : Cx} {φ : List Addr} {st : ST} {s : Shared}

theorem notCM (K : Ok D A a c) : (a.env.scope.kind == .class || (a.env.scope.kind == .module && a.env.locals != a.env.globals)) = false := by rw [K.kind]; rfl

theorem snd_store {Q : Unit → Shared → Prop} {E : Value → Shared → Prop} (K : Ok D A a c) (R : Rel a φ st s) {x : Str} {v : AV} {w : Value} (hx : c.κ x = some .local) (r : RepV φ v w)
    (h : ∀ h' tk, Rel a φ ⟨upd st.ρ x v, st.σ⟩ { s with heap := h', toks := tk } → Q () { s with heap := h', toks := tk }) : wpAny (model D.prog D.w) A (storeName a.env x w) Q E s := by
  obtain ⟨m, hm, hrep⟩ := R.ns
  have hx' : a.env.kindOf x = some .local := by rw [← K.κ]; exact hx
  exact wpAny_storeName_local hx' hm (fun h' hn hs => h h' _ (R.setLocal hx' r hm hrep hn hs _)) (notCM K)

theorem bindNames_static {env : Env} {P : ST → Prop} : ∀ (ts : List Expr) {vs : List AV} {st : ST}, bindNames c ts vs st P → (assignEach ts env).findIdx? (·.1) = none ∧ (assignEach ts env).length = ts.length
  | [], _, _, _ => ⟨rfl, rfl⟩
  | t :: ts, vs, st, h => by
    cases vs with
    | nil => cases t <;> exact h.elim
    | cons v vs =>
      cases t with
      | Name x p =>
        obtain ⟨e1, e2⟩ := bindNames_static (env := env) ts h.2
        have e : assignEach (.Name x p :: ts) env = (false, assign (.Name x p) env) :: assignEach ts env := rfl
        rw [e]
        exact ⟨by simp [List.findIdx?_cons, e1], by simp [e2]⟩
      | _ => exact h.elim

theorem snd_bindNames {E : Value → Shared → Prop} (K : Ok D A a c) : ∀ (ts : List Expr) {vs : List AV} {ws : List Value} {φ : List Addr} {st : ST} {s : Shared} {Q : Unit → Shared → Prop} {P : ST → Prop},
    RepL φ vs ws → bindNames c ts vs st P → Rel a φ st s → (∀ st' h' tk, Rel a φ st' { s with heap := h', toks := tk } → P st' → Q () { s with heap := h', toks := tk }) →
      wpAny (model D.prog D.w) A (assignInOrder ((assignEach ts a.env).map (·.2)) ws) Q E s
  | [], vs, ws, φ, st, s, Q, P, r, h, R, hQ => by
    cases r with
    | nil => exact wpAny_pure (hQ st s.heap s.toks R h)
    | cons _ _ => exact h.elim
  | t :: ts, vs, ws, φ, st, s, Q, P, r, h, R, hQ => by
    cases r with
    | nil => cases t <;> exact h.elim
    | @cons v vs w ws rv rr =>
      cases t with
      | Name x p =>
        obtain ⟨hx, h⟩ := h
        show wpAny (model D.prog D.w) A (do holding ws (assign (.Name x p) a.env w); assignInOrder ((assignEach ts a.env).map (·.2)) ws) Q E s
        refine wpAny_bind (wpAny_holding (wpAny_assign_Name (snd_store K R hx rv fun h' tk R' => ?_)))
        exact snd_bindNames K ts rr h R' (fun st' h'' tk' R'' q => hQ st' h'' tk' R'' q)
      | _ => exact h.elim

theorem snd_bind {Q : Unit → Shared → Prop} {E : Value → Shared → Prop} {P : ST → Prop} (K : Ok D A a c) (R : Rel a φ st s) (t : Expr) {v : AV} {w : Value} (r : RepV φ v w) (h : bindA c t v st P)
    (hQ : ∀ st' s', Rel a φ st' s' → P st' → Q () s') : wpAny (model D.prog D.w) A (assign t a.env w) Q E s := by
  cases t with
  | Name x p => exact wpAny_assign_Name (snd_store K R h.1 r fun h' tk R' => hQ _ _ R' h.2)
  | Tuple ts k p =>
    cases v with
    | ref i =>
      obtain ⟨xs, h1, h2, h3⟩ := h
      obtain ⟨ad, vs, n, _, rfl, r1, g1⟩ := R.isSeq h1 r
      have l1 := r1.length
      dsimp only at l1 r1
      obtain ⟨e1, e2⟩ := bindNames_static (env := a.env) ts h3
      refine wpAny_assign_Tuple K.handled (⟨_, g1, rfl, n, rfl⟩ : s.heap.IsTuple ad vs.toArray) (by rw [e2]; simp [l1, h2]) e1 fun h' hk => ?_
      have R' : Rel a φ st { s with heap := h' } := R.stays (s' := { s with heap := h' }) (fun b o e => hk b o (Nat.ne_of_lt (Heap.lt_size e)) e) rfl rfl
      exact snd_bindNames K ts (by simpa using r1) h3 R' (fun st' h'' tk R'' q => hQ st' _ R'' q)
    | _ => exact h.elim
  | _ => exact h.elim

theorem method_eval {o : Expr} {e : Expr} {name : Str} {ap p : Pos} {env : Env} (ho : plainBase o = true) (hl : ap.endLine = p.line) (hn : noStars [e] = true) :
    ∃ pl, eval (.Call (.Attribute o name ap) [e] [] p) env = (do
      let ov ← eval o env
      standAt ap.atName
      let (f, first) ← holding [ov] (getMethod ov name pl)
      callWith p f first (backTo p (starEach [e] env)) []) := by
  refine ⟨(do return (← importBound o env).getD true), ?_⟩
  have hs : starEach [e] env = [(false, eval e env)] := by cases e <;> first | rfl | cases hn
  have hb : (ap.endLine == p.line) = true := by rw [hl]; exact beq_self_eq_true _
  have ha : attributeBase o name env (eval o env) = eval o env := by cases o <;> first | rfl | cases ho
  have hm : methodCallPos true o env ap p = pure p := by
    unfold methodCallPos
    rw [hb]
    rfl
  show (attributeBase o name env (eval o env) >>= fun ov => standAt ap.atName >>= fun _ => methodCall o name ap p env ov 1 (backTo p (starEach [e] env)) (backToKw p (keywordEach [] env))) = _
  rw [ha, hs]
  congr 1
  funext ov
  congr 1
  funext _
  show (holding [ov] (getMethod ov name _) >>= fun x => methodCallPos true o env ap p >>= fun cp => callWith cp x.1 x.2 [(false, eval e env)] []) = _
  rw [hm]
  congr 1

theorem snd_append {f : Cx → Expr → ST → KE → KX → Prop} (H : SndE D f) (K : Ok D A a c) (R : Rel a φ st s) {o e : Expr} {ap p pos : Pos} {Q : Flow → Shared → Prop} {E : Value → Shared → Prop} {QA : Fl → ST → Prop} {X : KX}
    (ho : plainBase o = true) (hl : ap.endLine = p.line) (hn : noStars [e] = true)
    (h : f c o st (fun l st => isListA l st.σ ∧ f c e st (fun v st => appendA c l v st fun st => QA .next st) X) X) (hQ : PostF a φ QA Q) (hX : PostX D a φ X E) :
    wpAny (model D.prog D.w) A (exec (.Expr (.Call (.Attribute o "append" ap) [e] [] p) pos) a.env) Q E s := by
  obtain ⟨pl, he⟩ := method_eval (name := "append") (env := a.env) ho hl hn
  have hs : starEach [e] a.env = [(false, eval e a.env)] := by cases e <;> first | rfl | cases hn
  refine wpAny_Expr ?_ (by unfold interactive; rw [K.kind]; rfl) rfl
  rw [he]
  refine wpAny_bind (H o A a c φ st s _ E _ X K R h (fun φ₁ st₁ s₁ l w p₁ R₁ rl h₁ => ?_) hX)
  refine wpAny_bind (wpAny_standAt (wpAny_bind (wpAny_holding ?_)))
  obtain ⟨hli, h₁⟩ := h₁
  cases l with
  | ref i =>
    obtain ⟨xs₀, hx₀⟩ := hli
    obtain ⟨ad, vs₀, n₀, f₀, rfl, _, g₀⟩ := R₁.isSeq hx₀ rl
    refine Calls.getMethod_list_append g₀ rfl rfl ?_
    rw [hs]
    refine P.append_list (H e A a c φ₁ st₁ s₁ _ E _ X K R₁ h₁ (fun φ₂ st₂ s₂ v w p₂ R₂ rv h₂ => ?_) (hX.mono p₁))
    obtain ⟨hn₀, xs, hx, hsz, q⟩ := h₂
    obtain ⟨ad', vs, n, f₁, e₁, r1, g1⟩ := R₂.isSeq hx (rl.mono p₂)
    cases e₁
    have l1 := r1.length
    dsimp only at l1 r1
    refine ⟨vs.toArray, n, by simp only [List.size_toArray]; exact small_fits (by omega), g1, ?_⟩
    have hobj : (s₂.heap.update ad (Obj.mapSeq fun xs => xs.push w)).get? ad = some (seqObj true (vs ++ [w]) (n + 1)) := by
      rw [Heap.get?_update_self _ g1 rfl]
      simp [Obj.mapSeq]
    exact hQ φ₂ _ _ _ _ (p₁.trans p₂) (R₂.setList (by rw [← K.n₀]; exact hn₀) ⟨xs, hx⟩ f₁ (Heap.SameBut.update ..) hobj (r1.append (.cons rv .nil)) s₂.toks) .next q
  | _ => exact hli.elim
end
end
end Mine

end

section
set_option autoImplicit false
namespace Mine
open PySem

section
variable {D : Gd} {A : Around} {a : Act} {c : Cx} {φ : List Addr} {st : ST} {s : Shared}

theorem PostX.hold {X : KX} {E : Value → Shared → Prop} {p : Addr × Obj} (h : PostX D a φ X E) : PostX D (a.put (p :: a.held)) φ X E :=
  ⟨fun C st' φ' h' e vs s' q R => h.own C st' φ' h' e vs s' q R.unhold, fun C st' φ' h' e s' q R => h.fly C st' φ' h' e s' q R.unhold⟩
theorem Ok.hold {p : Addr × Obj} (K : Ok D A a c) : Ok D A (a.put (p :: a.held)) c :=
  ⟨K.κ, K.n₀, K.base, K.os, K.φ₀, K.frames, K.handled, K.depth, K.units, K.glob, K.bi, K.kind, K.cells, K.frame⟩

inductive ForInv (its : It) (I : Addr) (φ₁ : List Addr) (B : Act) (C : List AV → ST → Prop) : Nat → Shared → Prop
  | mk (i : Nat) (φ' : List Addr) (st' : ST) {s' : Shared} : φ₁ <+: φ' → Rel B φ' st' s' → ItAt φ' its I i s'.heap → i ≤ its.items.length → C (its.items.drop i) st' → ForInv its I φ₁ B C (its.items.length + 1 - i) s'

theorem snd_for {S : Sm} (H : Snd D S) (G : Gnd D) (K : Ok D A a c) (hf : ∃ outer, a.frs = a.env :: outer) (R : Rel a φ st s) {x : Str} {px pos : Pos} {it : Expr} {body : List Stmt} {Q : Flow → Shared → Prop} {E : Value → Shared → Prop} {QA : Fl → ST → Prop} {X : KX}
    (hs : notSet it = true) (h : iterA D.Θ c (S.e c) it st (fun its st => forA its (bindA c (.Name x px)) (fun st Q => seqA (S.s c) body st Q X) its.items st QA) X)
    (hQ : PostF a φ QA Q) (hX : PostX D a φ X E) (hP : PassesOwn (model D.prog D.w) A a.env E) :
    wpAny (model D.prog D.w) A (exec (.For (.Name x px) it body [] pos) a.env) Q E s := by
  have hs' : ∀ v, foldedSetIterable it a.env v = pure v := by intro v; cases it <;> first | rfl | cases hs
  refine wpAny_For (snd_iter H.e G K R it h hX fun φ₁ st₁ s₁ its I p₁ R₁ hfor hok hit hIg hIh hlen => ?_) hs'
  refine codeAny_forLoop
    (ForInv its I φ₁ a fun items st' => forA its (bindA c (.Name x px)) (fun st Q => seqA (S.s c) body st Q X) items st' QA) ?_ (its.items.length + 1)
    (.mk 0 φ₁ st₁ (pre0 φ₁) R₁ hit (Nat.zero_le _) (by simpa using hfor))
  rintro k s' ⟨i, φ', st', p', R', hit', hi, hfo⟩
  have hok' : its.ok st'.σ := by
    cases hq : its.items.drop i with
    | nil => rw [hq] at hfo; exact hfo.1
    | cons y ys => rw [hq] at hfo; exact hfo.1
  refine it_next K R' hit' hok' hIg hIh (fun v av h' tk hav rav hit₂ R₃ => ?_) (fun h' tk he R₃ => ?_) hi
  · have hlt : i < its.items.length := (List.getElem?_eq_some_iff.mp hav).1
    have hdrop : its.items.drop i = av :: its.items.drop (i + 1) := by
      rw [List.drop_eq_getElem_cons hlt]
      congr 1
      exact (List.getElem?_eq_some_iff.mp hav).2
    rw [hdrop] at hfo
    obtain ⟨_, hx, hfo⟩ := hfo
    obtain ⟨oI, vsI, hoI, hdI⟩ := hit₂.obj
    have R₄ := R₃.hold (I := I) (oI := oI) hoI (R₃.record_off hoI hdI) (fun es n z => by rw [hdI] at z; cases z) (fun v z => by rw [hdI] at z; cases z)
    refine wpAny_assign_Name (snd_store (K.hold (p := (I, oI))) R₄ hx rav fun h₅ tk₅ R₅ => ?_)
    have hE : PassesOwn (model D.prog D.w) A a.env E := hP
    refine wpAny_mono (snd_seq H.s body (a := (a.put ((I, oI) :: a.held))) (E := E) (K.hold (p := (I, oI))) hf R₅ hfo (Q := fun g s₃ => match g with
        | .next | .cont => ∃ m, m < its.items.length + 1 - i ∧ ForInv its I φ₁ a (fun items st' => forA its (bindA c (.Name x px)) (fun st Q => seqA (S.s c) body st Q X) items st' QA) m s₃
        | .brk => Q .next s₃
        | .ret v => Q (.ret v) s₃) (fun φ₆ st₆ s₆ fl g p₆ R₆ rf q => ?_) (((hX.mono (p₁.trans p')).hold)) hP) (fun g s₃ q => ?_) hP
    · have go : Fl.next = fl ∨ Fl.cont = fl → forA its (bindA c (.Name x px)) (fun st Q => seqA (S.s c) body st Q X) (its.items.drop (i + 1)) st₆ QA →
          ∃ m, m < its.items.length + 1 - i ∧ ForInv its I φ₁ a (fun items st' => forA its (bindA c (.Name x px)) (fun st Q => seqA (S.s c) body st Q X) items st' QA) m s₆ := fun _ q =>
        ⟨_, by omega, .mk (i + 1) φ₆ st₆ (p'.trans p₆) R₆.unhold (hit₂.at p₆ (fun o e => by rw [hoI] at e; cases e; exact (R₆.held _ (.head _)).1)) hlt q⟩
      cases rf with
      | next => exact go (.inl rfl) q
      | cont => exact go (.inr rfl) q
      | brk => exact hQ φ₆ st₆ s₆ _ _ ((p₁.trans p').trans p₆) R₆.unhold .next q
      | ret rv => exact hQ φ₆ st₆ s₆ _ _ ((p₁.trans p').trans p₆) R₆.unhold (.ret rv) q
    · cases g <;> exact q
  · subst he
    simp only [List.drop_length] at hfo
    exact wpAny_execs_nil (hQ φ' st' _ _ _ (p₁.trans p') R₃ .next hfo.2)

theorem snd_raise {f : Cx → Expr → ST → KE → KX → Prop} (H : SndE D f) (G : Gnd D) (K : Ok D A a c) (R : Rel a φ st s) {C : Str} {np cpos pos : Pos} {e : Expr} {Q : Flow → Shared → Prop} {E : Value → Shared → Prop} {X : KX}
    (hd : C ≠ "__debug__") (hn : noStars [e] = true) (hk : c.κ C = some .globalImplicit) (hc : D.Θ.exc C = true) (h : f c e st (fun v st => match v with | .str _ => X true C st | _ => False) X) (hX : PostX D a φ X E) :
    wpAny (model D.prog D.w) A (exec (.Raise (some (.Call (.Name C np) [e] [] cpos)) none pos) a.env) Q E s := by
  obtain ⟨bmB, newId, initId, B, O, FB⟩ := G.exc C hc
  obtain ⟨tl, N, nm, q, bs, hdct, sn, sub, ab, col, dd, k0, k1, k2, k3, k5, mN, hC, hN, hni, T⟩ := O.obj
  refine wpAny_Raise_call_subT (C := D.cls C) (nm := nm) (q := q) (N := N) (bs := bs) (bm := tl) (hdct := hdct) (sn := sn) (sub := sub) (ab := ab) (col := col) (dd := dd) (k0 := k0) (k1 := k1) (k2 := k2) (k3 := k3) (k5 := k5)
    FB (mN := mN) (T.hasType FB.hasBase) K.handled (noStar (noStars_all hn)) hni (name_glob G K R hd hk O.bound ⟨rfl, ?_⟩)
  refine snd_evalArgs H [e] (noStars_all hn) K R (QA := fun vs st => match vs with | [.str _] => X true C st | _ => False) (X := X) ?_ (fun φ₁ st₁ s₁ vs ws p₁ R₁ r h₁ => ?_) hX
  · show f c e st (fun v st => _) X
    refine Eq.mp ?_ h
    congr 1
    funext v st
    cases v <;> rfl
  · have kb := R₁.at_base K
    dsimp only at h₁
    have hl : ws.length ≤ 1 := by
      rw [r.length]
      split at h₁
      · simp
      · exact h₁.elim
    refine ⟨rfl, by rw [sizeLine_eq]; dsimp only; omega, kb _ _ hC, hN.keeps kb, T.keeps kb, fun h' e' hm => ?_⟩
    refine hX.own C st₁ φ₁ s₁.heap e' ws { s₁ with heap := h' } p₁ (R₁.swap rfl rfl rfl) hm ?_
    split at h₁
    · exact h₁
    · exact h₁.elim
end
end Mine

end

section
set_option autoImplicit false
namespace Mine
open PySem

section
variable {D : Gd} {A : Around} {a : Act} {c : Cx} {φ : List Addr} {st : ST} {s : Shared}

theorem Flies.keep {frs : List Env} {h h'' base : Heap} {e C : Addr} {B : Heap} {a0 : Value} (hB : ∀ b o, h.get? b = some o → b ∉ frAddrs frs → B.get? b = some o) (hF : FrsR h base frs) (hfl : Heap.FlyingW B frs e (.ref C) a0 h'') (hu : h.UpToSlots h'') : KeepR frs h h'' := fun b o eb =>
  ⟨fun n => hfl.1 b o (hB b o eb n), fun m => by
    obtain ⟨_, o', es, n, ho, hd⟩ := hF.dict m
    rw [eb] at ho
    cases ho
    exact hu b o eb fun vs z => by rw [hd] at z; cases z⟩

theorem snd_try {S : Sm} (H : Snd D S) (G : Gnd D) (K : Ok D A a c) (hf : ∃ outer, a.frs = a.env :: outer) (R : Rel a φ st s) {body suite : List Stmt} {C : Str} {cp hp pos : Pos} {Q : Flow → Shared → Prop} {E : Value → Shared → Prop} {QA : Fl → ST → Prop}
    (h : seqA (S.s c) body st QA (fun own k st => own = false ∧ k = C ∧ C ≠ "__debug__" ∧ c.κ C = some .globalImplicit ∧ D.Θ.exc C = true ∧ handlerA c suite st QA)) (hQ : PostF a φ QA Q) :
    wpAny (model D.prog D.w) A (exec (.Try body [.ExceptHandler (some (.Name C cp)) none suite hp] [] [] pos) a.env) Q E s := by
  refine wpAny_Try_except ?_
  obtain ⟨outer, hout⟩ := hf
  obtain ⟨L, hL⟩ := K.frame
  refine snd_seq H.s body K ⟨outer, hout⟩ R h (fun φ₁ st₁ s₁ fl g p₁ R₁ rf q => ?_) ⟨?_, ?_⟩ PassesOwn.looking
  · cases rf with
    | next => exact wpAny_execs_nil (hQ φ₁ st₁ s₁ _ _ p₁ R₁ .next q)
    | brk => exact hQ φ₁ st₁ s₁ _ _ p₁ R₁ .brk q
    | cont => exact hQ φ₁ st₁ s₁ _ _ p₁ R₁ .cont q
    | ret rv => exact hQ φ₁ st₁ s₁ _ _ p₁ R₁ (.ret rv) q
  · intro C' st' φ' h' e vs s' _ _ _ q
    exact absurd q.1 (by decide)
  · intro C' st' φ' h' e s' p' R' fl q
    obtain ⟨_, rfl, hd, hk, hexc, hh⟩ := q
    obtain ⟨B, a0, hB, hfl, hu⟩ := fl
    obtain ⟨bmB, newId, initId, B', O, FB⟩ := G.exc C' hexc
    obtain ⟨tl, N, nm, q', bs, hdct, sn, sub, ab, col, dd, k0, k1, k2, k3, k5, mN, hC, hN, hni, T⟩ := O.obj
    rw [hout] at hB hfl
    have hF : FrsR h' a.base (a.env :: outer) := by rw [← hout]; exact R'.frames
    refine wpAny_looks_onW (by rw [K.frames, hout]) hL hfl fun h₄ hheld hsm₄ => ?_
    refine wpAny_landsW hheld fun h₅ hfl₅ hsm₅ => ?_
    have hu₅ := (hu.trans hsm₄).trans hsm₅
    have k₅ : KeepR a.frs h' h₅ := by rw [hout]; exact Flies.keep hB hF hfl₅ hu₅
    have R₅ : Rel a φ' st' { s' with heap := h₅ } := R'.kept (s' := { s' with heap := h₅ }) k₅ rfl rfl
    have kb₅ := R₅.at_base K
    obtain ⟨ob, hob, hobc⟩ := hfl₅.there
    refine wpAny_handleBy_cons (codeAny_handlers_test ?_) (by intro q; cases q)
    refine Calls.Name_function_global K.kind (by rw [← K.κ]; exact hk) (Calls.loadGlobal_global (by rw [K.glob]; exact G.g.keeps kb₅) O.bound ?_) (deb hd)
    refine wpAny_excMatches_sub_self (kb₅ _ _ hC) hob hobc (T.hasType FB.hasBase) ?_
    have suites : ∀ (b₀ : Stmt), suite = [b₀] → wpAny (model D.prog D.w) (A.mark (some (.ref e))) (setFlight (.ref e) none) (fun _ s₁ => wpAny (model D.prog D.w) (A.mark (some (.ref e))) (execs [b₀] a.env) (fun f s₂ => Q f s₂) (notedBy (model D.prog D.w) (A.mark (some (.ref e))) a.env fun x s₂ => cameBackBy (model D.prog D.w) A a.env E x s₂) s₁)
        (notedBy (model D.prog D.w) (A.mark (some (.ref e))) a.env fun x s₁ => cameBackBy (model D.prog D.w) A a.env E x s₁) { s' with heap := h₅ } := fun b₀ hb => by
      subst hb
      refine PyProof.Rows.lands_againW hfl₅ fun h₆ hfl₆ hsm₆ => ?_
      have k₆ : KeepR a.frs h' h₆ := by rw [hout]; exact Flies.keep hB hF hfl₆ (hu₅.trans hsm₆)
      have R₆ : Rel a φ' st' { s' with heap := h₆ } := R'.kept (s' := { s' with heap := h₆ }) k₆ rfl rfl
      unfold handlerA at hh
      have hfh := hform [b₀]
      generalize hview [b₀] = wh at hfh hh
      cases hfh with
      | ret x k1 p1 q1 =>
        exact wpAny_execs_cons (wpAny_Return_some (wpAny_Constant_str (hQ φ' st' _ _ _ p' (R₆.tok _) (.ret rStr) hh)))
      | set x b k1 o1 p1 q1 =>
        refine wpAny_execs_cons (wpAny_Assign_Name (wpAny_Constant_bool ?_))
        obtain ⟨m, hm, hrep⟩ := R₆.ns
        have hx' := hh.1
        rw [K.κ] at hx'
        refine wpAny_storeName_local hx' hm (fun h₇ hn hs => wpAny_execs_nil (hQ φ' _ _ _ _ p' (R₆.setLocal hx' rBool hm hrep hn hs _) .next hh.2)) (notCM K)
      | other => exact hh.elim
    cases suite with
    | nil => exact hh.elim
    | cons b₀ r =>
      cases r with
      | nil => exact codeAny_handlers_suite (suites b₀ rfl)
      | cons b₁ r =>
        exact False.elim hh

theorem swaps_off {t v : Expr} (hn : notSwapped t v = true) (hcomp : ¬ ∃ elt gens scope p, v = .ListComp elt gens scope p) (tt : Expr) (line : Nat) (env : Env) : swapsWith v (some tt) line env = pure false := by
  have hn := (Bool.and_eq_true_iff.mp hn).2
  cases v with
  | ListComp elt gens scope p => exact absurd ⟨_, _, _, _, rfl⟩ hcomp
  | SetComp => cases hn
  | DictComp => cases hn
  | _ => rfl
theorem stores_off {t v : Expr} (hn : notSwapped t v = true) (env : Env) : swappedStores [t] v env = pure none := by
  obtain ⟨h1, hn⟩ := Bool.and_eq_true_iff.mp hn
  unfold swappedStores
  cases t with
  | Tuple ts k tp =>
    cases v with
    | Tuple vs k' vp =>
      have hb : (ts.length != 2 && ts.length != 3) = true := hn
      obtain ⟨h2, h3⟩ := Bool.and_eq_true_iff.mp hb
      have h2 : (ts.length == 2) = false := by rw [bne, Bool.not_eq_true'] at h2; exact h2
      have h3 : (ts.length == 3) = false := by rw [bne, Bool.not_eq_true'] at h3; exact h3
      simp [h2, h3]
    | _ => rfl
  | List ts tp => cases h1
  | _ => rfl
theorem each_one {t v : Expr} (hn : notSwapped t v = true) (env : Env) : (assignEach [t] env).map (·.2) = [assign t env] := by
  have h1 := (Bool.and_eq_true_iff.mp hn).1
  clear hn
  cases t with
  | Starred x p => cases h1
  | _ => rfl

theorem snd_assign {S : Sm} (H : Snd D S) (G : Gnd D) (K : Ok D A a c) (R : Rel a φ st s) {t v : Expr} {pos : Pos} {Q : Flow → Shared → Prop} {E : Value → Shared → Prop} {QA : Fl → ST → Prop} {X : KX}
    (hn : notSwapped t v = true) (h : stepE D.Θ S c v st (fun x st => bindA c t x st fun st => QA .next st) X) (hQ : PostF a φ QA Q) (hX : PostX D a φ X E) :
    wpAny (model D.prog D.w) A (exec (.Assign [t] v pos) a.env) Q E s := by
  have plain : wpAny (model D.prog D.w) A (eval v a.env) (fun w s₁ => wpAny (model D.prog D.w) A (assign t a.env w) (fun _ => Q .next) E s₁) E s := by
    refine step_sndE G H v A a c φ st s _ E _ X K R h (fun φ₁ st₁ s₁ x w p₁ R₁ rv h₁ => ?_) hX
    exact snd_bind K R₁ t rv h₁ (fun st' s' R' q => hQ φ₁ st' s' _ _ p₁ R' .next q)
  have route : swapsWithSole [t] v pos.line a.env = pure false → swappedStores [t] v a.env = pure none → wpAny (model D.prog D.w) A (exec (.Assign [t] v pos) a.env) Q E s := fun h1 h2 => by
    rw [PyProof.Rows.exec_Assign]
    refine wpAny_bind (wpAny_standAt ?_)
    rw [h1]
    refine wpAny_bind (wpAny_pure ?_)
    rw [if_neg (by decide)]
    refine wpAny_bind (wpAny_mono plain (fun w s₁ h₁ => ?_) fun _ _ x => x)
    rw [h2]
    refine wpAny_bind (wpAny_pure ?_)
    rw [each_one hn]
    show wpAny (model D.prog D.w) A (do assignAll w [assign t a.env]; pure .next) Q E s₁
    exact wpAny_bind (wpAny_mono h₁ (fun _ _ x => wpAny_pure x) fun _ _ x => x)
  by_cases hcomp : ∃ elt gens scope p, v = .ListComp elt gens scope p
  · obtain ⟨elt, gens, scope, p, rfl⟩ := hcomp
    cases t with
    | Name y py =>
      obtain ⟨b, hb⟩ : ∃ b, swapsWith (.ListComp elt gens scope p) (some (.Name y py)) pos.line a.env = pure b := ⟨_, rfl⟩
      cases b with
      | false => exact route hb rfl
      | true =>
        rw [exec_Assign_Name_used _ _ _ _ hb]
        refine wpAny_bind (wpAny_standAt (wpAny_bind ?_))
        have hf := eform (.ListComp elt gens scope p)
        have h : stepEw D.Θ S c (eview (.ListComp elt gens scope p)) st (fun x st => bindA c (.Name y py) x st fun st => QA .next st) X := h
        generalize eview (.ListComp elt gens scope p) = w at hf h
        cases hf with
        | comp _ x' it' ifs' _ px' _ =>
          obtain ⟨hs, hok, h⟩ := h
          obtain ⟨cl, hcl, hc1, hc2⟩ := closure_pure (scope := scope) (env := a.env) fun y hy hf => K.cells _ (by rw [← K.κ]; exact (hok.2.2.2.2 y hy hf).1)
          have hs' : ∀ v, foldedSetIterable it' a.env v = pure v := by intro v; cases it' <;> first | rfl | cases hs
          show wpAny _ A (do let _ ← comprehension (.ListComp elt [⟨.Name x' px', it', ifs', 0⟩] scope p) scope a.env _ (newList []) false (eval it' a.env) (some (assign (.Name y py) a.env))) _ _ s
          refine wpAny_bind (wpAny_mono (wpAny_comprehension_free (Q := fun _ s' => Q .next s') (use := some (assign (.Name y py) a.env)) rfl hs' hcl hok.1 hok.2.2.2.1 (snd_compCore (QA := fun x st => bindA c (.Name y py) x st fun st => QA .next st) H.e H.t G K R ⟨hc1, hc2⟩ hok h hX fun φ' st' s' C acc mC p R' rv q hC hCL hCf hCg hCn => ?_))
            (fun _ s' hq => wpAny_pure (wpAny_pure hq)) fun _ _ e => e)
          refine wpAny_assign_Name ?_
          obtain ⟨m, hm, hrep⟩ := R'.ns
          have hx' : a.env.kindOf y = some .local := by rw [← K.κ]; exact q.1
          refine wpAny_storeName_local hx' hm (fun h₇ hn' hs₇ => ⟨mC, hC.sameBut hs₇ hCL, fun h₈ hs₈ => ?_⟩) (notCM K)
          exact hQ φ' _ _ _ _ p ((R'.setLocal hx' rv hm hrep hn' hs₇ (s'.toks + 1)).butComp (hC.sameBut hs₇ hCL) hCL hCf hCg hCn hs₈) .next q.2
        | other => exact h.elim
    | Tuple ts k tp => cases (Bool.and_eq_true_iff.mp hn).2
    | List ts tp => cases (Bool.and_eq_true_iff.mp hn).1
    | _ => exact route rfl rfl
  · exact route (swaps_off hn hcomp t pos.line a.env) (stores_off hn a.env)
end
end Mine

end

section
set_option autoImplicit false
namespace Mine
open PySem

section
variable {D : Gd}

theorem snd_aug {S : Sm} (H : Snd D S) {A : Around} {a : Act} {c : Cx} {φ : List Addr} {st : ST} {s : Shared} (K : Ok D A a c) (R : Rel a φ st s) {x : Str} {px pos : Pos} {op : Operator} {v : Expr} {Q : Flow → Shared → Prop} {E : Value → Shared → Prop} {QA : Fl → ST → Prop} {X : KX}
    (h : c.κ x = some .local ∧ ∃ old, st.ρ x = some old ∧ S.e c v st (fun b st => augA op old b fun r => QA .next ⟨upd st.ρ x r, st.σ⟩) X) (hQ : PostF a φ QA Q) (hX : PostX D a φ X E) :
    wpAny (model D.prog D.w) A (exec (.AugAssign (.Name x px) op v pos) a.env) Q E s := by
  obtain ⟨hx, old, ho, h⟩ := h
  obtain ⟨m, hm, hrep⟩ := R.ns
  have hx' : a.env.kindOf x = some .local := by rw [← K.κ]; exact hx
  obtain ⟨w, e1, e2⟩ := hrep x old hx' ho
  refine wpAny_AugAssign_Name (wpAny_loadName_local K.kind hx' hm e1 ?_)
  refine H.e v A a c φ st s _ E _ X K R h (fun φ₁ st₁ s₁ b wb p₁ R₁ rb h₁ => ?_) hX
  cases op with
  | Add =>
    obtain ⟨i, j, rfl, rfl, h₂⟩ := intsA_inv h₁
    obtain ⟨t, rfl⟩ := e2; obtain ⟨u, rfl⟩ := rb
    exact PyProof.Rows.iadd_int (snd_store K (R₁.tok _) hx rInt fun h' tk R' => hQ φ₁ _ _ _ _ p₁ R' .next h₂)
  | Sub =>
    obtain ⟨i, j, rfl, rfl, h₂⟩ := intsA_inv h₁
    obtain ⟨t, rfl⟩ := e2; obtain ⟨u, rfl⟩ := rb
    exact PyProof.Rows.isub_int (snd_store K (R₁.tok _) hx rInt fun h' tk R' => hQ φ₁ _ _ _ _ p₁ R' .next h₂)
  | _ => exact h₁.elim

theorem step_sndS {S : Sm} (G : Gnd D) (H : Snd D S) : SndS D (stepS D.Θ S) := by
  intro e A a c φ st s Q E QA X K hf R h hQ hX hP
  have hfm := sform e
  have h : stepSw D.Θ S c (sview e) st QA X := h
  generalize sview e = w at hfm h
  cases hfm with
  | pass p => exact wpAny_Pass (hQ φ st s _ _ (pre0 φ) R .next h)
  | assign t v p =>
    obtain ⟨h1, h2⟩ := h
    exact snd_assign H G K R h1 h2 hQ hX
  | aug x op v q p => exact snd_aug H K R h hQ hX
  | app o m x ap p q =>
    obtain ⟨rfl, ho, hl, hn, h⟩ := h
    exact snd_append H.e K R ho hl hn h hQ hX
  | ite t b o p =>
    refine wpAny_If (H.t _ A a c φ st s _ E _ X K R h (fun φ₁ st₁ s₁ b p₁ R₁ h₁ => ?_) hX)
    cases b with
    | true => exact snd_seq H.s _ K hf R₁ h₁ (fun φ' st' s' f g p => hQ φ' st' s' f g (p₁.trans p)) (hX.mono p₁) hP
    | false => exact snd_seq H.s _ K hf R₁ h₁ (fun φ' st' s' f g p => hQ φ' st' s' f g (p₁.trans p)) (hX.mono p₁) hP
  | loop x px it b p =>
    obtain ⟨h1, h2⟩ := h
    exact snd_for H G K hf R h1 h2 hQ hX hP
  | ret v p => exact wpAny_Return_some (H.e _ A a c φ st s _ E _ X K R h (fun φ₁ st₁ s₁ v w p₁ R₁ rv h₁ => hQ φ₁ st₁ s₁ _ _ p₁ R₁ (.ret rv) h₁) hX)
  | raise C m o q p =>
    obtain ⟨hd, hn, hk, hc, h⟩ := h
    exact snd_raise H.e G K R hd hn hk hc h hX
  | tryE b C hh o q p => exact snd_try H G K hf R h hQ
  | other _ => exact h.elim

theorem W_snd (G : Gnd D) : ∀ n, Snd D (W D.Θ n)
  | 0 => ⟨fun _ _ _ _ _ _ _ _ _ _ _ _ _ h => h.elim, fun _ _ _ _ _ _ _ _ _ _ _ _ _ h => h.elim, fun _ _ _ _ _ _ _ _ _ _ _ _ _ _ h => h.elim⟩
  | n + 1 => ⟨step_sndE G (W_snd G n), step_sndT (W_snd G n), step_sndS G (W_snd G n)⟩
end
end Mine

end

section
set_option autoImplicit false
namespace Mine
open PySem

theorem bindL_rep {φ : List Addr} {κ : Str → Option NameKind} : ∀ (ps : List Str) {args : List AV} {vals : List Value} {ρ : Str → Option AV} {m : Str → Option Value}, RepL φ args vals →
    (∀ x v, κ x = some .local → ρ x = some v → ∃ w, m x = some w ∧ RepV φ v w) → ∀ x v, κ x = some .local → bindP ps args ρ x = some v → ∃ w, bindL κ (ps.zip vals) m x = some w ∧ RepV φ v w
  | [], _, _, _, _, _, h, x, v, hk, e => by simpa [bindL] using h x v hk (by simpa [bindP] using e)
  | p :: ps, _, _, _, _, .nil, h, x, v, hk, e => by simpa [bindL] using h x v hk (by simpa [bindP] using e)
  | p :: ps, _, _, ρ, m, .cons (a := a) (v := w) r rr, h, x, v, hk, e => by
    rw [bindP] at e
    rw [List.zip_cons_cons, bindL]
    refine bindL_rep ps rr (fun y u hy hu => ?_) x v hk e
    by_cases q : y = p
    · subst q
      rw [if_pos hy]
      have hu' : some a = some u := by simpa [upd] using hu
      cases hu'
      exact ⟨w, by simp, r⟩
    · have hu' : ρ y = some u := by simpa [upd, q] using hu
      obtain ⟨z, e1, e2⟩ := h y u hy hu'
      refine ⟨z, ?_, e2⟩
      split
      · simpa [q] using e1
      · exact e1
theorem bindC_rep {φ : List Addr} {κ : Str → Option NameKind} : ∀ (ps : List Str) {args : List AV} {vals : List Value} {ρ : Str → Option AV} {m : Str → Option Value}, RepL φ args vals →
    (∀ x v, κ x = some .cell → ρ x = some v → ∃ w, m x = some w ∧ RepV φ v w) → ∀ x v, κ x = some .cell → bindP ps args ρ x = some v → ∃ w, bindC κ (ps.zip vals) m x = some w ∧ RepV φ v w
  | [], _, _, _, _, _, h, x, v, hk, e => by simpa [bindC] using h x v hk (by simpa [bindP] using e)
  | p :: ps, _, _, _, _, .nil, h, x, v, hk, e => by simpa [bindC] using h x v hk (by simpa [bindP] using e)
  | p :: ps, _, _, ρ, m, .cons (a := a) (v := w) r rr, h, x, v, hk, e => by
    rw [bindP] at e
    rw [List.zip_cons_cons, bindC]
    refine bindC_rep ps rr (fun y u hy hu => ?_) x v hk e
    by_cases q : y = p
    · subst q
      rw [if_neg (by rw [hy]; decide)]
      have hu' : some a = some u := by simpa [upd] using hu
      cases hu'
      exact ⟨w, by simp, r⟩
    · have hu' : ρ y = some u := by simpa [upd, q] using hu
      obtain ⟨z, e1, e2⟩ := h y u hy hu'
      refine ⟨z, ?_, e2⟩
      split
      · exact e1
      · simpa [q] using e1

theorem cellsFrom_acc : ∀ (names : List (Str × NameKind)) (n : Nat) (acc : List (Str × Addr)) (x : Str), (acc.lookup x).isSome = true → ((cellsFrom n names acc).lookup x).isSome = true
  | [], _, _, _, h => h
  | (y, k) :: r, n, acc, x, h => by
    unfold cellsFrom
    split
    · refine cellsFrom_acc r _ _ x ?_
      rw [List.lookup_cons]
      split
      · rfl
      · exact h
    · exact cellsFrom_acc r _ _ x h
theorem cellsFrom_in : ∀ (names : List (Str × NameKind)) (n : Nat) (acc : List (Str × Addr)) (x : Str), names.lookup x = some .cell → ((cellsFrom n names acc).lookup x).isSome = true
  | [], _, _, _, h => by cases h
  | (y, k) :: r, n, acc, x, h => by
    rw [List.lookup_cons] at h
    unfold cellsFrom
    split at h
    · rename_i hb
      cases h
      refine (if_pos (by rfl : (NameKind.cell == NameKind.cell) = true)) ▸ cellsFrom_acc r _ _ x ?_
      rw [List.lookup_cons, hb]; rfl
    · split
      · exact cellsFrom_in r _ _ x h
      · exact cellsFrom_in r _ _ x h

structure DefAt (h : Heap) (fa : Addr) (params : List Str) (scope : Scope) (body : List Stmt) : Prop where
  obj : ∃ o fd, h.get? fa = some o ∧ o.data = .func fd ∧ h.CodeRec fd.code fd.qualname ∧ fd.body = .stmts body ∧ (∀ vals : List Value, vals.length = params.length → bindArgs fd ⟨vals, []⟩ = pure (params.zip vals)) ∧
    fd.closure = [] ∧ fd.scope = scope ∧ fd.globals = mainGlobals ∧ fd.builtins = builtinsNs
  names : ∀ x ∈ params, scope.names.lookup x = some .local ∨ scope.names.lookup x = some .cell
  kind : scope.kind = .function
  co : scope.isCoroutine = false
  gen : scope.isGenerator = false

theorem keep_up {frs : List Env} {g h : Heap} (k : KeepR frs g h) : g.UpToSlots h := fun b o e _ => k.data e

theorem callJ_of {D : Gd} {n : Nat} {fa : Addr} {params : List Str} {scope : Scope} {body : List Stmt} (G : Gnd D) (F : DefAt D.base fa params scope body) : CallJ { D with r := D.r + 1 } fa (callF D.Θ n params scope body) := by
  intro A frs φ σ s args vals QA EA R hfr hha hdep hun hF hbase hsto hpre hg hos hargs hP hok herr
  obtain ⟨⟨o, fd, ho, hd, hcd, hbody, hbind, hclo, rfl, hgl, hbi⟩, hnames, hkind, hco, hgen⟩ := F
  obtain ⟨hlen, hP⟩ := hP
  have kb : ∀ b o, D.base.get? b = some o → s.heap.get? b = some o := fun b o e => (hbase b o e).2
  dsimp only at hdep hun hbase hpre hos hF
  have hk : ∀ x ∈ params.zip vals, fd.scope.names.lookup x.1 = some .local ∨ (fd.scope.names.lookup x.1 = some .cell ∧ ((cellsFrom (s.heap.objs.size + 1) fd.scope.names []).lookup x.1).isSome = true) := fun x hx => by
    rcases hnames x.1 (List.of_mem_zip hx).1 with q | q
    · exact .inl q
    · exact .inr ⟨q, cellsFrom_in _ _ _ _ q⟩
  refine codeAny_call_cells (by omega) (kb _ _ ho) hd (G.nolimit.keeps kb) (hcd.keeps kb) hbody (hbind vals (by rw [hargs.length, hlen])) hclo hk (fun s₁ I => ?_) hco hgen hkind
  have hL : s.heap.get? s.heap.objs.size = none := get?_size _
  have st1 : s.heap.StaysIn s₁.heap := I.toInCall.keep
  have hgen' : s₁.gens = s.gens ∧ s₁.os = s.os := by
    obtain ⟨h, tk, e⟩ := I.toInCall.same
    rw [e]; exact ⟨rfl, rfl⟩
  let env := callEnvC fd s.heap.objs.size fa
  let a : Act := ⟨D.base, D.os, env, env :: frs, s.heap, σ.length, [], [], [], D.φ₀⟩
  have hframe : env.frame = some s.heap.objs.size := rfl
  have hloc : env.locals = s.heap.objs.size := rfl
  have hfra : frAddrs (env :: frs) = s.heap.objs.size :: frAddrs frs := rfl
  have offL : ∀ b o, s.heap.get? b = some o → b ≠ s.heap.objs.size := fun b o e q => by rw [q, hL] at e; cases e
  have R₁ : Rel a φ ⟨bindP params args fun _ => none, σ⟩ s₁ := {
    ns := ⟨_, I.toInCall.ns, bindL_rep (m := fun _ => none) (ρ := fun _ => none) params hargs (fun _ _ _ e => nomatch e)⟩
    nsNew := hL
    cells := fun x v hx hv => by
      obtain ⟨w, e1, e2⟩ := bindC_rep params (κ := env.kindOf) (m := fun _ => none) (ρ := fun _ => none) hargs (fun _ _ _ e => nomatch e) x v hx hv
      have hx' : fd.scope.names.lookup x = some .cell := hx
      obtain ⟨c, hc⟩ := Option.isSome_iff_exists.mp (cellsFrom_in fd.scope.names (s.heap.objs.size + 1) [] x hx')
      have := I.cell x c hc
      rw [e1] at this
      exact ⟨c, w, hc, this, e2⟩
    sto := hsto.keep (KeepR.stays (frs := frs) st1) hF
    keep := .stays st1
    n₀le := Nat.le_of_eq hsto.len.symm
    fresh := fun i ad hi e => by
      have := (List.getElem?_eq_some_iff.mp e).1
      rw [hsto.len] at this
      exact absurd hi (Nat.not_le.mpr this)
    frames := fun e he => by
      rcases List.mem_cons.mp he with rfl | he
      · obtain ⟨o, es, n, h1, h2, _⟩ := I.toInCall.ns
        refine ⟨hkind, s.heap.objs.size, o, es, n, rfl, ?_, h1, h2⟩
        cases q : D.base.get? s.heap.objs.size with
        | none => rfl
        | some o' => have := kb _ _ q; rw [hL] at this; cases this
      · exact (KeepR.stays (frs := frs) st1).frsR hF e he
    baseIn := fun b o e => ⟨fun m => by
      rw [hfra] at m
      rcases List.mem_cons.mp m with q | q
      · exact offL b o (kb b o e) q
      · exact (hbase b o e).1 q, kb b o e⟩
    held := fun _ h => nomatch h
    nss := fun _ h => nomatch h
    kc := fun _ h => nomatch h
    pre := hpre
    gens := hgen'.1.trans hg
    os := hgen'.2.trans hos }
  have K : Ok D (A.deeper env) a ⟨fun x => fd.scope.names.lookup x, σ.length⟩ :=
    ⟨fun _ => rfl, rfl, rfl, rfl, rfl, Around.frames_deeper hfr, hha, by show A.depth + 1 + D.r < _; omega, by show A.units + 3 + 4 * D.r + 100 < _; omega, hgl, hbi, hkind,
      fun x hx => Option.isSome_iff_exists.mp (cellsFrom_in fd.scope.names (s.heap.objs.size + 1) [] x hx), ⟨_, rfl⟩⟩
  have offOut : ∀ b o, s.heap.get? b = some o → b ∉ frAddrs frs → b ∉ frAddrs (env :: frs) := fun b o e n m => by
    rw [hfra] at m
    rcases List.mem_cons.mp m with q | q
    · exact offL b o e q
    · exact n q
  refine snd_seq (W_snd G n).s body K ⟨frs, rfl⟩ R₁ hP (fun φ' st' s' fl g p R' rf q => ?_) ⟨?_, ?_⟩ PassesOwn.leaving
  · have kk : KeepR frs s.heap s'.heap := fun b o e => by
      obtain ⟨h1, h2⟩ := R'.keep b o e
      exact ⟨fun n => h1 (offOut b o e n), fun m => h2 (by rw [hfra]; exact .tail _ m)⟩
    have fr : ∀ i ad, φ.length ≤ i → φ'[i]? = some ad → s.heap.get? ad = none := fun i ad hi e => R'.fresh i ad (by show σ.length ≤ i; rw [← hsto.len]; exact hi) e
    cases rf with
    | next => exact hok φ' st'.σ s' _ _ p kk R'.sto fr R'.gens R'.os rNone q
    | brk => exact hok φ' st'.σ s' _ _ p kk R'.sto fr R'.gens R'.os rNone q
    | cont => exact hok φ' st'.σ s' _ _ p kk R'.sto fr R'.gens R'.os rNone q
    | ret rv => exact hok φ' st'.σ s' _ _ p kk R'.sto fr R'.gens R'.os rv q
  · intro C st' φ' h e vs s' p R' hx q
    have hin : ∀ en ∈ (env :: frs), ∀ b, en.frame = some b → b ∈ frAddrs (env :: frs) := fun en he b hb => List.mem_filterMap.mpr ⟨en, he, hb⟩
    refine wpAny_leaves_madeW (Around.frames_deeper hfr) hframe (base := W.hideAll h (frAddrs (env :: frs))) (fun b o q => W.of_hideAll _ q) (W.funFrames_hide R'.fun hin) hx fun h' t x1 x2 x3 x4 => ?_
    refine herr C e _ ⟨_, _, fun b o eb n => W.hideAll_get _ ((R'.keep b o eb).1 (offOut b o eb n)) (offOut b o eb n), x1, ?_⟩ R'.gens R'.os q
    exact ((keep_up R'.keep).trans (Heap.UpToSlots.of_keeps hx.keeps)).trans x4
  · intro C st' φ' h e s' p R' fl q
    obtain ⟨B, a0, hB, hfl, hu⟩ := fl
    refine wpAny_leaves_onW (Around.frames_deeper hfr) hframe hfl fun h' x1 x2 => ?_
    refine herr C e _ ⟨B, a0, fun b o eb n => hB b o ((R'.keep b o eb).1 (offOut b o eb n)) (offOut b o eb n), x1, ?_⟩ R'.gens R'.os q
    exact ((keep_up R'.keep).trans hu).trans x2

theorem CallJ.mono {D : Gd} {fa : Addr} {P P' : Fn} (h : CallJ D fa P) (hP : ∀ vs σ Q E, P' vs σ Q E → P vs σ Q E) : CallJ D fa P' :=
  fun A frs φ σ s args vals QA EA R h1 h2 h3 h4 h5 h6 h7 h8 h9 h10 h11 h12 => h A frs φ σ s args vals QA EA R h1 h2 h3 h4 h5 h6 h7 h8 h9 h10 h11 (hP _ _ _ _ h12)
theorem CallJ.up {D : Gd} {r : Nat} {fa : Addr} {P : Fn} (h : CallJ D fa P) (hr : D.r ≤ r) : CallJ { D with r := r } fa P :=
  fun A frs φ σ s args vals QA EA R h1 h2 h3 h4 h5 h6 h7 h8 h9 h10 h11 h12 =>
    h A frs φ σ s args vals QA EA R h1 h2 (by dsimp only at h3; omega) (by dsimp only at h4; omega) h5 h6 h7 h8 h9 h10 h11 h12
end Mine

end

section
set_option autoImplicit false
namespace Mine
open PySem

theorem ofString_inj {a b : String} : Str.ofString a = Str.ofString b ↔ a = b := by
  constructor
  · intro h
    rw [Str.ofString_eq_toList, Str.ofString_eq_toList] at h
    have h1 : a.toList.map Char.toNat = b.toList.map Char.toNat := by
      have := congrArg Str.cps h
      simpa using this
    have inj : ∀ (x y : List Char), x.map Char.toNat = y.map Char.toNat → x = y := by
      intro x
      induction x with
      | nil => intro y h; cases y with
        | nil => rfl
        | cons _ _ => cases h
      | cons c cs ih => intro y h; cases y with
        | nil => cases h
        | cons d ds =>
          simp only [List.map_cons, List.cons.injEq] at h
          rw [ih ds h.2, Char.toNat_inj.mp h.1]
    exact String.toList_inj.mp (inj _ _ h1)
  · rintro rfl; rfl

end Mine

end

section
set_option autoImplicit false
namespace Mine
open PySem

inductive Rz (α : Type) where
  | ok (a : α)
  | err (C : Str)
  | stuck

noncomputable def Rz.bind {α β : Type} (r : Rz α) (f : α → Rz β) : Rz β := match r with
  | .ok a => f a
  | .err C => .err C
  | .stuck => .stuck
noncomputable def Rz.strict {α : Type} (r : Rz α) : Rz α := match r with
  | .ok a => .ok a
  | _ => .stuck
theorem Rz.bind_ok {α β : Type} (a : α) (f : α → Rz β) : (Rz.ok a).bind f = f a := rfl
theorem Rz.bind_err {α β : Type} (C : Str) (f : α → Rz β) : (Rz.err C : Rz α).bind f = .err C := rfl

noncomputable def scal : PyData → Bool
  | .none | .bool _ | .int _ | .str _ => true
  | _ => false
noncomputable def flat (ds : List PyData) : Bool := ds.all scal
noncomputable def isLst : PyData → Bool
  | .list _ => true
  | _ => false

structure VR where
  d : PyData
  born : Bool
  mine : Bool
structure VE where
  d : PyData
  own : Bool
  mine : Bool
noncomputable abbrev VEnv := Str → Option VE
noncomputable def updV (η : VEnv) (x : Str) (e : VE) : VEnv := fun y => if y = x then some e else η y

noncomputable abbrev VFn := List PyData → Rz (PyData × Bool)
structure VThy where
  glob : Str → Option PyData
  fn : Str → Option VFn
  exc : Str → Bool

inductive Out where
  | next (η : VEnv)
  | ret (d : PyData) (mine : Bool)
  | exc (own : Bool) (C : Str) (η : VEnv)
  | stuck

structure VS where
  ok : Bool
  e : Expr → VEnv → Rz VR
  t : Expr → VEnv → Rz Bool
  s : Stmt → VEnv → Out
  j : Expr → VEnv → Bool
  m : Expr → Str → Bool
  ke : (Str → Option NameKind) → Expr → Bool
  kt : (Str → Option NameKind) → Expr → Bool
  ks : (Str → Option NameKind) → Stmt → Bool
  kj : (Str → Option NameKind) → Expr → Bool

noncomputable def sc (d : PyData) : VR := ⟨d, true, true⟩

noncomputable def shal : Nat → PyData → Bool
  | _, .none | _, .bool _ | _, .int _ | _, .str _ => true
  | n + 1, .list ds => ds.all (shal n)
  | n + 1, .tuple ds => ds.all (shal n)
  | _, _ => false

noncomputable def oneV {β : Type} (a : PyData) (f : Int → Rz β) : Rz β :=
  match a with
  | .int i => f i
  | _ => .stuck
noncomputable def intsV {β : Type} (a b : PyData) (f : Int → Int → Rz β) : Rz β := oneV a fun i => oneV b fun j => f i j
noncomputable def lstV {β : Type} (a : PyData) (f : List PyData → Rz β) : Rz β :=
  match a with
  | .list ds => f ds
  | _ => .stuck
noncomputable def seqsV {β : Type} (a : PyData) (f : List PyData → Rz β) : Rz β :=
  match a with
  | .list ds => f ds
  | .tuple ds => f ds
  | _ => .stuck

noncomputable def addV (a b : VR) : Rz VR :=
  match a.d with
  | .int i => oneV b.d fun j => .ok (sc (.int (i + j)))
  | .list xs => lstV b.d fun ys => if xs.length + ys.length ≤ small then .ok ⟨.list (xs ++ ys), (flat xs || a.born) && (flat ys || b.born), (flat xs || a.mine) && (flat ys || b.mine)⟩ else .stuck
  | _ => .stuck

noncomputable def binV (op : Operator) (a b : VR) : Rz VR :=
  match op with
  | .Add => addV a b
  | .Sub => intsV a.d b.d fun i j => .ok (sc (.int (i - j)))
  | .Mult => intsV a.d b.d fun i j => if i.natAbs < 2 ^ 20 ∧ j.natAbs < 2 ^ 20 then .ok (sc (.int (i * j))) else .stuck
  | .Mod => intsV a.d b.d fun i j => if j ≠ 0 then .ok (sc (.int (i.fmod j))) else .stuck
  | .FloorDiv => intsV a.d b.d fun i j => if j ≠ 0 ∧ j.natAbs < 1073741824 then .ok (sc (.int (i.fdiv j))) else .stuck
  | _ => .stuck

noncomputable def cmpV (op : CmpOp) (a b : PyData) : Rz Bool :=
  match op with
  | .Lt => intsV a b fun i j => .ok (decide (i < j))
  | .LtE => intsV a b fun i j => .ok (decide (i ≤ j))
  | .Gt => intsV a b fun i j => .ok (decide (j < i))
  | .GtE => intsV a b fun i j => .ok (decide (j ≤ i))
  | .Eq => if shal 8 a && shal 8 b then .ok (PyData.eqv a b) else .stuck
  | .NotEq => if shal 8 a && shal 8 b then .ok (!PyData.eqv a b) else .stuck
  | .NotIn => seqsV b fun ds => if shal 8 a && ds.all (shal 7) then .ok (!(ds.any fun y => PyData.eqv y a)) else .stuck
  | _ => .stuck

noncomputable def elemV (a : VR) (d : PyData) : VR := ⟨d, scal d || a.born, scal d || a.mine⟩

noncomputable def itemL (a : VR) (ds : List PyData) (k : Int) : Rz VR :=
  if k.natAbs ≤ small then (match seqIndex? k ds.length with
    | some j => (match ds[j]? with
      | some d => .ok (elemV a d)
      | none => .stuck)
    | none => .stuck) else .stuck
noncomputable def itemV (a k : VR) : Rz VR := seqsV a.d fun ds => oneV k.d fun k => itemL a ds k

noncomputable def partV : PyData → Option (Option Int)
  | .none => some none
  | .int i => some (some i)
  | _ => none

noncomputable def listV (a : VR) (ds ds' : List PyData) : VR := ⟨.list ds', flat ds || a.born, flat ds || a.mine⟩

noncomputable def sliceV (a : VR) (l h : PyData) : Rz VR :=
  lstV a.d fun ds => (partV l).elim .stuck fun lo => (partV h).elim .stuck fun hi => if ds.length ≤ small then .ok (listV a ds (sliceL ds lo hi)) else .stuck

noncomputable def lenV (vs : List VR) : Rz VR := (one vs).elim .stuck fun a => seqsV a.d fun ds => if ds.length ≤ small then .ok (sc (.int ds.length)) else .stuck
noncomputable def listOfV (vs : List VR) : Rz VR := (one vs).elim .stuck fun a => lstV a.d fun ds => if ds.length ≤ small then .ok (listV a ds ds) else .stuck
noncomputable def minV (f : Int → Int → Int) (vs : List VR) : Rz VR := (two vs).elim .stuck fun a => intsV a.1.d a.2.d fun i j => .ok (sc (.int (f i j)))
noncomputable def builtinV (f : Str) (vs : List VR) : Rz VR :=
  if f = "len" then lenV vs
  else if f = "list" then listOfV vs
  else if f = "min" then minV min vs
  else if f = "max" then minV max vs
  else .stuck

noncomputable def callV (Θ : VThy) (f : Str) (vs : List VR) : Rz VR :=
  match Θ.fn f with
  | some φ => (φ (vs.map (·.d))).bind fun r => .ok ⟨r.1, scal r.1 || r.2, scal r.1 || r.2⟩
  | none => builtinV f vs

noncomputable def argsV (f : Expr → VEnv → Rz VR) : List Expr → VEnv → Rz (List VR)
  | [], _ => .ok []
  | e :: r, η => (f e η).bind fun v => (argsV f r η).bind fun vs => .ok (v :: vs)

noncomputable def partsV (f : Expr → VEnv → Rz VR) (x : Option Expr) (η : VEnv) : Rz VR :=
  match x with
  | none => .ok (sc .none)
  | some e => f e η

noncomputable def seqV (f : Stmt → VEnv → Out) : List Stmt → VEnv → Out
  | [], η => .next η
  | s :: r, η => (match f s η with
    | .next η => seqV f r η
    | o => o)

noncomputable def upD (a : Int) (n : Nat) : List PyData := (List.range n).map fun (k : Nat) => PyData.int (a + (k : Int))
noncomputable def downD (a : Int) (n : Nat) : List PyData := (List.range n).map fun (k : Nat) => PyData.int (a - (k : Int))

noncomputable def rangeV (vs : List VR) : Rz (List PyData) :=
  match vs with
  | [] => .stuck
  | a :: r => oneV a.d fun a => (match r with
    | [] => if -small ≤ a ∧ a ≤ small then .ok (upD 0 a.toNat) else .stuck
    | b :: r => oneV b.d fun b => (match r with
      | [] => if -small ≤ a ∧ a ≤ small ∧ -small ≤ b ∧ b ≤ small then .ok (upD a (b - a).toNat) else .stuck
      | c :: r => oneV c.d fun d => (match r with
        | [] => if d = -1 ∧ -small ≤ a ∧ a ≤ small ∧ -small ≤ b ∧ b ≤ small then .ok (downD a (a - b).toNat) else .stuck
        | _ :: _ => .stuck)))

structure VI where
  ds : List PyData
  born : Bool
  mine : Bool

noncomputable def seqItV (r : VR) : Rz VI := seqsV r.d fun ds => if ds.length ≤ small then .ok ⟨ds, r.born, r.mine⟩ else .stuck

noncomputable def iterV (f : Expr → VEnv → Rz VR) (it : Expr) (η : VEnv) : Rz VI :=
  match eview it with
  | .call g args =>
    if g = "range" then (argsV f args η).bind fun vs => (rangeV vs).bind fun ds => .ok ⟨ds, true, true⟩
    else (f it η).bind seqItV
  | _ => (f it η).bind seqItV

noncomputable def forV (x : Str) (mine : Bool) (body : VEnv → Out) : List PyData → VEnv → Out
  | [], η => .next η
  | d :: ds, η => (match body (updV η x ⟨d, false, scal d || mine⟩) with
    | .next η => forV x mine body ds η
    | o => o)

noncomputable def condV (t : Expr → VEnv → Rz Bool) (ifs : List Expr) (η : VEnv) : Rz Bool :=
  match ifs with
  | [] => .ok true
  | [e] => t e η
  | _ => .stuck

noncomputable def compV (f : Expr → VEnv → Rz VR) (t : Expr → VEnv → Rz Bool) (x : Str) (ifs : List Expr) (elt : Expr) (it : VI) (η : VEnv) : List PyData → Rz VI
  | [] => .ok ⟨[], true, true⟩
  | d :: ds => (condV t ifs (updV η x ⟨d, false, scal d || it.mine⟩)).strict.bind fun b =>
      if b then (f elt (updV η x ⟨d, false, scal d || it.mine⟩)).strict.bind fun r => (compV f t x ifs elt it η ds).bind fun i => .ok ⟨r.d :: i.ds, r.born && i.born, r.mine && i.mine⟩
      else compV f t x ifs elt it η ds

noncomputable def maskη (scope : Scope) (η : VEnv) : VEnv := fun y => if scope.names.lookup y = some .free then (η y).map (fun e => { e with own := false }) else none

noncomputable def allV (t : Expr → VEnv → Rz Bool) (op : BoolOp) : List Expr → VEnv → Rz Bool
  | [], _ => .ok (op == .And)
  | e :: r, η => (t e η).bind fun b => match op, b with
      | .And, false => .ok false
      | .Or, true => .ok true
      | _, _ => allV t op r η

noncomputable def isNN (x y : Str) (own : Bool) (a b : PyData) : Rz Bool :=
  match b with
  | .list _ => (match a with
    | .list _ => if own = true ∧ x ≠ y then .ok false else .stuck
    | .str _ => .ok false
    | _ => .stuck)
  | _ => .stuck
noncomputable def isNull (a : PyData) : Rz Bool :=
  match a with
  | .list _ => .ok false
  | .none => .ok true
  | _ => .stuck
noncomputable def isV (a b : Expr) (η : VEnv) : Rz Bool :=
  match eview a with
  | .name x => (match η x with
    | some e => (match eview b with
      | .name y => (match η y with
        | some e' => isNN x y e.own e.d e'.d
        | none => .stuck)
      | .const k => (match k with | .none => isNull e.d | _ => .stuck)
      | _ => .stuck)
    | none => .stuck)
  | _ => .stuck

noncomputable def nameV (Θ : VThy) (x : Str) (η : VEnv) : Rz VR :=
  match η x with
  | some e => .ok ⟨e.d, scal e.d, scal e.d || e.mine⟩
  | none => (match Θ.glob x with
    | some d => .ok ⟨d, scal d, scal d⟩
    | none => .stuck)

noncomputable def constV (k : Const) : Rz VR :=
  match k with
  | .none => .ok (sc .none)
  | .bool b => .ok (sc (.bool b))
  | .int i => .ok (sc (.int i))
  | .str x => .ok (sc (.str x))
  | _ => .stuck

noncomputable def negV (d : PyData) : Rz VR :=
  match d with
  | .int i => .ok (sc (.int (-i)))
  | _ => .stuck
noncomputable def boolV (d : PyData) : Rz Bool :=
  match d with
  | .bool b => .ok b
  | _ => .stuck

noncomputable def stepEVw (Θ : VThy) (S : VS) (w : EV) (η : VEnv) : Rz VR :=
  match w with
  | .const k => constV k
  | .name x => nameV Θ x η
  | .bin l op r => (S.e l η).bind fun a => (S.e r η).bind fun b => binV op a b
  | .un _ x => (S.e x η).bind fun a => negV a.d
  | .tup es => (argsV S.e es η).bind fun vs => if vs.length ≤ small then .ok ⟨.tuple (vs.map (·.d)), vs.all (·.born), vs.all (·.mine)⟩ else .stuck
  | .lst es => (argsV S.e es η).bind fun vs => if vs.length ≤ small then .ok ⟨.list (vs.map (·.d)), vs.all (·.born), vs.all (·.mine)⟩ else .stuck
  | .cut v lo hi => (S.e v η).bind fun a => (partsV S.e lo η).bind fun l => (partsV S.e hi η).bind fun h => sliceV a l.d h.d
  | .item v i => (S.e v η).bind fun a => (S.e i η).bind fun k => itemV a k
  | .call f args => (argsV S.e args η).bind fun vs => callV Θ f vs
  | .comp elt x it ifs scope => (iterV S.e it η).bind fun its =>
      (compV S.e S.t x ifs elt its (maskη scope η) its.ds).bind fun r => .ok ⟨.list r.ds, r.born, r.mine⟩
  | _ => .stuck
noncomputable def stepEV (Θ : VThy) (S : VS) (e : Expr) (η : VEnv) : Rz VR := stepEVw Θ S (eview e) η

noncomputable def cmpTV (S : VS) (l : Expr) (op : CmpOp) (r : Expr) (η : VEnv) : Rz Bool :=
  match op with
  | .Is => if S.ok = true then isV l r η else .stuck
  | op => (S.e l η).bind fun a => (S.e r η).bind fun b => cmpV op a.d b.d

noncomputable def stepTVw (S : VS) (e : Expr) (w : EV) (η : VEnv) : Rz Bool :=
  match w with
  | .un _ x => (S.t x η).bind fun b => .ok (!b)
  | .bool op vs => allV S.t op vs η
  | .cmp1 l op r => cmpTV S l op r η
  | .cmp2 l op₁ op₂ r₁ r₂ => (S.e l η).bind fun a => (S.e r₁ η).bind fun b => (cmpV op₁ a.d b.d).bind fun v =>
      if v then (S.e r₂ η).bind fun d => cmpV op₂ b.d d.d else .ok false
  | .name _ => (S.e e η).bind fun a => boolV a.d
  | .call _ _ => (S.e e η).bind fun a => boolV a.d
  | _ => .stuck
noncomputable def stepTV (S : VS) (e : Expr) (η : VEnv) : Rz Bool := stepTVw S e (eview e) η

noncomputable def dropV (m : Expr → Str → Bool) (e : Expr) (r : VR) (η : VEnv) : VEnv :=
  if (scal r.d || r.born) = true then η else fun y => if m e y = true then (η y).map (fun v => { v with own := false }) else η y

noncomputable def bindTupV (r : VR) : List Expr → List PyData → VEnv → Out
  | [], [], η => .next η
  | .Name x _ :: ts, d :: ds, η => bindTupV r ts ds (updV η x ⟨d, false, scal d || r.mine⟩)
  | _, _, _ => .stuck

noncomputable def bindV (t : Expr) (r : VR) (η : VEnv) : Out :=
  match t with
  | .Name x _ => .next (updV η x ⟨r.d, r.born && isLst r.d, r.mine⟩)
  | .Tuple ts _ _ => (match r.d with
    | .tuple ds => bindTupV r ts ds η
    | _ => .stuck)
  | _ => .stuck

noncomputable def outV {α : Type} (r : Rz α) (η : VEnv) (f : α → Out) : Out := match r with
  | .ok a => f a
  | .err C => .exc false C η
  | .stuck => .stuck

noncomputable def fmtD (d : PyData) : Bool :=
  match d with
  | .int i => decide (i.natAbs < 10 ^ 9)
  | _ => false
noncomputable def fmtV (r : Rz VR) : Bool :=
  match r with
  | .ok a => fmtD a.d
  | _ => false

noncomputable def stepJV (S : VS) (m : Expr) (η : VEnv) : Bool :=
  match eview m with
  | .const k => (match k with | .str _ => true | _ => false)
  | .fstr _ e _ _ => fmtV (S.e e η)
  | _ => false

noncomputable def handlerV (h : List Stmt) (η : VEnv) : Out :=
  match hview h with
  | .ret x => .ret (.str x) true
  | .set x b => .next (updV η x ⟨.bool b, false, true⟩)
  | .other => .stuck

noncomputable def augV (op : Operator) (a b : PyData) : Option PyData :=
  match op with
  | .Add => (match a with | .int i => (match b with | .int j => some (.int (i + j)) | _ => none) | _ => none)
  | .Sub => (match a with | .int i => (match b with | .int j => some (.int (i - j)) | _ => none) | _ => none)
  | _ => none

noncomputable def stepMVw (S : VS) (w : EV) (y : Str) : Bool :=
  match w with
  | .name x => decide (x = y)
  | .bin l _ r => S.m l y || S.m r y
  | .tup es => es.any fun e => S.m e y
  | .lst es => es.any fun e => S.m e y
  | .cut v _ _ => S.m v y
  | .item v _ => S.m v y
  | .call _ args => args.any fun e => S.m e y
  | .comp elt _ it _ _ => S.m it y || S.m elt y
  | _ => false
noncomputable def stepMV (S : VS) (e : Expr) (y : Str) : Bool := stepMVw S (eview e) y

noncomputable def augTo (η : VEnv) (x : Str) (d : Option PyData) : Out :=
  match d with
  | some d => .next (updV η x ⟨d, false, true⟩)
  | none => .stuck

noncomputable def appV (S : VS) (x : Str) (a : Expr) (e : VE) (η : VEnv) : Out :=
  match e.d with
  | .list ds => if e.own = true then outV (S.e a η) η fun r => if (scal r.d || r.born || !S.m a x) = true ∧ ds.length < small then .next (updV (dropV S.m a r η) x ⟨.list (ds ++ [r.d]), true, e.mine && r.mine⟩) else .stuck else .stuck
  | _ => .stuck

noncomputable def caughtV (C : Str) (h : List Stmt) (o : Out) : Out :=
  match o with
  | .exc own k η' => if own = false ∧ k = C then handlerV h η' else .stuck
  | o => o

noncomputable def stepSVw (Θ : VThy) (S : VS) (w : SV) (η : VEnv) : Out :=
  match w with
  | .pass => .next η
  | .assign t v => outV (stepEV Θ S v η) η fun r => bindV t r (dropV (stepMV S) v r η)
  | .aug x op v => (match η x with
    | some e => outV (S.e v η) η fun r => augTo η x (augV op e.d r.d)
    | none => .stuck)
  | .app o _ a _ _ => (match eview o with
    | .name x => if S.ok = false then .stuck else (match η x with
      | some e => appV S x a e η
      | none => .stuck)
    | _ => .stuck)
  | .ite t b o => outV (S.t t η) η fun v => if v then seqV S.s b η else seqV S.s o η
  | .loop x _ it b => outV (iterV S.e it η) η fun its => forV x its.mine (seqV S.s b) its.ds (dropV S.m it ⟨.list its.ds, its.born, its.mine⟩ η)
  | .ret e => outV (S.e e η) η fun r => .ret r.d r.mine
  | .raise C m => if S.j m η then .exc true C η else .stuck
  | .tryE b C h => caughtV C h (seqV S.s b η)
  | .other => .stuck
noncomputable def stepSV (Θ : VThy) (S : VS) (s : Stmt) (η : VEnv) : Out := stepSVw Θ S (sview s) η

noncomputable def compOkB (scope : Scope) (κ : Str → Option NameKind) (x : Str) : Bool :=
  decide (scope.kind = .function) && decide (scope.names.lookup x = some .local) && scope.names.all (fun y => decide (y.2 ≠ .cell)) && scope.names.all (fun y => decide (y.2 = .local → scope.names.lookup y.1 = some .local)) &&
    scope.names.all (fun y => decide (y.2 = .free → κ y.1 = some .cell ∧ scope.names.lookup y.1 = some .free))

noncomputable def calleeB (Θ : VThy) (f : Str) : Bool := (Θ.fn f).isSome || decide (f = "len") || decide (f = "list") || decide (f = "min") || decide (f = "max")

noncomputable def varB (κ : Str → Option NameKind) (x : Str) : Bool := decide (x ≠ "__debug__") && (decide (κ x = some .local) || decide (κ x = some .cell))

noncomputable def nameB (Θ : VThy) (κ : Str → Option NameKind) (x : Str) : Bool :=
  decide (x ≠ "__debug__") && (match κ x with
    | some .local | some .cell => (Θ.glob x).isNone
    | some .globalImplicit => true
    | _ => false)

noncomputable def iterB (f : (Str → Option NameKind) → Expr → Bool) (κ : Str → Option NameKind) (it : Expr) : Bool :=
  match eview it with
  | .call g args => if g = "range" then noStars args && decide (κ g = some .globalImplicit) && args.all (f κ) else f κ it
  | _ => f κ it

noncomputable def partB (f : Expr → Bool) (x : Option Expr) : Bool := match x with
  | none => true
  | some e => f e

noncomputable def constB (k : Const) : Bool :=
  match k with
  | .str x => PyData.strOk x
  | .none => true
  | .bool _ => true
  | .int _ => true
  | _ => false

noncomputable def chkEw (Θ : VThy) (S : VS) (κ : Str → Option NameKind) (w : EV) : Bool :=
  match w with
  | .const k => constB k
  | .name x => nameB Θ κ x
  | .bin l _ r => S.ke κ l && S.ke κ r
  | .un op x => decide (op = .USub) && S.ke κ x
  | .tup es => noStars es && es.all (S.ke κ)
  | .lst es => noStars es && es.all (S.ke κ)
  | .cut v lo hi => S.ke κ v && (partB (S.ke κ) lo && partB (S.ke κ) hi)
  | .item v i => S.ke κ v && S.ke κ i
  | .call f args => decide (f ≠ "__debug__") && noStars args && decide (κ f = some .globalImplicit) && calleeB Θ f && args.all (S.ke κ)
  | .comp elt x it ifs scope => notSet it && compOkB scope κ x && iterB S.ke κ it && ifs.all (S.kt (compκ scope)) && S.ke (compκ scope) elt
  | _ => false
noncomputable def chkE (Θ : VThy) (S : VS) (κ : Str → Option NameKind) (e : Expr) : Bool := chkEw Θ S κ (eview e)

noncomputable def chkJ (S : VS) (κ : Str → Option NameKind) (e : Expr) : Bool :=
  match eview e with
  | .const k => (match k with | .str _ => true | _ => false)
  | .fstr x e c y => decide (c = -1) && decide (x.length ≤ 64) && decide (y.length ≤ 64) && S.ke κ e
  | _ => false

noncomputable def chkTw (S : VS) (κ : Str → Option NameKind) (e : Expr) (w : EV) : Bool :=
  match w with
  | .un op x => decide (op = .Not) && S.kt κ x
  | .bool _ vs => vs.all (S.kt κ)
  | .cmp1 l _ r => notSet r && S.ke κ l && S.ke κ r
  | .cmp2 l _ _ r₁ r₂ => notSet r₁ && notSet r₂ && S.ke κ l && S.ke κ r₁ && S.ke κ r₂
  | .name _ => S.ke κ e
  | .call _ _ => S.ke κ e
  | _ => false
noncomputable def chkT (S : VS) (κ : Str → Option NameKind) (e : Expr) : Bool := chkTw S κ e (eview e)

noncomputable def targetB (κ : Str → Option NameKind) (t : Expr) : Bool :=
  match eview t with
  | .name x => decide (κ x = some .local)
  | .tup ts => ts.all fun t => match t with
    | .Name x _ => decide (κ x = some .local)
    | _ => false
  | _ => false

noncomputable def handlerB (κ : Str → Option NameKind) (h : List Stmt) : Bool :=
  match hview h with
  | .ret x => PyData.strOk x
  | .set x _ => decide (κ x = some .local)
  | .other => false

noncomputable def baseB (κ : Str → Option NameKind) (o : Expr) : Bool :=
  match eview o with
  | .name x => varB κ x
  | _ => false

noncomputable def chkSw (Θ : VThy) (S : VS) (κ : Str → Option NameKind) (w : SV) : Bool :=
  match w with
  | .pass => true
  | .assign t v => notSwapped t v && chkE Θ S κ v && targetB κ t
  | .aug x _ v => decide (κ x = some .local) && S.ke κ v
  | .app o m a ap p => decide (m = "append") && decide (ap.endLine = p.line) && noStars [a] && baseB κ o && S.ke κ a
  | .ite t b o => S.kt κ t && b.all (S.ks κ) && o.all (S.ks κ)
  | .loop x _ it b => notSet it && iterB S.ke κ it && decide (κ x = some .local) && b.all (S.ks κ)
  | .ret e => S.ke κ e
  | .raise C m => decide (C ≠ "__debug__") && noStars [m] && decide (κ C = some .globalImplicit) && Θ.exc C && S.kj κ m
  | .tryE b C h => b.all (S.ks κ) && decide (C ≠ "__debug__") && decide (κ C = some .globalImplicit) && Θ.exc C && handlerB κ h
  | .other => false
noncomputable def chkS (Θ : VThy) (S : VS) (κ : Str → Option NameKind) (s : Stmt) : Bool := chkSw Θ S κ (sview s)

noncomputable def V (Θ : VThy) : Nat → VS
  | 0 => ⟨false, fun _ _ => .stuck, fun _ _ => .stuck, fun _ _ => .stuck, fun _ _ => false, fun _ _ => false, fun _ _ => false, fun _ _ => false, fun _ _ => false, fun _ _ => false⟩
  | n + 1 => ⟨true, stepEV Θ (V Θ n), stepTV (V Θ n), stepSV Θ (V Θ n), stepJV (V Θ n), stepMV (V Θ n), chkE Θ (V Θ n), chkT (V Θ n), chkS Θ (V Θ n), chkJ (V Θ n)⟩

noncomputable def bindPV : List Str → List PyData → VEnv → VEnv
  | x :: xs, d :: ds, η => bindPV xs ds (updV η x ⟨d, false, scal d⟩)
  | _, _, η => η

noncomputable def callVF (Θ : VThy) (n : Nat) (params : List Str) (body : List Stmt) : VFn := fun ds =>
  if ds.length = params.length then (match seqV (V Θ n).s body (bindPV params ds fun _ => none) with
    | .next _ => .ok (.none, true)
    | .ret d m => .ok (d, m)
    | .exc _ C _ => .err C
    | .stuck => .stuck) else .stuck

noncomputable def okDef (Θ : VThy) (n : Nat) (params : List Str) (scope : Scope) (body : List Stmt) : Bool :=
  body.all ((V Θ n).ks fun x => scope.names.lookup x) && params.all (fun x => decide (scope.names.lookup x = some .local) || decide (scope.names.lookup x = some .cell))

end Mine

end

section
set_option autoImplicit false
namespace Mine
open PySem

mutual
inductive Den (σ : List AO) : AV → PyData → List Nat → Prop
  | none : Den σ .none .none []
  | bool (b : Bool) : Den σ (.bool b) (.bool b) []
  | int (i : Int) : Den σ (.int i) (.int i) []
  | str (x : Str) : PyData.strOk x = true → Den σ (.str x) (.str x) []
  | list {i : Nat} {xs : List AV} {ds : List PyData} {F : List Nat} : σ[i]? = some ⟨true, xs⟩ → DenAll σ xs ds F → Den σ (.ref i) (.list ds) (i :: F)
  | tuple {i : Nat} {xs : List AV} {ds : List PyData} {F : List Nat} : σ[i]? = some ⟨false, xs⟩ → DenAll σ xs ds F → Den σ (.ref i) (.tuple ds) (i :: F)
inductive DenAll (σ : List AO) : List AV → List PyData → List Nat → Prop
  | nil : DenAll σ [] [] []
  | cons {a : AV} {as : List AV} {d : PyData} {ds : List PyData} {F G : List Nat} : Den σ a d F → DenAll σ as ds G → DenAll σ (a :: as) (d :: ds) (F ++ G)
end

section
variable {σ σ' : List AO}

theorem get_pre {α : Type} {l l' : List α} {i : Nat} {o : α} (p : l <+: l') (h : l[i]? = some o) : l'[i]? = some o := by
  obtain ⟨t, rfl⟩ := p
  rw [List.getElem?_append_left (List.getElem?_eq_some_iff.mp h).1]; exact h
theorem len_pre {α : Type} {l l' : List α} (p : l <+: l') : l.length ≤ l'.length := p.length_le
theorem get_lt {α : Type} {l : List α} {i : Nat} {o : α} (h : l[i]? = some o) : i < l.length := (List.getElem?_eq_some_iff.mp h).1

theorem Den.both {P : AV → PyData → List Nat → Prop} {Q : List AV → List PyData → List Nat → Prop} (h0 : P .none .none []) (h1 : ∀ b, P (.bool b) (.bool b) []) (h2 : ∀ i, P (.int i) (.int i) []) (h3 : ∀ x, PyData.strOk x = true → P (.str x) (.str x) [])
    (h4 : ∀ {i xs ds F}, σ[i]? = some ⟨true, xs⟩ → DenAll σ xs ds F → Q xs ds F → P (.ref i) (.list ds) (i :: F)) (h5 : ∀ {i xs ds F}, σ[i]? = some ⟨false, xs⟩ → DenAll σ xs ds F → Q xs ds F → P (.ref i) (.tuple ds) (i :: F))
    (h6 : Q [] [] []) (h7 : ∀ {a as d ds F G}, P a d F → Q as ds G → Q (a :: as) (d :: ds) (F ++ G)) : (∀ {v d F}, Den σ v d F → P v d F) ∧ (∀ {vs ds F}, DenAll σ vs ds F → Q vs ds F) :=
  ⟨fun h => Den.rec (motive_1 := fun v d F _ => P v d F) (motive_2 := fun vs ds F _ => Q vs ds F) h0 h1 h2 h3 (fun e a ih => h4 e a ih) (fun e a ih => h5 e a ih) h6 (fun _ _ x y => h7 x y) h,
    fun h => DenAll.rec (motive_1 := fun v d F _ => P v d F) (motive_2 := fun vs ds F _ => Q vs ds F) h0 h1 h2 h3 (fun e a ih => h4 e a ih) (fun e a ih => h5 e a ih) h6 (fun _ _ x y => h7 x y) h⟩

theorem den_lt : (∀ {v : AV} {d : PyData} {F : List Nat}, Den σ v d F → ∀ i ∈ F, i < σ.length) ∧ (∀ {vs : List AV} {ds : List PyData} {F : List Nat}, DenAll σ vs ds F → ∀ i ∈ F, i < σ.length) :=
  Den.both (P := fun _ _ F => ∀ i ∈ F, i < σ.length) (Q := fun _ _ F => ∀ i ∈ F, i < σ.length) (fun _ h => nomatch h) (fun _ _ h => nomatch h) (fun _ _ h => nomatch h) (fun _ _ _ h => nomatch h)
    (fun e _ ih i h => (List.mem_cons.mp h).elim (fun q => q ▸ get_lt e) (ih i)) (fun e _ ih i h => (List.mem_cons.mp h).elim (fun q => q ▸ get_lt e) (ih i)) (fun _ h => nomatch h) (fun x y i h => (List.mem_append.mp h).elim (x i) (y i))
theorem Den.lt {v : AV} {d : PyData} {F : List Nat} (h : Den σ v d F) : ∀ i ∈ F, i < σ.length := den_lt.1 h
theorem DenAll.lt {vs : List AV} {ds : List PyData} {F : List Nat} (h : DenAll σ vs ds F) : ∀ i ∈ F, i < σ.length := den_lt.2 h
theorem den_frame : (∀ {v : AV} {d : PyData} {F : List Nat}, Den σ v d F → (∀ i ∈ F, ∀ o, σ[i]? = some o → σ'[i]? = some o) → Den σ' v d F) ∧ (∀ {vs : List AV} {ds : List PyData} {F : List Nat}, DenAll σ vs ds F → (∀ i ∈ F, ∀ o, σ[i]? = some o → σ'[i]? = some o) → DenAll σ' vs ds F) :=
  Den.both (P := fun v d F => (∀ i ∈ F, ∀ o, σ[i]? = some o → σ'[i]? = some o) → Den σ' v d F) (Q := fun v d F => (∀ i ∈ F, ∀ o, σ[i]? = some o → σ'[i]? = some o) → DenAll σ' v d F) (fun _ => .none) (fun b _ => .bool b) (fun i _ => .int i) (fun x h _ => .str x h)
    (fun e _ ih h => .list (h _ (.head _) _ e) (ih fun i hi => h i (.tail _ hi))) (fun e _ ih h => .tuple (h _ (.head _) _ e) (ih fun i hi => h i (.tail _ hi))) (fun _ => .nil) (fun x y h => .cons (x fun i hi => h i (List.mem_append_left _ hi)) (y fun i hi => h i (List.mem_append_right _ hi)))
theorem Den.frame {v : AV} {d : PyData} {F : List Nat} (h : Den σ v d F) (k : ∀ i ∈ F, ∀ o, σ[i]? = some o → σ'[i]? = some o) : Den σ' v d F := den_frame.1 h k
theorem DenAll.frame {vs : List AV} {ds : List PyData} {F : List Nat} (h : DenAll σ vs ds F) (k : ∀ i ∈ F, ∀ o, σ[i]? = some o → σ'[i]? = some o) : DenAll σ' vs ds F := den_frame.2 h k
theorem Den.pre {v : AV} {d : PyData} {F : List Nat} (h : Den σ v d F) (p : σ <+: σ') : Den σ' v d F := h.frame fun _ _ _ e => get_pre p e
theorem DenAll.pre {vs : List AV} {ds : List PyData} {F : List Nat} (h : DenAll σ vs ds F) (p : σ <+: σ') : DenAll σ' vs ds F := h.frame fun _ _ _ e => get_pre p e
theorem den_tr : (∀ {v : AV} {d : PyData} {F : List Nat}, Den σ v d F → Tr σ v d) ∧ (∀ {vs : List AV} {ds : List PyData} {F : List Nat}, DenAll σ vs ds F → TrAll σ vs ds) :=
  Den.both (P := fun v d _ => Tr σ v d) (Q := fun v d _ => TrAll σ v d) .none .bool .int .str (fun e _ ih => .list e ih) (fun e _ ih => .tuple e ih) .nil .cons
theorem Den.tr {v : AV} {d : PyData} {F : List Nat} (h : Den σ v d F) : Tr σ v d := den_tr.1 h
theorem DenAll.tr {vs : List AV} {ds : List PyData} {F : List Nat} (h : DenAll σ vs ds F) : TrAll σ vs ds := den_tr.2 h
theorem den_det : (∀ {v : AV} {d : PyData} {F : List Nat}, Den σ v d F → ∀ d' F', Den σ v d' F' → d = d') ∧ (∀ {vs : List AV} {ds : List PyData} {F : List Nat}, DenAll σ vs ds F → ∀ ds' F', DenAll σ vs ds' F' → ds = ds') :=
  Den.both (P := fun v d _ => ∀ d' F', Den σ v d' F' → d = d') (Q := fun v d _ => ∀ d' F', DenAll σ v d' F' → d = d') (fun _ _ h => by cases h; rfl) (fun _ _ _ h => by cases h; rfl) (fun _ _ _ h => by cases h; rfl) (fun _ _ _ _ h => by cases h; rfl)
    (fun e _ ih _ _ h => by cases h with
      | list e' a' => rw [e] at e'; cases e'; rw [ih _ _ a']
      | tuple e' a' => rw [e] at e'; cases e')
    (fun e _ ih _ _ h => by cases h with
      | list e' a' => rw [e] at e'; cases e'
      | tuple e' a' => rw [e] at e'; cases e'; rw [ih _ _ a'])
    (fun _ _ h => by cases h; rfl) (fun x y _ _ h => by cases h with
      | cons a' b' => rw [x _ _ a', y _ _ b'])
theorem den_part : (∀ {v : AV} {d : PyData} {F : List Nat}, Den σ v d F → ∀ j ∈ F, ∃ d' F', Den σ (.ref j) d' F' ∧ sizeOf d' ≤ sizeOf d) ∧ (∀ {vs : List AV} {ds : List PyData} {F : List Nat}, DenAll σ vs ds F → ∀ j ∈ F, ∃ d' F', Den σ (.ref j) d' F' ∧ sizeOf d' ≤ sizeOf ds) :=
  Den.both (P := fun _ d F => ∀ j ∈ F, ∃ d' F', Den σ (.ref j) d' F' ∧ sizeOf d' ≤ sizeOf d) (Q := fun _ d F => ∀ j ∈ F, ∃ d' F', Den σ (.ref j) d' F' ∧ sizeOf d' ≤ sizeOf d) (fun _ h => nomatch h) (fun _ _ h => nomatch h) (fun _ _ h => nomatch h) (fun _ _ _ h => nomatch h)
    (fun e a ih j h => by
      rcases List.mem_cons.mp h with rfl | h
      · exact ⟨_, _, .list e a, Nat.le_refl _⟩
      · obtain ⟨d', F', h1, h2⟩ := ih j h
        exact ⟨d', F', h1, Nat.le_trans h2 (by rw [PyData.list.sizeOf_spec]; exact Nat.le_add_left _ _)⟩)
    (fun e a ih j h => by
      rcases List.mem_cons.mp h with rfl | h
      · exact ⟨_, _, .tuple e a, Nat.le_refl _⟩
      · obtain ⟨d', F', h1, h2⟩ := ih j h
        exact ⟨d', F', h1, Nat.le_trans h2 (by rw [PyData.tuple.sizeOf_spec]; exact Nat.le_add_left _ _)⟩)
    (fun _ h => nomatch h) (fun x y j h => by
      rcases List.mem_append.mp h with h | h
      · obtain ⟨d', F', h1, h2⟩ := x j h
        exact ⟨d', F', h1, Nat.le_trans h2 (by rw [List.cons.sizeOf_spec]; exact Nat.le_trans (Nat.le_add_left _ 1) (Nat.le_add_right _ _))⟩
      · obtain ⟨d', F', h1, h2⟩ := y j h
        exact ⟨d', F', h1, Nat.le_trans h2 (by rw [List.cons.sizeOf_spec]; exact Nat.le_add_left _ _)⟩)
theorem DenAll.off {i : Nat} {xs : List AV} {ds : List PyData} {F : List Nat} (e : σ[i]? = some ⟨true, xs⟩) (a : DenAll σ xs ds F) : i ∉ F := fun h => by
  obtain ⟨d', F', h1, h2⟩ := den_part.2 a i h
  have := den_det.1 h1 _ _ (.list e a)
  subst this
  simp only [PyData.list.sizeOf_spec] at h2
  omega

theorem Den.ref_lt {i : Nat} {d : PyData} {F : List Nat} (h : Den σ (.ref i) d F) : i < σ.length ∧ i ∈ F := by
  cases h with
  | list e a => exact ⟨get_lt e, .head _⟩
  | tuple e a => exact ⟨get_lt e, .head _⟩
theorem Den.scal_nil {v : AV} {d : PyData} {F : List Nat} (h : Den σ v d F) (s : scal d = true) : F = [] := by
  cases h <;> first | rfl | cases s
theorem Den.int_eq {v : AV} {i : Int} {F : List Nat} (h : Den σ v (.int i) F) : v = .int i := by cases h; rfl
theorem DenAll.flat_nil {vs : List AV} {ds : List PyData} {F : List Nat} (h : DenAll σ vs ds F) : flat ds = true → F = [] := by
  unfold flat
  intro s
  induction ds generalizing vs F with
  | nil => cases h; rfl
  | cons d ds ih =>
    cases h with
    | cons a b =>
      simp only [List.all_cons, Bool.and_eq_true] at s
      rw [a.scal_nil s.1, ih b s.2]; rfl
theorem DenAll.length {vs : List AV} {ds : List PyData} {F : List Nat} (h : DenAll σ vs ds F) : vs.length = ds.length := by
  induction ds generalizing vs F with
  | nil => cases h; rfl
  | cons d ds ih => cases h with | cons a b => simp [ih b]
theorem DenAll.get {vs : List AV} {ds : List PyData} {F : List Nat} (h : DenAll σ vs ds F) {j : Nat} {d : PyData} (e : ds[j]? = some d) : ∃ v G, vs[j]? = some v ∧ Den σ v d G ∧ ∀ i ∈ G, i ∈ F := by
  induction ds generalizing vs F j with
  | nil => simp at e
  | cons d₀ ds ih =>
    cases h with
    | cons a b =>
      cases j with
      | zero => simp at e; subst e; exact ⟨_, _, rfl, a, fun i hi => List.mem_append_left _ hi⟩
      | succ j =>
        simp at e
        obtain ⟨v, G, h1, h2, h3⟩ := ih b e
        exact ⟨v, G, by simpa using h1, h2, fun i hi => List.mem_append_right _ (h3 i hi)⟩
theorem DenAll.append {vs ws : List AV} {ds es : List PyData} {F G : List Nat} (h : DenAll σ vs ds F) (k : DenAll σ ws es G) : DenAll σ (vs ++ ws) (ds ++ es) (F ++ G) := by
  induction ds generalizing vs F with
  | nil => cases h; exact k
  | cons d ds ih => cases h with | cons a b => rw [List.append_assoc]; exact .cons a (ih b)
theorem DenAll.take {vs : List AV} {ds : List PyData} {F : List Nat} (h : DenAll σ vs ds F) (k : Nat) : ∃ G, DenAll σ (vs.take k) (ds.take k) G ∧ ∀ i ∈ G, i ∈ F := by
  induction ds generalizing vs F k with
  | nil => cases h; simp; exact ⟨[], .nil, fun _ h => nomatch h⟩
  | cons d ds ih =>
    cases h with
    | cons a b =>
      cases k with
      | zero => exact ⟨[], .nil, fun _ h => nomatch h⟩
      | succ k =>
        obtain ⟨G, h1, h2⟩ := ih b k
        exact ⟨_, .cons a h1, fun i hi => by
          rcases List.mem_append.mp hi with q | q
          · exact List.mem_append_left _ q
          · exact List.mem_append_right _ (h2 i q)⟩
theorem DenAll.drop {vs : List AV} {ds : List PyData} {F : List Nat} (h : DenAll σ vs ds F) (k : Nat) : ∃ G, DenAll σ (vs.drop k) (ds.drop k) G ∧ ∀ i ∈ G, i ∈ F := by
  induction ds generalizing vs F k with
  | nil => cases h; simp; exact ⟨[], .nil, fun _ h => nomatch h⟩
  | cons d ds ih =>
    cases h with
    | cons a b =>
      cases k with
      | zero => exact ⟨_, .cons a b, fun _ h => h⟩
      | succ k =>
        obtain ⟨G, h1, h2⟩ := ih b k
        exact ⟨G, h1, fun i hi => List.mem_append_right _ (h2 i hi)⟩
end

theorem shal_depth : ∀ (n : Nat) (d : PyData), shal n d = true → d.depth ≤ n
  | n, .none, _ => Nat.zero_le _
  | n, .bool _, _ => Nat.zero_le _
  | n, .int _, _ => Nat.zero_le _
  | n, .str _, _ => Nat.zero_le _
  | 0, .list _, h => by cases h
  | 0, .tuple _, h => by cases h
  | 0, .dict _, h => by cases h
  | n + 1, .dict _, h => by cases h
  | n + 1, .list ds, h => by
    have : ∀ ds : List PyData, ds.all (shal n) = true → PyData.depthAll ds ≤ n := fun ds h => by
      induction ds with
      | nil => exact Nat.zero_le _
      | cons d ds ih =>
        simp only [List.all_cons, Bool.and_eq_true] at h
        rw [PyData.depthAll]
        exact Nat.max_le.mpr ⟨shal_depth n d h.1, ih h.2⟩
    rw [PyData.depth]
    have := this ds h
    omega
  | n + 1, .tuple ds, h => by
    have : ∀ ds : List PyData, ds.all (shal n) = true → PyData.depthAll ds ≤ n := fun ds h => by
      induction ds with
      | nil => exact Nat.zero_le _
      | cons d ds ih =>
        simp only [List.all_cons, Bool.and_eq_true] at h
        rw [PyData.depthAll]
        exact Nat.max_le.mpr ⟨shal_depth n d h.1, ih h.2⟩
    rw [PyData.depth]
    have := this ds h
    omega
theorem shal_depthAll (n : Nat) : ∀ ds : List PyData, ds.all (shal n) = true → PyData.depthAll ds ≤ n := fun ds h => by
  induction ds with
  | nil => exact Nat.zero_le _
  | cons d ds ih =>
    simp only [List.all_cons, Bool.and_eq_true] at h
    rw [PyData.depthAll]
    exact Nat.max_le.mpr ⟨shal_depth n d h.1, ih h.2⟩

structure Foot (g n₀ len : Nat) (m : Str → Bool) (η : VEnv) (Fp : Str → List Nat) (b mi : Bool) (F : List Nat) : Prop where
  born : b = true → ∀ i ∈ F, len ≤ i
  mine : mi = true → ∀ i ∈ F, n₀ ≤ i
  src : ∀ i ∈ F, i < g ∨ len ≤ i ∨ ∃ y, m y = true ∧ (η y).isSome = true ∧ i ∈ Fp y

section
variable {g n₀ len len' : Nat} {m m' : Str → Bool} {η : VEnv} {Fp : Str → List Nat} {b b' mi mi' : Bool} {F G : List Nat}
theorem Foot.nil : Foot g n₀ len m η Fp b mi [] := ⟨fun _ _ h => (nomatch h), fun _ _ h => (nomatch h), fun _ h => (nomatch h)⟩
theorem Foot.mono (h : Foot g n₀ len' m η Fp b mi F) (hl : len ≤ len') (hm : ∀ y, m y = true → m' y = true) (hb : b' = true → b = true) (hmi : mi' = true → mi = true) (hs : ∀ i ∈ G, i ∈ F) : Foot g n₀ len m' η Fp b' mi' G :=
  ⟨fun q i hi => Nat.le_trans hl (h.born (hb q) i (hs i hi)), fun q i hi => h.mine (hmi q) i (hs i hi), fun i hi => by
    rcases h.src i (hs i hi) with q | q | ⟨y, q, r⟩
    · exact .inl q
    · exact .inr (.inl (Nat.le_trans hl q))
    · exact .inr (.inr ⟨y, hm y q, r⟩)⟩
theorem Foot.append (h : Foot g n₀ len m η Fp b mi F) (k : Foot g n₀ len m η Fp b' mi' G) : Foot g n₀ len m η Fp (b && b') (mi && mi') (F ++ G) :=
  ⟨fun q i hi => by
    rw [Bool.and_eq_true] at q
    rcases List.mem_append.mp hi with hi | hi
    · exact h.born q.1 i hi
    · exact k.born q.2 i hi, fun q i hi => by
    rw [Bool.and_eq_true] at q
    rcases List.mem_append.mp hi with hi | hi
    · exact h.mine q.1 i hi
    · exact k.mine q.2 i hi, fun i hi => by
    rcases List.mem_append.mp hi with hi | hi
    · exact h.src i hi
    · exact k.src i hi⟩
theorem Foot.cons {i : Nat} (h : Foot g n₀ len m η Fp b mi F) (hl : len ≤ i) (hn : n₀ ≤ i) : Foot g n₀ len m η Fp b mi (i :: F) :=
  ⟨fun q j hj => by
    rcases List.mem_cons.mp hj with rfl | hj
    · exact hl
    · exact h.born q j hj, fun q j hj => by
    rcases List.mem_cons.mp hj with rfl | hj
    · exact hn
    · exact h.mine q j hj, fun j hj => by
    rcases List.mem_cons.mp hj with rfl | hj
    · exact .inr (.inl hl)
    · exact h.src j hj⟩
theorem Foot.tail {ds : List PyData} {σ : List AO} {xs : List AV} {j : Nat} (h : Foot g n₀ len m η Fp b mi (j :: F)) (a : DenAll σ xs ds F) : Foot g n₀ len m η Fp (flat ds || b) (flat ds || mi) F :=
  ⟨fun q i hi => by
    rcases Bool.or_eq_true_iff.mp q with q | q
    · rw [a.flat_nil q] at hi; cases hi
    · exact h.born q i (.tail _ hi), fun q i hi => by
    rcases Bool.or_eq_true_iff.mp q with q | q
    · rw [a.flat_nil q] at hi; cases hi
    · exact h.mine q i (.tail _ hi), fun i hi => h.src i (.tail _ hi)⟩
theorem Foot.elem {d : PyData} {σ : List AO} {v : AV} (h : Foot g n₀ len m η Fp b mi F) (a : Den σ v d G) (hs : ∀ i ∈ G, i ∈ F) : Foot g n₀ len m η Fp (scal d || b) (scal d || mi) G :=
  ⟨fun q i hi => by
    rcases Bool.or_eq_true_iff.mp q with q | q
    · rw [a.scal_nil q] at hi; cases hi
    · exact h.born q i (hs i hi), fun q i hi => by
    rcases Bool.or_eq_true_iff.mp q with q | q
    · rw [a.scal_nil q] at hi; cases hi
    · exact h.mine q i (hs i hi), fun i hi => h.src i (hs i hi)⟩
end

structure VRel (σ₀ : List AO) (A : List Nat) (κ : Str → Option NameKind) (n₀ : Nat) (K : List (Nat × AO)) (η : VEnv) (Fp : Str → List Nat) (st : ST) : Prop where
  pre : σ₀ <+: st.σ
  g₀ : σ₀.length ≤ n₀
  nle : n₀ ≤ st.σ.length
  vars : ∀ x e, η x = some e → (κ x = some .local ∨ κ x = some .cell) ∧ ∃ v, st.ρ x = some v ∧ Den st.σ v e.d (Fp x)
  mine : ∀ x e, η x = some e → e.mine = true → ∀ i ∈ Fp x, n₀ ≤ i
  old : ∀ x e, η x = some e → ∀ i ∈ Fp x, n₀ ≤ i ∨ i < σ₀.length ∨ i ∈ A
  own : ∀ x e, η x = some e → e.own = true → ∃ i, st.ρ x = some (.ref i) ∧ n₀ ≤ i ∧ (∀ y, y ≠ x → (η y).isSome = true → i ∉ Fp y) ∧ ∀ p ∈ K, p.1 ≠ i
  hold : ∀ p ∈ K, st.σ[p.1]? = some p.2

section
variable {σ₀ : List AO} {A : List Nat} {κ : Str → Option NameKind} {n₀ : Nat} {K : List (Nat × AO)} {η : VEnv} {Fp : Str → List Nat} {st : ST}

theorem VRel.ext {σ' : List AO} (R : VRel σ₀ A κ n₀ K η Fp st) (p : st.σ <+: σ') : VRel σ₀ A κ n₀ K η Fp ⟨st.ρ, σ'⟩ :=
  ⟨R.pre.trans p, R.g₀, Nat.le_trans R.nle (len_pre p), fun x e h => by
    obtain ⟨h1, v, h2, h3⟩ := R.vars x e h
    exact ⟨h1, v, h2, h3.pre p⟩, R.mine, R.old, R.own, fun q hq => get_pre p (R.hold q hq)⟩

theorem VRel.lt (R : VRel σ₀ A κ n₀ K η Fp st) {x : Str} (h : (η x).isSome = true) : ∀ i ∈ Fp x, i < st.σ.length := fun i hi => by
  obtain ⟨e, he⟩ := Option.isSome_iff_exists.mp h
  obtain ⟨_, v, _, h3⟩ := R.vars x e he
  exact h3.lt i hi

theorem VRel.store {x : Str} {v : AV} {e : VE} {F : List Nat} (R : VRel σ₀ A κ n₀ K η Fp st) (hk : κ x = some .local ∨ κ x = some .cell) (hd : Den st.σ v e.d F) (hm : e.mine = true → ∀ i ∈ F, n₀ ≤ i) (ho : ∀ i ∈ F, n₀ ≤ i ∨ i < σ₀.length ∨ i ∈ A)
    (hw : e.own = true → ∃ i, v = .ref i ∧ n₀ ≤ i ∧ (∀ y, y ≠ x → (η y).isSome = true → i ∉ Fp y) ∧ ∀ p ∈ K, p.1 ≠ i)
    (hsep : ∀ z e' i, z ≠ x → η z = some e' → e'.own = true → st.ρ z = some (.ref i) → i ∉ F) :
    VRel σ₀ A κ n₀ K (updV η x e) (fun y => if y = x then F else Fp y) ⟨upd st.ρ x v, st.σ⟩ := by
  refine ⟨R.pre, R.g₀, R.nle, fun y e' h => ?_, fun y e' h q => ?_, fun y e' h => ?_, fun y e' h q => ?_, R.hold⟩
  · by_cases hy : y = x
    · subst hy
      simp only [updV, if_true, Option.some.injEq] at h
      subst h
      exact ⟨hk, v, by simp [upd], by simpa using hd⟩
    · simp only [updV, if_neg hy] at h
      obtain ⟨h1, w, h2, h3⟩ := R.vars y e' h
      exact ⟨h1, w, by simp [upd, hy, h2], by simpa [hy] using h3⟩
  · by_cases hy : y = x
    · subst hy
      simp only [updV, if_true, Option.some.injEq] at h
      subst h
      simpa using hm q
    · simp only [updV, if_neg hy] at h
      simpa [hy] using R.mine y e' h q
  · by_cases hy : y = x
    · subst hy
      simpa using ho
    · simp only [updV, if_neg hy] at h
      simpa [hy] using R.old y e' h
  · by_cases hy : y = x
    · subst hy
      simp only [updV, if_true, Option.some.injEq] at h
      subst h
      obtain ⟨i, rfl, h1, h2, h3⟩ := hw q
      exact ⟨i, by simp [upd], h1, fun z hz hs => by simpa [hz] using h2 z hz (by simpa [updV, hz] using hs), h3⟩
    · simp only [updV, if_neg hy] at h
      obtain ⟨i, h0, h1, h2, h3⟩ := R.own y e' h q
      refine ⟨i, by simp [upd, hy, h0], h1, fun z hz hs => ?_, h3⟩
      by_cases hzx : z = x
      · subst hzx
        simpa using hsep y e' i hy h q h0
      · simpa [hzx] using h2 z hz (by simpa [updV, hzx] using hs)

theorem VRel.weaken {η' : VEnv} (R : VRel σ₀ A κ n₀ K η Fp st) (h : ∀ y e', η' y = some e' → ∃ e, η y = some e ∧ e'.d = e.d ∧ (e'.mine = true → e.mine = true) ∧ (e'.own = true → e.own = true)) : VRel σ₀ A κ n₀ K η' Fp st := by
  have hs : ∀ y, (η' y).isSome = true → (η y).isSome = true := fun y q => by
    obtain ⟨e', he⟩ := Option.isSome_iff_exists.mp q
    obtain ⟨e, he', _⟩ := h y e' he
    rw [he']; rfl
  refine ⟨R.pre, R.g₀, R.nle, fun y e' q => ?_, fun y e' q z => ?_, fun y e' q => ?_, fun y e' q z => ?_, R.hold⟩
  · obtain ⟨e, h1, h2, _⟩ := h y e' q
    rw [h2]; exact R.vars y e h1
  · obtain ⟨e, h1, _, h2, _⟩ := h y e' q
    exact R.mine y e h1 (h2 z)
  · obtain ⟨e, h1, _⟩ := h y e' q
    exact R.old y e h1
  · obtain ⟨e, h1, _, _, h2⟩ := h y e' q
    obtain ⟨i, k1, k2, k3, k4⟩ := R.own y e h1 (h2 z)
    exact ⟨i, k1, k2, fun w hw hs' => k3 w hw (hs w hs'), k4⟩

theorem dropV_sub {m : Expr → Str → Bool} {ex : Expr} {r : VR} {y : Str} {e' : VE} (h : dropV m ex r η y = some e') : ∃ e, η y = some e ∧ e'.d = e.d ∧ (e'.mine = true → e.mine = true) ∧ (e'.own = true → e.own = true) := by
  unfold dropV at h
  split at h
  · exact ⟨e', h, rfl, id, id⟩
  · dsimp only at h
    split at h
    · cases q : η y with
      | none => rw [q] at h; cases h
      | some e => rw [q] at h; cases h; exact ⟨e, rfl, rfl, id, fun z => by cases z⟩
    · exact ⟨e', h, rfl, id, id⟩

theorem VRel.sep {m : Expr → Str → Bool} {ex : Expr} {r : VR} {F : List Nat} (R : VRel σ₀ A κ n₀ K η Fp st) (hd : scal r.d = true → F = []) (hF : Foot σ₀.length n₀ st.σ.length (m ex) η Fp r.born r.mine F) {z : Str} {e' : VE} {i : Nat}
    (hz : dropV m ex r η z = some e') (ho : e'.own = true) (hi : st.ρ z = some (.ref i)) : i ∉ F := fun q => by
  obtain ⟨e, h1, h2, _, h3⟩ := dropV_sub hz
  obtain ⟨i', k1, k2, k3, k4⟩ := R.own z e h1 (h3 ho)
  rw [hi] at k1
  cases k1
  obtain ⟨_, w, h5, h6⟩ := R.vars z e h1
  rw [hi] at h5
  cases h5
  have hlt : i < st.σ.length := h6.ref_lt.1
  rcases hF.src i q with q' | q' | ⟨y, q1, q2, q3⟩
  · exact absurd k2 (Nat.not_le.mpr (Nat.lt_of_lt_of_le q' R.g₀))
  · exact absurd q' (Nat.not_le.mpr hlt)
  · by_cases hyz : y = z
    · subst hyz
      unfold dropV at hz
      split at hz
      · rename_i hc
        rcases Bool.or_eq_true_iff.mp hc with hc | hc
        · rw [hd hc] at q; cases q
        · exact absurd (hF.born hc i q) (Nat.not_le.mpr hlt)
      · dsimp only at hz
        rw [if_pos q1, h1] at hz
        cases hz
        cases ho
    · exact k3 y hyz q2 q3

theorem VRel.oldOf {m : Str → Bool} {b mi : Bool} {F : List Nat} (R : VRel σ₀ A κ n₀ K η Fp st) (hF : Foot σ₀.length n₀ st.σ.length m η Fp b mi F) : ∀ i ∈ F, n₀ ≤ i ∨ i < σ₀.length ∨ i ∈ A := fun i hi => by
  rcases hF.src i hi with q | q | ⟨y, _, q2, q3⟩
  · exact .inr (.inl q)
  · exact .inl (Nat.le_trans R.nle q)
  · obtain ⟨e, he⟩ := Option.isSome_iff_exists.mp q2
    exact R.old y e he i q3
end
end Mine

end

section
set_option autoImplicit false
namespace Mine
open PySem

noncomputable def RGoal {α : Type} (st : ST) (X : KX) (res : Rz α) (P : α → Prop) : Prop := match res with
  | .ok a => P a
  | .err C => ∀ σ', st.σ <+: σ' → X false C ⟨st.ρ, σ'⟩
  | .stuck => False

section
variable {α β : Type} {st : ST} {X : KX}
theorem RGoal.bind {res : Rz α} {f : α → Rz β} {P : β → Prop} (h : RGoal st X (res.bind f) P) : RGoal st X res (fun a => RGoal st X (f a) P) := by
  cases res <;> exact h
theorem RGoal.mono {res : Rz α} {P P' : α → Prop} (h : RGoal st X res P) (hp : ∀ a, P a → P' a) : RGoal st X res P' := by
  cases res with
  | ok a => exact hp a h
  | err C => exact h
  | stuck => exact h
theorem RGoal.ext {res : Rz α} {P P' : α → Prop} {σ' : List AO} (h : RGoal st X res P) (p : st.σ <+: σ') (hp : ∀ a, P a → P' a) : RGoal ⟨st.ρ, σ'⟩ X res P' := by
  cases res with
  | ok a => exact hp a h
  | err C => exact fun σ'' p' => h σ'' (p.trans p')
  | stuck => exact h
theorem RGoal.strict {res : Rz α} {P : α → Prop} {X' : KX} {ρ' : Str → Option AV} {σ' : List AO} (h : RGoal st X res.strict P) : RGoal ⟨ρ', σ'⟩ X' res P := by
  cases res with
  | ok a => exact h
  | err C => exact h.elim
  | stuck => exact h.elim
theorem RGoal.ite {c : Prop} [Decidable c] {a : Rz α} {P : α → Prop} (h : RGoal st X (if c then a else .stuck) P) : c ∧ RGoal st X a P := by
  split at h
  · rename_i hc; exact ⟨hc, h⟩
  · exact h.elim
end

section
variable {α : Type} {st : ST} {X : KX} {P : α → Prop}
theorem RGoal.one {a : PyData} {f : Int → Rz α} (h : RGoal st X (oneV a f) P) : ∃ i, a = .int i ∧ RGoal st X (f i) P := by
  cases a with
  | int i => exact ⟨i, rfl, h⟩
  | _ => exact h.elim
theorem RGoal.intsA {a b : PyData} {f : Int → Int → Rz α} (h : RGoal st X (intsV a b f) P) : ∃ i j, a = .int i ∧ b = .int j ∧ RGoal st X (f i j) P := by
  obtain ⟨i, e1, h1⟩ := h.one
  obtain ⟨j, e2, h2⟩ := h1.one
  exact ⟨i, j, e1, e2, h2⟩
theorem RGoal.lst {a : PyData} {f : List PyData → Rz α} (h : RGoal st X (lstV a f) P) : ∃ ds, a = .list ds ∧ RGoal st X (f ds) P := by
  cases a with
  | list ds => exact ⟨ds, rfl, h⟩
  | _ => exact h.elim
theorem RGoal.seqs {a : PyData} {f : List PyData → Rz α} (h : RGoal st X (seqsV a f) P) : ∃ ds, (a = .list ds ∨ a = .tuple ds) ∧ RGoal st X (f ds) P := by
  cases a with
  | list ds => exact ⟨ds, .inl rfl, h⟩
  | tuple ds => exact ⟨ds, .inr rfl, h⟩
  | _ => exact h.elim
theorem RGoal.opt {γ : Type} {o : Option γ} {f : γ → Rz α} (h : RGoal st X (o.elim .stuck f) P) : ∃ c, o = some c ∧ RGoal st X (f c) P := by
  cases o with
  | none => exact h.elim
  | some c => exact ⟨c, rfl, h⟩
end
theorem Den.seq {σ : List AO} {v : AV} {d : PyData} {ds : List PyData} {F : List Nat} (h : Den σ v d F) (e : d = .list ds ∨ d = .tuple ds) : ∃ i b xs F₀, v = .ref i ∧ σ[i]? = some ⟨b, xs⟩ ∧ DenAll σ xs ds F₀ ∧ F = i :: F₀ := by
  rcases e with rfl | rfl
  · cases h with
    | list e a => exact ⟨_, _, _, _, rfl, e, a, rfl⟩
  · cases h with
    | tuple e a => exact ⟨_, _, _, _, rfl, e, a, rfl⟩

noncomputable abbrev EP (g n₀ : Nat) (m : Str → Bool) (η : VEnv) (Fp : Str → List Nat) (st : ST) (Q : KE) : VR → Prop := fun r =>
  ∀ v σ' F, st.σ <+: σ' → Den σ' v r.d F → Foot g n₀ st.σ.length m η Fp r.born r.mine F → Q v ⟨st.ρ, σ'⟩
noncomputable abbrev TP (st : ST) (Q : Bool → ST → Prop) : Bool → Prop := fun b => ∀ σ', st.σ <+: σ' → Q b ⟨st.ρ, σ'⟩
noncomputable abbrev LP (g n₀ : Nat) (m : Str → Bool) (η : VEnv) (Fp : Str → List Nat) (st : ST) (Q : List AV → ST → Prop) : List VR → Prop := fun rs =>
  ∀ vs σ' F, st.σ <+: σ' → DenAll σ' vs (rs.map (·.d)) F → Foot g n₀ st.σ.length m η Fp (rs.all (·.born)) (rs.all (·.mine)) F → Q vs ⟨st.ρ, σ'⟩

noncomputable def SVE (σ₀ : List AO) (f : Cx → Expr → ST → KE → KX → Prop) (ve : Expr → VEnv → Rz VR) (m : Expr → Str → Bool) (k : (Str → Option NameKind) → Expr → Bool) : Prop :=
  ∀ e A κ n₀ K η Fp st Q X, k κ e = true → VRel σ₀ A κ n₀ K η Fp st → RGoal st X (ve e η) (EP σ₀.length n₀ (m e) η Fp st Q) → f ⟨κ, n₀⟩ e st Q X
noncomputable def SVT (σ₀ : List AO) (f : Cx → Expr → ST → (Bool → ST → Prop) → KX → Prop) (vt : Expr → VEnv → Rz Bool) (k : (Str → Option NameKind) → Expr → Bool) : Prop :=
  ∀ e A κ n₀ K η Fp st Q X, k κ e = true → VRel σ₀ A κ n₀ K η Fp st → RGoal st X (vt e η) (TP st Q) → f ⟨κ, n₀⟩ e st Q X

noncomputable def FnOk (σ₀ : List AO) (P : Fn) (φ : VFn) : Prop :=
  ∀ args ds F σ Q E, DenAll σ args ds F → σ₀ <+: σ →
    (match φ ds with
      | .ok r => ∀ v σ' F', σ <+: σ' → Den σ' v r.1 F' → (∀ i ∈ F', σ.length ≤ i ∨ (r.2 = false ∧ (i < σ₀.length ∨ i ∈ F))) → Q v σ'
      | .err C => E C
      | .stuck => False) → P args σ Q E

structure VOk (Θ : Thy) (Θv : VThy) (σ₀ : List AO) : Prop where
  glob : ∀ x d, Θv.glob x = some d → ∃ v F, Θ.glob x = some v ∧ Den σ₀ v d F
  fn : ∀ f φ, Θv.fn f = some φ → ∃ P, Θ.fn f = some P ∧ FnOk σ₀ P φ
  none : ∀ f, Θv.fn f = none → Θ.fn f = none
  exc : ∀ C, Θv.exc C = true → Θ.exc C = true

section
variable {Θ : Thy} {Θv : VThy} {σ₀ : List AO} {A : List Nat} {κ : Str → Option NameKind} {n₀ : Nat} {K : List (Nat × AO)} {η : VEnv} {Fp : Str → List Nat} {st : ST} {Q : KE} {X : KX} {m : Str → Bool}

theorem sv_args {f : Cx → Expr → ST → KE → KX → Prop} {ve : Expr → VEnv → Rz VR} {m : Expr → Str → Bool} {k : (Str → Option NameKind) → Expr → Bool} (H : SVE σ₀ f ve m k) :
    ∀ (es : List Expr) {st : ST} {Q : List AV → ST → Prop}, es.all (k κ) = true → VRel σ₀ A κ n₀ K η Fp st → RGoal st X (argsV ve es η) (LP σ₀.length n₀ (fun y => es.any fun e => m e y) η Fp st Q) → argsA (f ⟨κ, n₀⟩) es st Q X
  | [], st, Q, _, R, h => h [] st.σ [] (List.prefix_refl _) .nil .nil
  | e :: r, st, Q, hk, R, h => by
    simp only [List.all_cons, Bool.and_eq_true] at hk
    rw [argsV] at h
    refine H e A κ n₀ K η Fp st _ X hk.1 R (h.bind.mono fun a h' v σ' F p hd hF => ?_)
    refine sv_args H r hk.2 (R.ext p) (h'.bind.ext p fun rs h'' vs σ'' F' p' hd' hF' => ?_)
    refine h'' (v :: vs) σ'' (F ++ F') (p.trans p') (.cons (hd.pre p') hd') ?_
    have h1 := hF.mono (m' := fun y => (e :: r).any fun e => m e y) (Nat.le_refl _) (fun y q => by simp only [List.any_cons, q, Bool.true_or]) id id (fun _ h => h)
    have h2 := hF'.mono (m' := fun y => (e :: r).any fun e => m e y) (len_pre p) (fun y q => by simp only [List.any_cons, q, Bool.or_true]) id id (fun _ h => h)
    simpa only [List.all_cons] using h1.append h2

theorem sv_part {f : Cx → Expr → ST → KE → KX → Prop} {ve : Expr → VEnv → Rz VR} {m : Expr → Str → Bool} {k : (Str → Option NameKind) → Expr → Bool} (H : SVE σ₀ f ve m k) (x : Option Expr) {st : ST} {Q : KE} (hk : partB (k κ) x = true)
    (R : VRel σ₀ A κ n₀ K η Fp st) (h : RGoal st X (partsV ve x η) (fun r => ∀ v σ' F, st.σ <+: σ' → Den σ' v r.d F → Q v ⟨st.ρ, σ'⟩)) : partA (f ⟨κ, n₀⟩) x st Q X := by
  cases x with
  | none => exact h .none st.σ [] (List.prefix_refl _) .none
  | some e => exact H e A κ n₀ K η Fp st _ X hk R (h.mono fun r h' v σ' F p hd _ => h' v σ' F p hd)

theorem snoc_get {σ : List AO} {o : AO} : (σ ++ [o])[σ.length]? = some o := by simp

theorem sv_bin {op : Operator} {a b : VR} {v w : AV} {σ' : List AO} {F G : List Nat} (R : VRel σ₀ A κ n₀ K η Fp st) (p : st.σ <+: σ') (ha : Den σ' v a.d F) (hb : Den σ' w b.d G) (fa : Foot σ₀.length n₀ st.σ.length m η Fp a.born a.mine F)
    (fb : Foot σ₀.length n₀ st.σ.length m η Fp b.born b.mine G) (h : RGoal st X (binV op a b) (EP σ₀.length n₀ m η Fp st Q)) : binA op v w σ' (fun v σ => Q v ⟨st.ρ, σ⟩) := by
  have num : ∀ {f : Int → Int → Rz VR} {T : Int → Int → Prop}, RGoal st X (intsV a.d b.d f) (EP σ₀.length n₀ m η Fp st Q) → (∀ i j, RGoal st X (f i j) (EP σ₀.length n₀ m η Fp st Q) → T i j) → intsA v w T := fun {f T} h ht => by
    obtain ⟨i, j, e1, e2, h⟩ := h.intsA
    rw [e1] at ha
    rw [e2] at hb
    rw [ha.int_eq, hb.int_eq]
    exact ht i j h
  cases op with
  | Add =>
    obtain ⟨ad, ab, am⟩ := a
    obtain ⟨bd, bb, bm⟩ := b
    dsimp only at ha hb fa fb
    have h : RGoal st X (addV ⟨ad, ab, am⟩ ⟨bd, bb, bm⟩) (EP σ₀.length n₀ m η Fp st Q) := h
    cases ad with
    | int i =>
      obtain ⟨j, e, h'⟩ := RGoal.one (show RGoal st X (oneV bd _) _ from h)
      rw [e] at hb
      rw [ha.int_eq, hb.int_eq]
      exact h' _ σ' [] p (.int _) .nil
    | list xs =>
      obtain ⟨ys, e, h'⟩ := RGoal.lst (show RGoal st X (lstV bd _) _ from h)
      rw [e] at hb
      cases ha with
      | list e1 a1 => cases hb with
        | list e2 a2 =>
          have l1 := a1.length
          have l2 := a2.length
          refine ⟨_, _, e1, e2, by have := h'.ite.1; omega, h'.ite.2 _ _ (σ'.length :: (_ ++ _)) (p.trans ⟨_, rfl⟩) (.list snoc_get ((a1.append a2).pre ⟨_, rfl⟩)) ?_⟩
          exact ((fa.tail a1).append (fb.tail a2)).cons (len_pre p) (Nat.le_trans R.nle (len_pre p))
    | _ => exact h.elim
  | Sub => exact num h (fun i j h => h _ σ' [] p (.int _) .nil)
  | Mult => exact num h (fun i j h => ⟨h.ite.1.1, h.ite.1.2, h.ite.2 _ σ' [] p (.int _) .nil⟩)
  | Mod => exact num h (fun i j h => ⟨h.ite.1, h.ite.2 _ σ' [] p (.int _) .nil⟩)
  | FloorDiv => exact num h (fun i j h => ⟨h.ite.1.1, h.ite.1.2, h.ite.2 _ σ' [] p (.int _) .nil⟩)
  | _ => exact h.elim

theorem sv_cmp {op : CmpOp} {d e : PyData} {v w : AV} {σ' : List AO} {F G : List Nat} {P : Bool → Prop} (ha : Den σ' v d F) (hb : Den σ' w e G) (h : RGoal st X (cmpV op d e) P) : cmpA op v w σ' P := by
  have num : ∀ {f : Int → Int → Bool}, RGoal st X (intsV d e fun i j => .ok (f i j)) P → intsA v w fun i j => P (f i j) := fun {f} h => by
    obtain ⟨i, j, e1, e2, h⟩ := h.intsA
    rw [e1] at ha
    rw [e2] at hb
    rw [ha.int_eq, hb.int_eq]
    exact h
  cases op with
  | Lt => exact num h
  | LtE => exact num h
  | Gt => exact num h
  | GtE => exact num h
  | Eq =>
    have hc := Bool.and_eq_true_iff.mp h.ite.1
    exact ⟨d, e, ha.tr, hb.tr, Nat.le_trans (shal_depth 8 _ hc.1) (by decide), Nat.le_trans (shal_depth 8 _ hc.2) (by decide), h.ite.2⟩
  | NotEq =>
    have hc := Bool.and_eq_true_iff.mp h.ite.1
    exact ⟨d, e, ha.tr, hb.tr, Nat.le_trans (shal_depth 8 _ hc.1) (by decide), Nat.le_trans (shal_depth 8 _ hc.2) (by decide), h.ite.2⟩
  | NotIn =>
    obtain ⟨ds, q, h'⟩ := h.seqs
    obtain ⟨i, b, xs, F₀, rfl, e1, a1, rfl⟩ := hb.seq q
    have hc := Bool.and_eq_true_iff.mp h'.ite.1
    exact ⟨_, _, _, ha.tr, e1, a1.tr, Nat.le_trans (shal_depth 8 _ hc.1) (by decide), Nat.le_trans (shal_depthAll 7 _ hc.2) (by decide), h'.ite.2⟩
  | _ => exact h.elim

theorem sv_itemL {a : VR} {ds : List PyData} {xs : List AV} {i : Nat} {k : Int} {b : Bool} {σ' : List AO} {F : List Nat} (p : st.σ <+: σ') (e : σ'[i]? = some ⟨b, xs⟩) (ha : DenAll σ' xs ds F) (fa : Foot σ₀.length n₀ st.σ.length m η Fp a.born a.mine (i :: F))
    (h : RGoal st X (itemL a ds k) (EP σ₀.length n₀ m η Fp st Q)) : itemA (.ref i) (.int k) σ' (fun v => Q v ⟨st.ρ, σ'⟩) := by
  unfold itemL at h
  obtain ⟨hk, h⟩ := h.ite
  split at h
  · rename_i j hj
    split at h
    · rename_i d hd
      obtain ⟨v, G, h1, h2, h3⟩ := ha.get hd
      have hs : small = 4096 := rfl
      exact ⟨_, j, v, e, by omega, by omega, by rw [show (AO.mk b xs).items = xs from rfl, ha.length]; exact hj, h1, h v σ' G p h2 (fa.elem h2 fun i hi => .tail _ (h3 i hi))⟩
    · exact h.elim
  · exact h.elim
theorem sv_item {a k : VR} {v w : AV} {σ' : List AO} {F G : List Nat} (p : st.σ <+: σ') (ha : Den σ' v a.d F) (hb : Den σ' w k.d G) (fa : Foot σ₀.length n₀ st.σ.length m η Fp a.born a.mine F)
    (h : RGoal st X (itemV a k) (EP σ₀.length n₀ m η Fp st Q)) : itemA v w σ' (fun v => Q v ⟨st.ρ, σ'⟩) := by
  obtain ⟨ds, q, h1⟩ := h.seqs
  obtain ⟨k', e, h2⟩ := h1.one
  obtain ⟨i, b, xs, F₀, rfl, e1, a1, rfl⟩ := ha.seq q
  rw [e] at hb
  rw [hb.int_eq]
  exact sv_itemL p e1 a1 fa h2

theorem part_of {d : PyData} {v : AV} {σ' : List AO} {F : List Nat} {l : Option Int} (h : Den σ' v d F) (e : partV d = some l) : partZ v = some l := by
  cases h <;> first | exact e | cases e

theorem sv_slice {a : VR} {l u : PyData} {v w z : AV} {σ' : List AO} {F G G' : List Nat} (R : VRel σ₀ A κ n₀ K η Fp st) (p : st.σ <+: σ') (ha : Den σ' v a.d F) (hl : Den σ' w l G) (hu : Den σ' z u G') (fa : Foot σ₀.length n₀ st.σ.length m η Fp a.born a.mine F)
    (h : RGoal st X (sliceV a l u) (EP σ₀.length n₀ m η Fp st Q)) : sliceA v w z σ' (fun v σ => Q v ⟨st.ρ, σ⟩) := by
  obtain ⟨ds, h1, h⟩ := h.lst
  obtain ⟨lo, h2, h⟩ := h.opt
  obtain ⟨hi, h3, h⟩ := h.opt
  rw [h1] at ha
  cases ha with
  | list e a =>
    have l1 := a.length
    obtain ⟨hs, h⟩ := h.ite
    refine ⟨_, _, _, e, by omega, part_of hl h2, part_of hu h3, ?_⟩
    unfold sliceL
    rw [l1]
    unfold listV sliceL at h
    obtain ⟨G1, q1, q2⟩ := (a.drop (Option.elim _ 0 (clipAt _))).imp fun _ h => h
    obtain ⟨G2, q3, q4⟩ := q1.take (Option.elim _ _ (clipAt _) - Option.elim _ 0 (clipAt _))
    refine h _ _ (σ'.length :: G2) (p.trans ⟨_, rfl⟩) (.list snoc_get (q3.pre ⟨_, rfl⟩)) ?_
    exact (((fa.tail a).mono (Nat.le_refl _) (fun _ q => q) id id fun i hi => q2 i (q4 i hi))).cons (len_pre p) (Nat.le_trans R.nle (len_pre p))

theorem sv_builtin {f : Str} {rs : List VR} {vs : List AV} {σ' : List AO} {F : List Nat} (R : VRel σ₀ A κ n₀ K η Fp st) (p : st.σ <+: σ') (ha : DenAll σ' vs (rs.map (·.d)) F) (fa : Foot σ₀.length n₀ st.σ.length m η Fp (rs.all (·.born)) (rs.all (·.mine)) F)
    (h : RGoal st X (builtinV f rs) (EP σ₀.length n₀ m η Fp st Q)) : builtinA f vs σ' (fun v σ => Q v ⟨st.ρ, σ⟩) := by
  have mm : ∀ {g : Int → Int → Int}, RGoal st X (minV g rs) (EP σ₀.length n₀ m η Fp st Q) → minA g vs σ' (fun v σ => Q v ⟨st.ρ, σ⟩) := fun {g} h => by
    obtain ⟨⟨a, b⟩, h1, h2⟩ := h.opt
    obtain ⟨i, j, e1, e2, h3⟩ := h2.intsA
    rw [two_inv h1] at ha
    dsimp only at e1 e2
    simp only [List.map_cons, List.map_nil, e1, e2] at ha
    cases ha with
    | cons a b => cases b with
      | cons b c =>
        cases c
        rw [a.int_eq, b.int_eq]
        exact h3 _ σ' [] p (.int _) .nil
  unfold builtinV at h
  unfold builtinA
  by_cases hf : f = "len"
  · rw [if_pos hf] at h ⊢
    obtain ⟨r, h1, h2⟩ := h.opt
    obtain ⟨ds, q, h3⟩ := h2.seqs
    rw [one_inv h1] at ha
    cases ha with
    | cons a b =>
      cases b
      obtain ⟨i, bb, xs, F₀, rfl, e, a1, rfl⟩ := a.seq q
      have l1 := a1.length
      exact ⟨_, e, by dsimp only; have := h3.ite.1; omega, by dsimp only; rw [l1]; exact h3.ite.2 _ σ' [] p (.int _) .nil⟩
  rw [if_neg hf] at h ⊢
  clear hf
  by_cases hf : f = "list"
  · rw [if_pos hf] at h ⊢
    obtain ⟨r, h1, h2⟩ := h.opt
    obtain ⟨ds, q, h3⟩ := h2.lst
    have hr := one_inv h1
    subst hr
    obtain ⟨rd, rb, rm⟩ := r
    dsimp only at q
    subst q
    cases ha with
    | cons a b => cases b; cases a with
      | list e a =>
        have l1 := a.length
        refine ⟨_, e, by have := h3.ite.1; omega, h3.ite.2 _ _ (σ'.length :: _) (p.trans ⟨_, rfl⟩) (.list snoc_get (a.pre ⟨_, rfl⟩)) ?_⟩
        rw [List.append_nil] at fa
        have := fa.tail a
        simp only [List.all_cons, List.all_nil, Bool.and_true] at this
        exact this.cons (len_pre p) (Nat.le_trans R.nle (len_pre p))
  rw [if_neg hf] at h ⊢
  clear hf
  by_cases hf : f = "min"
  · rw [if_pos hf] at h ⊢
    exact mm h
  rw [if_neg hf] at h ⊢
  clear hf
  by_cases hf : f = "max"
  · rw [if_pos hf] at h ⊢
    exact mm h
  rw [if_neg hf] at h
  exact h.elim

theorem sv_call (O : VOk Θ Θv σ₀) {f : Str} {rs : List VR} {vs : List AV} {σ' : List AO} {F : List Nat} (R : VRel σ₀ A κ n₀ K η Fp st) (p : st.σ <+: σ') (hκ : κ f = some .globalImplicit) (ha : DenAll σ' vs (rs.map (·.d)) F)
    (fa : Foot σ₀.length n₀ st.σ.length m η Fp (rs.all (·.born)) (rs.all (·.mine)) F) (h : RGoal st X (callV Θv f rs) (EP σ₀.length n₀ m η Fp st Q)) : callA Θ ⟨κ, n₀⟩ f vs ⟨st.ρ, σ'⟩ Q X := by
  refine ⟨hκ, ?_⟩
  unfold callV at h
  cases hf : Θv.fn f with
  | none =>
    rw [hf] at h
    rw [O.none f hf]
    exact sv_builtin (st := st) R p ha fa h
  | some φ =>
    rw [hf] at h
    obtain ⟨P, hP, hφ⟩ := O.fn f φ hf
    rw [hP]
    refine hφ vs _ F σ' _ _ ha (R.pre.trans p) ?_
    dsimp only at h
    cases hr : φ (rs.map (·.d)) with
    | ok r =>
      rw [hr] at h
      intro v σ'' F' p' hd hF
      refine h v σ'' F' (p.trans p') hd ⟨fun q i hi => ?_, fun q i hi => ?_, fun i hi => ?_⟩
      · rcases Bool.or_eq_true_iff.mp q with q | q
        · rw [hd.scal_nil q] at hi; cases hi
        · rcases hF i hi with z | ⟨z, _⟩
          · exact Nat.le_trans (len_pre p) z
          · rw [q] at z; cases z
      · rcases Bool.or_eq_true_iff.mp q with q | q
        · rw [hd.scal_nil q] at hi; cases hi
        · rcases hF i hi with z | ⟨z, _⟩
          · exact Nat.le_trans (Nat.le_trans R.nle (len_pre p)) z
          · rw [q] at z; cases z
      · rcases hF i hi with z | ⟨_, z | z⟩
        · exact .inr (.inl (Nat.le_trans (len_pre p) z))
        · exact .inl z
        · exact fa.src i z
    | err C => rw [hr] at h; exact h σ' p
    | stuck => rw [hr] at h; exact h
end
end Mine

end

section
set_option autoImplicit false
namespace Mine
open PySem

section
variable {Θ : Thy} {Θv : VThy} {σ₀ : List AO} {A : List Nat} {κ : Str → Option NameKind} {n₀ : Nat} {K : List (Nat × AO)} {η : VEnv} {Fp : Str → List Nat} {st : ST} {X : KX}

structure ItOk (g n₀ len : Nat) (m : Str → Bool) (η : VEnv) (Fp : Str → List Nat) (vi : VI) (its : It) (σ : List AO) (G : List Nat) : Prop where
  ok : its.ok σ
  all : ∃ F, DenAll σ its.items vi.ds F ∧ ∀ i ∈ F, i ∈ G
  own : ∀ i o, its.own = some (i, o) → i ∈ G
  lt : ∀ i ∈ G, i < σ.length
  foot : Foot g n₀ len m η Fp vi.born vi.mine G

noncomputable abbrev IP (g n₀ : Nat) (m : Str → Bool) (η : VEnv) (Fp : Str → List Nat) (st : ST) (Q : It → ST → Prop) : VI → Prop := fun vi =>
  ∀ its σ' G, st.σ <+: σ' → ItOk g n₀ st.σ.length m η Fp vi its σ' G → Q its ⟨st.ρ, σ'⟩

theorem den_ints {σ : List AO} (g : Nat → Int) : ∀ l : List Nat, DenAll σ (l.map fun k => AV.int (g k)) (l.map fun k => PyData.int (g k)) []
  | [] => .nil
  | a :: l => by simpa using DenAll.cons (.int (g a)) (den_ints g l)

theorem sv_range {rs : List VR} {vs : List AV} {σ' : List AO} {F : List Nat} {P : List PyData → Prop} {Q : List AV → Prop} (ha : DenAll σ' vs (rs.map (·.d)) F) (h : RGoal st X (rangeV rs) P) (hq : ∀ ds xs, P ds → DenAll σ' xs ds [] → Q xs) : rangeA vs Q := by
  cases rs with
  | nil => exact h.elim
  | cons a r =>
    obtain ⟨i, e1, h1⟩ := RGoal.one (show RGoal st X (oneV a.d _) P from h)
    cases ha with
    | cons da db =>
      have da : Den σ' _ a.d _ := da
      rw [e1] at da
      rw [da.int_eq]
      cases r with
      | nil =>
        cases db
        exact ⟨h1.ite.1.1, h1.ite.1.2, hq _ _ h1.ite.2 (den_ints (fun k => 0 + (k : Int)) _)⟩
      | cons b r =>
        obtain ⟨j, e2, h2⟩ := RGoal.one (show RGoal st X (oneV b.d _) P from h1)
        cases db with
        | cons db dc =>
          have db : Den σ' _ b.d _ := db
          rw [e2] at db
          rw [db.int_eq]
          cases r with
          | nil =>
            cases dc
            exact ⟨h2.ite.1.1, h2.ite.1.2.1, h2.ite.1.2.2.1, h2.ite.1.2.2.2, hq _ _ h2.ite.2 (den_ints (fun k => _ + (k : Int)) _)⟩
          | cons c r =>
            obtain ⟨k, e3, h3⟩ := RGoal.one (show RGoal st X (oneV c.d _) P from h2)
            cases dc with
            | cons dc dd =>
              have dc : Den σ' _ c.d _ := dc
              rw [e3] at dc
              rw [dc.int_eq]
              cases r with
              | nil =>
                cases dd
                exact ⟨h3.ite.1.1, h3.ite.1.2.1, h3.ite.1.2.2.1, h3.ite.1.2.2.2.1, h3.ite.1.2.2.2.2, hq _ _ h3.ite.2 (den_ints (fun k => _ - (k : Int)) _)⟩
              | cons _ _ => exact h3.elim

theorem sv_seqIt {m : Str → Bool} {r : VR} {v : AV} {σ' : List AO} {F : List Nat} {Q : It → ST → Prop} (p : st.σ <+: σ') (hd : Den σ' v r.d F) (hF : Foot σ₀.length n₀ st.σ.length m η Fp r.born r.mine F)
    (h : RGoal st X (seqItV r) (IP σ₀.length n₀ m η Fp st Q)) : seqItA v ⟨st.ρ, σ'⟩ Q := by
  obtain ⟨ds, q, h⟩ := h.seqs
  have hlt := hd.lt
  obtain ⟨i, b, xs, F₀, rfl, e, a, rfl⟩ := hd.seq q
  have := a.length
  exact ⟨_, e, by dsimp only; have := h.ite.1; omega, h.ite.2 _ σ' _ p ⟨e, ⟨_, a, fun i hi => .tail _ hi⟩, fun i o q => by cases q; exact .head _, hlt, hF⟩⟩

theorem sv_iter {f : Cx → Expr → ST → KE → KX → Prop} {ve : Expr → VEnv → Rz VR} {m : Expr → Str → Bool} {k : (Str → Option NameKind) → Expr → Bool} (H : SVE σ₀ f ve m k) (it : Expr) {Q : It → ST → Prop} (hk : iterB k κ it = true) (R : VRel σ₀ A κ n₀ K η Fp st)
    (h : RGoal st X (iterV ve it η) (IP σ₀.length n₀ (m it) η Fp st Q)) : iterA Θ ⟨κ, n₀⟩ (f ⟨κ, n₀⟩) it st Q X := by
  have plain : k κ it = true → RGoal st X ((ve it η).bind seqItV) (IP σ₀.length n₀ (m it) η Fp st Q) → f ⟨κ, n₀⟩ it st (fun v st => seqItA v st Q) X := fun hk h =>
    H it A κ n₀ K η Fp st _ X hk R (h.bind.mono fun r h' v σ' F p hd hF => sv_seqIt p hd hF h')
  unfold iterV at h
  unfold iterB at hk
  unfold iterA
  generalize eview it = w at h hk ⊢
  cases w with
  | call g args =>
    dsimp only at h hk ⊢
    by_cases hg : g = "range"
    · rw [if_pos hg] at h hk ⊢
      simp only [Bool.and_eq_true, decide_eq_true_eq] at hk
      refine ⟨hk.1.1, hk.1.2, ?_⟩
      refine sv_args H _ hk.2 R (h.bind.mono fun rs h' vs σ' F p hd hF => ?_)
      refine sv_range hd (h'.bind) fun ds xs hP ha => ?_
      exact hP ⟨xs, none⟩ σ' [] p ⟨trivial, ⟨[], ha, fun _ h => h⟩, fun i o q => (by cases q), fun i h => (nomatch h), .nil⟩
    · rw [if_neg hg] at h hk ⊢
      exact plain hk h
  | _ => exact plain hk h

theorem compOk_of {scope : Scope} {x : Str} (h : compOkB scope κ x = true) : compOk scope κ x := by
  unfold compOkB at h
  simp only [Bool.and_eq_true, decide_eq_true_eq, List.all_eq_true] at h
  exact ⟨h.1.1.1.1, h.1.1.1.2, h.1.1.2, h.1.2, h.2⟩

theorem VRel.enter {scope : Scope} (R : VRel σ₀ A κ n₀ K η Fp st) : VRel σ₀ A (compκ scope) n₀ K (maskη scope η) Fp ⟨maskρ scope st.ρ, st.σ⟩ := by
  have hs : ∀ x e, maskη scope η x = some e → scope.names.lookup x = some .free ∧ ∃ e', η x = some e' ∧ e = { e' with own := false } := fun x e h => by
    unfold maskη at h
    split at h
    · rename_i hq
      cases q : η x with
      | none => rw [q] at h; cases h
      | some e' => rw [q] at h; cases h; exact ⟨hq, e', rfl, rfl⟩
    · cases h
  refine ⟨R.pre, R.g₀, R.nle, fun x e h => ?_, fun x e h q => ?_, fun x e h => ?_, fun x e h q => ?_, R.hold⟩
  · obtain ⟨h1, e', h2, rfl⟩ := hs x e h
    obtain ⟨_, v, h3, h4⟩ := R.vars x e' h2
    refine ⟨.inr ?_, v, ?_, h4⟩
    · unfold compκ; rw [h1]
    · show maskρ scope st.ρ x = some v
      unfold maskρ; rw [h1]; exact h3
  · obtain ⟨h1, e', h2, rfl⟩ := hs x e h
    exact R.mine x e' h2 q
  · obtain ⟨h1, e', h2, rfl⟩ := hs x e h
    exact R.old x e' h2
  · obtain ⟨h1, e', h2, rfl⟩ := hs x e h
    cases q

theorem maskη_off {scope : Scope} {x : Str} (h : scope.names.lookup x = some .local) : maskη scope η x = none := by
  unfold maskη; rw [h]; rfl

theorem sv_comp {f : Cx → Expr → ST → KE → KX → Prop} {t : Cx → Expr → ST → (Bool → ST → Prop) → KX → Prop} {ve : Expr → VEnv → Rz VR} {vt : Expr → VEnv → Rz Bool} {m : Expr → Str → Bool} {k kt : (Str → Option NameKind) → Expr → Bool}
    (H : SVE σ₀ f ve m k) (HT : SVT σ₀ t vt kt) {η' : VEnv} {x : Str} {ifs : List Expr} {elt : Expr} {vi : VI} {its : It} {len : Nat} {me : Str → Bool} {G : List Nat} {ηo : VEnv} (hx : κ x = some .local) (hxn : η' x = none) (hown : ∀ y e, η' y = some e → e.own = false) (hifs : ifs.all (kt κ) = true) (helt : k κ elt = true)
    (hG : Foot σ₀.length n₀ len me ηo Fp vi.born vi.mine G) (hme : ∀ y, m elt y = true → me y = true) (hηo : ∀ y, (η' y).isSome = true → (ηo y).isSome = true)
    (hGold : ∀ i ∈ G, n₀ ≤ i ∨ i < σ₀.length ∨ i ∈ A) :
    ∀ (ds : List PyData) {vs acc : List AV} {F : List Nat} {st st₀ : ST} {X₀ : KX} {Q : List AV → ST → Prop}, DenAll st.σ vs ds F → (∀ i ∈ F, i ∈ G) → its.ok st.σ → len ≤ st.σ.length → VRel σ₀ A κ n₀ K η' Fp st →
      RGoal st₀ X₀ (compV ve vt x ifs elt vi η' ds) (fun r => ∀ ws σ' F' ρ', st.σ <+: σ' → DenAll σ' ws r.ds F' → Foot σ₀.length n₀ len me ηo Fp r.born r.mine F' → Q (acc ++ ws) ⟨ρ', σ'⟩) →
      compA its (compStep (f ⟨κ, n₀⟩) (t ⟨κ, n₀⟩) x ifs elt) vs acc st Q
  | [], vs, acc, F, st, st₀, X₀, Q, hd, hF, hok, hlen, R, h => by
    cases hd
    exact ⟨hok, by simpa using h [] st.σ [] st.ρ (List.prefix_refl _) .nil .nil⟩
  | d :: ds, vs, acc, F, st, st₀, X₀, Q, hd, hF, hok, hlen, R, h => by
    cases hd with
    | @cons a as _ _ Fa Fs ha hs =>
      refine ⟨hok, ?_⟩
      have hFa : ∀ i ∈ Fa, i ∈ G := fun i hi => hF i (List.mem_append_left _ hi)
      have R₁ := R.store (x := x) (v := a) (e := ⟨d, false, scal d || vi.mine⟩) (F := Fa) (.inl hx) ha (fun q i hi => by
          rcases Bool.or_eq_true_iff.mp q with q | q
          · rw [ha.scal_nil q] at hi; cases hi
          · exact hG.mine q i (hFa i hi)) (fun i hi => hGold i (hFa i hi)) (fun q => by cases q) (fun z e' i _ hz ho _ => by rw [hown z e' hz] at ho; cases ho)
      have back : ∀ {σ' : List AO}, st.σ <+: σ' → VRel σ₀ A κ n₀ K η' Fp ⟨upd st.ρ x a, σ'⟩ := fun p => by
        have R' := R.ext p
        refine ⟨R'.pre, R'.g₀, R'.nle, fun y e q => ?_, R'.mine, R'.old, fun y e q z => (by rw [hown y e q] at z; cases z), R'.hold⟩
        obtain ⟨h1, v, h2, h3⟩ := R'.vars y e q
        refine ⟨h1, v, ?_, h3⟩
        have : y ≠ x := fun z => by rw [z, hxn] at q; cases q
        simpa [upd, this] using h2
      have okp : ∀ {σ' : List AO}, st.σ <+: σ' → its.ok σ' := fun p => by
        unfold It.ok at hok ⊢
        split
        · trivial
        · rename_i q
          rw [q] at hok
          exact get_pre p hok
      rw [compV] at h
      unfold compStep
      have cond : ∀ {Q' : Bool → ST → Prop}, RGoal (⟨upd st.ρ x a, st.σ⟩ : ST) noX (condV vt ifs (updV η' x ⟨d, false, scal d || vi.mine⟩)) (fun b => ∀ σ', st.σ <+: σ' → Q' b ⟨upd st.ρ x a, σ'⟩) → condA (t ⟨κ, n₀⟩) ifs ⟨upd st.ρ x a, st.σ⟩ Q' noX := fun {Q'} q => by
        unfold condV at q
        unfold condA
        split at q
        · exact q st.σ (List.prefix_refl _)
        · simp only [List.all_cons, List.all_nil, Bool.and_true] at hifs
          exact HT _ A κ n₀ K _ _ _ _ _ hifs R₁ (q.mono fun b q' σ' p => q' σ' p)
        · exact q.elim
      refine cond ((h.bind.strict).mono fun b h' σ' p => ?_)
      cases b with
      | false =>
        rw [if_neg (by decide)] at h' ⊢
        refine sv_comp H HT hx hxn hown hifs helt hG hme hηo hGold ds (hs.pre p) (fun i hi => hF i (List.mem_append_right _ hi)) (okp p) (Nat.le_trans hlen (len_pre p)) (back p) (h'.mono fun r hr ws σ'' F' ρ' p' hd' hF' => ?_)
        rw [Option.toList_none, List.append_nil]
        exact hr ws σ'' F' ρ' (p.trans p') hd' hF'
      | true =>
        rw [if_pos rfl] at h' ⊢
        refine H elt A κ n₀ K _ _ ⟨upd st.ρ x a, σ'⟩ _ noX helt (R₁.ext p) ((h'.bind.strict).mono fun r h'' v σ₂ F₂ p₂ hd₂ hF₂ => ?_)
        refine sv_comp H HT hx hxn hown hifs helt hG hme hηo hGold ds (hs.pre (p.trans p₂)) (fun i hi => hF i (List.mem_append_right _ hi)) (okp (p.trans p₂)) (Nat.le_trans hlen (len_pre (p.trans p₂))) (back (p.trans p₂)) (h''.bind.mono fun r' hr ws σ'' F' ρ' p' hd' hF' => ?_)
        rw [Option.toList_some, List.append_assoc]
        refine hr (v :: ws) σ'' (F₂ ++ F') ρ' ((p.trans p₂).trans p') (.cons (hd₂.pre p') hd') ?_
        refine Foot.append ⟨fun q i hi => Nat.le_trans (Nat.le_trans hlen (len_pre p)) (hF₂.born q i hi), hF₂.mine, fun i hi => ?_⟩ hF'
        rcases hF₂.src i hi with q | q | ⟨y, q1, q2, q3⟩
        · exact .inl q
        · exact .inr (.inl (Nat.le_trans (Nat.le_trans hlen (len_pre p)) q))
        · by_cases hy : y = x
          · subst hy
            exact hG.src i (hFa i (by simpa using q3))
          · exact .inr (.inr ⟨y, hme y q1, hηo y (by simpa [updV, hy] using q2), by simpa [hy] using q3⟩)

theorem sv_name (O : VOk Θ Θv σ₀) {x : Str} {p : Pos} {Q : KE} {S : Sm} (hk : nameB Θv κ x = true) (R : VRel σ₀ A κ n₀ K η Fp st) (h : RGoal st X (nameV Θv x η) (EP σ₀.length n₀ (fun y => decide (x = y)) η Fp st Q)) : stepE Θ S ⟨κ, n₀⟩ (.Name x p) st Q X := by
  unfold nameB at hk
  rw [Bool.and_eq_true, decide_eq_true_eq] at hk
  refine ⟨hk.1, ?_⟩
  have var : ∀ e, η x = some e → ∃ v, st.ρ x = some v ∧ Q v st := fun e he => by
    obtain ⟨_, v, h2, h3⟩ := R.vars x e he
    unfold nameV at h
    rw [he] at h
    refine ⟨v, h2, h v st.σ (Fp x) (List.prefix_refl _) h3 ⟨fun q i hi => ?_, fun q i hi => ?_, fun i hi => .inr (.inr ⟨x, by simp, by rw [he]; rfl, hi⟩)⟩⟩
    · rw [h3.scal_nil q] at hi; cases hi
    · rcases Bool.or_eq_true_iff.mp q with q | q
      · rw [h3.scal_nil q] at hi; cases hi
      · exact R.mine x e he q i hi
  have loc : (Θv.glob x).isNone = true → ∃ v, st.ρ x = some v ∧ Q v st := fun hg => by
    cases he : η x with
    | some e => exact var e he
    | none =>
      unfold nameV at h
      rw [he] at h
      dsimp only at h
      rw [Option.isNone_iff_eq_none.mp hg] at h
      exact h.elim
  dsimp only
  cases hκ : κ x with
  | none => have := hk.2; rw [hκ] at this; cases this
  | some kd =>
    have hk2 := hk.2
    rw [hκ] at hk2
    cases kd <;> first | exact loc hk2 | cases hk2 | skip
    have he : η x = none := by
      cases he : η x with
      | none => rfl
      | some e =>
        rcases (R.vars x e he).1 with q | q <;> (rw [hκ] at q; cases q)
    unfold nameV at h
    rw [he] at h
    dsimp only at h
    cases hg : Θv.glob x with
    | none => rw [hg] at h; exact h.elim
    | some d =>
      rw [hg] at h
      obtain ⟨v, F, h1, h2⟩ := O.glob x d hg
      refine ⟨v, h1, h v st.σ F (List.prefix_refl _) (h2.pre R.pre) ⟨fun q i hi => ?_, fun q i hi => ?_, fun i hi => .inl (h2.lt i hi)⟩⟩
      · rw [h2.scal_nil q] at hi; cases hi
      · rw [h2.scal_nil q] at hi; cases hi
end
end Mine

end

section
set_option autoImplicit false
namespace Mine
open PySem

noncomputable def SVJ (σ₀ : List AO) (f : Cx → Expr → ST → KE → KX → Prop) (vj : Expr → VEnv → Bool) (k : (Str → Option NameKind) → Expr → Bool) : Prop :=
  ∀ e A κ n₀ K η Fp st Q X, k κ e = true → VRel σ₀ A κ n₀ K η Fp st → vj e η = true → (∀ x σ', st.σ <+: σ' → Q (.str x) ⟨st.ρ, σ'⟩) → f ⟨κ, n₀⟩ e st Q X

section
variable {Θ : Thy} {Θv : VThy} {σ₀ : List AO}

theorem Den.list_ref {σ : List AO} {v : AV} {ds : List PyData} {F : List Nat} (h : Den σ v (.list ds) F) : ∃ i xs, v = .ref i ∧ σ[i]? = some ⟨true, xs⟩ ∧ i ∈ F := by
  cases h with
  | list e a => exact ⟨_, _, rfl, e, .head _⟩
theorem Den.str_eq {σ : List AO} {v : AV} {x : Str} {F : List Nat} (h : Den σ v (.str x) F) : v = .str x := by cases h; rfl
theorem Den.none_eq {σ : List AO} {v : AV} {F : List Nat} (h : Den σ v .none F) : v = .none := by cases h; rfl

theorem callee_of (O : VOk Θ Θv σ₀) {f : Str} (h : calleeB Θv f = true) : calleeOk Θ f := by
  unfold calleeB at h
  simp only [Bool.or_eq_true, decide_eq_true_eq] at h
  rcases h with (((h | h) | h) | h) | h
  · obtain ⟨φ, hφ⟩ := Option.isSome_iff_exists.mp h
    obtain ⟨P, hP, _⟩ := O.fn f φ hφ
    exact .inl (by rw [hP]; rfl)
  · exact .inr (.inl h)
  · exact .inr (.inr (.inl h))
  · exact .inr (.inr (.inr (.inl h)))
  · exact .inr (.inr (.inr (.inr h)))

theorem step_sve (O : VOk Θ Θv σ₀) {S : Sm} {T : VS} (H : SVE σ₀ S.e T.e T.m T.ke) (HT : SVT σ₀ S.t T.t T.kt) : SVE σ₀ (stepE Θ S) (stepEV Θv T) (stepMV T) (chkE Θv T) := by
  intro e A κ n₀ K η Fp st Q X hk R h
  have hf := eform e
  have hk : chkEw Θv T κ (eview e) = true := hk
  have h : RGoal st X (stepEVw Θv T (eview e) η) (EP σ₀.length n₀ (stepMVw T (eview e)) η Fp st Q) := h
  show stepEw Θ S ⟨κ, n₀⟩ (eview e) st Q X
  generalize eview e = w at hf hk h ⊢
  cases hf with
  | const k a p =>
    cases k with
    | str x => exact h _ st.σ [] (List.prefix_refl _) (.str _ hk) .nil
    | none => exact h _ st.σ [] (List.prefix_refl _) .none .nil
    | bool _ => exact h _ st.σ [] (List.prefix_refl _) (.bool _) .nil
    | int _ => exact h _ st.σ [] (List.prefix_refl _) (.int _) .nil
    | _ => cases hk
  | name x p => exact sv_name (p := p) O hk R h
  | bin l op r pos =>
    have hk := Bool.and_eq_true_iff.mp hk
    show S.e _ l st (fun a st => S.e _ r st (fun b st => binA op a b st.σ fun v σ => Q v ⟨st.ρ, σ⟩) X) X
    refine H l A κ n₀ K η Fp st _ X hk.1 R ((RGoal.bind (show RGoal st X ((T.e l η).bind fun a => (T.e r η).bind fun b => binV op a b) _ from h)).mono fun a h' v σ' F p hd hF => ?_)
    refine H r A κ n₀ K η Fp ⟨st.ρ, σ'⟩ _ X hk.2 (R.ext p) (h'.bind.ext p fun b h'' w σ'' G p' hd' hF' => ?_)
    exact sv_bin (st := st) R (p.trans p') (hd.pre p') hd' (hF.mono (Nat.le_refl _) (fun y q => by show (T.m l y || T.m r y) = true; rw [q]; rfl) id id fun _ h => h) (hF'.mono (len_pre p) (fun y q => by show (T.m l y || T.m r y) = true; rw [q, Bool.or_true]) id id fun _ h => h) h''
  | un op x pos =>
    have hk := Bool.and_eq_true_iff.mp hk
    refine ⟨of_decide_eq_true hk.1, ?_⟩
    refine H x A κ n₀ K η Fp st _ X hk.2 R ((RGoal.bind (show RGoal st X ((T.e x η).bind fun a => negV a.d) _ from h)).mono fun a h' v σ' F p hd hF => ?_)
    obtain ⟨d, b1, b2⟩ := a
    cases hd with
    | int i => exact h' _ σ' [] p (.int _) .nil
    | _ => exact h'.elim
  | tup es kk pos =>
    have hk := Bool.and_eq_true_iff.mp hk
    refine ⟨hk.1, ?_⟩
    refine sv_args H es hk.2 R ((RGoal.bind (show RGoal st X ((argsV T.e es η).bind fun vs => if vs.length ≤ small then .ok (VR.mk (.tuple (vs.map (·.d))) (vs.all (·.born)) (vs.all (·.mine))) else .stuck) _ from h)).mono fun rs h' vs σ' F p hd hF => ?_)
    have := hd.length
    rw [List.length_map] at this
    exact ⟨by have := h'.ite.1; omega, h'.ite.2 _ _ _ (p.trans ⟨_, rfl⟩) (.tuple snoc_get (hd.pre ⟨_, rfl⟩)) (hF.cons (len_pre p) (Nat.le_trans R.nle (len_pre p)))⟩
  | lst es pos =>
    have hk := Bool.and_eq_true_iff.mp hk
    refine ⟨hk.1, ?_⟩
    refine sv_args H es hk.2 R ((RGoal.bind (show RGoal st X ((argsV T.e es η).bind fun vs => if vs.length ≤ small then .ok (VR.mk (.list (vs.map (·.d))) (vs.all (·.born)) (vs.all (·.mine))) else .stuck) _ from h)).mono fun rs h' vs σ' F p hd hF => ?_)
    have := hd.length
    rw [List.length_map] at this
    exact ⟨by have := h'.ite.1; omega, h'.ite.2 _ _ _ (p.trans ⟨_, rfl⟩) (.list snoc_get (hd.pre ⟨_, rfl⟩)) (hF.cons (len_pre p) (Nat.le_trans R.nle (len_pre p)))⟩
  | cut v lo hi sp pos =>
    have hk := Bool.and_eq_true_iff.mp hk
    have hk2 := Bool.and_eq_true_iff.mp hk.2
    refine H v A κ n₀ K η Fp st _ X hk.1 R ((RGoal.bind (show RGoal st X ((T.e v η).bind fun a => (partsV T.e lo η).bind fun l => (partsV T.e hi η).bind fun h => sliceV a l.d h.d) _ from h)).mono fun a h' w σ' F p hd hF => ?_)
    refine sv_part H _ hk2.1 (R.ext p) (h'.bind.ext p fun l h₁ w₁ σ₁ F₁ p₁ hd₁ => ?_)
    refine sv_part H _ hk2.2 (R.ext (p.trans p₁)) (h₁.bind.ext (p.trans p₁) fun u h₂ w₂ σ₂ F₂ p₂ hd₂ => ?_)
    exact sv_slice (st := st) R ((p.trans p₁).trans p₂) ((hd.pre p₁).pre p₂) (hd₁.pre p₂) hd₂ (hF.mono (Nat.le_refl _) (fun y q => q) id id fun _ h => h) h₂
  | item v i pos =>
    have hk := Bool.and_eq_true_iff.mp hk
    refine H v A κ n₀ K η Fp st _ X hk.1 R ((RGoal.bind (show RGoal st X ((T.e v η).bind fun a => (T.e i η).bind fun k => itemV a k) _ from h)).mono fun a h' w σ' F p hd hF => ?_)
    refine H i A κ n₀ K η Fp ⟨st.ρ, σ'⟩ _ X hk.2 (R.ext p) (h'.bind.ext p fun k h₁ w₁ σ₁ F₁ p₁ hd₁ _ => ?_)
    exact sv_item (st := st) (p.trans p₁) (hd.pre p₁) hd₁ (hF.mono (Nat.le_refl _) (fun y q => q) id id fun _ h => h) h₁
  | call f args fp pos =>
    have hk : ((decide (f ≠ "__debug__") && noStars args && decide (κ f = some .globalImplicit) && calleeB Θv f) && args.all (T.ke κ)) = true := hk
    simp only [Bool.and_eq_true, decide_eq_true_eq] at hk
    refine ⟨hk.1.1.1.1, hk.1.1.1.2, hk.1.1.2, callee_of O hk.1.2, ?_⟩
    refine sv_args H args hk.2 R ((RGoal.bind (show RGoal st X ((argsV T.e args η).bind fun vs => callV Θv f vs) _ from h)).mono fun rs h' vs σ' F p hd hF => ?_)
    exact sv_call O R p hk.1.1.2 hd hF h'
  | comp elt x it ifs scope xp pos =>
    have hk : (notSet it && compOkB scope κ x && iterB T.ke κ it && ifs.all (T.kt (compκ scope)) && T.ke (compκ scope) elt) = true := hk
    simp only [Bool.and_eq_true] at hk
    obtain ⟨⟨⟨⟨h1, h2⟩, h3⟩, h4⟩, h5⟩ := hk
    have hok := compOk_of h2
    refine ⟨h1, hok, ?_⟩
    refine sv_iter H it h3 R ((RGoal.bind (show RGoal st X ((iterV T.e it η).bind fun its => (compV T.e T.t x ifs elt its (maskη scope η) its.ds).bind fun r => .ok (VR.mk (.list r.ds) r.born r.mine)) _ from h)).mono fun vi h' its σ' G p I => ?_)
    obtain ⟨F, hd, hFG⟩ := I.all
    have R' := (R.ext p).enter (scope := scope)
    have hκx : compκ scope x = some .local := by unfold compκ; rw [hok.2.1]
    refine sv_comp (κ := compκ scope) H HT (η' := maskη scope η) (vi := vi) (len := st.σ.length) (me := fun y => T.m it y || T.m elt y) (ηo := η) (G := G) hκx (maskη_off hok.2.1) (fun y e q => ?_) h4 h5
      (I.foot.mono (Nat.le_refl _) (fun y q => by show (T.m it y || T.m elt y) = true; rw [q]; rfl) id id fun _ h => h) (fun y q => by show (T.m it y || T.m elt y) = true; rw [q, Bool.or_true]) (fun y q => ?_) (fun i hi => R.oldOf I.foot i hi) vi.ds hd hFG I.ok (len_pre p) R' (h'.bind.mono fun r hr ws σ'' F' ρ' p' hd' hF' => ?_)
    · unfold maskη at q
      split at q
      · cases hq : η y with
        | none => rw [hq] at q; cases q
        | some e' => rw [hq] at q; cases q; rfl
      · cases q
    · unfold maskη at q
      split at q
      · simpa using q
      · cases q
    · refine hr _ _ (σ''.length :: F') ((p.trans p').trans ⟨_, rfl⟩) (.list snoc_get (hd'.pre ⟨_, rfl⟩)) ?_
      exact hF'.cons (len_pre (p.trans p')) (Nat.le_trans R.nle (len_pre (p.trans p')))
  | _ => cases hk

theorem sv_all {ft : Cx → Expr → ST → (Bool → ST → Prop) → KX → Prop} {vt : Expr → VEnv → Rz Bool} {k : (Str → Option NameKind) → Expr → Bool} (H : SVT σ₀ ft vt k) {A : List Nat} {κ : Str → Option NameKind} {n₀ : Nat} {K : List (Nat × AO)} {η : VEnv} {Fp : Str → List Nat} {X : KX} (op : BoolOp) :
    ∀ (es : List Expr) {st : ST} {Q : Bool → ST → Prop}, es.all (k κ) = true → VRel σ₀ A κ n₀ K η Fp st → RGoal st X (allV vt op es η) (TP st Q) → allA (ft ⟨κ, n₀⟩) op es st Q X
  | [], st, Q, _, R, h => h st.σ (List.prefix_refl _)
  | e :: r, st, Q, hk, R, h => by
    simp only [List.all_cons, Bool.and_eq_true] at hk
    rw [allV] at h
    refine H e A κ n₀ K η Fp st _ X hk.1 R (h.bind.mono fun b h' σ' p => ?_)
    cases op <;> cases b <;> first
      | exact h' σ' p
      | exact sv_all H _ r hk.2 (R.ext p) (h'.ext p fun b h'' σ'' p' => h'' σ'' (p.trans p'))

inductive IsOut (η : VEnv) : Expr → Expr → Rz Bool → Prop
  | stuck (l r : Expr) : IsOut η l r .stuck
  | names (x : Str) (xp : Pos) (y : Str) (yp : Pos) (e e' : VE) : η x = some e → η y = some e' → IsOut η (.Name x xp) (.Name y yp) (isNN x y e.own e.d e'.d)
  | null (x : Str) (xp : Pos) (k : Nat) (p : Pos) (e : VE) : η x = some e → IsOut η (.Name x xp) (.Constant .none k p) (isNull e.d)
theorem isV_out (l r : Expr) (η : VEnv) : IsOut η l r (isV l r η) := by
  have hfl := eform l
  have hfr := eform r
  unfold isV
  generalize eview l = wl at hfl ⊢
  generalize eview r = wr at hfr ⊢
  cases hfl with
  | name x xp =>
    dsimp only
    cases hx : η x with
    | none => exact .stuck ..
    | some e =>
      cases hfr with
      | name y yp =>
        dsimp only
        cases hy : η y with
        | none => exact .stuck ..
        | some e' => exact .names x xp y yp e e' hx hy
      | const k kk kp =>
        cases k with
        | none => exact .null x xp kk kp e hx
        | _ => exact .stuck ..
      | _ => exact .stuck ..
  | _ => exact .stuck ..

theorem name_step {n : Nat} {A : List Nat} {κ : Str → Option NameKind} {n₀ : Nat} {K : List (Nat × AO)} {η : VEnv} {Fp : Str → List Nat} {st : ST} {X : KX} (R : VRel σ₀ A κ n₀ K η Fp st) {x : Str} {p : Pos} (hd : x ≠ "__debug__") {e : VE} (he : η x = some e) {Q : KE} (hq : ∀ v, st.ρ x = some v → Den st.σ v e.d (Fp x) → Q v st) :
    (W Θ (n + 1)).e ⟨κ, n₀⟩ (.Name x p) st Q X := by
  obtain ⟨hk, v, h2, h3⟩ := R.vars x e he
  refine ⟨hd, ?_⟩
  dsimp only
  rcases hk with q | q <;> (rw [q]; exact ⟨v, h2, hq v h2 h3⟩)

theorem sv_is (O : VOk Θ Θv σ₀) {n : Nat} {A : List Nat} {κ : Str → Option NameKind} {n₀ : Nat} {K : List (Nat × AO)} {η : VEnv} {Fp : Str → List Nat} {st : ST} {Q : Bool → ST → Prop} {X : KX} {l r : Expr} (R : VRel σ₀ A κ n₀ K η Fp st) (kl : (V Θv (n + 1)).ke κ l = true) (kr : (V Θv (n + 1)).ke κ r = true)
    (h : RGoal st X (isV l r η) (TP st Q)) : (W Θ (n + 1)).e ⟨κ, n₀⟩ l st (fun a st => (W Θ (n + 1)).e ⟨κ, n₀⟩ r st (fun b st => cmpA .Is a b st.σ fun v => Q v st) X) X := by
  have db : ∀ {x p}, (V Θv (n + 1)).ke κ (.Name x p) = true → x ≠ "__debug__" := fun {x p} h => by
    have h : nameB Θv κ x = true := h
    unfold nameB at h
    exact of_decide_eq_true (Bool.and_eq_true_iff.mp h).1
  have ho := isV_out l r η
  generalize isV l r η = o at ho h
  cases ho with
  | stuck => exact h.elim
  | names x xp y yp e e' hx hy =>
    refine name_step R (db kl) hx fun v hv hd => name_step R (db kr) hy fun w hw hd' => ?_
    obtain ⟨d, own, mi⟩ := e
    obtain ⟨d', own', mi'⟩ := e'
    cases d' with
    | list ds' =>
      obtain ⟨j, xs', rfl, e2, hj⟩ : ∃ j xs', w = .ref j ∧ st.σ[j]? = some ⟨true, xs'⟩ ∧ j ∈ Fp y := hd'.list_ref
      cases d with
      | list ds =>
        obtain ⟨ho, h'⟩ := RGoal.ite (show RGoal st X (if own = true ∧ x ≠ y then .ok false else .stuck) (TP st Q) from h)
        obtain ⟨i, k1, k2, k3, k4⟩ := R.own x _ hx ho.1
        rw [hv] at k1
        cases k1
        obtain ⟨i', xs, hi', e1, _⟩ := hd.list_ref
        cases hi'
        refine ⟨⟨_, e1⟩, ⟨_, e2⟩, ?_⟩
        have : i ≠ j := fun q => k3 y (Ne.symm ho.2) (by rw [hy]; rfl) (q ▸ hj)
        rw [decide_eq_false this]
        exact h' st.σ (List.prefix_refl _)
      | str x' =>
        have hv' := hd.str_eq
        subst hv'
        exact h st.σ (List.prefix_refl _)
      | _ => exact h.elim
    | _ => exact h.elim
  | null x xp kk kp e hx =>
    refine name_step R (db kl) hx fun v hv hd => ?_
    obtain ⟨d, own, mi⟩ := e
    cases d with
    | list ds =>
      obtain ⟨j, xs', rfl, _⟩ := hd.list_ref
      exact h st.σ (List.prefix_refl _)
    | none =>
      have hv' := hd.none_eq
      subst hv'
      exact h st.σ (List.prefix_refl _)
    | _ => exact h.elim

theorem step_svt (O : VOk Θ Θv σ₀) {n : Nat} (H : SVE σ₀ (W Θ n).e (V Θv n).e (V Θv n).m (V Θv n).ke) (HT : SVT σ₀ (W Θ n).t (V Θv n).t (V Θv n).kt) : SVT σ₀ (stepT (W Θ n)) (stepTV (V Θv n)) (chkT (V Θv n)) := by
  intro e A κ n₀ K η Fp st Q X hk R h
  have hf := eform e
  have val : ∀ {e : Expr}, (V Θv n).ke κ e = true → RGoal st X (((V Θv n).e e η).bind fun a => boolV a.d) (TP st Q) → (W Θ n).e ⟨κ, n₀⟩ e st (fun v st => match v with | .bool b => Q b st | _ => False) X := fun {e} hk h => by
    refine H _ A κ n₀ K η Fp st _ X hk R (h.bind.mono fun a h' v σ' F p hd hF => ?_)
    obtain ⟨d, b1, b2⟩ := a
    cases hd with
    | bool b => exact h' σ' p
    | _ => exact h'.elim
  have hk : chkTw (V Θv n) κ e (eview e) = true := hk
  have h : RGoal st X (stepTVw (V Θv n) e (eview e) η) (TP st Q) := h
  show stepTw (W Θ n) ⟨κ, n₀⟩ e (eview e) st Q X
  generalize eview e = w at hf hk h ⊢
  cases hf with
  | un op x pos =>
    have hk := Bool.and_eq_true_iff.mp hk
    refine ⟨of_decide_eq_true hk.1, ?_⟩
    exact HT x A κ n₀ K η Fp st _ X hk.2 R ((RGoal.bind (show RGoal st X (((V Θv n).t x η).bind fun b => .ok (!b)) _ from h)).mono fun b h' σ' p => h' σ' p)
  | bool op vs pos => exact sv_all HT _ _ hk R h
  | cmp1 l op r pos =>
    have hk : (notSet r && (V Θv n).ke κ l && (V Θv n).ke κ r) = true := hk
    simp only [Bool.and_eq_true] at hk
    obtain ⟨⟨k1, k2⟩, k3⟩ := hk
    refine ⟨k1, ?_⟩
    by_cases hop : op = .Is
    · subst hop
      obtain ⟨hok, h'⟩ := RGoal.ite (show RGoal st X (if (V Θv n).ok = true then isV l r η else .stuck) (TP st Q) from h)
      cases n with
      | zero => cases hok
      | succ n =>
        exact sv_is O R k2 k3 h'
    · have h : RGoal st X (((V Θv n).e l η).bind fun a => ((V Θv n).e r η).bind fun b => cmpV op a.d b.d) (TP st Q) := by
        cases op <;> first | exact h | exact absurd rfl hop
      refine H l A κ n₀ K η Fp st _ X k2 R (h.bind.mono fun a h' v σ' F p hd hF => ?_)
      refine H r A κ n₀ K η Fp ⟨st.ρ, σ'⟩ _ X k3 (R.ext p) (h'.bind.ext p fun b h'' w σ'' G p' hd' hF' => ?_)
      exact sv_cmp (hd.pre p') hd' (h''.mono fun v hv => hv σ'' (p.trans p'))
  | cmp2 l op₁ op₂ r₁ r₂ pos =>
    have hk : (notSet r₁ && notSet r₂ && (V Θv n).ke κ l && (V Θv n).ke κ r₁ && (V Θv n).ke κ r₂) = true := hk
    simp only [Bool.and_eq_true] at hk
    obtain ⟨⟨⟨⟨k1, k2⟩, k3⟩, k4⟩, k5⟩ := hk
    refine ⟨k1, k2, ?_⟩
    have h : RGoal st X (((V Θv n).e l η).bind fun a => ((V Θv n).e r₁ η).bind fun b => (cmpV op₁ a.d b.d).bind fun v => if v then ((V Θv n).e r₂ η).bind fun d => cmpV op₂ b.d d.d else .ok false) (TP st Q) := h
    refine H l A κ n₀ K η Fp st _ X k3 R (h.bind.mono fun a h' v σ' F p hd hF => ?_)
    refine H r₁ A κ n₀ K η Fp ⟨st.ρ, σ'⟩ _ X k4 (R.ext p) (h'.bind.ext p fun b h'' w σ'' G p' hd' hF' => ?_)
    refine sv_cmp (hd.pre p') hd' (h''.bind.mono fun v hv => ?_)
    cases v with
    | false => exact hv σ'' (p.trans p')
    | true =>
      rw [if_pos rfl] at hv ⊢
      refine H r₂ A κ n₀ K η Fp ⟨st.ρ, σ''⟩ _ X k5 (R.ext (p.trans p')) (hv.bind.ext (p.trans p') fun b' h₃ w₃ σ₃ G₃ p₃ hd₃ hF₃ => ?_)
      exact sv_cmp (hd'.pre p₃) hd₃ (h₃.mono fun v hv => hv σ₃ ((p.trans p').trans p₃))
  | name x p => exact val hk h
  | call f a q p => exact val hk h
  | _ => cases hk

theorem fmt_inv {r : Rz VR} (h : fmtV r = true) : ∃ a i, r = .ok a ∧ a.d = .int i ∧ i.natAbs < 10 ^ 9 := by
  cases r with
  | ok a =>
    obtain ⟨d, b, m⟩ := a
    cases d with
    | int i => exact ⟨_, i, rfl, rfl, of_decide_eq_true h⟩
    | _ => cases h
  | _ => cases h

theorem step_svj {S : Sm} {T : VS} (H : SVE σ₀ S.e T.e T.m T.ke) : SVJ σ₀ (stepE Θ S) (stepJV T) (chkJ T) := by
  intro e A κ n₀ K η Fp st Q X hk R h hQ
  have hf := eform e
  unfold chkJ at hk
  unfold stepJV at h
  show stepEw Θ S ⟨κ, n₀⟩ (eview e) st Q X
  generalize eview e = w at hf hk h ⊢
  cases hf with
  | const k a p =>
    cases k with
    | str x => exact hQ _ st.σ (List.prefix_refl _)
    | _ => cases hk
  | fstr x e c y k₁ k₃ p₁ p₂ p₃ p =>
    dsimp only at hk h
    simp only [Bool.and_eq_true, decide_eq_true_eq] at hk
    refine ⟨hk.1.1.1, hk.1.1.2, hk.1.2, H e A κ n₀ K η Fp st _ X hk.2 R ?_⟩
    obtain ⟨a, i, ha, hi, hlt⟩ := fmt_inv h
    rw [ha]
    intro v σ' F p hd hF
    rw [hi] at hd
    rw [hd.int_eq]
    exact ⟨hlt, hQ _ σ' p⟩
  | _ => cases hk
end
end Mine

end

section
set_option autoImplicit false
namespace Mine
open PySem

noncomputable def Kept (n₀ : Nat) (σ σ' : List AO) : Prop := ∀ i o, i < n₀ → σ[i]? = some o → σ'[i]? = some o
theorem Kept.refl (n₀ : Nat) (σ : List AO) : Kept n₀ σ σ := fun _ _ _ e => e
theorem Kept.trans {n₀ : Nat} {a b c : List AO} (h : Kept n₀ a b) (k : Kept n₀ b c) : Kept n₀ a c := fun i o l e => k i o l (h i o l e)
theorem Kept.pre {n₀ : Nat} {a b : List AO} (p : a <+: b) : Kept n₀ a b := fun _ _ _ e => get_pre p e

noncomputable def SGoal (σ₀ : List AO) (A : List Nat) (κ : Str → Option NameKind) (n₀ : Nat) (K : List (Nat × AO)) (st : ST) (o : Out) (Q : Fl → ST → Prop) (X : KX) : Prop := match o with
  | .next η' => ∀ st' Fp', Kept n₀ st.σ st'.σ → VRel σ₀ A κ n₀ K η' Fp' st' → Q .next st'
  | .ret d m => ∀ st' v F, Kept n₀ st.σ st'.σ → Den st'.σ v d F → (m = true → ∀ i ∈ F, n₀ ≤ i) → (∀ i ∈ F, n₀ ≤ i ∨ i < σ₀.length ∨ i ∈ A) → Q (.ret v) st'
  | .exc own C η' => ∀ st' Fp', Kept n₀ st.σ st'.σ → VRel σ₀ A κ n₀ K η' Fp' st' → X own C st'
  | .stuck => False

noncomputable def SVS (σ₀ : List AO) (f : Cx → Stmt → ST → (Fl → ST → Prop) → KX → Prop) (vs : Stmt → VEnv → Out) (k : (Str → Option NameKind) → Stmt → Bool) : Prop :=
  ∀ s A κ n₀ K η Fp st Q X, k κ s = true → VRel σ₀ A κ n₀ K η Fp st → SGoal σ₀ A κ n₀ K st (vs s η) Q X → f ⟨κ, n₀⟩ s st Q X

section
variable {Θ : Thy} {Θv : VThy} {σ₀ : List AO} {A : List Nat} {κ : Str → Option NameKind} {n₀ : Nat} {K : List (Nat × AO)} {η : VEnv} {Fp : Str → List Nat} {st : ST} {Q : Fl → ST → Prop} {X : KX}

theorem SGoal.kept {st' : ST} {o : Out} (h : SGoal σ₀ A κ n₀ K st o Q X) (k : Kept n₀ st.σ st'.σ) : SGoal σ₀ A κ n₀ K st' o Q X := by
  cases o with
  | next η => exact fun s F q => h s F (k.trans q)
  | ret d m => exact fun s v F q => h s v F (k.trans q)
  | exc o C η => exact fun s F q => h s F (k.trans q)
  | stuck => exact h

theorem out_goal {α : Type} {r : Rz α} {f : α → Out} (R : VRel σ₀ A κ n₀ K η Fp st) (h : SGoal σ₀ A κ n₀ K st (outV r η f) Q X) : RGoal st X r (fun a => SGoal σ₀ A κ n₀ K st (f a) Q X) := by
  cases r with
  | ok a => exact h
  | err C => exact fun σ' p => h ⟨st.ρ, σ'⟩ Fp (Kept.pre p) (R.ext p)
  | stuck => exact h

theorem sv_seq {f : Cx → Stmt → ST → (Fl → ST → Prop) → KX → Prop} {vs : Stmt → VEnv → Out} {k : (Str → Option NameKind) → Stmt → Bool} (H : SVS σ₀ f vs k) :
    ∀ (ss : List Stmt) {η : VEnv} {Fp : Str → List Nat} {st : ST}, ss.all (k κ) = true → VRel σ₀ A κ n₀ K η Fp st → SGoal σ₀ A κ n₀ K st (seqV vs ss η) Q X → seqA (f ⟨κ, n₀⟩) ss st Q X
  | [], η, Fp, st, _, R, h => h st Fp (Kept.refl _ _) R
  | s :: r, η, Fp, st, hk, R, h => by
    simp only [List.all_cons, Bool.and_eq_true] at hk
    rw [seqV] at h
    refine H s A κ n₀ K η Fp st _ X hk.1 R ?_
    cases ho : vs s η with
    | next η' => rw [ho] at h; exact fun st' Fp' kp R' => sv_seq H r hk.2 R' (h.kept kp)
    | ret d m => rw [ho] at h; exact fun st' v F kp hd hm hold => h st' v F kp hd hm hold
    | exc o C η' => rw [ho] at h; exact fun st' Fp' kp R' => h st' Fp' kp R'
    | stuck => rw [ho] at h; exact h

theorem VRel.lessK {K' : List (Nat × AO)} (R : VRel σ₀ A κ n₀ K' η Fp st) (h : ∀ p ∈ K, p ∈ K') : VRel σ₀ A κ n₀ K η Fp st :=
  ⟨R.pre, R.g₀, R.nle, R.vars, R.mine, R.old, fun x e hx ho => by
    obtain ⟨i, h1, h2, h3, h4⟩ := R.own x e hx ho
    exact ⟨i, h1, h2, h3, fun p hp => h4 p (h p hp)⟩, fun p hp => R.hold p (h p hp)⟩

theorem VRel.bind1 {m : Expr → Str → Bool} {ex : Expr} {r : VR} {x : Str} {v : AV} {σ' : List AO} {F : List Nat} (R : VRel σ₀ A κ n₀ K η Fp st) (hx : κ x = some .local) (p : st.σ <+: σ') (hd : Den σ' v r.d F)
    (hF : Foot σ₀.length n₀ st.σ.length (m ex) η Fp r.born r.mine F) :
    VRel σ₀ A κ n₀ K (updV (dropV m ex r η) x ⟨r.d, r.born && isLst r.d, r.mine⟩) (fun y => if y = x then F else Fp y) ⟨upd st.ρ x v, σ'⟩ := by
  refine ((R.ext p).weaken (η' := dropV m ex r η) fun y e' h => dropV_sub h).store (.inl hx) hd hF.mine (R.oldOf hF) (fun q => ?_) (fun z e' i _ hz ho hi => R.sep hd.scal_nil hF hz ho hi)
  simp only [Bool.and_eq_true] at q
  cases hrd : r.d with
  | list ds =>
    rw [hrd] at hd
    obtain ⟨i, xs, rfl, e, hi⟩ := hd.list_ref
    have hl := hF.born q.1 i hi
    refine ⟨i, rfl, Nat.le_trans R.nle hl, fun y _ hs hy => ?_, fun p' hp q' => ?_⟩
    · obtain ⟨e', he'⟩ := Option.isSome_iff_exists.mp hs
      obtain ⟨e, he, _⟩ := dropV_sub he'
      exact absurd (R.lt (by rw [he]; rfl) i hy) (Nat.not_lt.mpr hl)
    · exact absurd (get_lt (R.hold p' hp)) (by rw [q']; exact Nat.not_lt.mpr hl)
  | _ => rw [hrd] at q; cases q.2

theorem sv_bindTup {r : VR} {F : List Nat} (hm : r.mine = true → ∀ i ∈ F, n₀ ≤ i) (hold : ∀ i ∈ F, n₀ ≤ i ∨ i < σ₀.length ∨ i ∈ A) : ∀ (ts : List Expr) {ds : List PyData} {vs : List AV} {G : List Nat} {η : VEnv} {Fp : Str → List Nat} {st : ST} {P : ST → Prop},
    (ts.all fun t => match t with | .Name x _ => decide (κ x = some .local) | _ => false) = true → DenAll st.σ vs ds G → (∀ i ∈ G, i ∈ F) → VRel σ₀ A κ n₀ K η Fp st → (∀ z e i, η z = some e → e.own = true → st.ρ z = some (.ref i) → i ∉ F) →
    SGoal σ₀ A κ n₀ K st (bindTupV r ts ds η) (fun fl st => match fl with | .next => P st | _ => False) X → bindNames ⟨κ, n₀⟩ ts vs st P ∧ vs.length = ts.length
  | [], ds, vs, G, η, Fp, st, P, _, hd, hG, R, hs, h => by
    cases ds with
    | nil => cases hd; exact ⟨h st Fp (Kept.refl _ _) R, rfl⟩
    | cons d ds => exact h.elim
  | t :: ts, ds, vs, G, η, Fp, st, P, hk, hd, hG, R, hs, h => by
    simp only [List.all_cons, Bool.and_eq_true] at hk
    cases t with
    | Name x p =>
      cases ds with
      | nil => exact h.elim
      | cons d ds =>
        cases hd with
        | @cons a as _ _ Fa Fs ha hs' =>
          have hx : κ x = some .local := by simpa using hk.1
          have hFa : ∀ i ∈ Fa, i ∈ F := fun i hi => hG i (List.mem_append_left _ hi)
          have R' := R.store (x := x) (v := a) (e := ⟨d, false, scal d || r.mine⟩) (F := Fa) (.inl hx) ha (fun q i hi => by
            rcases Bool.or_eq_true_iff.mp q with q | q
            · rw [ha.scal_nil q] at hi; cases hi
            · exact hm q i (hFa i hi)) (fun i hi => hold i (hFa i hi)) (fun q => by cases q) (fun z e' i _ hz ho hi q => hs z e' i hz ho hi (hFa i q))
          obtain ⟨h1, h2⟩ := sv_bindTup hm hold ts (st := ⟨upd st.ρ x a, st.σ⟩) hk.2 hs' (fun i hi => hG i (List.mem_append_right _ hi)) R' (fun z e i hz ho hi => by
            by_cases hzx : z = x
            · subst hzx
              simp only [updV, if_true, Option.some.injEq] at hz
              subst hz
              cases ho
            · simp only [updV, if_neg hzx] at hz
              exact hs z e i hz ho (by simpa [upd, hzx] using hi)) (h.kept (Kept.refl _ _))
          exact ⟨⟨hx, h1⟩, by simp [h2]⟩
    | _ => simp at hk

theorem VRel.app {m : Expr → Str → Bool} {ex : Expr} {r : VR} {x : Str} {v : AV} {σ' : List AO} {F : List Nat} {ds : List PyData} {mi : Bool} (R : VRel σ₀ A κ n₀ K η Fp st) (hx : η x = some ⟨.list ds, true, mi⟩) (p : st.σ <+: σ') (hd : Den σ' v r.d F)
    (hF : Foot σ₀.length n₀ st.σ.length (m ex) η Fp r.born r.mine F) (hc : (scal r.d || r.born || !m ex x) = true) :
    ∃ i xs, st.ρ x = some (.ref i) ∧ n₀ ≤ i ∧ st.σ[i]? = some ⟨true, xs⟩ ∧ xs.length = ds.length ∧
      VRel σ₀ A κ n₀ K (updV (dropV m ex r η) x ⟨.list (ds ++ [r.d]), true, mi && r.mine⟩) (fun y => if y = x then Fp x ++ F else Fp y) ⟨st.ρ, σ'.set i ⟨true, xs ++ [v]⟩⟩ := by
  obtain ⟨i, k1, k2, k3, k4⟩ := R.own x _ hx rfl
  obtain ⟨hkx, v', h2, h3⟩ := R.vars x _ hx
  rw [k1] at h2
  cases h2
  obtain ⟨Fx, hFx⟩ : ∃ Fx, Fx = Fp x := ⟨_, rfl⟩
  rw [← hFx] at h3
  dsimp only at h3
  cases h3 with
  | @list _ xs _ F₀ e a =>
    have hlt : i < st.σ.length := get_lt e
    have hl : i < σ'.length := Nat.lt_of_lt_of_le hlt (len_pre p)
    have hiF : i ∉ F := fun q => by
      simp only [Bool.or_eq_true, Bool.not_eq_true'] at hc
      rcases hc with (hc | hc) | hc
      · rw [hd.scal_nil hc] at q; cases q
      · exact absurd (hF.born hc i q) (Nat.not_le.mpr hlt)
      · rcases hF.src i q with z | z | ⟨y, z1, z2, z3⟩
        · exact absurd k2 (Nat.not_le.mpr (Nat.lt_of_lt_of_le z R.g₀))
        · exact absurd z (Nat.not_le.mpr hlt)
        · by_cases hy : y = x
          · subst hy; rw [hc] at z1; cases z1
          · exact k3 y hy z2 z3
    have hiF₀ : i ∉ F₀ := a.off e
    have oth : ∀ j o, j ≠ i → σ'[j]? = some o → (σ'.set i ⟨true, xs ++ [v]⟩)[j]? = some o := fun j o hj ho => by rw [List.getElem?_set_ne (Ne.symm hj)]; exact ho
    have self : (σ'.set i ⟨true, xs ++ [v]⟩)[i]? = some ⟨true, xs ++ [v]⟩ := List.getElem?_set_self hl
    refine ⟨i, xs, k1, k2, e, a.length, ?_⟩
    have isS : ∀ y, (updV (dropV m ex r η) x ⟨.list (ds ++ [r.d]), true, mi && r.mine⟩ y).isSome = true → (η y).isSome = true := fun y q => by
      by_cases hy : y = x
      · subst hy; rw [hx]; rfl
      · simp only [updV, if_neg hy] at q
        obtain ⟨e', he'⟩ := Option.isSome_iff_exists.mp q
        obtain ⟨e, he, _⟩ := dropV_sub he'
        rw [he]; rfl
    refine ⟨?_, R.g₀, ?_, fun y e' h => ?_, fun y e' h q => ?_, fun y e' h => ?_, fun y e' h q => ?_, fun q hq => ?_⟩
    · obtain ⟨t, ht⟩ := R.pre.trans p
      refine ⟨t.set (i - σ₀.length) ⟨true, xs ++ [v]⟩, ?_⟩
      rw [← ht, List.set_append_right _ _ (Nat.le_trans R.g₀ k2)]
    · rw [List.length_set]; exact Nat.le_trans R.nle (len_pre p)
    · by_cases hy : y = x
      · subst hy
        simp only [updV, if_true, Option.some.injEq] at h
        subst h
        refine ⟨hkx, _, k1, ?_⟩
        simp only [if_true, ← hFx, List.cons_append]
        refine .list self ?_
        refine DenAll.append ((a.pre p).frame fun j hj o ho => oth j o (fun z => hiF₀ (z ▸ hj)) ho) ?_
        have hd' : Den (σ'.set i ⟨true, xs ++ [v]⟩) v r.d F := hd.frame fun j hj o ho => oth j o (fun z => hiF (z ▸ hj)) ho
        simpa using DenAll.cons hd' .nil
      · simp only [updV, if_neg hy] at h
        obtain ⟨e₀, he₀, hdd, _⟩ := dropV_sub h
        obtain ⟨h1, w, h2, h3⟩ := R.vars y e₀ he₀
        refine ⟨h1, w, h2, ?_⟩
        rw [hdd]
        simp only [if_neg hy]
        exact (h3.pre p).frame fun j hj o ho => oth j o (fun z => k3 y hy (by rw [he₀]; rfl) (z ▸ hj)) ho
    · by_cases hy : y = x
      · subst hy
        simp only [updV, if_true, Option.some.injEq] at h
        subst h
        simp only [Bool.and_eq_true] at q
        simp only [if_true]
        intro j hj
        rcases List.mem_append.mp hj with hj | hj
        · exact R.mine y _ hx q.1 j hj
        · exact hF.mine q.2 j hj
      · simp only [updV, if_neg hy] at h
        obtain ⟨e₀, he₀, _, hmm, _⟩ := dropV_sub h
        simp only [if_neg hy]
        exact R.mine y e₀ he₀ (hmm q)
    · by_cases hy : y = x
      · subst hy
        simp only [if_true]
        intro j hj
        rcases List.mem_append.mp hj with hj | hj
        · exact R.old y _ hx j hj
        · exact R.oldOf hF j hj
      · simp only [updV, if_neg hy] at h
        obtain ⟨e₀, he₀, _⟩ := dropV_sub h
        simp only [if_neg hy]
        exact R.old y e₀ he₀
    · by_cases hy : y = x
      · subst hy
        refine ⟨i, k1, k2, fun z hz hs => ?_, k4⟩
        simp only [if_neg hz]
        exact k3 z hz (isS z hs)
      · simp only [updV, if_neg hy] at h
        obtain ⟨e₀, he₀, _, _, hoo⟩ := dropV_sub h
        obtain ⟨j, j1, j2, j3, j4⟩ := R.own y e₀ he₀ (hoo q)
        refine ⟨j, j1, j2, fun z hz hs => ?_, j4⟩
        by_cases hzx : z = x
        · subst hzx
          simp only [if_true]
          intro hj
          rcases List.mem_append.mp hj with hj | hj
          · exact j3 z hz (isS z hs) hj
          · exact R.sep hd.scal_nil hF h q j1 hj
        · simp only [if_neg hzx]
          exact j3 z hz (isS z hs)
    · exact oth _ _ (k4 q hq) (get_pre p (R.hold q hq))
end
end Mine

end

section
set_option autoImplicit false
namespace Mine
open PySem

section
variable {Θ : Thy} {Θv : VThy} {σ₀ : List AO} {A : List Nat} {κ : Str → Option NameKind} {n₀ : Nat} {K K' : List (Nat × AO)} {X : KX}

theorem sv_loop {f : Cx → Stmt → ST → (Fl → ST → Prop) → KX → Prop} {vs : Stmt → VEnv → Out} {k : (Str → Option NameKind) → Stmt → Bool} (H : SVS σ₀ f vs k) {x : Str} {px : Pos} {b : List Stmt} {mi : Bool} {its : It} {G : List Nat} {Q : Fl → ST → Prop}
    (hx : κ x = some .local) (hb : b.all (k κ) = true) (hK : ∀ p ∈ K, p ∈ K') (hG : ∀ i ∈ G, ∃ o, (i, o) ∈ K') (hown : ∀ i o, its.own = some (i, o) → (i, o) ∈ K') (hmi : mi = true → ∀ i ∈ G, n₀ ≤ i) (hold : ∀ i ∈ G, n₀ ≤ i ∨ i < σ₀.length ∨ i ∈ A) :
    ∀ (ds : List PyData) {ws : List AV} {F : List Nat} {σ₁ : List AO} {η : VEnv} {Fp : Str → List Nat} {st : ST}, DenAll σ₁ ws ds F → (∀ i ∈ F, i ∈ G) → (∀ p ∈ K', σ₁[p.1]? = some p.2) → VRel σ₀ A κ n₀ K' η Fp st →
      SGoal σ₀ A κ n₀ K st (forV x mi (seqV vs b) ds η) Q X → forA its (bindA ⟨κ, n₀⟩ (.Name x px)) (fun st Q => seqA (f ⟨κ, n₀⟩) b st Q X) ws st Q
  | [], ws, F, σ₁, η, Fp, st, hd, hF, h1, R, h => by
    cases hd
    refine ⟨?_, h st Fp (Kept.refl _ _) (R.lessK hK)⟩
    unfold It.ok
    split
    · trivial
    · rename_i q; exact R.hold _ (hown _ _ q)
  | d :: ds, ws, F, σ₁, η, Fp, st, hd, hF, h1, R, h => by
    cases hd with
    | @cons a as _ _ Fa Fs ha hs =>
      refine ⟨?_, hx, ?_⟩
      · unfold It.ok
        split
        · trivial
        · rename_i q; exact R.hold _ (hown _ _ q)
      · have hFa : ∀ i ∈ Fa, i ∈ G := fun i hi => hF i (List.mem_append_left _ hi)
        have ha' : Den st.σ a d Fa := ha.frame fun i hi o ho => by
          obtain ⟨o', ho'⟩ := hG i (hFa i hi)
          have := h1 _ ho'
          dsimp only at this
          rw [ho] at this
          cases this
          exact R.hold _ ho'
        have R' := R.store (x := x) (v := a) (e := ⟨d, false, scal d || mi⟩) (F := Fa) (.inl hx) ha' (fun q i hi => by
            rcases Bool.or_eq_true_iff.mp q with q | q
            · rw [ha.scal_nil q] at hi; cases hi
            · exact hmi q i (hFa i hi)) (fun i hi => hold i (hFa i hi)) (fun q => by cases q) (fun z e' i _ hz ho hi q => by
            obtain ⟨j, j1, _, _, j4⟩ := R.own z e' hz ho
            rw [hi] at j1
            cases j1
            obtain ⟨o', ho'⟩ := hG i (hFa i q)
            exact j4 _ ho' rfl)
        rw [forV] at h
        refine sv_seq H b (st := ⟨upd st.ρ x a, st.σ⟩) hb R' ?_
        cases ho : seqV vs b (updV η x ⟨d, false, scal d || mi⟩) with
        | next η' =>
          rw [ho] at h
          exact fun st' Fp' kp R₂ => sv_loop H hx hb hK hG hown hmi hold ds hs (fun i hi => hF i (List.mem_append_right _ hi)) h1 R₂ (h.kept kp)
        | ret d m => rw [ho] at h; exact fun st' v F kp q1 q2 q3 => h st' v F kp q1 q2 q3
        | exc o C η' => rw [ho] at h; exact fun st' Fp' kp R₂ => h st' Fp' kp (R₂.lessK hK)
        | stuck => rw [ho] at h; exact h

noncomputable def objsAt (σ : List AO) (G : List Nat) : List (Nat × AO) := G.filterMap fun i => (σ[i]?).map fun o => (i, o)
theorem objsAt_mem {σ : List AO} {G : List Nat} {p : Nat × AO} : p ∈ objsAt σ G ↔ p.1 ∈ G ∧ σ[p.1]? = some p.2 := by
  unfold objsAt
  rw [List.mem_filterMap]
  constructor
  · rintro ⟨i, hi, h⟩
    cases q : σ[i]? with
    | none => rw [q] at h; cases h
    | some o => rw [q] at h; cases h; exact ⟨hi, q⟩
  · rintro ⟨h1, h2⟩
    exact ⟨p.1, h1, by rw [h2]; rfl⟩

inductive TgtOut (κ : Str → Option NameKind) : Expr → Prop
  | name (x : Str) (p : Pos) : κ x = some .local → TgtOut κ (.Name x p)
  | tup (ts : List Expr) (k : Nat) (p : Pos) : (ts.all fun t => match t with | .Name x _ => decide (κ x = some .local) | _ => false) = true → TgtOut κ (.Tuple ts k p)
theorem target_out {t : Expr} (h : targetB κ t = true) : TgtOut κ t := by
  unfold targetB at h
  have hf := eform t
  generalize eview t = w at hf h
  cases hf with
  | name x p => exact .name x p (of_decide_eq_true h)
  | tup ts k p => exact .tup ts k p h
  | _ => cases h
theorem base_out {o : Expr} (h : baseB κ o = true) : ∃ x p, o = .Name x p ∧ varB κ x = true := by
  unfold baseB at h
  have hf := eform o
  generalize eview o = w at hf h
  cases hf with
  | name x p => exact ⟨x, p, rfl, h⟩
  | _ => cases h
theorem bindV_tup (ts : List Expr) (k : Nat) (p : Pos) (r : VR) : (∃ ds, r.d = .tuple ds ∧ ∀ η, bindV (.Tuple ts k p) r η = bindTupV r ts ds η) ∨ ∀ η, bindV (.Tuple ts k p) r η = .stuck := by
  obtain ⟨d, b, m⟩ := r
  cases d with
  | tuple ds => exact .inl ⟨ds, rfl, fun _ => rfl⟩
  | _ => exact .inr fun _ => rfl
theorem augV_inv {op : Operator} {a b d : PyData} (h : augV op a b = some d) : ∃ i j k, a = .int i ∧ b = .int j ∧ d = .int k ∧ ∀ Q : AV → Prop, Q (.int k) → augA op (.int i) (.int j) Q := by
  cases op with
  | Add => cases a with
    | int i => cases b with
      | int j => cases h; exact ⟨i, j, _, rfl, rfl, rfl, fun Q h => h⟩
      | _ => cases h
    | _ => cases h
  | Sub => cases a with
    | int i => cases b with
      | int j => cases h; exact ⟨i, j, _, rfl, rfl, rfl, fun Q h => h⟩
      | _ => cases h
    | _ => cases h
  | _ => cases h
theorem bindTup_out {r : VR} : ∀ (ts : List Expr) (ds : List PyData) (η : VEnv), (∃ η', bindTupV r ts ds η = .next η') ∨ bindTupV r ts ds η = .stuck
  | [], ds, _ => by
    cases ds with
    | nil => exact .inl ⟨_, rfl⟩
    | cons _ _ => exact .inr rfl
  | t :: ts, ds, η => by
    cases ds with
    | nil => cases t <;> exact .inr rfl
    | cons d ds => cases t with
      | Name x p => exact bindTup_out ts ds _
      | _ => exact .inr rfl

theorem step_svs (O : VOk Θ Θv σ₀) {n : Nat} (H : SVE σ₀ (W Θ n).e (V Θv n).e (V Θv n).m (V Θv n).ke) (HT : SVT σ₀ (W Θ n).t (V Θv n).t (V Θv n).kt) (HJ : SVJ σ₀ (W Θ n).e (V Θv n).j (V Θv n).kj) (HS : SVS σ₀ (W Θ n).s (V Θv n).s (V Θv n).ks) :
    SVS σ₀ (stepS Θ (W Θ n)) (stepSV Θv (V Θv n)) (chkS Θv (V Θv n)) := by
  intro s A κ n₀ K η Fp st Q X hk R h
  have HE := step_sve O H HT
  have hf := sform s
  have hk : chkSw Θv (V Θv n) κ (sview s) = true := hk
  have h : SGoal σ₀ A κ n₀ K st (stepSVw Θv (V Θv n) (sview s) η) Q X := h
  show stepSw Θ (W Θ n) ⟨κ, n₀⟩ (sview s) st Q X
  generalize sview s = w at hf hk h ⊢
  cases hf with
  | pass p => exact h st Fp (Kept.refl _ _) R
  | assign t v pos =>
    have hk : (notSwapped t v && chkE Θv (V Θv n) κ v && targetB κ t) = true := hk
    simp only [Bool.and_eq_true] at hk
    refine ⟨hk.1.1, ?_⟩
    have h := out_goal R (show SGoal σ₀ A κ n₀ K st (outV (stepEV Θv (V Θv n) v η) η fun r => bindV t r (dropV (stepMV (V Θv n)) v r η)) Q X from h)
    refine HE v A κ n₀ K η Fp st _ X hk.1.2 R (h.mono fun r h' w σ' F p hd hF => ?_)
    cases target_out hk.2 with
    | name x xp hx => exact ⟨hx, h' _ _ (Kept.pre p) (R.bind1 hx p hd hF)⟩
    | tup ts kk tp hkt =>
      rcases bindV_tup ts kk tp r with ⟨ds, hr, hb⟩ | hb
      · rw [hb] at h'
        rw [hr] at hd
        have hsep : ∀ z e i, dropV (stepMV (V Θv n)) v r η z = some e → e.own = true → st.ρ z = some (.ref i) → i ∉ F := fun z e i hz ho hi =>
          R.sep (fun q => by rw [hr] at q; cases q) hF hz ho hi
        have R' := (R.ext p).weaken (η' := dropV (stepMV (V Θv n)) v r η) fun y e' h => dropV_sub h
        cases hd with
        | tuple e a =>
          obtain ⟨h1, h2⟩ := sv_bindTup (P := fun st => Q .next st) (X := X) hF.mine (R.oldOf hF) ts hkt a (fun i hi => .tail _ hi) R' hsep (by
            have := h'.kept (st' := ⟨st.ρ, σ'⟩) (Kept.pre p)
            rcases bindTup_out (r := r) ts ds (dropV (stepMV (V Θv n)) v r η) with ⟨η', ho⟩ | ho
            · rw [ho] at this ⊢; exact this
            · rw [ho] at this ⊢; exact this)
          exact ⟨_, e, h2, h1⟩
      · rw [hb] at h'; exact h'.elim
  | aug x op v xp pos =>
    have hk : (decide (κ x = some .local) && (V Θv n).ke κ v) = true := hk
    simp only [Bool.and_eq_true, decide_eq_true_eq] at hk
    refine ⟨hk.1, ?_⟩
    have h : SGoal σ₀ A κ n₀ K st (match η x with
      | some e => outV ((V Θv n).e v η) η fun r => augTo η x (augV op e.d r.d)
      | none => .stuck) Q X := h
    cases he : η x with
    | some e =>
      rw [he] at h
      obtain ⟨_, old, h2, h3⟩ := R.vars x e he
      refine ⟨old, h2, ?_⟩
      refine H v A κ n₀ K η Fp st _ X hk.2 R ((out_goal R h).mono fun r h' w σ' F p hd hF => ?_)
      cases hau : augV op e.d r.d with
      | none => rw [hau] at h'; exact h'.elim
      | some d =>
        rw [hau] at h'
        obtain ⟨i, j, k, e1, e2, rfl, hA⟩ := augV_inv hau
        rw [e1] at h3
        rw [e2] at hd
        rw [h3.int_eq, hd.int_eq]
        exact hA _ (h' _ _ (Kept.pre p) ((R.ext p).store (F := []) (.inl hk.1) (.int k) (fun _ _ h => (nomatch h)) (fun _ h => (nomatch h)) (fun q => by cases q) (fun _ _ _ _ _ _ _ h => nomatch h)))
    | none => rw [he] at h; exact h.elim
  | app o m a ap p pos =>
    have hk : (decide (m = "append") && decide (ap.endLine = p.line) && noStars [a] && baseB κ o && (V Θv n).ke κ a) = true := hk
    simp only [Bool.and_eq_true, decide_eq_true_eq] at hk
    obtain ⟨⟨⟨⟨k1, k2⟩, k3⟩, k4⟩, k5⟩ := hk
    obtain ⟨x, xp, rfl, kv⟩ := base_out k4
    have h : SGoal σ₀ A κ n₀ K st (if (V Θv n).ok = false then .stuck else (match η x with
        | some e => appV (V Θv n) x a e η
        | none => .stuck)) Q X := h
    {
      refine ⟨k1, rfl, k2, k3, ?_⟩
      cases n with
      | zero => exact h.elim
      | succ n =>
        have h : SGoal σ₀ A κ n₀ K st (match η x with
          | some e => appV (V Θv (n + 1)) x a e η
          | none => .stuck) Q X := h
        cases hx : η x with
        | none => rw [hx] at h; exact h.elim
        | some e =>
          rw [hx] at h
          obtain ⟨ed, own, mi⟩ := e
          have h : SGoal σ₀ A κ n₀ K st (appV (V Θv (n + 1)) x a ⟨ed, own, mi⟩ η) Q X := h
          cases ed with
          | list ds =>
            cases own with
            | false => exact h.elim
            | true =>
              have h : SGoal σ₀ A κ n₀ K st (outV ((V Θv (n + 1)).e a η) η fun r => if (scal r.d || r.born || !(V Θv (n + 1)).m a x) = true ∧ ds.length < small then .next (updV (dropV (V Θv (n + 1)).m a r η) x ⟨.list (ds ++ [r.d]), true, mi && r.mine⟩) else .stuck) Q X := h
              obtain ⟨_, v', h2, h3⟩ := R.vars x _ hx
              unfold varB at kv
              simp only [Bool.and_eq_true, Bool.or_eq_true, decide_eq_true_eq] at kv
              refine name_step (e := ⟨.list ds, true, mi⟩) R kv.1 hx fun v'' hv'' _ => ?_
              rw [h2] at hv''
              cases hv''
              obtain ⟨i₀, xs₀, rfl, e₀, _⟩ := h3.list_ref
              refine ⟨⟨_, e₀⟩, ?_⟩
              refine H a A κ n₀ K η Fp st _ X k5 R ((out_goal R h).mono fun r h' w σ' F p hd hF => ?_)
              split at h'
              · rename_i hc
                obtain ⟨i, xs, j1, j2, j3, j4, R'⟩ := R.app hx p hd hF hc.1
                rw [h2] at j1
                cases j1
                refine ⟨j2, xs, get_pre p j3, by omega, h' _ _ (fun j o hj ho => ?_) R'⟩
                show (σ'.set i₀ _)[j]? = some o
                rw [List.getElem?_set_ne (by omega)]
                exact get_pre p ho
              · exact h'.elim
          | _ => exact h.elim
    }
  | ite t b o pos =>
    have hk : ((V Θv n).kt κ t && b.all ((V Θv n).ks κ) && o.all ((V Θv n).ks κ)) = true := hk
    simp only [Bool.and_eq_true] at hk
    have h := out_goal R (show SGoal σ₀ A κ n₀ K st (outV ((V Θv n).t t η) η fun v => if v then seqV (V Θv n).s b η else seqV (V Θv n).s o η) Q X from h)
    refine HT t A κ n₀ K η Fp st _ X hk.1.1 R (h.mono fun v h' σ' p => ?_)
    cases v with
    | true => exact sv_seq HS b hk.1.2 (R.ext p) (SGoal.kept (st' := ⟨st.ρ, σ'⟩) h' (Kept.pre p))
    | false => exact sv_seq HS o hk.2 (R.ext p) (SGoal.kept (st' := ⟨st.ρ, σ'⟩) h' (Kept.pre p))
  | loop x xp it b pos =>
    have hk : (notSet it && iterB (V Θv n).ke κ it && decide (κ x = some .local) && b.all ((V Θv n).ks κ)) = true := hk
    simp only [Bool.and_eq_true, decide_eq_true_eq] at hk
    obtain ⟨⟨⟨k1, k2⟩, k3⟩, k4⟩ := hk
    refine ⟨k1, ?_⟩
    have h := out_goal R (show SGoal σ₀ A κ n₀ K st (outV (iterV (V Θv n).e it η) η fun its => forV x its.mine (seqV (V Θv n).s b) its.ds (dropV (V Θv n).m it ⟨.list its.ds, its.born, its.mine⟩ η)) Q X from h)
    refine sv_iter H it k2 R (h.mono fun vi h' its σ' G p I => ?_)
    obtain ⟨F, hd, hFG⟩ := I.all
    have hsep : ∀ z e i, dropV (V Θv n).m it ⟨.list vi.ds, vi.born, vi.mine⟩ η z = some e → e.own = true → st.ρ z = some (.ref i) → i ∉ G := fun z e i hz ho hi =>
      R.sep (r := ⟨.list vi.ds, vi.born, vi.mine⟩) (fun q => by cases q) I.foot hz ho hi
    have R' := (R.ext p).weaken (η' := dropV (V Θv n).m it ⟨.list vi.ds, vi.born, vi.mine⟩ η) fun y e' h => dropV_sub h
    have R₂ : VRel σ₀ A κ n₀ (objsAt σ' G ++ K) (dropV (V Θv n).m it ⟨.list vi.ds, vi.born, vi.mine⟩ η) Fp ⟨st.ρ, σ'⟩ :=
      ⟨R'.pre, R'.g₀, R'.nle, R'.vars, R'.mine, R'.old, fun y e hy ho => by
        obtain ⟨i, j1, j2, j3, j4⟩ := R'.own y e hy ho
        refine ⟨i, j1, j2, j3, fun q hq => ?_⟩
        rcases List.mem_append.mp hq with hq | hq
        · exact fun z => hsep y e i hy ho j1 (z ▸ (objsAt_mem.mp hq).1)
        · exact j4 q hq, fun q hq => by
        rcases List.mem_append.mp hq with hq | hq
        · exact (objsAt_mem.mp hq).2
        · exact R'.hold q hq⟩
    refine sv_loop HS (K := K) (K' := objsAt σ' G ++ K) (mi := vi.mine) (G := G) k3 k4 (fun q hq => List.mem_append_right _ hq) (fun i hi => ?_) (fun i o q => ?_) I.foot.mine (R.oldOf I.foot) vi.ds hd hFG (fun q hq => R₂.hold q hq) R₂ (h'.kept (Kept.pre p))
    · exact ⟨σ'[i]'(I.lt i hi), List.mem_append_left _ (objsAt_mem.mpr ⟨hi, List.getElem?_eq_getElem _⟩)⟩
    · have := I.ok
      unfold It.ok at this
      rw [q] at this
      exact List.mem_append_left _ (objsAt_mem.mpr ⟨I.own i o q, this⟩)
  | ret e pos =>
    have h := out_goal R (show SGoal σ₀ A κ n₀ K st (outV ((V Θv n).e e η) η fun r => .ret r.d r.mine) Q X from h)
    exact H e A κ n₀ K η Fp st _ X hk R (h.mono fun r h' v σ' F p hd hF => h' ⟨st.ρ, σ'⟩ v F (Kept.pre p) hd hF.mine (R.oldOf hF))
  | raise C m cp cpos pos =>
    have hk : (decide (C ≠ "__debug__") && noStars [m] && decide (κ C = some .globalImplicit) && Θv.exc C && (V Θv n).kj κ m) = true := hk
    simp only [Bool.and_eq_true, decide_eq_true_eq] at hk
    obtain ⟨⟨⟨⟨k1, k2⟩, k3⟩, k4⟩, k5⟩ := hk
    refine ⟨k1, k2, k3, O.exc C k4, ?_⟩
    have h : SGoal σ₀ A κ n₀ K st (if (V Θv n).j m η then .exc true C η else .stuck) Q X := h
    split at h
    · rename_i hj
      exact HJ m A κ n₀ K η Fp st _ X k5 R hj fun x σ' p => h ⟨st.ρ, σ'⟩ Fp (Kept.pre p) (R.ext p)
    · exact h.elim
  | tryE b C hh cp hp pos =>
    have hk : (b.all ((V Θv n).ks κ) && decide (C ≠ "__debug__") && decide (κ C = some .globalImplicit) && Θv.exc C && handlerB κ hh) = true := hk
    simp only [Bool.and_eq_true, decide_eq_true_eq] at hk
    obtain ⟨⟨⟨⟨k1, k2⟩, k3⟩, k4⟩, k5⟩ := hk
    have h : SGoal σ₀ A κ n₀ K st (caughtV C hh (seqV (V Θv n).s b η)) Q X := h
    show seqA ((W Θ n).s ⟨κ, n₀⟩) b st Q (fun own k st => own = false ∧ k = C ∧ C ≠ "__debug__" ∧ κ C = some .globalImplicit ∧ Θ.exc C = true ∧ handlerA ⟨κ, n₀⟩ hh st Q)
    refine sv_seq HS b k1 R ?_
    cases ho : seqV (V Θv n).s b η with
    | next η' => rw [ho] at h; exact h
    | ret d m => rw [ho] at h; exact h
    | stuck => rw [ho] at h; exact h
    | exc own k η' =>
      rw [ho] at h
      intro st' Fp' kp R'
      have h : SGoal σ₀ A κ n₀ K st (if own = false ∧ k = C then handlerV hh η' else .stuck) Q X := h
      split at h
      · rename_i hc
        refine ⟨hc.1, hc.2, k2, k3, O.exc C k4, ?_⟩
        unfold handlerB at k5
        unfold handlerV at h
        unfold handlerA
        generalize hview hh = wh at k5 h ⊢
        cases wh with
        | ret x => exact h st' _ [] kp (.str _ k5) (fun _ _ h => (nomatch h)) (fun _ h => (nomatch h))
        | set x bb =>
          have hx : κ x = some .local := by simpa using k5
          exact ⟨hx, h _ _ kp (R'.store (F := []) (.inl hx) (.bool bb) (fun _ _ h => (nomatch h)) (fun _ h => (nomatch h)) (fun q => by cases q) (fun _ _ _ _ _ _ _ h => nomatch h))⟩
        | other => cases k5
      · exact h.elim
  | other _ => cases hk

structure VSnd (Θ : Thy) (Θv : VThy) (σ₀ : List AO) (n : Nat) : Prop where
  e : SVE σ₀ (W Θ n).e (V Θv n).e (V Θv n).m (V Θv n).ke
  t : SVT σ₀ (W Θ n).t (V Θv n).t (V Θv n).kt
  j : SVJ σ₀ (W Θ n).e (V Θv n).j (V Θv n).kj
  s : SVS σ₀ (W Θ n).s (V Θv n).s (V Θv n).ks

theorem V_snd (O : VOk Θ Θv σ₀) : ∀ n, VSnd Θ Θv σ₀ n
  | 0 => ⟨fun _ _ _ _ _ _ _ _ _ _ h => (by cases h), fun _ _ _ _ _ _ _ _ _ _ h => (by cases h), fun _ _ _ _ _ _ _ _ _ _ h => (by cases h), fun _ _ _ _ _ _ _ _ _ _ h => (by cases h)⟩
  | n + 1 => have I := V_snd O n; ⟨step_sve O I.e I.t, step_svt O I.e I.t, step_svj I.e, step_svs O I.e I.t I.j I.s⟩

theorem vrel_bind : ∀ (ps : List Str) {args : List AV} {ds : List PyData} {F : List Nat} {η : VEnv} {Fp : Str → List Nat} {st : ST}, (∀ x ∈ ps, κ x = some .local ∨ κ x = some .cell) → DenAll st.σ args ds F → (∀ i ∈ F, i ∈ A) → (∀ y e, η y = some e → e.own = false) →
    VRel σ₀ A κ n₀ [] η Fp st → ∃ Fp', VRel σ₀ A κ n₀ [] (bindPV ps ds η) Fp' ⟨bindP ps args st.ρ, st.σ⟩
  | [], _, _, _, _, Fp, st, _, _, _, _, R => ⟨Fp, by simpa [bindPV, bindP] using R⟩
  | p :: ps, [], ds, F, η, Fp, st, _, hd, _, _, R => by cases hd; exact ⟨Fp, by simpa [bindPV, bindP] using R⟩
  | p :: ps, a :: as, ds, F, η, Fp, st, hp, hd, hF, ho, R => by
    cases hd with
    | @cons _ _ d ds Fa Fs ha hs =>
      have R' := R.store (x := p) (v := a) (e := ⟨d, false, scal d⟩) (F := Fa) (hp p (.head _)) ha (fun q i hi => by rw [ha.scal_nil q] at hi; cases hi) (fun i hi => .inr (.inr (hF i (List.mem_append_left _ hi)))) (fun q => by cases q) (fun z e' i _ hz hw _ => by rw [ho z e' hz] at hw; cases hw)
      exact vrel_bind ps (st := ⟨upd st.ρ p a, st.σ⟩) (fun x hx => hp x (.tail _ hx)) hs (fun i hi => hF i (List.mem_append_right _ hi)) (fun y e hy => by
        by_cases q : y = p
        · subst q; simp only [updV, if_true, Option.some.injEq] at hy; subst hy; rfl
        · simp only [updV, if_neg q] at hy; exact ho y e hy) R'

theorem pre_of_get {α : Type} {l l' : List α} (h : ∀ (i : Nat) (o : α), l[i]? = some o → l'[i]? = some o) : l <+: l' := by
  rw [List.prefix_iff_getElem?]
  intro i hi
  exact h i _ (List.getElem?_eq_getElem hi)

theorem fnOk_of (O : VOk Θ Θv σ₀) {n : Nat} {params : List Str} {scope : Scope} {body : List Stmt} (hok : okDef Θv n params scope body = true) : FnOk σ₀ (callF Θ n params scope body) (callVF Θv n params body) := by
  intro args ds F σ Q E hd hp h
  unfold okDef at hok
  simp only [Bool.and_eq_true, List.all_eq_true, Bool.or_eq_true, decide_eq_true_eq] at hok
  unfold callVF at h
  have hl : ds.length = params.length := by
    by_cases q : ds.length = params.length
    · exact q
    · rw [if_neg q] at h; exact h.elim
  rw [if_pos hl] at h
  refine ⟨by rw [hd.length, hl], ?_⟩
  obtain ⟨Fp, R⟩ := vrel_bind (σ₀ := σ₀) (A := F) (κ := fun x => scope.names.lookup x) (n₀ := σ.length) params (args := args) (η := fun _ => none) (Fp := fun _ => []) (st := ⟨fun _ => none, σ⟩) hok.2 hd (fun _ h => h) (fun _ _ h => by cases h)
    ⟨hp, len_pre hp, Nat.le_refl _, fun _ _ h => (by cases h), fun _ _ h => (by cases h), fun _ _ h => (by cases h), fun _ _ h => (by cases h), fun _ h => nomatch h⟩
  have pre : ∀ {σ' : List AO}, Kept σ.length σ σ' → σ <+: σ' := fun k => pre_of_get fun i o e => k i o (get_lt e) e
  refine sv_seq (V_snd O n).s body (List.all_eq_true.mpr hok.1) R ?_
  cases ho : seqV (V Θv n).s body (bindPV params ds fun _ => none) with
  | next η' => rw [ho] at h; exact fun st' Fp' kp R' => h .none st'.σ [] (pre kp) .none (fun _ h => nomatch h)
  | ret d m =>
    rw [ho] at h
    intro st' v F' kp hd' hm hold
    refine h v st'.σ F' (pre kp) hd' fun i hi => ?_
    cases m with
    | true => exact .inl (hm rfl i hi)
    | false => rcases hold i hi with q | q
               · exact .inl q
               · exact .inr ⟨rfl, q⟩
  | exc o C η' => rw [ho] at h; exact fun _ _ _ _ => h
  | stuck => rw [ho] at h; exact h
end
end Mine

end

section
set_option autoImplicit false
namespace Mine
open PySem

noncomputable def pushT (Θ : Thy) (f : Str) (P : Fn) : Thy := { Θ with fn := fun g => if g = f then some P else Θ.fn g }
noncomputable def pushV (Θ : VThy) (f : Str) (φ : VFn) : VThy := { Θ with fn := fun g => if g = f then some φ else Θ.fn g }

structure Lvl (D : Gd) (Θv : VThy) (σ₀ : List AO) : Prop where
  G : Gnd D
  O : VOk D.Θ Θv σ₀

noncomputable def Gd.push (D : Gd) (f : Str) (n : Nat) (params : List Str) (scope : Scope) (body : List Stmt) : Gd := { D with Θ := pushT D.Θ f (callF D.Θ n params scope body), r := D.r + 1 }

theorem Lvl.push {D : Gd} {Θv : VThy} {σ₀ : List AO} (L : Lvl D Θv σ₀) {f : Str} {fa : Addr} (n : Nat) {params : List Str} {scope : Scope} {body : List Stmt} (hm : D.mg f = some (.ref fa)) (F : DefAt D.base fa params scope body)
    (hok : okDef Θv n params scope body = true) : Lvl (D.push f n params scope body) (pushV Θv f (callVF Θv n params body)) σ₀ := by
  obtain ⟨o, fd, ho, hd, _⟩ := F.obj
  refine ⟨⟨L.G.g, L.G.b, L.G.nolimit, L.G.glob, fun g P hg => ?_, L.G.len, L.G.list, L.G.min, L.G.max, L.G.range, L.G.exc⟩, ⟨L.O.glob, fun g φ hg => ?_, fun g hg => ?_, L.O.exc⟩⟩
  · replace hg : (if g = f then some (callF D.Θ n params scope body) else D.Θ.fn g) = some P := hg
    split at hg
    · rename_i e
      cases hg
      exact ⟨fa, o, fd, by rw [e]; exact hm, ho, hd, callJ_of L.G F⟩
    · obtain ⟨ga, o', fd', h1, h2, h3, h4⟩ := L.G.fn g P hg
      exact ⟨ga, o', fd', h1, h2, h3, h4.up (Nat.le_succ _)⟩
  · have hg : (if g = f then some (callVF Θv n params body) else Θv.fn g) = some φ := hg
    show ∃ P, (if g = f then some (callF D.Θ n params scope body) else D.Θ.fn g) = some P ∧ _
    split at hg
    · rename_i e
      cases hg
      exact ⟨_, if_pos e, fnOk_of L.O hok⟩
    · rename_i e
      obtain ⟨P, h1, h2⟩ := L.O.fn g φ hg
      exact ⟨P, by rw [if_neg e]; exact h1, h2⟩
  · have hg : (if g = f then some (callVF Θv n params body) else Θv.fn g) = none := hg
    show (if g = f then some (callF D.Θ n params scope body) else D.Θ.fn g) = none
    split at hg
    · cases hg
    · rename_i e
      rw [if_neg e]
      exact L.O.none g hg

inductive StoAll (h : Heap) (φ : List Addr) : List Addr → List AO → Prop
  | nil : StoAll h φ [] []
  | cons {a : Addr} {as : List Addr} {o : AO} {os : List AO} {vs : List Value} {n : Nat} : h.get? a = some (seqObj o.isL vs n) → RepL φ o.items vs → StoAll h φ as os → StoAll h φ (a :: as) (o :: os)
theorem StoAll.get {h : Heap} {φ : List Addr} {as : List Addr} {os : List AO} (x : StoAll h φ as os) {i : Nat} {o : AO} (e : os[i]? = some o) : ∃ a vs n, as[i]? = some a ∧ RepL φ o.items vs ∧ h.get? a = some (seqObj o.isL vs n) := by
  induction x generalizing i with
  | nil => simp at e
  | cons h1 h2 _ ih =>
    cases i with
    | zero => simp at e; subst e; exact ⟨_, _, _, rfl, h2, h1⟩
    | succ i => simp at e; simpa using ih e
theorem StoAll.length {h : Heap} {φ : List Addr} {as : List Addr} {os : List AO} (x : StoAll h φ as os) : as.length = os.length := by
  induction x with
  | nil => rfl
  | cons _ _ _ ih => simp [ih]
theorem StoAll.stoR {h : Heap} {φ : List Addr} {os : List AO} (x : StoAll h φ φ os) (hn : φ.Nodup) : StoR φ os h := ⟨x.length, hn, fun _ _ e => x.get e⟩

theorem sto_script {h : Heap} {φ : List Addr} {σ : List AO} (S : StoR φ σ h) (ht : ∀ o ∈ σ, o.isL = false) {P : Params} {a : Addr} {ns : List Int} (w : W.Well P h (.ref a) (W.ofPy (.list (ns.map .int)))) :
    StoR (φ ++ [a]) (σ ++ [⟨true, ns.map .int⟩]) h := by
  have hall : ∀ (ns : List Int) {vs : List Value} {φ : List Addr}, W.WellAll P h vs (W.ofPys (ns.map .int)) → RepL φ (ns.map .int) vs := by
    intro ns
    induction ns with
    | nil => intro vs φ x; cases x; exact .nil
    | cons n ns ih =>
      intro vs φ x
      cases x with
      | cons h1 h2 => cases h1; exact .cons rInt (ih h2)
  cases w with
  | list hg hw =>
    rename_i vs
    have na : a ∉ φ := fun m => by
      obtain ⟨i, hi⟩ := List.mem_iff_getElem?.mp m
      have hl := (List.getElem?_eq_some_iff.mp hi).1
      rw [S.len] at hl
      obtain ⟨ad', vs', n', h1, _, h3⟩ := S.obj i _ (List.getElem?_eq_getElem hl)
      rw [hi] at h1
      cases h1
      rw [hg] at h3
      have := ht _ (List.getElem_mem hl)
      rw [this] at h3
      simp [seqObj] at h3
    have p : φ <+: φ ++ [a] := ⟨_, rfl⟩
    refine ⟨by simp [S.len], nodup_snoc S.nodup na, fun i o e => ?_⟩
    by_cases hi : i < σ.length
    · rw [List.getElem?_append_left hi] at e
      obtain ⟨a', vs', n', h1, h2, h3⟩ := S.obj i o e
      exact ⟨a', vs', n', by rw [List.getElem?_append_left (by rw [S.len]; exact hi)]; exact h1, h2.mono p, h3⟩
    · rw [List.getElem?_append_right (by omega)] at e
      have : i = σ.length := by
        have := (List.getElem?_eq_some_iff.mp e).1
        simp at this; omega
      subst this
      simp at e
      subst e
      exact ⟨a, vs, 0, by rw [← S.len]; simp, hall ns hw, hg⟩

theorem den_script {σ : List AO} {ns : List Int} : DenAll (σ ++ [⟨true, ns.map .int⟩]) [.ref σ.length] [.list (ns.map .int)] ([σ.length] ++ []) := by
  have : ∀ (ns : List Int) (σ : List AO), DenAll σ (ns.map .int) (ns.map .int) [] := by
    intro ns σ
    induction ns with
    | nil => exact .nil
    | cons n ns ih => exact .cons (.int n) ih
  exact .cons (.list snoc_get (this _ _)) .nil

theorem law_top {D : Gd} {Θv : VThy} {σ₀ : List AO} {n : Nat} {fa : Addr} {scope : Scope} {body : List Stmt} (L : Lvl D Θv σ₀) (F : DefAt D.base fa ["script"] scope body) (hok : okDef Θv n ["script"] scope body = true) {s₁ : Shared}
    (hb : s₁.heap = D.base) (hs : StoR D.φ₀ σ₀ s₁.heap) (ht : ∀ o ∈ σ₀, o.isL = false) (hg : s₁.gens = #[]) (ho : s₁.os = D.os) {P : Params} {a : Addr} {ns : List Int} (hw : W.Well P s₁.heap (.ref a) (W.ofPy (.list (ns.map .int)))) {m : Bool}
    (hlaw : callVF Θv n ["script"] body [.list (ns.map .int)] = .ok (.bool true, m)) (hr : D.r ≤ 50) {R : Result → Shared → Prop}
    (hR : ∀ s', (∀ b o, s₁.heap.get? b = some o → s'.heap.get? b = some o) → s'.os = s₁.os → s'.gens = #[] → R (.ok (.ret (.bool true))) s') : codeAny (model D.prog D.w) callerA (.call (.ref fa) ⟨[.ref a], []⟩) R s₁ := by
  have J := callJ_of (n := n) L.G F
  have p : D.φ₀ <+: D.φ₀ ++ [a] := ⟨_, rfl⟩
  have S := sto_script hs ht hw
  refine J callerA [] (D.φ₀ ++ [a]) (σ₀ ++ [⟨true, ns.map .int⟩]) s₁ [.ref σ₀.length] [.ref a] (fun v _ => v = .bool true) (fun _ => False) R rfl rfl ?_ ?_ (fun _ h => nomatch h) (fun b o e => ⟨fun h => (nomatch h), by rw [hb]; exact e⟩) S p hg ho
    (.cons ⟨a, by rw [← hs.len]; simp, rfl⟩ .nil) ?_ (fun φ' σ' s' v w _ k _ _ g o rv q => ?_) (fun _ _ _ _ _ _ h => h.elim)
  · show 1 + claimMargin + (D.r + 1) < recursionLimit
    have : claimMargin ≤ 800 := by decide
    have : recursionLimit = 1000 := rfl
    omega
  · show 4 + 4 * (D.r + 1) + 100 < cLine
    have : cLine = 9900 := rfl
    omega
  · refine fnOk_of L.O hok _ _ _ _ _ _ den_script ⟨_, rfl⟩ ?_
    rw [hlaw]
    intro v σ' F' _ hd _
    cases hd
    rfl
  · subst q
    cases (rv : _ = _)
    exact hR s' (fun b o e => (k b o e).1 (fun h => nomatch h)) (o.trans ho.symm) g
end Mine

end

section
set_option autoImplicit false
namespace Mine
open PySem

noncomputable def bodyOf (p : Program) (i : Nat) : List Stmt := match p.main.body[i]? with
  | some (.FunctionDef _ _ b _ _ _ _ _ _ _) => b
  | _ => []
noncomputable def scopeOf (p : Program) (i : Nat) : Scope := match p.main.body[i]? with
  | some (.FunctionDef _ _ _ _ _ _ s _ _ _) => s
  | _ => default
noncomputable def loopOf (l : List Stmt) (i : Nat) : List Stmt := match l[i]? with
  | some (.For _ _ b _ _) => b
  | _ => []
theorem V_e (Θ : VThy) (n : Nat) : (V Θ (n + 1)).e = stepEV Θ (V Θ n) := rfl
theorem V_t (Θ : VThy) (n : Nat) : (V Θ (n + 1)).t = stepTV (V Θ n) := rfl
theorem V_s (Θ : VThy) (n : Nat) : (V Θ (n + 1)).s = stepSV Θ (V Θ n) := rfl
theorem V_j (Θ : VThy) (n : Nat) : (V Θ (n + 1)).j = stepJV (V Θ n) := rfl
theorem V_m (Θ : VThy) (n : Nat) : (V Θ (n + 1)).m = stepMV (V Θ n) := rfl
theorem V_ok (Θ : VThy) (n : Nat) : (V Θ (n + 1)).ok = true := rfl

noncomputable def encS (xs : List Str) : PyData := .list (xs.map .str)
noncomputable def encD (d : Str × Str) : PyData := .tuple [.str d.1, .str d.2]
noncomputable def encDs (ds : List (Str × Str)) : PyData := .list (ds.map encD)
noncomputable def encH (h : Int × Int × List (Str × Str)) : PyData := .tuple [.int h.1, .int h.2.1, encDs h.2.2]
noncomputable def encHs (hs : List (Int × Int × List (Str × Str))) : PyData := .list (hs.map encH)

section
variable (Θ : VThy) (S : VS) (η : VEnv)
theorem ev_cN (a : Nat) (b : Pos) : stepEV Θ S (.Constant .none a b) η = .ok (sc .none) := rfl
theorem ev_cB (x : Bool) (a : Nat) (b : Pos) : stepEV Θ S (.Constant (.bool x) a b) η = .ok (sc (.bool x)) := rfl
theorem ev_cI (x : Int) (a : Nat) (b : Pos) : stepEV Θ S (.Constant (.int x) a b) η = .ok (sc (.int x)) := rfl
theorem ev_cS (x : Str) (a : Nat) (b : Pos) : stepEV Θ S (.Constant (.str x) a b) η = .ok (sc (.str x)) := rfl
theorem ev_nm (x : Str) (p : Pos) : stepEV Θ S (.Name x p) η = nameV Θ x η := rfl
theorem ev_bin (l r : Expr) (op : Operator) (p : Pos) : stepEV Θ S (.BinOp l op r p) η = (S.e l η).bind fun a => (S.e r η).bind fun b => binV op a b := rfl
theorem ev_tup (es : List Expr) (k : Nat) (p : Pos) : stepEV Θ S (.Tuple es k p) η = (argsV S.e es η).bind fun vs => if vs.length ≤ small then .ok ⟨.tuple (vs.map (·.d)), vs.all (·.born), vs.all (·.mine)⟩ else .stuck := rfl
theorem ev_lst (es : List Expr) (p : Pos) : stepEV Θ S (.List es p) η = (argsV S.e es η).bind fun vs => if vs.length ≤ small then .ok ⟨.list (vs.map (·.d)), vs.all (·.born), vs.all (·.mine)⟩ else .stuck := rfl
theorem ev_sl (v : Expr) (lo hi : Option Expr) (p q : Pos) : stepEV Θ S (.Subscript v (.Slice lo hi none p) q) η = (S.e v η).bind fun a => (partsV S.e lo η).bind fun l => (partsV S.e hi η).bind fun h => sliceV a l.d h.d := rfl
theorem ev_ixC (v : Expr) (k : Const) (a : Nat) (p q : Pos) : stepEV Θ S (.Subscript v (.Constant k a p) q) η = (S.e v η).bind fun a' => (S.e (.Constant k a p) η).bind fun k => itemV a' k := rfl
theorem ev_ixN (v : Expr) (x : Str) (p q : Pos) : stepEV Θ S (.Subscript v (.Name x p) q) η = (S.e v η).bind fun a => (S.e (.Name x p) η).bind fun k => itemV a k := rfl
theorem ev_ixB (v l r : Expr) (op : Operator) (p q : Pos) : stepEV Θ S (.Subscript v (.BinOp l op r p) q) η = (S.e v η).bind fun a => (S.e (.BinOp l op r p) η).bind fun k => itemV a k := rfl
theorem ev_ixK (v f : Expr) (as : List Expr) (kw : List Keyword) (p q : Pos) : stepEV Θ S (.Subscript v (.Call f as kw p) q) η = (S.e v η).bind fun a => (S.e (.Call f as kw p) η).bind fun k => itemV a k := rfl
theorem ev_call (f : Str) (p q : Pos) (as : List Expr) : stepEV Θ S (.Call (.Name f p) as [] q) η = (argsV S.e as η).bind fun vs => callV Θ f vs := rfl
theorem ev_comp (elt it : Expr) (x : Str) (p q : Pos) (ifs : List Expr) (scope : Scope) : stepEV Θ S (.ListComp elt [⟨.Name x p, it, ifs, 0⟩] scope q) η = (iterV S.e it η).bind fun its => (compV S.e S.t x ifs elt its (maskη scope η) its.ds).bind fun r => .ok ⟨.list r.ds, r.born, r.mine⟩ := rfl
theorem tv_not (op : UnaryOp) (x : Expr) (p : Pos) : stepTV S (.UnaryOp op x p) η = (S.t x η).bind fun b => .ok (!b) := rfl
theorem tv_bool (op : BoolOp) (vs : List Expr) (p : Pos) : stepTV S (.BoolOp op vs p) η = allV S.t op vs η := rfl
theorem tv_lt (l r : Expr) (p : Pos) : stepTV S (.Compare l [.Lt] [r] p) η = (S.e l η).bind fun a => (S.e r η).bind fun b => cmpV .Lt a.d b.d := rfl
theorem tv_le (l r : Expr) (p : Pos) : stepTV S (.Compare l [.LtE] [r] p) η = (S.e l η).bind fun a => (S.e r η).bind fun b => cmpV .LtE a.d b.d := rfl
theorem tv_gt (l r : Expr) (p : Pos) : stepTV S (.Compare l [.Gt] [r] p) η = (S.e l η).bind fun a => (S.e r η).bind fun b => cmpV .Gt a.d b.d := rfl
theorem tv_ge (l r : Expr) (p : Pos) : stepTV S (.Compare l [.GtE] [r] p) η = (S.e l η).bind fun a => (S.e r η).bind fun b => cmpV .GtE a.d b.d := rfl
theorem tv_eq (l r : Expr) (p : Pos) : stepTV S (.Compare l [.Eq] [r] p) η = (S.e l η).bind fun a => (S.e r η).bind fun b => cmpV .Eq a.d b.d := rfl
theorem tv_ne (l r : Expr) (p : Pos) : stepTV S (.Compare l [.NotEq] [r] p) η = (S.e l η).bind fun a => (S.e r η).bind fun b => cmpV .NotEq a.d b.d := rfl
theorem tv_ni (l r : Expr) (p : Pos) : stepTV S (.Compare l [.NotIn] [r] p) η = (S.e l η).bind fun a => (S.e r η).bind fun b => cmpV .NotIn a.d b.d := rfl
theorem tv_nm (x : Str) (p : Pos) : stepTV S (.Name x p) η = (S.e (.Name x p) η).bind fun a => match a.d with
    | .bool b => .ok b
    | _ => .stuck := rfl
theorem tv_call (f : Str) (q : Pos) (a : List Expr) (p : Pos) : stepTV S (.Call (.Name f q) a [] p) η = (S.e (.Call (.Name f q) a [] p) η).bind fun a => match a.d with
    | .bool b => .ok b
    | _ => .stuck := rfl
theorem jv_c (x : Str) (a : Nat) (p : Pos) : stepJV S (.Constant (.str x) a p) η = true := rfl
theorem jv_f (x y : Str) (e : Expr) (c : Int) (k₁ k₃ : Nat) (p₁ p₂ p₃ p : Pos) : stepJV S (.JoinedStr [.Constant (.str x) k₁ p₁, .FormattedValue e c none p₂, .Constant (.str y) k₃ p₃] p) η = fmtV (S.e e η) := rfl
theorem fmt_ok (i : Int) (b m : Bool) : fmtV (.ok ⟨.int i, b, m⟩) = decide (i.natAbs < 10 ^ 9) := rfl
theorem mv_nm (x y : Str) (p : Pos) : stepMV S (.Name x p) y = decide (x = y) := rfl
theorem mv_cst (k : Const) (a : Nat) (p : Pos) (y : Str) : stepMV S (.Constant k a p) y = false := rfl
theorem mv_bin (l r : Expr) (op : Operator) (p : Pos) (y : Str) : stepMV S (.BinOp l op r p) y = (S.m l y || S.m r y) := rfl
theorem mv_tup (es : List Expr) (k : Nat) (p : Pos) (y : Str) : stepMV S (.Tuple es k p) y = es.any fun e => S.m e y := rfl
theorem mv_lst (es : List Expr) (p : Pos) (y : Str) : stepMV S (.List es p) y = es.any fun e => S.m e y := rfl
theorem mv_sub (v i : Expr) (p : Pos) (y : Str) : stepMV S (.Subscript v i p) y = S.m v y := by
  show stepMVw S (subW v i) y = _
  cases i with
  | Slice lo hi stp q => cases stp <;> rfl
  | _ => rfl
theorem mv_call (f : Str) (q : Pos) (as : List Expr) (p : Pos) (y : Str) : stepMV S (.Call (.Name f q) as [] p) y = as.any fun e => S.m e y := rfl
theorem it_nm (f : Expr → VEnv → Rz VR) (x : Str) (p : Pos) : iterV f (.Name x p) η = (f (.Name x p) η).bind seqItV := rfl
theorem it_bin (f : Expr → VEnv → Rz VR) (l r : Expr) (op : Operator) (p : Pos) : iterV f (.BinOp l op r p) η = (f (.BinOp l op r p) η).bind seqItV := rfl
theorem it_sub (f : Expr → VEnv → Rz VR) (v i : Expr) (p : Pos) : iterV f (.Subscript v i p) η = (f (.Subscript v i p) η).bind seqItV := by
  cases i with
  | Slice lo hi stp q => cases stp <;> rfl
  | _ => rfl
theorem it_call (f : Expr → VEnv → Rz VR) (g : Str) (as : List Expr) (p q : Pos) : iterV f (.Call (.Name g p) as [] q) η = if g = "range" then (argsV f as η).bind fun vs => (rangeV vs).bind fun ds => .ok ⟨ds, true, true⟩ else (f (.Call (.Name g p) as [] q) η).bind seqItV := rfl
theorem sq_l (ds : List PyData) (b m : Bool) : seqItV ⟨.list ds, b, m⟩ = if ds.length ≤ small then .ok ⟨ds, b, m⟩ else .stuck := rfl
theorem sq_t (ds : List PyData) (b m : Bool) : seqItV ⟨.tuple ds, b, m⟩ = if ds.length ≤ small then .ok ⟨ds, b, m⟩ else .stuck := rfl
theorem im_l (ds : List PyData) (b m b' m' : Bool) (k : Int) : itemV ⟨.list ds, b, m⟩ ⟨.int k, b', m'⟩ = itemL ⟨.list ds, b, m⟩ ds k := rfl
theorem im_t (ds : List PyData) (b m b' m' : Bool) (k : Int) : itemV ⟨.tuple ds, b, m⟩ ⟨.int k, b', m'⟩ = itemL ⟨.tuple ds, b, m⟩ ds k := rfl
theorem cd_n (t : Expr → VEnv → Rz Bool) : condV t [] η = .ok true := rfl
theorem cd_1 (t : Expr → VEnv → Rz Bool) (e : Expr) : condV t [e] η = t e η := rfl
theorem pt_n (f : Expr → VEnv → Rz VR) : partsV f none η = .ok (sc .none) := rfl
theorem pt_s (f : Expr → VEnv → Rz VR) (e : Expr) : partsV f (some e) η = f e η := rfl
theorem ss_asg (t v : Expr) (q : Pos) : stepSV Θ S (.Assign [t] v q) η = outV (stepEV Θ S v η) η fun r => bindV t r (dropV (stepMV S) v r η) := rfl
theorem ss_aug (x : Str) (p q : Pos) (op : Operator) (v : Expr) : stepSV Θ S (.AugAssign (.Name x p) op v q) η = (match η x with
    | some e => outV (S.e v η) η fun r => augTo η x (augV op e.d r.d)
    | none => .stuck) := rfl
theorem ss_app (x : Str) (p p' p'' q : Pos) (mn : Str) (a : Expr) : stepSV Θ S (.Expr (.Call (.Attribute (.Name x p) mn p') [a] [] p'') q) η = if S.ok = false then .stuck else (match η x with
    | some e => appV S x a e η
    | none => .stuck) := rfl
theorem appV_own (x : Str) (a : Expr) (ds : List PyData) (m : Bool) : appV S x a ⟨.list ds, true, m⟩ η = outV (S.e a η) η fun r => if (scal r.d || r.born || !S.m a x) = true ∧ ds.length < small then .next (updV (dropV S.m a r η) x ⟨.list (ds ++ [r.d]), true, m && r.mine⟩) else .stuck := rfl
theorem ss_if (t : Expr) (b o : List Stmt) (q : Pos) : stepSV Θ S (.If t b o q) η = outV (S.t t η) η fun v => if v then seqV S.s b η else seqV S.s o η := rfl
theorem ss_for (x : Str) (p q : Pos) (it : Expr) (b : List Stmt) : stepSV Θ S (.For (.Name x p) it b [] q) η = outV (iterV S.e it η) η fun its => forV x its.mine (seqV S.s b) its.ds (dropV S.m it ⟨.list its.ds, its.born, its.mine⟩ η) := rfl
theorem ss_ret (e : Expr) (q : Pos) : stepSV Θ S (.Return (some e) q) η = outV (S.e e η) η fun r => .ret r.d r.mine := rfl
theorem ss_raise (C : Str) (cp cq q : Pos) (m : Expr) : stepSV Θ S (.Raise (some (.Call (.Name C cp) [m] [] cq)) none q) η = if S.j m η then .exc true C η else .stuck := rfl
theorem ss_try (b hd : List Stmt) (C : Str) (cp hp q : Pos) : stepSV Θ S (.Try b [.ExceptHandler (some (.Name C cp)) none hd hp] [] [] q) η = caughtV C hd (seqV S.s b η) := rfl
theorem bv_nm (x : Str) (p : Pos) (r : VR) : bindV (.Name x p) r η = .next (updV η x ⟨r.d, r.born && isLst r.d, r.mine⟩) := rfl
end

theorem str_beq {a b : String} : (Str.ofString a == Str.ofString b) = decide (a = b) := by
  by_cases h : a = b
  · subst h; simp
  · have : Str.ofString a ≠ Str.ofString b := fun q => h (ofString_inj.mp q)
    simp [this, h]

theorem eqv_s (x y : Str) : PyData.eqv (.str x) (.str y) = (x == y) := rfl
theorem eqv_i (x y : Int) : PyData.eqv (.int x) (.int y) = (x == y) := rfl
theorem eqv_t (xs ys : List PyData) : PyData.eqv (.tuple xs) (.tuple ys) = PyData.eqvAll xs ys := rfl
theorem eqa_n : PyData.eqvAll [] [] = true := rfl
theorem eqa_c (x y : PyData) (xs ys : List PyData) : PyData.eqvAll (x :: xs) (y :: ys) = (PyData.eqv x y && PyData.eqvAll xs ys) := rfl
theorem eqa_map {α : Type} [DecidableEq α] (f : α → PyData) (h : ∀ x y, PyData.eqv (f x) (f y) = decide (x = y)) : ∀ xs ys : List α, PyData.eqvAll (xs.map f) (ys.map f) = decide (xs = ys) := by
  intro xs
  induction xs with
  | nil => intro ys; cases ys with
    | nil => rfl
    | cons _ _ => rfl
  | cons x xs ih => intro ys; cases ys with
    | nil => rfl
    | cons y ys =>
      rw [List.map_cons, List.map_cons, eqa_c, h, ih, ← Bool.decide_and]
      exact decide_eq_decide.mpr (by rw [List.cons.injEq])
theorem beq_dec {α : Type} [BEq α] [LawfulBEq α] [DecidableEq α] (x y : α) : (x == y) = decide (x = y) := by
  by_cases h : x = y
  · subst h; rw [beq_self_eq_true, decide_eq_true rfl]
  · rw [decide_eq_false h]; exact beq_eq_false_iff_ne.mpr h
theorem eqv_strs (xs ys : List Str) : PyData.eqvAll (xs.map .str) (ys.map .str) = decide (xs = ys) := eqa_map _ (fun x y => (eqv_s x y).trans (beq_dec x y)) xs ys
theorem eqv_encS (xs ys : List Str) : PyData.eqv (encS xs) (encS ys) = decide (xs = ys) := eqv_strs xs ys
theorem eqv_encD (a b : Str × Str) : PyData.eqv (encD a) (encD b) = decide (a = b) := by
  unfold encD
  rw [eqv_t, eqa_c, eqa_c, eqa_n, eqv_s, eqv_s, Bool.and_true, beq_dec, beq_dec, ← Bool.decide_and]
  exact decide_eq_decide.mpr Prod.ext_iff.symm
theorem eqv_deeds (xs ys : List (Str × Str)) : PyData.eqvAll (xs.map encD) (ys.map encD) = decide (xs = ys) := eqa_map _ eqv_encD xs ys
theorem eqv_encDs (xs ys : List (Str × Str)) : PyData.eqv (encDs xs) (encDs ys) = decide (xs = ys) := eqv_deeds xs ys
theorem eqv_encH (a b : Int × Int × List (Str × Str)) : PyData.eqv (encH a) (encH b) = decide (a = b) := by
  unfold encH
  rw [eqv_t, eqa_c, eqa_c, eqa_c, eqa_n, eqv_i, eqv_i, eqv_encDs, Bool.and_true, beq_dec, beq_dec, ← Bool.decide_and, ← Bool.decide_and]
  refine decide_eq_decide.mpr ⟨fun h => Prod.ext h.1 (Prod.ext h.2.1 h.2.2), fun h => by subst h; exact ⟨rfl, rfl, rfl⟩⟩
theorem eqv_hunks (xs ys : List (Int × Int × List (Str × Str))) : PyData.eqvAll (xs.map encH) (ys.map encH) = decide (xs = ys) := eqa_map _ eqv_encH xs ys
theorem eqv_encHs (xs ys : List (Int × Int × List (Str × Str))) : PyData.eqv (encHs xs) (encHs ys) = decide (xs = ys) := eqv_hunks xs ys

theorem flat_str (xs : List Str) : flat (xs.map PyData.str) = true := by simp [flat, scal]
theorem shal_encS (n : Nat) (xs : List Str) : shal (n + 1) (encS xs) = true := by simp [encS, shal]
theorem shal_encD (n : Nat) (d : Str × Str) : shal (n + 1) (encD d) = true := by simp [encD, shal]
theorem shal_encDs (n : Nat) (xs : List (Str × Str)) : shal (n + 2) (encDs xs) = true := by simp [encDs, shal, shal_encD]
theorem shal_encH (n : Nat) (d : Int × Int × List (Str × Str)) : shal (n + 3) (encH d) = true := by simp [encH, shal, shal_encDs]
theorem shal_encHs (n : Nat) (xs : List (Int × Int × List (Str × Str))) : shal (n + 4) (encHs xs) = true := by simp [encHs, shal, shal_encH]

noncomputable def src (ds : List (Str × Str)) : List Str := (ds.filter fun d => decide (d.1 ≠ Str.ofString "add")).map (·.2)
noncomputable def tgt (ds : List (Str × Str)) : List Str := (ds.filter fun d => decide (d.1 ≠ Str.ofString "del")).map (·.2)
noncomputable def kn (k : Str) : Bool := decide (k = Str.ofString "keep") || decide (k = Str.ofString "del") || decide (k = Str.ofString "add")

theorem compV_map {f : Expr → VEnv → Rz VR} {t : Expr → VEnv → Rz Bool} {x : Str} {ifs : List Expr} {elt : Expr} {it : VI} {η : VEnv} {α : Type} (enc : α → PyData) (p : α → Bool) (g : α → PyData) :
    ∀ ds : List α, (∀ d ∈ ds, condV t ifs (updV η x ⟨enc d, false, scal (enc d) || it.mine⟩) = .ok (p d)) → (∀ d ∈ ds, p d = true → f elt (updV η x ⟨enc d, false, scal (enc d) || it.mine⟩) = .ok ⟨g d, true, true⟩) →
      compV f t x ifs elt it η (ds.map enc) = .ok ⟨(ds.filter p).map g, true, true⟩
  | [], _, _ => rfl
  | d :: ds, hc, he => by
    have ih := compV_map (f := f) (t := t) (x := x) (ifs := ifs) (elt := elt) (it := it) (η := η) enc p g ds (fun d h => hc d (.tail _ h)) (fun d h => he d (.tail _ h))
    rw [List.map_cons, compV, hc d (.head _)]
    simp only [Rz.strict, Rz.bind]
    cases hp : p d with
    | true => simp only [if_true, he d (.head _) hp, ih, List.filter_cons, hp, List.map_cons, Bool.and_self]
    | false => simp only [ih, List.filter_cons, hp, Bool.false_eq_true, if_false]
theorem compV_map' {f : Expr → VEnv → Rz VR} {t : Expr → VEnv → Rz Bool} {x : Str} {ifs : List Expr} {elt : Expr} {it : VI} {η : VEnv} {α : Type} (enc : α → PyData) (p : α → Bool) (g : α → PyData) :
    ∀ ds : List α, (∀ d ∈ ds, condV t ifs (updV η x ⟨enc d, false, scal (enc d) || it.mine⟩) = .ok (p d)) → (∀ d ∈ ds, p d = true → ∃ b m, f elt (updV η x ⟨enc d, false, scal (enc d) || it.mine⟩) = .ok ⟨g d, b, m⟩) →
      ∃ b m, compV f t x ifs elt it η (ds.map enc) = .ok ⟨(ds.filter p).map g, b, m⟩
  | [], _, _ => ⟨_, _, rfl⟩
  | d :: ds, hc, he => by
    obtain ⟨b, m, ih⟩ := compV_map' (f := f) (t := t) (x := x) (ifs := ifs) (elt := elt) (it := it) (η := η) enc p g ds (fun d h => hc d (.tail _ h)) (fun d h => he d (.tail _ h))
    rw [List.map_cons, compV, hc d (.head _)]
    simp only [Rz.strict, Rz.bind]
    cases hp : p d with
    | true =>
      obtain ⟨b', m', h⟩ := he d (.head _) hp
      exact ⟨b' && b, m' && m, by simp only [if_true, h, ih, List.filter_cons, hp, List.map_cons]⟩
    | false => exact ⟨b, m, by simp only [ih, List.filter_cons, hp, Bool.false_eq_true, if_false]⟩
theorem item0 (a : VR) (x : PyData) (r : List PyData) : itemL a (x :: r) 0 = .ok (elemV a x) := by
  simp [itemL, seqIndex?, small]
theorem item1 (a : VR) (x y : PyData) (r : List PyData) : itemL a (x :: y :: r) 1 = .ok (elemV a y) := by
  have h : ((r.length : Int) + 1 + 1 > 1) = True := by simp; omega
  simp [itemL, seqIndex?, small]
  rw [if_pos (by omega)]
  simp
theorem item2 (a : VR) (x y z : PyData) (r : List PyData) : itemL a (x :: y :: z :: r) 2 = .ok (elemV a z) := by
  simp [itemL, seqIndex?, small]
  rw [if_pos (by omega)]
  simp
theorem item_at {a : VR} {ds : List PyData} {k : Int} {d : PyData} (h : ds[k.toNat]? = some d) (h0 : 0 ≤ k) (h1 : k ≤ 4096) : itemL a ds k = .ok (elemV a d) := by
  have hl := (List.getElem?_eq_some_iff.mp h).1
  have hk : ¬ k < 0 := by omega
  have hs : seqIndex? k ds.length = some k.toNat := by
    unfold seqIndex?
    simp only [hk, if_false]
    rw [if_pos (by simp; omega)]
  unfold itemL
  rw [if_pos (by unfold small; omega), hs]
  simp only [h]
theorem cmp_ne {a b : PyData} {r : Bool} (h1 : shal 8 a = true) (h2 : shal 8 b = true) (h : PyData.eqv a b = r) : cmpV .NotEq a b = .ok (!r) := by
  show (if (shal 8 a && shal 8 b) = true then Rz.ok (!PyData.eqv a b) else .stuck) = _
  rw [h1, h2, h]; rfl
theorem cmp_eq {a b : PyData} {r : Bool} (h1 : shal 8 a = true) (h2 : shal 8 b = true) (h : PyData.eqv a b = r) : cmpV .Eq a b = .ok r := by
  show (if (shal 8 a && shal 8 b) = true then Rz.ok (PyData.eqv a b) else .stuck) = _
  rw [h1, h2, h]; rfl
theorem ne_str (a b : Str) : cmpV .NotEq (.str a) (.str b) = .ok (decide (a ≠ b)) := (cmp_ne rfl rfl ((eqv_s a b).trans (beq_dec a b))).trans (congrArg Rz.ok decide_not.symm)
theorem eq_str (a b : Str) : cmpV .Eq (.str a) (.str b) = .ok (decide (a = b)) := cmp_eq rfl rfl ((eqv_s a b).trans (beq_dec a b))
theorem eq_strs (xs ys : List Str) : cmpV .Eq (.list (xs.map .str)) (.list (ys.map .str)) = .ok (decide (xs = ys)) := cmp_eq (shal_encS 7 xs) (shal_encS 7 ys) (eqv_encS xs ys)
theorem ne_strs (xs ys : List Str) : cmpV .NotEq (.list (xs.map .str)) (.list (ys.map .str)) = .ok (decide (xs ≠ ys)) := (cmp_ne (shal_encS 7 xs) (shal_encS 7 ys) (eqv_encS xs ys)).trans (congrArg Rz.ok decide_not.symm)
theorem ne_str_strs (x : Str) (ys : List Str) : cmpV .NotEq (.str x) (.list (ys.map .str)) = .ok true := cmp_ne (r := false) rfl (shal_encS 7 ys) rfl
theorem ne_strs_str (x : Str) (ys : List Str) : cmpV .NotEq (.list (ys.map .str)) (.str x) = .ok true := cmp_ne (r := false) (shal_encS 7 ys) rfl rfl
theorem ne_deeds (xs ys : List (Str × Str)) : cmpV .NotEq (.list (xs.map encD)) (.list (ys.map encD)) = .ok (decide (xs ≠ ys)) := (cmp_ne (shal_encDs 6 xs) (shal_encDs 6 ys) (eqv_encDs xs ys)).trans (congrArg Rz.ok decide_not.symm)
theorem ne_hunks (xs ys : List (Int × Int × List (Str × Str))) : cmpV .NotEq (.list (xs.map encH)) (.list (ys.map encH)) = .ok (decide (xs ≠ ys)) := (cmp_ne (shal_encHs 4 xs) (shal_encHs 4 ys) (eqv_encHs xs ys)).trans (congrArg Rz.ok decide_not.symm)
theorem snoc_str (xs : List Str) (y : Str) : xs.map PyData.str ++ [PyData.str y] = (xs ++ [y]).map PyData.str := by simp
theorem append_str (xs ys : List Str) : xs.map PyData.str ++ ys.map PyData.str = (xs ++ ys).map PyData.str := by simp
theorem slice_map {α β : Type} (f : α → β) (xs : List α) (lo hi : Option Int) : sliceL (xs.map f) lo hi = (sliceL xs lo hi).map f := by
  simp [sliceL, List.map_drop, List.map_take]
theorem upd_eq (η : VEnv) (x : Str) (e : VE) : updV η x e x = some e := if_pos rfl
theorem upd_ne (η : VEnv) (a b : String) (e : VE) (h : b ≠ a) : updV η (Str.ofString a) e (Str.ofString b) = η (Str.ofString b) := if_neg fun q => h (ofString_inj.mp q)
theorem drop_yes {m : Expr → Str → Bool} {ex : Expr} {d : PyData} {b mi : Bool} {η : VEnv} (h : (scal d || b) = true) : dropV m ex ⟨d, b, mi⟩ η = η := if_pos h

theorem lt_int (i j : Int) : cmpV .Lt (.int i) (.int j) = .ok (decide (i < j)) := rfl
theorem le_int (i j : Int) : cmpV .LtE (.int i) (.int j) = .ok (decide (i ≤ j)) := rfl
theorem gt_int (i j : Int) : cmpV .Gt (.int i) (.int j) = .ok (decide (j < i)) := rfl
theorem ge_int (i j : Int) : cmpV .GtE (.int i) (.int j) = .ok (decide (j ≤ i)) := rfl
theorem eq_int (i j : Int) : cmpV .Eq (.int i) (.int j) = .ok (decide (i = j)) := cmp_eq rfl rfl ((eqv_i i j).trans (beq_dec i j))
theorem ne_int (i j : Int) : cmpV .NotEq (.int i) (.int j) = .ok (decide (i ≠ j)) := (cmp_ne rfl rfl ((eqv_i i j).trans (beq_dec i j))).trans (congrArg Rz.ok decide_not.symm)
theorem len_lst {ds : List PyData} {b m : Bool} (h : ds.length ≤ small) : builtinV (Str.ofString "len") [⟨.list ds, b, m⟩] = .ok (sc (.int ds.length)) := by
  unfold builtinV
  rw [if_pos rfl]
  exact if_pos h
theorem lst_lst {ds : List PyData} {b m : Bool} (h : ds.length ≤ small) : builtinV (Str.ofString "list") [⟨.list ds, b, m⟩] = .ok ⟨.list ds, flat ds || b, flat ds || m⟩ := by
  unfold builtinV
  rw [if_neg (by rw [ofString_inj]; decide), if_pos rfl]
  exact if_pos h
theorem add_int (i j : Int) (b m b' m' : Bool) : binV .Add ⟨.int i, b, m⟩ ⟨.int j, b', m'⟩ = .ok (sc (.int (i + j))) := rfl
theorem sub_int (i j : Int) (b m b' m' : Bool) : binV .Sub ⟨.int i, b, m⟩ ⟨.int j, b', m'⟩ = .ok (sc (.int (i - j))) := rfl
theorem mod_int (i j : Int) (b m b' m' : Bool) (h : j ≠ 0) : binV .Mod ⟨.int i, b, m⟩ ⟨.int j, b', m'⟩ = .ok (sc (.int (i.fmod j))) := if_pos h
theorem div_int (i j : Int) (b m b' m' : Bool) (h : j ≠ 0) (h' : j.natAbs < 1073741824) : binV .FloorDiv ⟨.int i, b, m⟩ ⟨.int j, b', m'⟩ = .ok (sc (.int (i.fdiv j))) := if_pos ⟨h, h'⟩
theorem div3 (i : Int) (b m b' m' : Bool) : binV .FloorDiv ⟨.int i, b, m⟩ ⟨.int 3, b', m'⟩ = .ok (sc (.int (i.fdiv 3))) := div_int _ _ _ _ _ _ (by decide) (by decide)
theorem div4 (i : Int) (b m b' m' : Bool) : binV .FloorDiv ⟨.int i, b, m⟩ ⟨.int 4, b', m'⟩ = .ok (sc (.int (i.fdiv 4))) := div_int _ _ _ _ _ _ (by decide) (by decide)
theorem mul_int {i j : Int} {b m b' m' : Bool} (h : i.natAbs < 2 ^ 20) (h' : j.natAbs < 2 ^ 20) : binV .Mult ⟨.int i, b, m⟩ ⟨.int j, b', m'⟩ = .ok (sc (.int (i * j))) := if_pos ⟨h, h'⟩
theorem add_lists {xs ys : List PyData} {b m b' m' : Bool} (h : xs.length + ys.length ≤ small) : binV .Add ⟨.list xs, b, m⟩ ⟨.list ys, b', m'⟩ = .ok ⟨.list (xs ++ ys), (flat xs || b) && (flat ys || b'), (flat xs || m) && (flat ys || m')⟩ := if_pos h
theorem add_strs {xs ys : List Str} {b m b' m' : Bool} (h : xs.length + ys.length ≤ small) : binV .Add ⟨.list (xs.map .str), b, m⟩ ⟨.list (ys.map .str), b', m'⟩ = .ok ⟨.list ((xs ++ ys).map .str), true, true⟩ := by
  rw [add_lists (by simpa only [List.length_map] using h)]
  simp only [flat_str, Bool.true_or, Bool.and_self, append_str]
theorem cut_lists {α : Type} {f : α → PyData} {xs : List α} {b m : Bool} {l h : PyData} {lo hi : Option Int} (hl : partV l = some lo) (hh : partV h = some hi) (hs : xs.length ≤ small) : sliceV ⟨.list (xs.map f), b, m⟩ l h = .ok ⟨.list ((sliceL xs lo hi).map f), flat (xs.map f) || b, flat (xs.map f) || m⟩ := by
  unfold sliceV
  rw [hl, hh]
  refine (if_pos (by rw [List.length_map]; exact hs)).trans ?_
  rw [slice_map]
  rfl
theorem cut_strs {xs : List Str} {b m : Bool} {l h : PyData} {lo hi : Option Int} (hl : partV l = some lo) (hh : partV h = some hi) (hs : xs.length ≤ small) : sliceV ⟨.list (xs.map .str), b, m⟩ l h = .ok ⟨.list ((sliceL xs lo hi).map .str), true, true⟩ := by
  rw [cut_lists hl hh hs, flat_str]
  rfl
theorem t_or2 {Θ : VThy} {n : Nat} {e₁ e₂ : Expr} {p : Pos} {η : VEnv} {a b : Bool} (h1 : (V Θ n).t e₁ η = .ok a) (h2 : a = false → (V Θ n).t e₂ η = .ok b) : (V Θ (n + 1)).t (.BoolOp .Or [e₁, e₂] p) η = .ok (a || b) := by
  cases a with
  | true => simp only [V_t, tv_bool, allV, h1, Rz.bind, Bool.true_or]
  | false => cases b <;> simp only [V_t, tv_bool, allV, h1, h2 rfl, Rz.bind, Bool.false_or] <;> rfl
theorem t_and3 {Θ : VThy} {n : Nat} {e₁ e₂ e₃ : Expr} {p : Pos} {η : VEnv} {a b c : Bool} (h1 : (V Θ n).t e₁ η = .ok a) (h2 : a = true → (V Θ n).t e₂ η = .ok b) (h3 : a = true → b = true → (V Θ n).t e₃ η = .ok c) : (V Θ (n + 1)).t (.BoolOp .And [e₁, e₂, e₃] p) η = .ok (a && b && c) := by
  cases a with
  | false => simp only [V_t, tv_bool, allV, h1, Rz.bind, Bool.false_and]
  | true => cases b with
    | false => simp only [V_t, tv_bool, allV, h1, h2 rfl, Rz.bind, Bool.true_and, Bool.false_and]
    | true => cases c <;> simp only [V_t, tv_bool, allV, h1, h2 rfl, h3 rfl rfl, Rz.bind, Bool.true_and] <;> rfl
theorem any_kinds (k : Str) : ([PyData.str (Str.ofString "keep"), .str (Str.ofString "del"), .str (Str.ofString "add")].any fun y => PyData.eqv y (.str k)) = kn k := by
  unfold kn
  rw [List.any_cons, List.any_cons, List.any_cons, List.any_nil, eqv_s, eqv_s, eqv_s, Bool.or_false, Bool.or_assoc, beq_dec, beq_dec, beq_dec]
  simp only [eq_comm]
theorem notin_kinds (k : Str) : cmpV .NotIn (.str k) (.list [.str (Str.ofString "keep"), .str (Str.ofString "del"), .str (Str.ofString "add")]) = .ok (!kn k) := by
  rw [← any_kinds]; rfl
theorem notin_kindsT (k : Str) : cmpV .NotIn (.str k) (.tuple [.str (Str.ofString "keep"), .str (Str.ofString "del"), .str (Str.ofString "add")]) = .ok (!kn k) := by
  rw [← any_kinds]; rfl

noncomputable def Post (o : Out) (P : Out → Prop) : Prop := P o
noncomputable def thenP (k : VEnv → Prop) (P : Out → Prop) : Out → Prop
  | .next η => k η
  | o => P o

section
variable {Θ : VThy} {n : Nat} {η : VEnv} {P : Out → Prop} {rest : List Stmt}

theorem p_nil (h : P (.next η)) : Post (seqV (V Θ n).s [] η) P := h
theorem p_end {k : VEnv → Prop} (h : k η) : Post (seqV (V Θ n).s [] η) (thenP k P) := h
theorem then_next {k : VEnv → Prop} (h : k η) : thenP k P (.next η) := h
theorem p_asgS {x : Str} {p q : Pos} {v : Expr} {d : PyData} {b m : Bool} (h : stepEV Θ (V Θ n) v η = .ok ⟨d, b, m⟩) (hd : scal d = true) (k : Post (seqV (V Θ (n + 1)).s rest (updV η x ⟨d, false, m⟩)) P) :
    Post (seqV (V Θ (n + 1)).s (.Assign [.Name x p] v q :: rest) η) P := by
  have hl : isLst d = false := by cases d <;> first | rfl | cases hd
  unfold Post at k ⊢
  rw [seqV, V_s, ss_asg, h]
  simp only [outV, bv_nm, drop_yes (show (scal d || b) = true by rw [hd]; rfl), hl, Bool.and_false]
  exact k
theorem p_asgL {x : Str} {p q : Pos} {v : Expr} {ds : List PyData} {m : Bool} (h : stepEV Θ (V Θ n) v η = .ok ⟨.list ds, true, m⟩) (k : Post (seqV (V Θ (n + 1)).s rest (updV η x ⟨.list ds, true, m⟩)) P) :
    Post (seqV (V Θ (n + 1)).s (.Assign [.Name x p] v q :: rest) η) P := by
  unfold Post at k ⊢
  rw [seqV, V_s, ss_asg, h]
  simp only [outV, bv_nm, drop_yes (show (scal (.list ds) || true) = true from rfl), isLst, Bool.and_true]
  exact k
theorem p_asgX {x : Str} {p q : Pos} {v : Expr} {C : Str} (h : stepEV Θ (V Θ n) v η = .err C) (k : P (.exc false C η)) : Post (seqV (V Θ (n + 1)).s (.Assign [.Name x p] v q :: rest) η) P := by
  unfold Post
  rw [seqV, V_s, ss_asg, h]
  exact k
theorem p_aug {x : Str} {p q : Pos} {op : Operator} {v : Expr} {e : VE} {r : VR} {d : PyData} (he : η x = some e) (h : (V Θ n).e v η = .ok r) (ha : augV op e.d r.d = some d) (k : Post (seqV (V Θ (n + 1)).s rest (updV η x ⟨d, false, true⟩)) P) :
    Post (seqV (V Θ (n + 1)).s (.AugAssign (.Name x p) op v q :: rest) η) P := by
  unfold Post at k ⊢
  rw [seqV, V_s, ss_aug, he]
  simp only [h, outV, ha, augTo]
  exact k
theorem p_app {x : Str} {p p' p'' q : Pos} {mn : Str} {a : Expr} {ds : List PyData} {m : Bool} {d : PyData} {b mi : Bool} (hx : η x = some ⟨.list ds, true, m⟩) (h : (V Θ (n + 1)).e a η = .ok ⟨d, b, mi⟩) (hc : (scal d || b) = true) (hl : ds.length < small)
    (k : Post (seqV (V Θ (n + 2)).s rest (updV η x ⟨.list (ds ++ [d]), true, m && mi⟩)) P) : Post (seqV (V Θ (n + 2)).s (.Expr (.Call (.Attribute (.Name x p) mn p') [a] [] p'') q :: rest) η) P := by
  unfold Post at k ⊢
  rw [seqV, V_s, ss_app, V_ok, if_neg (by decide), hx]
  simp only [appV_own, h, outV, drop_yes hc]
  rw [if_pos ⟨by rw [hc]; rfl, hl⟩]
  exact k
theorem p_appO {x : Str} {p p' p'' q : Pos} {mn : Str} {a : Expr} {ds : List PyData} {m : Bool} {d : PyData} {b mi : Bool} (hx : η x = some ⟨.list ds, true, m⟩) (h : (V Θ (n + 1)).e a η = .ok ⟨d, b, mi⟩) (hc : (V Θ (n + 1)).m a x = false) (hl : ds.length < small)
    (k : Post (seqV (V Θ (n + 2)).s rest (updV (dropV (V Θ (n + 1)).m a ⟨d, b, mi⟩ η) x ⟨.list (ds ++ [d]), true, m && mi⟩)) P) : Post (seqV (V Θ (n + 2)).s (.Expr (.Call (.Attribute (.Name x p) mn p') [a] [] p'') q :: rest) η) P := by
  unfold Post at k ⊢
  rw [seqV, V_s, ss_app, V_ok, if_neg (by decide), hx]
  simp only [appV_own, h, outV]
  rw [if_pos ⟨by rw [hc]; simp, hl⟩]
  exact k
theorem post_then {o : Out} {k : VEnv → Out} (h : Post o (thenP (fun η' => Post (k η') P) P)) : P (match (generalizing := false) o with | .next η => k η | o => o) := by
  cases o <;> exact h
theorem p_if {t : Expr} {x y : List Stmt} {q : Pos} {b : Bool} (h : (V Θ n).t t η = .ok b) (ht : b = true → Post (seqV (V Θ n).s x η) (thenP (fun η' => Post (seqV (V Θ (n + 1)).s rest η') P) P))
    (hf : b = false → Post (seqV (V Θ n).s y η) (thenP (fun η' => Post (seqV (V Θ (n + 1)).s rest η') P) P)) : Post (seqV (V Θ (n + 1)).s (.If t x y q :: rest) η) P := by
  unfold Post
  rw [seqV, V_s, ss_if, h]
  simp only [outV]
  cases b with
  | true => exact post_then (ht rfl)
  | false => exact post_then (hf rfl)
theorem p_for {x : Str} {p q : Pos} {it : Expr} {b : List Stmt} {ds : List PyData} {bo mi : Bool} (h : iterV (V Θ n).e it η = .ok ⟨ds, bo, mi⟩)
    (k : Post (forV x mi (seqV (V Θ n).s b) ds (dropV (V Θ n).m it ⟨.list ds, bo, mi⟩ η)) (thenP (fun η' => Post (seqV (V Θ (n + 1)).s rest η') P) P)) : Post (seqV (V Θ (n + 1)).s (.For (.Name x p) it b [] q :: rest) η) P := by
  unfold Post
  rw [seqV, V_s, ss_for, h]
  simp only [outV]
  exact post_then k
theorem p_ret {e : Expr} {q : Pos} {d : PyData} {b m : Bool} (h : (V Θ n).e e η = .ok ⟨d, b, m⟩) (k : P (.ret d m)) : Post (seqV (V Θ (n + 1)).s (.Return (some e) q :: rest) η) P := by
  unfold Post
  rw [seqV, V_s, ss_ret, h]
  exact k
theorem p_raise {C : Str} {cp cq q : Pos} {m : Expr} (h : (V Θ n).j m η = true) (k : P (.exc true C η)) : Post (seqV (V Θ (n + 1)).s (.Raise (some (.Call (.Name C cp) [m] [] cq)) none q :: rest) η) P := by
  unfold Post
  rw [seqV, V_s, ss_raise, if_pos h]
  exact k
noncomputable def tryP (C : Str) (hd : List Stmt) (k : VEnv → Prop) (P : Out → Prop) : Out → Prop
  | .next η => k η
  | .exc own c η => own = false ∧ c = C ∧ thenP k P (handlerV hd η)
  | o => P o
theorem p_try {b hd : List Stmt} {C : Str} {cp hp q : Pos} (k : Post (seqV (V Θ n).s b η) (tryP C hd (fun η' => Post (seqV (V Θ (n + 1)).s rest η') P) P)) :
    Post (seqV (V Θ (n + 1)).s (.Try b [.ExceptHandler (some (.Name C cp)) none hd hp] [] [] q :: rest) η) P := by
  unfold Post at k ⊢
  rw [seqV, V_s, ss_try]
  cases ho : seqV (V Θ n).s b η with
  | next η' => rw [ho] at k; exact k
  | ret d m => rw [ho] at k; exact k
  | stuck => rw [ho] at k; exact k
  | exc own c η' =>
    rw [ho] at k
    obtain ⟨h1, h2, h3⟩ := k
    have e : caughtV C hd (.exc own c η') = handlerV hd η' := if_pos ⟨h1, h2⟩
    rw [e]
    cases hh : handlerV hd η' with
    | next η'' => rw [hh] at h3; exact h3
    | ret d m => rw [hh] at h3; exact h3
    | stuck => rw [hh] at h3; exact h3
    | exc o c η'' => rw [hh] at h3; exact h3

theorem f_nil {x : Str} {m : Bool} {body : VEnv → Out} (h : P (.next η)) : Post (forV x m body [] η) P := h
theorem f_cons {x : Str} {m : Bool} {body : VEnv → Out} {d : PyData} {ds : List PyData} (h : Post (body (updV η x ⟨d, false, scal d || m⟩)) (thenP (fun η' => Post (forV x m body ds η') P) P)) : Post (forV x m body (d :: ds) η) P := by
  unfold Post
  rw [forV]
  exact post_then h
noncomputable def retIs (r : Rz (PyData × Bool)) : Out → Prop
  | .next _ => r = .ok (.none, true)
  | .ret d m => r = .ok (d, m)
  | .exc _ C _ => r = .err C
  | .stuck => False
theorem call_of {params : List Str} {body : List Stmt} {ds : List PyData} {r : Rz (PyData × Bool)} (hl : ds.length = params.length) (h : Post (seqV (V Θ n).s body (bindPV params ds fun _ => none)) (retIs r)) : callVF Θ n params body ds = r := by
  unfold callVF
  rw [if_pos hl]
  unfold Post at h
  cases ho : seqV (V Θ n).s body (bindPV params ds fun _ => none) with
  | next η => rw [ho] at h; exact h.symm
  | ret d m => rw [ho] at h; exact h.symm
  | exc o C η => rw [ho] at h; exact h.symm
  | stuck => rw [ho] at h; exact h.elim
end

noncomputable def TurnOk {σ : Type} (C : Str) (Inv : σ → VEnv → Prop) (Q : Out → Prop) : Option σ → Prop
  | some s' => ∀ η', Inv s' η' → Q (.next η')
  | none => ∀ o η', Q (.exc o C η')
theorem loop_ind {α : Type} {σ : Type} (enc : α → PyData) (Inv : Nat → σ → VEnv → Prop) {x : Str} {m : Bool} {body : VEnv → Out} (turn : α → σ → Option σ) (C : Str) :
    ∀ (as : List α), (∀ (a : α) (k : Nat) (s : σ) (η : VEnv) (Q : Out → Prop), a ∈ as → Inv (k + 1) s η → TurnOk C (Inv k) Q (turn a s) → Post (body (updV η x ⟨enc a, false, scal (enc a) || m⟩)) Q) →
      ∀ (s : σ) (η : VEnv) (P : Out → Prop), Inv as.length s η → TurnOk C (Inv 0) P (as.foldlM (fun s a => turn a s) s) → Post (forV x m body (as.map enc) η) P
  | [], _, s, η, P, hi, h => h η hi
  | a :: as, ht, s, η, P, hi, h => by
    refine f_cons (ht a _ s η _ (.head _) hi ?_)
    rw [List.foldlM_cons] at h
    cases hq : turn a s with
    | none => rw [hq] at h; exact h
    | some s' => rw [hq] at h; exact fun η' hi' => loop_ind enc Inv turn C as (fun a k s η Q ha => ht a k s η Q (.tail _ ha)) s' η' P hi' h

noncomputable def patchT (xs : List Str) (d : Str × Str) (s : Nat × List Str) : Option (Nat × List Str) :=
  if kn d.1 = true then
    (if d.1 = Str.ofString "add" then some (s.1, s.2 ++ [d.2])
    else if xs[s.1]? = some d.2 then some (s.1 + 1, if d.1 = Str.ofString "del" then s.2 else s.2 ++ [d.2]) else none)
  else none
structure PatchInv (xs : List Str) (k : Nat) (s : Nat × List Str) (η : VEnv) : Prop where
  a : η (Str.ofString "a") = some ⟨.list (xs.map .str), false, false⟩
  place : η (Str.ofString "place") = some ⟨.int s.1, false, true⟩
  result : η (Str.ofString "result") = some ⟨.list (s.2.map .str), true, true⟩
  le : s.1 ≤ xs.length
  len : s.2.length + k ≤ 2000

theorem src_cons (d : Str × Str) (ds : List (Str × Str)) : src (d :: ds) = (if d.1 = Str.ofString "add" then src ds else d.2 :: src ds) := by
  by_cases h : d.1 = Str.ofString "add" <;> simp [src, h]
theorem tgt_cons (d : Str × Str) (ds : List (Str × Str)) : tgt (d :: ds) = (if d.1 = Str.ofString "del" then tgt ds else d.2 :: tgt ds) := by
  by_cases h : d.1 = Str.ofString "del" <;> simp [tgt, h]
theorem add_ne_del : Str.ofString "add" ≠ Str.ofString "del" := by rw [Ne, ofString_inj]; decide
theorem src_len (ds : List (Str × Str)) : (src ds).length ≤ ds.length := by
  simp only [src, List.length_map]; exact List.length_filter_le ..
theorem tgt_len (ds : List (Str × Str)) : (tgt ds).length ≤ ds.length := by
  simp only [tgt, List.length_map]; exact List.length_filter_le ..

theorem patch_fold (xs : List Str) : ∀ (ds : List (Str × Str)) (p : Nat) (res : List Str), ds.foldlM (fun s d => patchT xs d s) (p, res) =
    if (ds.all (fun d => kn d.1) = true ∧ src ds <+: xs.drop p) then some (p + (src ds).length, res ++ tgt ds) else none
  | [], p, res => by simp [src, tgt]
  | d :: ds, p, res => by
    rw [List.foldlM_cons]
    have ih := patch_fold xs ds
    by_cases hk : kn d.1 = true
    · by_cases ha : d.1 = Str.ofString "add"
      · have e : patchT xs d (p, res) = some (p, res ++ [d.2]) := by unfold patchT; rw [if_pos hk, if_pos ha]
        have : ¬ d.1 = Str.ofString "del" := by rw [ha]; exact add_ne_del
        simp only [e, Option.bind_eq_bind, Option.bind_some, ih, src_cons, tgt_cons, if_pos ha, List.all_cons, hk, Bool.true_and, if_neg this, List.append_assoc, List.cons_append, List.nil_append]
      · by_cases hp : xs[p]? = some d.2
        · have e : patchT xs d (p, res) = some (p + 1, if d.1 = Str.ofString "del" then res else res ++ [d.2]) := by unfold patchT; rw [if_pos hk, if_neg ha, if_pos hp]
          have hd : xs.drop p = d.2 :: xs.drop (p + 1) := by
            obtain ⟨h1, h2⟩ := List.getElem?_eq_some_iff.mp hp
            rw [List.drop_eq_getElem_cons h1, h2]
          have hl : p + 1 + (src ds).length = p + ((src ds).length + 1) := by omega
          simp only [e, Option.bind_eq_bind, Option.bind_some, ih, src_cons, tgt_cons, if_neg ha, List.all_cons, hk, Bool.true_and, hd, List.cons_prefix_cons, true_and]
          by_cases hdel : d.1 = Str.ofString "del"
          · simp only [if_pos hdel, List.length_cons, hl]
          · simp only [if_neg hdel, List.length_cons, List.append_assoc, List.cons_append, List.nil_append, hl]
        · have e : patchT xs d (p, res) = none := by unfold patchT; rw [if_pos hk, if_neg ha, if_neg hp]
          simp only [e, Option.bind_eq_bind, Option.bind_none]
          rw [if_neg]
          rintro ⟨_, hpre⟩
          rw [src_cons, if_neg ha] at hpre
          obtain ⟨t, ht⟩ := hpre
          apply hp
          have : (xs.drop p)[0]? = some d.2 := by rw [← ht]; rfl
          simpa using this
    · have e : patchT xs d (p, res) = none := by unfold patchT; rw [if_neg hk]
      simp only [e, Option.bind_eq_bind, Option.bind_none]
      rw [if_neg]
      rintro ⟨h, _⟩
      simp only [List.all_cons, Bool.and_eq_true] at h
      exact hk h.1

theorem pre_full {xs ys : List Str} (h : ys <+: xs) (hl : ys.length = xs.length) : ys = xs := List.IsPrefix.eq_of_length h hl

noncomputable def patchR (xs : List Str) (ds : List (Str × Str)) : Rz (PyData × Bool) :=
  if ds.all (fun d => kn d.1) = true ∧ src ds = xs then .ok (.list ((tgt ds).map .str), true) else .err (Str.ofString "PatchError")

theorem clip_nat (n p : Nat) : clipAt n (p : Int) = min p n := by
  unfold clipAt
  rw [if_neg (by omega)]
  omega
theorem take_min {α : Type} (xs : List α) (p q : Nat) : (xs.drop (min p xs.length)).take (min q xs.length - min p xs.length) = (xs.drop p).take (q - p) := by
  by_cases h : p ≤ xs.length
  · rw [Nat.min_eq_left h]
    by_cases h' : q ≤ xs.length
    · rw [Nat.min_eq_left h']
    · rw [Nat.min_eq_right (by omega), List.take_of_length_le (by simp), List.take_of_length_le (by simp; omega)]
  · have e : min p xs.length = xs.length := by omega
    rw [e, List.drop_eq_nil_of_le (Nat.le_refl _), List.drop_eq_nil_of_le (by omega)]
    simp
theorem slice_cut {α : Type} (xs : List α) (p q : Nat) : sliceL xs (some (p : Int)) (some (q : Int)) = (xs.drop p).take (q - p) := by
  unfold sliceL
  simp only [Option.elim, clip_nat, take_min]
theorem slice_from {α : Type} (xs : List α) (p : Nat) : sliceL xs (some (p : Int)) none = xs.drop p := by
  unfold sliceL
  simp only [Option.elim, clip_nat]
  by_cases h : p ≤ xs.length
  · rw [Nat.min_eq_left h, List.take_of_length_le (by simp)]
  · rw [Nat.min_eq_right (by omega), List.drop_eq_nil_of_le (by omega), List.drop_eq_nil_of_le (by omega)]
    simp
theorem slice_to {α : Type} (xs : List α) (q : Nat) : sliceL xs none (some (q : Int)) = xs.take q := by
  unfold sliceL
  simp only [Option.elim, clip_nat, List.drop_zero, Nat.sub_zero]
  by_cases h : q ≤ xs.length
  · rw [Nat.min_eq_left h]
  · rw [Nat.min_eq_right (by omega), List.take_of_length_le (by omega), List.take_of_length_le (by omega)]

noncomputable def applyT (xs : List Str) (h : Int × Int × List (Str × Str)) (s : Nat × List Str) : Option (Nat × List Str) :=
  if h.1 < s.1 ∨ h.1 > xs.length then none
  else if h.2.1 ≠ ((s.2 ++ (xs.drop s.1).take (h.1.toNat - s.1)).length : Int) then none
  else if h.2.2.all (fun d => kn d.1) = true ∧ src h.2.2 = (xs.drop h.1.toNat).take (src h.2.2).length then some (h.1.toNat + (src h.2.2).length, s.2 ++ (xs.drop s.1).take (h.1.toNat - s.1) ++ tgt h.2.2)
  else none
structure ApplyInv (xs : List Str) (k : Nat) (s : Nat × List Str) (η : VEnv) : Prop where
  a : η (Str.ofString "a") = some ⟨.list (xs.map .str), false, false⟩
  place : η (Str.ofString "place") = some ⟨.int s.1, false, true⟩
  result : η (Str.ofString "result") = some ⟨.list (s.2.map .str), true, true⟩
  le : s.1 ≤ xs.length
  len : s.2.length + 200 * k ≤ 3000
noncomputable def applyR (xs : List Str) (hs : List (Int × Int × List (Str × Str))) : Option (List Str) := (hs.foldlM (fun s h => applyT xs h s) (0, [])).map fun s => s.2 ++ xs.drop s.1
noncomputable def rzOf (o : Option (List Str)) : Rz (PyData × Bool) := match o with
  | some l => .ok (.list (l.map .str), true)
  | none => .err (Str.ofString "PatchError")

theorem loop_inv {α : Type} (enc : α → PyData) (Inv : Nat → VEnv → Prop) {x : Str} {m : Bool} {body : VEnv → Out} :
    ∀ (as : List α), (∀ (a : α) (k : Nat) (η : VEnv) (Q : Out → Prop), a ∈ as → Inv (k + 1) η → (∀ η', Inv k η' → Q (.next η')) → Post (body (updV η x ⟨enc a, false, scal (enc a) || m⟩)) Q) →
      ∀ (η : VEnv) (P : Out → Prop), Inv as.length η → (∀ η', Inv 0 η' → P (.next η')) → Post (forV x m body (as.map enc) η) P
  | [], _, η, P, hi, h => h η hi
  | a :: as, ht, η, P, hi, h => f_cons (ht a _ η _ (.head _) hi fun η' hi' => loop_inv enc Inv as (fun a k η Q ha => ht a k η Q (.tail _ ha)) η' P hi' h)

theorem p_ifJ {Θ : VThy} {n : Nat} {η : VEnv} {P : Out → Prop} {rest : List Stmt} {t : Expr} {x y : List Stmt} {q : Pos} {b : Bool} (M : VEnv → Prop) (h : (V Θ n).t t η = .ok b) (ht : b = true → Post (seqV (V Θ n).s x η) (thenP M fun _ => False))
    (hf : b = false → Post (seqV (V Θ n).s y η) (thenP M fun _ => False)) (k : ∀ η', M η' → Post (seqV (V Θ (n + 1)).s rest η') P) : Post (seqV (V Θ (n + 1)).s (.If t x y q :: rest) η) P := by
  have go : ∀ o, Post o (thenP M fun _ => False) → Post o (thenP (fun η' => Post (seqV (V Θ (n + 1)).s rest η') P) P) := fun o ho => by
    cases o with
    | next η' => exact k η' ho
    | ret d m => exact (ho : False).elim
    | exc o C η' => exact (ho : False).elim
    | stuck => exact (ho : False).elim
  exact p_if h (fun q => go _ (ht q)) (fun q => go _ (hf q))

theorem fmod_nat (i : Int) (n : Nat) (h : 0 < n) : ∃ r : Nat, i.fmod n = r ∧ r < n := by
  have e : i.fmod n = i % n := Int.fmod_eq_emod_of_nonneg _ (by omega)
  have h0 : 0 ≤ i % (n : Int) := Int.emod_nonneg _ (by omega)
  have h1 : i % (n : Int) < n := Int.emod_lt_of_pos _ (by omega)
  exact ⟨(i % n).toNat, by omega, by omega⟩
theorem fdiv_nat (r n : Nat) : (r : Int).fdiv n = ((r / n : Nat) : Int) := by
  rw [Int.fdiv_eq_ediv_of_nonneg _ (by omega)]; simp
theorem fmod_cast (r n : Nat) : (r : Int).fmod n = ((r % n : Nat) : Int) := by
  rw [Int.fmod_eq_emod_of_nonneg _ (by omega)]; simp

noncomputable def optD : Option (List Str) → PyData
  | some l => .list (l.map .str)
  | none => .str (Str.ofString "refused")
theorem ne_opt (a b : Option (List Str)) : cmpV .NotEq (optD a) (optD b) = .ok (decide (a ≠ b)) := by
  cases a <;> cases b <;> simp only [optD, ne_str, ne_strs, ne_str_strs, ne_strs_str] <;> simp
theorem ne_opt_word (a : Option (List Str)) : cmpV .NotEq (optD a) (.str (Str.ofString "refused")) = .ok (decide (a ≠ none)) := ne_opt a none

noncomputable def lineAt (L : List Str) (i : Nat) : Str := L[i]?.getD (Str.ofString "")
theorem pick_str (L : List Str) {a : VR} {i : Nat} (h : i < L.length) (h' : i ≤ 4096) : itemL a (L.map .str) (i : Int) = .ok ⟨.str (lineAt L i), true, true⟩ := by
  rw [item_at (d := .str (lineAt L i)) (by simp [lineAt, h]) (by omega) (by omega)]
  rfl
noncomputable def intAt (L : List Int) (i : Nat) : Int := L[i]?.getD 0
theorem pick_int (L : List Int) {a : VR} {i : Nat} (h : i < L.length) (h' : i ≤ 4096) : itemL a (L.map .int) (i : Int) = .ok ⟨.int (intAt L i), true, true⟩ := by
  rw [item_at (d := .int (intAt L i)) (by simp [intAt, h]) (by omega) (by omega)]
  rfl
theorem lineAt_mem {L : List Str} {i : Nat} (h : i < L.length) : lineAt L i ∈ L := by
  unfold lineAt; rw [List.getElem?_eq_getElem h]; exact List.getElem_mem h
noncomputable def encP (p : Nat × Nat) : PyData := .tuple [.int p.1, .int p.2]
theorem src_snoc (ds : List (Str × Str)) (d : Str × Str) : src (ds ++ [d]) = if d.1 = Str.ofString "add" then src ds else src ds ++ [d.2] := by
  by_cases h : d.1 = Str.ofString "add" <;> simp [src, h]
theorem e_comp {Θ : VThy} {n : Nat} {η : VEnv} {elt it : Expr} {x : Str} {p q : Pos} {ifs : List Expr} {scope : Scope} {vi : VI} {ds : List PyData} {b m : Bool} (h : iterV (V Θ n).e it η = .ok vi)
    (hc : compV (V Θ n).e (V Θ n).t x ifs elt vi (maskη scope η) vi.ds = .ok ⟨ds, b, m⟩) : (V Θ (n + 1)).e (.ListComp elt [⟨.Name x p, it, ifs, 0⟩] scope q) η = .ok ⟨.list ds, b, m⟩ := by
  rw [V_e, ev_comp, h, Rz.bind_ok, hc, Rz.bind_ok]
theorem e_comp' {Θ : VThy} {n : Nat} {η : VEnv} {elt it : Expr} {x : Str} {p q : Pos} {ifs : List Expr} {scope : Scope} {vi : VI} {ds : List PyData} {b m : Bool} (h : iterV (V Θ n).e it η = .ok vi)
    (hc : compV (V Θ n).e (V Θ n).t x ifs elt vi (maskη scope η) vi.ds = .ok ⟨ds, b, m⟩) : stepEV Θ (V Θ n) (.ListComp elt [⟨.Name x p, it, ifs, 0⟩] scope q) η = .ok ⟨.list ds, b, m⟩ := by
  rw [ev_comp, h, Rz.bind_ok, hc, Rz.bind_ok]
noncomputable def encN (k : Nat) : PyData := .int (k : Int)
theorem upD_zero (r : Nat) : upD 0 r = (List.range r).map encN := by
  unfold upD encN
  apply List.map_congr_left
  intro k _
  simp
theorem range_1 {a : Int} {b m : Bool} (h1 : -(small : Int) ≤ a) (h2 : a ≤ small) : rangeV [⟨.int a, b, m⟩] = .ok (upD 0 a.toNat) := if_pos ⟨h1, h2⟩
theorem it_range1 {Θ : VThy} {n : Nat} {η : VEnv} {a : Expr} {p q : Pos} {k : Int} {r : Nat} {b m : Bool} (h : (V Θ n).e a η = .ok ⟨.int k, b, m⟩) (hk : k = r) (hr : r ≤ 4096) : iterV (V Θ n).e (.Call (.Name (Str.ofString "range") p) [a] [] q) η = .ok ⟨(List.range r).map encN, true, true⟩ := by
  subst hk
  rw [it_call, if_pos rfl]
  simp only [argsV, h, Rz.bind_ok]
  rw [range_1 (by unfold small; omega) (by unfold small; omega), Rz.bind_ok, Int.toNat_natCast, upD_zero]

theorem call_ex {Θ : VThy} {n : Nat} {params : List Str} {body : List Stmt} {ds : List PyData} {C : Rz (PyData × Bool) → Prop} (hl : ds.length = params.length)
    (h : Post (seqV (V Θ n).s body (bindPV params ds fun _ => none)) (fun o => ∃ r, C r ∧ retIs r o)) : C (callVF Θ n params body ds) := by
  obtain ⟨r, h1, h2⟩ := h
  rw [call_of (r := r) hl h2]
  exact h1
theorem drop_no {m : Expr → Str → Bool} {ex : Expr} {r : VR} {η : VEnv} {y : Str} {d : PyData} {mi : Bool} (h : η y = some ⟨d, false, mi⟩) : dropV m ex r η y = some ⟨d, false, mi⟩ := by
  unfold dropV
  split
  · exact h
  · dsimp only
    split
    · rw [h]; rfl
    · exact h
theorem drop_none {m : Expr → Str → Bool} {ex : Expr} {r : VR} {η : VEnv} {y : Str} (h : η y = none) : dropV m ex r η y = none := by
  unfold dropV
  split
  · exact h
  · dsimp only
    split
    · rw [h]; rfl
    · exact h
theorem drop_off {m : Expr → Str → Bool} {ex : Expr} {r : VR} {η : VEnv} {y : Str} (h : m ex y = false) : dropV m ex r η y = η y := by
  unfold dropV
  split
  · rfl
  · dsimp only
    rw [h]; rfl
structure Keeps (η η' : VEnv) : Prop where
  some : ∀ {y d mi}, η y = some ⟨d, false, mi⟩ → η' y = some ⟨d, false, mi⟩
  none : ∀ {y}, η y = none → η' y = none
theorem encH_snoc (acc : List (Int × Int × List (Str × Str))) (h : Int × Int × List (Str × Str)) : acc.map encH ++ [encH h] = (acc ++ [h]).map encH := by simp

theorem nm_eq (Θ : VThy) (η : VEnv) (x : Str) (d : PyData) (o m : Bool) : nameV Θ x (updV η x ⟨d, o, m⟩) = .ok ⟨d, scal d, scal d || m⟩ := by
  unfold nameV; rw [upd_eq]
theorem nm_ne (Θ : VThy) (η : VEnv) (a b : String) (e : VE) (h : b ≠ a) : nameV Θ (Str.ofString b) (updV η (Str.ofString a) e) = nameV Θ (Str.ofString b) η := by
  unfold nameV; rw [upd_ne _ _ _ _ h]
theorem nm_drop (Θ : VThy) (η : VEnv) (m : Expr → Str → Bool) (ex : Expr) (r : VR) (y : Str) : nameV Θ y (dropV m ex r η) = nameV Θ y η := by
  unfold dropV
  split
  · rfl
  · unfold nameV
    by_cases hm : m ex y = true
    · simp only [if_pos hm]
      cases η y <;> rfl
    · simp only [if_neg hm]
theorem p_asgE {Θ : VThy} {n : Nat} {η : VEnv} {P : Out → Prop} {rest : List Stmt} {x : Str} {p q : Pos} {v : Expr} {d : PyData} {b m : Bool} (h : stepEV Θ (V Θ n) v η = .ok ⟨d, b, m⟩)
    (k : Post (seqV (V Θ (n + 1)).s rest (updV (dropV (stepMV (V Θ n)) v ⟨d, b, m⟩ η) x ⟨d, b && isLst d, m⟩)) P) : Post (seqV (V Θ (n + 1)).s (.Assign [.Name x p] v q :: rest) η) P := by
  unfold Post at k ⊢
  rw [seqV, V_s, ss_asg, h]
  exact k

structure SetN (Θ : VThy) (η : VEnv) (x : Str) (d : PyData) (b m : Bool) (η' : VEnv) : Prop where
  self : nameV Θ x η' = .ok ⟨d, scal d, scal d || m⟩
  other : ∀ y, y ≠ x → nameV Θ y η' = nameV Θ y η
  own : η' x = some ⟨d, b && isLst d, m⟩
theorem SetN.get {Θ : VThy} {η η' : VEnv} {s y : String} {d : PyData} {b m : Bool} (h : SetN Θ η (Str.ofString s) d b m η') {v : Rz VR} (hv : nameV Θ (Str.ofString y) η = v) (hn : y ≠ s) : nameV Θ (Str.ofString y) η' = v := by
  rw [h.other _ (fun q => hn (ofString_inj.mp q))]; exact hv
theorem p_asgV {Θ : VThy} {n : Nat} {η : VEnv} {P : Out → Prop} {rest : List Stmt} {x : Str} {p q : Pos} {v : Expr} {d : PyData} {b m : Bool} (h : stepEV Θ (V Θ n) v η = .ok ⟨d, b, m⟩)
    (k : ∀ η', SetN Θ η x d b m η' → Post (seqV (V Θ (n + 1)).s rest η') P) : Post (seqV (V Θ (n + 1)).s (.Assign [.Name x p] v q :: rest) η) P := by
  refine p_asgE h (k _ ⟨nm_eq _ _ _ _ _ _, fun y hy => ?_, upd_eq _ _ _⟩)
  unfold nameV
  rw [show updV (dropV (stepMV (V Θ n)) v ⟨d, b, m⟩ η) x ⟨d, b && isLst d, m⟩ y = dropV (stepMV (V Θ n)) v ⟨d, b, m⟩ η y from if_neg hy]
  exact nm_drop Θ η _ _ _ y
end Mine

end

section
set_option autoImplicit false
namespace Mine
open PySem

theorem defAt_of {K : W.Frag} {h : Heap} (X : K.In h) {fa : Addr} {oc : Value} {od : Option Addr} {osl : Array (Option Value)} {fd : FuncData} {params : List Str} {scope : Scope} {body : List Stmt} (ho : K.lookup fa = some ⟨oc, od, .func fd, osl⟩) (hcd : W.codeIn K fd.code fd.qualname = true)
    (hb : fd.body = .stmts body) (hbind : ∀ vals : List Value, vals.length = params.length → bindArgs fd ⟨vals, []⟩ = pure (params.zip vals)) (hclo : fd.closure = []) (hsc : fd.scope = scope) (hgl : fd.globals = mainGlobals) (hbi : fd.builtins = builtinsNs)
    (hn : (params.all fun x => decide (scope.names.lookup x = some .local) || decide (scope.names.lookup x = some .cell)) = true) (hk : (decide (scope.kind = .function) && !scope.isCoroutine && !scope.isGenerator) = true) : DefAt h fa params scope body := by
  simp only [List.all_eq_true, Bool.or_eq_true, decide_eq_true_eq] at hn
  simp only [Bool.and_eq_true, decide_eq_true_eq, Bool.not_eq_true'] at hk
  exact ⟨⟨_, fd, X _ _ ho, rfl, W.codeRec_of X hcd, hb, hbind, hclo, hsc, hgl, hbi⟩, hn, hk.1.1, hk.1.2, hk.2⟩

theorem vals0 {P : List Value → Prop} (h : P []) (vals : List Value) (hl : vals.length = 0) : P vals := by
  cases vals with
  | nil => exact h
  | cons _ _ => cases hl
theorem valsS {n : Nat} {P : List Value → Prop} (h : ∀ a r, r.length = n → P (a :: r)) (vals : List Value) (hl : vals.length = n + 1) : P vals := by
  cases vals with
  | nil => cases hl
  | cons a r => exact h a r (Nat.succ.inj hl)
theorem vals1 {P : List Value → Prop} (h : ∀ a, P [a]) : ∀ vals : List Value, vals.length = 1 → P vals := valsS fun a => vals0 (P := fun r => P (a :: r)) (h a)
theorem vals2 {P : List Value → Prop} (h : ∀ a b, P [a, b]) : ∀ vals : List Value, vals.length = 2 → P vals := valsS fun a => vals1 (P := fun r => P (a :: r)) (h a)
theorem vals3 {P : List Value → Prop} (h : ∀ a b c, P [a, b, c]) : ∀ vals : List Value, vals.length = 3 → P vals := valsS fun a => vals2 (P := fun r => P (a :: r)) (h a)
theorem vals4 {P : List Value → Prop} (h : ∀ a b c d, P [a, b, c, d]) : ∀ vals : List Value, vals.length = 4 → P vals := valsS fun a => vals3 (P := fun r => P (a :: r)) (h a)
theorem vals5 {P : List Value → Prop} (h : ∀ a b c d e, P [a, b, c, d, e]) : ∀ vals : List Value, vals.length = 5 → P vals := valsS fun a => vals4 (P := fun r => P (a :: r)) (h a)
theorem vals6 {P : List Value → Prop} (h : ∀ a b c d e f, P [a, b, c, d, e, f]) : ∀ vals : List Value, vals.length = 6 → P vals := valsS fun a => vals5 (P := fun r => P (a :: r)) (h a)

noncomputable def globA (l : List (Str × AV)) : Str → Option AV := fun x => l.lookup x
noncomputable def globV (l : List (Str × PyData)) : Str → Option PyData := fun x => l.lookup x

theorem repStrs (φ : List Addr) : ∀ (xs : List Str) (vs : List Value), vs.map (fun v => match v with | .str x _ => some x | _ => none) = xs.map some → RepL φ (xs.map .str) vs
  | [], [], _ => .nil
  | [], _ :: _, h => by cases h
  | _ :: _, [], h => by cases h
  | x :: xs, v :: vs, h => by
    simp only [List.map_cons, List.cons.injEq] at h
    cases v with
    | str y t => have := h.1; simp at this; subst this; exact .cons rStr (repStrs φ xs vs h.2)
    | _ => cases h.1
theorem repInts (φ : List Addr) : ∀ (xs : List Int) (vs : List Value), vs.map (fun v => match v with | .int x _ => some x | _ => none) = xs.map some → RepL φ (xs.map .int) vs
  | [], [], _ => .nil
  | [], _ :: _, h => by cases h
  | _ :: _, [], h => by cases h
  | x :: xs, v :: vs, h => by
    simp only [List.map_cons, List.cons.injEq] at h
    cases v with
    | int y t => have := h.1; simp at this; subst this; exact .cons rInt (repInts φ xs vs h.2)
    | _ => cases h.1
theorem den_strs {σ : List AO} : ∀ xs : List Str, (xs.all fun x => PyData.strOk x) = true → DenAll σ (xs.map .str) (xs.map .str) []
  | [], _ => .nil
  | x :: xs, h => by
    simp only [List.all_cons, Bool.and_eq_true] at h
    exact .cons (.str x h.1) (den_strs xs h.2)
section
variable (D : Gd) (f : Str) (n : Nat) (ps : List Str) (s : Scope) (b : List Stmt)
theorem push_prog : (D.push f n ps s b).prog = D.prog := rfl
theorem push_w : (D.push f n ps s b).w = D.w := rfl
theorem push_base : (D.push f n ps s b).base = D.base := rfl
theorem push_os : (D.push f n ps s b).os = D.os := rfl
theorem push_φ₀ : (D.push f n ps s b).φ₀ = D.φ₀ := rfl
theorem push_r : (D.push f n ps s b).r = D.r + 1 := rfl
end
theorem law_top2 {D' : Gd} {prog : Program} {w : World} {Θv : VThy} {σ₀ : List AO} {n : Nat} {fa : Addr} {scope : Scope} {body : List Stmt} (L : Lvl D' Θv σ₀) (e1 : D'.prog = prog) (e2 : D'.w = w) (F : DefAt D'.base fa ["script"] scope body) (hok : okDef Θv n ["script"] scope body = true) {s₁ : Shared}
    (hb : s₁.heap = D'.base) (hs : StoR D'.φ₀ σ₀ s₁.heap) (ht : ∀ o ∈ σ₀, o.isL = false) (hg : s₁.gens = #[]) (ho : s₁.os = D'.os) {P : Params} {a : Addr} {ns : List Int} (hw : W.Well P s₁.heap (.ref a) (W.ofPy (.list (ns.map .int)))) {m : Bool}
    (hlaw : callVF Θv n ["script"] body [.list (ns.map .int)] = .ok (.bool true, m)) (hr : D'.r ≤ 50) {R : Result → Shared → Prop}
    (hR : ∀ s', (∀ b o, s₁.heap.get? b = some o → s'.heap.get? b = some o) → s'.os = s₁.os → s'.gens = #[] → R (.ok (.ret (.bool true))) s') : codeAny (model prog w) callerA (.call (.ref fa) ⟨[.ref a], []⟩) R s₁ := by
  subst e1 e2
  exact law_top L F hok hb hs ht hg ho hw hlaw hr hR
end Mine

end

section
set_option autoImplicit false
set_option maxRecDepth 100000
set_option linter.unusedSimpArgs false
namespace Mine
open PySem
noncomputable abbrev pw := PySem.Challenge.pw_pd_weave_3_05
section
variable {Θ : VThy}

theorem source_of_ok (n : Nat) (ds : List (Str × Str)) (h : ds.length ≤ 2000) : callVF Θ (n + 20) ["script"] (bodyOf pw 2) [.list (ds.map encD)] = .ok (.list ((src ds).map .str), true) := by
  refine call_of rfl ?_
  (unfold bodyOf pw PySem.Challenge.pw_pd_weave_3_05; dsimp only [List.getElem?_cons_succ, List.getElem?_cons_zero])
  refine p_ret (d := .list ((src ds).map .str)) (b := true) (m := true) ?_ rfl
  refine e_comp (vi := ⟨ds.map encD, false, false⟩) (by simp only [List.length_cons, List.length_nil, if_true, V_s, V_e, V_t, V_j, V_ok, ev_cN, ev_cB, ev_cI, ev_cS, ev_nm, ev_bin, ev_tup, ev_lst, ev_sl, ev_ixC, ev_ixN, ev_ixB, ev_ixK, ev_call, ev_comp, tv_not, tv_lt, tv_le, tv_gt, tv_ge, tv_eq, tv_ne, tv_ni, tv_nm, tv_call, jv_c, jv_f, fmt_ok, it_nm, it_bin, it_sub, nameV, upd_eq, upd_ne, Rz.bind_ok, Rz.bind_err, Rz.strict, sq_l, sq_t, List.length_map, List.length_append, scal, Bool.false_or, Bool.true_or, Bool.or_false, Bool.or_true, Bool.and_true, Bool.true_and, Bool.and_false, Bool.false_and, Bool.and_self, Bool.or_self, argsV, pt_n, pt_s, cd_n, cd_1, im_l, im_t, item0, item1, item2, elemV, sc, encD, encDs, encH, ne_str, eq_str, lt_int, le_int, gt_int, ge_int, eq_int, ne_int, eq_strs, ne_strs, ne_str_strs, ne_strs_str, ne_deeds, ne_hunks, notin_kinds, notin_kindsT, add_int, sub_int, mod_int, div3, div4, callV, listV, flat_str, slice_map, append_str, snoc_str, List.all_cons, List.all_nil, List.map_cons, List.map_nil, Bool.false_eq_true, if_false, ofString_inj, ne_eq, String.reduceEq, not_false_eq_true, Bool.not_true, Bool.not_false, reduceCtorEq, and_true, true_and, and_self, small, Nat.reduceAdd, Nat.reduceLeDiff, bindPV, maskη, List.lookup_cons, List.lookup_nil, str_beq, decide_true, decide_false, Option.map_some, Option.some.injEq, encP]; rw [if_pos (by omega)]) ?_
  dsimp only
  rw [compV_map encD (fun d => decide (d.1 ≠ Str.ofString "add")) (fun d => .str d.2) ds]
  · simp [src, Function.comp_def]
  · intro d _
    simp only [List.length_cons, List.length_nil, if_true, V_s, V_e, V_t, V_j, V_ok, ev_cN, ev_cB, ev_cI, ev_cS, ev_nm, ev_bin, ev_tup, ev_lst, ev_sl, ev_ixC, ev_ixN, ev_ixB, ev_ixK, ev_call, ev_comp, tv_not, tv_lt, tv_le, tv_gt, tv_ge, tv_eq, tv_ne, tv_ni, tv_nm, tv_call, jv_c, jv_f, fmt_ok, it_nm, it_bin, it_sub, nameV, upd_eq, upd_ne, Rz.bind_ok, Rz.bind_err, Rz.strict, sq_l, sq_t, List.length_map, List.length_append, scal, Bool.false_or, Bool.true_or, Bool.or_false, Bool.or_true, Bool.and_true, Bool.true_and, Bool.and_false, Bool.false_and, Bool.and_self, Bool.or_self, argsV, pt_n, pt_s, cd_n, cd_1, im_l, im_t, item0, item1, item2, elemV, sc, encD, encDs, encH, ne_str, eq_str, lt_int, le_int, gt_int, ge_int, eq_int, ne_int, eq_strs, ne_strs, ne_str_strs, ne_strs_str, ne_deeds, ne_hunks, notin_kinds, notin_kindsT, add_int, sub_int, mod_int, div3, div4, callV, listV, flat_str, slice_map, append_str, snoc_str, List.all_cons, List.all_nil, List.map_cons, List.map_nil, Bool.false_eq_true, if_false, ofString_inj, ne_eq, String.reduceEq, not_false_eq_true, Bool.not_true, Bool.not_false, reduceCtorEq, and_true, true_and, and_self, small, Nat.reduceAdd, Nat.reduceLeDiff, bindPV, maskη, List.lookup_cons, List.lookup_nil, str_beq, decide_true, decide_false, Option.map_some, Option.some.injEq, encP]
  · intro d _ _
    simp only [List.length_cons, List.length_nil, if_true, V_s, V_e, V_t, V_j, V_ok, ev_cN, ev_cB, ev_cI, ev_cS, ev_nm, ev_bin, ev_tup, ev_lst, ev_sl, ev_ixC, ev_ixN, ev_ixB, ev_ixK, ev_call, ev_comp, tv_not, tv_lt, tv_le, tv_gt, tv_ge, tv_eq, tv_ne, tv_ni, tv_nm, tv_call, jv_c, jv_f, fmt_ok, it_nm, it_bin, it_sub, nameV, upd_eq, upd_ne, Rz.bind_ok, Rz.bind_err, Rz.strict, sq_l, sq_t, List.length_map, List.length_append, scal, Bool.false_or, Bool.true_or, Bool.or_false, Bool.or_true, Bool.and_true, Bool.true_and, Bool.and_false, Bool.false_and, Bool.and_self, Bool.or_self, argsV, pt_n, pt_s, cd_n, cd_1, im_l, im_t, item0, item1, item2, elemV, sc, encD, encDs, encH, ne_str, eq_str, lt_int, le_int, gt_int, ge_int, eq_int, ne_int, eq_strs, ne_strs, ne_str_strs, ne_strs_str, ne_deeds, ne_hunks, notin_kinds, notin_kindsT, add_int, sub_int, mod_int, div3, div4, callV, listV, flat_str, slice_map, append_str, snoc_str, List.all_cons, List.all_nil, List.map_cons, List.map_nil, Bool.false_eq_true, if_false, ofString_inj, ne_eq, String.reduceEq, not_false_eq_true, Bool.not_true, Bool.not_false, reduceCtorEq, and_true, true_and, and_self, small, Nat.reduceAdd, Nat.reduceLeDiff, bindPV, maskη, List.lookup_cons, List.lookup_nil, str_beq, decide_true, decide_false, Option.map_some, Option.some.injEq, encP]

theorem patch_turn (n : Nat) (hlen : Θ.fn (Str.ofString "len") = none) (xs : List Str) (hx : xs.length ≤ 2000) (d : Str × Str) (k : Nat) (s : Nat × List Str) (η : VEnv) (Q : Out → Prop) (hi : PatchInv xs (k + 1) s η)
    (h : TurnOk (Str.ofString "PatchError") (PatchInv xs k) Q (patchT xs d s)) : Post (seqV (V Θ (n + 15)).s (loopOf (bodyOf pw 3) 2) (updV η (Str.ofString "deed") ⟨encD d, false, false⟩)) Q := by
  obtain ⟨ha, hp, hr, hle, hl⟩ := hi
  obtain ⟨p, res⟩ := s
  dsimp only at hp hr hle hl
  unfold loopOf
  (unfold bodyOf pw PySem.Challenge.pw_pd_weave_3_05; dsimp only [List.getElem?_cons_succ, List.getElem?_cons_zero])
  unfold patchT at h
  refine p_if (b := !kn d.1) (by simp only [List.length_cons, List.length_nil, if_true, V_s, V_e, V_t, V_j, V_ok, ev_cN, ev_cB, ev_cI, ev_cS, ev_nm, ev_bin, ev_tup, ev_lst, ev_sl, ev_ixC, ev_ixN, ev_ixB, ev_ixK, ev_call, ev_comp, tv_not, tv_lt, tv_le, tv_gt, tv_ge, tv_eq, tv_ne, tv_ni, tv_nm, tv_call, jv_c, jv_f, fmt_ok, it_nm, it_bin, it_sub, nameV, upd_eq, upd_ne, Rz.bind_ok, Rz.bind_err, Rz.strict, sq_l, sq_t, List.length_map, List.length_append, scal, Bool.false_or, Bool.true_or, Bool.or_false, Bool.or_true, Bool.and_true, Bool.true_and, Bool.and_false, Bool.false_and, Bool.and_self, Bool.or_self, argsV, pt_n, pt_s, cd_n, cd_1, im_l, im_t, item0, item1, item2, elemV, sc, encD, encDs, encH, ne_str, eq_str, lt_int, le_int, gt_int, ge_int, eq_int, ne_int, eq_strs, ne_strs, ne_str_strs, ne_strs_str, ne_deeds, ne_hunks, notin_kinds, notin_kindsT, add_int, sub_int, mod_int, div3, div4, callV, listV, flat_str, slice_map, append_str, snoc_str, List.all_cons, List.all_nil, List.map_cons, List.map_nil, Bool.false_eq_true, if_false, ofString_inj, ne_eq, String.reduceEq, not_false_eq_true, Bool.not_true, Bool.not_false, reduceCtorEq, and_true, true_and, and_self, small, Nat.reduceAdd, Nat.reduceLeDiff, bindPV, maskη, List.lookup_cons, List.lookup_nil, str_beq, decide_true, decide_false, Option.map_some, Option.some.injEq, encP]) (fun hk => ?_) (fun hk => p_end ?_)
  · refine p_raise (by simp only [List.length_cons, List.length_nil, if_true, V_s, V_e, V_t, V_j, V_ok, ev_cN, ev_cB, ev_cI, ev_cS, ev_nm, ev_bin, ev_tup, ev_lst, ev_sl, ev_ixC, ev_ixN, ev_ixB, ev_ixK, ev_call, ev_comp, tv_not, tv_lt, tv_le, tv_gt, tv_ge, tv_eq, tv_ne, tv_ni, tv_nm, tv_call, jv_c, jv_f, fmt_ok, it_nm, it_bin, it_sub, nameV, upd_eq, upd_ne, Rz.bind_ok, Rz.bind_err, Rz.strict, sq_l, sq_t, List.length_map, List.length_append, scal, Bool.false_or, Bool.true_or, Bool.or_false, Bool.or_true, Bool.and_true, Bool.true_and, Bool.and_false, Bool.false_and, Bool.and_self, Bool.or_self, argsV, pt_n, pt_s, cd_n, cd_1, im_l, im_t, item0, item1, item2, elemV, sc, encD, encDs, encH, ne_str, eq_str, lt_int, le_int, gt_int, ge_int, eq_int, ne_int, eq_strs, ne_strs, ne_str_strs, ne_strs_str, ne_deeds, ne_hunks, notin_kinds, notin_kindsT, add_int, sub_int, mod_int, div3, div4, callV, listV, flat_str, slice_map, append_str, snoc_str, List.all_cons, List.all_nil, List.map_cons, List.map_nil, Bool.false_eq_true, if_false, ofString_inj, ne_eq, String.reduceEq, not_false_eq_true, Bool.not_true, Bool.not_false, reduceCtorEq, and_true, true_and, and_self, small, Nat.reduceAdd, Nat.reduceLeDiff, bindPV, maskη, List.lookup_cons, List.lookup_nil, str_beq, decide_true, decide_false, Option.map_some, Option.some.injEq, encP]) ?_
    rw [if_neg (by simpa using hk)] at h
    exact h _ _
  · have hk : kn d.1 = true := by simpa using hk
    rw [if_pos hk] at h
    refine p_if (b := decide (d.1 ≠ Str.ofString "add")) (by simp only [List.length_cons, List.length_nil, if_true, V_s, V_e, V_t, V_j, V_ok, ev_cN, ev_cB, ev_cI, ev_cS, ev_nm, ev_bin, ev_tup, ev_lst, ev_sl, ev_ixC, ev_ixN, ev_ixB, ev_ixK, ev_call, ev_comp, tv_not, tv_lt, tv_le, tv_gt, tv_ge, tv_eq, tv_ne, tv_ni, tv_nm, tv_call, jv_c, jv_f, fmt_ok, it_nm, it_bin, it_sub, nameV, upd_eq, upd_ne, Rz.bind_ok, Rz.bind_err, Rz.strict, sq_l, sq_t, List.length_map, List.length_append, scal, Bool.false_or, Bool.true_or, Bool.or_false, Bool.or_true, Bool.and_true, Bool.true_and, Bool.and_false, Bool.false_and, Bool.and_self, Bool.or_self, argsV, pt_n, pt_s, cd_n, cd_1, im_l, im_t, item0, item1, item2, elemV, sc, encD, encDs, encH, ne_str, eq_str, lt_int, le_int, gt_int, ge_int, eq_int, ne_int, eq_strs, ne_strs, ne_str_strs, ne_strs_str, ne_deeds, ne_hunks, notin_kinds, notin_kindsT, add_int, sub_int, mod_int, div3, div4, callV, listV, flat_str, slice_map, append_str, snoc_str, List.all_cons, List.all_nil, List.map_cons, List.map_nil, Bool.false_eq_true, if_false, ofString_inj, ne_eq, String.reduceEq, not_false_eq_true, Bool.not_true, Bool.not_false, reduceCtorEq, and_true, true_and, and_self, small, Nat.reduceAdd, Nat.reduceLeDiff, bindPV, maskη, List.lookup_cons, List.lookup_nil, str_beq, decide_true, decide_false, Option.map_some, Option.some.injEq, encP]) (fun hadd => ?_) (fun hadd => p_end ?_)
    · have hadd : d.1 ≠ Str.ofString "add" := by simpa using hadd
      rw [if_neg hadd] at h
      dsimp only at h
      refine p_if (b := decide (xs[p]? ≠ some d.2)) ?_ (fun hb => ?_) (fun hb => p_end ?_)
      · refine (t_or2 (a := decide ((xs.length : Int) ≤ p)) (b := decide (xs[p]? ≠ some d.2)) ?_ (fun hlt => ?_)).trans ?_
        · simp only [List.length_cons, List.length_nil, if_true, V_s, V_e, V_t, V_j, V_ok, ev_cN, ev_cB, ev_cI, ev_cS, ev_nm, ev_bin, ev_tup, ev_lst, ev_sl, ev_ixC, ev_ixN, ev_ixB, ev_ixK, ev_call, ev_comp, tv_not, tv_lt, tv_le, tv_gt, tv_ge, tv_eq, tv_ne, tv_ni, tv_nm, tv_call, jv_c, jv_f, fmt_ok, it_nm, it_bin, it_sub, nameV, upd_eq, upd_ne, Rz.bind_ok, Rz.bind_err, Rz.strict, sq_l, sq_t, List.length_map, List.length_append, scal, Bool.false_or, Bool.true_or, Bool.or_false, Bool.or_true, Bool.and_true, Bool.true_and, Bool.and_false, Bool.false_and, Bool.and_self, Bool.or_self, argsV, pt_n, pt_s, cd_n, cd_1, im_l, im_t, item0, item1, item2, elemV, sc, encD, encDs, encH, ne_str, eq_str, lt_int, le_int, gt_int, ge_int, eq_int, ne_int, eq_strs, ne_strs, ne_str_strs, ne_strs_str, ne_deeds, ne_hunks, notin_kinds, notin_kindsT, add_int, sub_int, mod_int, div3, div4, callV, listV, flat_str, slice_map, append_str, snoc_str, List.all_cons, List.all_nil, List.map_cons, List.map_nil, Bool.false_eq_true, if_false, ofString_inj, ne_eq, String.reduceEq, not_false_eq_true, Bool.not_true, Bool.not_false, reduceCtorEq, and_true, true_and, and_self, small, Nat.reduceAdd, Nat.reduceLeDiff, bindPV, maskη, List.lookup_cons, List.lookup_nil, str_beq, decide_true, decide_false, Option.map_some, Option.some.injEq, encP, ha, hp, hlen]
          rw [len_lst (by simp [small]; omega)]
          simp only [List.length_cons, List.length_nil, if_true, V_s, V_e, V_t, V_j, V_ok, ev_cN, ev_cB, ev_cI, ev_cS, ev_nm, ev_bin, ev_tup, ev_lst, ev_sl, ev_ixC, ev_ixN, ev_ixB, ev_ixK, ev_call, ev_comp, tv_not, tv_lt, tv_le, tv_gt, tv_ge, tv_eq, tv_ne, tv_ni, tv_nm, tv_call, jv_c, jv_f, fmt_ok, it_nm, it_bin, it_sub, nameV, upd_eq, upd_ne, Rz.bind_ok, Rz.bind_err, Rz.strict, sq_l, sq_t, List.length_map, List.length_append, scal, Bool.false_or, Bool.true_or, Bool.or_false, Bool.or_true, Bool.and_true, Bool.true_and, Bool.and_false, Bool.false_and, Bool.and_self, Bool.or_self, argsV, pt_n, pt_s, cd_n, cd_1, im_l, im_t, item0, item1, item2, elemV, sc, encD, encDs, encH, ne_str, eq_str, lt_int, le_int, gt_int, ge_int, eq_int, ne_int, eq_strs, ne_strs, ne_str_strs, ne_strs_str, ne_deeds, ne_hunks, notin_kinds, notin_kindsT, add_int, sub_int, mod_int, div3, div4, callV, listV, flat_str, slice_map, append_str, snoc_str, List.all_cons, List.all_nil, List.map_cons, List.map_nil, Bool.false_eq_true, if_false, ofString_inj, ne_eq, String.reduceEq, not_false_eq_true, Bool.not_true, Bool.not_false, reduceCtorEq, and_true, true_and, and_self, small, Nat.reduceAdd, Nat.reduceLeDiff, bindPV, maskη, List.lookup_cons, List.lookup_nil, str_beq, decide_true, decide_false, Option.map_some, Option.some.injEq, encP]
        · have hlt : p < xs.length := by simp at hlt; omega
          simp only [List.length_cons, List.length_nil, if_true, V_s, V_e, V_t, V_j, V_ok, ev_cN, ev_cB, ev_cI, ev_cS, ev_nm, ev_bin, ev_tup, ev_lst, ev_sl, ev_ixC, ev_ixN, ev_ixB, ev_ixK, ev_call, ev_comp, tv_not, tv_lt, tv_le, tv_gt, tv_ge, tv_eq, tv_ne, tv_ni, tv_nm, tv_call, jv_c, jv_f, fmt_ok, it_nm, it_bin, it_sub, nameV, upd_eq, upd_ne, Rz.bind_ok, Rz.bind_err, Rz.strict, sq_l, sq_t, List.length_map, List.length_append, scal, Bool.false_or, Bool.true_or, Bool.or_false, Bool.or_true, Bool.and_true, Bool.true_and, Bool.and_false, Bool.false_and, Bool.and_self, Bool.or_self, argsV, pt_n, pt_s, cd_n, cd_1, im_l, im_t, item0, item1, item2, elemV, sc, encD, encDs, encH, ne_str, eq_str, lt_int, le_int, gt_int, ge_int, eq_int, ne_int, eq_strs, ne_strs, ne_str_strs, ne_strs_str, ne_deeds, ne_hunks, notin_kinds, notin_kindsT, add_int, sub_int, mod_int, div3, div4, callV, listV, flat_str, slice_map, append_str, snoc_str, List.all_cons, List.all_nil, List.map_cons, List.map_nil, Bool.false_eq_true, if_false, ofString_inj, ne_eq, String.reduceEq, not_false_eq_true, Bool.not_true, Bool.not_false, reduceCtorEq, and_true, true_and, and_self, small, Nat.reduceAdd, Nat.reduceLeDiff, bindPV, maskη, List.lookup_cons, List.lookup_nil, str_beq, decide_true, decide_false, Option.map_some, Option.some.injEq, encP, ha, hp]
          rw [item_at (d := .str xs[p]) (by simp [hlt]) (by omega) (by omega)]
          simp only [List.length_cons, List.length_nil, if_true, V_s, V_e, V_t, V_j, V_ok, ev_cN, ev_cB, ev_cI, ev_cS, ev_nm, ev_bin, ev_tup, ev_lst, ev_sl, ev_ixC, ev_ixN, ev_ixB, ev_ixK, ev_call, ev_comp, tv_not, tv_lt, tv_le, tv_gt, tv_ge, tv_eq, tv_ne, tv_ni, tv_nm, tv_call, jv_c, jv_f, fmt_ok, it_nm, it_bin, it_sub, nameV, upd_eq, upd_ne, Rz.bind_ok, Rz.bind_err, Rz.strict, sq_l, sq_t, List.length_map, List.length_append, scal, Bool.false_or, Bool.true_or, Bool.or_false, Bool.or_true, Bool.and_true, Bool.true_and, Bool.and_false, Bool.false_and, Bool.and_self, Bool.or_self, argsV, pt_n, pt_s, cd_n, cd_1, im_l, im_t, item0, item1, item2, elemV, sc, encD, encDs, encH, ne_str, eq_str, lt_int, le_int, gt_int, ge_int, eq_int, ne_int, eq_strs, ne_strs, ne_str_strs, ne_strs_str, ne_deeds, ne_hunks, notin_kinds, notin_kindsT, add_int, sub_int, mod_int, div3, div4, callV, listV, flat_str, slice_map, append_str, snoc_str, List.all_cons, List.all_nil, List.map_cons, List.map_nil, Bool.false_eq_true, if_false, ofString_inj, ne_eq, String.reduceEq, not_false_eq_true, Bool.not_true, Bool.not_false, reduceCtorEq, and_true, true_and, and_self, small, Nat.reduceAdd, Nat.reduceLeDiff, bindPV, maskη, List.lookup_cons, List.lookup_nil, str_beq, decide_true, decide_false, Option.map_some, Option.some.injEq, encP, List.getElem?_eq_getElem hlt, Option.some.injEq]
        · by_cases hlt : p < xs.length
          · rw [decide_eq_false (p := (xs.length : Int) ≤ p) (by omega), Bool.false_or]
          · rw [List.getElem?_eq_none (by omega)]
            simp
      · have hb : xs[p]? ≠ some d.2 := by simpa using hb
        rw [if_neg hb] at h
        refine p_raise ?_ (h _ _)
        simp only [List.length_cons, List.length_nil, if_true, V_s, V_e, V_t, V_j, V_ok, ev_cN, ev_cB, ev_cI, ev_cS, ev_nm, ev_bin, ev_tup, ev_lst, ev_sl, ev_ixC, ev_ixN, ev_ixB, ev_ixK, ev_call, ev_comp, tv_not, tv_lt, tv_le, tv_gt, tv_ge, tv_eq, tv_ne, tv_ni, tv_nm, tv_call, jv_c, jv_f, fmt_ok, it_nm, it_bin, it_sub, nameV, upd_eq, upd_ne, Rz.bind_ok, Rz.bind_err, Rz.strict, sq_l, sq_t, List.length_map, List.length_append, scal, Bool.false_or, Bool.true_or, Bool.or_false, Bool.or_true, Bool.and_true, Bool.true_and, Bool.and_false, Bool.false_and, Bool.and_self, Bool.or_self, argsV, pt_n, pt_s, cd_n, cd_1, im_l, im_t, item0, item1, item2, elemV, sc, encD, encDs, encH, ne_str, eq_str, lt_int, le_int, gt_int, ge_int, eq_int, ne_int, eq_strs, ne_strs, ne_str_strs, ne_strs_str, ne_deeds, ne_hunks, notin_kinds, notin_kindsT, add_int, sub_int, mod_int, div3, div4, callV, listV, flat_str, slice_map, append_str, snoc_str, List.all_cons, List.all_nil, List.map_cons, List.map_nil, Bool.false_eq_true, if_false, ofString_inj, ne_eq, String.reduceEq, not_false_eq_true, Bool.not_true, Bool.not_false, reduceCtorEq, and_true, true_and, and_self, small, Nat.reduceAdd, Nat.reduceLeDiff, bindPV, maskη, List.lookup_cons, List.lookup_nil, str_beq, decide_true, decide_false, Option.map_some, Option.some.injEq, encP, hp]
        simp; omega
      · have hb : xs[p]? = some d.2 := by simpa using hb
        rw [if_pos hb] at h
        have hlt := (List.getElem?_eq_some_iff.mp hb).1
        refine p_aug (e := ⟨.int p, false, true⟩) (r := ⟨.int 1, true, true⟩) (d := .int (p + 1 : Nat)) (by simp only [List.length_cons, List.length_nil, if_true, V_s, V_e, V_t, V_j, V_ok, ev_cN, ev_cB, ev_cI, ev_cS, ev_nm, ev_bin, ev_tup, ev_lst, ev_sl, ev_ixC, ev_ixN, ev_ixB, ev_ixK, ev_call, ev_comp, tv_not, tv_lt, tv_le, tv_gt, tv_ge, tv_eq, tv_ne, tv_ni, tv_nm, tv_call, jv_c, jv_f, fmt_ok, it_nm, it_bin, it_sub, nameV, upd_eq, upd_ne, Rz.bind_ok, Rz.bind_err, Rz.strict, sq_l, sq_t, List.length_map, List.length_append, scal, Bool.false_or, Bool.true_or, Bool.or_false, Bool.or_true, Bool.and_true, Bool.true_and, Bool.and_false, Bool.false_and, Bool.and_self, Bool.or_self, argsV, pt_n, pt_s, cd_n, cd_1, im_l, im_t, item0, item1, item2, elemV, sc, encD, encDs, encH, ne_str, eq_str, lt_int, le_int, gt_int, ge_int, eq_int, ne_int, eq_strs, ne_strs, ne_str_strs, ne_strs_str, ne_deeds, ne_hunks, notin_kinds, notin_kindsT, add_int, sub_int, mod_int, div3, div4, callV, listV, flat_str, slice_map, append_str, snoc_str, List.all_cons, List.all_nil, List.map_cons, List.map_nil, Bool.false_eq_true, if_false, ofString_inj, ne_eq, String.reduceEq, not_false_eq_true, Bool.not_true, Bool.not_false, reduceCtorEq, and_true, true_and, and_self, small, Nat.reduceAdd, Nat.reduceLeDiff, bindPV, maskη, List.lookup_cons, List.lookup_nil, str_beq, decide_true, decide_false, Option.map_some, Option.some.injEq, encP, hp]) (by simp only [List.length_cons, List.length_nil, if_true, V_s, V_e, V_t, V_j, V_ok, ev_cN, ev_cB, ev_cI, ev_cS, ev_nm, ev_bin, ev_tup, ev_lst, ev_sl, ev_ixC, ev_ixN, ev_ixB, ev_ixK, ev_call, ev_comp, tv_not, tv_lt, tv_le, tv_gt, tv_ge, tv_eq, tv_ne, tv_ni, tv_nm, tv_call, jv_c, jv_f, fmt_ok, it_nm, it_bin, it_sub, nameV, upd_eq, upd_ne, Rz.bind_ok, Rz.bind_err, Rz.strict, sq_l, sq_t, List.length_map, List.length_append, scal, Bool.false_or, Bool.true_or, Bool.or_false, Bool.or_true, Bool.and_true, Bool.true_and, Bool.and_false, Bool.false_and, Bool.and_self, Bool.or_self, argsV, pt_n, pt_s, cd_n, cd_1, im_l, im_t, item0, item1, item2, elemV, sc, encD, encDs, encH, ne_str, eq_str, lt_int, le_int, gt_int, ge_int, eq_int, ne_int, eq_strs, ne_strs, ne_str_strs, ne_strs_str, ne_deeds, ne_hunks, notin_kinds, notin_kindsT, add_int, sub_int, mod_int, div3, div4, callV, listV, flat_str, slice_map, append_str, snoc_str, List.all_cons, List.all_nil, List.map_cons, List.map_nil, Bool.false_eq_true, if_false, ofString_inj, ne_eq, String.reduceEq, not_false_eq_true, Bool.not_true, Bool.not_false, reduceCtorEq, and_true, true_and, and_self, small, Nat.reduceAdd, Nat.reduceLeDiff, bindPV, maskη, List.lookup_cons, List.lookup_nil, str_beq, decide_true, decide_false, Option.map_some, Option.some.injEq, encP]) (by simp [augV]) ?_
        refine p_end ?_
        by_cases hdel : d.1 = Str.ofString "del"
        · rw [if_pos hdel] at h
          refine p_if (b := false) (by simp only [List.length_cons, List.length_nil, if_true, V_s, V_e, V_t, V_j, V_ok, ev_cN, ev_cB, ev_cI, ev_cS, ev_nm, ev_bin, ev_tup, ev_lst, ev_sl, ev_ixC, ev_ixN, ev_ixB, ev_ixK, ev_call, ev_comp, tv_not, tv_lt, tv_le, tv_gt, tv_ge, tv_eq, tv_ne, tv_ni, tv_nm, tv_call, jv_c, jv_f, fmt_ok, it_nm, it_bin, it_sub, nameV, upd_eq, upd_ne, Rz.bind_ok, Rz.bind_err, Rz.strict, sq_l, sq_t, List.length_map, List.length_append, scal, Bool.false_or, Bool.true_or, Bool.or_false, Bool.or_true, Bool.and_true, Bool.true_and, Bool.and_false, Bool.false_and, Bool.and_self, Bool.or_self, argsV, pt_n, pt_s, cd_n, cd_1, im_l, im_t, item0, item1, item2, elemV, sc, encD, encDs, encH, ne_str, eq_str, lt_int, le_int, gt_int, ge_int, eq_int, ne_int, eq_strs, ne_strs, ne_str_strs, ne_strs_str, ne_deeds, ne_hunks, notin_kinds, notin_kindsT, add_int, sub_int, mod_int, div3, div4, callV, listV, flat_str, slice_map, append_str, snoc_str, List.all_cons, List.all_nil, List.map_cons, List.map_nil, Bool.false_eq_true, if_false, ofString_inj, ne_eq, String.reduceEq, not_false_eq_true, Bool.not_true, Bool.not_false, reduceCtorEq, and_true, true_and, and_self, small, Nat.reduceAdd, Nat.reduceLeDiff, bindPV, maskη, List.lookup_cons, List.lookup_nil, str_beq, decide_true, decide_false, Option.map_some, Option.some.injEq, encP, hdel] <;> simp) (fun q => by cases q) (fun _ => p_end (h _ ?_))
          exact ⟨by simp only [List.length_cons, List.length_nil, if_true, V_s, V_e, V_t, V_j, V_ok, ev_cN, ev_cB, ev_cI, ev_cS, ev_nm, ev_bin, ev_tup, ev_lst, ev_sl, ev_ixC, ev_ixN, ev_ixB, ev_ixK, ev_call, ev_comp, tv_not, tv_lt, tv_le, tv_gt, tv_ge, tv_eq, tv_ne, tv_ni, tv_nm, tv_call, jv_c, jv_f, fmt_ok, it_nm, it_bin, it_sub, nameV, upd_eq, upd_ne, Rz.bind_ok, Rz.bind_err, Rz.strict, sq_l, sq_t, List.length_map, List.length_append, scal, Bool.false_or, Bool.true_or, Bool.or_false, Bool.or_true, Bool.and_true, Bool.true_and, Bool.and_false, Bool.false_and, Bool.and_self, Bool.or_self, argsV, pt_n, pt_s, cd_n, cd_1, im_l, im_t, item0, item1, item2, elemV, sc, encD, encDs, encH, ne_str, eq_str, lt_int, le_int, gt_int, ge_int, eq_int, ne_int, eq_strs, ne_strs, ne_str_strs, ne_strs_str, ne_deeds, ne_hunks, notin_kinds, notin_kindsT, add_int, sub_int, mod_int, div3, div4, callV, listV, flat_str, slice_map, append_str, snoc_str, List.all_cons, List.all_nil, List.map_cons, List.map_nil, Bool.false_eq_true, if_false, ofString_inj, ne_eq, String.reduceEq, not_false_eq_true, Bool.not_true, Bool.not_false, reduceCtorEq, and_true, true_and, and_self, small, Nat.reduceAdd, Nat.reduceLeDiff, bindPV, maskη, List.lookup_cons, List.lookup_nil, str_beq, decide_true, decide_false, Option.map_some, Option.some.injEq, encP, ha], by simp only [List.length_cons, List.length_nil, if_true, V_s, V_e, V_t, V_j, V_ok, ev_cN, ev_cB, ev_cI, ev_cS, ev_nm, ev_bin, ev_tup, ev_lst, ev_sl, ev_ixC, ev_ixN, ev_ixB, ev_ixK, ev_call, ev_comp, tv_not, tv_lt, tv_le, tv_gt, tv_ge, tv_eq, tv_ne, tv_ni, tv_nm, tv_call, jv_c, jv_f, fmt_ok, it_nm, it_bin, it_sub, nameV, upd_eq, upd_ne, Rz.bind_ok, Rz.bind_err, Rz.strict, sq_l, sq_t, List.length_map, List.length_append, scal, Bool.false_or, Bool.true_or, Bool.or_false, Bool.or_true, Bool.and_true, Bool.true_and, Bool.and_false, Bool.false_and, Bool.and_self, Bool.or_self, argsV, pt_n, pt_s, cd_n, cd_1, im_l, im_t, item0, item1, item2, elemV, sc, encD, encDs, encH, ne_str, eq_str, lt_int, le_int, gt_int, ge_int, eq_int, ne_int, eq_strs, ne_strs, ne_str_strs, ne_strs_str, ne_deeds, ne_hunks, notin_kinds, notin_kindsT, add_int, sub_int, mod_int, div3, div4, callV, listV, flat_str, slice_map, append_str, snoc_str, List.all_cons, List.all_nil, List.map_cons, List.map_nil, Bool.false_eq_true, if_false, ofString_inj, ne_eq, String.reduceEq, not_false_eq_true, Bool.not_true, Bool.not_false, reduceCtorEq, and_true, true_and, and_self, small, Nat.reduceAdd, Nat.reduceLeDiff, bindPV, maskη, List.lookup_cons, List.lookup_nil, str_beq, decide_true, decide_false, Option.map_some, Option.some.injEq, encP], by simp only [List.length_cons, List.length_nil, if_true, V_s, V_e, V_t, V_j, V_ok, ev_cN, ev_cB, ev_cI, ev_cS, ev_nm, ev_bin, ev_tup, ev_lst, ev_sl, ev_ixC, ev_ixN, ev_ixB, ev_ixK, ev_call, ev_comp, tv_not, tv_lt, tv_le, tv_gt, tv_ge, tv_eq, tv_ne, tv_ni, tv_nm, tv_call, jv_c, jv_f, fmt_ok, it_nm, it_bin, it_sub, nameV, upd_eq, upd_ne, Rz.bind_ok, Rz.bind_err, Rz.strict, sq_l, sq_t, List.length_map, List.length_append, scal, Bool.false_or, Bool.true_or, Bool.or_false, Bool.or_true, Bool.and_true, Bool.true_and, Bool.and_false, Bool.false_and, Bool.and_self, Bool.or_self, argsV, pt_n, pt_s, cd_n, cd_1, im_l, im_t, item0, item1, item2, elemV, sc, encD, encDs, encH, ne_str, eq_str, lt_int, le_int, gt_int, ge_int, eq_int, ne_int, eq_strs, ne_strs, ne_str_strs, ne_strs_str, ne_deeds, ne_hunks, notin_kinds, notin_kindsT, add_int, sub_int, mod_int, div3, div4, callV, listV, flat_str, slice_map, append_str, snoc_str, List.all_cons, List.all_nil, List.map_cons, List.map_nil, Bool.false_eq_true, if_false, ofString_inj, ne_eq, String.reduceEq, not_false_eq_true, Bool.not_true, Bool.not_false, reduceCtorEq, and_true, true_and, and_self, small, Nat.reduceAdd, Nat.reduceLeDiff, bindPV, maskη, List.lookup_cons, List.lookup_nil, str_beq, decide_true, decide_false, Option.map_some, Option.some.injEq, encP, hr], hlt, by dsimp only; omega⟩
        · rw [if_neg hdel] at h
          refine p_if (b := true) (by simp only [List.length_cons, List.length_nil, if_true, V_s, V_e, V_t, V_j, V_ok, ev_cN, ev_cB, ev_cI, ev_cS, ev_nm, ev_bin, ev_tup, ev_lst, ev_sl, ev_ixC, ev_ixN, ev_ixB, ev_ixK, ev_call, ev_comp, tv_not, tv_lt, tv_le, tv_gt, tv_ge, tv_eq, tv_ne, tv_ni, tv_nm, tv_call, jv_c, jv_f, fmt_ok, it_nm, it_bin, it_sub, nameV, upd_eq, upd_ne, Rz.bind_ok, Rz.bind_err, Rz.strict, sq_l, sq_t, List.length_map, List.length_append, scal, Bool.false_or, Bool.true_or, Bool.or_false, Bool.or_true, Bool.and_true, Bool.true_and, Bool.and_false, Bool.false_and, Bool.and_self, Bool.or_self, argsV, pt_n, pt_s, cd_n, cd_1, im_l, im_t, item0, item1, item2, elemV, sc, encD, encDs, encH, ne_str, eq_str, lt_int, le_int, gt_int, ge_int, eq_int, ne_int, eq_strs, ne_strs, ne_str_strs, ne_strs_str, ne_deeds, ne_hunks, notin_kinds, notin_kindsT, add_int, sub_int, mod_int, div3, div4, callV, listV, flat_str, slice_map, append_str, snoc_str, List.all_cons, List.all_nil, List.map_cons, List.map_nil, Bool.false_eq_true, if_false, ofString_inj, ne_eq, String.reduceEq, not_false_eq_true, Bool.not_true, Bool.not_false, reduceCtorEq, and_true, true_and, and_self, small, Nat.reduceAdd, Nat.reduceLeDiff, bindPV, maskη, List.lookup_cons, List.lookup_nil, str_beq, decide_true, decide_false, Option.map_some, Option.some.injEq, encP, hdel] <;> simp) (fun _ => ?_) (fun q => by cases q)
          refine p_app (ds := res.map .str) (m := true) (d := .str d.2) (b := true) (mi := true) (by simp only [List.length_cons, List.length_nil, if_true, V_s, V_e, V_t, V_j, V_ok, ev_cN, ev_cB, ev_cI, ev_cS, ev_nm, ev_bin, ev_tup, ev_lst, ev_sl, ev_ixC, ev_ixN, ev_ixB, ev_ixK, ev_call, ev_comp, tv_not, tv_lt, tv_le, tv_gt, tv_ge, tv_eq, tv_ne, tv_ni, tv_nm, tv_call, jv_c, jv_f, fmt_ok, it_nm, it_bin, it_sub, nameV, upd_eq, upd_ne, Rz.bind_ok, Rz.bind_err, Rz.strict, sq_l, sq_t, List.length_map, List.length_append, scal, Bool.false_or, Bool.true_or, Bool.or_false, Bool.or_true, Bool.and_true, Bool.true_and, Bool.and_false, Bool.false_and, Bool.and_self, Bool.or_self, argsV, pt_n, pt_s, cd_n, cd_1, im_l, im_t, item0, item1, item2, elemV, sc, encD, encDs, encH, ne_str, eq_str, lt_int, le_int, gt_int, ge_int, eq_int, ne_int, eq_strs, ne_strs, ne_str_strs, ne_strs_str, ne_deeds, ne_hunks, notin_kinds, notin_kindsT, add_int, sub_int, mod_int, div3, div4, callV, listV, flat_str, slice_map, append_str, snoc_str, List.all_cons, List.all_nil, List.map_cons, List.map_nil, Bool.false_eq_true, if_false, ofString_inj, ne_eq, String.reduceEq, not_false_eq_true, Bool.not_true, Bool.not_false, reduceCtorEq, and_true, true_and, and_self, small, Nat.reduceAdd, Nat.reduceLeDiff, bindPV, maskη, List.lookup_cons, List.lookup_nil, str_beq, decide_true, decide_false, Option.map_some, Option.some.injEq, encP, hr]) (by simp only [List.length_cons, List.length_nil, if_true, V_s, V_e, V_t, V_j, V_ok, ev_cN, ev_cB, ev_cI, ev_cS, ev_nm, ev_bin, ev_tup, ev_lst, ev_sl, ev_ixC, ev_ixN, ev_ixB, ev_ixK, ev_call, ev_comp, tv_not, tv_lt, tv_le, tv_gt, tv_ge, tv_eq, tv_ne, tv_ni, tv_nm, tv_call, jv_c, jv_f, fmt_ok, it_nm, it_bin, it_sub, nameV, upd_eq, upd_ne, Rz.bind_ok, Rz.bind_err, Rz.strict, sq_l, sq_t, List.length_map, List.length_append, scal, Bool.false_or, Bool.true_or, Bool.or_false, Bool.or_true, Bool.and_true, Bool.true_and, Bool.and_false, Bool.false_and, Bool.and_self, Bool.or_self, argsV, pt_n, pt_s, cd_n, cd_1, im_l, im_t, item0, item1, item2, elemV, sc, encD, encDs, encH, ne_str, eq_str, lt_int, le_int, gt_int, ge_int, eq_int, ne_int, eq_strs, ne_strs, ne_str_strs, ne_strs_str, ne_deeds, ne_hunks, notin_kinds, notin_kindsT, add_int, sub_int, mod_int, div3, div4, callV, listV, flat_str, slice_map, append_str, snoc_str, List.all_cons, List.all_nil, List.map_cons, List.map_nil, Bool.false_eq_true, if_false, ofString_inj, ne_eq, String.reduceEq, not_false_eq_true, Bool.not_true, Bool.not_false, reduceCtorEq, and_true, true_and, and_self, small, Nat.reduceAdd, Nat.reduceLeDiff, bindPV, maskη, List.lookup_cons, List.lookup_nil, str_beq, decide_true, decide_false, Option.map_some, Option.some.injEq, encP]) rfl (by simp [small]; omega) ?_
          refine p_end (h _ ?_)
          exact ⟨by simp only [List.length_cons, List.length_nil, if_true, V_s, V_e, V_t, V_j, V_ok, ev_cN, ev_cB, ev_cI, ev_cS, ev_nm, ev_bin, ev_tup, ev_lst, ev_sl, ev_ixC, ev_ixN, ev_ixB, ev_ixK, ev_call, ev_comp, tv_not, tv_lt, tv_le, tv_gt, tv_ge, tv_eq, tv_ne, tv_ni, tv_nm, tv_call, jv_c, jv_f, fmt_ok, it_nm, it_bin, it_sub, nameV, upd_eq, upd_ne, Rz.bind_ok, Rz.bind_err, Rz.strict, sq_l, sq_t, List.length_map, List.length_append, scal, Bool.false_or, Bool.true_or, Bool.or_false, Bool.or_true, Bool.and_true, Bool.true_and, Bool.and_false, Bool.false_and, Bool.and_self, Bool.or_self, argsV, pt_n, pt_s, cd_n, cd_1, im_l, im_t, item0, item1, item2, elemV, sc, encD, encDs, encH, ne_str, eq_str, lt_int, le_int, gt_int, ge_int, eq_int, ne_int, eq_strs, ne_strs, ne_str_strs, ne_strs_str, ne_deeds, ne_hunks, notin_kinds, notin_kindsT, add_int, sub_int, mod_int, div3, div4, callV, listV, flat_str, slice_map, append_str, snoc_str, List.all_cons, List.all_nil, List.map_cons, List.map_nil, Bool.false_eq_true, if_false, ofString_inj, ne_eq, String.reduceEq, not_false_eq_true, Bool.not_true, Bool.not_false, reduceCtorEq, and_true, true_and, and_self, small, Nat.reduceAdd, Nat.reduceLeDiff, bindPV, maskη, List.lookup_cons, List.lookup_nil, str_beq, decide_true, decide_false, Option.map_some, Option.some.injEq, encP, ha], by simp only [List.length_cons, List.length_nil, if_true, V_s, V_e, V_t, V_j, V_ok, ev_cN, ev_cB, ev_cI, ev_cS, ev_nm, ev_bin, ev_tup, ev_lst, ev_sl, ev_ixC, ev_ixN, ev_ixB, ev_ixK, ev_call, ev_comp, tv_not, tv_lt, tv_le, tv_gt, tv_ge, tv_eq, tv_ne, tv_ni, tv_nm, tv_call, jv_c, jv_f, fmt_ok, it_nm, it_bin, it_sub, nameV, upd_eq, upd_ne, Rz.bind_ok, Rz.bind_err, Rz.strict, sq_l, sq_t, List.length_map, List.length_append, scal, Bool.false_or, Bool.true_or, Bool.or_false, Bool.or_true, Bool.and_true, Bool.true_and, Bool.and_false, Bool.false_and, Bool.and_self, Bool.or_self, argsV, pt_n, pt_s, cd_n, cd_1, im_l, im_t, item0, item1, item2, elemV, sc, encD, encDs, encH, ne_str, eq_str, lt_int, le_int, gt_int, ge_int, eq_int, ne_int, eq_strs, ne_strs, ne_str_strs, ne_strs_str, ne_deeds, ne_hunks, notin_kinds, notin_kindsT, add_int, sub_int, mod_int, div3, div4, callV, listV, flat_str, slice_map, append_str, snoc_str, List.all_cons, List.all_nil, List.map_cons, List.map_nil, Bool.false_eq_true, if_false, ofString_inj, ne_eq, String.reduceEq, not_false_eq_true, Bool.not_true, Bool.not_false, reduceCtorEq, and_true, true_and, and_self, small, Nat.reduceAdd, Nat.reduceLeDiff, bindPV, maskη, List.lookup_cons, List.lookup_nil, str_beq, decide_true, decide_false, Option.map_some, Option.some.injEq, encP], by simp only [List.length_cons, List.length_nil, if_true, V_s, V_e, V_t, V_j, V_ok, ev_cN, ev_cB, ev_cI, ev_cS, ev_nm, ev_bin, ev_tup, ev_lst, ev_sl, ev_ixC, ev_ixN, ev_ixB, ev_ixK, ev_call, ev_comp, tv_not, tv_lt, tv_le, tv_gt, tv_ge, tv_eq, tv_ne, tv_ni, tv_nm, tv_call, jv_c, jv_f, fmt_ok, it_nm, it_bin, it_sub, nameV, upd_eq, upd_ne, Rz.bind_ok, Rz.bind_err, Rz.strict, sq_l, sq_t, List.length_map, List.length_append, scal, Bool.false_or, Bool.true_or, Bool.or_false, Bool.or_true, Bool.and_true, Bool.true_and, Bool.and_false, Bool.false_and, Bool.and_self, Bool.or_self, argsV, pt_n, pt_s, cd_n, cd_1, im_l, im_t, item0, item1, item2, elemV, sc, encD, encDs, encH, ne_str, eq_str, lt_int, le_int, gt_int, ge_int, eq_int, ne_int, eq_strs, ne_strs, ne_str_strs, ne_strs_str, ne_deeds, ne_hunks, notin_kinds, notin_kindsT, add_int, sub_int, mod_int, div3, div4, callV, listV, flat_str, slice_map, append_str, snoc_str, List.all_cons, List.all_nil, List.map_cons, List.map_nil, Bool.false_eq_true, if_false, ofString_inj, ne_eq, String.reduceEq, not_false_eq_true, Bool.not_true, Bool.not_false, reduceCtorEq, and_true, true_and, and_self, small, Nat.reduceAdd, Nat.reduceLeDiff, bindPV, maskη, List.lookup_cons, List.lookup_nil, str_beq, decide_true, decide_false, Option.map_some, Option.some.injEq, encP], hlt, by simp; omega⟩
    · have hadd : d.1 = Str.ofString "add" := by simpa using hadd
      rw [if_pos hadd] at h
      refine p_if (b := true) (by simp only [List.length_cons, List.length_nil, if_true, V_s, V_e, V_t, V_j, V_ok, ev_cN, ev_cB, ev_cI, ev_cS, ev_nm, ev_bin, ev_tup, ev_lst, ev_sl, ev_ixC, ev_ixN, ev_ixB, ev_ixK, ev_call, ev_comp, tv_not, tv_lt, tv_le, tv_gt, tv_ge, tv_eq, tv_ne, tv_ni, tv_nm, tv_call, jv_c, jv_f, fmt_ok, it_nm, it_bin, it_sub, nameV, upd_eq, upd_ne, Rz.bind_ok, Rz.bind_err, Rz.strict, sq_l, sq_t, List.length_map, List.length_append, scal, Bool.false_or, Bool.true_or, Bool.or_false, Bool.or_true, Bool.and_true, Bool.true_and, Bool.and_false, Bool.false_and, Bool.and_self, Bool.or_self, argsV, pt_n, pt_s, cd_n, cd_1, im_l, im_t, item0, item1, item2, elemV, sc, encD, encDs, encH, ne_str, eq_str, lt_int, le_int, gt_int, ge_int, eq_int, ne_int, eq_strs, ne_strs, ne_str_strs, ne_strs_str, ne_deeds, ne_hunks, notin_kinds, notin_kindsT, add_int, sub_int, mod_int, div3, div4, callV, listV, flat_str, slice_map, append_str, snoc_str, List.all_cons, List.all_nil, List.map_cons, List.map_nil, Bool.false_eq_true, if_false, ofString_inj, ne_eq, String.reduceEq, not_false_eq_true, Bool.not_true, Bool.not_false, reduceCtorEq, and_true, true_and, and_self, small, Nat.reduceAdd, Nat.reduceLeDiff, bindPV, maskη, List.lookup_cons, List.lookup_nil, str_beq, decide_true, decide_false, Option.map_some, Option.some.injEq, encP, hadd] <;> simp) (fun _ => ?_) (fun q => by cases q)
      refine p_app (ds := res.map .str) (m := true) (d := .str d.2) (b := true) (mi := true) (by simp only [List.length_cons, List.length_nil, if_true, V_s, V_e, V_t, V_j, V_ok, ev_cN, ev_cB, ev_cI, ev_cS, ev_nm, ev_bin, ev_tup, ev_lst, ev_sl, ev_ixC, ev_ixN, ev_ixB, ev_ixK, ev_call, ev_comp, tv_not, tv_lt, tv_le, tv_gt, tv_ge, tv_eq, tv_ne, tv_ni, tv_nm, tv_call, jv_c, jv_f, fmt_ok, it_nm, it_bin, it_sub, nameV, upd_eq, upd_ne, Rz.bind_ok, Rz.bind_err, Rz.strict, sq_l, sq_t, List.length_map, List.length_append, scal, Bool.false_or, Bool.true_or, Bool.or_false, Bool.or_true, Bool.and_true, Bool.true_and, Bool.and_false, Bool.false_and, Bool.and_self, Bool.or_self, argsV, pt_n, pt_s, cd_n, cd_1, im_l, im_t, item0, item1, item2, elemV, sc, encD, encDs, encH, ne_str, eq_str, lt_int, le_int, gt_int, ge_int, eq_int, ne_int, eq_strs, ne_strs, ne_str_strs, ne_strs_str, ne_deeds, ne_hunks, notin_kinds, notin_kindsT, add_int, sub_int, mod_int, div3, div4, callV, listV, flat_str, slice_map, append_str, snoc_str, List.all_cons, List.all_nil, List.map_cons, List.map_nil, Bool.false_eq_true, if_false, ofString_inj, ne_eq, String.reduceEq, not_false_eq_true, Bool.not_true, Bool.not_false, reduceCtorEq, and_true, true_and, and_self, small, Nat.reduceAdd, Nat.reduceLeDiff, bindPV, maskη, List.lookup_cons, List.lookup_nil, str_beq, decide_true, decide_false, Option.map_some, Option.some.injEq, encP, hr]) (by simp only [List.length_cons, List.length_nil, if_true, V_s, V_e, V_t, V_j, V_ok, ev_cN, ev_cB, ev_cI, ev_cS, ev_nm, ev_bin, ev_tup, ev_lst, ev_sl, ev_ixC, ev_ixN, ev_ixB, ev_ixK, ev_call, ev_comp, tv_not, tv_lt, tv_le, tv_gt, tv_ge, tv_eq, tv_ne, tv_ni, tv_nm, tv_call, jv_c, jv_f, fmt_ok, it_nm, it_bin, it_sub, nameV, upd_eq, upd_ne, Rz.bind_ok, Rz.bind_err, Rz.strict, sq_l, sq_t, List.length_map, List.length_append, scal, Bool.false_or, Bool.true_or, Bool.or_false, Bool.or_true, Bool.and_true, Bool.true_and, Bool.and_false, Bool.false_and, Bool.and_self, Bool.or_self, argsV, pt_n, pt_s, cd_n, cd_1, im_l, im_t, item0, item1, item2, elemV, sc, encD, encDs, encH, ne_str, eq_str, lt_int, le_int, gt_int, ge_int, eq_int, ne_int, eq_strs, ne_strs, ne_str_strs, ne_strs_str, ne_deeds, ne_hunks, notin_kinds, notin_kindsT, add_int, sub_int, mod_int, div3, div4, callV, listV, flat_str, slice_map, append_str, snoc_str, List.all_cons, List.all_nil, List.map_cons, List.map_nil, Bool.false_eq_true, if_false, ofString_inj, ne_eq, String.reduceEq, not_false_eq_true, Bool.not_true, Bool.not_false, reduceCtorEq, and_true, true_and, and_self, small, Nat.reduceAdd, Nat.reduceLeDiff, bindPV, maskη, List.lookup_cons, List.lookup_nil, str_beq, decide_true, decide_false, Option.map_some, Option.some.injEq, encP]) rfl (by simp [small]; omega) ?_
      refine p_end (h _ ?_)
      exact ⟨by simp only [List.length_cons, List.length_nil, if_true, V_s, V_e, V_t, V_j, V_ok, ev_cN, ev_cB, ev_cI, ev_cS, ev_nm, ev_bin, ev_tup, ev_lst, ev_sl, ev_ixC, ev_ixN, ev_ixB, ev_ixK, ev_call, ev_comp, tv_not, tv_lt, tv_le, tv_gt, tv_ge, tv_eq, tv_ne, tv_ni, tv_nm, tv_call, jv_c, jv_f, fmt_ok, it_nm, it_bin, it_sub, nameV, upd_eq, upd_ne, Rz.bind_ok, Rz.bind_err, Rz.strict, sq_l, sq_t, List.length_map, List.length_append, scal, Bool.false_or, Bool.true_or, Bool.or_false, Bool.or_true, Bool.and_true, Bool.true_and, Bool.and_false, Bool.false_and, Bool.and_self, Bool.or_self, argsV, pt_n, pt_s, cd_n, cd_1, im_l, im_t, item0, item1, item2, elemV, sc, encD, encDs, encH, ne_str, eq_str, lt_int, le_int, gt_int, ge_int, eq_int, ne_int, eq_strs, ne_strs, ne_str_strs, ne_strs_str, ne_deeds, ne_hunks, notin_kinds, notin_kindsT, add_int, sub_int, mod_int, div3, div4, callV, listV, flat_str, slice_map, append_str, snoc_str, List.all_cons, List.all_nil, List.map_cons, List.map_nil, Bool.false_eq_true, if_false, ofString_inj, ne_eq, String.reduceEq, not_false_eq_true, Bool.not_true, Bool.not_false, reduceCtorEq, and_true, true_and, and_self, small, Nat.reduceAdd, Nat.reduceLeDiff, bindPV, maskη, List.lookup_cons, List.lookup_nil, str_beq, decide_true, decide_false, Option.map_some, Option.some.injEq, encP, ha], by simp only [List.length_cons, List.length_nil, if_true, V_s, V_e, V_t, V_j, V_ok, ev_cN, ev_cB, ev_cI, ev_cS, ev_nm, ev_bin, ev_tup, ev_lst, ev_sl, ev_ixC, ev_ixN, ev_ixB, ev_ixK, ev_call, ev_comp, tv_not, tv_lt, tv_le, tv_gt, tv_ge, tv_eq, tv_ne, tv_ni, tv_nm, tv_call, jv_c, jv_f, fmt_ok, it_nm, it_bin, it_sub, nameV, upd_eq, upd_ne, Rz.bind_ok, Rz.bind_err, Rz.strict, sq_l, sq_t, List.length_map, List.length_append, scal, Bool.false_or, Bool.true_or, Bool.or_false, Bool.or_true, Bool.and_true, Bool.true_and, Bool.and_false, Bool.false_and, Bool.and_self, Bool.or_self, argsV, pt_n, pt_s, cd_n, cd_1, im_l, im_t, item0, item1, item2, elemV, sc, encD, encDs, encH, ne_str, eq_str, lt_int, le_int, gt_int, ge_int, eq_int, ne_int, eq_strs, ne_strs, ne_str_strs, ne_strs_str, ne_deeds, ne_hunks, notin_kinds, notin_kindsT, add_int, sub_int, mod_int, div3, div4, callV, listV, flat_str, slice_map, append_str, snoc_str, List.all_cons, List.all_nil, List.map_cons, List.map_nil, Bool.false_eq_true, if_false, ofString_inj, ne_eq, String.reduceEq, not_false_eq_true, Bool.not_true, Bool.not_false, reduceCtorEq, and_true, true_and, and_self, small, Nat.reduceAdd, Nat.reduceLeDiff, bindPV, maskη, List.lookup_cons, List.lookup_nil, str_beq, decide_true, decide_false, Option.map_some, Option.some.injEq, encP, hp], by simp only [List.length_cons, List.length_nil, if_true, V_s, V_e, V_t, V_j, V_ok, ev_cN, ev_cB, ev_cI, ev_cS, ev_nm, ev_bin, ev_tup, ev_lst, ev_sl, ev_ixC, ev_ixN, ev_ixB, ev_ixK, ev_call, ev_comp, tv_not, tv_lt, tv_le, tv_gt, tv_ge, tv_eq, tv_ne, tv_ni, tv_nm, tv_call, jv_c, jv_f, fmt_ok, it_nm, it_bin, it_sub, nameV, upd_eq, upd_ne, Rz.bind_ok, Rz.bind_err, Rz.strict, sq_l, sq_t, List.length_map, List.length_append, scal, Bool.false_or, Bool.true_or, Bool.or_false, Bool.or_true, Bool.and_true, Bool.true_and, Bool.and_false, Bool.false_and, Bool.and_self, Bool.or_self, argsV, pt_n, pt_s, cd_n, cd_1, im_l, im_t, item0, item1, item2, elemV, sc, encD, encDs, encH, ne_str, eq_str, lt_int, le_int, gt_int, ge_int, eq_int, ne_int, eq_strs, ne_strs, ne_str_strs, ne_strs_str, ne_deeds, ne_hunks, notin_kinds, notin_kindsT, add_int, sub_int, mod_int, div3, div4, callV, listV, flat_str, slice_map, append_str, snoc_str, List.all_cons, List.all_nil, List.map_cons, List.map_nil, Bool.false_eq_true, if_false, ofString_inj, ne_eq, String.reduceEq, not_false_eq_true, Bool.not_true, Bool.not_false, reduceCtorEq, and_true, true_and, and_self, small, Nat.reduceAdd, Nat.reduceLeDiff, bindPV, maskη, List.lookup_cons, List.lookup_nil, str_beq, decide_true, decide_false, Option.map_some, Option.some.injEq, encP], hle, by simp; omega⟩

theorem patch_ok (n : Nat) (hlen : Θ.fn (Str.ofString "len") = none) (xs : List Str) (hx : xs.length ≤ 1000) (ds : List (Str × Str)) (hd : ds.length ≤ 1000) :
    callVF Θ (n + 20) ["a", "script"] (bodyOf pw 3) [.list (xs.map .str), .list (ds.map encD)] = patchR xs ds := by
  refine call_of rfl ?_
  have turn := fun d k s η Q => patch_turn (Θ := Θ) (n + 4) hlen xs (by omega) d k s η Q
  unfold loopOf at turn
  (unfold bodyOf pw PySem.Challenge.pw_pd_weave_3_05 at turn; dsimp only [List.getElem?_cons_succ, List.getElem?_cons_zero] at turn)
  (unfold bodyOf pw PySem.Challenge.pw_pd_weave_3_05; dsimp only [List.getElem?_cons_succ, List.getElem?_cons_zero])
  refine p_asgL (ds := []) (m := true) (by simp only [List.length_cons, List.length_nil, if_true, V_s, V_e, V_t, V_j, V_ok, ev_cN, ev_cB, ev_cI, ev_cS, ev_nm, ev_bin, ev_tup, ev_lst, ev_sl, ev_ixC, ev_ixN, ev_ixB, ev_ixK, ev_call, ev_comp, tv_not, tv_lt, tv_le, tv_gt, tv_ge, tv_eq, tv_ne, tv_ni, tv_nm, tv_call, jv_c, jv_f, fmt_ok, it_nm, it_bin, it_sub, nameV, upd_eq, upd_ne, Rz.bind_ok, Rz.bind_err, Rz.strict, sq_l, sq_t, List.length_map, List.length_append, scal, Bool.false_or, Bool.true_or, Bool.or_false, Bool.or_true, Bool.and_true, Bool.true_and, Bool.and_false, Bool.false_and, Bool.and_self, Bool.or_self, argsV, pt_n, pt_s, cd_n, cd_1, im_l, im_t, item0, item1, item2, elemV, sc, encD, encDs, encH, ne_str, eq_str, lt_int, le_int, gt_int, ge_int, eq_int, ne_int, eq_strs, ne_strs, ne_str_strs, ne_strs_str, ne_deeds, ne_hunks, notin_kinds, notin_kindsT, add_int, sub_int, mod_int, div3, div4, callV, listV, flat_str, slice_map, append_str, snoc_str, List.all_cons, List.all_nil, List.map_cons, List.map_nil, Bool.false_eq_true, if_false, ofString_inj, ne_eq, String.reduceEq, not_false_eq_true, Bool.not_true, Bool.not_false, reduceCtorEq, and_true, true_and, and_self, small, Nat.reduceAdd, Nat.reduceLeDiff, bindPV, maskη, List.lookup_cons, List.lookup_nil, str_beq, decide_true, decide_false, Option.map_some, Option.some.injEq, encP]) ?_
  refine p_asgS (d := .int 0) (b := true) (m := true) (by simp only [List.length_cons, List.length_nil, if_true, V_s, V_e, V_t, V_j, V_ok, ev_cN, ev_cB, ev_cI, ev_cS, ev_nm, ev_bin, ev_tup, ev_lst, ev_sl, ev_ixC, ev_ixN, ev_ixB, ev_ixK, ev_call, ev_comp, tv_not, tv_lt, tv_le, tv_gt, tv_ge, tv_eq, tv_ne, tv_ni, tv_nm, tv_call, jv_c, jv_f, fmt_ok, it_nm, it_bin, it_sub, nameV, upd_eq, upd_ne, Rz.bind_ok, Rz.bind_err, Rz.strict, sq_l, sq_t, List.length_map, List.length_append, scal, Bool.false_or, Bool.true_or, Bool.or_false, Bool.or_true, Bool.and_true, Bool.true_and, Bool.and_false, Bool.false_and, Bool.and_self, Bool.or_self, argsV, pt_n, pt_s, cd_n, cd_1, im_l, im_t, item0, item1, item2, elemV, sc, encD, encDs, encH, ne_str, eq_str, lt_int, le_int, gt_int, ge_int, eq_int, ne_int, eq_strs, ne_strs, ne_str_strs, ne_strs_str, ne_deeds, ne_hunks, notin_kinds, notin_kindsT, add_int, sub_int, mod_int, div3, div4, callV, listV, flat_str, slice_map, append_str, snoc_str, List.all_cons, List.all_nil, List.map_cons, List.map_nil, Bool.false_eq_true, if_false, ofString_inj, ne_eq, String.reduceEq, not_false_eq_true, Bool.not_true, Bool.not_false, reduceCtorEq, and_true, true_and, and_self, small, Nat.reduceAdd, Nat.reduceLeDiff, bindPV, maskη, List.lookup_cons, List.lookup_nil, str_beq, decide_true, decide_false, Option.map_some, Option.some.injEq, encP]) rfl ?_
  refine p_for (ds := ds.map encD) (bo := false) (mi := false) (by simp only [List.length_cons, List.length_nil, if_true, V_s, V_e, V_t, V_j, V_ok, ev_cN, ev_cB, ev_cI, ev_cS, ev_nm, ev_bin, ev_tup, ev_lst, ev_sl, ev_ixC, ev_ixN, ev_ixB, ev_ixK, ev_call, ev_comp, tv_not, tv_lt, tv_le, tv_gt, tv_ge, tv_eq, tv_ne, tv_ni, tv_nm, tv_call, jv_c, jv_f, fmt_ok, it_nm, it_bin, it_sub, nameV, upd_eq, upd_ne, Rz.bind_ok, Rz.bind_err, Rz.strict, sq_l, sq_t, List.length_map, List.length_append, scal, Bool.false_or, Bool.true_or, Bool.or_false, Bool.or_true, Bool.and_true, Bool.true_and, Bool.and_false, Bool.false_and, Bool.and_self, Bool.or_self, argsV, pt_n, pt_s, cd_n, cd_1, im_l, im_t, item0, item1, item2, elemV, sc, encD, encDs, encH, ne_str, eq_str, lt_int, le_int, gt_int, ge_int, eq_int, ne_int, eq_strs, ne_strs, ne_str_strs, ne_strs_str, ne_deeds, ne_hunks, notin_kinds, notin_kindsT, add_int, sub_int, mod_int, div3, div4, callV, listV, flat_str, slice_map, append_str, snoc_str, List.all_cons, List.all_nil, List.map_cons, List.map_nil, Bool.false_eq_true, if_false, ofString_inj, ne_eq, String.reduceEq, not_false_eq_true, Bool.not_true, Bool.not_false, reduceCtorEq, and_true, true_and, and_self, small, Nat.reduceAdd, Nat.reduceLeDiff, bindPV, maskη, List.lookup_cons, List.lookup_nil, str_beq, decide_true, decide_false, Option.map_some, Option.some.injEq, encP]; rw [if_pos (by omega)]) ?_
  refine loop_ind encD (PatchInv xs) (patchT xs) (Str.ofString "PatchError") ds (fun d k s η Q _ hi h => turn d k s η Q hi h) (0, []) _ _ ?_ ?_
  · exact ⟨drop_no (by simp only [upd_ne, upd_eq, bindPV, ne_eq, String.reduceEq, not_false_eq_true, scal]), drop_no (by simp only [upd_eq]; rfl), (drop_off (by simp only [V_m, mv_nm, ofString_inj, String.reduceEq, decide_false])).trans (by simp only [upd_ne, upd_eq, ne_eq, String.reduceEq, not_false_eq_true]; rfl), Nat.zero_le _, by simp; omega⟩
  · rw [patch_fold]
    simp only [List.drop_zero, Nat.zero_add, List.nil_append]
    have hl := src_len ds
    unfold patchR
    by_cases hc : ds.all (fun d => kn d.1) = true ∧ src ds <+: xs
    · rw [if_pos hc]
      intro η' hi
      obtain ⟨ha, hp, hr, _, _⟩ := hi
      dsimp only at hp hr
      refine then_next ?_
      refine p_if (b := decide ((src ds).length ≠ xs.length)) ?_ (fun hb => ?_) (fun hb => p_end ?_)
      · simp only [List.length_cons, List.length_nil, if_true, V_s, V_e, V_t, V_j, V_ok, ev_cN, ev_cB, ev_cI, ev_cS, ev_nm, ev_bin, ev_tup, ev_lst, ev_sl, ev_ixC, ev_ixN, ev_ixB, ev_ixK, ev_call, ev_comp, tv_not, tv_lt, tv_le, tv_gt, tv_ge, tv_eq, tv_ne, tv_ni, tv_nm, tv_call, jv_c, jv_f, fmt_ok, it_nm, it_bin, it_sub, nameV, upd_eq, upd_ne, Rz.bind_ok, Rz.bind_err, Rz.strict, sq_l, sq_t, List.length_map, List.length_append, scal, Bool.false_or, Bool.true_or, Bool.or_false, Bool.or_true, Bool.and_true, Bool.true_and, Bool.and_false, Bool.false_and, Bool.and_self, Bool.or_self, argsV, pt_n, pt_s, cd_n, cd_1, im_l, im_t, item0, item1, item2, elemV, sc, encD, encDs, encH, ne_str, eq_str, lt_int, le_int, gt_int, ge_int, eq_int, ne_int, eq_strs, ne_strs, ne_str_strs, ne_strs_str, ne_deeds, ne_hunks, notin_kinds, notin_kindsT, add_int, sub_int, mod_int, div3, div4, callV, listV, flat_str, slice_map, append_str, snoc_str, List.all_cons, List.all_nil, List.map_cons, List.map_nil, Bool.false_eq_true, if_false, ofString_inj, ne_eq, String.reduceEq, not_false_eq_true, Bool.not_true, Bool.not_false, reduceCtorEq, and_true, true_and, and_self, small, Nat.reduceAdd, Nat.reduceLeDiff, bindPV, maskη, List.lookup_cons, List.lookup_nil, str_beq, decide_true, decide_false, Option.map_some, Option.some.injEq, encP, ha, hp, hlen]
        rw [len_lst (by simp [small]; omega)]
        simp only [List.length_cons, List.length_nil, if_true, V_s, V_e, V_t, V_j, V_ok, ev_cN, ev_cB, ev_cI, ev_cS, ev_nm, ev_bin, ev_tup, ev_lst, ev_sl, ev_ixC, ev_ixN, ev_ixB, ev_ixK, ev_call, ev_comp, tv_not, tv_lt, tv_le, tv_gt, tv_ge, tv_eq, tv_ne, tv_ni, tv_nm, tv_call, jv_c, jv_f, fmt_ok, it_nm, it_bin, it_sub, nameV, upd_eq, upd_ne, Rz.bind_ok, Rz.bind_err, Rz.strict, sq_l, sq_t, List.length_map, List.length_append, scal, Bool.false_or, Bool.true_or, Bool.or_false, Bool.or_true, Bool.and_true, Bool.true_and, Bool.and_false, Bool.false_and, Bool.and_self, Bool.or_self, argsV, pt_n, pt_s, cd_n, cd_1, im_l, im_t, item0, item1, item2, elemV, sc, encD, encDs, encH, ne_str, eq_str, lt_int, le_int, gt_int, ge_int, eq_int, ne_int, eq_strs, ne_strs, ne_str_strs, ne_strs_str, ne_deeds, ne_hunks, notin_kinds, notin_kindsT, add_int, sub_int, mod_int, div3, div4, callV, listV, flat_str, slice_map, append_str, snoc_str, List.all_cons, List.all_nil, List.map_cons, List.map_nil, Bool.false_eq_true, if_false, ofString_inj, ne_eq, String.reduceEq, not_false_eq_true, Bool.not_true, Bool.not_false, reduceCtorEq, and_true, true_and, and_self, small, Nat.reduceAdd, Nat.reduceLeDiff, bindPV, maskη, List.lookup_cons, List.lookup_nil, str_beq, decide_true, decide_false, Option.map_some, Option.some.injEq, encP, Int.natCast_inj]
      · have hb : (src ds).length ≠ xs.length := by simpa using hb
        refine p_raise ?_ ?_
        · simp only [List.length_cons, List.length_nil, if_true, V_s, V_e, V_t, V_j, V_ok, ev_cN, ev_cB, ev_cI, ev_cS, ev_nm, ev_bin, ev_tup, ev_lst, ev_sl, ev_ixC, ev_ixN, ev_ixB, ev_ixK, ev_call, ev_comp, tv_not, tv_lt, tv_le, tv_gt, tv_ge, tv_eq, tv_ne, tv_ni, tv_nm, tv_call, jv_c, jv_f, fmt_ok, it_nm, it_bin, it_sub, nameV, upd_eq, upd_ne, Rz.bind_ok, Rz.bind_err, Rz.strict, sq_l, sq_t, List.length_map, List.length_append, scal, Bool.false_or, Bool.true_or, Bool.or_false, Bool.or_true, Bool.and_true, Bool.true_and, Bool.and_false, Bool.false_and, Bool.and_self, Bool.or_self, argsV, pt_n, pt_s, cd_n, cd_1, im_l, im_t, item0, item1, item2, elemV, sc, encD, encDs, encH, ne_str, eq_str, lt_int, le_int, gt_int, ge_int, eq_int, ne_int, eq_strs, ne_strs, ne_str_strs, ne_strs_str, ne_deeds, ne_hunks, notin_kinds, notin_kindsT, add_int, sub_int, mod_int, div3, div4, callV, listV, flat_str, slice_map, append_str, snoc_str, List.all_cons, List.all_nil, List.map_cons, List.map_nil, Bool.false_eq_true, if_false, ofString_inj, ne_eq, String.reduceEq, not_false_eq_true, Bool.not_true, Bool.not_false, reduceCtorEq, and_true, true_and, and_self, small, Nat.reduceAdd, Nat.reduceLeDiff, bindPV, maskη, List.lookup_cons, List.lookup_nil, str_beq, decide_true, decide_false, Option.map_some, Option.some.injEq, encP, hp]
          simp; omega
        · show _ = _
          rw [if_neg]
          rintro ⟨_, e⟩
          exact hb (by rw [e])
      · have hb : (src ds).length = xs.length := by simpa using hb
        refine p_ret (d := .list ((tgt ds).map .str)) (b := false) (m := true) (by simp only [List.length_cons, List.length_nil, if_true, V_s, V_e, V_t, V_j, V_ok, ev_cN, ev_cB, ev_cI, ev_cS, ev_nm, ev_bin, ev_tup, ev_lst, ev_sl, ev_ixC, ev_ixN, ev_ixB, ev_ixK, ev_call, ev_comp, tv_not, tv_lt, tv_le, tv_gt, tv_ge, tv_eq, tv_ne, tv_ni, tv_nm, tv_call, jv_c, jv_f, fmt_ok, it_nm, it_bin, it_sub, nameV, upd_eq, upd_ne, Rz.bind_ok, Rz.bind_err, Rz.strict, sq_l, sq_t, List.length_map, List.length_append, scal, Bool.false_or, Bool.true_or, Bool.or_false, Bool.or_true, Bool.and_true, Bool.true_and, Bool.and_false, Bool.false_and, Bool.and_self, Bool.or_self, argsV, pt_n, pt_s, cd_n, cd_1, im_l, im_t, item0, item1, item2, elemV, sc, encD, encDs, encH, ne_str, eq_str, lt_int, le_int, gt_int, ge_int, eq_int, ne_int, eq_strs, ne_strs, ne_str_strs, ne_strs_str, ne_deeds, ne_hunks, notin_kinds, notin_kindsT, add_int, sub_int, mod_int, div3, div4, callV, listV, flat_str, slice_map, append_str, snoc_str, List.all_cons, List.all_nil, List.map_cons, List.map_nil, Bool.false_eq_true, if_false, ofString_inj, ne_eq, String.reduceEq, not_false_eq_true, Bool.not_true, Bool.not_false, reduceCtorEq, and_true, true_and, and_self, small, Nat.reduceAdd, Nat.reduceLeDiff, bindPV, maskη, List.lookup_cons, List.lookup_nil, str_beq, decide_true, decide_false, Option.map_some, Option.some.injEq, encP, hr]) ?_
        show _ = _
        rw [if_pos ⟨hc.1, pre_full hc.2 hb⟩]
    · rw [if_neg hc]
      intro o η'
      show _ = _
      rw [if_neg]
      rintro ⟨h1, h2⟩
      exact hc ⟨h1, by rw [h2]; exact List.prefix_refl _⟩

structure CoreFns (Θ : VThy) : Prop where
  len : Θ.fn (Str.ofString "len") = none
  list : Θ.fn (Str.ofString "list") = none
  min : Θ.fn (Str.ofString "min") = none
  max : Θ.fn (Str.ofString "max") = none
  source : ∃ φ, Θ.fn (Str.ofString "source_of") = some φ ∧ ∀ ds : List (Str × Str), ds.length ≤ 1000 → φ [.list (ds.map encD)] = .ok (.list ((src ds).map .str), true)
  patch : ∃ φ, Θ.fn (Str.ofString "patch") = some φ ∧ ∀ (xs : List Str) (ds : List (Str × Str)), xs.length ≤ 1000 → ds.length ≤ 1000 → φ [.list (xs.map .str), .list (ds.map encD)] = patchR xs ds

theorem apply_turn (n : Nat) (C : CoreFns Θ) (xs : List Str) (hx : xs.length ≤ 100) (d : Int × Int × List (Str × Str)) (hd : d.2.2.length ≤ 100) (k : Nat) (s : Nat × List Str) (η : VEnv) (Q : Out → Prop) (hi : ApplyInv xs (k + 1) s η)
    (h : TurnOk (Str.ofString "PatchError") (ApplyInv xs k) Q (applyT xs d s)) : Post (seqV (V Θ (n + 15)).s (loopOf (bodyOf pw 4) 2) (updV η (Str.ofString "hunk") ⟨encH d, false, false⟩)) Q := by
  obtain ⟨ha, hp, hr, hle, hl⟩ := hi
  obtain ⟨φs, hs1, hs2⟩ := C.source
  obtain ⟨φp, hp1, hp2⟩ := C.patch
  obtain ⟨p, res⟩ := s
  obtain ⟨s, t, ds⟩ := d
  dsimp only at hp hr hle hl hd
  unfold loopOf
  (unfold bodyOf pw PySem.Challenge.pw_pd_weave_3_05; dsimp only [List.getElem?_cons_succ, List.getElem?_cons_zero])
  unfold applyT at h
  dsimp only at h
  refine p_if (b := decide (s < p) || decide ((xs.length : Int) < s)) ?_ (fun hk => ?_) (fun hk => p_end ?_)
  · refine t_or2 (by simp only [List.length_cons, List.length_nil, if_true, V_s, V_e, V_t, V_j, V_ok, ev_cN, ev_cB, ev_cI, ev_cS, ev_nm, ev_bin, ev_tup, ev_lst, ev_sl, ev_ixC, ev_ixN, ev_ixB, ev_ixK, ev_call, ev_comp, tv_not, tv_lt, tv_le, tv_gt, tv_ge, tv_eq, tv_ne, tv_ni, tv_nm, tv_call, jv_c, jv_f, fmt_ok, it_nm, it_bin, it_sub, nameV, upd_eq, upd_ne, Rz.bind_ok, Rz.bind_err, Rz.strict, sq_l, sq_t, List.length_map, List.length_append, scal, Bool.false_or, Bool.true_or, Bool.or_false, Bool.or_true, Bool.and_true, Bool.true_and, Bool.and_false, Bool.false_and, Bool.and_self, Bool.or_self, argsV, pt_n, pt_s, cd_n, cd_1, im_l, im_t, item0, item1, item2, elemV, sc, encD, encDs, encH, ne_str, eq_str, lt_int, le_int, gt_int, ge_int, eq_int, ne_int, eq_strs, ne_strs, ne_str_strs, ne_strs_str, ne_deeds, ne_hunks, notin_kinds, notin_kindsT, add_int, sub_int, mod_int, div3, div4, callV, listV, flat_str, slice_map, append_str, snoc_str, List.all_cons, List.all_nil, List.map_cons, List.map_nil, Bool.false_eq_true, if_false, ofString_inj, ne_eq, String.reduceEq, not_false_eq_true, Bool.not_true, Bool.not_false, reduceCtorEq, and_true, true_and, and_self, small, Nat.reduceAdd, Nat.reduceLeDiff, bindPV, maskη, List.lookup_cons, List.lookup_nil, str_beq, decide_true, decide_false, Option.map_some, Option.some.injEq, encP, hp]) (fun _ => ?_)
    simp only [List.length_cons, List.length_nil, if_true, V_s, V_e, V_t, V_j, V_ok, ev_cN, ev_cB, ev_cI, ev_cS, ev_nm, ev_bin, ev_tup, ev_lst, ev_sl, ev_ixC, ev_ixN, ev_ixB, ev_ixK, ev_call, ev_comp, tv_not, tv_lt, tv_le, tv_gt, tv_ge, tv_eq, tv_ne, tv_ni, tv_nm, tv_call, jv_c, jv_f, fmt_ok, it_nm, it_bin, it_sub, nameV, upd_eq, upd_ne, Rz.bind_ok, Rz.bind_err, Rz.strict, sq_l, sq_t, List.length_map, List.length_append, scal, Bool.false_or, Bool.true_or, Bool.or_false, Bool.or_true, Bool.and_true, Bool.true_and, Bool.and_false, Bool.false_and, Bool.and_self, Bool.or_self, argsV, pt_n, pt_s, cd_n, cd_1, im_l, im_t, item0, item1, item2, elemV, sc, encD, encDs, encH, ne_str, eq_str, lt_int, le_int, gt_int, ge_int, eq_int, ne_int, eq_strs, ne_strs, ne_str_strs, ne_strs_str, ne_deeds, ne_hunks, notin_kinds, notin_kindsT, add_int, sub_int, mod_int, div3, div4, callV, listV, flat_str, slice_map, append_str, snoc_str, List.all_cons, List.all_nil, List.map_cons, List.map_nil, Bool.false_eq_true, if_false, ofString_inj, ne_eq, String.reduceEq, not_false_eq_true, Bool.not_true, Bool.not_false, reduceCtorEq, and_true, true_and, and_self, small, Nat.reduceAdd, Nat.reduceLeDiff, bindPV, maskη, List.lookup_cons, List.lookup_nil, str_beq, decide_true, decide_false, Option.map_some, Option.some.injEq, encP, ha, C.len]
    rw [len_lst (by simp [small]; omega)]
    simp only [List.length_cons, List.length_nil, if_true, V_s, V_e, V_t, V_j, V_ok, ev_cN, ev_cB, ev_cI, ev_cS, ev_nm, ev_bin, ev_tup, ev_lst, ev_sl, ev_ixC, ev_ixN, ev_ixB, ev_ixK, ev_call, ev_comp, tv_not, tv_lt, tv_le, tv_gt, tv_ge, tv_eq, tv_ne, tv_ni, tv_nm, tv_call, jv_c, jv_f, fmt_ok, it_nm, it_bin, it_sub, nameV, upd_eq, upd_ne, Rz.bind_ok, Rz.bind_err, Rz.strict, sq_l, sq_t, List.length_map, List.length_append, scal, Bool.false_or, Bool.true_or, Bool.or_false, Bool.or_true, Bool.and_true, Bool.true_and, Bool.and_false, Bool.false_and, Bool.and_self, Bool.or_self, argsV, pt_n, pt_s, cd_n, cd_1, im_l, im_t, item0, item1, item2, elemV, sc, encD, encDs, encH, ne_str, eq_str, lt_int, le_int, gt_int, ge_int, eq_int, ne_int, eq_strs, ne_strs, ne_str_strs, ne_strs_str, ne_deeds, ne_hunks, notin_kinds, notin_kindsT, add_int, sub_int, mod_int, div3, div4, callV, listV, flat_str, slice_map, append_str, snoc_str, List.all_cons, List.all_nil, List.map_cons, List.map_nil, Bool.false_eq_true, if_false, ofString_inj, ne_eq, String.reduceEq, not_false_eq_true, Bool.not_true, Bool.not_false, reduceCtorEq, and_true, true_and, and_self, small, Nat.reduceAdd, Nat.reduceLeDiff, bindPV, maskη, List.lookup_cons, List.lookup_nil, str_beq, decide_true, decide_false, Option.map_some, Option.some.injEq, encP]
  · refine p_raise (by simp only [List.length_cons, List.length_nil, if_true, V_s, V_e, V_t, V_j, V_ok, ev_cN, ev_cB, ev_cI, ev_cS, ev_nm, ev_bin, ev_tup, ev_lst, ev_sl, ev_ixC, ev_ixN, ev_ixB, ev_ixK, ev_call, ev_comp, tv_not, tv_lt, tv_le, tv_gt, tv_ge, tv_eq, tv_ne, tv_ni, tv_nm, tv_call, jv_c, jv_f, fmt_ok, it_nm, it_bin, it_sub, nameV, upd_eq, upd_ne, Rz.bind_ok, Rz.bind_err, Rz.strict, sq_l, sq_t, List.length_map, List.length_append, scal, Bool.false_or, Bool.true_or, Bool.or_false, Bool.or_true, Bool.and_true, Bool.true_and, Bool.and_false, Bool.false_and, Bool.and_self, Bool.or_self, argsV, pt_n, pt_s, cd_n, cd_1, im_l, im_t, item0, item1, item2, elemV, sc, encD, encDs, encH, ne_str, eq_str, lt_int, le_int, gt_int, ge_int, eq_int, ne_int, eq_strs, ne_strs, ne_str_strs, ne_strs_str, ne_deeds, ne_hunks, notin_kinds, notin_kindsT, add_int, sub_int, mod_int, div3, div4, callV, listV, flat_str, slice_map, append_str, snoc_str, List.all_cons, List.all_nil, List.map_cons, List.map_nil, Bool.false_eq_true, if_false, ofString_inj, ne_eq, String.reduceEq, not_false_eq_true, Bool.not_true, Bool.not_false, reduceCtorEq, and_true, true_and, and_self, small, Nat.reduceAdd, Nat.reduceLeDiff, bindPV, maskη, List.lookup_cons, List.lookup_nil, str_beq, decide_true, decide_false, Option.map_some, Option.some.injEq, encP]) ?_
    rw [if_pos (by simpa using hk)] at h
    exact h _ _
  · simp only [Bool.or_eq_false_iff, decide_eq_false_iff_not] at hk
    rw [if_neg (by omega)] at h
    obtain ⟨q, rfl⟩ : ∃ q : Nat, s = q := ⟨s.toNat, by omega⟩
    simp only [Int.toNat_natCast] at h
    have hq : q ≤ xs.length := by omega
    have hcut : ((xs.drop p).take (q - p)).length ≤ 100 := by simp; omega
    refine p_asgL (ds := (res ++ (xs.drop p).take (q - p)).map .str) (m := true) ?_ ?_
    · simp only [List.length_cons, List.length_nil, if_true, V_s, V_e, V_t, V_j, V_ok, ev_cN, ev_cB, ev_cI, ev_cS, ev_nm, ev_bin, ev_tup, ev_lst, ev_sl, ev_ixC, ev_ixN, ev_ixB, ev_ixK, ev_call, ev_comp, tv_not, tv_lt, tv_le, tv_gt, tv_ge, tv_eq, tv_ne, tv_ni, tv_nm, tv_call, jv_c, jv_f, fmt_ok, it_nm, it_bin, it_sub, nameV, upd_eq, upd_ne, Rz.bind_ok, Rz.bind_err, Rz.strict, sq_l, sq_t, List.length_map, List.length_append, scal, Bool.false_or, Bool.true_or, Bool.or_false, Bool.or_true, Bool.and_true, Bool.true_and, Bool.and_false, Bool.false_and, Bool.and_self, Bool.or_self, argsV, pt_n, pt_s, cd_n, cd_1, im_l, im_t, item0, item1, item2, elemV, sc, encD, encDs, encH, ne_str, eq_str, lt_int, le_int, gt_int, ge_int, eq_int, ne_int, eq_strs, ne_strs, ne_str_strs, ne_strs_str, ne_deeds, ne_hunks, notin_kinds, notin_kindsT, add_int, sub_int, mod_int, div3, div4, callV, listV, flat_str, slice_map, append_str, snoc_str, List.all_cons, List.all_nil, List.map_cons, List.map_nil, Bool.false_eq_true, if_false, ofString_inj, ne_eq, String.reduceEq, not_false_eq_true, Bool.not_true, Bool.not_false, reduceCtorEq, and_true, true_and, and_self, small, Nat.reduceAdd, Nat.reduceLeDiff, bindPV, maskη, List.lookup_cons, List.lookup_nil, str_beq, decide_true, decide_false, Option.map_some, Option.some.injEq, encP, ha, hp, hr]
      rw [cut_strs rfl rfl (by unfold small; omega)]
      simp only [List.length_cons, List.length_nil, if_true, V_s, V_e, V_t, V_j, V_ok, ev_cN, ev_cB, ev_cI, ev_cS, ev_nm, ev_bin, ev_tup, ev_lst, ev_sl, ev_ixC, ev_ixN, ev_ixB, ev_ixK, ev_call, ev_comp, tv_not, tv_lt, tv_le, tv_gt, tv_ge, tv_eq, tv_ne, tv_ni, tv_nm, tv_call, jv_c, jv_f, fmt_ok, it_nm, it_bin, it_sub, nameV, upd_eq, upd_ne, Rz.bind_ok, Rz.bind_err, Rz.strict, sq_l, sq_t, List.length_map, List.length_append, scal, Bool.false_or, Bool.true_or, Bool.or_false, Bool.or_true, Bool.and_true, Bool.true_and, Bool.and_false, Bool.false_and, Bool.and_self, Bool.or_self, argsV, pt_n, pt_s, cd_n, cd_1, im_l, im_t, item0, item1, item2, elemV, sc, encD, encDs, encH, ne_str, eq_str, lt_int, le_int, gt_int, ge_int, eq_int, ne_int, eq_strs, ne_strs, ne_str_strs, ne_strs_str, ne_deeds, ne_hunks, notin_kinds, notin_kindsT, add_int, sub_int, mod_int, div3, div4, callV, listV, flat_str, slice_map, append_str, snoc_str, List.all_cons, List.all_nil, List.map_cons, List.map_nil, Bool.false_eq_true, if_false, ofString_inj, ne_eq, String.reduceEq, not_false_eq_true, Bool.not_true, Bool.not_false, reduceCtorEq, and_true, true_and, and_self, small, Nat.reduceAdd, Nat.reduceLeDiff, bindPV, maskη, List.lookup_cons, List.lookup_nil, str_beq, decide_true, decide_false, Option.map_some, Option.some.injEq, encP, slice_cut]
      rw [add_strs (by unfold small; omega)]
    generalize hres : res ++ (xs.drop p).take (q - p) = res' at h ⊢
    have hres' : res'.length ≤ res.length + 100 := by rw [← hres, List.length_append]; omega
    refine p_if (b := decide (t ≠ (res'.length : Int))) ?_ (fun hb => ?_) (fun hb => p_end ?_)
    · simp only [List.length_cons, List.length_nil, if_true, V_s, V_e, V_t, V_j, V_ok, ev_cN, ev_cB, ev_cI, ev_cS, ev_nm, ev_bin, ev_tup, ev_lst, ev_sl, ev_ixC, ev_ixN, ev_ixB, ev_ixK, ev_call, ev_comp, tv_not, tv_lt, tv_le, tv_gt, tv_ge, tv_eq, tv_ne, tv_ni, tv_nm, tv_call, jv_c, jv_f, fmt_ok, it_nm, it_bin, it_sub, nameV, upd_eq, upd_ne, Rz.bind_ok, Rz.bind_err, Rz.strict, sq_l, sq_t, List.length_map, List.length_append, scal, Bool.false_or, Bool.true_or, Bool.or_false, Bool.or_true, Bool.and_true, Bool.true_and, Bool.and_false, Bool.false_and, Bool.and_self, Bool.or_self, argsV, pt_n, pt_s, cd_n, cd_1, im_l, im_t, item0, item1, item2, elemV, sc, encD, encDs, encH, ne_str, eq_str, lt_int, le_int, gt_int, ge_int, eq_int, ne_int, eq_strs, ne_strs, ne_str_strs, ne_strs_str, ne_deeds, ne_hunks, notin_kinds, notin_kindsT, add_int, sub_int, mod_int, div3, div4, callV, listV, flat_str, slice_map, append_str, snoc_str, List.all_cons, List.all_nil, List.map_cons, List.map_nil, Bool.false_eq_true, if_false, ofString_inj, ne_eq, String.reduceEq, not_false_eq_true, Bool.not_true, Bool.not_false, reduceCtorEq, and_true, true_and, and_self, small, Nat.reduceAdd, Nat.reduceLeDiff, bindPV, maskη, List.lookup_cons, List.lookup_nil, str_beq, decide_true, decide_false, Option.map_some, Option.some.injEq, encP, C.len]
      rw [len_lst (by simp [small]; omega)]
      simp only [List.length_cons, List.length_nil, if_true, V_s, V_e, V_t, V_j, V_ok, ev_cN, ev_cB, ev_cI, ev_cS, ev_nm, ev_bin, ev_tup, ev_lst, ev_sl, ev_ixC, ev_ixN, ev_ixB, ev_ixK, ev_call, ev_comp, tv_not, tv_lt, tv_le, tv_gt, tv_ge, tv_eq, tv_ne, tv_ni, tv_nm, tv_call, jv_c, jv_f, fmt_ok, it_nm, it_bin, it_sub, nameV, upd_eq, upd_ne, Rz.bind_ok, Rz.bind_err, Rz.strict, sq_l, sq_t, List.length_map, List.length_append, scal, Bool.false_or, Bool.true_or, Bool.or_false, Bool.or_true, Bool.and_true, Bool.true_and, Bool.and_false, Bool.false_and, Bool.and_self, Bool.or_self, argsV, pt_n, pt_s, cd_n, cd_1, im_l, im_t, item0, item1, item2, elemV, sc, encD, encDs, encH, ne_str, eq_str, lt_int, le_int, gt_int, ge_int, eq_int, ne_int, eq_strs, ne_strs, ne_str_strs, ne_strs_str, ne_deeds, ne_hunks, notin_kinds, notin_kindsT, add_int, sub_int, mod_int, div3, div4, callV, listV, flat_str, slice_map, append_str, snoc_str, List.all_cons, List.all_nil, List.map_cons, List.map_nil, Bool.false_eq_true, if_false, ofString_inj, ne_eq, String.reduceEq, not_false_eq_true, Bool.not_true, Bool.not_false, reduceCtorEq, and_true, true_and, and_self, small, Nat.reduceAdd, Nat.reduceLeDiff, bindPV, maskη, List.lookup_cons, List.lookup_nil, str_beq, decide_true, decide_false, Option.map_some, Option.some.injEq, encP]
    · refine p_raise (by simp only [List.length_cons, List.length_nil, if_true, V_s, V_e, V_t, V_j, V_ok, ev_cN, ev_cB, ev_cI, ev_cS, ev_nm, ev_bin, ev_tup, ev_lst, ev_sl, ev_ixC, ev_ixN, ev_ixB, ev_ixK, ev_call, ev_comp, tv_not, tv_lt, tv_le, tv_gt, tv_ge, tv_eq, tv_ne, tv_ni, tv_nm, tv_call, jv_c, jv_f, fmt_ok, it_nm, it_bin, it_sub, nameV, upd_eq, upd_ne, Rz.bind_ok, Rz.bind_err, Rz.strict, sq_l, sq_t, List.length_map, List.length_append, scal, Bool.false_or, Bool.true_or, Bool.or_false, Bool.or_true, Bool.and_true, Bool.true_and, Bool.and_false, Bool.false_and, Bool.and_self, Bool.or_self, argsV, pt_n, pt_s, cd_n, cd_1, im_l, im_t, item0, item1, item2, elemV, sc, encD, encDs, encH, ne_str, eq_str, lt_int, le_int, gt_int, ge_int, eq_int, ne_int, eq_strs, ne_strs, ne_str_strs, ne_strs_str, ne_deeds, ne_hunks, notin_kinds, notin_kindsT, add_int, sub_int, mod_int, div3, div4, callV, listV, flat_str, slice_map, append_str, snoc_str, List.all_cons, List.all_nil, List.map_cons, List.map_nil, Bool.false_eq_true, if_false, ofString_inj, ne_eq, String.reduceEq, not_false_eq_true, Bool.not_true, Bool.not_false, reduceCtorEq, and_true, true_and, and_self, small, Nat.reduceAdd, Nat.reduceLeDiff, bindPV, maskη, List.lookup_cons, List.lookup_nil, str_beq, decide_true, decide_false, Option.map_some, Option.some.injEq, encP]) ?_
      rw [if_pos (by simpa using hb)] at h
      exact h _ _
    · have hb : t = (res'.length : Int) := by simpa using hb
      rw [if_neg (by simpa using hb)] at h
      have hsl := src_len ds
      have htl := tgt_len ds
      refine p_asgS (d := .int (q + (src ds).length : Nat)) (b := true) (m := true) ?_ rfl ?_
      · simp only [List.length_cons, List.length_nil, if_true, V_s, V_e, V_t, V_j, V_ok, ev_cN, ev_cB, ev_cI, ev_cS, ev_nm, ev_bin, ev_tup, ev_lst, ev_sl, ev_ixC, ev_ixN, ev_ixB, ev_ixK, ev_call, ev_comp, tv_not, tv_lt, tv_le, tv_gt, tv_ge, tv_eq, tv_ne, tv_ni, tv_nm, tv_call, jv_c, jv_f, fmt_ok, it_nm, it_bin, it_sub, nameV, upd_eq, upd_ne, Rz.bind_ok, Rz.bind_err, Rz.strict, sq_l, sq_t, List.length_map, List.length_append, scal, Bool.false_or, Bool.true_or, Bool.or_false, Bool.or_true, Bool.and_true, Bool.true_and, Bool.and_false, Bool.false_and, Bool.and_self, Bool.or_self, argsV, pt_n, pt_s, cd_n, cd_1, im_l, im_t, item0, item1, item2, elemV, sc, encD, encDs, encH, ne_str, eq_str, lt_int, le_int, gt_int, ge_int, eq_int, ne_int, eq_strs, ne_strs, ne_str_strs, ne_strs_str, ne_deeds, ne_hunks, notin_kinds, notin_kindsT, add_int, sub_int, mod_int, div3, div4, callV, listV, flat_str, slice_map, append_str, snoc_str, List.all_cons, List.all_nil, List.map_cons, List.map_nil, Bool.false_eq_true, if_false, ofString_inj, ne_eq, String.reduceEq, not_false_eq_true, Bool.not_true, Bool.not_false, reduceCtorEq, and_true, true_and, and_self, small, Nat.reduceAdd, Nat.reduceLeDiff, bindPV, maskη, List.lookup_cons, List.lookup_nil, str_beq, decide_true, decide_false, Option.map_some, Option.some.injEq, encP, C.len, hs1, hs2 ds (by omega)]
        rw [len_lst (by simp [small]; omega)]
        simp only [List.length_cons, List.length_nil, if_true, V_s, V_e, V_t, V_j, V_ok, ev_cN, ev_cB, ev_cI, ev_cS, ev_nm, ev_bin, ev_tup, ev_lst, ev_sl, ev_ixC, ev_ixN, ev_ixB, ev_ixK, ev_call, ev_comp, tv_not, tv_lt, tv_le, tv_gt, tv_ge, tv_eq, tv_ne, tv_ni, tv_nm, tv_call, jv_c, jv_f, fmt_ok, it_nm, it_bin, it_sub, nameV, upd_eq, upd_ne, Rz.bind_ok, Rz.bind_err, Rz.strict, sq_l, sq_t, List.length_map, List.length_append, scal, Bool.false_or, Bool.true_or, Bool.or_false, Bool.or_true, Bool.and_true, Bool.true_and, Bool.and_false, Bool.false_and, Bool.and_self, Bool.or_self, argsV, pt_n, pt_s, cd_n, cd_1, im_l, im_t, item0, item1, item2, elemV, sc, encD, encDs, encH, ne_str, eq_str, lt_int, le_int, gt_int, ge_int, eq_int, ne_int, eq_strs, ne_strs, ne_str_strs, ne_strs_str, ne_deeds, ne_hunks, notin_kinds, notin_kindsT, add_int, sub_int, mod_int, div3, div4, callV, listV, flat_str, slice_map, append_str, snoc_str, List.all_cons, List.all_nil, List.map_cons, List.map_nil, Bool.false_eq_true, if_false, ofString_inj, ne_eq, String.reduceEq, not_false_eq_true, Bool.not_true, Bool.not_false, reduceCtorEq, and_true, true_and, and_self, small, Nat.reduceAdd, Nat.reduceLeDiff, bindPV, maskη, List.lookup_cons, List.lookup_nil, str_beq, decide_true, decide_false, Option.map_some, Option.some.injEq, encP, Int.natCast_add]
      have hcut2 : ((xs.drop q).take (src ds).length).length ≤ 100 := by simp; omega
      have hsub : q + (src ds).length - q = (src ds).length := by omega
      by_cases hc : ds.all (fun d => kn d.1) = true ∧ src ds = (xs.drop q).take (src ds).length
      · rw [if_pos hc] at h
        refine p_asgL (ds := (res' ++ tgt ds).map .str) (m := true) ?_ ?_
        · simp only [List.length_cons, List.length_nil, if_true, V_s, V_e, V_t, V_j, V_ok, ev_cN, ev_cB, ev_cI, ev_cS, ev_nm, ev_bin, ev_tup, ev_lst, ev_sl, ev_ixC, ev_ixN, ev_ixB, ev_ixK, ev_call, ev_comp, tv_not, tv_lt, tv_le, tv_gt, tv_ge, tv_eq, tv_ne, tv_ni, tv_nm, tv_call, jv_c, jv_f, fmt_ok, it_nm, it_bin, it_sub, nameV, upd_eq, upd_ne, Rz.bind_ok, Rz.bind_err, Rz.strict, sq_l, sq_t, List.length_map, List.length_append, scal, Bool.false_or, Bool.true_or, Bool.or_false, Bool.or_true, Bool.and_true, Bool.true_and, Bool.and_false, Bool.false_and, Bool.and_self, Bool.or_self, argsV, pt_n, pt_s, cd_n, cd_1, im_l, im_t, item0, item1, item2, elemV, sc, encD, encDs, encH, ne_str, eq_str, lt_int, le_int, gt_int, ge_int, eq_int, ne_int, eq_strs, ne_strs, ne_str_strs, ne_strs_str, ne_deeds, ne_hunks, notin_kinds, notin_kindsT, add_int, sub_int, mod_int, div3, div4, callV, listV, flat_str, slice_map, append_str, snoc_str, List.all_cons, List.all_nil, List.map_cons, List.map_nil, Bool.false_eq_true, if_false, ofString_inj, ne_eq, String.reduceEq, not_false_eq_true, Bool.not_true, Bool.not_false, reduceCtorEq, and_true, true_and, and_self, small, Nat.reduceAdd, Nat.reduceLeDiff, bindPV, maskη, List.lookup_cons, List.lookup_nil, str_beq, decide_true, decide_false, Option.map_some, Option.some.injEq, encP, ha, hp1]
          rw [cut_strs rfl rfl (by unfold small; omega)]
          simp only [List.length_cons, List.length_nil, if_true, V_s, V_e, V_t, V_j, V_ok, ev_cN, ev_cB, ev_cI, ev_cS, ev_nm, ev_bin, ev_tup, ev_lst, ev_sl, ev_ixC, ev_ixN, ev_ixB, ev_ixK, ev_call, ev_comp, tv_not, tv_lt, tv_le, tv_gt, tv_ge, tv_eq, tv_ne, tv_ni, tv_nm, tv_call, jv_c, jv_f, fmt_ok, it_nm, it_bin, it_sub, nameV, upd_eq, upd_ne, Rz.bind_ok, Rz.bind_err, Rz.strict, sq_l, sq_t, List.length_map, List.length_append, scal, Bool.false_or, Bool.true_or, Bool.or_false, Bool.or_true, Bool.and_true, Bool.true_and, Bool.and_false, Bool.false_and, Bool.and_self, Bool.or_self, argsV, pt_n, pt_s, cd_n, cd_1, im_l, im_t, item0, item1, item2, elemV, sc, encD, encDs, encH, ne_str, eq_str, lt_int, le_int, gt_int, ge_int, eq_int, ne_int, eq_strs, ne_strs, ne_str_strs, ne_strs_str, ne_deeds, ne_hunks, notin_kinds, notin_kindsT, add_int, sub_int, mod_int, div3, div4, callV, listV, flat_str, slice_map, append_str, snoc_str, List.all_cons, List.all_nil, List.map_cons, List.map_nil, Bool.false_eq_true, if_false, ofString_inj, ne_eq, String.reduceEq, not_false_eq_true, Bool.not_true, Bool.not_false, reduceCtorEq, and_true, true_and, and_self, small, Nat.reduceAdd, Nat.reduceLeDiff, bindPV, maskη, List.lookup_cons, List.lookup_nil, str_beq, decide_true, decide_false, Option.map_some, Option.some.injEq, encP, slice_cut, hsub]
          rw [hp2 _ _ (by omega) (by omega)]
          unfold patchR
          rw [if_pos hc]
          simp only [List.length_cons, List.length_nil, if_true, V_s, V_e, V_t, V_j, V_ok, ev_cN, ev_cB, ev_cI, ev_cS, ev_nm, ev_bin, ev_tup, ev_lst, ev_sl, ev_ixC, ev_ixN, ev_ixB, ev_ixK, ev_call, ev_comp, tv_not, tv_lt, tv_le, tv_gt, tv_ge, tv_eq, tv_ne, tv_ni, tv_nm, tv_call, jv_c, jv_f, fmt_ok, it_nm, it_bin, it_sub, nameV, upd_eq, upd_ne, Rz.bind_ok, Rz.bind_err, Rz.strict, sq_l, sq_t, List.length_map, List.length_append, scal, Bool.false_or, Bool.true_or, Bool.or_false, Bool.or_true, Bool.and_true, Bool.true_and, Bool.and_false, Bool.false_and, Bool.and_self, Bool.or_self, argsV, pt_n, pt_s, cd_n, cd_1, im_l, im_t, item0, item1, item2, elemV, sc, encD, encDs, encH, ne_str, eq_str, lt_int, le_int, gt_int, ge_int, eq_int, ne_int, eq_strs, ne_strs, ne_str_strs, ne_strs_str, ne_deeds, ne_hunks, notin_kinds, notin_kindsT, add_int, sub_int, mod_int, div3, div4, callV, listV, flat_str, slice_map, append_str, snoc_str, List.all_cons, List.all_nil, List.map_cons, List.map_nil, Bool.false_eq_true, if_false, ofString_inj, ne_eq, String.reduceEq, not_false_eq_true, Bool.not_true, Bool.not_false, reduceCtorEq, and_true, true_and, and_self, small, Nat.reduceAdd, Nat.reduceLeDiff, bindPV, maskη, List.lookup_cons, List.lookup_nil, str_beq, decide_true, decide_false, Option.map_some, Option.some.injEq, encP]
          rw [add_strs (by unfold small; omega)]
        · refine p_nil (h _ ⟨by simp only [List.length_cons, List.length_nil, if_true, V_s, V_e, V_t, V_j, V_ok, ev_cN, ev_cB, ev_cI, ev_cS, ev_nm, ev_bin, ev_tup, ev_lst, ev_sl, ev_ixC, ev_ixN, ev_ixB, ev_ixK, ev_call, ev_comp, tv_not, tv_lt, tv_le, tv_gt, tv_ge, tv_eq, tv_ne, tv_ni, tv_nm, tv_call, jv_c, jv_f, fmt_ok, it_nm, it_bin, it_sub, nameV, upd_eq, upd_ne, Rz.bind_ok, Rz.bind_err, Rz.strict, sq_l, sq_t, List.length_map, List.length_append, scal, Bool.false_or, Bool.true_or, Bool.or_false, Bool.or_true, Bool.and_true, Bool.true_and, Bool.and_false, Bool.false_and, Bool.and_self, Bool.or_self, argsV, pt_n, pt_s, cd_n, cd_1, im_l, im_t, item0, item1, item2, elemV, sc, encD, encDs, encH, ne_str, eq_str, lt_int, le_int, gt_int, ge_int, eq_int, ne_int, eq_strs, ne_strs, ne_str_strs, ne_strs_str, ne_deeds, ne_hunks, notin_kinds, notin_kindsT, add_int, sub_int, mod_int, div3, div4, callV, listV, flat_str, slice_map, append_str, snoc_str, List.all_cons, List.all_nil, List.map_cons, List.map_nil, Bool.false_eq_true, if_false, ofString_inj, ne_eq, String.reduceEq, not_false_eq_true, Bool.not_true, Bool.not_false, reduceCtorEq, and_true, true_and, and_self, small, Nat.reduceAdd, Nat.reduceLeDiff, bindPV, maskη, List.lookup_cons, List.lookup_nil, str_beq, decide_true, decide_false, Option.map_some, Option.some.injEq, encP, ha], by simp only [List.length_cons, List.length_nil, if_true, V_s, V_e, V_t, V_j, V_ok, ev_cN, ev_cB, ev_cI, ev_cS, ev_nm, ev_bin, ev_tup, ev_lst, ev_sl, ev_ixC, ev_ixN, ev_ixB, ev_ixK, ev_call, ev_comp, tv_not, tv_lt, tv_le, tv_gt, tv_ge, tv_eq, tv_ne, tv_ni, tv_nm, tv_call, jv_c, jv_f, fmt_ok, it_nm, it_bin, it_sub, nameV, upd_eq, upd_ne, Rz.bind_ok, Rz.bind_err, Rz.strict, sq_l, sq_t, List.length_map, List.length_append, scal, Bool.false_or, Bool.true_or, Bool.or_false, Bool.or_true, Bool.and_true, Bool.true_and, Bool.and_false, Bool.false_and, Bool.and_self, Bool.or_self, argsV, pt_n, pt_s, cd_n, cd_1, im_l, im_t, item0, item1, item2, elemV, sc, encD, encDs, encH, ne_str, eq_str, lt_int, le_int, gt_int, ge_int, eq_int, ne_int, eq_strs, ne_strs, ne_str_strs, ne_strs_str, ne_deeds, ne_hunks, notin_kinds, notin_kindsT, add_int, sub_int, mod_int, div3, div4, callV, listV, flat_str, slice_map, append_str, snoc_str, List.all_cons, List.all_nil, List.map_cons, List.map_nil, Bool.false_eq_true, if_false, ofString_inj, ne_eq, String.reduceEq, not_false_eq_true, Bool.not_true, Bool.not_false, reduceCtorEq, and_true, true_and, and_self, small, Nat.reduceAdd, Nat.reduceLeDiff, bindPV, maskη, List.lookup_cons, List.lookup_nil, str_beq, decide_true, decide_false, Option.map_some, Option.some.injEq, encP], by simp only [List.length_cons, List.length_nil, if_true, V_s, V_e, V_t, V_j, V_ok, ev_cN, ev_cB, ev_cI, ev_cS, ev_nm, ev_bin, ev_tup, ev_lst, ev_sl, ev_ixC, ev_ixN, ev_ixB, ev_ixK, ev_call, ev_comp, tv_not, tv_lt, tv_le, tv_gt, tv_ge, tv_eq, tv_ne, tv_ni, tv_nm, tv_call, jv_c, jv_f, fmt_ok, it_nm, it_bin, it_sub, nameV, upd_eq, upd_ne, Rz.bind_ok, Rz.bind_err, Rz.strict, sq_l, sq_t, List.length_map, List.length_append, scal, Bool.false_or, Bool.true_or, Bool.or_false, Bool.or_true, Bool.and_true, Bool.true_and, Bool.and_false, Bool.false_and, Bool.and_self, Bool.or_self, argsV, pt_n, pt_s, cd_n, cd_1, im_l, im_t, item0, item1, item2, elemV, sc, encD, encDs, encH, ne_str, eq_str, lt_int, le_int, gt_int, ge_int, eq_int, ne_int, eq_strs, ne_strs, ne_str_strs, ne_strs_str, ne_deeds, ne_hunks, notin_kinds, notin_kindsT, add_int, sub_int, mod_int, div3, div4, callV, listV, flat_str, slice_map, append_str, snoc_str, List.all_cons, List.all_nil, List.map_cons, List.map_nil, Bool.false_eq_true, if_false, ofString_inj, ne_eq, String.reduceEq, not_false_eq_true, Bool.not_true, Bool.not_false, reduceCtorEq, and_true, true_and, and_self, small, Nat.reduceAdd, Nat.reduceLeDiff, bindPV, maskη, List.lookup_cons, List.lookup_nil, str_beq, decide_true, decide_false, Option.map_some, Option.some.injEq, encP], ?_, ?_⟩)
          · have := congrArg List.length hc.2
            simp at this
            dsimp only; omega
          · simp only [List.length_append]; omega
      · rw [if_neg hc] at h
        refine p_asgX (C := Str.ofString "PatchError") ?_ (h _ _)
        simp only [List.length_cons, List.length_nil, if_true, V_s, V_e, V_t, V_j, V_ok, ev_cN, ev_cB, ev_cI, ev_cS, ev_nm, ev_bin, ev_tup, ev_lst, ev_sl, ev_ixC, ev_ixN, ev_ixB, ev_ixK, ev_call, ev_comp, tv_not, tv_lt, tv_le, tv_gt, tv_ge, tv_eq, tv_ne, tv_ni, tv_nm, tv_call, jv_c, jv_f, fmt_ok, it_nm, it_bin, it_sub, nameV, upd_eq, upd_ne, Rz.bind_ok, Rz.bind_err, Rz.strict, sq_l, sq_t, List.length_map, List.length_append, scal, Bool.false_or, Bool.true_or, Bool.or_false, Bool.or_true, Bool.and_true, Bool.true_and, Bool.and_false, Bool.false_and, Bool.and_self, Bool.or_self, argsV, pt_n, pt_s, cd_n, cd_1, im_l, im_t, item0, item1, item2, elemV, sc, encD, encDs, encH, ne_str, eq_str, lt_int, le_int, gt_int, ge_int, eq_int, ne_int, eq_strs, ne_strs, ne_str_strs, ne_strs_str, ne_deeds, ne_hunks, notin_kinds, notin_kindsT, add_int, sub_int, mod_int, div3, div4, callV, listV, flat_str, slice_map, append_str, snoc_str, List.all_cons, List.all_nil, List.map_cons, List.map_nil, Bool.false_eq_true, if_false, ofString_inj, ne_eq, String.reduceEq, not_false_eq_true, Bool.not_true, Bool.not_false, reduceCtorEq, and_true, true_and, and_self, small, Nat.reduceAdd, Nat.reduceLeDiff, bindPV, maskη, List.lookup_cons, List.lookup_nil, str_beq, decide_true, decide_false, Option.map_some, Option.some.injEq, encP, ha, hp1]
        rw [cut_strs rfl rfl (by unfold small; omega)]
        simp only [List.length_cons, List.length_nil, if_true, V_s, V_e, V_t, V_j, V_ok, ev_cN, ev_cB, ev_cI, ev_cS, ev_nm, ev_bin, ev_tup, ev_lst, ev_sl, ev_ixC, ev_ixN, ev_ixB, ev_ixK, ev_call, ev_comp, tv_not, tv_lt, tv_le, tv_gt, tv_ge, tv_eq, tv_ne, tv_ni, tv_nm, tv_call, jv_c, jv_f, fmt_ok, it_nm, it_bin, it_sub, nameV, upd_eq, upd_ne, Rz.bind_ok, Rz.bind_err, Rz.strict, sq_l, sq_t, List.length_map, List.length_append, scal, Bool.false_or, Bool.true_or, Bool.or_false, Bool.or_true, Bool.and_true, Bool.true_and, Bool.and_false, Bool.false_and, Bool.and_self, Bool.or_self, argsV, pt_n, pt_s, cd_n, cd_1, im_l, im_t, item0, item1, item2, elemV, sc, encD, encDs, encH, ne_str, eq_str, lt_int, le_int, gt_int, ge_int, eq_int, ne_int, eq_strs, ne_strs, ne_str_strs, ne_strs_str, ne_deeds, ne_hunks, notin_kinds, notin_kindsT, add_int, sub_int, mod_int, div3, div4, callV, listV, flat_str, slice_map, append_str, snoc_str, List.all_cons, List.all_nil, List.map_cons, List.map_nil, Bool.false_eq_true, if_false, ofString_inj, ne_eq, String.reduceEq, not_false_eq_true, Bool.not_true, Bool.not_false, reduceCtorEq, and_true, true_and, and_self, small, Nat.reduceAdd, Nat.reduceLeDiff, bindPV, maskη, List.lookup_cons, List.lookup_nil, str_beq, decide_true, decide_false, Option.map_some, Option.some.injEq, encP, slice_cut, hsub]
        rw [hp2 _ _ (by omega) (by omega)]
        unfold patchR
        rw [if_neg hc]
        simp only [List.length_cons, List.length_nil, if_true, V_s, V_e, V_t, V_j, V_ok, ev_cN, ev_cB, ev_cI, ev_cS, ev_nm, ev_bin, ev_tup, ev_lst, ev_sl, ev_ixC, ev_ixN, ev_ixB, ev_ixK, ev_call, ev_comp, tv_not, tv_lt, tv_le, tv_gt, tv_ge, tv_eq, tv_ne, tv_ni, tv_nm, tv_call, jv_c, jv_f, fmt_ok, it_nm, it_bin, it_sub, nameV, upd_eq, upd_ne, Rz.bind_ok, Rz.bind_err, Rz.strict, sq_l, sq_t, List.length_map, List.length_append, scal, Bool.false_or, Bool.true_or, Bool.or_false, Bool.or_true, Bool.and_true, Bool.true_and, Bool.and_false, Bool.false_and, Bool.and_self, Bool.or_self, argsV, pt_n, pt_s, cd_n, cd_1, im_l, im_t, item0, item1, item2, elemV, sc, encD, encDs, encH, ne_str, eq_str, lt_int, le_int, gt_int, ge_int, eq_int, ne_int, eq_strs, ne_strs, ne_str_strs, ne_strs_str, ne_deeds, ne_hunks, notin_kinds, notin_kindsT, add_int, sub_int, mod_int, div3, div4, callV, listV, flat_str, slice_map, append_str, snoc_str, List.all_cons, List.all_nil, List.map_cons, List.map_nil, Bool.false_eq_true, if_false, ofString_inj, ne_eq, String.reduceEq, not_false_eq_true, Bool.not_true, Bool.not_false, reduceCtorEq, and_true, true_and, and_self, small, Nat.reduceAdd, Nat.reduceLeDiff, bindPV, maskη, List.lookup_cons, List.lookup_nil, str_beq, decide_true, decide_false, Option.map_some, Option.some.injEq, encP]

theorem apply_ok (n : Nat) (C : CoreFns Θ) (xs : List Str) (hx : xs.length ≤ 100) (hs : List (Int × Int × List (Str × Str))) (hl : hs.length ≤ 10) (hd : ∀ h ∈ hs, h.2.2.length ≤ 100) :
    callVF Θ (n + 20) ["a", "hunks"] (bodyOf pw 4) [.list (xs.map .str), .list (hs.map encH)] = rzOf (applyR xs hs) := by
  refine call_of rfl ?_
  have turn := fun d hd k s η Q => apply_turn (Θ := Θ) (n + 4) C xs hx d hd k s η Q
  unfold loopOf at turn
  (unfold bodyOf pw PySem.Challenge.pw_pd_weave_3_05 at turn; dsimp only [List.getElem?_cons_succ, List.getElem?_cons_zero] at turn)
  (unfold bodyOf pw PySem.Challenge.pw_pd_weave_3_05; dsimp only [List.getElem?_cons_succ, List.getElem?_cons_zero])
  refine p_asgL (ds := []) (m := true) (by simp only [List.length_cons, List.length_nil, if_true, V_s, V_e, V_t, V_j, V_ok, ev_cN, ev_cB, ev_cI, ev_cS, ev_nm, ev_bin, ev_tup, ev_lst, ev_sl, ev_ixC, ev_ixN, ev_ixB, ev_ixK, ev_call, ev_comp, tv_not, tv_lt, tv_le, tv_gt, tv_ge, tv_eq, tv_ne, tv_ni, tv_nm, tv_call, jv_c, jv_f, fmt_ok, it_nm, it_bin, it_sub, nameV, upd_eq, upd_ne, Rz.bind_ok, Rz.bind_err, Rz.strict, sq_l, sq_t, List.length_map, List.length_append, scal, Bool.false_or, Bool.true_or, Bool.or_false, Bool.or_true, Bool.and_true, Bool.true_and, Bool.and_false, Bool.false_and, Bool.and_self, Bool.or_self, argsV, pt_n, pt_s, cd_n, cd_1, im_l, im_t, item0, item1, item2, elemV, sc, encD, encDs, encH, ne_str, eq_str, lt_int, le_int, gt_int, ge_int, eq_int, ne_int, eq_strs, ne_strs, ne_str_strs, ne_strs_str, ne_deeds, ne_hunks, notin_kinds, notin_kindsT, add_int, sub_int, mod_int, div3, div4, callV, listV, flat_str, slice_map, append_str, snoc_str, List.all_cons, List.all_nil, List.map_cons, List.map_nil, Bool.false_eq_true, if_false, ofString_inj, ne_eq, String.reduceEq, not_false_eq_true, Bool.not_true, Bool.not_false, reduceCtorEq, and_true, true_and, and_self, small, Nat.reduceAdd, Nat.reduceLeDiff, bindPV, maskη, List.lookup_cons, List.lookup_nil, str_beq, decide_true, decide_false, Option.map_some, Option.some.injEq, encP]) ?_
  refine p_asgS (d := .int 0) (b := true) (m := true) (by simp only [List.length_cons, List.length_nil, if_true, V_s, V_e, V_t, V_j, V_ok, ev_cN, ev_cB, ev_cI, ev_cS, ev_nm, ev_bin, ev_tup, ev_lst, ev_sl, ev_ixC, ev_ixN, ev_ixB, ev_ixK, ev_call, ev_comp, tv_not, tv_lt, tv_le, tv_gt, tv_ge, tv_eq, tv_ne, tv_ni, tv_nm, tv_call, jv_c, jv_f, fmt_ok, it_nm, it_bin, it_sub, nameV, upd_eq, upd_ne, Rz.bind_ok, Rz.bind_err, Rz.strict, sq_l, sq_t, List.length_map, List.length_append, scal, Bool.false_or, Bool.true_or, Bool.or_false, Bool.or_true, Bool.and_true, Bool.true_and, Bool.and_false, Bool.false_and, Bool.and_self, Bool.or_self, argsV, pt_n, pt_s, cd_n, cd_1, im_l, im_t, item0, item1, item2, elemV, sc, encD, encDs, encH, ne_str, eq_str, lt_int, le_int, gt_int, ge_int, eq_int, ne_int, eq_strs, ne_strs, ne_str_strs, ne_strs_str, ne_deeds, ne_hunks, notin_kinds, notin_kindsT, add_int, sub_int, mod_int, div3, div4, callV, listV, flat_str, slice_map, append_str, snoc_str, List.all_cons, List.all_nil, List.map_cons, List.map_nil, Bool.false_eq_true, if_false, ofString_inj, ne_eq, String.reduceEq, not_false_eq_true, Bool.not_true, Bool.not_false, reduceCtorEq, and_true, true_and, and_self, small, Nat.reduceAdd, Nat.reduceLeDiff, bindPV, maskη, List.lookup_cons, List.lookup_nil, str_beq, decide_true, decide_false, Option.map_some, Option.some.injEq, encP]) rfl ?_
  refine p_for (ds := hs.map encH) (bo := false) (mi := false) (by simp only [List.length_cons, List.length_nil, if_true, V_s, V_e, V_t, V_j, V_ok, ev_cN, ev_cB, ev_cI, ev_cS, ev_nm, ev_bin, ev_tup, ev_lst, ev_sl, ev_ixC, ev_ixN, ev_ixB, ev_ixK, ev_call, ev_comp, tv_not, tv_lt, tv_le, tv_gt, tv_ge, tv_eq, tv_ne, tv_ni, tv_nm, tv_call, jv_c, jv_f, fmt_ok, it_nm, it_bin, it_sub, nameV, upd_eq, upd_ne, Rz.bind_ok, Rz.bind_err, Rz.strict, sq_l, sq_t, List.length_map, List.length_append, scal, Bool.false_or, Bool.true_or, Bool.or_false, Bool.or_true, Bool.and_true, Bool.true_and, Bool.and_false, Bool.false_and, Bool.and_self, Bool.or_self, argsV, pt_n, pt_s, cd_n, cd_1, im_l, im_t, item0, item1, item2, elemV, sc, encD, encDs, encH, ne_str, eq_str, lt_int, le_int, gt_int, ge_int, eq_int, ne_int, eq_strs, ne_strs, ne_str_strs, ne_strs_str, ne_deeds, ne_hunks, notin_kinds, notin_kindsT, add_int, sub_int, mod_int, div3, div4, callV, listV, flat_str, slice_map, append_str, snoc_str, List.all_cons, List.all_nil, List.map_cons, List.map_nil, Bool.false_eq_true, if_false, ofString_inj, ne_eq, String.reduceEq, not_false_eq_true, Bool.not_true, Bool.not_false, reduceCtorEq, and_true, true_and, and_self, small, Nat.reduceAdd, Nat.reduceLeDiff, bindPV, maskη, List.lookup_cons, List.lookup_nil, str_beq, decide_true, decide_false, Option.map_some, Option.some.injEq, encP]; rw [if_pos (by omega)]) ?_
  refine loop_ind encH (ApplyInv xs) (applyT xs) (Str.ofString "PatchError") hs (fun d k s η Q hm hi h => turn d (hd d hm) k s η Q hi h) (0, []) _ _ ?_ ?_
  · exact ⟨drop_no (by simp only [upd_ne, upd_eq, bindPV, ne_eq, String.reduceEq, not_false_eq_true, scal]), drop_no (by simp only [upd_eq]; rfl), (drop_off (by simp only [V_m, mv_nm, ofString_inj, String.reduceEq, decide_false])).trans (by simp only [upd_ne, upd_eq, ne_eq, String.reduceEq, not_false_eq_true]; rfl), Nat.zero_le _, by simp; omega⟩
  · unfold applyR
    cases hf : hs.foldlM (fun s h => applyT xs h s) (0, []) with
    | none => exact fun o η' => rfl
    | some s =>
      intro η' hi
      obtain ⟨ha, hp, hr, hle, hl⟩ := hi
      refine then_next ?_
      refine p_ret (d := .list ((s.2 ++ xs.drop s.1).map .str)) (b := true) (m := true) ?_ rfl
      simp only [List.length_cons, List.length_nil, if_true, V_s, V_e, V_t, V_j, V_ok, ev_cN, ev_cB, ev_cI, ev_cS, ev_nm, ev_bin, ev_tup, ev_lst, ev_sl, ev_ixC, ev_ixN, ev_ixB, ev_ixK, ev_call, ev_comp, tv_not, tv_lt, tv_le, tv_gt, tv_ge, tv_eq, tv_ne, tv_ni, tv_nm, tv_call, jv_c, jv_f, fmt_ok, it_nm, it_bin, it_sub, nameV, upd_eq, upd_ne, Rz.bind_ok, Rz.bind_err, Rz.strict, sq_l, sq_t, List.length_map, List.length_append, scal, Bool.false_or, Bool.true_or, Bool.or_false, Bool.or_true, Bool.and_true, Bool.true_and, Bool.and_false, Bool.false_and, Bool.and_self, Bool.or_self, argsV, pt_n, pt_s, cd_n, cd_1, im_l, im_t, item0, item1, item2, elemV, sc, encD, encDs, encH, ne_str, eq_str, lt_int, le_int, gt_int, ge_int, eq_int, ne_int, eq_strs, ne_strs, ne_str_strs, ne_strs_str, ne_deeds, ne_hunks, notin_kinds, notin_kindsT, add_int, sub_int, mod_int, div3, div4, callV, listV, flat_str, slice_map, append_str, snoc_str, List.all_cons, List.all_nil, List.map_cons, List.map_nil, Bool.false_eq_true, if_false, ofString_inj, ne_eq, String.reduceEq, not_false_eq_true, Bool.not_true, Bool.not_false, reduceCtorEq, and_true, true_and, and_self, small, Nat.reduceAdd, Nat.reduceLeDiff, bindPV, maskη, List.lookup_cons, List.lookup_nil, str_beq, decide_true, decide_false, Option.map_some, Option.some.injEq, encP, ha, hp, hr]
      rw [cut_strs rfl rfl (by unfold small; omega)]
      simp only [List.length_cons, List.length_nil, if_true, V_s, V_e, V_t, V_j, V_ok, ev_cN, ev_cB, ev_cI, ev_cS, ev_nm, ev_bin, ev_tup, ev_lst, ev_sl, ev_ixC, ev_ixN, ev_ixB, ev_ixK, ev_call, ev_comp, tv_not, tv_lt, tv_le, tv_gt, tv_ge, tv_eq, tv_ne, tv_ni, tv_nm, tv_call, jv_c, jv_f, fmt_ok, it_nm, it_bin, it_sub, nameV, upd_eq, upd_ne, Rz.bind_ok, Rz.bind_err, Rz.strict, sq_l, sq_t, List.length_map, List.length_append, scal, Bool.false_or, Bool.true_or, Bool.or_false, Bool.or_true, Bool.and_true, Bool.true_and, Bool.and_false, Bool.false_and, Bool.and_self, Bool.or_self, argsV, pt_n, pt_s, cd_n, cd_1, im_l, im_t, item0, item1, item2, elemV, sc, encD, encDs, encH, ne_str, eq_str, lt_int, le_int, gt_int, ge_int, eq_int, ne_int, eq_strs, ne_strs, ne_str_strs, ne_strs_str, ne_deeds, ne_hunks, notin_kinds, notin_kindsT, add_int, sub_int, mod_int, div3, div4, callV, listV, flat_str, slice_map, append_str, snoc_str, List.all_cons, List.all_nil, List.map_cons, List.map_nil, Bool.false_eq_true, if_false, ofString_inj, ne_eq, String.reduceEq, not_false_eq_true, Bool.not_true, Bool.not_false, reduceCtorEq, and_true, true_and, and_self, small, Nat.reduceAdd, Nat.reduceLeDiff, bindPV, maskη, List.lookup_cons, List.lookup_nil, str_beq, decide_true, decide_false, Option.map_some, Option.some.injEq, encP, slice_from]
      rw [add_strs (by unfold small; simp; omega)]
end

section
variable {Θ : VThy}

theorem min_int {i j : Int} {b m b' m' : Bool} : builtinV (Str.ofString "min") [⟨.int i, b, m⟩, ⟨.int j, b', m'⟩] = .ok (sc (.int (min i j))) := by
  unfold builtinV
  rw [if_neg (by rw [ofString_inj]; decide), if_neg (by rw [ofString_inj]; decide), if_pos rfl]
  rfl
theorem max_int {i j : Int} {b m b' m' : Bool} : builtinV (Str.ofString "max") [⟨.int i, b, m⟩, ⟨.int j, b', m'⟩] = .ok (sc (.int (max i j))) := by
  unfold builtinV
  rw [if_neg (by rw [ofString_inj]; decide), if_neg (by rw [ofString_inj]; decide), if_neg (by rw [ofString_inj]; decide), if_pos rfl]
  rfl
theorem p_retE {n : Nat} {η : VEnv} {P : Out → Prop} {rest : List Stmt} {e : Expr} {q : Pos} (d : PyData) (h : ∃ b m, (V Θ n).e e η = .ok ⟨d, b, m⟩) (k : ∀ m, P (.ret d m)) : Post (seqV (V Θ (n + 1)).s (.Return (some e) q :: rest) η) P := by
  obtain ⟨b, m, h⟩ := h
  exact p_ret h (k m)
theorem try_next {C : Str} {hd : List Stmt} {k : VEnv → Prop} {P : Out → Prop} {η : VEnv} (h : k η) : tryP C hd k P (.next η) := h
theorem p_asgVE {n : Nat} {η : VEnv} {P : Out → Prop} {rest : List Stmt} {x : Str} {p q : Pos} {v : Expr} (d : PyData) (h : ∃ b m, stepEV Θ (V Θ n) v η = .ok ⟨d, b, m⟩)
    (k : ∀ b m η', SetN Θ η x d b m η' → Post (seqV (V Θ (n + 1)).s rest η') P) : Post (seqV (V Θ (n + 1)).s (.Assign [.Name x p] v q :: rest) η) P := by
  obtain ⟨b, m, h⟩ := h
  exact p_asgV h (k b m)
theorem e_compE {n : Nat} {η : VEnv} {elt it : Expr} {x : Str} {p q : Pos} {ifs : List Expr} {scope : Scope} (vi : VI) {ds : List PyData} (h : iterV (V Θ n).e it η = .ok vi)
    (hc : ∃ b m, compV (V Θ n).e (V Θ n).t x ifs elt vi (maskη scope η) vi.ds = .ok ⟨ds, b, m⟩) : ∃ b m, stepEV Θ (V Θ n) (.ListComp elt [⟨.Name x p, it, ifs, 0⟩] scope q) η = .ok ⟨.list ds, b, m⟩ := by
  obtain ⟨b, m, hc⟩ := hc
  exact ⟨b, m, e_comp' h hc⟩
noncomputable def wo (ds : List (Str × Str)) (k : Str) : List Str := (ds.filter fun d => decide (d.1 ≠ k)).map (·.2)
theorem p_appN {n : Nat} {η : VEnv} {P : Out → Prop} {rest : List Stmt} {x : Str} {p p' p'' q : Pos} {mn : Str} {a : Expr} {ds : List PyData} {m : Bool} {d : PyData} {b mi : Bool} (hx : η x = some ⟨.list ds, true, m⟩) (h : (V Θ (n + 1)).e a η = .ok ⟨d, b, mi⟩) (hc : (V Θ (n + 1)).m a x = false) (hl : ds.length < small)
    (k : ∀ η', (∀ y, nameV Θ y η' = nameV Θ y η) → Post (seqV (V Θ (n + 2)).s rest (updV η' x ⟨.list (ds ++ [d]), true, m && mi⟩)) P) : Post (seqV (V Θ (n + 2)).s (.Expr (.Call (.Attribute (.Name x p) mn p') [a] [] p'') q :: rest) η) P :=
  p_appO hx h hc hl (k _ fun y => nm_drop Θ η _ _ _ y)

end

section
variable {Θ : VThy}
end

section
variable {Θ : VThy}

noncomputable def cellD (ns : List Int) (k : Nat) : Int := ns[k]?.getD k

theorem cell_ok (n : Nat) (hlen : Θ.fn (Str.ofString "len") = none) (ns : List Int) (hn : ns.length ≤ 63) (k : Nat) (hk : k ≤ 1000) : callVF Θ (n + 20) ["script", "at"] (bodyOf pw 8) [.list (ns.map .int), .int k] = .ok (.int (cellD ns k), true) := by
  refine call_of rfl ?_
  (unfold bodyOf pw PySem.Challenge.pw_pd_weave_3_05; dsimp only [List.getElem?_cons_succ, List.getElem?_cons_zero])
  refine p_if (b := decide ((k : Int) < ns.length)) ?_ (fun hb => ?_) (fun hb => p_end ?_)
  · simp only [List.length_cons, List.length_nil, if_true, V_s, V_e, V_t, V_j, V_ok, ev_cN, ev_cB, ev_cI, ev_cS, ev_nm, ev_bin, ev_tup, ev_lst, ev_sl, ev_ixC, ev_ixN, ev_ixB, ev_ixK, ev_call, ev_comp, tv_not, tv_lt, tv_le, tv_gt, tv_ge, tv_eq, tv_ne, tv_ni, tv_nm, tv_call, jv_c, jv_f, fmt_ok, it_nm, it_bin, it_sub, nameV, upd_eq, upd_ne, Rz.bind_ok, Rz.bind_err, Rz.strict, sq_l, sq_t, List.length_map, List.length_append, scal, Bool.false_or, Bool.true_or, Bool.or_false, Bool.or_true, Bool.and_true, Bool.true_and, Bool.and_false, Bool.false_and, Bool.and_self, Bool.or_self, argsV, pt_n, pt_s, cd_n, cd_1, im_l, im_t, item0, item1, item2, elemV, sc, encD, encDs, encH, ne_str, eq_str, lt_int, le_int, gt_int, ge_int, eq_int, ne_int, eq_strs, ne_strs, ne_str_strs, ne_strs_str, ne_deeds, ne_hunks, notin_kinds, notin_kindsT, add_int, sub_int, mod_int, div3, div4, callV, listV, flat_str, slice_map, append_str, snoc_str, List.all_cons, List.all_nil, List.map_cons, List.map_nil, Bool.false_eq_true, if_false, ofString_inj, ne_eq, String.reduceEq, not_false_eq_true, Bool.not_true, Bool.not_false, reduceCtorEq, and_true, true_and, and_self, small, Nat.reduceAdd, Nat.reduceLeDiff, bindPV, maskη, List.lookup_cons, List.lookup_nil, str_beq, decide_true, decide_false, Option.map_some, Option.some.injEq, encP, hlen]
    rw [len_lst (by simp [small]; omega)]
    simp only [List.length_cons, List.length_nil, if_true, V_s, V_e, V_t, V_j, V_ok, ev_cN, ev_cB, ev_cI, ev_cS, ev_nm, ev_bin, ev_tup, ev_lst, ev_sl, ev_ixC, ev_ixN, ev_ixB, ev_ixK, ev_call, ev_comp, tv_not, tv_lt, tv_le, tv_gt, tv_ge, tv_eq, tv_ne, tv_ni, tv_nm, tv_call, jv_c, jv_f, fmt_ok, it_nm, it_bin, it_sub, nameV, upd_eq, upd_ne, Rz.bind_ok, Rz.bind_err, Rz.strict, sq_l, sq_t, List.length_map, List.length_append, scal, Bool.false_or, Bool.true_or, Bool.or_false, Bool.or_true, Bool.and_true, Bool.true_and, Bool.and_false, Bool.false_and, Bool.and_self, Bool.or_self, argsV, pt_n, pt_s, cd_n, cd_1, im_l, im_t, item0, item1, item2, elemV, sc, encD, encDs, encH, ne_str, eq_str, lt_int, le_int, gt_int, ge_int, eq_int, ne_int, eq_strs, ne_strs, ne_str_strs, ne_strs_str, ne_deeds, ne_hunks, notin_kinds, notin_kindsT, add_int, sub_int, mod_int, div3, div4, callV, listV, flat_str, slice_map, append_str, snoc_str, List.all_cons, List.all_nil, List.map_cons, List.map_nil, Bool.false_eq_true, if_false, ofString_inj, ne_eq, String.reduceEq, not_false_eq_true, Bool.not_true, Bool.not_false, reduceCtorEq, and_true, true_and, and_self, small, Nat.reduceAdd, Nat.reduceLeDiff, bindPV, maskη, List.lookup_cons, List.lookup_nil, str_beq, decide_true, decide_false, Option.map_some, Option.some.injEq, encP]
  · have hb : k < ns.length := by simpa using hb
    refine p_ret (d := .int (cellD ns k)) (b := true) (m := true) ?_ rfl
    simp only [List.length_cons, List.length_nil, if_true, V_s, V_e, V_t, V_j, V_ok, ev_cN, ev_cB, ev_cI, ev_cS, ev_nm, ev_bin, ev_tup, ev_lst, ev_sl, ev_ixC, ev_ixN, ev_ixB, ev_ixK, ev_call, ev_comp, tv_not, tv_lt, tv_le, tv_gt, tv_ge, tv_eq, tv_ne, tv_ni, tv_nm, tv_call, jv_c, jv_f, fmt_ok, it_nm, it_bin, it_sub, nameV, upd_eq, upd_ne, Rz.bind_ok, Rz.bind_err, Rz.strict, sq_l, sq_t, List.length_map, List.length_append, scal, Bool.false_or, Bool.true_or, Bool.or_false, Bool.or_true, Bool.and_true, Bool.true_and, Bool.and_false, Bool.false_and, Bool.and_self, Bool.or_self, argsV, pt_n, pt_s, cd_n, cd_1, im_l, im_t, item0, item1, item2, elemV, sc, encD, encDs, encH, ne_str, eq_str, lt_int, le_int, gt_int, ge_int, eq_int, ne_int, eq_strs, ne_strs, ne_str_strs, ne_strs_str, ne_deeds, ne_hunks, notin_kinds, notin_kindsT, add_int, sub_int, mod_int, div3, div4, callV, listV, flat_str, slice_map, append_str, snoc_str, List.all_cons, List.all_nil, List.map_cons, List.map_nil, Bool.false_eq_true, if_false, ofString_inj, ne_eq, String.reduceEq, not_false_eq_true, Bool.not_true, Bool.not_false, reduceCtorEq, and_true, true_and, and_self, small, Nat.reduceAdd, Nat.reduceLeDiff, bindPV, maskη, List.lookup_cons, List.lookup_nil, str_beq, decide_true, decide_false, Option.map_some, Option.some.injEq, encP]
    rw [item_at (d := .int (cellD ns k)) (by simp [cellD, hb]) (by omega) (by omega)]
    simp only [List.length_cons, List.length_nil, if_true, V_s, V_e, V_t, V_j, V_ok, ev_cN, ev_cB, ev_cI, ev_cS, ev_nm, ev_bin, ev_tup, ev_lst, ev_sl, ev_ixC, ev_ixN, ev_ixB, ev_ixK, ev_call, ev_comp, tv_not, tv_lt, tv_le, tv_gt, tv_ge, tv_eq, tv_ne, tv_ni, tv_nm, tv_call, jv_c, jv_f, fmt_ok, it_nm, it_bin, it_sub, nameV, upd_eq, upd_ne, Rz.bind_ok, Rz.bind_err, Rz.strict, sq_l, sq_t, List.length_map, List.length_append, scal, Bool.false_or, Bool.true_or, Bool.or_false, Bool.or_true, Bool.and_true, Bool.true_and, Bool.and_false, Bool.false_and, Bool.and_self, Bool.or_self, argsV, pt_n, pt_s, cd_n, cd_1, im_l, im_t, item0, item1, item2, elemV, sc, encD, encDs, encH, ne_str, eq_str, lt_int, le_int, gt_int, ge_int, eq_int, ne_int, eq_strs, ne_strs, ne_str_strs, ne_strs_str, ne_deeds, ne_hunks, notin_kinds, notin_kindsT, add_int, sub_int, mod_int, div3, div4, callV, listV, flat_str, slice_map, append_str, snoc_str, List.all_cons, List.all_nil, List.map_cons, List.map_nil, Bool.false_eq_true, if_false, ofString_inj, ne_eq, String.reduceEq, not_false_eq_true, Bool.not_true, Bool.not_false, reduceCtorEq, and_true, true_and, and_self, small, Nat.reduceAdd, Nat.reduceLeDiff, bindPV, maskη, List.lookup_cons, List.lookup_nil, str_beq, decide_true, decide_false, Option.map_some, Option.some.injEq, encP]
  · have hb : ¬ k < ns.length := by simpa using hb
    refine p_ret (d := .int k) (b := true) (m := true) (by simp only [List.length_cons, List.length_nil, if_true, V_s, V_e, V_t, V_j, V_ok, ev_cN, ev_cB, ev_cI, ev_cS, ev_nm, ev_bin, ev_tup, ev_lst, ev_sl, ev_ixC, ev_ixN, ev_ixB, ev_ixK, ev_call, ev_comp, tv_not, tv_lt, tv_le, tv_gt, tv_ge, tv_eq, tv_ne, tv_ni, tv_nm, tv_call, jv_c, jv_f, fmt_ok, it_nm, it_bin, it_sub, nameV, upd_eq, upd_ne, Rz.bind_ok, Rz.bind_err, Rz.strict, sq_l, sq_t, List.length_map, List.length_append, scal, Bool.false_or, Bool.true_or, Bool.or_false, Bool.or_true, Bool.and_true, Bool.true_and, Bool.and_false, Bool.false_and, Bool.and_self, Bool.or_self, argsV, pt_n, pt_s, cd_n, cd_1, im_l, im_t, item0, item1, item2, elemV, sc, encD, encDs, encH, ne_str, eq_str, lt_int, le_int, gt_int, ge_int, eq_int, ne_int, eq_strs, ne_strs, ne_str_strs, ne_strs_str, ne_deeds, ne_hunks, notin_kinds, notin_kindsT, add_int, sub_int, mod_int, div3, div4, callV, listV, flat_str, slice_map, append_str, snoc_str, List.all_cons, List.all_nil, List.map_cons, List.map_nil, Bool.false_eq_true, if_false, ofString_inj, ne_eq, String.reduceEq, not_false_eq_true, Bool.not_true, Bool.not_false, reduceCtorEq, and_true, true_and, and_self, small, Nat.reduceAdd, Nat.reduceLeDiff, bindPV, maskη, List.lookup_cons, List.lookup_nil, str_beq, decide_true, decide_false, Option.map_some, Option.some.injEq, encP]) ?_
    show _ = _
    simp [cellD, List.getElem?_eq_none (by omega : ns.length ≤ k)]

structure CellFn (Θ : VThy) (ns : List Int) : Prop where
  cell : ∃ φ, Θ.fn (Str.ofString "_law_cell") = some φ ∧ ∀ k : Nat, k ≤ 1000 → φ [.list (ns.map .int), .int k] = .ok (.int (cellD ns k), true)

theorem without_ok (n : Nat) (ds : List (Str × Str)) (h : ds.length ≤ 2000) (k : Str) : callVF Θ (n + 20) ["deeds", "kind"] (bodyOf pw 11) [.list (ds.map encD), .str k] = .ok (.list ((wo ds k).map .str), true) := by
  refine call_of rfl ?_
  (unfold bodyOf pw PySem.Challenge.pw_pd_weave_3_05; dsimp only [List.getElem?_cons_succ, List.getElem?_cons_zero])
  refine p_ret (d := .list ((wo ds k).map .str)) (b := true) (m := true) ?_ rfl
  refine e_comp (vi := ⟨ds.map encD, false, false⟩) (by simp only [List.length_cons, List.length_nil, if_true, V_s, V_e, V_t, V_j, V_ok, ev_cN, ev_cB, ev_cI, ev_cS, ev_nm, ev_bin, ev_tup, ev_lst, ev_sl, ev_ixC, ev_ixN, ev_ixB, ev_ixK, ev_call, ev_comp, tv_not, tv_lt, tv_le, tv_gt, tv_ge, tv_eq, tv_ne, tv_ni, tv_nm, tv_call, jv_c, jv_f, fmt_ok, it_nm, it_bin, it_sub, nameV, upd_eq, upd_ne, Rz.bind_ok, Rz.bind_err, Rz.strict, sq_l, sq_t, List.length_map, List.length_append, scal, Bool.false_or, Bool.true_or, Bool.or_false, Bool.or_true, Bool.and_true, Bool.true_and, Bool.and_false, Bool.false_and, Bool.and_self, Bool.or_self, argsV, pt_n, pt_s, cd_n, cd_1, im_l, im_t, item0, item1, item2, elemV, sc, encD, encDs, encH, ne_str, eq_str, lt_int, le_int, gt_int, ge_int, eq_int, ne_int, eq_strs, ne_strs, ne_str_strs, ne_strs_str, ne_deeds, ne_hunks, notin_kinds, notin_kindsT, add_int, sub_int, mod_int, div3, div4, callV, listV, flat_str, slice_map, append_str, snoc_str, List.all_cons, List.all_nil, List.map_cons, List.map_nil, Bool.false_eq_true, if_false, ofString_inj, ne_eq, String.reduceEq, not_false_eq_true, Bool.not_true, Bool.not_false, reduceCtorEq, and_true, true_and, and_self, small, Nat.reduceAdd, Nat.reduceLeDiff, bindPV, maskη, List.lookup_cons, List.lookup_nil, str_beq, decide_true, decide_false, Option.map_some, Option.some.injEq, encP]; rw [if_pos (by omega)]) ?_
  dsimp only
  rw [compV_map encD (fun d => decide (d.1 ≠ k)) (fun d => .str d.2) ds]
  · simp [Function.comp_def, wo]
  · intro d _
    simp only [List.length_cons, List.length_nil, if_true, V_s, V_e, V_t, V_j, V_ok, ev_cN, ev_cB, ev_cI, ev_cS, ev_nm, ev_bin, ev_tup, ev_lst, ev_sl, ev_ixC, ev_ixN, ev_ixB, ev_ixK, ev_call, ev_comp, tv_not, tv_lt, tv_le, tv_gt, tv_ge, tv_eq, tv_ne, tv_ni, tv_nm, tv_call, jv_c, jv_f, fmt_ok, it_nm, it_bin, it_sub, nameV, upd_eq, upd_ne, Rz.bind_ok, Rz.bind_err, Rz.strict, sq_l, sq_t, List.length_map, List.length_append, scal, Bool.false_or, Bool.true_or, Bool.or_false, Bool.or_true, Bool.and_true, Bool.true_and, Bool.and_false, Bool.false_and, Bool.and_self, Bool.or_self, argsV, pt_n, pt_s, cd_n, cd_1, im_l, im_t, item0, item1, item2, elemV, sc, encD, encDs, encH, ne_str, eq_str, lt_int, le_int, gt_int, ge_int, eq_int, ne_int, eq_strs, ne_strs, ne_str_strs, ne_strs_str, ne_deeds, ne_hunks, notin_kinds, notin_kindsT, add_int, sub_int, mod_int, div3, div4, callV, listV, flat_str, slice_map, append_str, snoc_str, List.all_cons, List.all_nil, List.map_cons, List.map_nil, Bool.false_eq_true, if_false, ofString_inj, ne_eq, String.reduceEq, not_false_eq_true, Bool.not_true, Bool.not_false, reduceCtorEq, and_true, true_and, and_self, small, Nat.reduceAdd, Nat.reduceLeDiff, bindPV, maskη, List.lookup_cons, List.lookup_nil, str_beq, decide_true, decide_false, Option.map_some, Option.some.injEq, encP]
  · intro d _ _
    simp only [List.length_cons, List.length_nil, if_true, V_s, V_e, V_t, V_j, V_ok, ev_cN, ev_cB, ev_cI, ev_cS, ev_nm, ev_bin, ev_tup, ev_lst, ev_sl, ev_ixC, ev_ixN, ev_ixB, ev_ixK, ev_call, ev_comp, tv_not, tv_lt, tv_le, tv_gt, tv_ge, tv_eq, tv_ne, tv_ni, tv_nm, tv_call, jv_c, jv_f, fmt_ok, it_nm, it_bin, it_sub, nameV, upd_eq, upd_ne, Rz.bind_ok, Rz.bind_err, Rz.strict, sq_l, sq_t, List.length_map, List.length_append, scal, Bool.false_or, Bool.true_or, Bool.or_false, Bool.or_true, Bool.and_true, Bool.true_and, Bool.and_false, Bool.false_and, Bool.and_self, Bool.or_self, argsV, pt_n, pt_s, cd_n, cd_1, im_l, im_t, item0, item1, item2, elemV, sc, encD, encDs, encH, ne_str, eq_str, lt_int, le_int, gt_int, ge_int, eq_int, ne_int, eq_strs, ne_strs, ne_str_strs, ne_strs_str, ne_deeds, ne_hunks, notin_kinds, notin_kindsT, add_int, sub_int, mod_int, div3, div4, callV, listV, flat_str, slice_map, append_str, snoc_str, List.all_cons, List.all_nil, List.map_cons, List.map_nil, Bool.false_eq_true, if_false, ofString_inj, ne_eq, String.reduceEq, not_false_eq_true, Bool.not_true, Bool.not_false, reduceCtorEq, and_true, true_and, and_self, small, Nat.reduceAdd, Nat.reduceLeDiff, bindPV, maskη, List.lookup_cons, List.lookup_nil, str_beq, decide_true, decide_false, Option.map_some, Option.some.injEq, encP]

structure D5Env (ns : List Int) (at_ : Nat) (xs : List Str) (p : Nat) (ds : List (Str × Str)) (η : VEnv) : Prop where
  script : η (Str.ofString "script") = some ⟨.list (ns.map .int), false, false⟩
  at_ : η (Str.ofString "at") = some ⟨.int at_, false, true⟩
  text : η (Str.ofString "text") = some ⟨.list (xs.map .str), false, false⟩
  place : η (Str.ofString "place") = some ⟨.int (p + (src ds).length : Nat), false, true⟩
  deeds : η (Str.ofString "deeds") = some ⟨.list (ds.map encD), true, true⟩
  gl : η (Str.ofString "_law_LINES") = none
  gk : η (Str.ofString "_law_KINDS") = none
noncomputable def D5Inv (ns : List Int) (at_ : Nat) (xs : List Str) (p c : Nat) (k : Nat) (η : VEnv) : Prop := ∃ ds : List (Str × Str), (∀ d ∈ ds, kn d.1 = true) ∧ ds.length + k ≤ c ∧ src ds <+: xs.drop p ∧ D5Env ns at_ xs p ds η

theorem pre_snoc {xs ys : List Str} {p : Nat} (h : ys <+: xs.drop p) (hl : p + ys.length < xs.length) : ys ++ [xs[p + ys.length]] <+: xs.drop p := by
  obtain ⟨t, ht⟩ := h
  cases t with
  | nil =>
    rw [List.append_nil] at ht
    have := congrArg List.length ht
    simp at this
    omega
  | cons a t =>
    have e : (xs.drop p)[ys.length]? = some a := by rw [← ht]; simp
    rw [List.getElem?_drop, List.getElem?_eq_getElem hl] at e
    rw [← ht, Option.some.inj e]
    exact ⟨t, by simp⟩

theorem deeds_turn (n : Nat) (ns : List Int) (C : CellFn Θ ns) (B : Θ.fn (Str.ofString "len") = none) (L K : List Str) (hL : L.length = 3) (hl : Θ.glob (Str.ofString "_law_LINES") = some (.tuple (L.map .str))) (hK : K.length = 3) (hkn : ∀ k ∈ K, kn k = true)
    (hk : Θ.glob (Str.ofString "_law_KINDS") = some (.tuple (K.map .str))) (at_ : Nat) (hat : at_ ≤ 100) (xs : List Str) (hx : xs.length ≤ 6) (p c : Nat) (hp : p ≤ 100) (hc : c ≤ 3) (i k : Nat) (hi : i < 4) (η : VEnv) (Q : Out → Prop) (hinv : D5Inv ns at_ xs p c (k + 1) η) (h : ∀ η', D5Inv ns at_ xs p c k η' → Q (.next η')) :
    Post (seqV (V Θ (n + 15)).s (loopOf (bodyOf pw 9) 1) (updV η (Str.ofString "step") ⟨encN i, false, scal (encN i) || true⟩)) Q := by
  obtain ⟨φ, h1, h2⟩ := C.cell
  obtain ⟨ds, hds, hlen, hpre, E⟩ := hinv
  unfold loopOf
  (unfold bodyOf pw PySem.Challenge.pw_pd_weave_3_05; dsimp only [List.getElem?_cons_succ, List.getElem?_cons_zero])
  obtain ⟨r, hr, hr9⟩ := fmod_nat (cellD ns (at_ + i)) 9 (by decide)
  have hr : (cellD ns (at_ + i)).fmod 9 = r := hr
  have h2k := h2 (at_ + i) (by omega)
  simp only [Int.natCast_add] at h2k
  have hm3 : (r : Int).fmod 3 = ((r % 3 : Nat) : Int) := fmod_cast r 3
  have hd3 : (r : Int).fdiv 3 = ((r / 3 : Nat) : Int) := fdiv_nat r 3
  have hsl := src_len ds
  refine p_asgS (d := .int r) (b := true) (m := true) ?_ rfl ?_
  · simp only [List.length_cons, List.length_nil, if_true, V_s, V_e, V_t, V_j, V_ok, ev_cN, ev_cB, ev_cI, ev_cS, ev_nm, ev_bin, ev_tup, ev_lst, ev_sl, ev_ixC, ev_ixN, ev_ixB, ev_ixK, ev_call, ev_comp, tv_not, tv_lt, tv_le, tv_gt, tv_ge, tv_eq, tv_ne, tv_ni, tv_nm, tv_call, jv_c, jv_f, fmt_ok, it_nm, it_bin, it_sub, nameV, upd_eq, upd_ne, Rz.bind_ok, Rz.bind_err, Rz.strict, sq_l, sq_t, List.length_map, List.length_append, scal, Bool.false_or, Bool.true_or, Bool.or_false, Bool.or_true, Bool.and_true, Bool.true_and, Bool.and_false, Bool.false_and, Bool.and_self, Bool.or_self, argsV, pt_n, pt_s, cd_n, cd_1, im_l, im_t, item0, item1, item2, elemV, sc, encD, encDs, encH, ne_str, eq_str, lt_int, le_int, gt_int, ge_int, eq_int, ne_int, eq_strs, ne_strs, ne_str_strs, ne_strs_str, ne_deeds, ne_hunks, notin_kinds, notin_kindsT, add_int, sub_int, mod_int, div3, div4, callV, listV, flat_str, slice_map, append_str, snoc_str, List.all_cons, List.all_nil, List.map_cons, List.map_nil, Bool.false_eq_true, if_false, ofString_inj, ne_eq, String.reduceEq, not_false_eq_true, Bool.not_true, Bool.not_false, reduceCtorEq, and_true, true_and, and_self, small, Nat.reduceAdd, Nat.reduceLeDiff, bindPV, maskη, List.lookup_cons, List.lookup_nil, str_beq, decide_true, decide_false, Option.map_some, Option.some.injEq, encP, encN, E.script, E.at_, h1, h2k]
    rw [mod_int _ _ _ _ _ _ (by decide), hr]
    rfl
  refine p_asgS (d := .str (lineAt K (r % 3))) (b := true) (m := true) ?_ rfl ?_
  · simp only [List.length_cons, List.length_nil, if_true, V_s, V_e, V_t, V_j, V_ok, ev_cN, ev_cB, ev_cI, ev_cS, ev_nm, ev_bin, ev_tup, ev_lst, ev_sl, ev_ixC, ev_ixN, ev_ixB, ev_ixK, ev_call, ev_comp, tv_not, tv_lt, tv_le, tv_gt, tv_ge, tv_eq, tv_ne, tv_ni, tv_nm, tv_call, jv_c, jv_f, fmt_ok, it_nm, it_bin, it_sub, nameV, upd_eq, upd_ne, Rz.bind_ok, Rz.bind_err, Rz.strict, sq_l, sq_t, List.length_map, List.length_append, scal, Bool.false_or, Bool.true_or, Bool.or_false, Bool.or_true, Bool.and_true, Bool.true_and, Bool.and_false, Bool.false_and, Bool.and_self, Bool.or_self, argsV, pt_n, pt_s, cd_n, cd_1, im_l, im_t, item0, item1, item2, elemV, sc, encD, encDs, encH, ne_str, eq_str, lt_int, le_int, gt_int, ge_int, eq_int, ne_int, eq_strs, ne_strs, ne_str_strs, ne_strs_str, ne_deeds, ne_hunks, notin_kinds, notin_kindsT, add_int, sub_int, mod_int, div3, div4, callV, listV, flat_str, slice_map, append_str, snoc_str, List.all_cons, List.all_nil, List.map_cons, List.map_nil, Bool.false_eq_true, if_false, ofString_inj, ne_eq, String.reduceEq, not_false_eq_true, Bool.not_true, Bool.not_false, reduceCtorEq, and_true, true_and, and_self, small, Nat.reduceAdd, Nat.reduceLeDiff, bindPV, maskη, List.lookup_cons, List.lookup_nil, str_beq, decide_true, decide_false, Option.map_some, Option.some.injEq, encP, hk, E.gk]
    rw [mod_int _ _ _ _ _ _ (by decide), hm3]
    simp only [List.length_cons, List.length_nil, if_true, V_s, V_e, V_t, V_j, V_ok, ev_cN, ev_cB, ev_cI, ev_cS, ev_nm, ev_bin, ev_tup, ev_lst, ev_sl, ev_ixC, ev_ixN, ev_ixB, ev_ixK, ev_call, ev_comp, tv_not, tv_lt, tv_le, tv_gt, tv_ge, tv_eq, tv_ne, tv_ni, tv_nm, tv_call, jv_c, jv_f, fmt_ok, it_nm, it_bin, it_sub, nameV, upd_eq, upd_ne, Rz.bind_ok, Rz.bind_err, Rz.strict, sq_l, sq_t, List.length_map, List.length_append, scal, Bool.false_or, Bool.true_or, Bool.or_false, Bool.or_true, Bool.and_true, Bool.true_and, Bool.and_false, Bool.false_and, Bool.and_self, Bool.or_self, argsV, pt_n, pt_s, cd_n, cd_1, im_l, im_t, item0, item1, item2, elemV, sc, encD, encDs, encH, ne_str, eq_str, lt_int, le_int, gt_int, ge_int, eq_int, ne_int, eq_strs, ne_strs, ne_str_strs, ne_strs_str, ne_deeds, ne_hunks, notin_kinds, notin_kindsT, add_int, sub_int, mod_int, div3, div4, callV, listV, flat_str, slice_map, append_str, snoc_str, List.all_cons, List.all_nil, List.map_cons, List.map_nil, Bool.false_eq_true, if_false, ofString_inj, ne_eq, String.reduceEq, not_false_eq_true, Bool.not_true, Bool.not_false, reduceCtorEq, and_true, true_and, and_self, small, Nat.reduceAdd, Nat.reduceLeDiff, bindPV, maskη, List.lookup_cons, List.lookup_nil, str_beq, decide_true, decide_false, Option.map_some, Option.some.injEq, encP]
    rw [pick_str K (by omega) (by omega)]
  have hkk : kn (lineAt K (r % 3)) = true := hkn _ (lineAt_mem (by omega))
  generalize lineAt K (r % 3) = kd at hkk ⊢
  refine p_if (b := decide (kd = Str.ofString "add") || decide ((xs.length : Int) ≤ (p + (src ds).length : Nat))) ?_ (fun _ => ?_) (fun hb => ?_)
  · refine t_or2 (by simp only [List.length_cons, List.length_nil, if_true, V_s, V_e, V_t, V_j, V_ok, ev_cN, ev_cB, ev_cI, ev_cS, ev_nm, ev_bin, ev_tup, ev_lst, ev_sl, ev_ixC, ev_ixN, ev_ixB, ev_ixK, ev_call, ev_comp, tv_not, tv_lt, tv_le, tv_gt, tv_ge, tv_eq, tv_ne, tv_ni, tv_nm, tv_call, jv_c, jv_f, fmt_ok, it_nm, it_bin, it_sub, nameV, upd_eq, upd_ne, Rz.bind_ok, Rz.bind_err, Rz.strict, sq_l, sq_t, List.length_map, List.length_append, scal, Bool.false_or, Bool.true_or, Bool.or_false, Bool.or_true, Bool.and_true, Bool.true_and, Bool.and_false, Bool.false_and, Bool.and_self, Bool.or_self, argsV, pt_n, pt_s, cd_n, cd_1, im_l, im_t, item0, item1, item2, elemV, sc, encD, encDs, encH, ne_str, eq_str, lt_int, le_int, gt_int, ge_int, eq_int, ne_int, eq_strs, ne_strs, ne_str_strs, ne_strs_str, ne_deeds, ne_hunks, notin_kinds, notin_kindsT, add_int, sub_int, mod_int, div3, div4, callV, listV, flat_str, slice_map, append_str, snoc_str, List.all_cons, List.all_nil, List.map_cons, List.map_nil, Bool.false_eq_true, if_false, ofString_inj, ne_eq, String.reduceEq, not_false_eq_true, Bool.not_true, Bool.not_false, reduceCtorEq, and_true, true_and, and_self, small, Nat.reduceAdd, Nat.reduceLeDiff, bindPV, maskη, List.lookup_cons, List.lookup_nil, str_beq, decide_true, decide_false, Option.map_some, Option.some.injEq, encP]) (fun _ => ?_)
    simp only [List.length_cons, List.length_nil, if_true, V_s, V_e, V_t, V_j, V_ok, ev_cN, ev_cB, ev_cI, ev_cS, ev_nm, ev_bin, ev_tup, ev_lst, ev_sl, ev_ixC, ev_ixN, ev_ixB, ev_ixK, ev_call, ev_comp, tv_not, tv_lt, tv_le, tv_gt, tv_ge, tv_eq, tv_ne, tv_ni, tv_nm, tv_call, jv_c, jv_f, fmt_ok, it_nm, it_bin, it_sub, nameV, upd_eq, upd_ne, Rz.bind_ok, Rz.bind_err, Rz.strict, sq_l, sq_t, List.length_map, List.length_append, scal, Bool.false_or, Bool.true_or, Bool.or_false, Bool.or_true, Bool.and_true, Bool.true_and, Bool.and_false, Bool.false_and, Bool.and_self, Bool.or_self, argsV, pt_n, pt_s, cd_n, cd_1, im_l, im_t, item0, item1, item2, elemV, sc, encD, encDs, encH, ne_str, eq_str, lt_int, le_int, gt_int, ge_int, eq_int, ne_int, eq_strs, ne_strs, ne_str_strs, ne_strs_str, ne_deeds, ne_hunks, notin_kinds, notin_kindsT, add_int, sub_int, mod_int, div3, div4, callV, listV, flat_str, slice_map, append_str, snoc_str, List.all_cons, List.all_nil, List.map_cons, List.map_nil, Bool.false_eq_true, if_false, ofString_inj, ne_eq, String.reduceEq, not_false_eq_true, Bool.not_true, Bool.not_false, reduceCtorEq, and_true, true_and, and_self, small, Nat.reduceAdd, Nat.reduceLeDiff, bindPV, maskη, List.lookup_cons, List.lookup_nil, str_beq, decide_true, decide_false, Option.map_some, Option.some.injEq, encP, E.text, E.place, B]
    rw [len_lst (by simp [small]; omega)]
    simp only [List.length_cons, List.length_nil, if_true, V_s, V_e, V_t, V_j, V_ok, ev_cN, ev_cB, ev_cI, ev_cS, ev_nm, ev_bin, ev_tup, ev_lst, ev_sl, ev_ixC, ev_ixN, ev_ixB, ev_ixK, ev_call, ev_comp, tv_not, tv_lt, tv_le, tv_gt, tv_ge, tv_eq, tv_ne, tv_ni, tv_nm, tv_call, jv_c, jv_f, fmt_ok, it_nm, it_bin, it_sub, nameV, upd_eq, upd_ne, Rz.bind_ok, Rz.bind_err, Rz.strict, sq_l, sq_t, List.length_map, List.length_append, scal, Bool.false_or, Bool.true_or, Bool.or_false, Bool.or_true, Bool.and_true, Bool.true_and, Bool.and_false, Bool.false_and, Bool.and_self, Bool.or_self, argsV, pt_n, pt_s, cd_n, cd_1, im_l, im_t, item0, item1, item2, elemV, sc, encD, encDs, encH, ne_str, eq_str, lt_int, le_int, gt_int, ge_int, eq_int, ne_int, eq_strs, ne_strs, ne_str_strs, ne_strs_str, ne_deeds, ne_hunks, notin_kinds, notin_kindsT, add_int, sub_int, mod_int, div3, div4, callV, listV, flat_str, slice_map, append_str, snoc_str, List.all_cons, List.all_nil, List.map_cons, List.map_nil, Bool.false_eq_true, if_false, ofString_inj, ne_eq, String.reduceEq, not_false_eq_true, Bool.not_true, Bool.not_false, reduceCtorEq, and_true, true_and, and_self, small, Nat.reduceAdd, Nat.reduceLeDiff, bindPV, maskη, List.lookup_cons, List.lookup_nil, str_beq, decide_true, decide_false, Option.map_some, Option.some.injEq, encP]
  · refine p_app (ds := ds.map encD) (m := true) (d := encD (Str.ofString "add", lineAt L (r / 3))) (b := true) (mi := true) (by simp only [List.length_cons, List.length_nil, if_true, V_s, V_e, V_t, V_j, V_ok, ev_cN, ev_cB, ev_cI, ev_cS, ev_nm, ev_bin, ev_tup, ev_lst, ev_sl, ev_ixC, ev_ixN, ev_ixB, ev_ixK, ev_call, ev_comp, tv_not, tv_lt, tv_le, tv_gt, tv_ge, tv_eq, tv_ne, tv_ni, tv_nm, tv_call, jv_c, jv_f, fmt_ok, it_nm, it_bin, it_sub, nameV, upd_eq, upd_ne, Rz.bind_ok, Rz.bind_err, Rz.strict, sq_l, sq_t, List.length_map, List.length_append, scal, Bool.false_or, Bool.true_or, Bool.or_false, Bool.or_true, Bool.and_true, Bool.true_and, Bool.and_false, Bool.false_and, Bool.and_self, Bool.or_self, argsV, pt_n, pt_s, cd_n, cd_1, im_l, im_t, item0, item1, item2, elemV, sc, encD, encDs, encH, ne_str, eq_str, lt_int, le_int, gt_int, ge_int, eq_int, ne_int, eq_strs, ne_strs, ne_str_strs, ne_strs_str, ne_deeds, ne_hunks, notin_kinds, notin_kindsT, add_int, sub_int, mod_int, div3, div4, callV, listV, flat_str, slice_map, append_str, snoc_str, List.all_cons, List.all_nil, List.map_cons, List.map_nil, Bool.false_eq_true, if_false, ofString_inj, ne_eq, String.reduceEq, not_false_eq_true, Bool.not_true, Bool.not_false, reduceCtorEq, and_true, true_and, and_self, small, Nat.reduceAdd, Nat.reduceLeDiff, bindPV, maskη, List.lookup_cons, List.lookup_nil, str_beq, decide_true, decide_false, Option.map_some, Option.some.injEq, encP, E.deeds]) ?_ rfl (by simp [small]; omega) ?_
    · simp only [List.length_cons, List.length_nil, if_true, V_s, V_e, V_t, V_j, V_ok, ev_cN, ev_cB, ev_cI, ev_cS, ev_nm, ev_bin, ev_tup, ev_lst, ev_sl, ev_ixC, ev_ixN, ev_ixB, ev_ixK, ev_call, ev_comp, tv_not, tv_lt, tv_le, tv_gt, tv_ge, tv_eq, tv_ne, tv_ni, tv_nm, tv_call, jv_c, jv_f, fmt_ok, it_nm, it_bin, it_sub, nameV, upd_eq, upd_ne, Rz.bind_ok, Rz.bind_err, Rz.strict, sq_l, sq_t, List.length_map, List.length_append, scal, Bool.false_or, Bool.true_or, Bool.or_false, Bool.or_true, Bool.and_true, Bool.true_and, Bool.and_false, Bool.false_and, Bool.and_self, Bool.or_self, argsV, pt_n, pt_s, cd_n, cd_1, im_l, im_t, item0, item1, item2, elemV, sc, encD, encDs, encH, ne_str, eq_str, lt_int, le_int, gt_int, ge_int, eq_int, ne_int, eq_strs, ne_strs, ne_str_strs, ne_strs_str, ne_deeds, ne_hunks, notin_kinds, notin_kindsT, add_int, sub_int, mod_int, div3, div4, callV, listV, flat_str, slice_map, append_str, snoc_str, List.all_cons, List.all_nil, List.map_cons, List.map_nil, Bool.false_eq_true, if_false, ofString_inj, ne_eq, String.reduceEq, not_false_eq_true, Bool.not_true, Bool.not_false, reduceCtorEq, and_true, true_and, and_self, small, Nat.reduceAdd, Nat.reduceLeDiff, bindPV, maskη, List.lookup_cons, List.lookup_nil, str_beq, decide_true, decide_false, Option.map_some, Option.some.injEq, encP, hl, hd3, E.gl]
      rw [pick_str L (by omega) (by omega)]
      rfl
    · have e1 : ds.map encD ++ [encD (Str.ofString "add", lineAt L (r / 3))] = (ds ++ [(Str.ofString "add", lineAt L (r / 3))]).map encD := by simp
      have e2 : src (ds ++ [(Str.ofString "add", lineAt L (r / 3))]) = src ds := by rw [src_snoc, if_pos rfl]
      rw [e1]
      refine p_end (p_nil (h _ ⟨ds ++ [(Str.ofString "add", lineAt L (r / 3))], fun d hd => ?_, by simp; omega, by rw [e2]; exact hpre, ?_⟩))
      · rcases List.mem_append.mp hd with q | q
        · exact hds d q
        · simp at q; subst q; simp [kn]
      · exact ⟨by simp only [List.length_cons, List.length_nil, if_true, V_s, V_e, V_t, V_j, V_ok, ev_cN, ev_cB, ev_cI, ev_cS, ev_nm, ev_bin, ev_tup, ev_lst, ev_sl, ev_ixC, ev_ixN, ev_ixB, ev_ixK, ev_call, ev_comp, tv_not, tv_lt, tv_le, tv_gt, tv_ge, tv_eq, tv_ne, tv_ni, tv_nm, tv_call, jv_c, jv_f, fmt_ok, it_nm, it_bin, it_sub, nameV, upd_eq, upd_ne, Rz.bind_ok, Rz.bind_err, Rz.strict, sq_l, sq_t, List.length_map, List.length_append, scal, Bool.false_or, Bool.true_or, Bool.or_false, Bool.or_true, Bool.and_true, Bool.true_and, Bool.and_false, Bool.false_and, Bool.and_self, Bool.or_self, argsV, pt_n, pt_s, cd_n, cd_1, im_l, im_t, item0, item1, item2, elemV, sc, encD, encDs, encH, ne_str, eq_str, lt_int, le_int, gt_int, ge_int, eq_int, ne_int, eq_strs, ne_strs, ne_str_strs, ne_strs_str, ne_deeds, ne_hunks, notin_kinds, notin_kindsT, add_int, sub_int, mod_int, div3, div4, callV, listV, flat_str, slice_map, append_str, snoc_str, List.all_cons, List.all_nil, List.map_cons, List.map_nil, Bool.false_eq_true, if_false, ofString_inj, ne_eq, String.reduceEq, not_false_eq_true, Bool.not_true, Bool.not_false, reduceCtorEq, and_true, true_and, and_self, small, Nat.reduceAdd, Nat.reduceLeDiff, bindPV, maskη, List.lookup_cons, List.lookup_nil, str_beq, decide_true, decide_false, Option.map_some, Option.some.injEq, encP, E.script], by simp only [List.length_cons, List.length_nil, if_true, V_s, V_e, V_t, V_j, V_ok, ev_cN, ev_cB, ev_cI, ev_cS, ev_nm, ev_bin, ev_tup, ev_lst, ev_sl, ev_ixC, ev_ixN, ev_ixB, ev_ixK, ev_call, ev_comp, tv_not, tv_lt, tv_le, tv_gt, tv_ge, tv_eq, tv_ne, tv_ni, tv_nm, tv_call, jv_c, jv_f, fmt_ok, it_nm, it_bin, it_sub, nameV, upd_eq, upd_ne, Rz.bind_ok, Rz.bind_err, Rz.strict, sq_l, sq_t, List.length_map, List.length_append, scal, Bool.false_or, Bool.true_or, Bool.or_false, Bool.or_true, Bool.and_true, Bool.true_and, Bool.and_false, Bool.false_and, Bool.and_self, Bool.or_self, argsV, pt_n, pt_s, cd_n, cd_1, im_l, im_t, item0, item1, item2, elemV, sc, encD, encDs, encH, ne_str, eq_str, lt_int, le_int, gt_int, ge_int, eq_int, ne_int, eq_strs, ne_strs, ne_str_strs, ne_strs_str, ne_deeds, ne_hunks, notin_kinds, notin_kindsT, add_int, sub_int, mod_int, div3, div4, callV, listV, flat_str, slice_map, append_str, snoc_str, List.all_cons, List.all_nil, List.map_cons, List.map_nil, Bool.false_eq_true, if_false, ofString_inj, ne_eq, String.reduceEq, not_false_eq_true, Bool.not_true, Bool.not_false, reduceCtorEq, and_true, true_and, and_self, small, Nat.reduceAdd, Nat.reduceLeDiff, bindPV, maskη, List.lookup_cons, List.lookup_nil, str_beq, decide_true, decide_false, Option.map_some, Option.some.injEq, encP, E.at_], by simp only [List.length_cons, List.length_nil, if_true, V_s, V_e, V_t, V_j, V_ok, ev_cN, ev_cB, ev_cI, ev_cS, ev_nm, ev_bin, ev_tup, ev_lst, ev_sl, ev_ixC, ev_ixN, ev_ixB, ev_ixK, ev_call, ev_comp, tv_not, tv_lt, tv_le, tv_gt, tv_ge, tv_eq, tv_ne, tv_ni, tv_nm, tv_call, jv_c, jv_f, fmt_ok, it_nm, it_bin, it_sub, nameV, upd_eq, upd_ne, Rz.bind_ok, Rz.bind_err, Rz.strict, sq_l, sq_t, List.length_map, List.length_append, scal, Bool.false_or, Bool.true_or, Bool.or_false, Bool.or_true, Bool.and_true, Bool.true_and, Bool.and_false, Bool.false_and, Bool.and_self, Bool.or_self, argsV, pt_n, pt_s, cd_n, cd_1, im_l, im_t, item0, item1, item2, elemV, sc, encD, encDs, encH, ne_str, eq_str, lt_int, le_int, gt_int, ge_int, eq_int, ne_int, eq_strs, ne_strs, ne_str_strs, ne_strs_str, ne_deeds, ne_hunks, notin_kinds, notin_kindsT, add_int, sub_int, mod_int, div3, div4, callV, listV, flat_str, slice_map, append_str, snoc_str, List.all_cons, List.all_nil, List.map_cons, List.map_nil, Bool.false_eq_true, if_false, ofString_inj, ne_eq, String.reduceEq, not_false_eq_true, Bool.not_true, Bool.not_false, reduceCtorEq, and_true, true_and, and_self, small, Nat.reduceAdd, Nat.reduceLeDiff, bindPV, maskη, List.lookup_cons, List.lookup_nil, str_beq, decide_true, decide_false, Option.map_some, Option.some.injEq, encP, E.text], by rw [e2]; simp only [List.length_cons, List.length_nil, if_true, V_s, V_e, V_t, V_j, V_ok, ev_cN, ev_cB, ev_cI, ev_cS, ev_nm, ev_bin, ev_tup, ev_lst, ev_sl, ev_ixC, ev_ixN, ev_ixB, ev_ixK, ev_call, ev_comp, tv_not, tv_lt, tv_le, tv_gt, tv_ge, tv_eq, tv_ne, tv_ni, tv_nm, tv_call, jv_c, jv_f, fmt_ok, it_nm, it_bin, it_sub, nameV, upd_eq, upd_ne, Rz.bind_ok, Rz.bind_err, Rz.strict, sq_l, sq_t, List.length_map, List.length_append, scal, Bool.false_or, Bool.true_or, Bool.or_false, Bool.or_true, Bool.and_true, Bool.true_and, Bool.and_false, Bool.false_and, Bool.and_self, Bool.or_self, argsV, pt_n, pt_s, cd_n, cd_1, im_l, im_t, item0, item1, item2, elemV, sc, encD, encDs, encH, ne_str, eq_str, lt_int, le_int, gt_int, ge_int, eq_int, ne_int, eq_strs, ne_strs, ne_str_strs, ne_strs_str, ne_deeds, ne_hunks, notin_kinds, notin_kindsT, add_int, sub_int, mod_int, div3, div4, callV, listV, flat_str, slice_map, append_str, snoc_str, List.all_cons, List.all_nil, List.map_cons, List.map_nil, Bool.false_eq_true, if_false, ofString_inj, ne_eq, String.reduceEq, not_false_eq_true, Bool.not_true, Bool.not_false, reduceCtorEq, and_true, true_and, and_self, small, Nat.reduceAdd, Nat.reduceLeDiff, bindPV, maskη, List.lookup_cons, List.lookup_nil, str_beq, decide_true, decide_false, Option.map_some, Option.some.injEq, encP, E.place], by simp only [List.length_cons, List.length_nil, if_true, V_s, V_e, V_t, V_j, V_ok, ev_cN, ev_cB, ev_cI, ev_cS, ev_nm, ev_bin, ev_tup, ev_lst, ev_sl, ev_ixC, ev_ixN, ev_ixB, ev_ixK, ev_call, ev_comp, tv_not, tv_lt, tv_le, tv_gt, tv_ge, tv_eq, tv_ne, tv_ni, tv_nm, tv_call, jv_c, jv_f, fmt_ok, it_nm, it_bin, it_sub, nameV, upd_eq, upd_ne, Rz.bind_ok, Rz.bind_err, Rz.strict, sq_l, sq_t, List.length_map, List.length_append, scal, Bool.false_or, Bool.true_or, Bool.or_false, Bool.or_true, Bool.and_true, Bool.true_and, Bool.and_false, Bool.false_and, Bool.and_self, Bool.or_self, argsV, pt_n, pt_s, cd_n, cd_1, im_l, im_t, item0, item1, item2, elemV, sc, encD, encDs, encH, ne_str, eq_str, lt_int, le_int, gt_int, ge_int, eq_int, ne_int, eq_strs, ne_strs, ne_str_strs, ne_strs_str, ne_deeds, ne_hunks, notin_kinds, notin_kindsT, add_int, sub_int, mod_int, div3, div4, callV, listV, flat_str, slice_map, append_str, snoc_str, List.all_cons, List.all_nil, List.map_cons, List.map_nil, Bool.false_eq_true, if_false, ofString_inj, ne_eq, String.reduceEq, not_false_eq_true, Bool.not_true, Bool.not_false, reduceCtorEq, and_true, true_and, and_self, small, Nat.reduceAdd, Nat.reduceLeDiff, bindPV, maskη, List.lookup_cons, List.lookup_nil, str_beq, decide_true, decide_false, Option.map_some, Option.some.injEq, encP], by simp only [List.length_cons, List.length_nil, if_true, V_s, V_e, V_t, V_j, V_ok, ev_cN, ev_cB, ev_cI, ev_cS, ev_nm, ev_bin, ev_tup, ev_lst, ev_sl, ev_ixC, ev_ixN, ev_ixB, ev_ixK, ev_call, ev_comp, tv_not, tv_lt, tv_le, tv_gt, tv_ge, tv_eq, tv_ne, tv_ni, tv_nm, tv_call, jv_c, jv_f, fmt_ok, it_nm, it_bin, it_sub, nameV, upd_eq, upd_ne, Rz.bind_ok, Rz.bind_err, Rz.strict, sq_l, sq_t, List.length_map, List.length_append, scal, Bool.false_or, Bool.true_or, Bool.or_false, Bool.or_true, Bool.and_true, Bool.true_and, Bool.and_false, Bool.false_and, Bool.and_self, Bool.or_self, argsV, pt_n, pt_s, cd_n, cd_1, im_l, im_t, item0, item1, item2, elemV, sc, encD, encDs, encH, ne_str, eq_str, lt_int, le_int, gt_int, ge_int, eq_int, ne_int, eq_strs, ne_strs, ne_str_strs, ne_strs_str, ne_deeds, ne_hunks, notin_kinds, notin_kindsT, add_int, sub_int, mod_int, div3, div4, callV, listV, flat_str, slice_map, append_str, snoc_str, List.all_cons, List.all_nil, List.map_cons, List.map_nil, Bool.false_eq_true, if_false, ofString_inj, ne_eq, String.reduceEq, not_false_eq_true, Bool.not_true, Bool.not_false, reduceCtorEq, and_true, true_and, and_self, small, Nat.reduceAdd, Nat.reduceLeDiff, bindPV, maskη, List.lookup_cons, List.lookup_nil, str_beq, decide_true, decide_false, Option.map_some, Option.some.injEq, encP, E.gl], by simp only [List.length_cons, List.length_nil, if_true, V_s, V_e, V_t, V_j, V_ok, ev_cN, ev_cB, ev_cI, ev_cS, ev_nm, ev_bin, ev_tup, ev_lst, ev_sl, ev_ixC, ev_ixN, ev_ixB, ev_ixK, ev_call, ev_comp, tv_not, tv_lt, tv_le, tv_gt, tv_ge, tv_eq, tv_ne, tv_ni, tv_nm, tv_call, jv_c, jv_f, fmt_ok, it_nm, it_bin, it_sub, nameV, upd_eq, upd_ne, Rz.bind_ok, Rz.bind_err, Rz.strict, sq_l, sq_t, List.length_map, List.length_append, scal, Bool.false_or, Bool.true_or, Bool.or_false, Bool.or_true, Bool.and_true, Bool.true_and, Bool.and_false, Bool.false_and, Bool.and_self, Bool.or_self, argsV, pt_n, pt_s, cd_n, cd_1, im_l, im_t, item0, item1, item2, elemV, sc, encD, encDs, encH, ne_str, eq_str, lt_int, le_int, gt_int, ge_int, eq_int, ne_int, eq_strs, ne_strs, ne_str_strs, ne_strs_str, ne_deeds, ne_hunks, notin_kinds, notin_kindsT, add_int, sub_int, mod_int, div3, div4, callV, listV, flat_str, slice_map, append_str, snoc_str, List.all_cons, List.all_nil, List.map_cons, List.map_nil, Bool.false_eq_true, if_false, ofString_inj, ne_eq, String.reduceEq, not_false_eq_true, Bool.not_true, Bool.not_false, reduceCtorEq, and_true, true_and, and_self, small, Nat.reduceAdd, Nat.reduceLeDiff, bindPV, maskη, List.lookup_cons, List.lookup_nil, str_beq, decide_true, decide_false, Option.map_some, Option.some.injEq, encP, E.gk]⟩
  · simp only [Bool.or_eq_false_iff, decide_eq_false_iff_not] at hb
    have hlt : p + (src ds).length < xs.length := by omega
    refine p_app (ds := ds.map encD) (m := true) (d := encD (kd, xs[p + (src ds).length])) (b := true) (mi := true) (by simp only [List.length_cons, List.length_nil, if_true, V_s, V_e, V_t, V_j, V_ok, ev_cN, ev_cB, ev_cI, ev_cS, ev_nm, ev_bin, ev_tup, ev_lst, ev_sl, ev_ixC, ev_ixN, ev_ixB, ev_ixK, ev_call, ev_comp, tv_not, tv_lt, tv_le, tv_gt, tv_ge, tv_eq, tv_ne, tv_ni, tv_nm, tv_call, jv_c, jv_f, fmt_ok, it_nm, it_bin, it_sub, nameV, upd_eq, upd_ne, Rz.bind_ok, Rz.bind_err, Rz.strict, sq_l, sq_t, List.length_map, List.length_append, scal, Bool.false_or, Bool.true_or, Bool.or_false, Bool.or_true, Bool.and_true, Bool.true_and, Bool.and_false, Bool.false_and, Bool.and_self, Bool.or_self, argsV, pt_n, pt_s, cd_n, cd_1, im_l, im_t, item0, item1, item2, elemV, sc, encD, encDs, encH, ne_str, eq_str, lt_int, le_int, gt_int, ge_int, eq_int, ne_int, eq_strs, ne_strs, ne_str_strs, ne_strs_str, ne_deeds, ne_hunks, notin_kinds, notin_kindsT, add_int, sub_int, mod_int, div3, div4, callV, listV, flat_str, slice_map, append_str, snoc_str, List.all_cons, List.all_nil, List.map_cons, List.map_nil, Bool.false_eq_true, if_false, ofString_inj, ne_eq, String.reduceEq, not_false_eq_true, Bool.not_true, Bool.not_false, reduceCtorEq, and_true, true_and, and_self, small, Nat.reduceAdd, Nat.reduceLeDiff, bindPV, maskη, List.lookup_cons, List.lookup_nil, str_beq, decide_true, decide_false, Option.map_some, Option.some.injEq, encP, E.deeds]) ?_ rfl (by simp [small]; omega) ?_
    · simp only [List.length_cons, List.length_nil, if_true, V_s, V_e, V_t, V_j, V_ok, ev_cN, ev_cB, ev_cI, ev_cS, ev_nm, ev_bin, ev_tup, ev_lst, ev_sl, ev_ixC, ev_ixN, ev_ixB, ev_ixK, ev_call, ev_comp, tv_not, tv_lt, tv_le, tv_gt, tv_ge, tv_eq, tv_ne, tv_ni, tv_nm, tv_call, jv_c, jv_f, fmt_ok, it_nm, it_bin, it_sub, nameV, upd_eq, upd_ne, Rz.bind_ok, Rz.bind_err, Rz.strict, sq_l, sq_t, List.length_map, List.length_append, scal, Bool.false_or, Bool.true_or, Bool.or_false, Bool.or_true, Bool.and_true, Bool.true_and, Bool.and_false, Bool.false_and, Bool.and_self, Bool.or_self, argsV, pt_n, pt_s, cd_n, cd_1, im_l, im_t, item0, item1, item2, elemV, sc, encD, encDs, encH, ne_str, eq_str, lt_int, le_int, gt_int, ge_int, eq_int, ne_int, eq_strs, ne_strs, ne_str_strs, ne_strs_str, ne_deeds, ne_hunks, notin_kinds, notin_kindsT, add_int, sub_int, mod_int, div3, div4, callV, listV, flat_str, slice_map, append_str, snoc_str, List.all_cons, List.all_nil, List.map_cons, List.map_nil, Bool.false_eq_true, if_false, ofString_inj, ne_eq, String.reduceEq, not_false_eq_true, Bool.not_true, Bool.not_false, reduceCtorEq, and_true, true_and, and_self, small, Nat.reduceAdd, Nat.reduceLeDiff, bindPV, maskη, List.lookup_cons, List.lookup_nil, str_beq, decide_true, decide_false, Option.map_some, Option.some.injEq, encP, E.text, E.place]
      rw [item_at (d := .str xs[p + (src ds).length]) (by rw [Int.toNat_natCast]; simp [hlt]) (by omega) (by omega)]
      simp only [List.length_cons, List.length_nil, if_true, V_s, V_e, V_t, V_j, V_ok, ev_cN, ev_cB, ev_cI, ev_cS, ev_nm, ev_bin, ev_tup, ev_lst, ev_sl, ev_ixC, ev_ixN, ev_ixB, ev_ixK, ev_call, ev_comp, tv_not, tv_lt, tv_le, tv_gt, tv_ge, tv_eq, tv_ne, tv_ni, tv_nm, tv_call, jv_c, jv_f, fmt_ok, it_nm, it_bin, it_sub, nameV, upd_eq, upd_ne, Rz.bind_ok, Rz.bind_err, Rz.strict, sq_l, sq_t, List.length_map, List.length_append, scal, Bool.false_or, Bool.true_or, Bool.or_false, Bool.or_true, Bool.and_true, Bool.true_and, Bool.and_false, Bool.false_and, Bool.and_self, Bool.or_self, argsV, pt_n, pt_s, cd_n, cd_1, im_l, im_t, item0, item1, item2, elemV, sc, encD, encDs, encH, ne_str, eq_str, lt_int, le_int, gt_int, ge_int, eq_int, ne_int, eq_strs, ne_strs, ne_str_strs, ne_strs_str, ne_deeds, ne_hunks, notin_kinds, notin_kindsT, add_int, sub_int, mod_int, div3, div4, callV, listV, flat_str, slice_map, append_str, snoc_str, List.all_cons, List.all_nil, List.map_cons, List.map_nil, Bool.false_eq_true, if_false, ofString_inj, ne_eq, String.reduceEq, not_false_eq_true, Bool.not_true, Bool.not_false, reduceCtorEq, and_true, true_and, and_self, small, Nat.reduceAdd, Nat.reduceLeDiff, bindPV, maskη, List.lookup_cons, List.lookup_nil, str_beq, decide_true, decide_false, Option.map_some, Option.some.injEq, encP]
    · have e1 : ds.map encD ++ [encD (kd, xs[p + (src ds).length])] = (ds ++ [(kd, xs[p + (src ds).length])]).map encD := by simp
      have e2 : src (ds ++ [(kd, xs[p + (src ds).length])]) = src ds ++ [xs[p + (src ds).length]] := by rw [src_snoc, if_neg hb.1]
      rw [e1]
      refine p_asgS (d := .int (p + (src ds).length + 1 : Nat)) (b := true) (m := true) ?_ rfl ?_
      · simp only [List.length_cons, List.length_nil, if_true, V_s, V_e, V_t, V_j, V_ok, ev_cN, ev_cB, ev_cI, ev_cS, ev_nm, ev_bin, ev_tup, ev_lst, ev_sl, ev_ixC, ev_ixN, ev_ixB, ev_ixK, ev_call, ev_comp, tv_not, tv_lt, tv_le, tv_gt, tv_ge, tv_eq, tv_ne, tv_ni, tv_nm, tv_call, jv_c, jv_f, fmt_ok, it_nm, it_bin, it_sub, nameV, upd_eq, upd_ne, Rz.bind_ok, Rz.bind_err, Rz.strict, sq_l, sq_t, List.length_map, List.length_append, scal, Bool.false_or, Bool.true_or, Bool.or_false, Bool.or_true, Bool.and_true, Bool.true_and, Bool.and_false, Bool.false_and, Bool.and_self, Bool.or_self, argsV, pt_n, pt_s, cd_n, cd_1, im_l, im_t, item0, item1, item2, elemV, sc, encD, encDs, encH, ne_str, eq_str, lt_int, le_int, gt_int, ge_int, eq_int, ne_int, eq_strs, ne_strs, ne_str_strs, ne_strs_str, ne_deeds, ne_hunks, notin_kinds, notin_kindsT, add_int, sub_int, mod_int, div3, div4, callV, listV, flat_str, slice_map, append_str, snoc_str, List.all_cons, List.all_nil, List.map_cons, List.map_nil, Bool.false_eq_true, if_false, ofString_inj, ne_eq, String.reduceEq, not_false_eq_true, Bool.not_true, Bool.not_false, reduceCtorEq, and_true, true_and, and_self, small, Nat.reduceAdd, Nat.reduceLeDiff, bindPV, maskη, List.lookup_cons, List.lookup_nil, str_beq, decide_true, decide_false, Option.map_some, Option.some.injEq, encP, E.place, Int.natCast_add]
        rfl
      · refine p_end (p_nil (h _ ⟨ds ++ [(kd, xs[p + (src ds).length])], fun d hd => ?_, by simp; omega, by rw [e2]; exact pre_snoc hpre hlt, ?_⟩))
        · rcases List.mem_append.mp hd with q | q
          · exact hds d q
          · simp at q; subst q; exact hkk
        · exact ⟨by simp only [List.length_cons, List.length_nil, if_true, V_s, V_e, V_t, V_j, V_ok, ev_cN, ev_cB, ev_cI, ev_cS, ev_nm, ev_bin, ev_tup, ev_lst, ev_sl, ev_ixC, ev_ixN, ev_ixB, ev_ixK, ev_call, ev_comp, tv_not, tv_lt, tv_le, tv_gt, tv_ge, tv_eq, tv_ne, tv_ni, tv_nm, tv_call, jv_c, jv_f, fmt_ok, it_nm, it_bin, it_sub, nameV, upd_eq, upd_ne, Rz.bind_ok, Rz.bind_err, Rz.strict, sq_l, sq_t, List.length_map, List.length_append, scal, Bool.false_or, Bool.true_or, Bool.or_false, Bool.or_true, Bool.and_true, Bool.true_and, Bool.and_false, Bool.false_and, Bool.and_self, Bool.or_self, argsV, pt_n, pt_s, cd_n, cd_1, im_l, im_t, item0, item1, item2, elemV, sc, encD, encDs, encH, ne_str, eq_str, lt_int, le_int, gt_int, ge_int, eq_int, ne_int, eq_strs, ne_strs, ne_str_strs, ne_strs_str, ne_deeds, ne_hunks, notin_kinds, notin_kindsT, add_int, sub_int, mod_int, div3, div4, callV, listV, flat_str, slice_map, append_str, snoc_str, List.all_cons, List.all_nil, List.map_cons, List.map_nil, Bool.false_eq_true, if_false, ofString_inj, ne_eq, String.reduceEq, not_false_eq_true, Bool.not_true, Bool.not_false, reduceCtorEq, and_true, true_and, and_self, small, Nat.reduceAdd, Nat.reduceLeDiff, bindPV, maskη, List.lookup_cons, List.lookup_nil, str_beq, decide_true, decide_false, Option.map_some, Option.some.injEq, encP, E.script], by simp only [List.length_cons, List.length_nil, if_true, V_s, V_e, V_t, V_j, V_ok, ev_cN, ev_cB, ev_cI, ev_cS, ev_nm, ev_bin, ev_tup, ev_lst, ev_sl, ev_ixC, ev_ixN, ev_ixB, ev_ixK, ev_call, ev_comp, tv_not, tv_lt, tv_le, tv_gt, tv_ge, tv_eq, tv_ne, tv_ni, tv_nm, tv_call, jv_c, jv_f, fmt_ok, it_nm, it_bin, it_sub, nameV, upd_eq, upd_ne, Rz.bind_ok, Rz.bind_err, Rz.strict, sq_l, sq_t, List.length_map, List.length_append, scal, Bool.false_or, Bool.true_or, Bool.or_false, Bool.or_true, Bool.and_true, Bool.true_and, Bool.and_false, Bool.false_and, Bool.and_self, Bool.or_self, argsV, pt_n, pt_s, cd_n, cd_1, im_l, im_t, item0, item1, item2, elemV, sc, encD, encDs, encH, ne_str, eq_str, lt_int, le_int, gt_int, ge_int, eq_int, ne_int, eq_strs, ne_strs, ne_str_strs, ne_strs_str, ne_deeds, ne_hunks, notin_kinds, notin_kindsT, add_int, sub_int, mod_int, div3, div4, callV, listV, flat_str, slice_map, append_str, snoc_str, List.all_cons, List.all_nil, List.map_cons, List.map_nil, Bool.false_eq_true, if_false, ofString_inj, ne_eq, String.reduceEq, not_false_eq_true, Bool.not_true, Bool.not_false, reduceCtorEq, and_true, true_and, and_self, small, Nat.reduceAdd, Nat.reduceLeDiff, bindPV, maskη, List.lookup_cons, List.lookup_nil, str_beq, decide_true, decide_false, Option.map_some, Option.some.injEq, encP, E.at_], by simp only [List.length_cons, List.length_nil, if_true, V_s, V_e, V_t, V_j, V_ok, ev_cN, ev_cB, ev_cI, ev_cS, ev_nm, ev_bin, ev_tup, ev_lst, ev_sl, ev_ixC, ev_ixN, ev_ixB, ev_ixK, ev_call, ev_comp, tv_not, tv_lt, tv_le, tv_gt, tv_ge, tv_eq, tv_ne, tv_ni, tv_nm, tv_call, jv_c, jv_f, fmt_ok, it_nm, it_bin, it_sub, nameV, upd_eq, upd_ne, Rz.bind_ok, Rz.bind_err, Rz.strict, sq_l, sq_t, List.length_map, List.length_append, scal, Bool.false_or, Bool.true_or, Bool.or_false, Bool.or_true, Bool.and_true, Bool.true_and, Bool.and_false, Bool.false_and, Bool.and_self, Bool.or_self, argsV, pt_n, pt_s, cd_n, cd_1, im_l, im_t, item0, item1, item2, elemV, sc, encD, encDs, encH, ne_str, eq_str, lt_int, le_int, gt_int, ge_int, eq_int, ne_int, eq_strs, ne_strs, ne_str_strs, ne_strs_str, ne_deeds, ne_hunks, notin_kinds, notin_kindsT, add_int, sub_int, mod_int, div3, div4, callV, listV, flat_str, slice_map, append_str, snoc_str, List.all_cons, List.all_nil, List.map_cons, List.map_nil, Bool.false_eq_true, if_false, ofString_inj, ne_eq, String.reduceEq, not_false_eq_true, Bool.not_true, Bool.not_false, reduceCtorEq, and_true, true_and, and_self, small, Nat.reduceAdd, Nat.reduceLeDiff, bindPV, maskη, List.lookup_cons, List.lookup_nil, str_beq, decide_true, decide_false, Option.map_some, Option.some.injEq, encP, E.text], by rw [e2, List.length_append, List.length_singleton]; simp only [List.length_cons, List.length_nil, if_true, V_s, V_e, V_t, V_j, V_ok, ev_cN, ev_cB, ev_cI, ev_cS, ev_nm, ev_bin, ev_tup, ev_lst, ev_sl, ev_ixC, ev_ixN, ev_ixB, ev_ixK, ev_call, ev_comp, tv_not, tv_lt, tv_le, tv_gt, tv_ge, tv_eq, tv_ne, tv_ni, tv_nm, tv_call, jv_c, jv_f, fmt_ok, it_nm, it_bin, it_sub, nameV, upd_eq, upd_ne, Rz.bind_ok, Rz.bind_err, Rz.strict, sq_l, sq_t, List.length_map, List.length_append, scal, Bool.false_or, Bool.true_or, Bool.or_false, Bool.or_true, Bool.and_true, Bool.true_and, Bool.and_false, Bool.false_and, Bool.and_self, Bool.or_self, argsV, pt_n, pt_s, cd_n, cd_1, im_l, im_t, item0, item1, item2, elemV, sc, encD, encDs, encH, ne_str, eq_str, lt_int, le_int, gt_int, ge_int, eq_int, ne_int, eq_strs, ne_strs, ne_str_strs, ne_strs_str, ne_deeds, ne_hunks, notin_kinds, notin_kindsT, add_int, sub_int, mod_int, div3, div4, callV, listV, flat_str, slice_map, append_str, snoc_str, List.all_cons, List.all_nil, List.map_cons, List.map_nil, Bool.false_eq_true, if_false, ofString_inj, ne_eq, String.reduceEq, not_false_eq_true, Bool.not_true, Bool.not_false, reduceCtorEq, and_true, true_and, and_self, small, Nat.reduceAdd, Nat.reduceLeDiff, bindPV, maskη, List.lookup_cons, List.lookup_nil, str_beq, decide_true, decide_false, Option.map_some, Option.some.injEq, encP, Nat.add_assoc], by simp only [List.length_cons, List.length_nil, if_true, V_s, V_e, V_t, V_j, V_ok, ev_cN, ev_cB, ev_cI, ev_cS, ev_nm, ev_bin, ev_tup, ev_lst, ev_sl, ev_ixC, ev_ixN, ev_ixB, ev_ixK, ev_call, ev_comp, tv_not, tv_lt, tv_le, tv_gt, tv_ge, tv_eq, tv_ne, tv_ni, tv_nm, tv_call, jv_c, jv_f, fmt_ok, it_nm, it_bin, it_sub, nameV, upd_eq, upd_ne, Rz.bind_ok, Rz.bind_err, Rz.strict, sq_l, sq_t, List.length_map, List.length_append, scal, Bool.false_or, Bool.true_or, Bool.or_false, Bool.or_true, Bool.and_true, Bool.true_and, Bool.and_false, Bool.false_and, Bool.and_self, Bool.or_self, argsV, pt_n, pt_s, cd_n, cd_1, im_l, im_t, item0, item1, item2, elemV, sc, encD, encDs, encH, ne_str, eq_str, lt_int, le_int, gt_int, ge_int, eq_int, ne_int, eq_strs, ne_strs, ne_str_strs, ne_strs_str, ne_deeds, ne_hunks, notin_kinds, notin_kindsT, add_int, sub_int, mod_int, div3, div4, callV, listV, flat_str, slice_map, append_str, snoc_str, List.all_cons, List.all_nil, List.map_cons, List.map_nil, Bool.false_eq_true, if_false, ofString_inj, ne_eq, String.reduceEq, not_false_eq_true, Bool.not_true, Bool.not_false, reduceCtorEq, and_true, true_and, and_self, small, Nat.reduceAdd, Nat.reduceLeDiff, bindPV, maskη, List.lookup_cons, List.lookup_nil, str_beq, decide_true, decide_false, Option.map_some, Option.some.injEq, encP], by simp only [List.length_cons, List.length_nil, if_true, V_s, V_e, V_t, V_j, V_ok, ev_cN, ev_cB, ev_cI, ev_cS, ev_nm, ev_bin, ev_tup, ev_lst, ev_sl, ev_ixC, ev_ixN, ev_ixB, ev_ixK, ev_call, ev_comp, tv_not, tv_lt, tv_le, tv_gt, tv_ge, tv_eq, tv_ne, tv_ni, tv_nm, tv_call, jv_c, jv_f, fmt_ok, it_nm, it_bin, it_sub, nameV, upd_eq, upd_ne, Rz.bind_ok, Rz.bind_err, Rz.strict, sq_l, sq_t, List.length_map, List.length_append, scal, Bool.false_or, Bool.true_or, Bool.or_false, Bool.or_true, Bool.and_true, Bool.true_and, Bool.and_false, Bool.false_and, Bool.and_self, Bool.or_self, argsV, pt_n, pt_s, cd_n, cd_1, im_l, im_t, item0, item1, item2, elemV, sc, encD, encDs, encH, ne_str, eq_str, lt_int, le_int, gt_int, ge_int, eq_int, ne_int, eq_strs, ne_strs, ne_str_strs, ne_strs_str, ne_deeds, ne_hunks, notin_kinds, notin_kindsT, add_int, sub_int, mod_int, div3, div4, callV, listV, flat_str, slice_map, append_str, snoc_str, List.all_cons, List.all_nil, List.map_cons, List.map_nil, Bool.false_eq_true, if_false, ofString_inj, ne_eq, String.reduceEq, not_false_eq_true, Bool.not_true, Bool.not_false, reduceCtorEq, and_true, true_and, and_self, small, Nat.reduceAdd, Nat.reduceLeDiff, bindPV, maskη, List.lookup_cons, List.lookup_nil, str_beq, decide_true, decide_false, Option.map_some, Option.some.injEq, encP, E.gl], by simp only [List.length_cons, List.length_nil, if_true, V_s, V_e, V_t, V_j, V_ok, ev_cN, ev_cB, ev_cI, ev_cS, ev_nm, ev_bin, ev_tup, ev_lst, ev_sl, ev_ixC, ev_ixN, ev_ixB, ev_ixK, ev_call, ev_comp, tv_not, tv_lt, tv_le, tv_gt, tv_ge, tv_eq, tv_ne, tv_ni, tv_nm, tv_call, jv_c, jv_f, fmt_ok, it_nm, it_bin, it_sub, nameV, upd_eq, upd_ne, Rz.bind_ok, Rz.bind_err, Rz.strict, sq_l, sq_t, List.length_map, List.length_append, scal, Bool.false_or, Bool.true_or, Bool.or_false, Bool.or_true, Bool.and_true, Bool.true_and, Bool.and_false, Bool.false_and, Bool.and_self, Bool.or_self, argsV, pt_n, pt_s, cd_n, cd_1, im_l, im_t, item0, item1, item2, elemV, sc, encD, encDs, encH, ne_str, eq_str, lt_int, le_int, gt_int, ge_int, eq_int, ne_int, eq_strs, ne_strs, ne_str_strs, ne_strs_str, ne_deeds, ne_hunks, notin_kinds, notin_kindsT, add_int, sub_int, mod_int, div3, div4, callV, listV, flat_str, slice_map, append_str, snoc_str, List.all_cons, List.all_nil, List.map_cons, List.map_nil, Bool.false_eq_true, if_false, ofString_inj, ne_eq, String.reduceEq, not_false_eq_true, Bool.not_true, Bool.not_false, reduceCtorEq, and_true, true_and, and_self, small, Nat.reduceAdd, Nat.reduceLeDiff, bindPV, maskη, List.lookup_cons, List.lookup_nil, str_beq, decide_true, decide_false, Option.map_some, Option.some.injEq, encP, E.gk]⟩

theorem deeds_ok (n : Nat) (ns : List Int) (C : CellFn Θ ns) (B : Θ.fn (Str.ofString "len") = none) (L K : List Str) (hL : L.length = 3) (hl : Θ.glob (Str.ofString "_law_LINES") = some (.tuple (L.map .str))) (hK : K.length = 3) (hkn : ∀ k ∈ K, kn k = true)
    (hk : Θ.glob (Str.ofString "_law_KINDS") = some (.tuple (K.map .str))) (at_ : Nat) (hat : at_ ≤ 100) (xs : List Str) (hx : xs.length ≤ 6) (p c : Nat) (hp : p ≤ 100) (hc : c ≤ 3) :
    ∃ ds : List (Str × Str), (∀ d ∈ ds, kn d.1 = true) ∧ ds.length ≤ 3 ∧ src ds <+: xs.drop p ∧ callVF Θ (n + 20) ["script", "at", "text", "place", "count"] (bodyOf pw 9) [.list (ns.map .int), .int at_, .list (xs.map .str), .int p, .int c] = .ok (.list (ds.map encD), true) := by
  refine call_ex (C := fun r => ∃ ds : List (Str × Str), (∀ d ∈ ds, kn d.1 = true) ∧ ds.length ≤ 3 ∧ src ds <+: xs.drop p ∧ r = .ok (.list (ds.map encD), true)) rfl ?_
  have turn := fun i k hi η Q => deeds_turn (Θ := Θ) (n + 4) ns C B L K hL hl hK hkn hk at_ hat xs hx p c hp hc i k hi η Q
  unfold loopOf at turn
  (unfold bodyOf pw PySem.Challenge.pw_pd_weave_3_05 at turn; dsimp only [List.getElem?_cons_succ, List.getElem?_cons_zero] at turn)
  (unfold bodyOf pw PySem.Challenge.pw_pd_weave_3_05; dsimp only [List.getElem?_cons_succ, List.getElem?_cons_zero])
  refine p_asgL (ds := []) (m := true) (by simp only [List.length_cons, List.length_nil, if_true, V_s, V_e, V_t, V_j, V_ok, ev_cN, ev_cB, ev_cI, ev_cS, ev_nm, ev_bin, ev_tup, ev_lst, ev_sl, ev_ixC, ev_ixN, ev_ixB, ev_ixK, ev_call, ev_comp, tv_not, tv_lt, tv_le, tv_gt, tv_ge, tv_eq, tv_ne, tv_ni, tv_nm, tv_call, jv_c, jv_f, fmt_ok, it_nm, it_bin, it_sub, nameV, upd_eq, upd_ne, Rz.bind_ok, Rz.bind_err, Rz.strict, sq_l, sq_t, List.length_map, List.length_append, scal, Bool.false_or, Bool.true_or, Bool.or_false, Bool.or_true, Bool.and_true, Bool.true_and, Bool.and_false, Bool.false_and, Bool.and_self, Bool.or_self, argsV, pt_n, pt_s, cd_n, cd_1, im_l, im_t, item0, item1, item2, elemV, sc, encD, encDs, encH, ne_str, eq_str, lt_int, le_int, gt_int, ge_int, eq_int, ne_int, eq_strs, ne_strs, ne_str_strs, ne_strs_str, ne_deeds, ne_hunks, notin_kinds, notin_kindsT, add_int, sub_int, mod_int, div3, div4, callV, listV, flat_str, slice_map, append_str, snoc_str, List.all_cons, List.all_nil, List.map_cons, List.map_nil, Bool.false_eq_true, if_false, ofString_inj, ne_eq, String.reduceEq, not_false_eq_true, Bool.not_true, Bool.not_false, reduceCtorEq, and_true, true_and, and_self, small, Nat.reduceAdd, Nat.reduceLeDiff, bindPV, maskη, List.lookup_cons, List.lookup_nil, str_beq, decide_true, decide_false, Option.map_some, Option.some.injEq, encP]) ?_
  refine p_for (ds := (List.range c).map encN) (bo := true) (mi := true) (it_range1 (k := c) (b := true) (m := true) (by simp only [List.length_cons, List.length_nil, if_true, V_s, V_e, V_t, V_j, V_ok, ev_cN, ev_cB, ev_cI, ev_cS, ev_nm, ev_bin, ev_tup, ev_lst, ev_sl, ev_ixC, ev_ixN, ev_ixB, ev_ixK, ev_call, ev_comp, tv_not, tv_lt, tv_le, tv_gt, tv_ge, tv_eq, tv_ne, tv_ni, tv_nm, tv_call, jv_c, jv_f, fmt_ok, it_nm, it_bin, it_sub, nameV, upd_eq, upd_ne, Rz.bind_ok, Rz.bind_err, Rz.strict, sq_l, sq_t, List.length_map, List.length_append, scal, Bool.false_or, Bool.true_or, Bool.or_false, Bool.or_true, Bool.and_true, Bool.true_and, Bool.and_false, Bool.false_and, Bool.and_self, Bool.or_self, argsV, pt_n, pt_s, cd_n, cd_1, im_l, im_t, item0, item1, item2, elemV, sc, encD, encDs, encH, ne_str, eq_str, lt_int, le_int, gt_int, ge_int, eq_int, ne_int, eq_strs, ne_strs, ne_str_strs, ne_strs_str, ne_deeds, ne_hunks, notin_kinds, notin_kindsT, add_int, sub_int, mod_int, div3, div4, callV, listV, flat_str, slice_map, append_str, snoc_str, List.all_cons, List.all_nil, List.map_cons, List.map_nil, Bool.false_eq_true, if_false, ofString_inj, ne_eq, String.reduceEq, not_false_eq_true, Bool.not_true, Bool.not_false, reduceCtorEq, and_true, true_and, and_self, small, Nat.reduceAdd, Nat.reduceLeDiff, bindPV, maskη, List.lookup_cons, List.lookup_nil, str_beq, decide_true, decide_false, Option.map_some, Option.some.injEq, encP]) rfl (by omega)) ?_
  rw [drop_yes rfl]
  refine loop_inv encN (D5Inv ns at_ xs p c) (List.range c) (fun i k η Q hi hinv h => turn i k (by have := List.mem_range.mp hi; omega) η Q hinv h) _ _ ?_ ?_
  · refine ⟨[], fun _ h => (nomatch h), by simp, List.nil_prefix, ?_⟩
    exact ⟨by simp only [List.length_cons, List.length_nil, if_true, V_s, V_e, V_t, V_j, V_ok, ev_cN, ev_cB, ev_cI, ev_cS, ev_nm, ev_bin, ev_tup, ev_lst, ev_sl, ev_ixC, ev_ixN, ev_ixB, ev_ixK, ev_call, ev_comp, tv_not, tv_lt, tv_le, tv_gt, tv_ge, tv_eq, tv_ne, tv_ni, tv_nm, tv_call, jv_c, jv_f, fmt_ok, it_nm, it_bin, it_sub, nameV, upd_eq, upd_ne, Rz.bind_ok, Rz.bind_err, Rz.strict, sq_l, sq_t, List.length_map, List.length_append, scal, Bool.false_or, Bool.true_or, Bool.or_false, Bool.or_true, Bool.and_true, Bool.true_and, Bool.and_false, Bool.false_and, Bool.and_self, Bool.or_self, argsV, pt_n, pt_s, cd_n, cd_1, im_l, im_t, item0, item1, item2, elemV, sc, encD, encDs, encH, ne_str, eq_str, lt_int, le_int, gt_int, ge_int, eq_int, ne_int, eq_strs, ne_strs, ne_str_strs, ne_strs_str, ne_deeds, ne_hunks, notin_kinds, notin_kindsT, add_int, sub_int, mod_int, div3, div4, callV, listV, flat_str, slice_map, append_str, snoc_str, List.all_cons, List.all_nil, List.map_cons, List.map_nil, Bool.false_eq_true, if_false, ofString_inj, ne_eq, String.reduceEq, not_false_eq_true, Bool.not_true, Bool.not_false, reduceCtorEq, and_true, true_and, and_self, small, Nat.reduceAdd, Nat.reduceLeDiff, bindPV, maskη, List.lookup_cons, List.lookup_nil, str_beq, decide_true, decide_false, Option.map_some, Option.some.injEq, encP], by simp only [List.length_cons, List.length_nil, if_true, V_s, V_e, V_t, V_j, V_ok, ev_cN, ev_cB, ev_cI, ev_cS, ev_nm, ev_bin, ev_tup, ev_lst, ev_sl, ev_ixC, ev_ixN, ev_ixB, ev_ixK, ev_call, ev_comp, tv_not, tv_lt, tv_le, tv_gt, tv_ge, tv_eq, tv_ne, tv_ni, tv_nm, tv_call, jv_c, jv_f, fmt_ok, it_nm, it_bin, it_sub, nameV, upd_eq, upd_ne, Rz.bind_ok, Rz.bind_err, Rz.strict, sq_l, sq_t, List.length_map, List.length_append, scal, Bool.false_or, Bool.true_or, Bool.or_false, Bool.or_true, Bool.and_true, Bool.true_and, Bool.and_false, Bool.false_and, Bool.and_self, Bool.or_self, argsV, pt_n, pt_s, cd_n, cd_1, im_l, im_t, item0, item1, item2, elemV, sc, encD, encDs, encH, ne_str, eq_str, lt_int, le_int, gt_int, ge_int, eq_int, ne_int, eq_strs, ne_strs, ne_str_strs, ne_strs_str, ne_deeds, ne_hunks, notin_kinds, notin_kindsT, add_int, sub_int, mod_int, div3, div4, callV, listV, flat_str, slice_map, append_str, snoc_str, List.all_cons, List.all_nil, List.map_cons, List.map_nil, Bool.false_eq_true, if_false, ofString_inj, ne_eq, String.reduceEq, not_false_eq_true, Bool.not_true, Bool.not_false, reduceCtorEq, and_true, true_and, and_self, small, Nat.reduceAdd, Nat.reduceLeDiff, bindPV, maskη, List.lookup_cons, List.lookup_nil, str_beq, decide_true, decide_false, Option.map_some, Option.some.injEq, encP], by simp only [List.length_cons, List.length_nil, if_true, V_s, V_e, V_t, V_j, V_ok, ev_cN, ev_cB, ev_cI, ev_cS, ev_nm, ev_bin, ev_tup, ev_lst, ev_sl, ev_ixC, ev_ixN, ev_ixB, ev_ixK, ev_call, ev_comp, tv_not, tv_lt, tv_le, tv_gt, tv_ge, tv_eq, tv_ne, tv_ni, tv_nm, tv_call, jv_c, jv_f, fmt_ok, it_nm, it_bin, it_sub, nameV, upd_eq, upd_ne, Rz.bind_ok, Rz.bind_err, Rz.strict, sq_l, sq_t, List.length_map, List.length_append, scal, Bool.false_or, Bool.true_or, Bool.or_false, Bool.or_true, Bool.and_true, Bool.true_and, Bool.and_false, Bool.false_and, Bool.and_self, Bool.or_self, argsV, pt_n, pt_s, cd_n, cd_1, im_l, im_t, item0, item1, item2, elemV, sc, encD, encDs, encH, ne_str, eq_str, lt_int, le_int, gt_int, ge_int, eq_int, ne_int, eq_strs, ne_strs, ne_str_strs, ne_strs_str, ne_deeds, ne_hunks, notin_kinds, notin_kindsT, add_int, sub_int, mod_int, div3, div4, callV, listV, flat_str, slice_map, append_str, snoc_str, List.all_cons, List.all_nil, List.map_cons, List.map_nil, Bool.false_eq_true, if_false, ofString_inj, ne_eq, String.reduceEq, not_false_eq_true, Bool.not_true, Bool.not_false, reduceCtorEq, and_true, true_and, and_self, small, Nat.reduceAdd, Nat.reduceLeDiff, bindPV, maskη, List.lookup_cons, List.lookup_nil, str_beq, decide_true, decide_false, Option.map_some, Option.some.injEq, encP], by simp only [List.length_cons, List.length_nil, if_true, V_s, V_e, V_t, V_j, V_ok, ev_cN, ev_cB, ev_cI, ev_cS, ev_nm, ev_bin, ev_tup, ev_lst, ev_sl, ev_ixC, ev_ixN, ev_ixB, ev_ixK, ev_call, ev_comp, tv_not, tv_lt, tv_le, tv_gt, tv_ge, tv_eq, tv_ne, tv_ni, tv_nm, tv_call, jv_c, jv_f, fmt_ok, it_nm, it_bin, it_sub, nameV, upd_eq, upd_ne, Rz.bind_ok, Rz.bind_err, Rz.strict, sq_l, sq_t, List.length_map, List.length_append, scal, Bool.false_or, Bool.true_or, Bool.or_false, Bool.or_true, Bool.and_true, Bool.true_and, Bool.and_false, Bool.false_and, Bool.and_self, Bool.or_self, argsV, pt_n, pt_s, cd_n, cd_1, im_l, im_t, item0, item1, item2, elemV, sc, encD, encDs, encH, ne_str, eq_str, lt_int, le_int, gt_int, ge_int, eq_int, ne_int, eq_strs, ne_strs, ne_str_strs, ne_strs_str, ne_deeds, ne_hunks, notin_kinds, notin_kindsT, add_int, sub_int, mod_int, div3, div4, callV, listV, flat_str, slice_map, append_str, snoc_str, List.all_cons, List.all_nil, List.map_cons, List.map_nil, Bool.false_eq_true, if_false, ofString_inj, ne_eq, String.reduceEq, not_false_eq_true, Bool.not_true, Bool.not_false, reduceCtorEq, and_true, true_and, and_self, small, Nat.reduceAdd, Nat.reduceLeDiff, bindPV, maskη, List.lookup_cons, List.lookup_nil, str_beq, decide_true, decide_false, Option.map_some, Option.some.injEq, encP]; rfl, by simp only [List.length_cons, List.length_nil, if_true, V_s, V_e, V_t, V_j, V_ok, ev_cN, ev_cB, ev_cI, ev_cS, ev_nm, ev_bin, ev_tup, ev_lst, ev_sl, ev_ixC, ev_ixN, ev_ixB, ev_ixK, ev_call, ev_comp, tv_not, tv_lt, tv_le, tv_gt, tv_ge, tv_eq, tv_ne, tv_ni, tv_nm, tv_call, jv_c, jv_f, fmt_ok, it_nm, it_bin, it_sub, nameV, upd_eq, upd_ne, Rz.bind_ok, Rz.bind_err, Rz.strict, sq_l, sq_t, List.length_map, List.length_append, scal, Bool.false_or, Bool.true_or, Bool.or_false, Bool.or_true, Bool.and_true, Bool.true_and, Bool.and_false, Bool.false_and, Bool.and_self, Bool.or_self, argsV, pt_n, pt_s, cd_n, cd_1, im_l, im_t, item0, item1, item2, elemV, sc, encD, encDs, encH, ne_str, eq_str, lt_int, le_int, gt_int, ge_int, eq_int, ne_int, eq_strs, ne_strs, ne_str_strs, ne_strs_str, ne_deeds, ne_hunks, notin_kinds, notin_kindsT, add_int, sub_int, mod_int, div3, div4, callV, listV, flat_str, slice_map, append_str, snoc_str, List.all_cons, List.all_nil, List.map_cons, List.map_nil, Bool.false_eq_true, if_false, ofString_inj, ne_eq, String.reduceEq, not_false_eq_true, Bool.not_true, Bool.not_false, reduceCtorEq, and_true, true_and, and_self, small, Nat.reduceAdd, Nat.reduceLeDiff, bindPV, maskη, List.lookup_cons, List.lookup_nil, str_beq, decide_true, decide_false, Option.map_some, Option.some.injEq, encP], by simp only [List.length_cons, List.length_nil, if_true, V_s, V_e, V_t, V_j, V_ok, ev_cN, ev_cB, ev_cI, ev_cS, ev_nm, ev_bin, ev_tup, ev_lst, ev_sl, ev_ixC, ev_ixN, ev_ixB, ev_ixK, ev_call, ev_comp, tv_not, tv_lt, tv_le, tv_gt, tv_ge, tv_eq, tv_ne, tv_ni, tv_nm, tv_call, jv_c, jv_f, fmt_ok, it_nm, it_bin, it_sub, nameV, upd_eq, upd_ne, Rz.bind_ok, Rz.bind_err, Rz.strict, sq_l, sq_t, List.length_map, List.length_append, scal, Bool.false_or, Bool.true_or, Bool.or_false, Bool.or_true, Bool.and_true, Bool.true_and, Bool.and_false, Bool.false_and, Bool.and_self, Bool.or_self, argsV, pt_n, pt_s, cd_n, cd_1, im_l, im_t, item0, item1, item2, elemV, sc, encD, encDs, encH, ne_str, eq_str, lt_int, le_int, gt_int, ge_int, eq_int, ne_int, eq_strs, ne_strs, ne_str_strs, ne_strs_str, ne_deeds, ne_hunks, notin_kinds, notin_kindsT, add_int, sub_int, mod_int, div3, div4, callV, listV, flat_str, slice_map, append_str, snoc_str, List.all_cons, List.all_nil, List.map_cons, List.map_nil, Bool.false_eq_true, if_false, ofString_inj, ne_eq, String.reduceEq, not_false_eq_true, Bool.not_true, Bool.not_false, reduceCtorEq, and_true, true_and, and_self, small, Nat.reduceAdd, Nat.reduceLeDiff, bindPV, maskη, List.lookup_cons, List.lookup_nil, str_beq, decide_true, decide_false, Option.map_some, Option.some.injEq, encP], by simp only [List.length_cons, List.length_nil, if_true, V_s, V_e, V_t, V_j, V_ok, ev_cN, ev_cB, ev_cI, ev_cS, ev_nm, ev_bin, ev_tup, ev_lst, ev_sl, ev_ixC, ev_ixN, ev_ixB, ev_ixK, ev_call, ev_comp, tv_not, tv_lt, tv_le, tv_gt, tv_ge, tv_eq, tv_ne, tv_ni, tv_nm, tv_call, jv_c, jv_f, fmt_ok, it_nm, it_bin, it_sub, nameV, upd_eq, upd_ne, Rz.bind_ok, Rz.bind_err, Rz.strict, sq_l, sq_t, List.length_map, List.length_append, scal, Bool.false_or, Bool.true_or, Bool.or_false, Bool.or_true, Bool.and_true, Bool.true_and, Bool.and_false, Bool.false_and, Bool.and_self, Bool.or_self, argsV, pt_n, pt_s, cd_n, cd_1, im_l, im_t, item0, item1, item2, elemV, sc, encD, encDs, encH, ne_str, eq_str, lt_int, le_int, gt_int, ge_int, eq_int, ne_int, eq_strs, ne_strs, ne_str_strs, ne_strs_str, ne_deeds, ne_hunks, notin_kinds, notin_kindsT, add_int, sub_int, mod_int, div3, div4, callV, listV, flat_str, slice_map, append_str, snoc_str, List.all_cons, List.all_nil, List.map_cons, List.map_nil, Bool.false_eq_true, if_false, ofString_inj, ne_eq, String.reduceEq, not_false_eq_true, Bool.not_true, Bool.not_false, reduceCtorEq, and_true, true_and, and_self, small, Nat.reduceAdd, Nat.reduceLeDiff, bindPV, maskη, List.lookup_cons, List.lookup_nil, str_beq, decide_true, decide_false, Option.map_some, Option.some.injEq, encP]⟩
  · rintro η' ⟨ds, hds, hlen, hpre, E⟩
    refine then_next ?_
    refine p_ret (d := .list (ds.map encD)) (b := false) (m := true) (by simp only [List.length_cons, List.length_nil, if_true, V_s, V_e, V_t, V_j, V_ok, ev_cN, ev_cB, ev_cI, ev_cS, ev_nm, ev_bin, ev_tup, ev_lst, ev_sl, ev_ixC, ev_ixN, ev_ixB, ev_ixK, ev_call, ev_comp, tv_not, tv_lt, tv_le, tv_gt, tv_ge, tv_eq, tv_ne, tv_ni, tv_nm, tv_call, jv_c, jv_f, fmt_ok, it_nm, it_bin, it_sub, nameV, upd_eq, upd_ne, Rz.bind_ok, Rz.bind_err, Rz.strict, sq_l, sq_t, List.length_map, List.length_append, scal, Bool.false_or, Bool.true_or, Bool.or_false, Bool.or_true, Bool.and_true, Bool.true_and, Bool.and_false, Bool.false_and, Bool.and_self, Bool.or_self, argsV, pt_n, pt_s, cd_n, cd_1, im_l, im_t, item0, item1, item2, elemV, sc, encD, encDs, encH, ne_str, eq_str, lt_int, le_int, gt_int, ge_int, eq_int, ne_int, eq_strs, ne_strs, ne_str_strs, ne_strs_str, ne_deeds, ne_hunks, notin_kinds, notin_kindsT, add_int, sub_int, mod_int, div3, div4, callV, listV, flat_str, slice_map, append_str, snoc_str, List.all_cons, List.all_nil, List.map_cons, List.map_nil, Bool.false_eq_true, if_false, ofString_inj, ne_eq, String.reduceEq, not_false_eq_true, Bool.not_true, Bool.not_false, reduceCtorEq, and_true, true_and, and_self, small, Nat.reduceAdd, Nat.reduceLeDiff, bindPV, maskη, List.lookup_cons, List.lookup_nil, str_beq, decide_true, decide_false, Option.map_some, Option.some.injEq, encP, E.deeds]) ?_
    exact ⟨_, ⟨ds, hds, by omega, hpre, rfl⟩, rfl⟩
end

section
variable {Θ : VThy}

theorem hurt_ok (n : Nat) (B : Θ.fn (Str.ofString "len") = none) (ds : List (Str × Str)) (hds : ds.length ≤ 3) (how : Nat) (hh : how < 9) :
    ∃ (ds' : List (Str × Str)) (m : Bool), ds'.length ≤ 4 ∧ callVF Θ (n + 20) ["deeds", "how"] (bodyOf pw 10) [.list (ds.map encD), .int how] = .ok (.list (ds'.map encD), m) := by
  refine call_ex (C := fun r => ∃ (ds' : List (Str × Str)) (m : Bool), ds'.length ≤ 4 ∧ r = .ok (.list (ds'.map encD), m)) rfl ?_
  (unfold bodyOf pw PySem.Challenge.pw_pd_weave_3_05; dsimp only [List.getElem?_cons_succ, List.getElem?_cons_zero])
  refine p_if (b := decide ((4 : Int) < how) && decide ((how : Int) < 7) && decide ((0 : Int) < ds.length)) ?_ (fun hb => ?_) (fun _ => p_end ?_)
  · refine t_and3 (by simp only [List.length_cons, List.length_nil, if_true, V_s, V_e, V_t, V_j, V_ok, ev_cN, ev_cB, ev_cI, ev_cS, ev_nm, ev_bin, ev_tup, ev_lst, ev_sl, ev_ixC, ev_ixN, ev_ixB, ev_ixK, ev_call, ev_comp, tv_not, tv_lt, tv_le, tv_gt, tv_ge, tv_eq, tv_ne, tv_ni, tv_nm, tv_call, jv_c, jv_f, fmt_ok, it_nm, it_bin, it_sub, nameV, upd_eq, upd_ne, Rz.bind_ok, Rz.bind_err, Rz.strict, sq_l, sq_t, List.length_map, List.length_append, scal, Bool.false_or, Bool.true_or, Bool.or_false, Bool.or_true, Bool.and_true, Bool.true_and, Bool.and_false, Bool.false_and, Bool.and_self, Bool.or_self, argsV, pt_n, pt_s, cd_n, cd_1, im_l, im_t, item0, item1, item2, elemV, sc, encD, encDs, encH, ne_str, eq_str, lt_int, le_int, gt_int, ge_int, eq_int, ne_int, eq_strs, ne_strs, ne_str_strs, ne_strs_str, ne_deeds, ne_hunks, notin_kinds, notin_kindsT, add_int, sub_int, mod_int, div3, div4, callV, listV, flat_str, slice_map, append_str, snoc_str, List.all_cons, List.all_nil, List.map_cons, List.map_nil, Bool.false_eq_true, if_false, ofString_inj, ne_eq, String.reduceEq, not_false_eq_true, Bool.not_true, Bool.not_false, reduceCtorEq, and_true, true_and, and_self, small, Nat.reduceAdd, Nat.reduceLeDiff, bindPV, maskη, List.lookup_cons, List.lookup_nil, str_beq, decide_true, decide_false, Option.map_some, Option.some.injEq, encP]) (fun _ => by simp only [List.length_cons, List.length_nil, if_true, V_s, V_e, V_t, V_j, V_ok, ev_cN, ev_cB, ev_cI, ev_cS, ev_nm, ev_bin, ev_tup, ev_lst, ev_sl, ev_ixC, ev_ixN, ev_ixB, ev_ixK, ev_call, ev_comp, tv_not, tv_lt, tv_le, tv_gt, tv_ge, tv_eq, tv_ne, tv_ni, tv_nm, tv_call, jv_c, jv_f, fmt_ok, it_nm, it_bin, it_sub, nameV, upd_eq, upd_ne, Rz.bind_ok, Rz.bind_err, Rz.strict, sq_l, sq_t, List.length_map, List.length_append, scal, Bool.false_or, Bool.true_or, Bool.or_false, Bool.or_true, Bool.and_true, Bool.true_and, Bool.and_false, Bool.false_and, Bool.and_self, Bool.or_self, argsV, pt_n, pt_s, cd_n, cd_1, im_l, im_t, item0, item1, item2, elemV, sc, encD, encDs, encH, ne_str, eq_str, lt_int, le_int, gt_int, ge_int, eq_int, ne_int, eq_strs, ne_strs, ne_str_strs, ne_strs_str, ne_deeds, ne_hunks, notin_kinds, notin_kindsT, add_int, sub_int, mod_int, div3, div4, callV, listV, flat_str, slice_map, append_str, snoc_str, List.all_cons, List.all_nil, List.map_cons, List.map_nil, Bool.false_eq_true, if_false, ofString_inj, ne_eq, String.reduceEq, not_false_eq_true, Bool.not_true, Bool.not_false, reduceCtorEq, and_true, true_and, and_self, small, Nat.reduceAdd, Nat.reduceLeDiff, bindPV, maskη, List.lookup_cons, List.lookup_nil, str_beq, decide_true, decide_false, Option.map_some, Option.some.injEq, encP]) (fun _ _ => ?_)
    simp only [List.length_cons, List.length_nil, if_true, V_s, V_e, V_t, V_j, V_ok, ev_cN, ev_cB, ev_cI, ev_cS, ev_nm, ev_bin, ev_tup, ev_lst, ev_sl, ev_ixC, ev_ixN, ev_ixB, ev_ixK, ev_call, ev_comp, tv_not, tv_lt, tv_le, tv_gt, tv_ge, tv_eq, tv_ne, tv_ni, tv_nm, tv_call, jv_c, jv_f, fmt_ok, it_nm, it_bin, it_sub, nameV, upd_eq, upd_ne, Rz.bind_ok, Rz.bind_err, Rz.strict, sq_l, sq_t, List.length_map, List.length_append, scal, Bool.false_or, Bool.true_or, Bool.or_false, Bool.or_true, Bool.and_true, Bool.true_and, Bool.and_false, Bool.false_and, Bool.and_self, Bool.or_self, argsV, pt_n, pt_s, cd_n, cd_1, im_l, im_t, item0, item1, item2, elemV, sc, encD, encDs, encH, ne_str, eq_str, lt_int, le_int, gt_int, ge_int, eq_int, ne_int, eq_strs, ne_strs, ne_str_strs, ne_strs_str, ne_deeds, ne_hunks, notin_kinds, notin_kindsT, add_int, sub_int, mod_int, div3, div4, callV, listV, flat_str, slice_map, append_str, snoc_str, List.all_cons, List.all_nil, List.map_cons, List.map_nil, Bool.false_eq_true, if_false, ofString_inj, ne_eq, String.reduceEq, not_false_eq_true, Bool.not_true, Bool.not_false, reduceCtorEq, and_true, true_and, and_self, small, Nat.reduceAdd, Nat.reduceLeDiff, bindPV, maskη, List.lookup_cons, List.lookup_nil, str_beq, decide_true, decide_false, Option.map_some, Option.some.injEq, encP, B]
    rw [len_lst (by simp [small]; omega)]
    simp only [List.length_cons, List.length_nil, if_true, V_s, V_e, V_t, V_j, V_ok, ev_cN, ev_cB, ev_cI, ev_cS, ev_nm, ev_bin, ev_tup, ev_lst, ev_sl, ev_ixC, ev_ixN, ev_ixB, ev_ixK, ev_call, ev_comp, tv_not, tv_lt, tv_le, tv_gt, tv_ge, tv_eq, tv_ne, tv_ni, tv_nm, tv_call, jv_c, jv_f, fmt_ok, it_nm, it_bin, it_sub, nameV, upd_eq, upd_ne, Rz.bind_ok, Rz.bind_err, Rz.strict, sq_l, sq_t, List.length_map, List.length_append, scal, Bool.false_or, Bool.true_or, Bool.or_false, Bool.or_true, Bool.and_true, Bool.true_and, Bool.and_false, Bool.false_and, Bool.and_self, Bool.or_self, argsV, pt_n, pt_s, cd_n, cd_1, im_l, im_t, item0, item1, item2, elemV, sc, encD, encDs, encH, ne_str, eq_str, lt_int, le_int, gt_int, ge_int, eq_int, ne_int, eq_strs, ne_strs, ne_str_strs, ne_strs_str, ne_deeds, ne_hunks, notin_kinds, notin_kindsT, add_int, sub_int, mod_int, div3, div4, callV, listV, flat_str, slice_map, append_str, snoc_str, List.all_cons, List.all_nil, List.map_cons, List.map_nil, Bool.false_eq_true, if_false, ofString_inj, ne_eq, String.reduceEq, not_false_eq_true, Bool.not_true, Bool.not_false, reduceCtorEq, and_true, true_and, and_self, small, Nat.reduceAdd, Nat.reduceLeDiff, bindPV, maskη, List.lookup_cons, List.lookup_nil, str_beq, decide_true, decide_false, Option.map_some, Option.some.injEq, encP]
  · simp only [Bool.and_eq_true, decide_eq_true_eq] at hb
    have h0 : 0 < ds.length := by omega
    have hs : how % ds.length < ds.length := Nat.mod_lt _ h0
    have hm : (how : Int).fmod (ds.length : Int) = ((how % ds.length : Nat) : Int) := fmod_cast how ds.length
    refine p_asgS (d := .int (how % ds.length : Nat)) (b := true) (m := true) ?_ rfl ?_
    · simp only [List.length_cons, List.length_nil, if_true, V_s, V_e, V_t, V_j, V_ok, ev_cN, ev_cB, ev_cI, ev_cS, ev_nm, ev_bin, ev_tup, ev_lst, ev_sl, ev_ixC, ev_ixN, ev_ixB, ev_ixK, ev_call, ev_comp, tv_not, tv_lt, tv_le, tv_gt, tv_ge, tv_eq, tv_ne, tv_ni, tv_nm, tv_call, jv_c, jv_f, fmt_ok, it_nm, it_bin, it_sub, nameV, upd_eq, upd_ne, Rz.bind_ok, Rz.bind_err, Rz.strict, sq_l, sq_t, List.length_map, List.length_append, scal, Bool.false_or, Bool.true_or, Bool.or_false, Bool.or_true, Bool.and_true, Bool.true_and, Bool.and_false, Bool.false_and, Bool.and_self, Bool.or_self, argsV, pt_n, pt_s, cd_n, cd_1, im_l, im_t, item0, item1, item2, elemV, sc, encD, encDs, encH, ne_str, eq_str, lt_int, le_int, gt_int, ge_int, eq_int, ne_int, eq_strs, ne_strs, ne_str_strs, ne_strs_str, ne_deeds, ne_hunks, notin_kinds, notin_kindsT, add_int, sub_int, mod_int, div3, div4, callV, listV, flat_str, slice_map, append_str, snoc_str, List.all_cons, List.all_nil, List.map_cons, List.map_nil, Bool.false_eq_true, if_false, ofString_inj, ne_eq, String.reduceEq, not_false_eq_true, Bool.not_true, Bool.not_false, reduceCtorEq, and_true, true_and, and_self, small, Nat.reduceAdd, Nat.reduceLeDiff, bindPV, maskη, List.lookup_cons, List.lookup_nil, str_beq, decide_true, decide_false, Option.map_some, Option.some.injEq, encP, B]
      rw [len_lst (by simp [small]; omega)]
      simp only [List.length_cons, List.length_nil, if_true, V_s, V_e, V_t, V_j, V_ok, ev_cN, ev_cB, ev_cI, ev_cS, ev_nm, ev_bin, ev_tup, ev_lst, ev_sl, ev_ixC, ev_ixN, ev_ixB, ev_ixK, ev_call, ev_comp, tv_not, tv_lt, tv_le, tv_gt, tv_ge, tv_eq, tv_ne, tv_ni, tv_nm, tv_call, jv_c, jv_f, fmt_ok, it_nm, it_bin, it_sub, nameV, upd_eq, upd_ne, Rz.bind_ok, Rz.bind_err, Rz.strict, sq_l, sq_t, List.length_map, List.length_append, scal, Bool.false_or, Bool.true_or, Bool.or_false, Bool.or_true, Bool.and_true, Bool.true_and, Bool.and_false, Bool.false_and, Bool.and_self, Bool.or_self, argsV, pt_n, pt_s, cd_n, cd_1, im_l, im_t, item0, item1, item2, elemV, sc, encD, encDs, encH, ne_str, eq_str, lt_int, le_int, gt_int, ge_int, eq_int, ne_int, eq_strs, ne_strs, ne_str_strs, ne_strs_str, ne_deeds, ne_hunks, notin_kinds, notin_kindsT, add_int, sub_int, mod_int, div3, div4, callV, listV, flat_str, slice_map, append_str, snoc_str, List.all_cons, List.all_nil, List.map_cons, List.map_nil, Bool.false_eq_true, if_false, ofString_inj, ne_eq, String.reduceEq, not_false_eq_true, Bool.not_true, Bool.not_false, reduceCtorEq, and_true, true_and, and_self, small, Nat.reduceAdd, Nat.reduceLeDiff, bindPV, maskη, List.lookup_cons, List.lookup_nil, str_beq, decide_true, decide_false, Option.map_some, Option.some.injEq, encP]
      rw [mod_int _ _ _ _ _ _ (by omega), hm]
      rfl
    generalize how % ds.length = s at hs ⊢
    refine p_retE (.list ((ds.take s ++ [(ds[s].1, Str.ofString "z")] ++ ds.drop (s + 1)).map encD)) ?_ (fun m => ⟨_, ⟨ds.take s ++ [(ds[s].1, Str.ofString "z")] ++ ds.drop (s + 1), m, by simp; omega, rfl⟩, rfl⟩)
    simp only [List.length_cons, List.length_nil, if_true, V_s, V_e, V_t, V_j, V_ok, ev_cN, ev_cB, ev_cI, ev_cS, ev_nm, ev_bin, ev_tup, ev_lst, ev_sl, ev_ixC, ev_ixN, ev_ixB, ev_ixK, ev_call, ev_comp, tv_not, tv_lt, tv_le, tv_gt, tv_ge, tv_eq, tv_ne, tv_ni, tv_nm, tv_call, jv_c, jv_f, fmt_ok, it_nm, it_bin, it_sub, nameV, upd_eq, upd_ne, Rz.bind_ok, Rz.bind_err, Rz.strict, sq_l, sq_t, List.length_map, List.length_append, scal, Bool.false_or, Bool.true_or, Bool.or_false, Bool.or_true, Bool.and_true, Bool.true_and, Bool.and_false, Bool.false_and, Bool.and_self, Bool.or_self, argsV, pt_n, pt_s, cd_n, cd_1, im_l, im_t, item0, item1, item2, elemV, sc, encD, encDs, encH, ne_str, eq_str, lt_int, le_int, gt_int, ge_int, eq_int, ne_int, eq_strs, ne_strs, ne_str_strs, ne_strs_str, ne_deeds, ne_hunks, notin_kinds, notin_kindsT, add_int, sub_int, mod_int, div3, div4, callV, listV, flat_str, slice_map, append_str, snoc_str, List.all_cons, List.all_nil, List.map_cons, List.map_nil, Bool.false_eq_true, if_false, ofString_inj, ne_eq, String.reduceEq, not_false_eq_true, Bool.not_true, Bool.not_false, reduceCtorEq, and_true, true_and, and_self, small, Nat.reduceAdd, Nat.reduceLeDiff, bindPV, maskη, List.lookup_cons, List.lookup_nil, str_beq, decide_true, decide_false, Option.map_some, Option.some.injEq, encP]
    rw [cut_lists rfl rfl (by unfold small; omega), item_at (d := encD ds[s]) (by rw [Int.toNat_natCast]; simp [hs]) (by omega) (by omega)]
    simp only [List.length_cons, List.length_nil, if_true, V_s, V_e, V_t, V_j, V_ok, ev_cN, ev_cB, ev_cI, ev_cS, ev_nm, ev_bin, ev_tup, ev_lst, ev_sl, ev_ixC, ev_ixN, ev_ixB, ev_ixK, ev_call, ev_comp, tv_not, tv_lt, tv_le, tv_gt, tv_ge, tv_eq, tv_ne, tv_ni, tv_nm, tv_call, jv_c, jv_f, fmt_ok, it_nm, it_bin, it_sub, nameV, upd_eq, upd_ne, Rz.bind_ok, Rz.bind_err, Rz.strict, sq_l, sq_t, List.length_map, List.length_append, scal, Bool.false_or, Bool.true_or, Bool.or_false, Bool.or_true, Bool.and_true, Bool.true_and, Bool.and_false, Bool.false_and, Bool.and_self, Bool.or_self, argsV, pt_n, pt_s, cd_n, cd_1, im_l, im_t, item0, item1, item2, elemV, sc, encD, encDs, encH, ne_str, eq_str, lt_int, le_int, gt_int, ge_int, eq_int, ne_int, eq_strs, ne_strs, ne_str_strs, ne_strs_str, ne_deeds, ne_hunks, notin_kinds, notin_kindsT, add_int, sub_int, mod_int, div3, div4, callV, listV, flat_str, slice_map, append_str, snoc_str, List.all_cons, List.all_nil, List.map_cons, List.map_nil, Bool.false_eq_true, if_false, ofString_inj, ne_eq, String.reduceEq, not_false_eq_true, Bool.not_true, Bool.not_false, reduceCtorEq, and_true, true_and, and_self, small, Nat.reduceAdd, Nat.reduceLeDiff, bindPV, maskη, List.lookup_cons, List.lookup_nil, str_beq, decide_true, decide_false, Option.map_some, Option.some.injEq, encP, slice_to]
    rw [add_lists (by simp [small]; omega)]
    simp only [List.length_cons, List.length_nil, if_true, V_s, V_e, V_t, V_j, V_ok, ev_cN, ev_cB, ev_cI, ev_cS, ev_nm, ev_bin, ev_tup, ev_lst, ev_sl, ev_ixC, ev_ixN, ev_ixB, ev_ixK, ev_call, ev_comp, tv_not, tv_lt, tv_le, tv_gt, tv_ge, tv_eq, tv_ne, tv_ni, tv_nm, tv_call, jv_c, jv_f, fmt_ok, it_nm, it_bin, it_sub, nameV, upd_eq, upd_ne, Rz.bind_ok, Rz.bind_err, Rz.strict, sq_l, sq_t, List.length_map, List.length_append, scal, Bool.false_or, Bool.true_or, Bool.or_false, Bool.or_true, Bool.and_true, Bool.true_and, Bool.and_false, Bool.false_and, Bool.and_self, Bool.or_self, argsV, pt_n, pt_s, cd_n, cd_1, im_l, im_t, item0, item1, item2, elemV, sc, encD, encDs, encH, ne_str, eq_str, lt_int, le_int, gt_int, ge_int, eq_int, ne_int, eq_strs, ne_strs, ne_str_strs, ne_strs_str, ne_deeds, ne_hunks, notin_kinds, notin_kindsT, add_int, sub_int, mod_int, div3, div4, callV, listV, flat_str, slice_map, append_str, snoc_str, List.all_cons, List.all_nil, List.map_cons, List.map_nil, Bool.false_eq_true, if_false, ofString_inj, ne_eq, String.reduceEq, not_false_eq_true, Bool.not_true, Bool.not_false, reduceCtorEq, and_true, true_and, and_self, small, Nat.reduceAdd, Nat.reduceLeDiff, bindPV, maskη, List.lookup_cons, List.lookup_nil, str_beq, decide_true, decide_false, Option.map_some, Option.some.injEq, encP]
    rw [show ((s : Int) + 1) = ((s + 1 : Nat) : Int) from by omega, cut_lists rfl rfl (by unfold small; omega)]
    simp only [List.length_cons, List.length_nil, if_true, V_s, V_e, V_t, V_j, V_ok, ev_cN, ev_cB, ev_cI, ev_cS, ev_nm, ev_bin, ev_tup, ev_lst, ev_sl, ev_ixC, ev_ixN, ev_ixB, ev_ixK, ev_call, ev_comp, tv_not, tv_lt, tv_le, tv_gt, tv_ge, tv_eq, tv_ne, tv_ni, tv_nm, tv_call, jv_c, jv_f, fmt_ok, it_nm, it_bin, it_sub, nameV, upd_eq, upd_ne, Rz.bind_ok, Rz.bind_err, Rz.strict, sq_l, sq_t, List.length_map, List.length_append, scal, Bool.false_or, Bool.true_or, Bool.or_false, Bool.or_true, Bool.and_true, Bool.true_and, Bool.and_false, Bool.false_and, Bool.and_self, Bool.or_self, argsV, pt_n, pt_s, cd_n, cd_1, im_l, im_t, item0, item1, item2, elemV, sc, encD, encDs, encH, ne_str, eq_str, lt_int, le_int, gt_int, ge_int, eq_int, ne_int, eq_strs, ne_strs, ne_str_strs, ne_strs_str, ne_deeds, ne_hunks, notin_kinds, notin_kindsT, add_int, sub_int, mod_int, div3, div4, callV, listV, flat_str, slice_map, append_str, snoc_str, List.all_cons, List.all_nil, List.map_cons, List.map_nil, Bool.false_eq_true, if_false, ofString_inj, ne_eq, String.reduceEq, not_false_eq_true, Bool.not_true, Bool.not_false, reduceCtorEq, and_true, true_and, and_self, small, Nat.reduceAdd, Nat.reduceLeDiff, bindPV, maskη, List.lookup_cons, List.lookup_nil, str_beq, decide_true, decide_false, Option.map_some, Option.some.injEq, encP, slice_from]
    rw [add_lists (by simp [small]; omega)]
    simp only [List.map_append, List.map_cons, List.map_nil, encD]
    exact ⟨_, _, rfl⟩
  refine p_if (b := decide ((how : Int) = 7)) (by simp only [List.length_cons, List.length_nil, if_true, V_s, V_e, V_t, V_j, V_ok, ev_cN, ev_cB, ev_cI, ev_cS, ev_nm, ev_bin, ev_tup, ev_lst, ev_sl, ev_ixC, ev_ixN, ev_ixB, ev_ixK, ev_call, ev_comp, tv_not, tv_lt, tv_le, tv_gt, tv_ge, tv_eq, tv_ne, tv_ni, tv_nm, tv_call, jv_c, jv_f, fmt_ok, it_nm, it_bin, it_sub, nameV, upd_eq, upd_ne, Rz.bind_ok, Rz.bind_err, Rz.strict, sq_l, sq_t, List.length_map, List.length_append, scal, Bool.false_or, Bool.true_or, Bool.or_false, Bool.or_true, Bool.and_true, Bool.true_and, Bool.and_false, Bool.false_and, Bool.and_self, Bool.or_self, argsV, pt_n, pt_s, cd_n, cd_1, im_l, im_t, item0, item1, item2, elemV, sc, encD, encDs, encH, ne_str, eq_str, lt_int, le_int, gt_int, ge_int, eq_int, ne_int, eq_strs, ne_strs, ne_str_strs, ne_strs_str, ne_deeds, ne_hunks, notin_kinds, notin_kindsT, add_int, sub_int, mod_int, div3, div4, callV, listV, flat_str, slice_map, append_str, snoc_str, List.all_cons, List.all_nil, List.map_cons, List.map_nil, Bool.false_eq_true, if_false, ofString_inj, ne_eq, String.reduceEq, not_false_eq_true, Bool.not_true, Bool.not_false, reduceCtorEq, and_true, true_and, and_self, small, Nat.reduceAdd, Nat.reduceLeDiff, bindPV, maskη, List.lookup_cons, List.lookup_nil, str_beq, decide_true, decide_false, Option.map_some, Option.some.injEq, encP]) (fun _ => ?_) (fun _ => p_end ?_)
  · refine p_retE (.list ((ds ++ [(Str.ofString "keep", Str.ofString "a")]).map encD)) ?_ (fun m => ⟨_, ⟨ds ++ [(Str.ofString "keep", Str.ofString "a")], m, by simp; omega, rfl⟩, rfl⟩)
    simp only [List.length_cons, List.length_nil, if_true, V_s, V_e, V_t, V_j, V_ok, ev_cN, ev_cB, ev_cI, ev_cS, ev_nm, ev_bin, ev_tup, ev_lst, ev_sl, ev_ixC, ev_ixN, ev_ixB, ev_ixK, ev_call, ev_comp, tv_not, tv_lt, tv_le, tv_gt, tv_ge, tv_eq, tv_ne, tv_ni, tv_nm, tv_call, jv_c, jv_f, fmt_ok, it_nm, it_bin, it_sub, nameV, upd_eq, upd_ne, Rz.bind_ok, Rz.bind_err, Rz.strict, sq_l, sq_t, List.length_map, List.length_append, scal, Bool.false_or, Bool.true_or, Bool.or_false, Bool.or_true, Bool.and_true, Bool.true_and, Bool.and_false, Bool.false_and, Bool.and_self, Bool.or_self, argsV, pt_n, pt_s, cd_n, cd_1, im_l, im_t, item0, item1, item2, elemV, sc, encD, encDs, encH, ne_str, eq_str, lt_int, le_int, gt_int, ge_int, eq_int, ne_int, eq_strs, ne_strs, ne_str_strs, ne_strs_str, ne_deeds, ne_hunks, notin_kinds, notin_kindsT, add_int, sub_int, mod_int, div3, div4, callV, listV, flat_str, slice_map, append_str, snoc_str, List.all_cons, List.all_nil, List.map_cons, List.map_nil, Bool.false_eq_true, if_false, ofString_inj, ne_eq, String.reduceEq, not_false_eq_true, Bool.not_true, Bool.not_false, reduceCtorEq, and_true, true_and, and_self, small, Nat.reduceAdd, Nat.reduceLeDiff, bindPV, maskη, List.lookup_cons, List.lookup_nil, str_beq, decide_true, decide_false, Option.map_some, Option.some.injEq, encP]
    rw [add_lists (by simp [small]; omega)]
    simp only [List.map_append, List.map_cons, List.map_nil, encD]
    exact ⟨_, _, rfl⟩
  refine p_if (b := decide ((how : Int) = 8)) (by simp only [List.length_cons, List.length_nil, if_true, V_s, V_e, V_t, V_j, V_ok, ev_cN, ev_cB, ev_cI, ev_cS, ev_nm, ev_bin, ev_tup, ev_lst, ev_sl, ev_ixC, ev_ixN, ev_ixB, ev_ixK, ev_call, ev_comp, tv_not, tv_lt, tv_le, tv_gt, tv_ge, tv_eq, tv_ne, tv_ni, tv_nm, tv_call, jv_c, jv_f, fmt_ok, it_nm, it_bin, it_sub, nameV, upd_eq, upd_ne, Rz.bind_ok, Rz.bind_err, Rz.strict, sq_l, sq_t, List.length_map, List.length_append, scal, Bool.false_or, Bool.true_or, Bool.or_false, Bool.or_true, Bool.and_true, Bool.true_and, Bool.and_false, Bool.false_and, Bool.and_self, Bool.or_self, argsV, pt_n, pt_s, cd_n, cd_1, im_l, im_t, item0, item1, item2, elemV, sc, encD, encDs, encH, ne_str, eq_str, lt_int, le_int, gt_int, ge_int, eq_int, ne_int, eq_strs, ne_strs, ne_str_strs, ne_strs_str, ne_deeds, ne_hunks, notin_kinds, notin_kindsT, add_int, sub_int, mod_int, div3, div4, callV, listV, flat_str, slice_map, append_str, snoc_str, List.all_cons, List.all_nil, List.map_cons, List.map_nil, Bool.false_eq_true, if_false, ofString_inj, ne_eq, String.reduceEq, not_false_eq_true, Bool.not_true, Bool.not_false, reduceCtorEq, and_true, true_and, and_self, small, Nat.reduceAdd, Nat.reduceLeDiff, bindPV, maskη, List.lookup_cons, List.lookup_nil, str_beq, decide_true, decide_false, Option.map_some, Option.some.injEq, encP]) (fun _ => ?_) (fun _ => p_end ?_)
  · refine p_retE (.list ((ds ++ [(Str.ofString "move", Str.ofString "a")]).map encD)) ?_ (fun m => ⟨_, ⟨ds ++ [(Str.ofString "move", Str.ofString "a")], m, by simp; omega, rfl⟩, rfl⟩)
    simp only [List.length_cons, List.length_nil, if_true, V_s, V_e, V_t, V_j, V_ok, ev_cN, ev_cB, ev_cI, ev_cS, ev_nm, ev_bin, ev_tup, ev_lst, ev_sl, ev_ixC, ev_ixN, ev_ixB, ev_ixK, ev_call, ev_comp, tv_not, tv_lt, tv_le, tv_gt, tv_ge, tv_eq, tv_ne, tv_ni, tv_nm, tv_call, jv_c, jv_f, fmt_ok, it_nm, it_bin, it_sub, nameV, upd_eq, upd_ne, Rz.bind_ok, Rz.bind_err, Rz.strict, sq_l, sq_t, List.length_map, List.length_append, scal, Bool.false_or, Bool.true_or, Bool.or_false, Bool.or_true, Bool.and_true, Bool.true_and, Bool.and_false, Bool.false_and, Bool.and_self, Bool.or_self, argsV, pt_n, pt_s, cd_n, cd_1, im_l, im_t, item0, item1, item2, elemV, sc, encD, encDs, encH, ne_str, eq_str, lt_int, le_int, gt_int, ge_int, eq_int, ne_int, eq_strs, ne_strs, ne_str_strs, ne_strs_str, ne_deeds, ne_hunks, notin_kinds, notin_kindsT, add_int, sub_int, mod_int, div3, div4, callV, listV, flat_str, slice_map, append_str, snoc_str, List.all_cons, List.all_nil, List.map_cons, List.map_nil, Bool.false_eq_true, if_false, ofString_inj, ne_eq, String.reduceEq, not_false_eq_true, Bool.not_true, Bool.not_false, reduceCtorEq, and_true, true_and, and_self, small, Nat.reduceAdd, Nat.reduceLeDiff, bindPV, maskη, List.lookup_cons, List.lookup_nil, str_beq, decide_true, decide_false, Option.map_some, Option.some.injEq, encP]
    rw [add_lists (by simp [small]; omega)]
    simp only [List.map_append, List.map_cons, List.map_nil, encD]
    exact ⟨_, _, rfl⟩
  exact p_ret (d := .list (ds.map encD)) (b := false) (m := false) (by simp only [List.length_cons, List.length_nil, if_true, V_s, V_e, V_t, V_j, V_ok, ev_cN, ev_cB, ev_cI, ev_cS, ev_nm, ev_bin, ev_tup, ev_lst, ev_sl, ev_ixC, ev_ixN, ev_ixB, ev_ixK, ev_call, ev_comp, tv_not, tv_lt, tv_le, tv_gt, tv_ge, tv_eq, tv_ne, tv_ni, tv_nm, tv_call, jv_c, jv_f, fmt_ok, it_nm, it_bin, it_sub, nameV, upd_eq, upd_ne, Rz.bind_ok, Rz.bind_err, Rz.strict, sq_l, sq_t, List.length_map, List.length_append, scal, Bool.false_or, Bool.true_or, Bool.or_false, Bool.or_true, Bool.and_true, Bool.true_and, Bool.and_false, Bool.false_and, Bool.and_self, Bool.or_self, argsV, pt_n, pt_s, cd_n, cd_1, im_l, im_t, item0, item1, item2, elemV, sc, encD, encDs, encH, ne_str, eq_str, lt_int, le_int, gt_int, ge_int, eq_int, ne_int, eq_strs, ne_strs, ne_str_strs, ne_strs_str, ne_deeds, ne_hunks, notin_kinds, notin_kindsT, add_int, sub_int, mod_int, div3, div4, callV, listV, flat_str, slice_map, append_str, snoc_str, List.all_cons, List.all_nil, List.map_cons, List.map_nil, Bool.false_eq_true, if_false, ofString_inj, ne_eq, String.reduceEq, not_false_eq_true, Bool.not_true, Bool.not_false, reduceCtorEq, and_true, true_and, and_self, small, Nat.reduceAdd, Nat.reduceLeDiff, bindPV, maskη, List.lookup_cons, List.lookup_nil, str_beq, decide_true, decide_false, Option.map_some, Option.some.injEq, encP]) ⟨_, ⟨ds, _, by omega, rfl⟩, rfl⟩

noncomputable def dueR (xs front : List Str) (done : Nat) (s t : Int) (ds : List (Str × Str)) : Option (List Str) := (applyT xs (s, t, ds) (done, front)).map fun s => s.2 ++ xs.drop s.1

theorem due_loop (n : Nat) (hk : Θ.glob (Str.ofString "_law_KINDS") = some (.tuple [.str (Str.ofString "keep"), .str (Str.ofString "del"), .str (Str.ofString "add")])) : ∀ (ds : List (Str × Str)) (η : VEnv) (P : Out → Prop), η (Str.ofString "_law_KINDS") = none →
    (ds.all (fun d => kn d.1) = true → ∀ η', (∀ y : String, y ≠ "deed" → η' (Str.ofString y) = η (Str.ofString y)) → P (.next η')) → (¬ ds.all (fun d => kn d.1) = true → P (.ret (.str (Str.ofString "refused")) true)) →
    Post (forV (Str.ofString "deed") false (seqV (V Θ (n + 15)).s (loopOf (bodyOf pw 12) 2)) (ds.map encD) η) P
  | [], η, P, hη, h1, _ => f_nil (h1 rfl η fun _ _ => rfl)
  | d :: ds, η, P, hη, h1, h2 => by
    refine f_cons ?_
    have ih := due_loop n hk ds
    unfold loopOf at ih ⊢
    unfold bodyOf pw PySem.Challenge.pw_pd_weave_3_05 at ih ⊢
    dsimp only [List.getElem?_cons_succ, List.getElem?_cons_zero] at ih ⊢
    refine p_if (b := !kn d.1) (by simp only [List.length_cons, List.length_nil, if_true, V_s, V_e, V_t, V_j, V_ok, ev_cN, ev_cB, ev_cI, ev_cS, ev_nm, ev_bin, ev_tup, ev_lst, ev_sl, ev_ixC, ev_ixN, ev_ixB, ev_ixK, ev_call, ev_comp, tv_not, tv_lt, tv_le, tv_gt, tv_ge, tv_eq, tv_ne, tv_ni, tv_nm, tv_call, jv_c, jv_f, fmt_ok, it_nm, it_bin, it_sub, nameV, upd_eq, upd_ne, Rz.bind_ok, Rz.bind_err, Rz.strict, sq_l, sq_t, List.length_map, List.length_append, scal, Bool.false_or, Bool.true_or, Bool.or_false, Bool.or_true, Bool.and_true, Bool.true_and, Bool.and_false, Bool.false_and, Bool.and_self, Bool.or_self, argsV, pt_n, pt_s, cd_n, cd_1, im_l, im_t, item0, item1, item2, elemV, sc, encD, encDs, encH, ne_str, eq_str, lt_int, le_int, gt_int, ge_int, eq_int, ne_int, eq_strs, ne_strs, ne_str_strs, ne_strs_str, ne_deeds, ne_hunks, notin_kinds, notin_kindsT, add_int, sub_int, mod_int, div3, div4, callV, listV, flat_str, slice_map, append_str, snoc_str, List.all_cons, List.all_nil, List.map_cons, List.map_nil, Bool.false_eq_true, if_false, ofString_inj, ne_eq, String.reduceEq, not_false_eq_true, Bool.not_true, Bool.not_false, reduceCtorEq, and_true, true_and, and_self, small, Nat.reduceAdd, Nat.reduceLeDiff, bindPV, maskη, List.lookup_cons, List.lookup_nil, str_beq, decide_true, decide_false, Option.map_some, Option.some.injEq, encP, hη, hk]) (fun hb => ?_) (fun hb => p_end (p_nil ?_))
    · refine p_ret (d := .str (Str.ofString "refused")) (b := true) (m := true) (by simp only [List.length_cons, List.length_nil, if_true, V_s, V_e, V_t, V_j, V_ok, ev_cN, ev_cB, ev_cI, ev_cS, ev_nm, ev_bin, ev_tup, ev_lst, ev_sl, ev_ixC, ev_ixN, ev_ixB, ev_ixK, ev_call, ev_comp, tv_not, tv_lt, tv_le, tv_gt, tv_ge, tv_eq, tv_ne, tv_ni, tv_nm, tv_call, jv_c, jv_f, fmt_ok, it_nm, it_bin, it_sub, nameV, upd_eq, upd_ne, Rz.bind_ok, Rz.bind_err, Rz.strict, sq_l, sq_t, List.length_map, List.length_append, scal, Bool.false_or, Bool.true_or, Bool.or_false, Bool.or_true, Bool.and_true, Bool.true_and, Bool.and_false, Bool.false_and, Bool.and_self, Bool.or_self, argsV, pt_n, pt_s, cd_n, cd_1, im_l, im_t, item0, item1, item2, elemV, sc, encD, encDs, encH, ne_str, eq_str, lt_int, le_int, gt_int, ge_int, eq_int, ne_int, eq_strs, ne_strs, ne_str_strs, ne_strs_str, ne_deeds, ne_hunks, notin_kinds, notin_kindsT, add_int, sub_int, mod_int, div3, div4, callV, listV, flat_str, slice_map, append_str, snoc_str, List.all_cons, List.all_nil, List.map_cons, List.map_nil, Bool.false_eq_true, if_false, ofString_inj, ne_eq, String.reduceEq, not_false_eq_true, Bool.not_true, Bool.not_false, reduceCtorEq, and_true, true_and, and_self, small, Nat.reduceAdd, Nat.reduceLeDiff, bindPV, maskη, List.lookup_cons, List.lookup_nil, str_beq, decide_true, decide_false, Option.map_some, Option.some.injEq, encP]) ?_
      exact h2 (by simp at hb; simp [hb])
    · have hb : kn d.1 = true := by simpa using hb
      refine ih _ P (by rw [upd_ne _ _ _ _ (by decide)]; exact hη) (fun ha η' he => h1 (by simp only [List.all_cons, hb, Bool.true_and]; exact ha) η' fun y hy => by rw [he y hy, upd_ne _ _ _ _ hy]) (fun ha => h2 (by simp only [List.all_cons, hb, Bool.true_and]; exact ha))

structure WithoutFn (Θ : VThy) : Prop where
  wo : ∃ φ, Θ.fn (Str.ofString "_law_without") = some φ ∧ ∀ (ds : List (Str × Str)) (k : Str), ds.length ≤ 1000 → φ [.list (ds.map encD), .str k] = .ok (.list ((wo ds k).map .str), true)

theorem due_ok (n : Nat) (B : Θ.fn (Str.ofString "len") = none) (W : WithoutFn Θ) (hk : Θ.glob (Str.ofString "_law_KINDS") = some (.tuple [.str (Str.ofString "keep"), .str (Str.ofString "del"), .str (Str.ofString "add")]))
    (xs front : List Str) (hx : xs.length ≤ 6) (hf : front.length ≤ 100) (done : Nat) (hdn : done ≤ xs.length) (s : Nat) (t : Int) (ds : List (Str × Str)) (hds : ds.length ≤ 10) :
    callVF Θ (n + 20) ["text", "front", "done", "s", "t", "deeds"] (bodyOf pw 12) [.list (xs.map .str), .list (front.map .str), .int done, .int s, .int t, .list (ds.map encD)] = .ok (optD (dueR xs front done s t ds), true) := by
  obtain ⟨φ, w1, w2⟩ := W.wo
  have loop := due_loop (Θ := Θ) (n + 4) hk ds
  refine call_of rfl ?_
  unfold loopOf at loop
  unfold bodyOf pw PySem.Challenge.pw_pd_weave_3_05 at loop ⊢
  dsimp only [List.getElem?_cons_succ, List.getElem?_cons_zero] at loop ⊢
  have hsl := src_len ds
  have htl := tgt_len ds
  unfold dueR applyT
  dsimp only
  refine p_if (b := decide ((s : Int) < done) || decide ((xs.length : Int) < s)) ?_ (fun hb => ?_) (fun hb => p_end ?_)
  · refine t_or2 (by simp only [List.length_cons, List.length_nil, if_true, V_s, V_e, V_t, V_j, V_ok, ev_cN, ev_cB, ev_cI, ev_cS, ev_nm, ev_bin, ev_tup, ev_lst, ev_sl, ev_ixC, ev_ixN, ev_ixB, ev_ixK, ev_call, ev_comp, tv_not, tv_lt, tv_le, tv_gt, tv_ge, tv_eq, tv_ne, tv_ni, tv_nm, tv_call, jv_c, jv_f, fmt_ok, it_nm, it_bin, it_sub, nameV, upd_eq, upd_ne, Rz.bind_ok, Rz.bind_err, Rz.strict, sq_l, sq_t, List.length_map, List.length_append, scal, Bool.false_or, Bool.true_or, Bool.or_false, Bool.or_true, Bool.and_true, Bool.true_and, Bool.and_false, Bool.false_and, Bool.and_self, Bool.or_self, argsV, pt_n, pt_s, cd_n, cd_1, im_l, im_t, item0, item1, item2, elemV, sc, encD, encDs, encH, ne_str, eq_str, lt_int, le_int, gt_int, ge_int, eq_int, ne_int, eq_strs, ne_strs, ne_str_strs, ne_strs_str, ne_deeds, ne_hunks, notin_kinds, notin_kindsT, add_int, sub_int, mod_int, div3, div4, callV, listV, flat_str, slice_map, append_str, snoc_str, List.all_cons, List.all_nil, List.map_cons, List.map_nil, Bool.false_eq_true, if_false, ofString_inj, ne_eq, String.reduceEq, not_false_eq_true, Bool.not_true, Bool.not_false, reduceCtorEq, and_true, true_and, and_self, small, Nat.reduceAdd, Nat.reduceLeDiff, bindPV, maskη, List.lookup_cons, List.lookup_nil, str_beq, decide_true, decide_false, Option.map_some, Option.some.injEq, encP]) (fun _ => ?_)
    simp only [List.length_cons, List.length_nil, if_true, V_s, V_e, V_t, V_j, V_ok, ev_cN, ev_cB, ev_cI, ev_cS, ev_nm, ev_bin, ev_tup, ev_lst, ev_sl, ev_ixC, ev_ixN, ev_ixB, ev_ixK, ev_call, ev_comp, tv_not, tv_lt, tv_le, tv_gt, tv_ge, tv_eq, tv_ne, tv_ni, tv_nm, tv_call, jv_c, jv_f, fmt_ok, it_nm, it_bin, it_sub, nameV, upd_eq, upd_ne, Rz.bind_ok, Rz.bind_err, Rz.strict, sq_l, sq_t, List.length_map, List.length_append, scal, Bool.false_or, Bool.true_or, Bool.or_false, Bool.or_true, Bool.and_true, Bool.true_and, Bool.and_false, Bool.false_and, Bool.and_self, Bool.or_self, argsV, pt_n, pt_s, cd_n, cd_1, im_l, im_t, item0, item1, item2, elemV, sc, encD, encDs, encH, ne_str, eq_str, lt_int, le_int, gt_int, ge_int, eq_int, ne_int, eq_strs, ne_strs, ne_str_strs, ne_strs_str, ne_deeds, ne_hunks, notin_kinds, notin_kindsT, add_int, sub_int, mod_int, div3, div4, callV, listV, flat_str, slice_map, append_str, snoc_str, List.all_cons, List.all_nil, List.map_cons, List.map_nil, Bool.false_eq_true, if_false, ofString_inj, ne_eq, String.reduceEq, not_false_eq_true, Bool.not_true, Bool.not_false, reduceCtorEq, and_true, true_and, and_self, small, Nat.reduceAdd, Nat.reduceLeDiff, bindPV, maskη, List.lookup_cons, List.lookup_nil, str_beq, decide_true, decide_false, Option.map_some, Option.some.injEq, encP, B]
    rw [len_lst (by simp [small]; omega)]
    simp only [List.length_cons, List.length_nil, if_true, V_s, V_e, V_t, V_j, V_ok, ev_cN, ev_cB, ev_cI, ev_cS, ev_nm, ev_bin, ev_tup, ev_lst, ev_sl, ev_ixC, ev_ixN, ev_ixB, ev_ixK, ev_call, ev_comp, tv_not, tv_lt, tv_le, tv_gt, tv_ge, tv_eq, tv_ne, tv_ni, tv_nm, tv_call, jv_c, jv_f, fmt_ok, it_nm, it_bin, it_sub, nameV, upd_eq, upd_ne, Rz.bind_ok, Rz.bind_err, Rz.strict, sq_l, sq_t, List.length_map, List.length_append, scal, Bool.false_or, Bool.true_or, Bool.or_false, Bool.or_true, Bool.and_true, Bool.true_and, Bool.and_false, Bool.false_and, Bool.and_self, Bool.or_self, argsV, pt_n, pt_s, cd_n, cd_1, im_l, im_t, item0, item1, item2, elemV, sc, encD, encDs, encH, ne_str, eq_str, lt_int, le_int, gt_int, ge_int, eq_int, ne_int, eq_strs, ne_strs, ne_str_strs, ne_strs_str, ne_deeds, ne_hunks, notin_kinds, notin_kindsT, add_int, sub_int, mod_int, div3, div4, callV, listV, flat_str, slice_map, append_str, snoc_str, List.all_cons, List.all_nil, List.map_cons, List.map_nil, Bool.false_eq_true, if_false, ofString_inj, ne_eq, String.reduceEq, not_false_eq_true, Bool.not_true, Bool.not_false, reduceCtorEq, and_true, true_and, and_self, small, Nat.reduceAdd, Nat.reduceLeDiff, bindPV, maskη, List.lookup_cons, List.lookup_nil, str_beq, decide_true, decide_false, Option.map_some, Option.some.injEq, encP]
  · rw [if_pos (by simpa using hb)]
    exact p_ret (d := .str (Str.ofString "refused")) (b := true) (m := true) (by simp only [List.length_cons, List.length_nil, if_true, V_s, V_e, V_t, V_j, V_ok, ev_cN, ev_cB, ev_cI, ev_cS, ev_nm, ev_bin, ev_tup, ev_lst, ev_sl, ev_ixC, ev_ixN, ev_ixB, ev_ixK, ev_call, ev_comp, tv_not, tv_lt, tv_le, tv_gt, tv_ge, tv_eq, tv_ne, tv_ni, tv_nm, tv_call, jv_c, jv_f, fmt_ok, it_nm, it_bin, it_sub, nameV, upd_eq, upd_ne, Rz.bind_ok, Rz.bind_err, Rz.strict, sq_l, sq_t, List.length_map, List.length_append, scal, Bool.false_or, Bool.true_or, Bool.or_false, Bool.or_true, Bool.and_true, Bool.true_and, Bool.and_false, Bool.false_and, Bool.and_self, Bool.or_self, argsV, pt_n, pt_s, cd_n, cd_1, im_l, im_t, item0, item1, item2, elemV, sc, encD, encDs, encH, ne_str, eq_str, lt_int, le_int, gt_int, ge_int, eq_int, ne_int, eq_strs, ne_strs, ne_str_strs, ne_strs_str, ne_deeds, ne_hunks, notin_kinds, notin_kindsT, add_int, sub_int, mod_int, div3, div4, callV, listV, flat_str, slice_map, append_str, snoc_str, List.all_cons, List.all_nil, List.map_cons, List.map_nil, Bool.false_eq_true, if_false, ofString_inj, ne_eq, String.reduceEq, not_false_eq_true, Bool.not_true, Bool.not_false, reduceCtorEq, and_true, true_and, and_self, small, Nat.reduceAdd, Nat.reduceLeDiff, bindPV, maskη, List.lookup_cons, List.lookup_nil, str_beq, decide_true, decide_false, Option.map_some, Option.some.injEq, encP]) rfl
  simp only [Bool.or_eq_false_iff, decide_eq_false_iff_not] at hb
  rw [if_neg (by omega)]
  have hcl : ((front ++ (xs.drop done).take (s - done)).length : Int) = (front.length : Int) + s - done := by
    rw [List.length_append, List.length_take, List.length_drop]; omega
  simp only [Int.toNat_natCast]
  rw [hcl]
  refine p_if (b := decide (t ≠ (front.length : Int) + s - done)) ?_ (fun hb => ?_) (fun hb => p_end ?_)
  · simp only [List.length_cons, List.length_nil, if_true, V_s, V_e, V_t, V_j, V_ok, ev_cN, ev_cB, ev_cI, ev_cS, ev_nm, ev_bin, ev_tup, ev_lst, ev_sl, ev_ixC, ev_ixN, ev_ixB, ev_ixK, ev_call, ev_comp, tv_not, tv_lt, tv_le, tv_gt, tv_ge, tv_eq, tv_ne, tv_ni, tv_nm, tv_call, jv_c, jv_f, fmt_ok, it_nm, it_bin, it_sub, nameV, upd_eq, upd_ne, Rz.bind_ok, Rz.bind_err, Rz.strict, sq_l, sq_t, List.length_map, List.length_append, scal, Bool.false_or, Bool.true_or, Bool.or_false, Bool.or_true, Bool.and_true, Bool.true_and, Bool.and_false, Bool.false_and, Bool.and_self, Bool.or_self, argsV, pt_n, pt_s, cd_n, cd_1, im_l, im_t, item0, item1, item2, elemV, sc, encD, encDs, encH, ne_str, eq_str, lt_int, le_int, gt_int, ge_int, eq_int, ne_int, eq_strs, ne_strs, ne_str_strs, ne_strs_str, ne_deeds, ne_hunks, notin_kinds, notin_kindsT, add_int, sub_int, mod_int, div3, div4, callV, listV, flat_str, slice_map, append_str, snoc_str, List.all_cons, List.all_nil, List.map_cons, List.map_nil, Bool.false_eq_true, if_false, ofString_inj, ne_eq, String.reduceEq, not_false_eq_true, Bool.not_true, Bool.not_false, reduceCtorEq, and_true, true_and, and_self, small, Nat.reduceAdd, Nat.reduceLeDiff, bindPV, maskη, List.lookup_cons, List.lookup_nil, str_beq, decide_true, decide_false, Option.map_some, Option.some.injEq, encP, B]
    rw [len_lst (by simp [small]; omega)]
    simp only [List.length_cons, List.length_nil, if_true, V_s, V_e, V_t, V_j, V_ok, ev_cN, ev_cB, ev_cI, ev_cS, ev_nm, ev_bin, ev_tup, ev_lst, ev_sl, ev_ixC, ev_ixN, ev_ixB, ev_ixK, ev_call, ev_comp, tv_not, tv_lt, tv_le, tv_gt, tv_ge, tv_eq, tv_ne, tv_ni, tv_nm, tv_call, jv_c, jv_f, fmt_ok, it_nm, it_bin, it_sub, nameV, upd_eq, upd_ne, Rz.bind_ok, Rz.bind_err, Rz.strict, sq_l, sq_t, List.length_map, List.length_append, scal, Bool.false_or, Bool.true_or, Bool.or_false, Bool.or_true, Bool.and_true, Bool.true_and, Bool.and_false, Bool.false_and, Bool.and_self, Bool.or_self, argsV, pt_n, pt_s, cd_n, cd_1, im_l, im_t, item0, item1, item2, elemV, sc, encD, encDs, encH, ne_str, eq_str, lt_int, le_int, gt_int, ge_int, eq_int, ne_int, eq_strs, ne_strs, ne_str_strs, ne_strs_str, ne_deeds, ne_hunks, notin_kinds, notin_kindsT, add_int, sub_int, mod_int, div3, div4, callV, listV, flat_str, slice_map, append_str, snoc_str, List.all_cons, List.all_nil, List.map_cons, List.map_nil, Bool.false_eq_true, if_false, ofString_inj, ne_eq, String.reduceEq, not_false_eq_true, Bool.not_true, Bool.not_false, reduceCtorEq, and_true, true_and, and_self, small, Nat.reduceAdd, Nat.reduceLeDiff, bindPV, maskη, List.lookup_cons, List.lookup_nil, str_beq, decide_true, decide_false, Option.map_some, Option.some.injEq, encP]
  · rw [if_pos (by simpa using hb)]
    exact p_ret (d := .str (Str.ofString "refused")) (b := true) (m := true) (by simp only [List.length_cons, List.length_nil, if_true, V_s, V_e, V_t, V_j, V_ok, ev_cN, ev_cB, ev_cI, ev_cS, ev_nm, ev_bin, ev_tup, ev_lst, ev_sl, ev_ixC, ev_ixN, ev_ixB, ev_ixK, ev_call, ev_comp, tv_not, tv_lt, tv_le, tv_gt, tv_ge, tv_eq, tv_ne, tv_ni, tv_nm, tv_call, jv_c, jv_f, fmt_ok, it_nm, it_bin, it_sub, nameV, upd_eq, upd_ne, Rz.bind_ok, Rz.bind_err, Rz.strict, sq_l, sq_t, List.length_map, List.length_append, scal, Bool.false_or, Bool.true_or, Bool.or_false, Bool.or_true, Bool.and_true, Bool.true_and, Bool.and_false, Bool.false_and, Bool.and_self, Bool.or_self, argsV, pt_n, pt_s, cd_n, cd_1, im_l, im_t, item0, item1, item2, elemV, sc, encD, encDs, encH, ne_str, eq_str, lt_int, le_int, gt_int, ge_int, eq_int, ne_int, eq_strs, ne_strs, ne_str_strs, ne_strs_str, ne_deeds, ne_hunks, notin_kinds, notin_kindsT, add_int, sub_int, mod_int, div3, div4, callV, listV, flat_str, slice_map, append_str, snoc_str, List.all_cons, List.all_nil, List.map_cons, List.map_nil, Bool.false_eq_true, if_false, ofString_inj, ne_eq, String.reduceEq, not_false_eq_true, Bool.not_true, Bool.not_false, reduceCtorEq, and_true, true_and, and_self, small, Nat.reduceAdd, Nat.reduceLeDiff, bindPV, maskη, List.lookup_cons, List.lookup_nil, str_beq, decide_true, decide_false, Option.map_some, Option.some.injEq, encP]) rfl
  have hb : t = (front.length : Int) + s - done := by simpa using hb
  rw [if_neg (by simpa using hb)]
  refine p_for (ds := ds.map encD) (bo := false) (mi := false) (by simp only [List.length_cons, List.length_nil, if_true, V_s, V_e, V_t, V_j, V_ok, ev_cN, ev_cB, ev_cI, ev_cS, ev_nm, ev_bin, ev_tup, ev_lst, ev_sl, ev_ixC, ev_ixN, ev_ixB, ev_ixK, ev_call, ev_comp, tv_not, tv_lt, tv_le, tv_gt, tv_ge, tv_eq, tv_ne, tv_ni, tv_nm, tv_call, jv_c, jv_f, fmt_ok, it_nm, it_bin, it_sub, nameV, upd_eq, upd_ne, Rz.bind_ok, Rz.bind_err, Rz.strict, sq_l, sq_t, List.length_map, List.length_append, scal, Bool.false_or, Bool.true_or, Bool.or_false, Bool.or_true, Bool.and_true, Bool.true_and, Bool.and_false, Bool.false_and, Bool.and_self, Bool.or_self, argsV, pt_n, pt_s, cd_n, cd_1, im_l, im_t, item0, item1, item2, elemV, sc, encD, encDs, encH, ne_str, eq_str, lt_int, le_int, gt_int, ge_int, eq_int, ne_int, eq_strs, ne_strs, ne_str_strs, ne_strs_str, ne_deeds, ne_hunks, notin_kinds, notin_kindsT, add_int, sub_int, mod_int, div3, div4, callV, listV, flat_str, slice_map, append_str, snoc_str, List.all_cons, List.all_nil, List.map_cons, List.map_nil, Bool.false_eq_true, if_false, ofString_inj, ne_eq, String.reduceEq, not_false_eq_true, Bool.not_true, Bool.not_false, reduceCtorEq, and_true, true_and, and_self, small, Nat.reduceAdd, Nat.reduceLeDiff, bindPV, maskη, List.lookup_cons, List.lookup_nil, str_beq, decide_true, decide_false, Option.map_some, Option.some.injEq, encP]; rw [if_pos (by omega)]) ?_
  refine loop _ _ (by rw [drop_none]; simp only [List.length_cons, List.length_nil, if_true, V_s, V_e, V_t, V_j, V_ok, ev_cN, ev_cB, ev_cI, ev_cS, ev_nm, ev_bin, ev_tup, ev_lst, ev_sl, ev_ixC, ev_ixN, ev_ixB, ev_ixK, ev_call, ev_comp, tv_not, tv_lt, tv_le, tv_gt, tv_ge, tv_eq, tv_ne, tv_ni, tv_nm, tv_call, jv_c, jv_f, fmt_ok, it_nm, it_bin, it_sub, nameV, upd_eq, upd_ne, Rz.bind_ok, Rz.bind_err, Rz.strict, sq_l, sq_t, List.length_map, List.length_append, scal, Bool.false_or, Bool.true_or, Bool.or_false, Bool.or_true, Bool.and_true, Bool.true_and, Bool.and_false, Bool.false_and, Bool.and_self, Bool.or_self, argsV, pt_n, pt_s, cd_n, cd_1, im_l, im_t, item0, item1, item2, elemV, sc, encD, encDs, encH, ne_str, eq_str, lt_int, le_int, gt_int, ge_int, eq_int, ne_int, eq_strs, ne_strs, ne_str_strs, ne_strs_str, ne_deeds, ne_hunks, notin_kinds, notin_kindsT, add_int, sub_int, mod_int, div3, div4, callV, listV, flat_str, slice_map, append_str, snoc_str, List.all_cons, List.all_nil, List.map_cons, List.map_nil, Bool.false_eq_true, if_false, ofString_inj, ne_eq, String.reduceEq, not_false_eq_true, Bool.not_true, Bool.not_false, reduceCtorEq, and_true, true_and, and_self, small, Nat.reduceAdd, Nat.reduceLeDiff, bindPV, maskη, List.lookup_cons, List.lookup_nil, str_beq, decide_true, decide_false, Option.map_some, Option.some.injEq, encP]) (fun ha η₁ he => then_next ?_) (fun ha => ?_)
  rotate_left
  · rw [if_neg (fun z => ha z.1)]
    rfl
  have e1 : η₁ (Str.ofString "deeds") = some ⟨.list (ds.map encD), false, false⟩ := by rw [he _ (by decide)]; exact drop_no (by simp only [List.length_cons, List.length_nil, if_true, V_s, V_e, V_t, V_j, V_ok, ev_cN, ev_cB, ev_cI, ev_cS, ev_nm, ev_bin, ev_tup, ev_lst, ev_sl, ev_ixC, ev_ixN, ev_ixB, ev_ixK, ev_call, ev_comp, tv_not, tv_lt, tv_le, tv_gt, tv_ge, tv_eq, tv_ne, tv_ni, tv_nm, tv_call, jv_c, jv_f, fmt_ok, it_nm, it_bin, it_sub, nameV, upd_eq, upd_ne, Rz.bind_ok, Rz.bind_err, Rz.strict, sq_l, sq_t, List.length_map, List.length_append, scal, Bool.false_or, Bool.true_or, Bool.or_false, Bool.or_true, Bool.and_true, Bool.true_and, Bool.and_false, Bool.false_and, Bool.and_self, Bool.or_self, argsV, pt_n, pt_s, cd_n, cd_1, im_l, im_t, item0, item1, item2, elemV, sc, encD, encDs, encH, ne_str, eq_str, lt_int, le_int, gt_int, ge_int, eq_int, ne_int, eq_strs, ne_strs, ne_str_strs, ne_strs_str, ne_deeds, ne_hunks, notin_kinds, notin_kindsT, add_int, sub_int, mod_int, div3, div4, callV, listV, flat_str, slice_map, append_str, snoc_str, List.all_cons, List.all_nil, List.map_cons, List.map_nil, Bool.false_eq_true, if_false, ofString_inj, ne_eq, String.reduceEq, not_false_eq_true, Bool.not_true, Bool.not_false, reduceCtorEq, and_true, true_and, and_self, small, Nat.reduceAdd, Nat.reduceLeDiff, bindPV, maskη, List.lookup_cons, List.lookup_nil, str_beq, decide_true, decide_false, Option.map_some, Option.some.injEq, encP])
  have e2 : η₁ (Str.ofString "text") = some ⟨.list (xs.map .str), false, false⟩ := by rw [he _ (by decide)]; exact drop_no (by simp only [List.length_cons, List.length_nil, if_true, V_s, V_e, V_t, V_j, V_ok, ev_cN, ev_cB, ev_cI, ev_cS, ev_nm, ev_bin, ev_tup, ev_lst, ev_sl, ev_ixC, ev_ixN, ev_ixB, ev_ixK, ev_call, ev_comp, tv_not, tv_lt, tv_le, tv_gt, tv_ge, tv_eq, tv_ne, tv_ni, tv_nm, tv_call, jv_c, jv_f, fmt_ok, it_nm, it_bin, it_sub, nameV, upd_eq, upd_ne, Rz.bind_ok, Rz.bind_err, Rz.strict, sq_l, sq_t, List.length_map, List.length_append, scal, Bool.false_or, Bool.true_or, Bool.or_false, Bool.or_true, Bool.and_true, Bool.true_and, Bool.and_false, Bool.false_and, Bool.and_self, Bool.or_self, argsV, pt_n, pt_s, cd_n, cd_1, im_l, im_t, item0, item1, item2, elemV, sc, encD, encDs, encH, ne_str, eq_str, lt_int, le_int, gt_int, ge_int, eq_int, ne_int, eq_strs, ne_strs, ne_str_strs, ne_strs_str, ne_deeds, ne_hunks, notin_kinds, notin_kindsT, add_int, sub_int, mod_int, div3, div4, callV, listV, flat_str, slice_map, append_str, snoc_str, List.all_cons, List.all_nil, List.map_cons, List.map_nil, Bool.false_eq_true, if_false, ofString_inj, ne_eq, String.reduceEq, not_false_eq_true, Bool.not_true, Bool.not_false, reduceCtorEq, and_true, true_and, and_self, small, Nat.reduceAdd, Nat.reduceLeDiff, bindPV, maskη, List.lookup_cons, List.lookup_nil, str_beq, decide_true, decide_false, Option.map_some, Option.some.injEq, encP])
  have e3 : η₁ (Str.ofString "front") = some ⟨.list (front.map .str), false, false⟩ := by rw [he _ (by decide)]; exact drop_no (by simp only [List.length_cons, List.length_nil, if_true, V_s, V_e, V_t, V_j, V_ok, ev_cN, ev_cB, ev_cI, ev_cS, ev_nm, ev_bin, ev_tup, ev_lst, ev_sl, ev_ixC, ev_ixN, ev_ixB, ev_ixK, ev_call, ev_comp, tv_not, tv_lt, tv_le, tv_gt, tv_ge, tv_eq, tv_ne, tv_ni, tv_nm, tv_call, jv_c, jv_f, fmt_ok, it_nm, it_bin, it_sub, nameV, upd_eq, upd_ne, Rz.bind_ok, Rz.bind_err, Rz.strict, sq_l, sq_t, List.length_map, List.length_append, scal, Bool.false_or, Bool.true_or, Bool.or_false, Bool.or_true, Bool.and_true, Bool.true_and, Bool.and_false, Bool.false_and, Bool.and_self, Bool.or_self, argsV, pt_n, pt_s, cd_n, cd_1, im_l, im_t, item0, item1, item2, elemV, sc, encD, encDs, encH, ne_str, eq_str, lt_int, le_int, gt_int, ge_int, eq_int, ne_int, eq_strs, ne_strs, ne_str_strs, ne_strs_str, ne_deeds, ne_hunks, notin_kinds, notin_kindsT, add_int, sub_int, mod_int, div3, div4, callV, listV, flat_str, slice_map, append_str, snoc_str, List.all_cons, List.all_nil, List.map_cons, List.map_nil, Bool.false_eq_true, if_false, ofString_inj, ne_eq, String.reduceEq, not_false_eq_true, Bool.not_true, Bool.not_false, reduceCtorEq, and_true, true_and, and_self, small, Nat.reduceAdd, Nat.reduceLeDiff, bindPV, maskη, List.lookup_cons, List.lookup_nil, str_beq, decide_true, decide_false, Option.map_some, Option.some.injEq, encP])
  have e4 : η₁ (Str.ofString "done") = some ⟨.int done, false, true⟩ := by rw [he _ (by decide)]; exact drop_no (by simp only [List.length_cons, List.length_nil, if_true, V_s, V_e, V_t, V_j, V_ok, ev_cN, ev_cB, ev_cI, ev_cS, ev_nm, ev_bin, ev_tup, ev_lst, ev_sl, ev_ixC, ev_ixN, ev_ixB, ev_ixK, ev_call, ev_comp, tv_not, tv_lt, tv_le, tv_gt, tv_ge, tv_eq, tv_ne, tv_ni, tv_nm, tv_call, jv_c, jv_f, fmt_ok, it_nm, it_bin, it_sub, nameV, upd_eq, upd_ne, Rz.bind_ok, Rz.bind_err, Rz.strict, sq_l, sq_t, List.length_map, List.length_append, scal, Bool.false_or, Bool.true_or, Bool.or_false, Bool.or_true, Bool.and_true, Bool.true_and, Bool.and_false, Bool.false_and, Bool.and_self, Bool.or_self, argsV, pt_n, pt_s, cd_n, cd_1, im_l, im_t, item0, item1, item2, elemV, sc, encD, encDs, encH, ne_str, eq_str, lt_int, le_int, gt_int, ge_int, eq_int, ne_int, eq_strs, ne_strs, ne_str_strs, ne_strs_str, ne_deeds, ne_hunks, notin_kinds, notin_kindsT, add_int, sub_int, mod_int, div3, div4, callV, listV, flat_str, slice_map, append_str, snoc_str, List.all_cons, List.all_nil, List.map_cons, List.map_nil, Bool.false_eq_true, if_false, ofString_inj, ne_eq, String.reduceEq, not_false_eq_true, Bool.not_true, Bool.not_false, reduceCtorEq, and_true, true_and, and_self, small, Nat.reduceAdd, Nat.reduceLeDiff, bindPV, maskη, List.lookup_cons, List.lookup_nil, str_beq, decide_true, decide_false, Option.map_some, Option.some.injEq, encP])
  have e5 : η₁ (Str.ofString "s") = some ⟨.int s, false, true⟩ := by rw [he _ (by decide)]; exact drop_no (by simp only [List.length_cons, List.length_nil, if_true, V_s, V_e, V_t, V_j, V_ok, ev_cN, ev_cB, ev_cI, ev_cS, ev_nm, ev_bin, ev_tup, ev_lst, ev_sl, ev_ixC, ev_ixN, ev_ixB, ev_ixK, ev_call, ev_comp, tv_not, tv_lt, tv_le, tv_gt, tv_ge, tv_eq, tv_ne, tv_ni, tv_nm, tv_call, jv_c, jv_f, fmt_ok, it_nm, it_bin, it_sub, nameV, upd_eq, upd_ne, Rz.bind_ok, Rz.bind_err, Rz.strict, sq_l, sq_t, List.length_map, List.length_append, scal, Bool.false_or, Bool.true_or, Bool.or_false, Bool.or_true, Bool.and_true, Bool.true_and, Bool.and_false, Bool.false_and, Bool.and_self, Bool.or_self, argsV, pt_n, pt_s, cd_n, cd_1, im_l, im_t, item0, item1, item2, elemV, sc, encD, encDs, encH, ne_str, eq_str, lt_int, le_int, gt_int, ge_int, eq_int, ne_int, eq_strs, ne_strs, ne_str_strs, ne_strs_str, ne_deeds, ne_hunks, notin_kinds, notin_kindsT, add_int, sub_int, mod_int, div3, div4, callV, listV, flat_str, slice_map, append_str, snoc_str, List.all_cons, List.all_nil, List.map_cons, List.map_nil, Bool.false_eq_true, if_false, ofString_inj, ne_eq, String.reduceEq, not_false_eq_true, Bool.not_true, Bool.not_false, reduceCtorEq, and_true, true_and, and_self, small, Nat.reduceAdd, Nat.reduceLeDiff, bindPV, maskη, List.lookup_cons, List.lookup_nil, str_beq, decide_true, decide_false, Option.map_some, Option.some.injEq, encP])
  clear he
  have hwa := w2 ds (Str.ofString "add") (by omega)
  have hwd := w2 ds (Str.ofString "del") (by omega)
  refine p_asgL (ds := (src ds).map .str) (m := true) (by simp only [List.length_cons, List.length_nil, if_true, V_s, V_e, V_t, V_j, V_ok, ev_cN, ev_cB, ev_cI, ev_cS, ev_nm, ev_bin, ev_tup, ev_lst, ev_sl, ev_ixC, ev_ixN, ev_ixB, ev_ixK, ev_call, ev_comp, tv_not, tv_lt, tv_le, tv_gt, tv_ge, tv_eq, tv_ne, tv_ni, tv_nm, tv_call, jv_c, jv_f, fmt_ok, it_nm, it_bin, it_sub, nameV, upd_eq, upd_ne, Rz.bind_ok, Rz.bind_err, Rz.strict, sq_l, sq_t, List.length_map, List.length_append, scal, Bool.false_or, Bool.true_or, Bool.or_false, Bool.or_true, Bool.and_true, Bool.true_and, Bool.and_false, Bool.false_and, Bool.and_self, Bool.or_self, argsV, pt_n, pt_s, cd_n, cd_1, im_l, im_t, item0, item1, item2, elemV, sc, encD, encDs, encH, ne_str, eq_str, lt_int, le_int, gt_int, ge_int, eq_int, ne_int, eq_strs, ne_strs, ne_str_strs, ne_strs_str, ne_deeds, ne_hunks, notin_kinds, notin_kindsT, add_int, sub_int, mod_int, div3, div4, callV, listV, flat_str, slice_map, append_str, snoc_str, List.all_cons, List.all_nil, List.map_cons, List.map_nil, Bool.false_eq_true, if_false, ofString_inj, ne_eq, String.reduceEq, not_false_eq_true, Bool.not_true, Bool.not_false, reduceCtorEq, and_true, true_and, and_self, small, Nat.reduceAdd, Nat.reduceLeDiff, bindPV, maskη, List.lookup_cons, List.lookup_nil, str_beq, decide_true, decide_false, Option.map_some, Option.some.injEq, encP, e1, w1, hwa]; rfl) ?_
  refine p_if (b := decide (src ds ≠ (xs.drop s).take (src ds).length)) ?_ (fun hc => ?_) (fun hc => p_end ?_)
  · simp only [List.length_cons, List.length_nil, if_true, V_s, V_e, V_t, V_j, V_ok, ev_cN, ev_cB, ev_cI, ev_cS, ev_nm, ev_bin, ev_tup, ev_lst, ev_sl, ev_ixC, ev_ixN, ev_ixB, ev_ixK, ev_call, ev_comp, tv_not, tv_lt, tv_le, tv_gt, tv_ge, tv_eq, tv_ne, tv_ni, tv_nm, tv_call, jv_c, jv_f, fmt_ok, it_nm, it_bin, it_sub, nameV, upd_eq, upd_ne, Rz.bind_ok, Rz.bind_err, Rz.strict, sq_l, sq_t, List.length_map, List.length_append, scal, Bool.false_or, Bool.true_or, Bool.or_false, Bool.or_true, Bool.and_true, Bool.true_and, Bool.and_false, Bool.false_and, Bool.and_self, Bool.or_self, argsV, pt_n, pt_s, cd_n, cd_1, im_l, im_t, item0, item1, item2, elemV, sc, encD, encDs, encH, ne_str, eq_str, lt_int, le_int, gt_int, ge_int, eq_int, ne_int, eq_strs, ne_strs, ne_str_strs, ne_strs_str, ne_deeds, ne_hunks, notin_kinds, notin_kindsT, add_int, sub_int, mod_int, div3, div4, callV, listV, flat_str, slice_map, append_str, snoc_str, List.all_cons, List.all_nil, List.map_cons, List.map_nil, Bool.false_eq_true, if_false, ofString_inj, ne_eq, String.reduceEq, not_false_eq_true, Bool.not_true, Bool.not_false, reduceCtorEq, and_true, true_and, and_self, small, Nat.reduceAdd, Nat.reduceLeDiff, bindPV, maskη, List.lookup_cons, List.lookup_nil, str_beq, decide_true, decide_false, Option.map_some, Option.some.injEq, encP, e2, e5, B]
    rw [len_lst (by simp only [List.length_map]; unfold small; omega)]
    simp only [List.length_cons, List.length_nil, if_true, V_s, V_e, V_t, V_j, V_ok, ev_cN, ev_cB, ev_cI, ev_cS, ev_nm, ev_bin, ev_tup, ev_lst, ev_sl, ev_ixC, ev_ixN, ev_ixB, ev_ixK, ev_call, ev_comp, tv_not, tv_lt, tv_le, tv_gt, tv_ge, tv_eq, tv_ne, tv_ni, tv_nm, tv_call, jv_c, jv_f, fmt_ok, it_nm, it_bin, it_sub, nameV, upd_eq, upd_ne, Rz.bind_ok, Rz.bind_err, Rz.strict, sq_l, sq_t, List.length_map, List.length_append, scal, Bool.false_or, Bool.true_or, Bool.or_false, Bool.or_true, Bool.and_true, Bool.true_and, Bool.and_false, Bool.false_and, Bool.and_self, Bool.or_self, argsV, pt_n, pt_s, cd_n, cd_1, im_l, im_t, item0, item1, item2, elemV, sc, encD, encDs, encH, ne_str, eq_str, lt_int, le_int, gt_int, ge_int, eq_int, ne_int, eq_strs, ne_strs, ne_str_strs, ne_strs_str, ne_deeds, ne_hunks, notin_kinds, notin_kindsT, add_int, sub_int, mod_int, div3, div4, callV, listV, flat_str, slice_map, append_str, snoc_str, List.all_cons, List.all_nil, List.map_cons, List.map_nil, Bool.false_eq_true, if_false, ofString_inj, ne_eq, String.reduceEq, not_false_eq_true, Bool.not_true, Bool.not_false, reduceCtorEq, and_true, true_and, and_self, small, Nat.reduceAdd, Nat.reduceLeDiff, bindPV, maskη, List.lookup_cons, List.lookup_nil, str_beq, decide_true, decide_false, Option.map_some, Option.some.injEq, encP]
    rw [← Int.natCast_add, cut_strs rfl rfl (by unfold small; omega), slice_cut, Nat.add_sub_cancel_left]
    simp only [List.length_cons, List.length_nil, if_true, V_s, V_e, V_t, V_j, V_ok, ev_cN, ev_cB, ev_cI, ev_cS, ev_nm, ev_bin, ev_tup, ev_lst, ev_sl, ev_ixC, ev_ixN, ev_ixB, ev_ixK, ev_call, ev_comp, tv_not, tv_lt, tv_le, tv_gt, tv_ge, tv_eq, tv_ne, tv_ni, tv_nm, tv_call, jv_c, jv_f, fmt_ok, it_nm, it_bin, it_sub, nameV, upd_eq, upd_ne, Rz.bind_ok, Rz.bind_err, Rz.strict, sq_l, sq_t, List.length_map, List.length_append, scal, Bool.false_or, Bool.true_or, Bool.or_false, Bool.or_true, Bool.and_true, Bool.true_and, Bool.and_false, Bool.false_and, Bool.and_self, Bool.or_self, argsV, pt_n, pt_s, cd_n, cd_1, im_l, im_t, item0, item1, item2, elemV, sc, encD, encDs, encH, ne_str, eq_str, lt_int, le_int, gt_int, ge_int, eq_int, ne_int, eq_strs, ne_strs, ne_str_strs, ne_strs_str, ne_deeds, ne_hunks, notin_kinds, notin_kindsT, add_int, sub_int, mod_int, div3, div4, callV, listV, flat_str, slice_map, append_str, snoc_str, List.all_cons, List.all_nil, List.map_cons, List.map_nil, Bool.false_eq_true, if_false, ofString_inj, ne_eq, String.reduceEq, not_false_eq_true, Bool.not_true, Bool.not_false, reduceCtorEq, and_true, true_and, and_self, small, Nat.reduceAdd, Nat.reduceLeDiff, bindPV, maskη, List.lookup_cons, List.lookup_nil, str_beq, decide_true, decide_false, Option.map_some, Option.some.injEq, encP]
  · rw [if_neg (fun z => (by simpa using hc : ¬ src ds = _) z.2)]
    exact p_ret (d := .str (Str.ofString "refused")) (b := true) (m := true) (by simp only [List.length_cons, List.length_nil, if_true, V_s, V_e, V_t, V_j, V_ok, ev_cN, ev_cB, ev_cI, ev_cS, ev_nm, ev_bin, ev_tup, ev_lst, ev_sl, ev_ixC, ev_ixN, ev_ixB, ev_ixK, ev_call, ev_comp, tv_not, tv_lt, tv_le, tv_gt, tv_ge, tv_eq, tv_ne, tv_ni, tv_nm, tv_call, jv_c, jv_f, fmt_ok, it_nm, it_bin, it_sub, nameV, upd_eq, upd_ne, Rz.bind_ok, Rz.bind_err, Rz.strict, sq_l, sq_t, List.length_map, List.length_append, scal, Bool.false_or, Bool.true_or, Bool.or_false, Bool.or_true, Bool.and_true, Bool.true_and, Bool.and_false, Bool.false_and, Bool.and_self, Bool.or_self, argsV, pt_n, pt_s, cd_n, cd_1, im_l, im_t, item0, item1, item2, elemV, sc, encD, encDs, encH, ne_str, eq_str, lt_int, le_int, gt_int, ge_int, eq_int, ne_int, eq_strs, ne_strs, ne_str_strs, ne_strs_str, ne_deeds, ne_hunks, notin_kinds, notin_kindsT, add_int, sub_int, mod_int, div3, div4, callV, listV, flat_str, slice_map, append_str, snoc_str, List.all_cons, List.all_nil, List.map_cons, List.map_nil, Bool.false_eq_true, if_false, ofString_inj, ne_eq, String.reduceEq, not_false_eq_true, Bool.not_true, Bool.not_false, reduceCtorEq, and_true, true_and, and_self, small, Nat.reduceAdd, Nat.reduceLeDiff, bindPV, maskη, List.lookup_cons, List.lookup_nil, str_beq, decide_true, decide_false, Option.map_some, Option.some.injEq, encP]) rfl
  · have hc : src ds = (xs.drop s).take (src ds).length := by simpa using hc
    rw [if_pos ⟨ha, hc⟩]
    refine p_ret (d := .list ((front ++ (xs.drop done).take (s - done) ++ tgt ds ++ xs.drop (s + (src ds).length)).map .str)) (b := true) (m := true) ?_ rfl
    have hl1 : ((xs.drop done).take (s - done)).length ≤ 6 := by rw [List.length_take, List.length_drop]; omega
    simp only [List.length_cons, List.length_nil, if_true, V_s, V_e, V_t, V_j, V_ok, ev_cN, ev_cB, ev_cI, ev_cS, ev_nm, ev_bin, ev_tup, ev_lst, ev_sl, ev_ixC, ev_ixN, ev_ixB, ev_ixK, ev_call, ev_comp, tv_not, tv_lt, tv_le, tv_gt, tv_ge, tv_eq, tv_ne, tv_ni, tv_nm, tv_call, jv_c, jv_f, fmt_ok, it_nm, it_bin, it_sub, nameV, upd_eq, upd_ne, Rz.bind_ok, Rz.bind_err, Rz.strict, sq_l, sq_t, List.length_map, List.length_append, scal, Bool.false_or, Bool.true_or, Bool.or_false, Bool.or_true, Bool.and_true, Bool.true_and, Bool.and_false, Bool.false_and, Bool.and_self, Bool.or_self, argsV, pt_n, pt_s, cd_n, cd_1, im_l, im_t, item0, item1, item2, elemV, sc, encD, encDs, encH, ne_str, eq_str, lt_int, le_int, gt_int, ge_int, eq_int, ne_int, eq_strs, ne_strs, ne_str_strs, ne_strs_str, ne_deeds, ne_hunks, notin_kinds, notin_kindsT, add_int, sub_int, mod_int, div3, div4, callV, listV, flat_str, slice_map, append_str, snoc_str, List.all_cons, List.all_nil, List.map_cons, List.map_nil, Bool.false_eq_true, if_false, ofString_inj, ne_eq, String.reduceEq, not_false_eq_true, Bool.not_true, Bool.not_false, reduceCtorEq, and_true, true_and, and_self, small, Nat.reduceAdd, Nat.reduceLeDiff, bindPV, maskη, List.lookup_cons, List.lookup_nil, str_beq, decide_true, decide_false, Option.map_some, Option.some.injEq, encP, e1, e2, e3, e4, e5, w1, hwd]
    rw [cut_strs rfl rfl (by unfold small; omega), slice_cut]
    simp only [List.length_cons, List.length_nil, if_true, V_s, V_e, V_t, V_j, V_ok, ev_cN, ev_cB, ev_cI, ev_cS, ev_nm, ev_bin, ev_tup, ev_lst, ev_sl, ev_ixC, ev_ixN, ev_ixB, ev_ixK, ev_call, ev_comp, tv_not, tv_lt, tv_le, tv_gt, tv_ge, tv_eq, tv_ne, tv_ni, tv_nm, tv_call, jv_c, jv_f, fmt_ok, it_nm, it_bin, it_sub, nameV, upd_eq, upd_ne, Rz.bind_ok, Rz.bind_err, Rz.strict, sq_l, sq_t, List.length_map, List.length_append, scal, Bool.false_or, Bool.true_or, Bool.or_false, Bool.or_true, Bool.and_true, Bool.true_and, Bool.and_false, Bool.false_and, Bool.and_self, Bool.or_self, argsV, pt_n, pt_s, cd_n, cd_1, im_l, im_t, item0, item1, item2, elemV, sc, encD, encDs, encH, ne_str, eq_str, lt_int, le_int, gt_int, ge_int, eq_int, ne_int, eq_strs, ne_strs, ne_str_strs, ne_strs_str, ne_deeds, ne_hunks, notin_kinds, notin_kindsT, add_int, sub_int, mod_int, div3, div4, callV, listV, flat_str, slice_map, append_str, snoc_str, List.all_cons, List.all_nil, List.map_cons, List.map_nil, Bool.false_eq_true, if_false, ofString_inj, ne_eq, String.reduceEq, not_false_eq_true, Bool.not_true, Bool.not_false, reduceCtorEq, and_true, true_and, and_self, small, Nat.reduceAdd, Nat.reduceLeDiff, bindPV, maskη, List.lookup_cons, List.lookup_nil, str_beq, decide_true, decide_false, Option.map_some, Option.some.injEq, encP, B]
    rw [add_strs (by unfold small; omega), len_lst (by simp only [List.length_map]; unfold small; omega)]
    simp only [List.length_cons, List.length_nil, if_true, V_s, V_e, V_t, V_j, V_ok, ev_cN, ev_cB, ev_cI, ev_cS, ev_nm, ev_bin, ev_tup, ev_lst, ev_sl, ev_ixC, ev_ixN, ev_ixB, ev_ixK, ev_call, ev_comp, tv_not, tv_lt, tv_le, tv_gt, tv_ge, tv_eq, tv_ne, tv_ni, tv_nm, tv_call, jv_c, jv_f, fmt_ok, it_nm, it_bin, it_sub, nameV, upd_eq, upd_ne, Rz.bind_ok, Rz.bind_err, Rz.strict, sq_l, sq_t, List.length_map, List.length_append, scal, Bool.false_or, Bool.true_or, Bool.or_false, Bool.or_true, Bool.and_true, Bool.true_and, Bool.and_false, Bool.false_and, Bool.and_self, Bool.or_self, argsV, pt_n, pt_s, cd_n, cd_1, im_l, im_t, item0, item1, item2, elemV, sc, encD, encDs, encH, ne_str, eq_str, lt_int, le_int, gt_int, ge_int, eq_int, ne_int, eq_strs, ne_strs, ne_str_strs, ne_strs_str, ne_deeds, ne_hunks, notin_kinds, notin_kindsT, add_int, sub_int, mod_int, div3, div4, callV, listV, flat_str, slice_map, append_str, snoc_str, List.all_cons, List.all_nil, List.map_cons, List.map_nil, Bool.false_eq_true, if_false, ofString_inj, ne_eq, String.reduceEq, not_false_eq_true, Bool.not_true, Bool.not_false, reduceCtorEq, and_true, true_and, and_self, small, Nat.reduceAdd, Nat.reduceLeDiff, bindPV, maskη, List.lookup_cons, List.lookup_nil, str_beq, decide_true, decide_false, Option.map_some, Option.some.injEq, encP]
    rw [add_strs (ys := wo ds (Str.ofString "del")) (by rw [List.length_append]; show _ + (tgt ds).length ≤ _; unfold small; omega), ← Int.natCast_add, cut_strs rfl rfl (by unfold small; omega), slice_from]
    simp only [List.length_cons, List.length_nil, if_true, V_s, V_e, V_t, V_j, V_ok, ev_cN, ev_cB, ev_cI, ev_cS, ev_nm, ev_bin, ev_tup, ev_lst, ev_sl, ev_ixC, ev_ixN, ev_ixB, ev_ixK, ev_call, ev_comp, tv_not, tv_lt, tv_le, tv_gt, tv_ge, tv_eq, tv_ne, tv_ni, tv_nm, tv_call, jv_c, jv_f, fmt_ok, it_nm, it_bin, it_sub, nameV, upd_eq, upd_ne, Rz.bind_ok, Rz.bind_err, Rz.strict, sq_l, sq_t, List.length_map, List.length_append, scal, Bool.false_or, Bool.true_or, Bool.or_false, Bool.or_true, Bool.and_true, Bool.true_and, Bool.and_false, Bool.false_and, Bool.and_self, Bool.or_self, argsV, pt_n, pt_s, cd_n, cd_1, im_l, im_t, item0, item1, item2, elemV, sc, encD, encDs, encH, ne_str, eq_str, lt_int, le_int, gt_int, ge_int, eq_int, ne_int, eq_strs, ne_strs, ne_str_strs, ne_strs_str, ne_deeds, ne_hunks, notin_kinds, notin_kindsT, add_int, sub_int, mod_int, div3, div4, callV, listV, flat_str, slice_map, append_str, snoc_str, List.all_cons, List.all_nil, List.map_cons, List.map_nil, Bool.false_eq_true, if_false, ofString_inj, ne_eq, String.reduceEq, not_false_eq_true, Bool.not_true, Bool.not_false, reduceCtorEq, and_true, true_and, and_self, small, Nat.reduceAdd, Nat.reduceLeDiff, bindPV, maskη, List.lookup_cons, List.lookup_nil, str_beq, decide_true, decide_false, Option.map_some, Option.some.injEq, encP]
    rw [add_strs (by simp only [List.length_append, List.length_drop]; show _ + (tgt ds).length + _ ≤ _; unfold small; omega)]
    rfl

structure ApplyFn (Θ : VThy) : Prop where
  apply : ∃ φ, Θ.fn (Str.ofString "apply_hunks") = some φ ∧ ∀ (xs : List Str) (hs : List (Int × Int × List (Str × Str))), xs.length ≤ 100 → hs.length ≤ 10 → (∀ h ∈ hs, h.2.2.length ≤ 100) → φ [.list (xs.map .str), .list (hs.map encH)] = rzOf (applyR xs hs)

theorem run_ok (n : Nat) (C : ApplyFn Θ) (xs : List Str) (hx : xs.length ≤ 100) (hs : List (Int × Int × List (Str × Str))) (hl : hs.length ≤ 10) (hd : ∀ h ∈ hs, h.2.2.length ≤ 100) :
    callVF Θ (n + 20) ["text", "hunks"] (bodyOf pw 13) [.list (xs.map .str), .list (hs.map encH)] = .ok (optD (applyR xs hs), true) := by
  obtain ⟨φp, hp1, hp2⟩ := C.apply
  refine call_of rfl ?_
  (unfold bodyOf pw PySem.Challenge.pw_pd_weave_3_05; dsimp only [List.getElem?_cons_succ, List.getElem?_cons_zero])
  refine p_try ?_
  have hp := hp2 xs hs hx hl hd
  cases hr : applyR xs hs with
  | some l =>
    rw [hr] at hp
    refine p_asgL (ds := l.map .str) (m := true) (by simp only [List.length_cons, List.length_nil, if_true, V_s, V_e, V_t, V_j, V_ok, ev_cN, ev_cB, ev_cI, ev_cS, ev_nm, ev_bin, ev_tup, ev_lst, ev_sl, ev_ixC, ev_ixN, ev_ixB, ev_ixK, ev_call, ev_comp, tv_not, tv_lt, tv_le, tv_gt, tv_ge, tv_eq, tv_ne, tv_ni, tv_nm, tv_call, jv_c, jv_f, fmt_ok, it_nm, it_bin, it_sub, nameV, upd_eq, upd_ne, Rz.bind_ok, Rz.bind_err, Rz.strict, sq_l, sq_t, List.length_map, List.length_append, scal, Bool.false_or, Bool.true_or, Bool.or_false, Bool.or_true, Bool.and_true, Bool.true_and, Bool.and_false, Bool.false_and, Bool.and_self, Bool.or_self, argsV, pt_n, pt_s, cd_n, cd_1, im_l, im_t, item0, item1, item2, elemV, sc, encD, encDs, encH, ne_str, eq_str, lt_int, le_int, gt_int, ge_int, eq_int, ne_int, eq_strs, ne_strs, ne_str_strs, ne_strs_str, ne_deeds, ne_hunks, notin_kinds, notin_kindsT, add_int, sub_int, mod_int, div3, div4, callV, listV, flat_str, slice_map, append_str, snoc_str, List.all_cons, List.all_nil, List.map_cons, List.map_nil, Bool.false_eq_true, if_false, ofString_inj, ne_eq, String.reduceEq, not_false_eq_true, Bool.not_true, Bool.not_false, reduceCtorEq, and_true, true_and, and_self, small, Nat.reduceAdd, Nat.reduceLeDiff, bindPV, maskη, List.lookup_cons, List.lookup_nil, str_beq, decide_true, decide_false, Option.map_some, Option.some.injEq, encP, hp1, hp, rzOf]) (p_nil (try_next ?_))
    exact p_ret (d := .list (l.map .str)) (b := false) (m := true) (by simp only [List.length_cons, List.length_nil, if_true, V_s, V_e, V_t, V_j, V_ok, ev_cN, ev_cB, ev_cI, ev_cS, ev_nm, ev_bin, ev_tup, ev_lst, ev_sl, ev_ixC, ev_ixN, ev_ixB, ev_ixK, ev_call, ev_comp, tv_not, tv_lt, tv_le, tv_gt, tv_ge, tv_eq, tv_ne, tv_ni, tv_nm, tv_call, jv_c, jv_f, fmt_ok, it_nm, it_bin, it_sub, nameV, upd_eq, upd_ne, Rz.bind_ok, Rz.bind_err, Rz.strict, sq_l, sq_t, List.length_map, List.length_append, scal, Bool.false_or, Bool.true_or, Bool.or_false, Bool.or_true, Bool.and_true, Bool.true_and, Bool.and_false, Bool.false_and, Bool.and_self, Bool.or_self, argsV, pt_n, pt_s, cd_n, cd_1, im_l, im_t, item0, item1, item2, elemV, sc, encD, encDs, encH, ne_str, eq_str, lt_int, le_int, gt_int, ge_int, eq_int, ne_int, eq_strs, ne_strs, ne_str_strs, ne_strs_str, ne_deeds, ne_hunks, notin_kinds, notin_kindsT, add_int, sub_int, mod_int, div3, div4, callV, listV, flat_str, slice_map, append_str, snoc_str, List.all_cons, List.all_nil, List.map_cons, List.map_nil, Bool.false_eq_true, if_false, ofString_inj, ne_eq, String.reduceEq, not_false_eq_true, Bool.not_true, Bool.not_false, reduceCtorEq, and_true, true_and, and_self, small, Nat.reduceAdd, Nat.reduceLeDiff, bindPV, maskη, List.lookup_cons, List.lookup_nil, str_beq, decide_true, decide_false, Option.map_some, Option.some.injEq, encP]) rfl
  | none =>
    rw [hr] at hp
    refine p_asgX (C := Str.ofString "PatchError") ?_ ⟨rfl, rfl, rfl⟩
    simp only [List.length_cons, List.length_nil, if_true, V_s, V_e, V_t, V_j, V_ok, ev_cN, ev_cB, ev_cI, ev_cS, ev_nm, ev_bin, ev_tup, ev_lst, ev_sl, ev_ixC, ev_ixN, ev_ixB, ev_ixK, ev_call, ev_comp, tv_not, tv_lt, tv_le, tv_gt, tv_ge, tv_eq, tv_ne, tv_ni, tv_nm, tv_call, jv_c, jv_f, fmt_ok, it_nm, it_bin, it_sub, nameV, upd_eq, upd_ne, Rz.bind_ok, Rz.bind_err, Rz.strict, sq_l, sq_t, List.length_map, List.length_append, scal, Bool.false_or, Bool.true_or, Bool.or_false, Bool.or_true, Bool.and_true, Bool.true_and, Bool.and_false, Bool.false_and, Bool.and_self, Bool.or_self, argsV, pt_n, pt_s, cd_n, cd_1, im_l, im_t, item0, item1, item2, elemV, sc, encD, encDs, encH, ne_str, eq_str, lt_int, le_int, gt_int, ge_int, eq_int, ne_int, eq_strs, ne_strs, ne_str_strs, ne_strs_str, ne_deeds, ne_hunks, notin_kinds, notin_kindsT, add_int, sub_int, mod_int, div3, div4, callV, listV, flat_str, slice_map, append_str, snoc_str, List.all_cons, List.all_nil, List.map_cons, List.map_nil, Bool.false_eq_true, if_false, ofString_inj, ne_eq, String.reduceEq, not_false_eq_true, Bool.not_true, Bool.not_false, reduceCtorEq, and_true, true_and, and_self, small, Nat.reduceAdd, Nat.reduceLeDiff, bindPV, maskη, List.lookup_cons, List.lookup_nil, str_beq, decide_true, decide_false, Option.map_some, Option.some.injEq, encP, hp1, hp, rzOf]

structure RunFn (Θ : VThy) : Prop where
  list : Θ.fn (Str.ofString "list") = none
  run : ∃ φ, Θ.fn (Str.ofString "_law_run") = some φ ∧ ∀ (xs : List Str) (hs : List (Int × Int × List (Str × Str))), xs.length ≤ 100 → hs.length ≤ 10 → (∀ h ∈ hs, h.2.2.length ≤ 100) → φ [.list (xs.map .str), .list (hs.map encH)] = .ok (optD (applyR xs hs), true)

theorem holds_ok (n : Nat) (C : RunFn Θ) (xs : List Str) (hx : xs.length ≤ 100) (hs : List (Int × Int × List (Str × Str))) (hl : hs.length ≤ 10) (hd : ∀ h ∈ hs, h.2.2.length ≤ 100) :
    callVF Θ (n + 20) ["text", "hunks", "due"] (bodyOf pw 14) [.list (xs.map .str), .list (hs.map encH), optD (applyR xs hs)] = .ok (.bool true, true) := by
  obtain ⟨φ, r1, r2⟩ := C.run
  have hr := r2 xs hs hx hl hd
  refine call_of rfl ?_
  (unfold bodyOf pw PySem.Challenge.pw_pd_weave_3_05; dsimp only [List.getElem?_cons_succ, List.getElem?_cons_zero])
  have h1 : nameV Θ (Str.ofString "text") (bindPV [Str.ofString "text", Str.ofString "hunks", Str.ofString "due"] [.list (xs.map .str), .list (hs.map encH), optD (applyR xs hs)] fun _ => none) = .ok ⟨.list (xs.map .str), false, false⟩ := by simp only [List.length_cons, List.length_nil, if_true, V_s, V_e, V_t, V_j, V_ok, ev_cN, ev_cB, ev_cI, ev_cS, ev_nm, ev_bin, ev_tup, ev_lst, ev_sl, ev_ixC, ev_ixN, ev_ixB, ev_ixK, ev_call, ev_comp, tv_not, tv_lt, tv_le, tv_gt, tv_ge, tv_eq, tv_ne, tv_ni, tv_nm, tv_call, jv_c, jv_f, fmt_ok, it_nm, it_bin, it_sub, nm_eq, nm_ne, nm_drop, Rz.bind_ok, Rz.bind_err, Rz.strict, sq_l, sq_t, List.length_map, List.length_append, scal, Bool.false_or, Bool.true_or, Bool.or_false, Bool.or_true, Bool.and_true, Bool.true_and, Bool.and_false, Bool.false_and, Bool.and_self, Bool.or_self, argsV, pt_n, pt_s, cd_n, cd_1, im_l, im_t, item0, item1, item2, elemV, sc, encD, encDs, encH, ne_str, eq_str, lt_int, le_int, gt_int, ge_int, eq_int, ne_int, eq_strs, ne_strs, ne_opt, ne_opt_word, ne_str_strs, ne_strs_str, ne_deeds, ne_hunks, notin_kinds, notin_kindsT, add_int, sub_int, mod_int, div3, div4, callV, listV, flat_str, slice_map, append_str, snoc_str, List.all_cons, List.all_nil, List.map_cons, List.map_nil, Bool.false_eq_true, if_false, ofString_inj, ne_eq, String.reduceEq, not_false_eq_true, Bool.not_true, Bool.not_false, reduceCtorEq, and_true, true_and, and_self, small, Nat.reduceAdd, Nat.reduceLeDiff, bindPV, maskη, List.lookup_cons, List.lookup_nil, str_beq, decide_true, decide_false, Option.map_some, Option.some.injEq, encP]
  have h2 : nameV Θ (Str.ofString "hunks") (bindPV [Str.ofString "text", Str.ofString "hunks", Str.ofString "due"] [.list (xs.map .str), .list (hs.map encH), optD (applyR xs hs)] fun _ => none) = .ok ⟨.list (hs.map encH), false, false⟩ := by simp only [List.length_cons, List.length_nil, if_true, V_s, V_e, V_t, V_j, V_ok, ev_cN, ev_cB, ev_cI, ev_cS, ev_nm, ev_bin, ev_tup, ev_lst, ev_sl, ev_ixC, ev_ixN, ev_ixB, ev_ixK, ev_call, ev_comp, tv_not, tv_lt, tv_le, tv_gt, tv_ge, tv_eq, tv_ne, tv_ni, tv_nm, tv_call, jv_c, jv_f, fmt_ok, it_nm, it_bin, it_sub, nm_eq, nm_ne, nm_drop, Rz.bind_ok, Rz.bind_err, Rz.strict, sq_l, sq_t, List.length_map, List.length_append, scal, Bool.false_or, Bool.true_or, Bool.or_false, Bool.or_true, Bool.and_true, Bool.true_and, Bool.and_false, Bool.false_and, Bool.and_self, Bool.or_self, argsV, pt_n, pt_s, cd_n, cd_1, im_l, im_t, item0, item1, item2, elemV, sc, encD, encDs, encH, ne_str, eq_str, lt_int, le_int, gt_int, ge_int, eq_int, ne_int, eq_strs, ne_strs, ne_opt, ne_opt_word, ne_str_strs, ne_strs_str, ne_deeds, ne_hunks, notin_kinds, notin_kindsT, add_int, sub_int, mod_int, div3, div4, callV, listV, flat_str, slice_map, append_str, snoc_str, List.all_cons, List.all_nil, List.map_cons, List.map_nil, Bool.false_eq_true, if_false, ofString_inj, ne_eq, String.reduceEq, not_false_eq_true, Bool.not_true, Bool.not_false, reduceCtorEq, and_true, true_and, and_self, small, Nat.reduceAdd, Nat.reduceLeDiff, bindPV, maskη, List.lookup_cons, List.lookup_nil, str_beq, decide_true, decide_false, Option.map_some, Option.some.injEq, encP]
  have h3 : nameV Θ (Str.ofString "due") (bindPV [Str.ofString "text", Str.ofString "hunks", Str.ofString "due"] [.list (xs.map .str), .list (hs.map encH), optD (applyR xs hs)] fun _ => none) = .ok ⟨optD (applyR xs hs), scal (optD (applyR xs hs)), scal (optD (applyR xs hs))⟩ := by simp only [bindPV, nm_eq, Bool.or_self]
  generalize bindPV [Str.ofString "text", Str.ofString "hunks", Str.ofString "due"] [.list (xs.map .str), .list (hs.map encH), optD (applyR xs hs)] (fun _ => none) = η₀ at h1 h2 h3
  generalize applyR xs hs = w at hr h3
  refine p_asgV (d := .list (xs.map .str)) (b := true) (m := true) ?_ (fun η₁ S => ?_)
  · simp only [List.length_cons, List.length_nil, if_true, V_s, V_e, V_t, V_j, V_ok, ev_cN, ev_cB, ev_cI, ev_cS, ev_nm, ev_bin, ev_tup, ev_lst, ev_sl, ev_ixC, ev_ixN, ev_ixB, ev_ixK, ev_call, ev_comp, tv_not, tv_lt, tv_le, tv_gt, tv_ge, tv_eq, tv_ne, tv_ni, tv_nm, tv_call, jv_c, jv_f, fmt_ok, it_nm, it_bin, it_sub, nm_eq, nm_ne, nm_drop, Rz.bind_ok, Rz.bind_err, Rz.strict, sq_l, sq_t, List.length_map, List.length_append, scal, Bool.false_or, Bool.true_or, Bool.or_false, Bool.or_true, Bool.and_true, Bool.true_and, Bool.and_false, Bool.false_and, Bool.and_self, Bool.or_self, argsV, pt_n, pt_s, cd_n, cd_1, im_l, im_t, item0, item1, item2, elemV, sc, encD, encDs, encH, ne_str, eq_str, lt_int, le_int, gt_int, ge_int, eq_int, ne_int, eq_strs, ne_strs, ne_opt, ne_opt_word, ne_str_strs, ne_strs_str, ne_deeds, ne_hunks, notin_kinds, notin_kindsT, add_int, sub_int, mod_int, div3, div4, callV, listV, flat_str, slice_map, append_str, snoc_str, List.all_cons, List.all_nil, List.map_cons, List.map_nil, Bool.false_eq_true, if_false, ofString_inj, ne_eq, String.reduceEq, not_false_eq_true, Bool.not_true, Bool.not_false, reduceCtorEq, and_true, true_and, and_self, small, Nat.reduceAdd, Nat.reduceLeDiff, bindPV, maskη, List.lookup_cons, List.lookup_nil, str_beq, decide_true, decide_false, Option.map_some, Option.some.injEq, encP, h1, C.list]
    rw [lst_lst (by simp only [List.length_map]; unfold small; omega), flat_str]
    simp only [List.length_cons, List.length_nil, if_true, V_s, V_e, V_t, V_j, V_ok, ev_cN, ev_cB, ev_cI, ev_cS, ev_nm, ev_bin, ev_tup, ev_lst, ev_sl, ev_ixC, ev_ixN, ev_ixB, ev_ixK, ev_call, ev_comp, tv_not, tv_lt, tv_le, tv_gt, tv_ge, tv_eq, tv_ne, tv_ni, tv_nm, tv_call, jv_c, jv_f, fmt_ok, it_nm, it_bin, it_sub, nm_eq, nm_ne, nm_drop, Rz.bind_ok, Rz.bind_err, Rz.strict, sq_l, sq_t, List.length_map, List.length_append, scal, Bool.false_or, Bool.true_or, Bool.or_false, Bool.or_true, Bool.and_true, Bool.true_and, Bool.and_false, Bool.false_and, Bool.and_self, Bool.or_self, argsV, pt_n, pt_s, cd_n, cd_1, im_l, im_t, item0, item1, item2, elemV, sc, encD, encDs, encH, ne_str, eq_str, lt_int, le_int, gt_int, ge_int, eq_int, ne_int, eq_strs, ne_strs, ne_opt, ne_opt_word, ne_str_strs, ne_strs_str, ne_deeds, ne_hunks, notin_kinds, notin_kindsT, add_int, sub_int, mod_int, div3, div4, callV, listV, flat_str, slice_map, append_str, snoc_str, List.all_cons, List.all_nil, List.map_cons, List.map_nil, Bool.false_eq_true, if_false, ofString_inj, ne_eq, String.reduceEq, not_false_eq_true, Bool.not_true, Bool.not_false, reduceCtorEq, and_true, true_and, and_self, small, Nat.reduceAdd, Nat.reduceLeDiff, bindPV, maskη, List.lookup_cons, List.lookup_nil, str_beq, decide_true, decide_false, Option.map_some, Option.some.injEq, encP]
  have a1 := S.get h1 (by decide); have a2 := S.get h2 (by decide); have a3 := S.get h3 (by decide); have a4 := S.self
  clear S h1 h2 h3
  refine p_asgVE (.list (hs.map encH)) (e_compE ⟨hs.map encH, false, false⟩ (by simp only [List.length_cons, List.length_nil, if_true, V_s, V_e, V_t, V_j, V_ok, ev_cN, ev_cB, ev_cI, ev_cS, ev_nm, ev_bin, ev_tup, ev_lst, ev_sl, ev_ixC, ev_ixN, ev_ixB, ev_ixK, ev_call, ev_comp, tv_not, tv_lt, tv_le, tv_gt, tv_ge, tv_eq, tv_ne, tv_ni, tv_nm, tv_call, jv_c, jv_f, fmt_ok, it_nm, it_bin, it_sub, nm_eq, nm_ne, nm_drop, Rz.bind_ok, Rz.bind_err, Rz.strict, sq_l, sq_t, List.length_map, List.length_append, scal, Bool.false_or, Bool.true_or, Bool.or_false, Bool.or_true, Bool.and_true, Bool.true_and, Bool.and_false, Bool.false_and, Bool.and_self, Bool.or_self, argsV, pt_n, pt_s, cd_n, cd_1, im_l, im_t, item0, item1, item2, elemV, sc, encD, encDs, encH, ne_str, eq_str, lt_int, le_int, gt_int, ge_int, eq_int, ne_int, eq_strs, ne_strs, ne_opt, ne_opt_word, ne_str_strs, ne_strs_str, ne_deeds, ne_hunks, notin_kinds, notin_kindsT, add_int, sub_int, mod_int, div3, div4, callV, listV, flat_str, slice_map, append_str, snoc_str, List.all_cons, List.all_nil, List.map_cons, List.map_nil, Bool.false_eq_true, if_false, ofString_inj, ne_eq, String.reduceEq, not_false_eq_true, Bool.not_true, Bool.not_false, reduceCtorEq, and_true, true_and, and_self, small, Nat.reduceAdd, Nat.reduceLeDiff, bindPV, maskη, List.lookup_cons, List.lookup_nil, str_beq, decide_true, decide_false, Option.map_some, Option.some.injEq, encP, a2]; rw [if_pos (by omega)]) ?_) (fun b m η₂ S => ?_)
  · have := compV_map' (f := (V Θ (n + 19)).e) (t := (V Θ (n + 19)).t) (x := Str.ofString "h") (ifs := []) (elt := ?elt) (it := ⟨hs.map encH, false, false⟩) (η := ?η) encH (fun _ => true) encH hs (fun _ _ => rfl) ?_
    · rw [List.filter_eq_self.mpr (fun _ _ => rfl)] at this
      exact this
    · intro d hd' _
      simp only [List.length_cons, List.length_nil, if_true, V_s, V_e, V_t, V_j, V_ok, ev_cN, ev_cB, ev_cI, ev_cS, ev_nm, ev_bin, ev_tup, ev_lst, ev_sl, ev_ixC, ev_ixN, ev_ixB, ev_ixK, ev_call, ev_comp, tv_not, tv_lt, tv_le, tv_gt, tv_ge, tv_eq, tv_ne, tv_ni, tv_nm, tv_call, jv_c, jv_f, fmt_ok, it_nm, it_bin, it_sub, nm_eq, nm_ne, nm_drop, Rz.bind_ok, Rz.bind_err, Rz.strict, sq_l, sq_t, List.length_map, List.length_append, scal, Bool.false_or, Bool.true_or, Bool.or_false, Bool.or_true, Bool.and_true, Bool.true_and, Bool.and_false, Bool.false_and, Bool.and_self, Bool.or_self, argsV, pt_n, pt_s, cd_n, cd_1, im_l, im_t, item0, item1, item2, elemV, sc, encD, encDs, encH, ne_str, eq_str, lt_int, le_int, gt_int, ge_int, eq_int, ne_int, eq_strs, ne_strs, ne_opt, ne_opt_word, ne_str_strs, ne_strs_str, ne_deeds, ne_hunks, notin_kinds, notin_kindsT, add_int, sub_int, mod_int, div3, div4, callV, listV, flat_str, slice_map, append_str, snoc_str, List.all_cons, List.all_nil, List.map_cons, List.map_nil, Bool.false_eq_true, if_false, ofString_inj, ne_eq, String.reduceEq, not_false_eq_true, Bool.not_true, Bool.not_false, reduceCtorEq, and_true, true_and, and_self, small, Nat.reduceAdd, Nat.reduceLeDiff, bindPV, maskη, List.lookup_cons, List.lookup_nil, str_beq, decide_true, decide_false, Option.map_some, Option.some.injEq, encP, C.list]
      rw [lst_lst (by have := hd d hd'; simp only [List.length_map]; unfold small; omega)]
      exact ⟨_, _, rfl⟩
  have b1 := S.get a1 (by decide); have b2 := S.get a2 (by decide); have b3 := S.get a3 (by decide); have b4 := S.get a4 (by decide); have b5 := S.self
  clear S a1 a2 a3 a4
  refine p_if (b := false) (by simp only [List.length_cons, List.length_nil, if_true, V_s, V_e, V_t, V_j, V_ok, ev_cN, ev_cB, ev_cI, ev_cS, ev_nm, ev_bin, ev_tup, ev_lst, ev_sl, ev_ixC, ev_ixN, ev_ixB, ev_ixK, ev_call, ev_comp, tv_not, tv_lt, tv_le, tv_gt, tv_ge, tv_eq, tv_ne, tv_ni, tv_nm, tv_call, jv_c, jv_f, fmt_ok, it_nm, it_bin, it_sub, nm_eq, nm_ne, nm_drop, Rz.bind_ok, Rz.bind_err, Rz.strict, sq_l, sq_t, List.length_map, List.length_append, scal, Bool.false_or, Bool.true_or, Bool.or_false, Bool.or_true, Bool.and_true, Bool.true_and, Bool.and_false, Bool.false_and, Bool.and_self, Bool.or_self, argsV, pt_n, pt_s, cd_n, cd_1, im_l, im_t, item0, item1, item2, elemV, sc, encD, encDs, encH, ne_str, eq_str, lt_int, le_int, gt_int, ge_int, eq_int, ne_int, eq_strs, ne_strs, ne_opt, ne_opt_word, ne_str_strs, ne_strs_str, ne_deeds, ne_hunks, notin_kinds, notin_kindsT, add_int, sub_int, mod_int, div3, div4, callV, listV, flat_str, slice_map, append_str, snoc_str, List.all_cons, List.all_nil, List.map_cons, List.map_nil, Bool.false_eq_true, if_false, ofString_inj, ne_eq, String.reduceEq, not_false_eq_true, Bool.not_true, Bool.not_false, reduceCtorEq, and_true, true_and, and_self, small, Nat.reduceAdd, Nat.reduceLeDiff, bindPV, maskη, List.lookup_cons, List.lookup_nil, str_beq, decide_true, decide_false, Option.map_some, Option.some.injEq, encP, b1, b2, b3, r1, hr]; simp) (fun q => by cases q) (fun _ => p_end ?_)
  refine p_if (b := false) (by simp only [List.length_cons, List.length_nil, if_true, V_s, V_e, V_t, V_j, V_ok, ev_cN, ev_cB, ev_cI, ev_cS, ev_nm, ev_bin, ev_tup, ev_lst, ev_sl, ev_ixC, ev_ixN, ev_ixB, ev_ixK, ev_call, ev_comp, tv_not, tv_lt, tv_le, tv_gt, tv_ge, tv_eq, tv_ne, tv_ni, tv_nm, tv_call, jv_c, jv_f, fmt_ok, it_nm, it_bin, it_sub, nm_eq, nm_ne, nm_drop, Rz.bind_ok, Rz.bind_err, Rz.strict, sq_l, sq_t, List.length_map, List.length_append, scal, Bool.false_or, Bool.true_or, Bool.or_false, Bool.or_true, Bool.and_true, Bool.true_and, Bool.and_false, Bool.false_and, Bool.and_self, Bool.or_self, argsV, pt_n, pt_s, cd_n, cd_1, im_l, im_t, item0, item1, item2, elemV, sc, encD, encDs, encH, ne_str, eq_str, lt_int, le_int, gt_int, ge_int, eq_int, ne_int, eq_strs, ne_strs, ne_opt, ne_opt_word, ne_str_strs, ne_strs_str, ne_deeds, ne_hunks, notin_kinds, notin_kindsT, add_int, sub_int, mod_int, div3, div4, callV, listV, flat_str, slice_map, append_str, snoc_str, List.all_cons, List.all_nil, List.map_cons, List.map_nil, Bool.false_eq_true, if_false, ofString_inj, ne_eq, String.reduceEq, not_false_eq_true, Bool.not_true, Bool.not_false, reduceCtorEq, and_true, true_and, and_self, small, Nat.reduceAdd, Nat.reduceLeDiff, bindPV, maskη, List.lookup_cons, List.lookup_nil, str_beq, decide_true, decide_false, Option.map_some, Option.some.injEq, encP, b1, b4]; simp) (fun q => by cases q) (fun _ => p_end ?_)
  refine p_if (b := false) (by simp only [List.length_cons, List.length_nil, if_true, V_s, V_e, V_t, V_j, V_ok, ev_cN, ev_cB, ev_cI, ev_cS, ev_nm, ev_bin, ev_tup, ev_lst, ev_sl, ev_ixC, ev_ixN, ev_ixB, ev_ixK, ev_call, ev_comp, tv_not, tv_lt, tv_le, tv_gt, tv_ge, tv_eq, tv_ne, tv_ni, tv_nm, tv_call, jv_c, jv_f, fmt_ok, it_nm, it_bin, it_sub, nm_eq, nm_ne, nm_drop, Rz.bind_ok, Rz.bind_err, Rz.strict, sq_l, sq_t, List.length_map, List.length_append, scal, Bool.false_or, Bool.true_or, Bool.or_false, Bool.or_true, Bool.and_true, Bool.true_and, Bool.and_false, Bool.false_and, Bool.and_self, Bool.or_self, argsV, pt_n, pt_s, cd_n, cd_1, im_l, im_t, item0, item1, item2, elemV, sc, encD, encDs, encH, ne_str, eq_str, lt_int, le_int, gt_int, ge_int, eq_int, ne_int, eq_strs, ne_strs, ne_opt, ne_opt_word, ne_str_strs, ne_strs_str, ne_deeds, ne_hunks, notin_kinds, notin_kindsT, add_int, sub_int, mod_int, div3, div4, callV, listV, flat_str, slice_map, append_str, snoc_str, List.all_cons, List.all_nil, List.map_cons, List.map_nil, Bool.false_eq_true, if_false, ofString_inj, ne_eq, String.reduceEq, not_false_eq_true, Bool.not_true, Bool.not_false, reduceCtorEq, and_true, true_and, and_self, small, Nat.reduceAdd, Nat.reduceLeDiff, bindPV, maskη, List.lookup_cons, List.lookup_nil, str_beq, decide_true, decide_false, Option.map_some, Option.some.injEq, encP, b2, b5]; simp) (fun q => by cases q) (fun _ => p_end ?_)
  exact p_ret (d := .bool true) (b := true) (m := true) (by simp only [List.length_cons, List.length_nil, if_true, V_s, V_e, V_t, V_j, V_ok, ev_cN, ev_cB, ev_cI, ev_cS, ev_nm, ev_bin, ev_tup, ev_lst, ev_sl, ev_ixC, ev_ixN, ev_ixB, ev_ixK, ev_call, ev_comp, tv_not, tv_lt, tv_le, tv_gt, tv_ge, tv_eq, tv_ne, tv_ni, tv_nm, tv_call, jv_c, jv_f, fmt_ok, it_nm, it_bin, it_sub, nm_eq, nm_ne, nm_drop, Rz.bind_ok, Rz.bind_err, Rz.strict, sq_l, sq_t, List.length_map, List.length_append, scal, Bool.false_or, Bool.true_or, Bool.or_false, Bool.or_true, Bool.and_true, Bool.true_and, Bool.and_false, Bool.false_and, Bool.and_self, Bool.or_self, argsV, pt_n, pt_s, cd_n, cd_1, im_l, im_t, item0, item1, item2, elemV, sc, encD, encDs, encH, ne_str, eq_str, lt_int, le_int, gt_int, ge_int, eq_int, ne_int, eq_strs, ne_strs, ne_opt, ne_opt_word, ne_str_strs, ne_strs_str, ne_deeds, ne_hunks, notin_kinds, notin_kindsT, add_int, sub_int, mod_int, div3, div4, callV, listV, flat_str, slice_map, append_str, snoc_str, List.all_cons, List.all_nil, List.map_cons, List.map_nil, Bool.false_eq_true, if_false, ofString_inj, ne_eq, String.reduceEq, not_false_eq_true, Bool.not_true, Bool.not_false, reduceCtorEq, and_true, true_and, and_self, small, Nat.reduceAdd, Nat.reduceLeDiff, bindPV, maskη, List.lookup_cons, List.lookup_nil, str_beq, decide_true, decide_false, Option.map_some, Option.some.injEq, encP]) rfl
end

section
variable {Θ : VThy}

structure Fns05 (Θ : VThy) (ns : List Int) (L : List Str) : Prop where
  len : Θ.fn (Str.ofString "len") = none
  min : Θ.fn (Str.ofString "min") = none
  max : Θ.fn (Str.ofString "max") = none
  cell : CellFn Θ ns
  deeds : ∃ φ, Θ.fn (Str.ofString "_law_deeds") = some φ ∧ ∀ (at_ : Nat) (xs : List Str) (p c : Nat), at_ ≤ 100 → xs.length ≤ 6 → p ≤ 100 → c ≤ 3 → ∃ ds : List (Str × Str), (∀ d ∈ ds, kn d.1 = true) ∧ ds.length ≤ 3 ∧ src ds <+: xs.drop p ∧ φ [.list (ns.map .int), .int at_, .list (xs.map .str), .int p, .int c] = .ok (.list (ds.map encD), true)
  hurt : ∃ φ, Θ.fn (Str.ofString "_law_hurt") = some φ ∧ ∀ (ds : List (Str × Str)) (how : Nat), ds.length ≤ 3 → how < 9 → ∃ (ds' : List (Str × Str)) (m : Bool), ds'.length ≤ 4 ∧ φ [.list (ds.map encD), .int how] = .ok (.list (ds'.map encD), m)
  wo : WithoutFn Θ
  due : ∃ φ, Θ.fn (Str.ofString "_law_due") = some φ ∧ ∀ (xs front : List Str) (done s : Nat) (t : Int) (ds : List (Str × Str)), xs.length ≤ 6 → front.length ≤ 100 → done ≤ xs.length → ds.length ≤ 10 → φ [.list (xs.map .str), .list (front.map .str), .int done, .int s, .int t, .list (ds.map encD)] = .ok (optD (dueR xs front done s t ds), true)
  holds : ∃ φ, Θ.fn (Str.ofString "_law_holds") = some φ ∧ ∀ (xs : List Str) (hs : List (Int × Int × List (Str × Str))), xs.length ≤ 100 → hs.length ≤ 10 → (∀ h ∈ hs, h.2.2.length ≤ 100) → φ [.list (xs.map .str), .list (hs.map encH), optD (applyR xs hs)] = .ok (.bool true, true)
  lines : Θ.glob (Str.ofString "_law_LINES") = some (.tuple (L.map .str))
  llen : L.length = 3

theorem due_snoc {xs front : List Str} {done : Nat} {hs : List (Int × Int × List (Str × Str))} (hf : hs.foldlM (fun s h => applyT xs h s) (0, []) = some (done, front)) (s t : Int) (ds : List (Str × Str)) : applyR xs (hs ++ [(s, t, ds)]) = dueR xs front done s t ds := by
  unfold applyR dueR
  rw [List.foldlM_append, hf]
  simp only [Option.bind_eq_bind, Option.bind_some, List.foldlM_cons, List.foldlM_nil]
  cases applyT xs (s, t, ds) (done, front) <;> rfl

structure R5 (Θ : VThy) (ns : List Int) (xs : List Str) (hs : List (Int × Int × List (Str × Str))) (front : List Str) (done : Nat) (mh : Bool) (η : VEnv) : Prop where
  script : nameV Θ (Str.ofString "script") η = .ok ⟨.list (ns.map .int), false, false⟩
  text : nameV Θ (Str.ofString "text") η = .ok ⟨.list (xs.map .str), false, true⟩
  front : nameV Θ (Str.ofString "front") η = .ok ⟨.list (front.map .str), false, true⟩
  done : nameV Θ (Str.ofString "done") η = .ok ⟨.int done, true, true⟩
  hunks : nameV Θ (Str.ofString "hunks") η = .ok ⟨.list (hs.map encH), false, mh⟩
theorem R5.set {ns : List Int} {xs : List Str} {hs : List (Int × Int × List (Str × Str))} {front : List Str} {done : Nat} {mh : Bool} {η η' : VEnv} {s : String} {d : PyData} {b m : Bool} (h : R5 Θ ns xs hs front done mh η) (S : SetN Θ η (Str.ofString s) d b m η') (hs' : s ∉ ["script", "text", "front", "done", "hunks"]) : R5 Θ ns xs hs front done mh η' := by
  simp only [List.mem_cons, List.not_mem_nil, or_false, not_or] at hs'
  obtain ⟨h1, h2, h3, h4, h5⟩ := hs'
  exact ⟨S.get h.script (Ne.symm h1), S.get h.text (Ne.symm h2), S.get h.front (Ne.symm h3), S.get h.done (Ne.symm h4), S.get h.hunks (Ne.symm h5)⟩

theorem law_rest (n : Nat) (ns : List Int) (L : List Str) (F : Fns05 Θ ns L) (xs : List Str) (hx : xs.length ≤ 6) (hs : List (Int × Int × List (Str × Str))) (hl : hs.length ≤ 5) (hd : ∀ h ∈ hs, h.2.2.length ≤ 3) (front : List Str) (hfl : front.length ≤ 90) (done : Nat) (hdn : done ≤ xs.length)
    (hf : hs.foldlM (fun s h => applyT xs h s) (0, []) = some (done, front)) (mh : Bool) (η : VEnv) (h : R5 Θ ns xs hs front done mh η) : Post (seqV (V Θ (n + 20)).s ((bodyOf pw 15).tail.tail.tail.tail.tail) η) (retIs (.ok (.bool true, true))) := by
  obtain ⟨φh, hh1, hh2⟩ := F.holds
  obtain ⟨φc, hc1, hc2⟩ := F.cell.cell
  obtain ⟨φd, hd1, hd2⟩ := F.deeds
  obtain ⟨φx, hx1, hx2⟩ := F.hurt
  obtain ⟨φu, hu1, hu2⟩ := F.due
  have hR : applyR xs hs = some (front ++ xs.drop done) := by unfold applyR; rw [hf]; rfl
  (unfold bodyOf pw PySem.Challenge.pw_pd_weave_3_05; dsimp only [List.getElem?_cons_succ, List.getElem?_cons_zero])
  dsimp only [List.tail_cons]
  have hh3 := hh2 xs hs (by omega) (by omega) (fun h hm => by have := hd h hm; omega)
  rw [hR] at hh3
  simp only [optD] at hh3
  refine p_if (b := false) ?_ (fun q => by cases q) (fun _ => p_end ?_)
  · simp only [List.length_cons, List.length_nil, if_true, V_s, V_e, V_t, V_j, V_ok, ev_cN, ev_cB, ev_cI, ev_cS, ev_nm, ev_bin, ev_tup, ev_lst, ev_sl, ev_ixC, ev_ixN, ev_ixB, ev_ixK, ev_call, ev_comp, tv_not, tv_lt, tv_le, tv_gt, tv_ge, tv_eq, tv_ne, tv_ni, tv_nm, tv_call, jv_c, jv_f, fmt_ok, it_nm, it_bin, it_sub, nm_eq, nm_ne, nm_drop, Rz.bind_ok, Rz.bind_err, Rz.strict, sq_l, sq_t, List.length_map, List.length_append, scal, Bool.false_or, Bool.true_or, Bool.or_false, Bool.or_true, Bool.and_true, Bool.true_and, Bool.and_false, Bool.false_and, Bool.and_self, Bool.or_self, argsV, pt_n, pt_s, cd_n, cd_1, im_l, im_t, item0, item1, item2, elemV, sc, encD, encDs, encH, ne_str, eq_str, lt_int, le_int, gt_int, ge_int, eq_int, ne_int, eq_strs, ne_strs, ne_opt, ne_opt_word, ne_str_strs, ne_strs_str, ne_deeds, ne_hunks, notin_kinds, notin_kindsT, add_int, sub_int, mod_int, div3, div4, callV, listV, flat_str, slice_map, append_str, snoc_str, List.all_cons, List.all_nil, List.map_cons, List.map_nil, Bool.false_eq_true, if_false, ofString_inj, ne_eq, String.reduceEq, not_false_eq_true, Bool.not_true, Bool.not_false, reduceCtorEq, and_true, true_and, and_self, small, Nat.reduceAdd, Nat.reduceLeDiff, bindPV, maskη, List.lookup_cons, List.lookup_nil, str_beq, decide_true, decide_false, Option.map_some, Option.some.injEq, encP, h.text, h.hunks, h.front, h.done, hh1]
    rw [cut_strs rfl rfl (by unfold small; omega), slice_from]
    simp only [List.length_cons, List.length_nil, if_true, V_s, V_e, V_t, V_j, V_ok, ev_cN, ev_cB, ev_cI, ev_cS, ev_nm, ev_bin, ev_tup, ev_lst, ev_sl, ev_ixC, ev_ixN, ev_ixB, ev_ixK, ev_call, ev_comp, tv_not, tv_lt, tv_le, tv_gt, tv_ge, tv_eq, tv_ne, tv_ni, tv_nm, tv_call, jv_c, jv_f, fmt_ok, it_nm, it_bin, it_sub, nm_eq, nm_ne, nm_drop, Rz.bind_ok, Rz.bind_err, Rz.strict, sq_l, sq_t, List.length_map, List.length_append, scal, Bool.false_or, Bool.true_or, Bool.or_false, Bool.or_true, Bool.and_true, Bool.true_and, Bool.and_false, Bool.false_and, Bool.and_self, Bool.or_self, argsV, pt_n, pt_s, cd_n, cd_1, im_l, im_t, item0, item1, item2, elemV, sc, encD, encDs, encH, ne_str, eq_str, lt_int, le_int, gt_int, ge_int, eq_int, ne_int, eq_strs, ne_strs, ne_opt, ne_opt_word, ne_str_strs, ne_strs_str, ne_deeds, ne_hunks, notin_kinds, notin_kindsT, add_int, sub_int, mod_int, div3, div4, callV, listV, flat_str, slice_map, append_str, snoc_str, List.all_cons, List.all_nil, List.map_cons, List.map_nil, Bool.false_eq_true, if_false, ofString_inj, ne_eq, String.reduceEq, not_false_eq_true, Bool.not_true, Bool.not_false, reduceCtorEq, and_true, true_and, and_self, small, Nat.reduceAdd, Nat.reduceLeDiff, bindPV, maskη, List.lookup_cons, List.lookup_nil, str_beq, decide_true, decide_false, Option.map_some, Option.some.injEq, encP]
    rw [add_strs (by simp only [List.length_drop]; unfold small; omega)]
    simp only [List.length_cons, List.length_nil, if_true, V_s, V_e, V_t, V_j, V_ok, ev_cN, ev_cB, ev_cI, ev_cS, ev_nm, ev_bin, ev_tup, ev_lst, ev_sl, ev_ixC, ev_ixN, ev_ixB, ev_ixK, ev_call, ev_comp, tv_not, tv_lt, tv_le, tv_gt, tv_ge, tv_eq, tv_ne, tv_ni, tv_nm, tv_call, jv_c, jv_f, fmt_ok, it_nm, it_bin, it_sub, nm_eq, nm_ne, nm_drop, Rz.bind_ok, Rz.bind_err, Rz.strict, sq_l, sq_t, List.length_map, List.length_append, scal, Bool.false_or, Bool.true_or, Bool.or_false, Bool.or_true, Bool.and_true, Bool.true_and, Bool.and_false, Bool.false_and, Bool.and_self, Bool.or_self, argsV, pt_n, pt_s, cd_n, cd_1, im_l, im_t, item0, item1, item2, elemV, sc, encD, encDs, encH, ne_str, eq_str, lt_int, le_int, gt_int, ge_int, eq_int, ne_int, eq_strs, ne_strs, ne_opt, ne_opt_word, ne_str_strs, ne_strs_str, ne_deeds, ne_hunks, notin_kinds, notin_kindsT, add_int, sub_int, mod_int, div3, div4, callV, listV, flat_str, slice_map, append_str, snoc_str, List.all_cons, List.all_nil, List.map_cons, List.map_nil, Bool.false_eq_true, if_false, ofString_inj, ne_eq, String.reduceEq, not_false_eq_true, Bool.not_true, Bool.not_false, reduceCtorEq, and_true, true_and, and_self, small, Nat.reduceAdd, Nat.reduceLeDiff, bindPV, maskη, List.lookup_cons, List.lookup_nil, str_beq, decide_true, decide_false, Option.map_some, Option.some.injEq, encP, hh3]
  clear hh3
  obtain ⟨r16, hr16, hr16'⟩ := fmod_nat (cellD ns 16) 12 (by decide)
  have hr16 : (cellD ns 16).fmod 12 = r16 := hr16
  have c16 := hc2 16 (by decide)
  have c17 := hc2 17 (by decide)
  have c18 := hc2 18 (by decide)
  have c22 := hc2 22 (by decide)
  simp only [Int.cast_ofNat_Int] at c16 c17 c18 c22
  refine p_asgV (d := .int r16) (b := true) (m := true) ?_ (fun η₁ S => ?_)
  · simp only [List.length_cons, List.length_nil, if_true, V_s, V_e, V_t, V_j, V_ok, ev_cN, ev_cB, ev_cI, ev_cS, ev_nm, ev_bin, ev_tup, ev_lst, ev_sl, ev_ixC, ev_ixN, ev_ixB, ev_ixK, ev_call, ev_comp, tv_not, tv_lt, tv_le, tv_gt, tv_ge, tv_eq, tv_ne, tv_ni, tv_nm, tv_call, jv_c, jv_f, fmt_ok, it_nm, it_bin, it_sub, nm_eq, nm_ne, nm_drop, Rz.bind_ok, Rz.bind_err, Rz.strict, sq_l, sq_t, List.length_map, List.length_append, scal, Bool.false_or, Bool.true_or, Bool.or_false, Bool.or_true, Bool.and_true, Bool.true_and, Bool.and_false, Bool.false_and, Bool.and_self, Bool.or_self, argsV, pt_n, pt_s, cd_n, cd_1, im_l, im_t, item0, item1, item2, elemV, sc, encD, encDs, encH, ne_str, eq_str, lt_int, le_int, gt_int, ge_int, eq_int, ne_int, eq_strs, ne_strs, ne_opt, ne_opt_word, ne_str_strs, ne_strs_str, ne_deeds, ne_hunks, notin_kinds, notin_kindsT, add_int, sub_int, mod_int, div3, div4, callV, listV, flat_str, slice_map, append_str, snoc_str, List.all_cons, List.all_nil, List.map_cons, List.map_nil, Bool.false_eq_true, if_false, ofString_inj, ne_eq, String.reduceEq, not_false_eq_true, Bool.not_true, Bool.not_false, reduceCtorEq, and_true, true_and, and_self, small, Nat.reduceAdd, Nat.reduceLeDiff, bindPV, maskη, List.lookup_cons, List.lookup_nil, str_beq, decide_true, decide_false, Option.map_some, Option.some.injEq, encP, h.script, hc1, c16]
    rw [mod_int _ _ _ _ _ _ (by decide), hr16]
    rfl
  have h1 := h.set S (by decide)
  have s1 := S.self
  clear S h
  refine p_ifJ (b := decide ((8 : Int) < r16)) (fun η' => R5 Θ ns xs hs front done mh η' ∧ ∃ s : Nat, s ≤ 20 ∧ nameV Θ (Str.ofString "s") η' = .ok ⟨.int s, true, true⟩) (by simp only [List.length_cons, List.length_nil, if_true, V_s, V_e, V_t, V_j, V_ok, ev_cN, ev_cB, ev_cI, ev_cS, ev_nm, ev_bin, ev_tup, ev_lst, ev_sl, ev_ixC, ev_ixN, ev_ixB, ev_ixK, ev_call, ev_comp, tv_not, tv_lt, tv_le, tv_gt, tv_ge, tv_eq, tv_ne, tv_ni, tv_nm, tv_call, jv_c, jv_f, fmt_ok, it_nm, it_bin, it_sub, nm_eq, nm_ne, nm_drop, Rz.bind_ok, Rz.bind_err, Rz.strict, sq_l, sq_t, List.length_map, List.length_append, scal, Bool.false_or, Bool.true_or, Bool.or_false, Bool.or_true, Bool.and_true, Bool.true_and, Bool.and_false, Bool.false_and, Bool.and_self, Bool.or_self, argsV, pt_n, pt_s, cd_n, cd_1, im_l, im_t, item0, item1, item2, elemV, sc, encD, encDs, encH, ne_str, eq_str, lt_int, le_int, gt_int, ge_int, eq_int, ne_int, eq_strs, ne_strs, ne_opt, ne_opt_word, ne_str_strs, ne_strs_str, ne_deeds, ne_hunks, notin_kinds, notin_kindsT, add_int, sub_int, mod_int, div3, div4, callV, listV, flat_str, slice_map, append_str, snoc_str, List.all_cons, List.all_nil, List.map_cons, List.map_nil, Bool.false_eq_true, if_false, ofString_inj, ne_eq, String.reduceEq, not_false_eq_true, Bool.not_true, Bool.not_false, reduceCtorEq, and_true, true_and, and_self, small, Nat.reduceAdd, Nat.reduceLeDiff, bindPV, maskη, List.lookup_cons, List.lookup_nil, str_beq, decide_true, decide_false, Option.map_some, Option.some.injEq, encP, s1]) (fun hb => ?_) (fun hb => p_nil ⟨h1, r16, by omega, by simpa only [scal, Bool.true_or] using s1⟩) ?_
  · have hb : (8 : Int) < r16 := by simpa using hb
    refine p_asgV (d := .int (done + r16 - 9 : Nat)) (b := true) (m := true) ?_ (fun η' S => p_nil ⟨h1.set S (by decide), done + r16 - 9, by omega, by simpa only [scal, Bool.true_or] using S.self⟩)
    simp only [List.length_cons, List.length_nil, if_true, V_s, V_e, V_t, V_j, V_ok, ev_cN, ev_cB, ev_cI, ev_cS, ev_nm, ev_bin, ev_tup, ev_lst, ev_sl, ev_ixC, ev_ixN, ev_ixB, ev_ixK, ev_call, ev_comp, tv_not, tv_lt, tv_le, tv_gt, tv_ge, tv_eq, tv_ne, tv_ni, tv_nm, tv_call, jv_c, jv_f, fmt_ok, it_nm, it_bin, it_sub, nm_eq, nm_ne, nm_drop, Rz.bind_ok, Rz.bind_err, Rz.strict, sq_l, sq_t, List.length_map, List.length_append, scal, Bool.false_or, Bool.true_or, Bool.or_false, Bool.or_true, Bool.and_true, Bool.true_and, Bool.and_false, Bool.false_and, Bool.and_self, Bool.or_self, argsV, pt_n, pt_s, cd_n, cd_1, im_l, im_t, item0, item1, item2, elemV, sc, encD, encDs, encH, ne_str, eq_str, lt_int, le_int, gt_int, ge_int, eq_int, ne_int, eq_strs, ne_strs, ne_opt, ne_opt_word, ne_str_strs, ne_strs_str, ne_deeds, ne_hunks, notin_kinds, notin_kindsT, add_int, sub_int, mod_int, div3, div4, callV, listV, flat_str, slice_map, append_str, snoc_str, List.all_cons, List.all_nil, List.map_cons, List.map_nil, Bool.false_eq_true, if_false, ofString_inj, ne_eq, String.reduceEq, not_false_eq_true, Bool.not_true, Bool.not_false, reduceCtorEq, and_true, true_and, and_self, small, Nat.reduceAdd, Nat.reduceLeDiff, bindPV, maskη, List.lookup_cons, List.lookup_nil, str_beq, decide_true, decide_false, Option.map_some, Option.some.injEq, encP, s1, h1.done]
    rw [show ((done : Int) + r16 - 9) = ((done + r16 - 9 : Nat) : Int) from by omega]
  clear h1 s1
  rintro η₂ ⟨h2, s, hs20, s2⟩
  refine p_asgV (d := .int ((front.length : Int) + s - done)) (b := true) (m := true) ?_ (fun η₃ S => ?_)
  · simp only [List.length_cons, List.length_nil, if_true, V_s, V_e, V_t, V_j, V_ok, ev_cN, ev_cB, ev_cI, ev_cS, ev_nm, ev_bin, ev_tup, ev_lst, ev_sl, ev_ixC, ev_ixN, ev_ixB, ev_ixK, ev_call, ev_comp, tv_not, tv_lt, tv_le, tv_gt, tv_ge, tv_eq, tv_ne, tv_ni, tv_nm, tv_call, jv_c, jv_f, fmt_ok, it_nm, it_bin, it_sub, nm_eq, nm_ne, nm_drop, Rz.bind_ok, Rz.bind_err, Rz.strict, sq_l, sq_t, List.length_map, List.length_append, scal, Bool.false_or, Bool.true_or, Bool.or_false, Bool.or_true, Bool.and_true, Bool.true_and, Bool.and_false, Bool.false_and, Bool.and_self, Bool.or_self, argsV, pt_n, pt_s, cd_n, cd_1, im_l, im_t, item0, item1, item2, elemV, sc, encD, encDs, encH, ne_str, eq_str, lt_int, le_int, gt_int, ge_int, eq_int, ne_int, eq_strs, ne_strs, ne_opt, ne_opt_word, ne_str_strs, ne_strs_str, ne_deeds, ne_hunks, notin_kinds, notin_kindsT, add_int, sub_int, mod_int, div3, div4, callV, listV, flat_str, slice_map, append_str, snoc_str, List.all_cons, List.all_nil, List.map_cons, List.map_nil, Bool.false_eq_true, if_false, ofString_inj, ne_eq, String.reduceEq, not_false_eq_true, Bool.not_true, Bool.not_false, reduceCtorEq, and_true, true_and, and_self, small, Nat.reduceAdd, Nat.reduceLeDiff, bindPV, maskη, List.lookup_cons, List.lookup_nil, str_beq, decide_true, decide_false, Option.map_some, Option.some.injEq, encP, h2.front, h2.done, s2, F.len]
    rw [len_lst (by simp only [List.length_map]; unfold small; omega)]
    simp only [List.length_cons, List.length_nil, if_true, V_s, V_e, V_t, V_j, V_ok, ev_cN, ev_cB, ev_cI, ev_cS, ev_nm, ev_bin, ev_tup, ev_lst, ev_sl, ev_ixC, ev_ixN, ev_ixB, ev_ixK, ev_call, ev_comp, tv_not, tv_lt, tv_le, tv_gt, tv_ge, tv_eq, tv_ne, tv_ni, tv_nm, tv_call, jv_c, jv_f, fmt_ok, it_nm, it_bin, it_sub, nm_eq, nm_ne, nm_drop, Rz.bind_ok, Rz.bind_err, Rz.strict, sq_l, sq_t, List.length_map, List.length_append, scal, Bool.false_or, Bool.true_or, Bool.or_false, Bool.or_true, Bool.and_true, Bool.true_and, Bool.and_false, Bool.false_and, Bool.and_self, Bool.or_self, argsV, pt_n, pt_s, cd_n, cd_1, im_l, im_t, item0, item1, item2, elemV, sc, encD, encDs, encH, ne_str, eq_str, lt_int, le_int, gt_int, ge_int, eq_int, ne_int, eq_strs, ne_strs, ne_opt, ne_opt_word, ne_str_strs, ne_strs_str, ne_deeds, ne_hunks, notin_kinds, notin_kindsT, add_int, sub_int, mod_int, div3, div4, callV, listV, flat_str, slice_map, append_str, snoc_str, List.all_cons, List.all_nil, List.map_cons, List.map_nil, Bool.false_eq_true, if_false, ofString_inj, ne_eq, String.reduceEq, not_false_eq_true, Bool.not_true, Bool.not_false, reduceCtorEq, and_true, true_and, and_self, small, Nat.reduceAdd, Nat.reduceLeDiff, bindPV, maskη, List.lookup_cons, List.lookup_nil, str_beq, decide_true, decide_false, Option.map_some, Option.some.injEq, encP]
  have h3 := h2.set S (by decide); have s3 := S.get s2 (by decide); have r3 := S.self
  clear S h2 s2
  generalize (front.length : Int) + s - done = right at r3
  obtain ⟨A, hA, hA8⟩ : ∃ A : List Int, [PyData.int right, .int right, .int right, .int right, .int (right + 1), .int (right - 1), .int s, .int front.length] = A.map .int ∧ A.length = 8 := ⟨[right, right, right, right, right + 1, right - 1, s, front.length], rfl, rfl⟩
  refine p_asgV (d := .tuple (A.map .int)) (b := true) (m := true) ?_ (fun η₄ S => ?_)
  · simp only [List.length_cons, List.length_nil, if_true, V_s, V_e, V_t, V_j, V_ok, ev_cN, ev_cB, ev_cI, ev_cS, ev_nm, ev_bin, ev_tup, ev_lst, ev_sl, ev_ixC, ev_ixN, ev_ixB, ev_ixK, ev_call, ev_comp, tv_not, tv_lt, tv_le, tv_gt, tv_ge, tv_eq, tv_ne, tv_ni, tv_nm, tv_call, jv_c, jv_f, fmt_ok, it_nm, it_bin, it_sub, nm_eq, nm_ne, nm_drop, Rz.bind_ok, Rz.bind_err, Rz.strict, sq_l, sq_t, List.length_map, List.length_append, scal, Bool.false_or, Bool.true_or, Bool.or_false, Bool.or_true, Bool.and_true, Bool.true_and, Bool.and_false, Bool.false_and, Bool.and_self, Bool.or_self, argsV, pt_n, pt_s, cd_n, cd_1, im_l, im_t, item0, item1, item2, elemV, sc, encD, encDs, encH, ne_str, eq_str, lt_int, le_int, gt_int, ge_int, eq_int, ne_int, eq_strs, ne_strs, ne_opt, ne_opt_word, ne_str_strs, ne_strs_str, ne_deeds, ne_hunks, notin_kinds, notin_kindsT, add_int, sub_int, mod_int, div3, div4, callV, listV, flat_str, slice_map, append_str, snoc_str, List.all_cons, List.all_nil, List.map_cons, List.map_nil, Bool.false_eq_true, if_false, ofString_inj, ne_eq, String.reduceEq, not_false_eq_true, Bool.not_true, Bool.not_false, reduceCtorEq, and_true, true_and, and_self, small, Nat.reduceAdd, Nat.reduceLeDiff, bindPV, maskη, List.lookup_cons, List.lookup_nil, str_beq, decide_true, decide_false, Option.map_some, Option.some.injEq, encP, h3.front, s3, r3, F.len]
    rw [len_lst (by simp only [List.length_map]; unfold small; omega)]
    simp only [List.length_cons, List.length_nil, if_true, V_s, V_e, V_t, V_j, V_ok, ev_cN, ev_cB, ev_cI, ev_cS, ev_nm, ev_bin, ev_tup, ev_lst, ev_sl, ev_ixC, ev_ixN, ev_ixB, ev_ixK, ev_call, ev_comp, tv_not, tv_lt, tv_le, tv_gt, tv_ge, tv_eq, tv_ne, tv_ni, tv_nm, tv_call, jv_c, jv_f, fmt_ok, it_nm, it_bin, it_sub, nm_eq, nm_ne, nm_drop, Rz.bind_ok, Rz.bind_err, Rz.strict, sq_l, sq_t, List.length_map, List.length_append, scal, Bool.false_or, Bool.true_or, Bool.or_false, Bool.or_true, Bool.and_true, Bool.true_and, Bool.and_false, Bool.false_and, Bool.and_self, Bool.or_self, argsV, pt_n, pt_s, cd_n, cd_1, im_l, im_t, item0, item1, item2, elemV, sc, encD, encDs, encH, ne_str, eq_str, lt_int, le_int, gt_int, ge_int, eq_int, ne_int, eq_strs, ne_strs, ne_opt, ne_opt_word, ne_str_strs, ne_strs_str, ne_deeds, ne_hunks, notin_kinds, notin_kindsT, add_int, sub_int, mod_int, div3, div4, callV, listV, flat_str, slice_map, append_str, snoc_str, List.all_cons, List.all_nil, List.map_cons, List.map_nil, Bool.false_eq_true, if_false, ofString_inj, ne_eq, String.reduceEq, not_false_eq_true, Bool.not_true, Bool.not_false, reduceCtorEq, and_true, true_and, and_self, small, Nat.reduceAdd, Nat.reduceLeDiff, bindPV, maskη, List.lookup_cons, List.lookup_nil, str_beq, decide_true, decide_false, Option.map_some, Option.some.injEq, encP]
    rw [hA]
  have h4 := h3.set S (by decide); have s4 := S.get s3 (by decide); have a4 := S.self
  clear S h3 s3 r3 hA
  simp only [scal, Bool.false_or] at a4
  obtain ⟨r17, hr17, hr17'⟩ := fmod_nat (cellD ns 17) 8 (by decide)
  have hr17 : (cellD ns 17).fmod 8 = r17 := hr17
  refine p_asgV (d := .int (max 0 (intAt A r17))) (b := true) (m := true) ?_ (fun η₅ S => ?_)
  · simp only [List.length_cons, List.length_nil, if_true, V_s, V_e, V_t, V_j, V_ok, ev_cN, ev_cB, ev_cI, ev_cS, ev_nm, ev_bin, ev_tup, ev_lst, ev_sl, ev_ixC, ev_ixN, ev_ixB, ev_ixK, ev_call, ev_comp, tv_not, tv_lt, tv_le, tv_gt, tv_ge, tv_eq, tv_ne, tv_ni, tv_nm, tv_call, jv_c, jv_f, fmt_ok, it_nm, it_bin, it_sub, nm_eq, nm_ne, nm_drop, Rz.bind_ok, Rz.bind_err, Rz.strict, sq_l, sq_t, List.length_map, List.length_append, scal, Bool.false_or, Bool.true_or, Bool.or_false, Bool.or_true, Bool.and_true, Bool.true_and, Bool.and_false, Bool.false_and, Bool.and_self, Bool.or_self, argsV, pt_n, pt_s, cd_n, cd_1, im_l, im_t, item0, item1, item2, elemV, sc, encD, encDs, encH, ne_str, eq_str, lt_int, le_int, gt_int, ge_int, eq_int, ne_int, eq_strs, ne_strs, ne_opt, ne_opt_word, ne_str_strs, ne_strs_str, ne_deeds, ne_hunks, notin_kinds, notin_kindsT, add_int, sub_int, mod_int, div3, div4, callV, listV, flat_str, slice_map, append_str, snoc_str, List.all_cons, List.all_nil, List.map_cons, List.map_nil, Bool.false_eq_true, if_false, ofString_inj, ne_eq, String.reduceEq, not_false_eq_true, Bool.not_true, Bool.not_false, reduceCtorEq, and_true, true_and, and_self, small, Nat.reduceAdd, Nat.reduceLeDiff, bindPV, maskη, List.lookup_cons, List.lookup_nil, str_beq, decide_true, decide_false, Option.map_some, Option.some.injEq, encP, h4.script, a4, hc1, c17, F.max]
    rw [mod_int _ _ _ _ _ _ (by decide), hr17]
    simp only [List.length_cons, List.length_nil, if_true, V_s, V_e, V_t, V_j, V_ok, ev_cN, ev_cB, ev_cI, ev_cS, ev_nm, ev_bin, ev_tup, ev_lst, ev_sl, ev_ixC, ev_ixN, ev_ixB, ev_ixK, ev_call, ev_comp, tv_not, tv_lt, tv_le, tv_gt, tv_ge, tv_eq, tv_ne, tv_ni, tv_nm, tv_call, jv_c, jv_f, fmt_ok, it_nm, it_bin, it_sub, nm_eq, nm_ne, nm_drop, Rz.bind_ok, Rz.bind_err, Rz.strict, sq_l, sq_t, List.length_map, List.length_append, scal, Bool.false_or, Bool.true_or, Bool.or_false, Bool.or_true, Bool.and_true, Bool.true_and, Bool.and_false, Bool.false_and, Bool.and_self, Bool.or_self, argsV, pt_n, pt_s, cd_n, cd_1, im_l, im_t, item0, item1, item2, elemV, sc, encD, encDs, encH, ne_str, eq_str, lt_int, le_int, gt_int, ge_int, eq_int, ne_int, eq_strs, ne_strs, ne_opt, ne_opt_word, ne_str_strs, ne_strs_str, ne_deeds, ne_hunks, notin_kinds, notin_kindsT, add_int, sub_int, mod_int, div3, div4, callV, listV, flat_str, slice_map, append_str, snoc_str, List.all_cons, List.all_nil, List.map_cons, List.map_nil, Bool.false_eq_true, if_false, ofString_inj, ne_eq, String.reduceEq, not_false_eq_true, Bool.not_true, Bool.not_false, reduceCtorEq, and_true, true_and, and_self, small, Nat.reduceAdd, Nat.reduceLeDiff, bindPV, maskη, List.lookup_cons, List.lookup_nil, str_beq, decide_true, decide_false, Option.map_some, Option.some.injEq, encP]
    rw [pick_int A (by omega) (by omega)]
    simp only [List.length_cons, List.length_nil, if_true, V_s, V_e, V_t, V_j, V_ok, ev_cN, ev_cB, ev_cI, ev_cS, ev_nm, ev_bin, ev_tup, ev_lst, ev_sl, ev_ixC, ev_ixN, ev_ixB, ev_ixK, ev_call, ev_comp, tv_not, tv_lt, tv_le, tv_gt, tv_ge, tv_eq, tv_ne, tv_ni, tv_nm, tv_call, jv_c, jv_f, fmt_ok, it_nm, it_bin, it_sub, nm_eq, nm_ne, nm_drop, Rz.bind_ok, Rz.bind_err, Rz.strict, sq_l, sq_t, List.length_map, List.length_append, scal, Bool.false_or, Bool.true_or, Bool.or_false, Bool.or_true, Bool.and_true, Bool.true_and, Bool.and_false, Bool.false_and, Bool.and_self, Bool.or_self, argsV, pt_n, pt_s, cd_n, cd_1, im_l, im_t, item0, item1, item2, elemV, sc, encD, encDs, encH, ne_str, eq_str, lt_int, le_int, gt_int, ge_int, eq_int, ne_int, eq_strs, ne_strs, ne_opt, ne_opt_word, ne_str_strs, ne_strs_str, ne_deeds, ne_hunks, notin_kinds, notin_kindsT, add_int, sub_int, mod_int, div3, div4, callV, listV, flat_str, slice_map, append_str, snoc_str, List.all_cons, List.all_nil, List.map_cons, List.map_nil, Bool.false_eq_true, if_false, ofString_inj, ne_eq, String.reduceEq, not_false_eq_true, Bool.not_true, Bool.not_false, reduceCtorEq, and_true, true_and, and_self, small, Nat.reduceAdd, Nat.reduceLeDiff, bindPV, maskη, List.lookup_cons, List.lookup_nil, str_beq, decide_true, decide_false, Option.map_some, Option.some.injEq, encP]
    rw [max_int]
    rfl
  have h5 := h4.set S (by decide); have s5 := S.get s4 (by decide); have t5 := S.self
  clear S h4 s4 a4
  simp only [scal, Bool.true_or] at t5
  generalize max 0 (intAt A r17) = t at t5
  obtain ⟨r18, hr18, hr18'⟩ := fmod_nat (cellD ns 18) 4 (by decide)
  have hr18 : (cellD ns 18).fmod 4 = r18 := hr18
  obtain ⟨ds, _, hds, _, hw⟩ := hd2 19 xs s r18 (by decide) hx (by omega) (by omega)
  simp only [Int.cast_ofNat_Int] at hw
  refine p_asgV (d := .list (ds.map encD)) (b := true) (m := true) ?_ (fun η₆ S => ?_)
  · simp only [List.length_cons, List.length_nil, if_true, V_s, V_e, V_t, V_j, V_ok, ev_cN, ev_cB, ev_cI, ev_cS, ev_nm, ev_bin, ev_tup, ev_lst, ev_sl, ev_ixC, ev_ixN, ev_ixB, ev_ixK, ev_call, ev_comp, tv_not, tv_lt, tv_le, tv_gt, tv_ge, tv_eq, tv_ne, tv_ni, tv_nm, tv_call, jv_c, jv_f, fmt_ok, it_nm, it_bin, it_sub, nm_eq, nm_ne, nm_drop, Rz.bind_ok, Rz.bind_err, Rz.strict, sq_l, sq_t, List.length_map, List.length_append, scal, Bool.false_or, Bool.true_or, Bool.or_false, Bool.or_true, Bool.and_true, Bool.true_and, Bool.and_false, Bool.false_and, Bool.and_self, Bool.or_self, argsV, pt_n, pt_s, cd_n, cd_1, im_l, im_t, item0, item1, item2, elemV, sc, encD, encDs, encH, ne_str, eq_str, lt_int, le_int, gt_int, ge_int, eq_int, ne_int, eq_strs, ne_strs, ne_opt, ne_opt_word, ne_str_strs, ne_strs_str, ne_deeds, ne_hunks, notin_kinds, notin_kindsT, add_int, sub_int, mod_int, div3, div4, callV, listV, flat_str, slice_map, append_str, snoc_str, List.all_cons, List.all_nil, List.map_cons, List.map_nil, Bool.false_eq_true, if_false, ofString_inj, ne_eq, String.reduceEq, not_false_eq_true, Bool.not_true, Bool.not_false, reduceCtorEq, and_true, true_and, and_self, small, Nat.reduceAdd, Nat.reduceLeDiff, bindPV, maskη, List.lookup_cons, List.lookup_nil, str_beq, decide_true, decide_false, Option.map_some, Option.some.injEq, encP, h5.script, h5.text, s5, hc1, c18, hd1]
    rw [mod_int _ _ _ _ _ _ (by decide), hr18]
    simp only [List.length_cons, List.length_nil, if_true, V_s, V_e, V_t, V_j, V_ok, ev_cN, ev_cB, ev_cI, ev_cS, ev_nm, ev_bin, ev_tup, ev_lst, ev_sl, ev_ixC, ev_ixN, ev_ixB, ev_ixK, ev_call, ev_comp, tv_not, tv_lt, tv_le, tv_gt, tv_ge, tv_eq, tv_ne, tv_ni, tv_nm, tv_call, jv_c, jv_f, fmt_ok, it_nm, it_bin, it_sub, nm_eq, nm_ne, nm_drop, Rz.bind_ok, Rz.bind_err, Rz.strict, sq_l, sq_t, List.length_map, List.length_append, scal, Bool.false_or, Bool.true_or, Bool.or_false, Bool.or_true, Bool.and_true, Bool.true_and, Bool.and_false, Bool.false_and, Bool.and_self, Bool.or_self, argsV, pt_n, pt_s, cd_n, cd_1, im_l, im_t, item0, item1, item2, elemV, sc, encD, encDs, encH, ne_str, eq_str, lt_int, le_int, gt_int, ge_int, eq_int, ne_int, eq_strs, ne_strs, ne_opt, ne_opt_word, ne_str_strs, ne_strs_str, ne_deeds, ne_hunks, notin_kinds, notin_kindsT, add_int, sub_int, mod_int, div3, div4, callV, listV, flat_str, slice_map, append_str, snoc_str, List.all_cons, List.all_nil, List.map_cons, List.map_nil, Bool.false_eq_true, if_false, ofString_inj, ne_eq, String.reduceEq, not_false_eq_true, Bool.not_true, Bool.not_false, reduceCtorEq, and_true, true_and, and_self, small, Nat.reduceAdd, Nat.reduceLeDiff, bindPV, maskη, List.lookup_cons, List.lookup_nil, str_beq, decide_true, decide_false, Option.map_some, Option.some.injEq, encP, hw]
  have h6 := h5.set S (by decide); have s6 := S.get s5 (by decide); have t6 := S.get t5 (by decide); have w6 := S.self
  clear S h5 s5 t5
  obtain ⟨r22, hr22, hr22'⟩ := fmod_nat (cellD ns 22) 9 (by decide)
  have hr22 : (cellD ns 22).fmod 9 = r22 := hr22
  obtain ⟨ds', m', hds', hw'⟩ := hx2 ds r22 hds hr22'
  refine p_asgVE (.list (ds'.map encD)) ?_ (fun b m η₇ S => ?_)
  · simp only [List.length_cons, List.length_nil, if_true, V_s, V_e, V_t, V_j, V_ok, ev_cN, ev_cB, ev_cI, ev_cS, ev_nm, ev_bin, ev_tup, ev_lst, ev_sl, ev_ixC, ev_ixN, ev_ixB, ev_ixK, ev_call, ev_comp, tv_not, tv_lt, tv_le, tv_gt, tv_ge, tv_eq, tv_ne, tv_ni, tv_nm, tv_call, jv_c, jv_f, fmt_ok, it_nm, it_bin, it_sub, nm_eq, nm_ne, nm_drop, Rz.bind_ok, Rz.bind_err, Rz.strict, sq_l, sq_t, List.length_map, List.length_append, scal, Bool.false_or, Bool.true_or, Bool.or_false, Bool.or_true, Bool.and_true, Bool.true_and, Bool.and_false, Bool.false_and, Bool.and_self, Bool.or_self, argsV, pt_n, pt_s, cd_n, cd_1, im_l, im_t, item0, item1, item2, elemV, sc, encD, encDs, encH, ne_str, eq_str, lt_int, le_int, gt_int, ge_int, eq_int, ne_int, eq_strs, ne_strs, ne_opt, ne_opt_word, ne_str_strs, ne_strs_str, ne_deeds, ne_hunks, notin_kinds, notin_kindsT, add_int, sub_int, mod_int, div3, div4, callV, listV, flat_str, slice_map, append_str, snoc_str, List.all_cons, List.all_nil, List.map_cons, List.map_nil, Bool.false_eq_true, if_false, ofString_inj, ne_eq, String.reduceEq, not_false_eq_true, Bool.not_true, Bool.not_false, reduceCtorEq, and_true, true_and, and_self, small, Nat.reduceAdd, Nat.reduceLeDiff, bindPV, maskη, List.lookup_cons, List.lookup_nil, str_beq, decide_true, decide_false, Option.map_some, Option.some.injEq, encP, h6.script, w6, hc1, c22, hx1]
    rw [mod_int _ _ _ _ _ _ (by decide), hr22]
    simp only [List.length_cons, List.length_nil, if_true, V_s, V_e, V_t, V_j, V_ok, ev_cN, ev_cB, ev_cI, ev_cS, ev_nm, ev_bin, ev_tup, ev_lst, ev_sl, ev_ixC, ev_ixN, ev_ixB, ev_ixK, ev_call, ev_comp, tv_not, tv_lt, tv_le, tv_gt, tv_ge, tv_eq, tv_ne, tv_ni, tv_nm, tv_call, jv_c, jv_f, fmt_ok, it_nm, it_bin, it_sub, nm_eq, nm_ne, nm_drop, Rz.bind_ok, Rz.bind_err, Rz.strict, sq_l, sq_t, List.length_map, List.length_append, scal, Bool.false_or, Bool.true_or, Bool.or_false, Bool.or_true, Bool.and_true, Bool.true_and, Bool.and_false, Bool.false_and, Bool.and_self, Bool.or_self, argsV, pt_n, pt_s, cd_n, cd_1, im_l, im_t, item0, item1, item2, elemV, sc, encD, encDs, encH, ne_str, eq_str, lt_int, le_int, gt_int, ge_int, eq_int, ne_int, eq_strs, ne_strs, ne_opt, ne_opt_word, ne_str_strs, ne_strs_str, ne_deeds, ne_hunks, notin_kinds, notin_kindsT, add_int, sub_int, mod_int, div3, div4, callV, listV, flat_str, slice_map, append_str, snoc_str, List.all_cons, List.all_nil, List.map_cons, List.map_nil, Bool.false_eq_true, if_false, ofString_inj, ne_eq, String.reduceEq, not_false_eq_true, Bool.not_true, Bool.not_false, reduceCtorEq, and_true, true_and, and_self, small, Nat.reduceAdd, Nat.reduceLeDiff, bindPV, maskη, List.lookup_cons, List.lookup_nil, str_beq, decide_true, decide_false, Option.map_some, Option.some.injEq, encP, hw']
    exact ⟨_, _, rfl⟩
  have h7 := h6.set S (by decide); have s7 := S.get s6 (by decide); have t7 := S.get t6 (by decide); have d7 := S.self
  clear S h6 s6 t6 w6
  have hdue := hu2 xs front done s t ds' hx (by omega) hdn (by omega)
  rw [← due_snoc hf] at hdue
  refine p_asgV (d := optD (applyR xs (hs ++ [((s : Int), t, ds')]))) (b := true) (m := true) ?_ (fun η₈ S => ?_)
  · simp only [List.length_cons, List.length_nil, if_true, V_s, V_e, V_t, V_j, V_ok, ev_cN, ev_cB, ev_cI, ev_cS, ev_nm, ev_bin, ev_tup, ev_lst, ev_sl, ev_ixC, ev_ixN, ev_ixB, ev_ixK, ev_call, ev_comp, tv_not, tv_lt, tv_le, tv_gt, tv_ge, tv_eq, tv_ne, tv_ni, tv_nm, tv_call, jv_c, jv_f, fmt_ok, it_nm, it_bin, it_sub, nm_eq, nm_ne, nm_drop, Rz.bind_ok, Rz.bind_err, Rz.strict, sq_l, sq_t, List.length_map, List.length_append, scal, Bool.false_or, Bool.true_or, Bool.or_false, Bool.or_true, Bool.and_true, Bool.true_and, Bool.and_false, Bool.false_and, Bool.and_self, Bool.or_self, argsV, pt_n, pt_s, cd_n, cd_1, im_l, im_t, item0, item1, item2, elemV, sc, encD, encDs, encH, ne_str, eq_str, lt_int, le_int, gt_int, ge_int, eq_int, ne_int, eq_strs, ne_strs, ne_opt, ne_opt_word, ne_str_strs, ne_strs_str, ne_deeds, ne_hunks, notin_kinds, notin_kindsT, add_int, sub_int, mod_int, div3, div4, callV, listV, flat_str, slice_map, append_str, snoc_str, List.all_cons, List.all_nil, List.map_cons, List.map_nil, Bool.false_eq_true, if_false, ofString_inj, ne_eq, String.reduceEq, not_false_eq_true, Bool.not_true, Bool.not_false, reduceCtorEq, and_true, true_and, and_self, small, Nat.reduceAdd, Nat.reduceLeDiff, bindPV, maskη, List.lookup_cons, List.lookup_nil, str_beq, decide_true, decide_false, Option.map_some, Option.some.injEq, encP, h7.text, h7.front, h7.done, s7, t7, d7, hu1, hdue]
  have h8 := h7.set S (by decide); have s8 := S.get s7 (by decide); have t8 := S.get t7 (by decide); have d8 := S.get d7 (by decide); have u8 := S.self
  clear S h7 s7 t7 d7 hdue
  have hh4 := hh2 xs (hs ++ [((s : Int), t, ds')]) (by omega) (by simp; omega) (fun h hm => by
    rcases List.mem_append.mp hm with q | q
    · have := hd h q; omega
    · simp at q; subst q; dsimp only; omega)
  rw [List.map_append] at hh4
  simp only [List.map_cons, List.map_nil, encH, encDs] at hh4
  refine p_if (b := false) ?_ (fun q => by cases q) (fun _ => p_end ?_)
  · simp only [List.length_cons, List.length_nil, if_true, V_s, V_e, V_t, V_j, V_ok, ev_cN, ev_cB, ev_cI, ev_cS, ev_nm, ev_bin, ev_tup, ev_lst, ev_sl, ev_ixC, ev_ixN, ev_ixB, ev_ixK, ev_call, ev_comp, tv_not, tv_lt, tv_le, tv_gt, tv_ge, tv_eq, tv_ne, tv_ni, tv_nm, tv_call, jv_c, jv_f, fmt_ok, it_nm, it_bin, it_sub, nm_eq, nm_ne, nm_drop, Rz.bind_ok, Rz.bind_err, Rz.strict, sq_l, sq_t, List.length_map, List.length_append, scal, Bool.false_or, Bool.true_or, Bool.or_false, Bool.or_true, Bool.and_true, Bool.true_and, Bool.and_false, Bool.false_and, Bool.and_self, Bool.or_self, argsV, pt_n, pt_s, cd_n, cd_1, im_l, im_t, item0, item1, item2, elemV, sc, encD, encDs, encH, ne_str, eq_str, lt_int, le_int, gt_int, ge_int, eq_int, ne_int, eq_strs, ne_strs, ne_opt, ne_opt_word, ne_str_strs, ne_strs_str, ne_deeds, ne_hunks, notin_kinds, notin_kindsT, add_int, sub_int, mod_int, div3, div4, callV, listV, flat_str, slice_map, append_str, snoc_str, List.all_cons, List.all_nil, List.map_cons, List.map_nil, Bool.false_eq_true, if_false, ofString_inj, ne_eq, String.reduceEq, not_false_eq_true, Bool.not_true, Bool.not_false, reduceCtorEq, and_true, true_and, and_self, small, Nat.reduceAdd, Nat.reduceLeDiff, bindPV, maskη, List.lookup_cons, List.lookup_nil, str_beq, decide_true, decide_false, Option.map_some, Option.some.injEq, encP, h8.text, h8.hunks, s8, t8, d8, u8, hh1]
    rw [add_lists (by simp only [List.length_map, List.length_cons, List.length_nil]; unfold small; omega)]
    simp only [List.length_cons, List.length_nil, if_true, V_s, V_e, V_t, V_j, V_ok, ev_cN, ev_cB, ev_cI, ev_cS, ev_nm, ev_bin, ev_tup, ev_lst, ev_sl, ev_ixC, ev_ixN, ev_ixB, ev_ixK, ev_call, ev_comp, tv_not, tv_lt, tv_le, tv_gt, tv_ge, tv_eq, tv_ne, tv_ni, tv_nm, tv_call, jv_c, jv_f, fmt_ok, it_nm, it_bin, it_sub, nm_eq, nm_ne, nm_drop, Rz.bind_ok, Rz.bind_err, Rz.strict, sq_l, sq_t, List.length_map, List.length_append, scal, Bool.false_or, Bool.true_or, Bool.or_false, Bool.or_true, Bool.and_true, Bool.true_and, Bool.and_false, Bool.false_and, Bool.and_self, Bool.or_self, argsV, pt_n, pt_s, cd_n, cd_1, im_l, im_t, item0, item1, item2, elemV, sc, encD, encDs, encH, ne_str, eq_str, lt_int, le_int, gt_int, ge_int, eq_int, ne_int, eq_strs, ne_strs, ne_opt, ne_opt_word, ne_str_strs, ne_strs_str, ne_deeds, ne_hunks, notin_kinds, notin_kindsT, add_int, sub_int, mod_int, div3, div4, callV, listV, flat_str, slice_map, append_str, snoc_str, List.all_cons, List.all_nil, List.map_cons, List.map_nil, Bool.false_eq_true, if_false, ofString_inj, ne_eq, String.reduceEq, not_false_eq_true, Bool.not_true, Bool.not_false, reduceCtorEq, and_true, true_and, and_self, small, Nat.reduceAdd, Nat.reduceLeDiff, bindPV, maskη, List.lookup_cons, List.lookup_nil, str_beq, decide_true, decide_false, Option.map_some, Option.some.injEq, encP] at hh4 ⊢
    simp only [List.length_cons, List.length_nil, if_true, V_s, V_e, V_t, V_j, V_ok, ev_cN, ev_cB, ev_cI, ev_cS, ev_nm, ev_bin, ev_tup, ev_lst, ev_sl, ev_ixC, ev_ixN, ev_ixB, ev_ixK, ev_call, ev_comp, tv_not, tv_lt, tv_le, tv_gt, tv_ge, tv_eq, tv_ne, tv_ni, tv_nm, tv_call, jv_c, jv_f, fmt_ok, it_nm, it_bin, it_sub, nm_eq, nm_ne, nm_drop, Rz.bind_ok, Rz.bind_err, Rz.strict, sq_l, sq_t, List.length_map, List.length_append, scal, Bool.false_or, Bool.true_or, Bool.or_false, Bool.or_true, Bool.and_true, Bool.true_and, Bool.and_false, Bool.false_and, Bool.and_self, Bool.or_self, argsV, pt_n, pt_s, cd_n, cd_1, im_l, im_t, item0, item1, item2, elemV, sc, encD, encDs, encH, ne_str, eq_str, lt_int, le_int, gt_int, ge_int, eq_int, ne_int, eq_strs, ne_strs, ne_opt, ne_opt_word, ne_str_strs, ne_strs_str, ne_deeds, ne_hunks, notin_kinds, notin_kindsT, add_int, sub_int, mod_int, div3, div4, callV, listV, flat_str, slice_map, append_str, snoc_str, List.all_cons, List.all_nil, List.map_cons, List.map_nil, Bool.false_eq_true, if_false, ofString_inj, ne_eq, String.reduceEq, not_false_eq_true, Bool.not_true, Bool.not_false, reduceCtorEq, and_true, true_and, and_self, small, Nat.reduceAdd, Nat.reduceLeDiff, bindPV, maskη, List.lookup_cons, List.lookup_nil, str_beq, decide_true, decide_false, Option.map_some, Option.some.injEq, encP, hh4]
  exact p_ret (d := .bool true) (b := true) (m := true) (by simp only [List.length_cons, List.length_nil, if_true, V_s, V_e, V_t, V_j, V_ok, ev_cN, ev_cB, ev_cI, ev_cS, ev_nm, ev_bin, ev_tup, ev_lst, ev_sl, ev_ixC, ev_ixN, ev_ixB, ev_ixK, ev_call, ev_comp, tv_not, tv_lt, tv_le, tv_gt, tv_ge, tv_eq, tv_ne, tv_ni, tv_nm, tv_call, jv_c, jv_f, fmt_ok, it_nm, it_bin, it_sub, nm_eq, nm_ne, nm_drop, Rz.bind_ok, Rz.bind_err, Rz.strict, sq_l, sq_t, List.length_map, List.length_append, scal, Bool.false_or, Bool.true_or, Bool.or_false, Bool.or_true, Bool.and_true, Bool.true_and, Bool.and_false, Bool.false_and, Bool.and_self, Bool.or_self, argsV, pt_n, pt_s, cd_n, cd_1, im_l, im_t, item0, item1, item2, elemV, sc, encD, encDs, encH, ne_str, eq_str, lt_int, le_int, gt_int, ge_int, eq_int, ne_int, eq_strs, ne_strs, ne_opt, ne_opt_word, ne_str_strs, ne_strs_str, ne_deeds, ne_hunks, notin_kinds, notin_kindsT, add_int, sub_int, mod_int, div3, div4, callV, listV, flat_str, slice_map, append_str, snoc_str, List.all_cons, List.all_nil, List.map_cons, List.map_nil, Bool.false_eq_true, if_false, ofString_inj, ne_eq, String.reduceEq, not_false_eq_true, Bool.not_true, Bool.not_false, reduceCtorEq, and_true, true_and, and_self, small, Nat.reduceAdd, Nat.reduceLeDiff, bindPV, maskη, List.lookup_cons, List.lookup_nil, str_beq, decide_true, decide_false, Option.map_some, Option.some.injEq, encP]) rfl
end

section
variable {Θ : VThy}

structure L5 (Θ : VThy) (ns : List Int) (xs : List Str) (hs : List (Int × Int × List (Str × Str))) (front : List Str) (done : Nat) (η : VEnv) : Prop where
  script : nameV Θ (Str.ofString "script") η = .ok ⟨.list (ns.map .int), false, false⟩
  text : nameV Θ (Str.ofString "text") η = .ok ⟨.list (xs.map .str), false, true⟩
  front : nameV Θ (Str.ofString "front") η = .ok ⟨.list (front.map .str), false, true⟩
  done : nameV Θ (Str.ofString "done") η = .ok ⟨.int done, true, true⟩
  hunks : ∃ m, η (Str.ofString "hunks") = some ⟨.list (hs.map encH), true, m⟩
noncomputable def L5Inv (Θ : VThy) (ns : List Int) (xs : List Str) (k : Nat) (η : VEnv) : Prop :=
  ∃ (hs : List (Int × Int × List (Str × Str))) (front : List Str) (done : Nat), hs.foldlM (fun s h => applyT xs h s) (0, []) = some (done, front) ∧ done ≤ xs.length ∧ hs.length + k ≤ 4 ∧ (∀ h ∈ hs, h.2.2.length ≤ 3) ∧ front.length + 10 * k ≤ 60 ∧ L5 Θ ns xs hs front done η

theorem sound_step {xs front : List Str} {done st : Nat} {ds : List (Str × Str)} (hds : ∀ d ∈ ds, kn d.1 = true) (h1 : done ≤ st) (h2 : st ≤ xs.length) (hp : src ds <+: xs.drop st) :
    applyT xs ((st : Int), ((front ++ (xs.drop done).take (st - done)).length : Int), ds) (done, front) = some (st + (src ds).length, front ++ (xs.drop done).take (st - done) ++ tgt ds) := by
  unfold applyT
  dsimp only
  rw [if_neg (by omega)]
  simp only [Int.toNat_natCast]
  rw [if_neg (by simp), if_pos ⟨List.all_eq_true.mpr hds, List.prefix_iff_eq_take.mp hp⟩]

theorem law_turn (n : Nat) (ns : List Int) (L : List Str) (F : Fns05 Θ ns L) (xs : List Str) (hx : xs.length ≤ 6) (i k : Nat) (hi : i < 3) (η : VEnv) (Q : Out → Prop) (hinv : L5Inv Θ ns xs (k + 1) η) (h : ∀ η', L5Inv Θ ns xs k η' → Q (.next η')) :
    Post (seqV (V Θ (n + 15)).s (loopOf (bodyOf pw 15) 4) (updV η (Str.ofString "number") ⟨encN i, false, scal (encN i) || true⟩)) Q := by
  obtain ⟨φc, hc1, hc2⟩ := F.cell.cell
  obtain ⟨φd, hd1, hd2⟩ := F.deeds
  obtain ⟨φw, hw1, hw2⟩ := F.wo.wo
  obtain ⟨hs, front, done, hf, hdn, hlen, hdl, hfl, E⟩ := hinv
  obtain ⟨mh, hh⟩ := E.hunks
  unfold loopOf
  (unfold bodyOf pw PySem.Challenge.pw_pd_weave_3_05; dsimp only [List.getElem?_cons_succ, List.getElem?_cons_zero])
  obtain ⟨r, hr, hr12⟩ := fmod_nat (cellD ns (8 + 4 * i)) 12 (by decide)
  have hr : (cellD ns (8 + 4 * i)).fmod 12 = r := hr
  have h2k := hc2 (8 + 4 * i) (by omega)
  simp only [Int.natCast_add, Int.natCast_mul, Int.cast_ofNat_Int] at h2k
  have hm3 : (r : Int).fmod 3 = ((r % 3 : Nat) : Int) := fmod_cast r 3
  have hd3 : (r : Int).fdiv 3 = ((r / 3 : Nat) : Int) := fdiv_nat r 3
  have hi4 : ((i : Int)).natAbs < 2 ^ 20 := by rw [Int.natAbs_natCast]; omega
  refine p_asgS (d := .int r) (b := true) (m := true) ?_ rfl ?_
  · simp only [List.length_cons, List.length_nil, if_true, V_s, V_e, V_t, V_j, V_ok, ev_cN, ev_cB, ev_cI, ev_cS, ev_nm, ev_bin, ev_tup, ev_lst, ev_sl, ev_ixC, ev_ixN, ev_ixB, ev_ixK, ev_call, ev_comp, tv_not, tv_lt, tv_le, tv_gt, tv_ge, tv_eq, tv_ne, tv_ni, tv_nm, tv_call, jv_c, jv_f, fmt_ok, it_nm, it_bin, it_sub, nm_eq, nm_ne, nm_drop, Rz.bind_ok, Rz.bind_err, Rz.strict, sq_l, sq_t, List.length_map, List.length_append, scal, Bool.false_or, Bool.true_or, Bool.or_false, Bool.or_true, Bool.and_true, Bool.true_and, Bool.and_false, Bool.false_and, Bool.and_self, Bool.or_self, argsV, pt_n, pt_s, cd_n, cd_1, im_l, im_t, item0, item1, item2, elemV, sc, encD, encDs, encH, ne_str, eq_str, lt_int, le_int, gt_int, ge_int, eq_int, ne_int, eq_strs, ne_strs, ne_opt, ne_opt_word, ne_str_strs, ne_strs_str, ne_deeds, ne_hunks, notin_kinds, notin_kindsT, add_int, sub_int, mod_int, div3, div4, callV, listV, flat_str, slice_map, append_str, snoc_str, List.all_cons, List.all_nil, List.map_cons, List.map_nil, Bool.false_eq_true, if_false, ofString_inj, ne_eq, String.reduceEq, not_false_eq_true, Bool.not_true, Bool.not_false, reduceCtorEq, and_true, true_and, and_self, small, Nat.reduceAdd, Nat.reduceLeDiff, bindPV, maskη, List.lookup_cons, List.lookup_nil, str_beq, decide_true, decide_false, Option.map_some, Option.some.injEq, encP, encN, E.script, hc1]
    rw [mul_int (by decide) hi4]
    simp only [List.length_cons, List.length_nil, if_true, V_s, V_e, V_t, V_j, V_ok, ev_cN, ev_cB, ev_cI, ev_cS, ev_nm, ev_bin, ev_tup, ev_lst, ev_sl, ev_ixC, ev_ixN, ev_ixB, ev_ixK, ev_call, ev_comp, tv_not, tv_lt, tv_le, tv_gt, tv_ge, tv_eq, tv_ne, tv_ni, tv_nm, tv_call, jv_c, jv_f, fmt_ok, it_nm, it_bin, it_sub, nm_eq, nm_ne, nm_drop, Rz.bind_ok, Rz.bind_err, Rz.strict, sq_l, sq_t, List.length_map, List.length_append, scal, Bool.false_or, Bool.true_or, Bool.or_false, Bool.or_true, Bool.and_true, Bool.true_and, Bool.and_false, Bool.false_and, Bool.and_self, Bool.or_self, argsV, pt_n, pt_s, cd_n, cd_1, im_l, im_t, item0, item1, item2, elemV, sc, encD, encDs, encH, ne_str, eq_str, lt_int, le_int, gt_int, ge_int, eq_int, ne_int, eq_strs, ne_strs, ne_opt, ne_opt_word, ne_str_strs, ne_strs_str, ne_deeds, ne_hunks, notin_kinds, notin_kindsT, add_int, sub_int, mod_int, div3, div4, callV, listV, flat_str, slice_map, append_str, snoc_str, List.all_cons, List.all_nil, List.map_cons, List.map_nil, Bool.false_eq_true, if_false, ofString_inj, ne_eq, String.reduceEq, not_false_eq_true, Bool.not_true, Bool.not_false, reduceCtorEq, and_true, true_and, and_self, small, Nat.reduceAdd, Nat.reduceLeDiff, bindPV, maskη, List.lookup_cons, List.lookup_nil, str_beq, decide_true, decide_false, Option.map_some, Option.some.injEq, encP, h2k]
    rw [mod_int _ _ _ _ _ _ (by decide), hr]
    rfl
  refine p_asgS (d := .int (min xs.length (done + r % 3) : Nat)) (b := true) (m := true) ?_ rfl ?_
  · simp only [List.length_cons, List.length_nil, if_true, V_s, V_e, V_t, V_j, V_ok, ev_cN, ev_cB, ev_cI, ev_cS, ev_nm, ev_bin, ev_tup, ev_lst, ev_sl, ev_ixC, ev_ixN, ev_ixB, ev_ixK, ev_call, ev_comp, tv_not, tv_lt, tv_le, tv_gt, tv_ge, tv_eq, tv_ne, tv_ni, tv_nm, tv_call, jv_c, jv_f, fmt_ok, it_nm, it_bin, it_sub, nm_eq, nm_ne, nm_drop, Rz.bind_ok, Rz.bind_err, Rz.strict, sq_l, sq_t, List.length_map, List.length_append, scal, Bool.false_or, Bool.true_or, Bool.or_false, Bool.or_true, Bool.and_true, Bool.true_and, Bool.and_false, Bool.false_and, Bool.and_self, Bool.or_self, argsV, pt_n, pt_s, cd_n, cd_1, im_l, im_t, item0, item1, item2, elemV, sc, encD, encDs, encH, ne_str, eq_str, lt_int, le_int, gt_int, ge_int, eq_int, ne_int, eq_strs, ne_strs, ne_opt, ne_opt_word, ne_str_strs, ne_strs_str, ne_deeds, ne_hunks, notin_kinds, notin_kindsT, add_int, sub_int, mod_int, div3, div4, callV, listV, flat_str, slice_map, append_str, snoc_str, List.all_cons, List.all_nil, List.map_cons, List.map_nil, Bool.false_eq_true, if_false, ofString_inj, ne_eq, String.reduceEq, not_false_eq_true, Bool.not_true, Bool.not_false, reduceCtorEq, and_true, true_and, and_self, small, Nat.reduceAdd, Nat.reduceLeDiff, bindPV, maskη, List.lookup_cons, List.lookup_nil, str_beq, decide_true, decide_false, Option.map_some, Option.some.injEq, encP, E.text, E.done, F.min, F.len]
    rw [len_lst (by simp only [List.length_map]; unfold small; omega), mod_int _ _ _ _ _ _ (by decide), hm3]
    simp only [List.length_cons, List.length_nil, if_true, V_s, V_e, V_t, V_j, V_ok, ev_cN, ev_cB, ev_cI, ev_cS, ev_nm, ev_bin, ev_tup, ev_lst, ev_sl, ev_ixC, ev_ixN, ev_ixB, ev_ixK, ev_call, ev_comp, tv_not, tv_lt, tv_le, tv_gt, tv_ge, tv_eq, tv_ne, tv_ni, tv_nm, tv_call, jv_c, jv_f, fmt_ok, it_nm, it_bin, it_sub, nm_eq, nm_ne, nm_drop, Rz.bind_ok, Rz.bind_err, Rz.strict, sq_l, sq_t, List.length_map, List.length_append, scal, Bool.false_or, Bool.true_or, Bool.or_false, Bool.or_true, Bool.and_true, Bool.true_and, Bool.and_false, Bool.false_and, Bool.and_self, Bool.or_self, argsV, pt_n, pt_s, cd_n, cd_1, im_l, im_t, item0, item1, item2, elemV, sc, encD, encDs, encH, ne_str, eq_str, lt_int, le_int, gt_int, ge_int, eq_int, ne_int, eq_strs, ne_strs, ne_opt, ne_opt_word, ne_str_strs, ne_strs_str, ne_deeds, ne_hunks, notin_kinds, notin_kindsT, add_int, sub_int, mod_int, div3, div4, callV, listV, flat_str, slice_map, append_str, snoc_str, List.all_cons, List.all_nil, List.map_cons, List.map_nil, Bool.false_eq_true, if_false, ofString_inj, ne_eq, String.reduceEq, not_false_eq_true, Bool.not_true, Bool.not_false, reduceCtorEq, and_true, true_and, and_self, small, Nat.reduceAdd, Nat.reduceLeDiff, bindPV, maskη, List.lookup_cons, List.lookup_nil, str_beq, decide_true, decide_false, Option.map_some, Option.some.injEq, encP]
    rw [min_int, show min (xs.length : Int) ((done : Int) + ((r % 3 : Nat) : Int)) = ((min xs.length (done + r % 3) : Nat) : Int) from by omega]
    rfl
  have hst1 : done ≤ min xs.length (done + r % 3) := by omega
  have hst2 : min xs.length (done + r % 3) ≤ xs.length := by omega
  generalize min xs.length (done + r % 3) = st at hst1 hst2 ⊢
  obtain ⟨ds, hk, hds, hpre, hw⟩ := hd2 (9 + 4 * i) xs st (r / 3) (by omega) hx (by omega) (by omega)
  simp only [Int.natCast_add, Int.natCast_mul, Int.cast_ofNat_Int] at hw
  refine p_asgL (ds := ds.map encD) (m := true) ?_ ?_
  · simp only [List.length_cons, List.length_nil, if_true, V_s, V_e, V_t, V_j, V_ok, ev_cN, ev_cB, ev_cI, ev_cS, ev_nm, ev_bin, ev_tup, ev_lst, ev_sl, ev_ixC, ev_ixN, ev_ixB, ev_ixK, ev_call, ev_comp, tv_not, tv_lt, tv_le, tv_gt, tv_ge, tv_eq, tv_ne, tv_ni, tv_nm, tv_call, jv_c, jv_f, fmt_ok, it_nm, it_bin, it_sub, nm_eq, nm_ne, nm_drop, Rz.bind_ok, Rz.bind_err, Rz.strict, sq_l, sq_t, List.length_map, List.length_append, scal, Bool.false_or, Bool.true_or, Bool.or_false, Bool.or_true, Bool.and_true, Bool.true_and, Bool.and_false, Bool.false_and, Bool.and_self, Bool.or_self, argsV, pt_n, pt_s, cd_n, cd_1, im_l, im_t, item0, item1, item2, elemV, sc, encD, encDs, encH, ne_str, eq_str, lt_int, le_int, gt_int, ge_int, eq_int, ne_int, eq_strs, ne_strs, ne_opt, ne_opt_word, ne_str_strs, ne_strs_str, ne_deeds, ne_hunks, notin_kinds, notin_kindsT, add_int, sub_int, mod_int, div3, div4, callV, listV, flat_str, slice_map, append_str, snoc_str, List.all_cons, List.all_nil, List.map_cons, List.map_nil, Bool.false_eq_true, if_false, ofString_inj, ne_eq, String.reduceEq, not_false_eq_true, Bool.not_true, Bool.not_false, reduceCtorEq, and_true, true_and, and_self, small, Nat.reduceAdd, Nat.reduceLeDiff, bindPV, maskη, List.lookup_cons, List.lookup_nil, str_beq, decide_true, decide_false, Option.map_some, Option.some.injEq, encP, encN, E.script, E.text, hd1]
    rw [mul_int (by decide) hi4]
    simp only [List.length_cons, List.length_nil, if_true, V_s, V_e, V_t, V_j, V_ok, ev_cN, ev_cB, ev_cI, ev_cS, ev_nm, ev_bin, ev_tup, ev_lst, ev_sl, ev_ixC, ev_ixN, ev_ixB, ev_ixK, ev_call, ev_comp, tv_not, tv_lt, tv_le, tv_gt, tv_ge, tv_eq, tv_ne, tv_ni, tv_nm, tv_call, jv_c, jv_f, fmt_ok, it_nm, it_bin, it_sub, nm_eq, nm_ne, nm_drop, Rz.bind_ok, Rz.bind_err, Rz.strict, sq_l, sq_t, List.length_map, List.length_append, scal, Bool.false_or, Bool.true_or, Bool.or_false, Bool.or_true, Bool.and_true, Bool.true_and, Bool.and_false, Bool.false_and, Bool.and_self, Bool.or_self, argsV, pt_n, pt_s, cd_n, cd_1, im_l, im_t, item0, item1, item2, elemV, sc, encD, encDs, encH, ne_str, eq_str, lt_int, le_int, gt_int, ge_int, eq_int, ne_int, eq_strs, ne_strs, ne_opt, ne_opt_word, ne_str_strs, ne_strs_str, ne_deeds, ne_hunks, notin_kinds, notin_kindsT, add_int, sub_int, mod_int, div3, div4, callV, listV, flat_str, slice_map, append_str, snoc_str, List.all_cons, List.all_nil, List.map_cons, List.map_nil, Bool.false_eq_true, if_false, ofString_inj, ne_eq, String.reduceEq, not_false_eq_true, Bool.not_true, Bool.not_false, reduceCtorEq, and_true, true_and, and_self, small, Nat.reduceAdd, Nat.reduceLeDiff, bindPV, maskη, List.lookup_cons, List.lookup_nil, str_beq, decide_true, decide_false, Option.map_some, Option.some.injEq, encP, hd3, hw]
  have hcl : ((xs.drop done).take (st - done)).length ≤ 6 := by rw [List.length_take, List.length_drop]; omega
  refine p_asgL (ds := (front ++ (xs.drop done).take (st - done)).map .str) (m := true) ?_ ?_
  · simp only [List.length_cons, List.length_nil, if_true, V_s, V_e, V_t, V_j, V_ok, ev_cN, ev_cB, ev_cI, ev_cS, ev_nm, ev_bin, ev_tup, ev_lst, ev_sl, ev_ixC, ev_ixN, ev_ixB, ev_ixK, ev_call, ev_comp, tv_not, tv_lt, tv_le, tv_gt, tv_ge, tv_eq, tv_ne, tv_ni, tv_nm, tv_call, jv_c, jv_f, fmt_ok, it_nm, it_bin, it_sub, nm_eq, nm_ne, nm_drop, Rz.bind_ok, Rz.bind_err, Rz.strict, sq_l, sq_t, List.length_map, List.length_append, scal, Bool.false_or, Bool.true_or, Bool.or_false, Bool.or_true, Bool.and_true, Bool.true_and, Bool.and_false, Bool.false_and, Bool.and_self, Bool.or_self, argsV, pt_n, pt_s, cd_n, cd_1, im_l, im_t, item0, item1, item2, elemV, sc, encD, encDs, encH, ne_str, eq_str, lt_int, le_int, gt_int, ge_int, eq_int, ne_int, eq_strs, ne_strs, ne_opt, ne_opt_word, ne_str_strs, ne_strs_str, ne_deeds, ne_hunks, notin_kinds, notin_kindsT, add_int, sub_int, mod_int, div3, div4, callV, listV, flat_str, slice_map, append_str, snoc_str, List.all_cons, List.all_nil, List.map_cons, List.map_nil, Bool.false_eq_true, if_false, ofString_inj, ne_eq, String.reduceEq, not_false_eq_true, Bool.not_true, Bool.not_false, reduceCtorEq, and_true, true_and, and_self, small, Nat.reduceAdd, Nat.reduceLeDiff, bindPV, maskη, List.lookup_cons, List.lookup_nil, str_beq, decide_true, decide_false, Option.map_some, Option.some.injEq, encP, E.text, E.done, E.front]
    rw [cut_strs rfl rfl (by unfold small; omega), slice_cut]
    simp only [List.length_cons, List.length_nil, if_true, V_s, V_e, V_t, V_j, V_ok, ev_cN, ev_cB, ev_cI, ev_cS, ev_nm, ev_bin, ev_tup, ev_lst, ev_sl, ev_ixC, ev_ixN, ev_ixB, ev_ixK, ev_call, ev_comp, tv_not, tv_lt, tv_le, tv_gt, tv_ge, tv_eq, tv_ne, tv_ni, tv_nm, tv_call, jv_c, jv_f, fmt_ok, it_nm, it_bin, it_sub, nm_eq, nm_ne, nm_drop, Rz.bind_ok, Rz.bind_err, Rz.strict, sq_l, sq_t, List.length_map, List.length_append, scal, Bool.false_or, Bool.true_or, Bool.or_false, Bool.or_true, Bool.and_true, Bool.true_and, Bool.and_false, Bool.false_and, Bool.and_self, Bool.or_self, argsV, pt_n, pt_s, cd_n, cd_1, im_l, im_t, item0, item1, item2, elemV, sc, encD, encDs, encH, ne_str, eq_str, lt_int, le_int, gt_int, ge_int, eq_int, ne_int, eq_strs, ne_strs, ne_opt, ne_opt_word, ne_str_strs, ne_strs_str, ne_deeds, ne_hunks, notin_kinds, notin_kindsT, add_int, sub_int, mod_int, div3, div4, callV, listV, flat_str, slice_map, append_str, snoc_str, List.all_cons, List.all_nil, List.map_cons, List.map_nil, Bool.false_eq_true, if_false, ofString_inj, ne_eq, String.reduceEq, not_false_eq_true, Bool.not_true, Bool.not_false, reduceCtorEq, and_true, true_and, and_self, small, Nat.reduceAdd, Nat.reduceLeDiff, bindPV, maskη, List.lookup_cons, List.lookup_nil, str_beq, decide_true, decide_false, Option.map_some, Option.some.injEq, encP]
    rw [add_strs (by unfold small; omega)]
  have hstep := sound_step (front := front) hk hst1 hst2 hpre
  have hsl := src_len ds
  have htl := tgt_len ds
  have hfl1 : (front ++ (xs.drop done).take (st - done)).length ≤ front.length + 6 := by rw [List.length_append]; omega
  generalize front ++ (xs.drop done).take (st - done) = front1 at hstep hfl1 ⊢
  have hsx : st + (src ds).length ≤ xs.length := by
    have := hpre.length_le
    rw [List.length_drop] at this
    omega
  refine p_appN (ds := hs.map encH) (m := mh) (d := encH ((st : Int), (front1.length : Int), ds)) (b := false) (mi := true) (by simp only [upd_ne, ne_eq, String.reduceEq, not_false_eq_true, hh]) ?_ ?_ (by simp [small]; omega) ?_
  · simp only [List.length_cons, List.length_nil, if_true, V_s, V_e, V_t, V_j, V_ok, ev_cN, ev_cB, ev_cI, ev_cS, ev_nm, ev_bin, ev_tup, ev_lst, ev_sl, ev_ixC, ev_ixN, ev_ixB, ev_ixK, ev_call, ev_comp, tv_not, tv_lt, tv_le, tv_gt, tv_ge, tv_eq, tv_ne, tv_ni, tv_nm, tv_call, jv_c, jv_f, fmt_ok, it_nm, it_bin, it_sub, nm_eq, nm_ne, nm_drop, Rz.bind_ok, Rz.bind_err, Rz.strict, sq_l, sq_t, List.length_map, List.length_append, scal, Bool.false_or, Bool.true_or, Bool.or_false, Bool.or_true, Bool.and_true, Bool.true_and, Bool.and_false, Bool.false_and, Bool.and_self, Bool.or_self, argsV, pt_n, pt_s, cd_n, cd_1, im_l, im_t, item0, item1, item2, elemV, sc, encD, encDs, encH, ne_str, eq_str, lt_int, le_int, gt_int, ge_int, eq_int, ne_int, eq_strs, ne_strs, ne_opt, ne_opt_word, ne_str_strs, ne_strs_str, ne_deeds, ne_hunks, notin_kinds, notin_kindsT, add_int, sub_int, mod_int, div3, div4, callV, listV, flat_str, slice_map, append_str, snoc_str, List.all_cons, List.all_nil, List.map_cons, List.map_nil, Bool.false_eq_true, if_false, ofString_inj, ne_eq, String.reduceEq, not_false_eq_true, Bool.not_true, Bool.not_false, reduceCtorEq, and_true, true_and, and_self, small, Nat.reduceAdd, Nat.reduceLeDiff, bindPV, maskη, List.lookup_cons, List.lookup_nil, str_beq, decide_true, decide_false, Option.map_some, Option.some.injEq, encP, F.len]
    rw [len_lst (by simp only [List.length_map]; unfold small; omega)]
    simp only [List.length_cons, List.length_nil, if_true, V_s, V_e, V_t, V_j, V_ok, ev_cN, ev_cB, ev_cI, ev_cS, ev_nm, ev_bin, ev_tup, ev_lst, ev_sl, ev_ixC, ev_ixN, ev_ixB, ev_ixK, ev_call, ev_comp, tv_not, tv_lt, tv_le, tv_gt, tv_ge, tv_eq, tv_ne, tv_ni, tv_nm, tv_call, jv_c, jv_f, fmt_ok, it_nm, it_bin, it_sub, nm_eq, nm_ne, nm_drop, Rz.bind_ok, Rz.bind_err, Rz.strict, sq_l, sq_t, List.length_map, List.length_append, scal, Bool.false_or, Bool.true_or, Bool.or_false, Bool.or_true, Bool.and_true, Bool.true_and, Bool.and_false, Bool.false_and, Bool.and_self, Bool.or_self, argsV, pt_n, pt_s, cd_n, cd_1, im_l, im_t, item0, item1, item2, elemV, sc, encD, encDs, encH, ne_str, eq_str, lt_int, le_int, gt_int, ge_int, eq_int, ne_int, eq_strs, ne_strs, ne_opt, ne_opt_word, ne_str_strs, ne_strs_str, ne_deeds, ne_hunks, notin_kinds, notin_kindsT, add_int, sub_int, mod_int, div3, div4, callV, listV, flat_str, slice_map, append_str, snoc_str, List.all_cons, List.all_nil, List.map_cons, List.map_nil, Bool.false_eq_true, if_false, ofString_inj, ne_eq, String.reduceEq, not_false_eq_true, Bool.not_true, Bool.not_false, reduceCtorEq, and_true, true_and, and_self, small, Nat.reduceAdd, Nat.reduceLeDiff, bindPV, maskη, List.lookup_cons, List.lookup_nil, str_beq, decide_true, decide_false, Option.map_some, Option.some.injEq, encP]
  · simp only [V_m, mv_nm, mv_cst, mv_bin, mv_tup, mv_lst, mv_sub, mv_call, List.any_cons, List.any_nil, ofString_inj, String.reduceEq, decide_false, Bool.or_false]
  intro η₁ kp
  rw [encH_snoc]
  have e1 : nameV Θ (Str.ofString "script") η₁ = .ok ⟨.list (ns.map .int), false, false⟩ := by rw [kp]; simp only [List.length_cons, List.length_nil, if_true, V_s, V_e, V_t, V_j, V_ok, ev_cN, ev_cB, ev_cI, ev_cS, ev_nm, ev_bin, ev_tup, ev_lst, ev_sl, ev_ixC, ev_ixN, ev_ixB, ev_ixK, ev_call, ev_comp, tv_not, tv_lt, tv_le, tv_gt, tv_ge, tv_eq, tv_ne, tv_ni, tv_nm, tv_call, jv_c, jv_f, fmt_ok, it_nm, it_bin, it_sub, nm_eq, nm_ne, nm_drop, Rz.bind_ok, Rz.bind_err, Rz.strict, sq_l, sq_t, List.length_map, List.length_append, scal, Bool.false_or, Bool.true_or, Bool.or_false, Bool.or_true, Bool.and_true, Bool.true_and, Bool.and_false, Bool.false_and, Bool.and_self, Bool.or_self, argsV, pt_n, pt_s, cd_n, cd_1, im_l, im_t, item0, item1, item2, elemV, sc, encD, encDs, encH, ne_str, eq_str, lt_int, le_int, gt_int, ge_int, eq_int, ne_int, eq_strs, ne_strs, ne_opt, ne_opt_word, ne_str_strs, ne_strs_str, ne_deeds, ne_hunks, notin_kinds, notin_kindsT, add_int, sub_int, mod_int, div3, div4, callV, listV, flat_str, slice_map, append_str, snoc_str, List.all_cons, List.all_nil, List.map_cons, List.map_nil, Bool.false_eq_true, if_false, ofString_inj, ne_eq, String.reduceEq, not_false_eq_true, Bool.not_true, Bool.not_false, reduceCtorEq, and_true, true_and, and_self, small, Nat.reduceAdd, Nat.reduceLeDiff, bindPV, maskη, List.lookup_cons, List.lookup_nil, str_beq, decide_true, decide_false, Option.map_some, Option.some.injEq, encP, E.script]
  have e2 : nameV Θ (Str.ofString "text") η₁ = .ok ⟨.list (xs.map .str), false, true⟩ := by rw [kp]; simp only [List.length_cons, List.length_nil, if_true, V_s, V_e, V_t, V_j, V_ok, ev_cN, ev_cB, ev_cI, ev_cS, ev_nm, ev_bin, ev_tup, ev_lst, ev_sl, ev_ixC, ev_ixN, ev_ixB, ev_ixK, ev_call, ev_comp, tv_not, tv_lt, tv_le, tv_gt, tv_ge, tv_eq, tv_ne, tv_ni, tv_nm, tv_call, jv_c, jv_f, fmt_ok, it_nm, it_bin, it_sub, nm_eq, nm_ne, nm_drop, Rz.bind_ok, Rz.bind_err, Rz.strict, sq_l, sq_t, List.length_map, List.length_append, scal, Bool.false_or, Bool.true_or, Bool.or_false, Bool.or_true, Bool.and_true, Bool.true_and, Bool.and_false, Bool.false_and, Bool.and_self, Bool.or_self, argsV, pt_n, pt_s, cd_n, cd_1, im_l, im_t, item0, item1, item2, elemV, sc, encD, encDs, encH, ne_str, eq_str, lt_int, le_int, gt_int, ge_int, eq_int, ne_int, eq_strs, ne_strs, ne_opt, ne_opt_word, ne_str_strs, ne_strs_str, ne_deeds, ne_hunks, notin_kinds, notin_kindsT, add_int, sub_int, mod_int, div3, div4, callV, listV, flat_str, slice_map, append_str, snoc_str, List.all_cons, List.all_nil, List.map_cons, List.map_nil, Bool.false_eq_true, if_false, ofString_inj, ne_eq, String.reduceEq, not_false_eq_true, Bool.not_true, Bool.not_false, reduceCtorEq, and_true, true_and, and_self, small, Nat.reduceAdd, Nat.reduceLeDiff, bindPV, maskη, List.lookup_cons, List.lookup_nil, str_beq, decide_true, decide_false, Option.map_some, Option.some.injEq, encP, E.text]
  have e3 : nameV Θ (Str.ofString "front") η₁ = .ok ⟨.list (front1.map .str), false, true⟩ := by rw [kp]; simp only [List.length_cons, List.length_nil, if_true, V_s, V_e, V_t, V_j, V_ok, ev_cN, ev_cB, ev_cI, ev_cS, ev_nm, ev_bin, ev_tup, ev_lst, ev_sl, ev_ixC, ev_ixN, ev_ixB, ev_ixK, ev_call, ev_comp, tv_not, tv_lt, tv_le, tv_gt, tv_ge, tv_eq, tv_ne, tv_ni, tv_nm, tv_call, jv_c, jv_f, fmt_ok, it_nm, it_bin, it_sub, nm_eq, nm_ne, nm_drop, Rz.bind_ok, Rz.bind_err, Rz.strict, sq_l, sq_t, List.length_map, List.length_append, scal, Bool.false_or, Bool.true_or, Bool.or_false, Bool.or_true, Bool.and_true, Bool.true_and, Bool.and_false, Bool.false_and, Bool.and_self, Bool.or_self, argsV, pt_n, pt_s, cd_n, cd_1, im_l, im_t, item0, item1, item2, elemV, sc, encD, encDs, encH, ne_str, eq_str, lt_int, le_int, gt_int, ge_int, eq_int, ne_int, eq_strs, ne_strs, ne_opt, ne_opt_word, ne_str_strs, ne_strs_str, ne_deeds, ne_hunks, notin_kinds, notin_kindsT, add_int, sub_int, mod_int, div3, div4, callV, listV, flat_str, slice_map, append_str, snoc_str, List.all_cons, List.all_nil, List.map_cons, List.map_nil, Bool.false_eq_true, if_false, ofString_inj, ne_eq, String.reduceEq, not_false_eq_true, Bool.not_true, Bool.not_false, reduceCtorEq, and_true, true_and, and_self, small, Nat.reduceAdd, Nat.reduceLeDiff, bindPV, maskη, List.lookup_cons, List.lookup_nil, str_beq, decide_true, decide_false, Option.map_some, Option.some.injEq, encP]
  have e4 : nameV Θ (Str.ofString "sound") η₁ = .ok ⟨.list (ds.map encD), false, true⟩ := by rw [kp]; simp only [List.length_cons, List.length_nil, if_true, V_s, V_e, V_t, V_j, V_ok, ev_cN, ev_cB, ev_cI, ev_cS, ev_nm, ev_bin, ev_tup, ev_lst, ev_sl, ev_ixC, ev_ixN, ev_ixB, ev_ixK, ev_call, ev_comp, tv_not, tv_lt, tv_le, tv_gt, tv_ge, tv_eq, tv_ne, tv_ni, tv_nm, tv_call, jv_c, jv_f, fmt_ok, it_nm, it_bin, it_sub, nm_eq, nm_ne, nm_drop, Rz.bind_ok, Rz.bind_err, Rz.strict, sq_l, sq_t, List.length_map, List.length_append, scal, Bool.false_or, Bool.true_or, Bool.or_false, Bool.or_true, Bool.and_true, Bool.true_and, Bool.and_false, Bool.false_and, Bool.and_self, Bool.or_self, argsV, pt_n, pt_s, cd_n, cd_1, im_l, im_t, item0, item1, item2, elemV, sc, encD, encDs, encH, ne_str, eq_str, lt_int, le_int, gt_int, ge_int, eq_int, ne_int, eq_strs, ne_strs, ne_opt, ne_opt_word, ne_str_strs, ne_strs_str, ne_deeds, ne_hunks, notin_kinds, notin_kindsT, add_int, sub_int, mod_int, div3, div4, callV, listV, flat_str, slice_map, append_str, snoc_str, List.all_cons, List.all_nil, List.map_cons, List.map_nil, Bool.false_eq_true, if_false, ofString_inj, ne_eq, String.reduceEq, not_false_eq_true, Bool.not_true, Bool.not_false, reduceCtorEq, and_true, true_and, and_self, small, Nat.reduceAdd, Nat.reduceLeDiff, bindPV, maskη, List.lookup_cons, List.lookup_nil, str_beq, decide_true, decide_false, Option.map_some, Option.some.injEq, encP]
  have e5 : nameV Θ (Str.ofString "start") η₁ = .ok ⟨.int st, true, true⟩ := by rw [kp]; simp only [List.length_cons, List.length_nil, if_true, V_s, V_e, V_t, V_j, V_ok, ev_cN, ev_cB, ev_cI, ev_cS, ev_nm, ev_bin, ev_tup, ev_lst, ev_sl, ev_ixC, ev_ixN, ev_ixB, ev_ixK, ev_call, ev_comp, tv_not, tv_lt, tv_le, tv_gt, tv_ge, tv_eq, tv_ne, tv_ni, tv_nm, tv_call, jv_c, jv_f, fmt_ok, it_nm, it_bin, it_sub, nm_eq, nm_ne, nm_drop, Rz.bind_ok, Rz.bind_err, Rz.strict, sq_l, sq_t, List.length_map, List.length_append, scal, Bool.false_or, Bool.true_or, Bool.or_false, Bool.or_true, Bool.and_true, Bool.true_and, Bool.and_false, Bool.false_and, Bool.and_self, Bool.or_self, argsV, pt_n, pt_s, cd_n, cd_1, im_l, im_t, item0, item1, item2, elemV, sc, encD, encDs, encH, ne_str, eq_str, lt_int, le_int, gt_int, ge_int, eq_int, ne_int, eq_strs, ne_strs, ne_opt, ne_opt_word, ne_str_strs, ne_strs_str, ne_deeds, ne_hunks, notin_kinds, notin_kindsT, add_int, sub_int, mod_int, div3, div4, callV, listV, flat_str, slice_map, append_str, snoc_str, List.all_cons, List.all_nil, List.map_cons, List.map_nil, Bool.false_eq_true, if_false, ofString_inj, ne_eq, String.reduceEq, not_false_eq_true, Bool.not_true, Bool.not_false, reduceCtorEq, and_true, true_and, and_self, small, Nat.reduceAdd, Nat.reduceLeDiff, bindPV, maskη, List.lookup_cons, List.lookup_nil, str_beq, decide_true, decide_false, Option.map_some, Option.some.injEq, encP]
  clear kp
  have hwa := hw2 ds (Str.ofString "add") (by omega)
  have hwd := hw2 ds (Str.ofString "del") (by omega)
  refine p_asgL (ds := (front1 ++ tgt ds).map .str) (m := true) ?_ ?_
  · simp only [List.length_cons, List.length_nil, if_true, V_s, V_e, V_t, V_j, V_ok, ev_cN, ev_cB, ev_cI, ev_cS, ev_nm, ev_bin, ev_tup, ev_lst, ev_sl, ev_ixC, ev_ixN, ev_ixB, ev_ixK, ev_call, ev_comp, tv_not, tv_lt, tv_le, tv_gt, tv_ge, tv_eq, tv_ne, tv_ni, tv_nm, tv_call, jv_c, jv_f, fmt_ok, it_nm, it_bin, it_sub, nm_eq, nm_ne, nm_drop, Rz.bind_ok, Rz.bind_err, Rz.strict, sq_l, sq_t, List.length_map, List.length_append, scal, Bool.false_or, Bool.true_or, Bool.or_false, Bool.or_true, Bool.and_true, Bool.true_and, Bool.and_false, Bool.false_and, Bool.and_self, Bool.or_self, argsV, pt_n, pt_s, cd_n, cd_1, im_l, im_t, item0, item1, item2, elemV, sc, encD, encDs, encH, ne_str, eq_str, lt_int, le_int, gt_int, ge_int, eq_int, ne_int, eq_strs, ne_strs, ne_opt, ne_opt_word, ne_str_strs, ne_strs_str, ne_deeds, ne_hunks, notin_kinds, notin_kindsT, add_int, sub_int, mod_int, div3, div4, callV, listV, flat_str, slice_map, append_str, snoc_str, List.all_cons, List.all_nil, List.map_cons, List.map_nil, Bool.false_eq_true, if_false, ofString_inj, ne_eq, String.reduceEq, not_false_eq_true, Bool.not_true, Bool.not_false, reduceCtorEq, and_true, true_and, and_self, small, Nat.reduceAdd, Nat.reduceLeDiff, bindPV, maskη, List.lookup_cons, List.lookup_nil, str_beq, decide_true, decide_false, Option.map_some, Option.some.injEq, encP, e3, e4, hw1, hwd]
    rw [add_strs (ys := wo ds (Str.ofString "del")) (by show _ + (tgt ds).length ≤ _; unfold small; omega)]
    rfl
  refine p_asgS (d := .int (st + (src ds).length : Nat)) (b := true) (m := true) ?_ rfl ?_
  · simp only [List.length_cons, List.length_nil, if_true, V_s, V_e, V_t, V_j, V_ok, ev_cN, ev_cB, ev_cI, ev_cS, ev_nm, ev_bin, ev_tup, ev_lst, ev_sl, ev_ixC, ev_ixN, ev_ixB, ev_ixK, ev_call, ev_comp, tv_not, tv_lt, tv_le, tv_gt, tv_ge, tv_eq, tv_ne, tv_ni, tv_nm, tv_call, jv_c, jv_f, fmt_ok, it_nm, it_bin, it_sub, nm_eq, nm_ne, nm_drop, Rz.bind_ok, Rz.bind_err, Rz.strict, sq_l, sq_t, List.length_map, List.length_append, scal, Bool.false_or, Bool.true_or, Bool.or_false, Bool.or_true, Bool.and_true, Bool.true_and, Bool.and_false, Bool.false_and, Bool.and_self, Bool.or_self, argsV, pt_n, pt_s, cd_n, cd_1, im_l, im_t, item0, item1, item2, elemV, sc, encD, encDs, encH, ne_str, eq_str, lt_int, le_int, gt_int, ge_int, eq_int, ne_int, eq_strs, ne_strs, ne_opt, ne_opt_word, ne_str_strs, ne_strs_str, ne_deeds, ne_hunks, notin_kinds, notin_kindsT, add_int, sub_int, mod_int, div3, div4, callV, listV, flat_str, slice_map, append_str, snoc_str, List.all_cons, List.all_nil, List.map_cons, List.map_nil, Bool.false_eq_true, if_false, ofString_inj, ne_eq, String.reduceEq, not_false_eq_true, Bool.not_true, Bool.not_false, reduceCtorEq, and_true, true_and, and_self, small, Nat.reduceAdd, Nat.reduceLeDiff, bindPV, maskη, List.lookup_cons, List.lookup_nil, str_beq, decide_true, decide_false, Option.map_some, Option.some.injEq, encP, e4, e5, hw1, hwa, F.len]
    rw [len_lst (by simp only [List.length_map]; show (src ds).length ≤ _; unfold small; omega)]
    simp only [List.length_cons, List.length_nil, if_true, V_s, V_e, V_t, V_j, V_ok, ev_cN, ev_cB, ev_cI, ev_cS, ev_nm, ev_bin, ev_tup, ev_lst, ev_sl, ev_ixC, ev_ixN, ev_ixB, ev_ixK, ev_call, ev_comp, tv_not, tv_lt, tv_le, tv_gt, tv_ge, tv_eq, tv_ne, tv_ni, tv_nm, tv_call, jv_c, jv_f, fmt_ok, it_nm, it_bin, it_sub, nm_eq, nm_ne, nm_drop, Rz.bind_ok, Rz.bind_err, Rz.strict, sq_l, sq_t, List.length_map, List.length_append, scal, Bool.false_or, Bool.true_or, Bool.or_false, Bool.or_true, Bool.and_true, Bool.true_and, Bool.and_false, Bool.false_and, Bool.and_self, Bool.or_self, argsV, pt_n, pt_s, cd_n, cd_1, im_l, im_t, item0, item1, item2, elemV, sc, encD, encDs, encH, ne_str, eq_str, lt_int, le_int, gt_int, ge_int, eq_int, ne_int, eq_strs, ne_strs, ne_opt, ne_opt_word, ne_str_strs, ne_strs_str, ne_deeds, ne_hunks, notin_kinds, notin_kindsT, add_int, sub_int, mod_int, div3, div4, callV, listV, flat_str, slice_map, append_str, snoc_str, List.all_cons, List.all_nil, List.map_cons, List.map_nil, Bool.false_eq_true, if_false, ofString_inj, ne_eq, String.reduceEq, not_false_eq_true, Bool.not_true, Bool.not_false, reduceCtorEq, and_true, true_and, and_self, small, Nat.reduceAdd, Nat.reduceLeDiff, bindPV, maskη, List.lookup_cons, List.lookup_nil, str_beq, decide_true, decide_false, Option.map_some, Option.some.injEq, encP, Int.natCast_add]
    rfl
  refine p_nil (h _ ⟨hs ++ [((st : Int), (front1.length : Int), ds)], front1 ++ tgt ds, st + (src ds).length, ?_, hsx, by simp; omega, fun h hm => ?_, by rw [List.length_append]; omega, ?_⟩)
  · rw [List.foldlM_append, hf]
    simp only [Option.bind_eq_bind, Option.bind_some, List.foldlM_cons, List.foldlM_nil, hstep]
    rfl
  · rcases List.mem_append.mp hm with q | q
    · exact hdl h q
    · simp at q; subst q; exact hds
  · exact ⟨by simp only [List.length_cons, List.length_nil, if_true, V_s, V_e, V_t, V_j, V_ok, ev_cN, ev_cB, ev_cI, ev_cS, ev_nm, ev_bin, ev_tup, ev_lst, ev_sl, ev_ixC, ev_ixN, ev_ixB, ev_ixK, ev_call, ev_comp, tv_not, tv_lt, tv_le, tv_gt, tv_ge, tv_eq, tv_ne, tv_ni, tv_nm, tv_call, jv_c, jv_f, fmt_ok, it_nm, it_bin, it_sub, nm_eq, nm_ne, nm_drop, Rz.bind_ok, Rz.bind_err, Rz.strict, sq_l, sq_t, List.length_map, List.length_append, scal, Bool.false_or, Bool.true_or, Bool.or_false, Bool.or_true, Bool.and_true, Bool.true_and, Bool.and_false, Bool.false_and, Bool.and_self, Bool.or_self, argsV, pt_n, pt_s, cd_n, cd_1, im_l, im_t, item0, item1, item2, elemV, sc, encD, encDs, encH, ne_str, eq_str, lt_int, le_int, gt_int, ge_int, eq_int, ne_int, eq_strs, ne_strs, ne_opt, ne_opt_word, ne_str_strs, ne_strs_str, ne_deeds, ne_hunks, notin_kinds, notin_kindsT, add_int, sub_int, mod_int, div3, div4, callV, listV, flat_str, slice_map, append_str, snoc_str, List.all_cons, List.all_nil, List.map_cons, List.map_nil, Bool.false_eq_true, if_false, ofString_inj, ne_eq, String.reduceEq, not_false_eq_true, Bool.not_true, Bool.not_false, reduceCtorEq, and_true, true_and, and_self, small, Nat.reduceAdd, Nat.reduceLeDiff, bindPV, maskη, List.lookup_cons, List.lookup_nil, str_beq, decide_true, decide_false, Option.map_some, Option.some.injEq, encP, e1], by simp only [List.length_cons, List.length_nil, if_true, V_s, V_e, V_t, V_j, V_ok, ev_cN, ev_cB, ev_cI, ev_cS, ev_nm, ev_bin, ev_tup, ev_lst, ev_sl, ev_ixC, ev_ixN, ev_ixB, ev_ixK, ev_call, ev_comp, tv_not, tv_lt, tv_le, tv_gt, tv_ge, tv_eq, tv_ne, tv_ni, tv_nm, tv_call, jv_c, jv_f, fmt_ok, it_nm, it_bin, it_sub, nm_eq, nm_ne, nm_drop, Rz.bind_ok, Rz.bind_err, Rz.strict, sq_l, sq_t, List.length_map, List.length_append, scal, Bool.false_or, Bool.true_or, Bool.or_false, Bool.or_true, Bool.and_true, Bool.true_and, Bool.and_false, Bool.false_and, Bool.and_self, Bool.or_self, argsV, pt_n, pt_s, cd_n, cd_1, im_l, im_t, item0, item1, item2, elemV, sc, encD, encDs, encH, ne_str, eq_str, lt_int, le_int, gt_int, ge_int, eq_int, ne_int, eq_strs, ne_strs, ne_opt, ne_opt_word, ne_str_strs, ne_strs_str, ne_deeds, ne_hunks, notin_kinds, notin_kindsT, add_int, sub_int, mod_int, div3, div4, callV, listV, flat_str, slice_map, append_str, snoc_str, List.all_cons, List.all_nil, List.map_cons, List.map_nil, Bool.false_eq_true, if_false, ofString_inj, ne_eq, String.reduceEq, not_false_eq_true, Bool.not_true, Bool.not_false, reduceCtorEq, and_true, true_and, and_self, small, Nat.reduceAdd, Nat.reduceLeDiff, bindPV, maskη, List.lookup_cons, List.lookup_nil, str_beq, decide_true, decide_false, Option.map_some, Option.some.injEq, encP, e2], by simp only [List.length_cons, List.length_nil, if_true, V_s, V_e, V_t, V_j, V_ok, ev_cN, ev_cB, ev_cI, ev_cS, ev_nm, ev_bin, ev_tup, ev_lst, ev_sl, ev_ixC, ev_ixN, ev_ixB, ev_ixK, ev_call, ev_comp, tv_not, tv_lt, tv_le, tv_gt, tv_ge, tv_eq, tv_ne, tv_ni, tv_nm, tv_call, jv_c, jv_f, fmt_ok, it_nm, it_bin, it_sub, nm_eq, nm_ne, nm_drop, Rz.bind_ok, Rz.bind_err, Rz.strict, sq_l, sq_t, List.length_map, List.length_append, scal, Bool.false_or, Bool.true_or, Bool.or_false, Bool.or_true, Bool.and_true, Bool.true_and, Bool.and_false, Bool.false_and, Bool.and_self, Bool.or_self, argsV, pt_n, pt_s, cd_n, cd_1, im_l, im_t, item0, item1, item2, elemV, sc, encD, encDs, encH, ne_str, eq_str, lt_int, le_int, gt_int, ge_int, eq_int, ne_int, eq_strs, ne_strs, ne_opt, ne_opt_word, ne_str_strs, ne_strs_str, ne_deeds, ne_hunks, notin_kinds, notin_kindsT, add_int, sub_int, mod_int, div3, div4, callV, listV, flat_str, slice_map, append_str, snoc_str, List.all_cons, List.all_nil, List.map_cons, List.map_nil, Bool.false_eq_true, if_false, ofString_inj, ne_eq, String.reduceEq, not_false_eq_true, Bool.not_true, Bool.not_false, reduceCtorEq, and_true, true_and, and_self, small, Nat.reduceAdd, Nat.reduceLeDiff, bindPV, maskη, List.lookup_cons, List.lookup_nil, str_beq, decide_true, decide_false, Option.map_some, Option.some.injEq, encP], by simp only [List.length_cons, List.length_nil, if_true, V_s, V_e, V_t, V_j, V_ok, ev_cN, ev_cB, ev_cI, ev_cS, ev_nm, ev_bin, ev_tup, ev_lst, ev_sl, ev_ixC, ev_ixN, ev_ixB, ev_ixK, ev_call, ev_comp, tv_not, tv_lt, tv_le, tv_gt, tv_ge, tv_eq, tv_ne, tv_ni, tv_nm, tv_call, jv_c, jv_f, fmt_ok, it_nm, it_bin, it_sub, nm_eq, nm_ne, nm_drop, Rz.bind_ok, Rz.bind_err, Rz.strict, sq_l, sq_t, List.length_map, List.length_append, scal, Bool.false_or, Bool.true_or, Bool.or_false, Bool.or_true, Bool.and_true, Bool.true_and, Bool.and_false, Bool.false_and, Bool.and_self, Bool.or_self, argsV, pt_n, pt_s, cd_n, cd_1, im_l, im_t, item0, item1, item2, elemV, sc, encD, encDs, encH, ne_str, eq_str, lt_int, le_int, gt_int, ge_int, eq_int, ne_int, eq_strs, ne_strs, ne_opt, ne_opt_word, ne_str_strs, ne_strs_str, ne_deeds, ne_hunks, notin_kinds, notin_kindsT, add_int, sub_int, mod_int, div3, div4, callV, listV, flat_str, slice_map, append_str, snoc_str, List.all_cons, List.all_nil, List.map_cons, List.map_nil, Bool.false_eq_true, if_false, ofString_inj, ne_eq, String.reduceEq, not_false_eq_true, Bool.not_true, Bool.not_false, reduceCtorEq, and_true, true_and, and_self, small, Nat.reduceAdd, Nat.reduceLeDiff, bindPV, maskη, List.lookup_cons, List.lookup_nil, str_beq, decide_true, decide_false, Option.map_some, Option.some.injEq, encP], ⟨_, by simp only [upd_ne, upd_eq, ne_eq, String.reduceEq, not_false_eq_true]; rfl⟩⟩

theorem law_ok (n : Nat) (ns : List Int) (L : List Str) (F : Fns05 Θ ns L) : callVF Θ (n + 20) ["script"] (bodyOf pw 15) [.list (ns.map .int)] = .ok (.bool true, true) := by
  obtain ⟨φ, h1, h2⟩ := F.cell.cell
  refine call_of rfl ?_
  have rest := fun xs hx hs hl hd front hfl done hdn hf mh η h => law_rest (Θ := Θ) n ns L F xs hx hs hl hd front hfl done hdn hf mh η h
  have turn := fun xs hx i k hi η Q => law_turn (Θ := Θ) (n + 4) ns L F xs hx i k hi η Q
  unfold loopOf at turn
  (unfold bodyOf pw PySem.Challenge.pw_pd_weave_3_05 at turn; dsimp only [List.getElem?_cons_succ, List.getElem?_cons_zero] at turn)
  (unfold bodyOf pw PySem.Challenge.pw_pd_weave_3_05 at rest; dsimp only [List.getElem?_cons_succ, List.getElem?_cons_zero, List.tail_cons] at rest)
  (unfold bodyOf pw PySem.Challenge.pw_pd_weave_3_05; dsimp only [List.getElem?_cons_succ, List.getElem?_cons_zero])
  obtain ⟨m, hm, hm7⟩ := fmod_nat (cellD ns 0) 7 (by decide)
  have hm : (cellD ns 0).fmod 7 = m := hm
  have h20 := h2 0 (by decide)
  have h27 := h2 7 (by decide)
  simp only [Int.natCast_zero, Int.cast_ofNat_Int] at h20 h27
  have hxl : ((List.range m).map fun k => lineAt L ((cellD ns (1 + k)).fmod 3).toNat).length ≤ 6 := by simp; omega
  refine p_asgL (ds := ((List.range m).map fun k => lineAt L ((cellD ns (1 + k)).fmod 3).toNat).map .str) (m := true) (e_comp' (vi := ⟨(List.range m).map encN, true, true⟩) (it_range1 (k := m) (b := true) (m := true) ?_ rfl (by omega)) ?_) ?_
  · simp only [List.length_cons, List.length_nil, if_true, V_s, V_e, V_t, V_j, V_ok, ev_cN, ev_cB, ev_cI, ev_cS, ev_nm, ev_bin, ev_tup, ev_lst, ev_sl, ev_ixC, ev_ixN, ev_ixB, ev_ixK, ev_call, ev_comp, tv_not, tv_lt, tv_le, tv_gt, tv_ge, tv_eq, tv_ne, tv_ni, tv_nm, tv_call, jv_c, jv_f, fmt_ok, it_nm, it_bin, it_sub, nameV, upd_eq, upd_ne, Rz.bind_ok, Rz.bind_err, Rz.strict, sq_l, sq_t, List.length_map, List.length_append, scal, Bool.false_or, Bool.true_or, Bool.or_false, Bool.or_true, Bool.and_true, Bool.true_and, Bool.and_false, Bool.false_and, Bool.and_self, Bool.or_self, argsV, pt_n, pt_s, cd_n, cd_1, im_l, im_t, item0, item1, item2, elemV, sc, encD, encDs, encH, ne_str, eq_str, lt_int, le_int, gt_int, ge_int, eq_int, ne_int, eq_strs, ne_strs, ne_str_strs, ne_strs_str, ne_deeds, ne_hunks, notin_kinds, notin_kindsT, add_int, sub_int, mod_int, div3, div4, callV, listV, flat_str, slice_map, append_str, snoc_str, List.all_cons, List.all_nil, List.map_cons, List.map_nil, Bool.false_eq_true, if_false, ofString_inj, ne_eq, String.reduceEq, not_false_eq_true, Bool.not_true, Bool.not_false, reduceCtorEq, and_true, true_and, and_self, small, Nat.reduceAdd, Nat.reduceLeDiff, bindPV, maskη, List.lookup_cons, List.lookup_nil, str_beq, decide_true, decide_false, Option.map_some, Option.some.injEq, encP, h1, h20]
    rw [mod_int _ _ _ _ _ _ (by decide), hm]
    rfl
  · dsimp only
    rw [compV_map encN (fun _ => true) (fun k => .str (lineAt L ((cellD ns (1 + k)).fmod 3).toNat)) (List.range m) (fun _ _ => rfl) ?_]
    · simp [List.filter_eq_self.mpr, Function.comp_def]
    · intro k hk _
      have hk : k < m := List.mem_range.mp hk
      obtain ⟨r, hr, hr4⟩ := fmod_nat (cellD ns (1 + k)) 3 (by decide)
      have hr : (cellD ns (1 + k)).fmod 3 = r := hr
      have h2k := h2 (1 + k) (by omega)
      simp only [Int.natCast_add, Int.natCast_one] at h2k
      simp only [List.length_cons, List.length_nil, if_true, V_s, V_e, V_t, V_j, V_ok, ev_cN, ev_cB, ev_cI, ev_cS, ev_nm, ev_bin, ev_tup, ev_lst, ev_sl, ev_ixC, ev_ixN, ev_ixB, ev_ixK, ev_call, ev_comp, tv_not, tv_lt, tv_le, tv_gt, tv_ge, tv_eq, tv_ne, tv_ni, tv_nm, tv_call, jv_c, jv_f, fmt_ok, it_nm, it_bin, it_sub, nameV, upd_eq, upd_ne, Rz.bind_ok, Rz.bind_err, Rz.strict, sq_l, sq_t, List.length_map, List.length_append, scal, Bool.false_or, Bool.true_or, Bool.or_false, Bool.or_true, Bool.and_true, Bool.true_and, Bool.and_false, Bool.false_and, Bool.and_self, Bool.or_self, argsV, pt_n, pt_s, cd_n, cd_1, im_l, im_t, item0, item1, item2, elemV, sc, encD, encDs, encH, ne_str, eq_str, lt_int, le_int, gt_int, ge_int, eq_int, ne_int, eq_strs, ne_strs, ne_str_strs, ne_strs_str, ne_deeds, ne_hunks, notin_kinds, notin_kindsT, add_int, sub_int, mod_int, div3, div4, callV, listV, flat_str, slice_map, append_str, snoc_str, List.all_cons, List.all_nil, List.map_cons, List.map_nil, Bool.false_eq_true, if_false, ofString_inj, ne_eq, String.reduceEq, not_false_eq_true, Bool.not_true, Bool.not_false, reduceCtorEq, and_true, true_and, and_self, small, Nat.reduceAdd, Nat.reduceLeDiff, bindPV, maskη, List.lookup_cons, List.lookup_nil, str_beq, decide_true, decide_false, Option.map_some, Option.some.injEq, encP, encN, h1, F.lines, h2k]
      rw [mod_int _ _ _ _ _ _ (by decide), hr]
      simp only [List.length_cons, List.length_nil, if_true, V_s, V_e, V_t, V_j, V_ok, ev_cN, ev_cB, ev_cI, ev_cS, ev_nm, ev_bin, ev_tup, ev_lst, ev_sl, ev_ixC, ev_ixN, ev_ixB, ev_ixK, ev_call, ev_comp, tv_not, tv_lt, tv_le, tv_gt, tv_ge, tv_eq, tv_ne, tv_ni, tv_nm, tv_call, jv_c, jv_f, fmt_ok, it_nm, it_bin, it_sub, nameV, upd_eq, upd_ne, Rz.bind_ok, Rz.bind_err, Rz.strict, sq_l, sq_t, List.length_map, List.length_append, scal, Bool.false_or, Bool.true_or, Bool.or_false, Bool.or_true, Bool.and_true, Bool.true_and, Bool.and_false, Bool.false_and, Bool.and_self, Bool.or_self, argsV, pt_n, pt_s, cd_n, cd_1, im_l, im_t, item0, item1, item2, elemV, sc, encD, encDs, encH, ne_str, eq_str, lt_int, le_int, gt_int, ge_int, eq_int, ne_int, eq_strs, ne_strs, ne_str_strs, ne_strs_str, ne_deeds, ne_hunks, notin_kinds, notin_kindsT, add_int, sub_int, mod_int, div3, div4, callV, listV, flat_str, slice_map, append_str, snoc_str, List.all_cons, List.all_nil, List.map_cons, List.map_nil, Bool.false_eq_true, if_false, ofString_inj, ne_eq, String.reduceEq, not_false_eq_true, Bool.not_true, Bool.not_false, reduceCtorEq, and_true, true_and, and_self, small, Nat.reduceAdd, Nat.reduceLeDiff, bindPV, maskη, List.lookup_cons, List.lookup_nil, str_beq, decide_true, decide_false, Option.map_some, Option.some.injEq, encP]
      rw [pick_str L (by rw [F.llen]; omega) (by omega)]
      rfl
  generalize (List.range m).map (fun k => lineAt L ((cellD ns (1 + k)).fmod 3).toNat) = xs at hxl ⊢
  refine p_asgL (ds := []) (m := true) (by simp only [List.length_cons, List.length_nil, if_true, V_s, V_e, V_t, V_j, V_ok, ev_cN, ev_cB, ev_cI, ev_cS, ev_nm, ev_bin, ev_tup, ev_lst, ev_sl, ev_ixC, ev_ixN, ev_ixB, ev_ixK, ev_call, ev_comp, tv_not, tv_lt, tv_le, tv_gt, tv_ge, tv_eq, tv_ne, tv_ni, tv_nm, tv_call, jv_c, jv_f, fmt_ok, it_nm, it_bin, it_sub, nameV, upd_eq, upd_ne, Rz.bind_ok, Rz.bind_err, Rz.strict, sq_l, sq_t, List.length_map, List.length_append, scal, Bool.false_or, Bool.true_or, Bool.or_false, Bool.or_true, Bool.and_true, Bool.true_and, Bool.and_false, Bool.false_and, Bool.and_self, Bool.or_self, argsV, pt_n, pt_s, cd_n, cd_1, im_l, im_t, item0, item1, item2, elemV, sc, encD, encDs, encH, ne_str, eq_str, lt_int, le_int, gt_int, ge_int, eq_int, ne_int, eq_strs, ne_strs, ne_str_strs, ne_strs_str, ne_deeds, ne_hunks, notin_kinds, notin_kindsT, add_int, sub_int, mod_int, div3, div4, callV, listV, flat_str, slice_map, append_str, snoc_str, List.all_cons, List.all_nil, List.map_cons, List.map_nil, Bool.false_eq_true, if_false, ofString_inj, ne_eq, String.reduceEq, not_false_eq_true, Bool.not_true, Bool.not_false, reduceCtorEq, and_true, true_and, and_self, small, Nat.reduceAdd, Nat.reduceLeDiff, bindPV, maskη, List.lookup_cons, List.lookup_nil, str_beq, decide_true, decide_false, Option.map_some, Option.some.injEq, encP]) ?_
  refine p_asgL (ds := []) (m := true) (by simp only [List.length_cons, List.length_nil, if_true, V_s, V_e, V_t, V_j, V_ok, ev_cN, ev_cB, ev_cI, ev_cS, ev_nm, ev_bin, ev_tup, ev_lst, ev_sl, ev_ixC, ev_ixN, ev_ixB, ev_ixK, ev_call, ev_comp, tv_not, tv_lt, tv_le, tv_gt, tv_ge, tv_eq, tv_ne, tv_ni, tv_nm, tv_call, jv_c, jv_f, fmt_ok, it_nm, it_bin, it_sub, nameV, upd_eq, upd_ne, Rz.bind_ok, Rz.bind_err, Rz.strict, sq_l, sq_t, List.length_map, List.length_append, scal, Bool.false_or, Bool.true_or, Bool.or_false, Bool.or_true, Bool.and_true, Bool.true_and, Bool.and_false, Bool.false_and, Bool.and_self, Bool.or_self, argsV, pt_n, pt_s, cd_n, cd_1, im_l, im_t, item0, item1, item2, elemV, sc, encD, encDs, encH, ne_str, eq_str, lt_int, le_int, gt_int, ge_int, eq_int, ne_int, eq_strs, ne_strs, ne_str_strs, ne_strs_str, ne_deeds, ne_hunks, notin_kinds, notin_kindsT, add_int, sub_int, mod_int, div3, div4, callV, listV, flat_str, slice_map, append_str, snoc_str, List.all_cons, List.all_nil, List.map_cons, List.map_nil, Bool.false_eq_true, if_false, ofString_inj, ne_eq, String.reduceEq, not_false_eq_true, Bool.not_true, Bool.not_false, reduceCtorEq, and_true, true_and, and_self, small, Nat.reduceAdd, Nat.reduceLeDiff, bindPV, maskη, List.lookup_cons, List.lookup_nil, str_beq, decide_true, decide_false, Option.map_some, Option.some.injEq, encP]) ?_
  refine p_asgS (d := .int 0) (b := true) (m := true) (by simp only [List.length_cons, List.length_nil, if_true, V_s, V_e, V_t, V_j, V_ok, ev_cN, ev_cB, ev_cI, ev_cS, ev_nm, ev_bin, ev_tup, ev_lst, ev_sl, ev_ixC, ev_ixN, ev_ixB, ev_ixK, ev_call, ev_comp, tv_not, tv_lt, tv_le, tv_gt, tv_ge, tv_eq, tv_ne, tv_ni, tv_nm, tv_call, jv_c, jv_f, fmt_ok, it_nm, it_bin, it_sub, nameV, upd_eq, upd_ne, Rz.bind_ok, Rz.bind_err, Rz.strict, sq_l, sq_t, List.length_map, List.length_append, scal, Bool.false_or, Bool.true_or, Bool.or_false, Bool.or_true, Bool.and_true, Bool.true_and, Bool.and_false, Bool.false_and, Bool.and_self, Bool.or_self, argsV, pt_n, pt_s, cd_n, cd_1, im_l, im_t, item0, item1, item2, elemV, sc, encD, encDs, encH, ne_str, eq_str, lt_int, le_int, gt_int, ge_int, eq_int, ne_int, eq_strs, ne_strs, ne_str_strs, ne_strs_str, ne_deeds, ne_hunks, notin_kinds, notin_kindsT, add_int, sub_int, mod_int, div3, div4, callV, listV, flat_str, slice_map, append_str, snoc_str, List.all_cons, List.all_nil, List.map_cons, List.map_nil, Bool.false_eq_true, if_false, ofString_inj, ne_eq, String.reduceEq, not_false_eq_true, Bool.not_true, Bool.not_false, reduceCtorEq, and_true, true_and, and_self, small, Nat.reduceAdd, Nat.reduceLeDiff, bindPV, maskη, List.lookup_cons, List.lookup_nil, str_beq, decide_true, decide_false, Option.map_some, Option.some.injEq, encP]) rfl ?_
  obtain ⟨c, hc, hc3⟩ := fmod_nat (cellD ns 7) 3 (by decide)
  have hc : (cellD ns 7).fmod 3 = c := hc
  refine p_for (ds := (List.range c).map encN) (bo := true) (mi := true) (it_range1 (k := c) (b := true) (m := true) ?_ rfl (by omega)) ?_
  · simp only [List.length_cons, List.length_nil, if_true, V_s, V_e, V_t, V_j, V_ok, ev_cN, ev_cB, ev_cI, ev_cS, ev_nm, ev_bin, ev_tup, ev_lst, ev_sl, ev_ixC, ev_ixN, ev_ixB, ev_ixK, ev_call, ev_comp, tv_not, tv_lt, tv_le, tv_gt, tv_ge, tv_eq, tv_ne, tv_ni, tv_nm, tv_call, jv_c, jv_f, fmt_ok, it_nm, it_bin, it_sub, nameV, upd_eq, upd_ne, Rz.bind_ok, Rz.bind_err, Rz.strict, sq_l, sq_t, List.length_map, List.length_append, scal, Bool.false_or, Bool.true_or, Bool.or_false, Bool.or_true, Bool.and_true, Bool.true_and, Bool.and_false, Bool.false_and, Bool.and_self, Bool.or_self, argsV, pt_n, pt_s, cd_n, cd_1, im_l, im_t, item0, item1, item2, elemV, sc, encD, encDs, encH, ne_str, eq_str, lt_int, le_int, gt_int, ge_int, eq_int, ne_int, eq_strs, ne_strs, ne_str_strs, ne_strs_str, ne_deeds, ne_hunks, notin_kinds, notin_kindsT, add_int, sub_int, mod_int, div3, div4, callV, listV, flat_str, slice_map, append_str, snoc_str, List.all_cons, List.all_nil, List.map_cons, List.map_nil, Bool.false_eq_true, if_false, ofString_inj, ne_eq, String.reduceEq, not_false_eq_true, Bool.not_true, Bool.not_false, reduceCtorEq, and_true, true_and, and_self, small, Nat.reduceAdd, Nat.reduceLeDiff, bindPV, maskη, List.lookup_cons, List.lookup_nil, str_beq, decide_true, decide_false, Option.map_some, Option.some.injEq, encP, h1, h27]
    rw [mod_int _ _ _ _ _ _ (by decide), hc]
    rfl
  rw [drop_yes rfl]
  refine loop_inv encN (L5Inv Θ ns xs) (List.range c) (fun i k η Q hi hinv h => turn xs hxl i k (by have := List.mem_range.mp hi; omega) η Q hinv h) _ _ ?_ ?_
  · refine ⟨[], [], 0, rfl, Nat.zero_le _, by simp; omega, fun _ h => (nomatch h), by simp; omega, ?_⟩
    exact ⟨by simp only [List.length_cons, List.length_nil, if_true, V_s, V_e, V_t, V_j, V_ok, ev_cN, ev_cB, ev_cI, ev_cS, ev_nm, ev_bin, ev_tup, ev_lst, ev_sl, ev_ixC, ev_ixN, ev_ixB, ev_ixK, ev_call, ev_comp, tv_not, tv_lt, tv_le, tv_gt, tv_ge, tv_eq, tv_ne, tv_ni, tv_nm, tv_call, jv_c, jv_f, fmt_ok, it_nm, it_bin, it_sub, nm_eq, nm_ne, nm_drop, Rz.bind_ok, Rz.bind_err, Rz.strict, sq_l, sq_t, List.length_map, List.length_append, scal, Bool.false_or, Bool.true_or, Bool.or_false, Bool.or_true, Bool.and_true, Bool.true_and, Bool.and_false, Bool.false_and, Bool.and_self, Bool.or_self, argsV, pt_n, pt_s, cd_n, cd_1, im_l, im_t, item0, item1, item2, elemV, sc, encD, encDs, encH, ne_str, eq_str, lt_int, le_int, gt_int, ge_int, eq_int, ne_int, eq_strs, ne_strs, ne_opt, ne_opt_word, ne_str_strs, ne_strs_str, ne_deeds, ne_hunks, notin_kinds, notin_kindsT, add_int, sub_int, mod_int, div3, div4, callV, listV, flat_str, slice_map, append_str, snoc_str, List.all_cons, List.all_nil, List.map_cons, List.map_nil, Bool.false_eq_true, if_false, ofString_inj, ne_eq, String.reduceEq, not_false_eq_true, Bool.not_true, Bool.not_false, reduceCtorEq, and_true, true_and, and_self, small, Nat.reduceAdd, Nat.reduceLeDiff, bindPV, maskη, List.lookup_cons, List.lookup_nil, str_beq, decide_true, decide_false, Option.map_some, Option.some.injEq, encP], by simp only [List.length_cons, List.length_nil, if_true, V_s, V_e, V_t, V_j, V_ok, ev_cN, ev_cB, ev_cI, ev_cS, ev_nm, ev_bin, ev_tup, ev_lst, ev_sl, ev_ixC, ev_ixN, ev_ixB, ev_ixK, ev_call, ev_comp, tv_not, tv_lt, tv_le, tv_gt, tv_ge, tv_eq, tv_ne, tv_ni, tv_nm, tv_call, jv_c, jv_f, fmt_ok, it_nm, it_bin, it_sub, nm_eq, nm_ne, nm_drop, Rz.bind_ok, Rz.bind_err, Rz.strict, sq_l, sq_t, List.length_map, List.length_append, scal, Bool.false_or, Bool.true_or, Bool.or_false, Bool.or_true, Bool.and_true, Bool.true_and, Bool.and_false, Bool.false_and, Bool.and_self, Bool.or_self, argsV, pt_n, pt_s, cd_n, cd_1, im_l, im_t, item0, item1, item2, elemV, sc, encD, encDs, encH, ne_str, eq_str, lt_int, le_int, gt_int, ge_int, eq_int, ne_int, eq_strs, ne_strs, ne_opt, ne_opt_word, ne_str_strs, ne_strs_str, ne_deeds, ne_hunks, notin_kinds, notin_kindsT, add_int, sub_int, mod_int, div3, div4, callV, listV, flat_str, slice_map, append_str, snoc_str, List.all_cons, List.all_nil, List.map_cons, List.map_nil, Bool.false_eq_true, if_false, ofString_inj, ne_eq, String.reduceEq, not_false_eq_true, Bool.not_true, Bool.not_false, reduceCtorEq, and_true, true_and, and_self, small, Nat.reduceAdd, Nat.reduceLeDiff, bindPV, maskη, List.lookup_cons, List.lookup_nil, str_beq, decide_true, decide_false, Option.map_some, Option.some.injEq, encP], by simp only [List.length_cons, List.length_nil, if_true, V_s, V_e, V_t, V_j, V_ok, ev_cN, ev_cB, ev_cI, ev_cS, ev_nm, ev_bin, ev_tup, ev_lst, ev_sl, ev_ixC, ev_ixN, ev_ixB, ev_ixK, ev_call, ev_comp, tv_not, tv_lt, tv_le, tv_gt, tv_ge, tv_eq, tv_ne, tv_ni, tv_nm, tv_call, jv_c, jv_f, fmt_ok, it_nm, it_bin, it_sub, nm_eq, nm_ne, nm_drop, Rz.bind_ok, Rz.bind_err, Rz.strict, sq_l, sq_t, List.length_map, List.length_append, scal, Bool.false_or, Bool.true_or, Bool.or_false, Bool.or_true, Bool.and_true, Bool.true_and, Bool.and_false, Bool.false_and, Bool.and_self, Bool.or_self, argsV, pt_n, pt_s, cd_n, cd_1, im_l, im_t, item0, item1, item2, elemV, sc, encD, encDs, encH, ne_str, eq_str, lt_int, le_int, gt_int, ge_int, eq_int, ne_int, eq_strs, ne_strs, ne_opt, ne_opt_word, ne_str_strs, ne_strs_str, ne_deeds, ne_hunks, notin_kinds, notin_kindsT, add_int, sub_int, mod_int, div3, div4, callV, listV, flat_str, slice_map, append_str, snoc_str, List.all_cons, List.all_nil, List.map_cons, List.map_nil, Bool.false_eq_true, if_false, ofString_inj, ne_eq, String.reduceEq, not_false_eq_true, Bool.not_true, Bool.not_false, reduceCtorEq, and_true, true_and, and_self, small, Nat.reduceAdd, Nat.reduceLeDiff, bindPV, maskη, List.lookup_cons, List.lookup_nil, str_beq, decide_true, decide_false, Option.map_some, Option.some.injEq, encP, List.map_nil], by simp only [List.length_cons, List.length_nil, if_true, V_s, V_e, V_t, V_j, V_ok, ev_cN, ev_cB, ev_cI, ev_cS, ev_nm, ev_bin, ev_tup, ev_lst, ev_sl, ev_ixC, ev_ixN, ev_ixB, ev_ixK, ev_call, ev_comp, tv_not, tv_lt, tv_le, tv_gt, tv_ge, tv_eq, tv_ne, tv_ni, tv_nm, tv_call, jv_c, jv_f, fmt_ok, it_nm, it_bin, it_sub, nm_eq, nm_ne, nm_drop, Rz.bind_ok, Rz.bind_err, Rz.strict, sq_l, sq_t, List.length_map, List.length_append, scal, Bool.false_or, Bool.true_or, Bool.or_false, Bool.or_true, Bool.and_true, Bool.true_and, Bool.and_false, Bool.false_and, Bool.and_self, Bool.or_self, argsV, pt_n, pt_s, cd_n, cd_1, im_l, im_t, item0, item1, item2, elemV, sc, encD, encDs, encH, ne_str, eq_str, lt_int, le_int, gt_int, ge_int, eq_int, ne_int, eq_strs, ne_strs, ne_opt, ne_opt_word, ne_str_strs, ne_strs_str, ne_deeds, ne_hunks, notin_kinds, notin_kindsT, add_int, sub_int, mod_int, div3, div4, callV, listV, flat_str, slice_map, append_str, snoc_str, List.all_cons, List.all_nil, List.map_cons, List.map_nil, Bool.false_eq_true, if_false, ofString_inj, ne_eq, String.reduceEq, not_false_eq_true, Bool.not_true, Bool.not_false, reduceCtorEq, and_true, true_and, and_self, small, Nat.reduceAdd, Nat.reduceLeDiff, bindPV, maskη, List.lookup_cons, List.lookup_nil, str_beq, decide_true, decide_false, Option.map_some, Option.some.injEq, encP]; rfl, ⟨true, by simp only [upd_ne, upd_eq, ne_eq, String.reduceEq, not_false_eq_true, List.map_nil]⟩⟩
  · rintro η' ⟨hs, front, done, hf, hdn, hlen, hdl, hfl, E⟩
    obtain ⟨mh, hh⟩ := E.hunks
    refine then_next ?_
    exact rest xs hxl hs (by omega) hdl front (by omega) done hdn hf mh η' ⟨E.script, E.text, E.front, E.done, by unfold nameV; rw [hh]; rfl⟩
end
end Mine

end

section
set_option autoImplicit false
set_option maxRecDepth 100000
namespace Mine
open PySem
noncomputable def linesT : List Str := [Str.ofString "a", Str.ofString "b", Str.ofString ""]
noncomputable def kindsT : List Str := [Str.ofString "keep", Str.ofString "del", Str.ofString "add"]
noncomputable def stT : List AO := [⟨false, linesT.map .str⟩, ⟨false, kindsT.map .str⟩]
noncomputable def gaT : List (Str × AV) := [(Str.ofString "_law_LINES", .ref 0), (Str.ofString "_law_KINDS", .ref 1)]
noncomputable def gvT : List (Str × PyData) := [(Str.ofString "_law_LINES", .tuple (linesT.map .str)), (Str.ofString "_law_KINDS", .tuple (kindsT.map .str))]
noncomputable def thT : Thy := ⟨globA gaT, fun _ => none, fun C => decide (C = Str.ofString "PatchError")⟩
noncomputable def tvT : VThy := ⟨globV gvT, fun _ => none, fun C => decide (C = Str.ofString "PatchError")⟩
theorem vokT : VOk thT tvT stT := by
  refine ⟨fun x d hx => ?_, fun f φ h => (by cases h), fun f _ => rfl, fun C h => h⟩
  have hm := mem_of_lookup (l := gvT) (n := x) hx
  have linesK : (linesT.all fun x => PyData.strOk x) = true := by decide +kernel
  have kindsK : (kindsT.all fun x => PyData.strOk x) = true := by decide +kernel
  have key : ∀ p ∈ gvT, ∃ v F, globA gaT p.1 = some v ∧ Den stT v p.2 F := by
    unfold gvT
    simp only [List.forall_mem_cons]
    refine ⟨⟨.ref 0, _, by kernel_rfl, .tuple rfl (den_strs _ linesK)⟩, ⟨.ref 1, _, by kernel_rfl, .tuple rfl (den_strs _ kindsK)⟩, fun _ h => nomatch h⟩
  exact key _ hm

theorem push_fn (Θ : VThy) (f g : String) (φ : VFn) : (pushV Θ (Str.ofString f) φ).fn (Str.ofString g) = if g = f then some φ else Θ.fn (Str.ofString g) := by
  unfold pushV
  dsimp only
  by_cases h : g = f
  · subst h; rw [if_pos rfl, if_pos rfl]
  · rw [if_neg (fun q => h (ofString_inj.mp q)), if_neg h]

noncomputable def w1 : VThy := pushV tvT (Str.ofString "source_of") (callVF tvT (0 + 20) ["script"] (bodyOf pw 2))
noncomputable def w2 : VThy := pushV w1 (Str.ofString "patch") (callVF w1 (0 + 20) ["a", "script"] (bodyOf pw 3))
noncomputable def w3 : VThy := pushV w2 (Str.ofString "apply_hunks") (callVF w2 (0 + 20) ["a", "hunks"] (bodyOf pw 4))
noncomputable def w4 : VThy := pushV w3 (Str.ofString "_law_cell") (callVF w3 (0 + 20) ["script", "at"] (bodyOf pw 8))
noncomputable def w5 : VThy := pushV w4 (Str.ofString "_law_deeds") (callVF w4 (0 + 20) ["script", "at", "text", "place", "count"] (bodyOf pw 9))
noncomputable def w6 : VThy := pushV w5 (Str.ofString "_law_hurt") (callVF w5 (0 + 20) ["deeds", "how"] (bodyOf pw 10))
noncomputable def w7 : VThy := pushV w6 (Str.ofString "_law_without") (callVF w6 (0 + 20) ["deeds", "kind"] (bodyOf pw 11))
noncomputable def w8 : VThy := pushV w7 (Str.ofString "_law_due") (callVF w7 (0 + 20) ["text", "front", "done", "s", "t", "deeds"] (bodyOf pw 12))
noncomputable def w9 : VThy := pushV w8 (Str.ofString "_law_run") (callVF w8 (0 + 20) ["text", "hunks"] (bodyOf pw 13))
noncomputable def w10 : VThy := pushV w9 (Str.ofString "_law_holds") (callVF w9 (0 + 20) ["text", "hunks", "due"] (bodyOf pw 14))
theorem k1 : okDef tvT (0 + 20) ["script"] (scopeOf pw 2) (bodyOf pw 2) = true := by decide +kernel
theorem k2 : okDef w1 (0 + 20) ["a", "script"] (scopeOf pw 3) (bodyOf pw 3) = true := by decide +kernel
theorem k3 : okDef w2 (0 + 20) ["a", "hunks"] (scopeOf pw 4) (bodyOf pw 4) = true := by decide +kernel
theorem k4 : okDef w3 (0 + 20) ["script", "at"] (scopeOf pw 8) (bodyOf pw 8) = true := by decide +kernel
theorem k5 : okDef w4 (0 + 20) ["script", "at", "text", "place", "count"] (scopeOf pw 9) (bodyOf pw 9) = true := by decide +kernel
theorem k6 : okDef w5 (0 + 20) ["deeds", "how"] (scopeOf pw 10) (bodyOf pw 10) = true := by decide +kernel
theorem k7 : okDef w6 (0 + 20) ["deeds", "kind"] (scopeOf pw 11) (bodyOf pw 11) = true := by decide +kernel
theorem k8 : okDef w7 (0 + 20) ["text", "front", "done", "s", "t", "deeds"] (scopeOf pw 12) (bodyOf pw 12) = true := by decide +kernel
theorem k9 : okDef w8 (0 + 20) ["text", "hunks"] (scopeOf pw 13) (bodyOf pw 13) = true := by decide +kernel
theorem k10 : okDef w9 (0 + 20) ["text", "hunks", "due"] (scopeOf pw 14) (bodyOf pw 14) = true := by decide +kernel
theorem k11 : okDef w10 (0 + 20) ["script"] (scopeOf pw 15) (bodyOf pw 15) = true := by decide +kernel

theorem w_none {g : String} (h : g ∉ ["source_of", "patch", "apply_hunks", "_law_cell", "_law_deeds", "_law_hurt", "_law_without", "_law_due", "_law_run", "_law_holds"]) :
    w1.fn (Str.ofString g) = none ∧ w2.fn (Str.ofString g) = none ∧ w3.fn (Str.ofString g) = none ∧ w4.fn (Str.ofString g) = none ∧ w5.fn (Str.ofString g) = none ∧ w6.fn (Str.ofString g) = none ∧ w7.fn (Str.ofString g) = none ∧ w8.fn (Str.ofString g) = none ∧ w9.fn (Str.ofString g) = none ∧ w10.fn (Str.ofString g) = none := by
  simp only [List.mem_cons, List.not_mem_nil, or_false, not_or] at h
  obtain ⟨h1, h2, h3, h4, h5, h6, h7, h8, h9, h10⟩ := h
  simp only [w1, w2, w3, w4, w5, w6, w7, w8, w9, w10, push_fn, h1, h2, h3, h4, h5, h6, h7, h8, h9, h10, if_false]
  simp [tvT]

theorem fnsT (ns : List Int) (hn : ns.length ≤ 63) : Fns05 w10 ns linesT := by
  have hlen := w_none (g := "len") (by decide)
  have hlist := w_none (g := "list") (by decide)
  have hmin := w_none (g := "min") (by decide)
  have hmax := w_none (g := "max") (by decide)
  have src2 : ∀ ds : List (Str × Str), ds.length ≤ 1000 → callVF tvT (0 + 20) ["script"] (bodyOf pw 2) [.list (ds.map encD)] = .ok (.list ((src ds).map .str), true) := fun ds h => source_of_ok 0 ds (by omega)
  have pat : ∀ (xs : List Str) (ds : List (Str × Str)), xs.length ≤ 1000 → ds.length ≤ 1000 → callVF w1 (0 + 20) ["a", "script"] (bodyOf pw 3) [.list (xs.map .str), .list (ds.map encD)] = patchR xs ds := fun xs ds h1 h2 => patch_ok 0 hlen.1 xs h1 ds h2
  have c2 : CoreFns w2 := ⟨hlen.2.1, hlist.2.1, hmin.2.1, hmax.2.1, ⟨_, by simp only [w2, w1, push_fn, String.reduceEq, if_true, if_false], src2⟩, ⟨_, by simp only [w2, push_fn, if_true], pat⟩⟩
  have cell : ∀ k : Nat, k ≤ 1000 → callVF w3 (0 + 20) ["script", "at"] (bodyOf pw 8) [.list (ns.map .int), .int k] = .ok (.int (cellD ns k), true) := fun k hk => cell_ok 0 hlen.2.2.1 ns hn k hk
  have cf4 : CellFn w4 ns := ⟨⟨_, by simp only [w4, push_fn, if_true], cell⟩⟩
  have cf10 : CellFn w10 ns := ⟨⟨_, by simp only [w10, w9, w8, w7, w6, w5, w4, push_fn, String.reduceEq, if_true, if_false], cell⟩⟩
  have gl : globV gvT (Str.ofString "_law_LINES") = some (.tuple (linesT.map .str)) := by kernel_rfl
  have gk : globV gvT (Str.ofString "_law_KINDS") = some (.tuple (kindsT.map .str)) := by kernel_rfl
  have hkn : ∀ k ∈ kindsT, kn k = true := by
    unfold kindsT
    simp [kn]
  have wo7 : WithoutFn w7 := ⟨⟨_, by simp only [w7, push_fn, if_true], fun ds k h => without_ok (Θ := w6) 0 ds (by omega) k⟩⟩
  have wo10 : WithoutFn w10 := ⟨⟨_, by simp only [w10, w9, w8, w7, push_fn, String.reduceEq, if_true, if_false], fun ds k h => without_ok (Θ := w6) 0 ds (by omega) k⟩⟩
  have a8 : ApplyFn w8 := ⟨⟨_, by simp only [w8, w7, w6, w5, w4, w3, push_fn, String.reduceEq, if_true, if_false], fun xs hs h1 h2 h3 => apply_ok 0 c2 xs h1 hs h2 h3⟩⟩
  have r9 : RunFn w9 := ⟨hlist.2.2.2.2.2.2.2.2.1, ⟨_, by simp only [w9, push_fn, if_true], fun xs hs h1 h2 h3 => run_ok 0 a8 xs h1 hs h2 h3⟩⟩
  exact {
    len := hlen.2.2.2.2.2.2.2.2.2
    min := hmin.2.2.2.2.2.2.2.2.2
    max := hmax.2.2.2.2.2.2.2.2.2
    cell := cf10
    deeds := ⟨_, by simp only [w10, w9, w8, w7, w6, w5, push_fn, String.reduceEq, if_true, if_false], fun at_ xs p c h1 h2 h3 h4 => deeds_ok 0 ns cf4 hlen.2.2.2.1 linesT kindsT rfl gl rfl hkn gk at_ h1 xs h2 p c h3 h4⟩
    hurt := ⟨_, by simp only [w10, w9, w8, w7, w6, push_fn, String.reduceEq, if_true, if_false], fun ds how h1 h2 => hurt_ok 0 hlen.2.2.2.2.1 ds h1 how h2⟩
    wo := wo10
    due := ⟨_, by simp only [w10, w9, w8, push_fn, String.reduceEq, if_true, if_false], fun xs front done s t ds h1 h2 h3 h4 => due_ok 0 hlen.2.2.2.2.2.2.1 wo7 gk xs front h1 h2 done h3 s t ds h4⟩
    holds := ⟨_, by simp only [w10, push_fn, if_true], fun xs hs h1 h2 h3 => holds_ok 0 r9 xs h1 hs h2 h3⟩
    lines := gl
    llen := rfl }

set_option maxHeartbeats 4000000 in
theorem lawT_top {D : Gd} (hΘ : D.Θ = thT) (hr : D.r = 0) (G : Gnd D)
    (f2 : ∃ fa, D.mg (Str.ofString "source_of") = some (.ref fa) ∧ DefAt D.base fa ["script"] (scopeOf pw 2) (bodyOf pw 2))
    (f3 : ∃ fa, D.mg (Str.ofString "patch") = some (.ref fa) ∧ DefAt D.base fa ["a", "script"] (scopeOf pw 3) (bodyOf pw 3))
    (f4 : ∃ fa, D.mg (Str.ofString "apply_hunks") = some (.ref fa) ∧ DefAt D.base fa ["a", "hunks"] (scopeOf pw 4) (bodyOf pw 4))
    (f8 : ∃ fa, D.mg (Str.ofString "_law_cell") = some (.ref fa) ∧ DefAt D.base fa ["script", "at"] (scopeOf pw 8) (bodyOf pw 8))
    (f9 : ∃ fa, D.mg (Str.ofString "_law_deeds") = some (.ref fa) ∧ DefAt D.base fa ["script", "at", "text", "place", "count"] (scopeOf pw 9) (bodyOf pw 9))
    (f10 : ∃ fa, D.mg (Str.ofString "_law_hurt") = some (.ref fa) ∧ DefAt D.base fa ["deeds", "how"] (scopeOf pw 10) (bodyOf pw 10))
    (f11 : ∃ fa, D.mg (Str.ofString "_law_without") = some (.ref fa) ∧ DefAt D.base fa ["deeds", "kind"] (scopeOf pw 11) (bodyOf pw 11))
    (f12 : ∃ fa, D.mg (Str.ofString "_law_due") = some (.ref fa) ∧ DefAt D.base fa ["text", "front", "done", "s", "t", "deeds"] (scopeOf pw 12) (bodyOf pw 12))
    (f13 : ∃ fa, D.mg (Str.ofString "_law_run") = some (.ref fa) ∧ DefAt D.base fa ["text", "hunks"] (scopeOf pw 13) (bodyOf pw 13))
    (f14 : ∃ fa, D.mg (Str.ofString "_law_holds") = some (.ref fa) ∧ DefAt D.base fa ["text", "hunks", "due"] (scopeOf pw 14) (bodyOf pw 14))
    {fa : Addr} (f15 : DefAt D.base fa ["script"] (scopeOf pw 15) (bodyOf pw 15)) {s₁ : Shared} (hb : s₁.heap = D.base) (hs : StoR D.φ₀ stT s₁.heap) (hg : s₁.gens = #[]) (ho : s₁.os = D.os) {P : Params} {a : Addr} {ns : List Int} (hn : ns.length ≤ 63)
    (hw : W.Well P s₁.heap (.ref a) (W.ofPy (.list (ns.map .int)))) {R : Result → Shared → Prop}
    (hR : ∀ s', (∀ b o, s₁.heap.get? b = some o → s'.heap.get? b = some o) → s'.os = s₁.os → s'.gens = #[] → R (.ok (.ret (.bool true))) s') : codeAny (model D.prog D.w) callerA (.call (.ref fa) ⟨[.ref a], []⟩) R s₁ := by
  obtain ⟨a2, m2, d2⟩ := f2
  obtain ⟨a3, m3, d3⟩ := f3
  obtain ⟨a4, m4, d4⟩ := f4
  obtain ⟨a8, m8, d8⟩ := f8
  obtain ⟨a9, m9, d9⟩ := f9
  obtain ⟨a10, m10, d10⟩ := f10
  obtain ⟨a11, m11, d11⟩ := f11
  obtain ⟨a12, m12, d12⟩ := f12
  obtain ⟨a13, m13, d13⟩ := f13
  obtain ⟨a14, m14, d14⟩ := f14
  have L0 : Lvl D tvT stT := ⟨G, by rw [hΘ]; exact vokT⟩
  have L1 : Lvl _ w1 stT := L0.push (0 + 20) m2 d2 k1
  have L2 : Lvl _ w2 stT := L1.push (0 + 20) m3 d3 k2
  have L3 : Lvl _ w3 stT := L2.push (0 + 20) m4 d4 k3
  have L4 : Lvl _ w4 stT := L3.push (0 + 20) m8 d8 k4
  have L5 : Lvl _ w5 stT := L4.push (0 + 20) m9 d9 k5
  have L6 : Lvl _ w6 stT := L5.push (0 + 20) m10 d10 k6
  have L7 : Lvl _ w7 stT := L6.push (0 + 20) m11 d11 k7
  have L8 : Lvl _ w8 stT := L7.push (0 + 20) m12 d12 k8
  have L9 : Lvl _ w9 stT := L8.push (0 + 20) m13 d13 k9
  have L10 : Lvl _ w10 stT := L9.push (0 + 20) m14 d14 k10
  have ht : ∀ o ∈ stT, o.isL = false := by
    unfold stT
    simp
  refine law_top2 (Θv := w10) (n := 0 + 20) L10 (by simp only [push_prog]) (by simp only [push_w]) (scope := scopeOf pw 15) (body := bodyOf pw 15) (by simp only [push_base]; exact f15) k11 (by simp only [push_base]; exact hb) (by simp only [push_φ₀]; exact hs) ht hg (by simp only [push_os]; exact ho) hw (law_ok 0 ns linesT (fnsT ns hn)) ?_ hR
  simp only [push_r, hr]
  decide
end Mine

end

open PySem PySem.W PyProof.Rows
namespace Mine
set_option maxRecDepth 100000 in
set_option maxHeartbeats 8000000 in
open_top hd for PySem.Challenge.rw_pd_weave_3_05
end Mine
set_option maxRecDepth 100000 in
set_option maxHeartbeats 8000000 in
theorem PySem.Challenge.cw_pd_weave_3_05_holds : PySem.Challenge.rw_pd_weave_3_05.Holds := by
  refine Mine.hd ?_
  k_fill
  intro w s₀ s₁ mg mb G Y fa o pm cd doc dV kV ho hd hcd hD hmg hg args vals as hpre hlay hrd hwl hlo
  have KX := kIn_of Y
  refine Ground.open G ?_
  intro T B D TE TW
  wrow_args hpre hlay hrd hwl hlo
  refine enter_call (codeAny_mono ?_ (fun _ _ g => GoodW.toG g))
  rename_i ns _ _ _ _ _ _ _ a _ _ _ _ hw _ _ _ hcond _
  have hn : ns.length ≤ 63 := by omega
  obtain ⟨C, hC, hq⟩ : ∃ C, OwnCls (Str.ofString "PatchError") C [.type "Exception", .type "BaseException", .type "object"] "Exception.__new__" mg s₁.heap ∧ True := ⟨_, own_of_in KX (topRead_of T) (by k_is) (by kernel_rfl), trivial⟩
  have law : ∃ fa', mg (Str.ofString "law") = some (.ref fa') ∧ Mine.DefAt s₁.heap fa' ["script"] (Mine.scopeOf Mine.pw 15) (Mine.bodyOf Mine.pw 15) := ⟨_, mg_of KX T.g (by k_is), Mine.defAt_of KX (by k_is) (by kernel_rfl) (by kernel_rfl) (Mine.vals1 fun _ => by with_unfolding_all rfl) (by kernel_rfl) (by kernel_rfl) (by kernel_rfl) (by kernel_rfl) (by decide +kernel) (by decide +kernel)⟩
  obtain ⟨fa', hm', law⟩ := law
  have hfa : fa' = fa := by
    have hmg : mg (Str.ofString "law") = some (.ref fa) := hmg
    rw [hm'] at hmg
    cases hmg
    rfl
  subst hfa
  refine Mine.lawT_top (D := ⟨PySem.Challenge.rw_pd_weave_3_05.row.prog, w, Mine.thT, s₁.heap, s₁.os, [47, 48], mg, mb, fun _ => C, 0⟩) rfl rfl ?G
    ⟨_, mg_of KX T.g (by k_is), Mine.defAt_of KX (by k_is) (by kernel_rfl) (by kernel_rfl) (Mine.vals1 fun _ => by with_unfolding_all rfl) (by kernel_rfl) (by kernel_rfl) (by kernel_rfl) (by kernel_rfl) (by decide +kernel) (by decide +kernel)⟩
    ⟨_, mg_of KX T.g (by k_is), Mine.defAt_of KX (by k_is) (by kernel_rfl) (by kernel_rfl) (Mine.vals2 fun _ _ => by with_unfolding_all rfl) (by kernel_rfl) (by kernel_rfl) (by kernel_rfl) (by kernel_rfl) (by decide +kernel) (by decide +kernel)⟩
    ⟨_, mg_of KX T.g (by k_is), Mine.defAt_of KX (by k_is) (by kernel_rfl) (by kernel_rfl) (Mine.vals2 fun _ _ => by with_unfolding_all rfl) (by kernel_rfl) (by kernel_rfl) (by kernel_rfl) (by kernel_rfl) (by decide +kernel) (by decide +kernel)⟩
    ⟨_, mg_of KX T.g (by k_is), Mine.defAt_of KX (by k_is) (by kernel_rfl) (by kernel_rfl) (Mine.vals2 fun _ _ => by with_unfolding_all rfl) (by kernel_rfl) (by kernel_rfl) (by kernel_rfl) (by kernel_rfl) (by decide +kernel) (by decide +kernel)⟩
    ⟨_, mg_of KX T.g (by k_is), Mine.defAt_of KX (by k_is) (by kernel_rfl) (by kernel_rfl) (Mine.vals5 fun _ _ _ _ _ => by with_unfolding_all rfl) (by kernel_rfl) (by kernel_rfl) (by kernel_rfl) (by kernel_rfl) (by decide +kernel) (by decide +kernel)⟩
    ⟨_, mg_of KX T.g (by k_is), Mine.defAt_of KX (by k_is) (by kernel_rfl) (by kernel_rfl) (Mine.vals2 fun _ _ => by with_unfolding_all rfl) (by kernel_rfl) (by kernel_rfl) (by kernel_rfl) (by kernel_rfl) (by decide +kernel) (by decide +kernel)⟩
    ⟨_, mg_of KX T.g (by k_is), Mine.defAt_of KX (by k_is) (by kernel_rfl) (by kernel_rfl) (Mine.vals2 fun _ _ => by with_unfolding_all rfl) (by kernel_rfl) (by kernel_rfl) (by kernel_rfl) (by kernel_rfl) (by decide +kernel) (by decide +kernel)⟩
    ⟨_, mg_of KX T.g (by k_is), Mine.defAt_of KX (by k_is) (by kernel_rfl) (by kernel_rfl) (Mine.vals6 fun _ _ _ _ _ _ => by with_unfolding_all rfl) (by kernel_rfl) (by kernel_rfl) (by kernel_rfl) (by kernel_rfl) (by decide +kernel) (by decide +kernel)⟩
    ⟨_, mg_of KX T.g (by k_is), Mine.defAt_of KX (by k_is) (by kernel_rfl) (by kernel_rfl) (Mine.vals2 fun _ _ => by with_unfolding_all rfl) (by kernel_rfl) (by kernel_rfl) (by kernel_rfl) (by kernel_rfl) (by decide +kernel) (by decide +kernel)⟩
    ⟨_, mg_of KX T.g (by k_is), Mine.defAt_of KX (by k_is) (by kernel_rfl) (by kernel_rfl) (Mine.vals3 fun _ _ _ => by with_unfolding_all rfl) (by kernel_rfl) (by kernel_rfl) (by kernel_rfl) (by kernel_rfl) (by decide +kernel) (by decide +kernel)⟩
    law rfl ?S hg rfl hn hw ?R
  case G =>
    refine { g := T.g, b := T.b, nolimit := T.nolimit, glob := ?_, fn := fun f P h => (by cases h), len := ?_, list := ?_, min := ?_, max := ?_, range := ?_, exc := ?_ }
    · intro x v hx
      have hm := mem_of_lookup (l := Mine.gaT) (n := x) hx
      have key : ∀ p ∈ Mine.gaT, ∃ u, mg p.1 = some u ∧ Mine.RepV [47, 48] p.2 u := by
        unfold Mine.gaT
        simp only [List.forall_mem_cons]
        exact ⟨⟨_, mg_of KX T.g (by k_is), ⟨_, rfl, rfl⟩⟩, ⟨_, mg_of KX T.g (by k_is), ⟨_, rfl, rfl⟩⟩, fun _ h => nomatch h⟩
      exact key _ hm
    · exact ⟨mg_none_of KX T.g (by k_is), (T.builtins _ (by decide +kernel)).trans (by kernel_rfl)⟩
    · exact ⟨mg_none_of KX T.g (by k_is), (T.builtins _ (by decide +kernel)).trans (by kernel_rfl)⟩
    · exact ⟨mg_none_of KX T.g (by k_is), (T.builtins _ (by decide +kernel)).trans (by kernel_rfl)⟩
    · exact ⟨mg_none_of KX T.g (by k_is), (T.builtins _ (by decide +kernel)).trans (by kernel_rfl)⟩
    · exact ⟨mg_none_of KX T.g (by k_is), (T.builtins _ (by decide +kernel)).trans (by kernel_rfl)⟩
    · intro C' h
      have h : C' = Str.ofString "PatchError" := of_decide_eq_true h
      subst h
      exact ⟨_, _, _, _, hC, PySem.F.excBase_Exception⟩
  case S =>
    refine Mine.StoAll.stoR ?_ (show List.Nodup [47, 48] from by decide)
    unfold Mine.stT
    exact .cons (KX _ _ (by k_is)) (Mine.repStrs _ _ _ (by kernel_rfl)) (.cons (KX _ _ (by k_is)) (Mine.repStrs _ _ _ (by kernel_rfl)) (.nil))
  case R =>
    intro s' h1 h2 h3
    exact ⟨.inl ⟨.bool true, .bool true, [], rfl, fun _ => rfl, .bool _, (by first | with_unfolding_all rfl | kernel_rfl | decide +kernel), fun _ => ⟨List.nodup_nil, fun _ h => nomatch h⟩⟩, h1, h2, h3⟩
