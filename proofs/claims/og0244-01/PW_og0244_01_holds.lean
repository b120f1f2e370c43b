import PyProof.Rows.All
import Wide.All
import OpenK.AllK
import Wide.FinOn
import PySem.Challenge.RW_og0244_01
open PySem PySem.W PyProof.Rows PySem.Calls
set_option Elab.async false
set_option maxRecDepth 100000
set_option compiler.extract_closed false
set_option linter.unusedVariables false
namespace Mine
section
local macro_rules | `(tactic| o_head $_H) => `(tactic| contradiction)
set_option maxHeartbeats 8000000 in
theorem pre (h : False) : PySem.Challenge.rw_og0244_01.row.Holds := by k_head
end
def Zz (_ : Nat) : Prop := True
section
theorem gI (h : wpAny x1 x2 (subscriptTail x3 x4 (Value.ref x5) (Value.int x6 x7)) zQ zE zs) : wpAny x1 x2 (subscriptTail x3 x4 (Value.ref x5) (Value.int x6 x7)) zQ zE zs := h
theorem gS (h : wpAny x1 x2 (subscriptTail x3 x4 (Value.ref x5) (Value.str x6 x7)) zQ zE zs) : wpAny x1 x2 (subscriptTail x3 x4 (Value.ref x5) (Value.str x6 x7)) zQ zE zs := h
theorem gN (h : wpAny x1 x2 (subscriptTail x3 x4 (Value.ref x5) (Value.int (-1) x6)) zQ zE zs) : wpAny x1 x2 (subscriptTail x3 x4 (Value.ref x5) (Value.int (-1) x6)) zQ zE zs := h
theorem gF (h : wpAny x1 x2 (getAttr (Value.ref x3) (PySem.Str.ofString "flags") x4) zQ zE zs) : wpAny x1 x2 (getAttr (Value.ref x3) (PySem.Str.ofString "flags") x4) zQ zE zs := h
theorem gG (h : wpAny x1 x2 (getMethod x3 "get" x4) zQ zE zs) : wpAny x1 x2 (getMethod x3 "get" x4) zQ zE zs := h
theorem gT (h : wpAny x1 x2 (PySem.setItem (Value.ref x3) (Value.int (-1) x4) (Value.int x5 x6)) zQ zE zs) : wpAny x1 x2 (PySem.setItem (Value.ref x3) (Value.int (-1) x4) (Value.int x5 x6)) zQ zE zs := h
theorem gL0 (h : wpAny x1 x2 (eval (PySem.Expr.ListComp x3 [⟨x4, x5, [], x6⟩] x7 x8) x9) zQ zE zs) : wpAny x1 x2 (eval (PySem.Expr.ListComp x3 [⟨x4, x5, [], x6⟩] x7 x8) x9) zQ zE zs := h
theorem gL1 (h : wpAny x1 x2 (eval (PySem.Expr.ListComp x3 [⟨x4, x5, [x6], x7⟩] x8 x9) x10) zQ zE zs) : wpAny x1 x2 (eval (PySem.Expr.ListComp x3 [⟨x4, x5, [x6], x7⟩] x8 x9) x10) zQ zE zs := h
theorem gM0 (h : wpAny x1 x2 (exec (PySem.Stmt.Assign x3 (PySem.Expr.ListComp x4 [⟨x5, x6, [], x7⟩] x8 x9) x10) x11) zQ zE zs) : wpAny x1 x2 (exec (PySem.Stmt.Assign x3 (PySem.Expr.ListComp x4 [⟨x5, x6, [], x7⟩] x8 x9) x10) x11) zQ zE zs := h
theorem gM1 (h : wpAny x1 x2 (exec (PySem.Stmt.Assign x3 (PySem.Expr.ListComp x4 [⟨x5, x6, [x7], x8⟩] x9 x10) x11) x12) zQ zE zs) : wpAny x1 x2 (exec (PySem.Stmt.Assign x3 (PySem.Expr.ListComp x4 [⟨x5, x6, [x7], x8⟩] x9 x10) x11) x12) zQ zE zs := h
theorem gFO (h : wpAny x1 x2 (exec (PySem.Stmt.For x3 (PySem.Expr.Name (PySem.Str.ofString "FIRST_ON") x4) x5 x6 x7) x8) zQ zE zs) : wpAny x1 x2 (exec (PySem.Stmt.For x3 (PySem.Expr.Name (PySem.Str.ofString "FIRST_ON") x4) x5 x6 x7) x8) zQ zE zs := h
noncomputable abbrev P : Program := PySem.Challenge.rw_og0244_01.row.prog

abbrev Led := List (Addr × Obj)
def Apart (foot rest : Led) : Prop := ∀ p ∈ foot, ∀ q ∈ rest, p.1 ≠ q.1

theorem Apart.nil {rest : Led} : Apart [] rest := fun _ hp => (nomatch hp)
theorem Apart.cons {a : Addr} {o : Obj} {foot rest : Led} (h : ∀ q ∈ rest, q.1 ≠ a) (r : Apart foot rest) : Apart ((a, o) :: foot) rest := fun p hp q hq => by
  rcases List.mem_cons.mp hp with rfl | hp
  · exact fun e => h q hq e.symm
  · exact r p hp q hq

inductive Pick : (Addr × Obj) → Led → Led → Prop
  | head {p r} : Pick p (p :: r) r
  | tail {p q r r'} : Pick p r r' → Pick p (q :: r) (q :: r')
theorem sub_nil {α : Type} {b : List α} : ∀ q ∈ ([] : List α), q ∈ b := fun _ h => nomatch h
theorem sub_cons {α : Type} {p : α} {a b : List α} (h : p ∈ b) (t : ∀ q ∈ a, q ∈ b) : ∀ q ∈ p :: a, q ∈ b := List.forall_mem_cons.mpr ⟨h, t⟩
theorem off_nil {a : Addr} : ∀ q ∈ ([] : Led), q.1 ≠ a := fun _ h => nomatch h
theorem off_cons {x : Addr × Obj} {l : Led} {a : Addr} (h : x.1 ≠ a) (t : ∀ q ∈ l, q.1 ≠ a) : ∀ q ∈ x :: l, q.1 ≠ a := List.forall_mem_cons.mpr ⟨h, t⟩
theorem off_cons2 {a : Addr} {o : Obj} {l : Led} {x : Addr} (h : @Ne Nat a x) (t : ∀ q ∈ l, q.1 ≠ x) : ∀ q ∈ (a, o) :: l, q.1 ≠ x := List.forall_mem_cons.mpr ⟨h, t⟩
def nthN : List Nat → Nat → Nat
  | [], _ => 0
  | a :: _, 0 => a
  | _ :: l, i + 1 => nthN l i
def inb : List Nat → Nat → Bool
  | [], _ => false
  | _ :: _, 0 => true
  | _ :: l, i + 1 => inb l i
def AP1 (a : Nat) (bs : List Nat) : Prop := ∀ (i : Nat) (c : Bool), inb bs i = true → bif c then @Ne Nat a (nthN bs i) else @Ne Nat (nthN bs i) a
theorem tru : true = true := rfl
theorem nth_mem : ∀ {bs : List Nat} {i : Nat}, inb bs i = true → nthN bs i ∈ bs
  | _ :: _, 0, _ => .head _
  | _ :: l, _ + 1, h => .tail _ (nth_mem (bs := l) h)
theorem mem_nth : ∀ {bs : List Nat} {b : Nat}, b ∈ bs → ∃ i, inb bs i = true ∧ nthN bs i = b
  | _, _, .head _ => ⟨0, rfl, rfl⟩
  | _ :: _, _, .tail _ h => let ⟨i, h1, h2⟩ := mem_nth h; ⟨i + 1, h1, h2⟩
theorem AP1.mk {a : Nat} {bs : List Nat} (h : ∀ b ∈ bs, a ≠ b) : AP1 a bs := fun i c hi => by
  cases c
  · exact (h _ (nth_mem hi)).symm
  · exact h _ (nth_mem hi)
theorem AP1.get {a b : Nat} {bs : List Nat} (h : AP1 a bs) (hb : b ∈ bs) : @Ne Nat a b := by
  obtain ⟨i, h1, rfl⟩ := mem_nth hb
  exact h i true h1
abbrev UseB (c : Bool) (a b : Nat) (bs : List Nat) : Prop := AP1 a bs → bif c then @Ne Nat a b else @Ne Nat b a
theorem AP1.sub {a : Nat} {bs cs : List Nat} (h : AP1 a bs) (hs : ∀ b ∈ cs, b ∈ bs) : AP1 a cs := .mk fun b hb => h.get (hs b hb)
theorem AP1.nil {a : Nat} : AP1 a [] := .mk fun _ hb => nomatch hb
theorem AP1.cons {a b : Nat} {bs : List Nat} (h : @Ne Nat a b) (hs : AP1 a bs) : AP1 a (b :: bs) := .mk fun c hc => by
  rcases List.mem_cons.mp hc with rfl | hc
  · exact h
  · exact hs.get hc
theorem AP1.app {a : Nat} {bs cs : List Nat} (h : AP1 a bs) (k : AP1 a cs) : AP1 a (bs ++ cs) := .mk fun _ hb => (List.mem_append.mp hb).elim h.get k.get
theorem AP1.of {a : Addr} {o : Obj} {f rest : Led} (h : Apart ((a, o) :: f) rest) : AP1 a (rest.map (·.1)) := .mk fun b hb => by
  obtain ⟨q, hq, e⟩ := List.mem_map.mp hb
  exact e ▸ h (a, o) (.head _) q hq
theorem AP1.ofLt {d : Addr} {l : Led} (h : ∀ p ∈ l, p.1 < d) : AP1 d (l.map (·.1)) := .mk fun b hb => by
  obtain ⟨q, hq, e⟩ := List.mem_map.mp hb
  exact e ▸ (Nat.ne_of_gt (h q hq))
theorem AP1.ofMem {a : Addr} {o : Obj} {foot rest : Led} (h : Apart foot rest) (hm : (a, o) ∈ foot) : AP1 a (rest.map (·.1)) := .mk fun b hb => by
  obtain ⟨q, hq, rfl⟩ := List.mem_map.mp hb
  exact h _ hm q hq
theorem le_lit {x a b : Nat} (h : x ≤ a) (k : Nat.ble a b = true) : x ≤ b := Nat.le_trans h (Nat.le_of_ble_eq_true k)
theorem le_lt {x a b : Nat} (h : x < a) (k : Nat.ble a (b + 1) = true) : x ≤ b := Nat.le_of_lt_succ (Nat.lt_of_lt_of_le h (Nat.le_of_ble_eq_true k))
theorem room_lit {x a n b : Nat} (h : x ≤ a) (k : Nat.ble (a + n + 1) b = true) : x + n < b := Nat.lt_of_le_of_lt (Nat.add_le_add_right h n) (Nat.le_of_ble_eq_true k)
theorem cells_ap {L : Nat} {foot : Led} (h : ∀ p ∈ foot, p.1 < L) : AP1 (L + 1) (foot.map (·.1)) ∧ AP1 (L + 1 + 1) ((L + 1) :: foot.map (·.1)) := by
  have key : ∀ b ∈ foot.map (·.1), b < L := fun b hb => by
    obtain ⟨p, hp, e⟩ := List.mem_map.mp hb
    exact e ▸ h p hp
  exact ⟨.mk fun b hb => Nat.ne_of_gt (Nat.lt_succ_of_lt (key b hb)), .cons (Nat.succ_ne_self _) (.mk fun b hb => Nat.ne_of_gt (Nat.lt_succ_of_lt (Nat.lt_succ_of_lt (key b hb))))⟩
theorem me0 {α : Type} {x : α} {l : List α} : x ∈ x :: l := .head _
theorem me1 {α : Type} {a0 x : α} {l : List α} : x ∈ a0 :: x :: l := .tail _ (.head _)
theorem me2 {α : Type} {a0 a1 x : α} {l : List α} : x ∈ a0 :: a1 :: x :: l := .tail _ (.tail _ (.head _))
theorem me3 {α : Type} {a0 a1 a2 x : α} {l : List α} : x ∈ a0 :: a1 :: a2 :: x :: l := .tail _ (.tail _ (.tail _ (.head _)))
theorem me4 {α : Type} {a0 a1 a2 a3 x : α} {l : List α} : x ∈ a0 :: a1 :: a2 :: a3 :: x :: l := .tail _ (.tail _ (.tail _ (.tail _ (.head _))))
theorem me5 {α : Type} {a0 a1 a2 a3 a4 x : α} {l : List α} : x ∈ a0 :: a1 :: a2 :: a3 :: a4 :: x :: l := .tail _ (.tail _ (.tail _ (.tail _ (.tail _ (.head _)))))
theorem me6 {α : Type} {a0 a1 a2 a3 a4 a5 x : α} {l : List α} : x ∈ a0 :: a1 :: a2 :: a3 :: a4 :: a5 :: x :: l := .tail _ (.tail _ (.tail _ (.tail _ (.tail _ (.tail _ (.head _))))))
theorem me7 {α : Type} {a0 a1 a2 a3 a4 a5 a6 x : α} {l : List α} : x ∈ a0 :: a1 :: a2 :: a3 :: a4 :: a5 :: a6 :: x :: l := .tail _ (.tail _ (.tail _ (.tail _ (.tail _ (.tail _ (.tail _ (.head _)))))))
theorem me8 {α : Type} {a0 a1 a2 a3 a4 a5 a6 a7 x : α} {l : List α} : x ∈ a0 :: a1 :: a2 :: a3 :: a4 :: a5 :: a6 :: a7 :: x :: l := .tail _ (.tail _ (.tail _ (.tail _ (.tail _ (.tail _ (.tail _ (.tail _ (.head _))))))))
theorem me9 {α : Type} {a0 a1 a2 a3 a4 a5 a6 a7 a8 x : α} {l : List α} : x ∈ a0 :: a1 :: a2 :: a3 :: a4 :: a5 :: a6 :: a7 :: a8 :: x :: l := .tail _ (.tail _ (.tail _ (.tail _ (.tail _ (.tail _ (.tail _ (.tail _ (.tail _ (.head _)))))))))
theorem me10 {α : Type} {a0 a1 a2 a3 a4 a5 a6 a7 a8 a9 x : α} {l : List α} : x ∈ a0 :: a1 :: a2 :: a3 :: a4 :: a5 :: a6 :: a7 :: a8 :: a9 :: x :: l := .tail _ (.tail _ (.tail _ (.tail _ (.tail _ (.tail _ (.tail _ (.tail _ (.tail _ (.tail _ (.head _))))))))))
theorem me11 {α : Type} {a0 a1 a2 a3 a4 a5 a6 a7 a8 a9 a10 x : α} {l : List α} : x ∈ a0 :: a1 :: a2 :: a3 :: a4 :: a5 :: a6 :: a7 :: a8 :: a9 :: a10 :: x :: l := .tail _ (.tail _ (.tail _ (.tail _ (.tail _ (.tail _ (.tail _ (.tail _ (.tail _ (.tail _ (.tail _ (.head _)))))))))))
theorem me12 {α : Type} {a0 a1 a2 a3 a4 a5 a6 a7 a8 a9 a10 a11 x : α} {l : List α} : x ∈ a0 :: a1 :: a2 :: a3 :: a4 :: a5 :: a6 :: a7 :: a8 :: a9 :: a10 :: a11 :: x :: l := .tail _ (.tail _ (.tail _ (.tail _ (.tail _ (.tail _ (.tail _ (.tail _ (.tail _ (.tail _ (.tail _ (.tail _ (.head _))))))))))))
theorem me13 {α : Type} {a0 a1 a2 a3 a4 a5 a6 a7 a8 a9 a10 a11 a12 x : α} {l : List α} : x ∈ a0 :: a1 :: a2 :: a3 :: a4 :: a5 :: a6 :: a7 :: a8 :: a9 :: a10 :: a11 :: a12 :: x :: l := .tail _ (.tail _ (.tail _ (.tail _ (.tail _ (.tail _ (.tail _ (.tail _ (.tail _ (.tail _ (.tail _ (.tail _ (.tail _ (.head _)))))))))))))
theorem me14 {α : Type} {a0 a1 a2 a3 a4 a5 a6 a7 a8 a9 a10 a11 a12 a13 x : α} {l : List α} : x ∈ a0 :: a1 :: a2 :: a3 :: a4 :: a5 :: a6 :: a7 :: a8 :: a9 :: a10 :: a11 :: a12 :: a13 :: x :: l := .tail _ (.tail _ (.tail _ (.tail _ (.tail _ (.tail _ (.tail _ (.tail _ (.tail _ (.tail _ (.tail _ (.tail _ (.tail _ (.tail _ (.head _))))))))))))))
theorem pi1 {a0 x : Addr × Obj} {l : Led} : Pick x (a0 :: x :: l) (a0 :: l) := .tail (.head)
theorem pi2 {a0 a1 x : Addr × Obj} {l : Led} : Pick x (a0 :: a1 :: x :: l) (a0 :: a1 :: l) := .tail (.tail (.head))
theorem pi3 {a0 a1 a2 x : Addr × Obj} {l : Led} : Pick x (a0 :: a1 :: a2 :: x :: l) (a0 :: a1 :: a2 :: l) := .tail (.tail (.tail (.head)))
theorem pi4 {a0 a1 a2 a3 x : Addr × Obj} {l : Led} : Pick x (a0 :: a1 :: a2 :: a3 :: x :: l) (a0 :: a1 :: a2 :: a3 :: l) := .tail (.tail (.tail (.tail (.head))))
theorem pi5 {a0 a1 a2 a3 a4 x : Addr × Obj} {l : Led} : Pick x (a0 :: a1 :: a2 :: a3 :: a4 :: x :: l) (a0 :: a1 :: a2 :: a3 :: a4 :: l) := .tail (.tail (.tail (.tail (.tail (.head)))))
theorem pi6 {a0 a1 a2 a3 a4 a5 x : Addr × Obj} {l : Led} : Pick x (a0 :: a1 :: a2 :: a3 :: a4 :: a5 :: x :: l) (a0 :: a1 :: a2 :: a3 :: a4 :: a5 :: l) := .tail (.tail (.tail (.tail (.tail (.tail (.head))))))
theorem pi7 {a0 a1 a2 a3 a4 a5 a6 x : Addr × Obj} {l : Led} : Pick x (a0 :: a1 :: a2 :: a3 :: a4 :: a5 :: a6 :: x :: l) (a0 :: a1 :: a2 :: a3 :: a4 :: a5 :: a6 :: l) := .tail (.tail (.tail (.tail (.tail (.tail (.tail (.head)))))))
theorem pi8 {a0 a1 a2 a3 a4 a5 a6 a7 x : Addr × Obj} {l : Led} : Pick x (a0 :: a1 :: a2 :: a3 :: a4 :: a5 :: a6 :: a7 :: x :: l) (a0 :: a1 :: a2 :: a3 :: a4 :: a5 :: a6 :: a7 :: l) := .tail (.tail (.tail (.tail (.tail (.tail (.tail (.tail (.head))))))))
theorem pi9 {a0 a1 a2 a3 a4 a5 a6 a7 a8 x : Addr × Obj} {l : Led} : Pick x (a0 :: a1 :: a2 :: a3 :: a4 :: a5 :: a6 :: a7 :: a8 :: x :: l) (a0 :: a1 :: a2 :: a3 :: a4 :: a5 :: a6 :: a7 :: a8 :: l) := .tail (.tail (.tail (.tail (.tail (.tail (.tail (.tail (.tail (.head)))))))))
theorem pi10 {a0 a1 a2 a3 a4 a5 a6 a7 a8 a9 x : Addr × Obj} {l : Led} : Pick x (a0 :: a1 :: a2 :: a3 :: a4 :: a5 :: a6 :: a7 :: a8 :: a9 :: x :: l) (a0 :: a1 :: a2 :: a3 :: a4 :: a5 :: a6 :: a7 :: a8 :: a9 :: l) := .tail (.tail (.tail (.tail (.tail (.tail (.tail (.tail (.tail (.tail (.head))))))))))
theorem pi11 {a0 a1 a2 a3 a4 a5 a6 a7 a8 a9 a10 x : Addr × Obj} {l : Led} : Pick x (a0 :: a1 :: a2 :: a3 :: a4 :: a5 :: a6 :: a7 :: a8 :: a9 :: a10 :: x :: l) (a0 :: a1 :: a2 :: a3 :: a4 :: a5 :: a6 :: a7 :: a8 :: a9 :: a10 :: l) := .tail (.tail (.tail (.tail (.tail (.tail (.tail (.tail (.tail (.tail (.tail (.head)))))))))))
theorem pi12 {a0 a1 a2 a3 a4 a5 a6 a7 a8 a9 a10 a11 x : Addr × Obj} {l : Led} : Pick x (a0 :: a1 :: a2 :: a3 :: a4 :: a5 :: a6 :: a7 :: a8 :: a9 :: a10 :: a11 :: x :: l) (a0 :: a1 :: a2 :: a3 :: a4 :: a5 :: a6 :: a7 :: a8 :: a9 :: a10 :: a11 :: l) := .tail (.tail (.tail (.tail (.tail (.tail (.tail (.tail (.tail (.tail (.tail (.tail (.head))))))))))))
theorem pi13 {a0 a1 a2 a3 a4 a5 a6 a7 a8 a9 a10 a11 a12 x : Addr × Obj} {l : Led} : Pick x (a0 :: a1 :: a2 :: a3 :: a4 :: a5 :: a6 :: a7 :: a8 :: a9 :: a10 :: a11 :: a12 :: x :: l) (a0 :: a1 :: a2 :: a3 :: a4 :: a5 :: a6 :: a7 :: a8 :: a9 :: a10 :: a11 :: a12 :: l) := .tail (.tail (.tail (.tail (.tail (.tail (.tail (.tail (.tail (.tail (.tail (.tail (.tail (.head)))))))))))))
theorem pi14 {a0 a1 a2 a3 a4 a5 a6 a7 a8 a9 a10 a11 a12 a13 x : Addr × Obj} {l : Led} : Pick x (a0 :: a1 :: a2 :: a3 :: a4 :: a5 :: a6 :: a7 :: a8 :: a9 :: a10 :: a11 :: a12 :: a13 :: x :: l) (a0 :: a1 :: a2 :: a3 :: a4 :: a5 :: a6 :: a7 :: a8 :: a9 :: a10 :: a11 :: a12 :: a13 :: l) := .tail (.tail (.tail (.tail (.tail (.tail (.tail (.tail (.tail (.tail (.tail (.tail (.tail (.tail (.head))))))))))))))
theorem Pick.mem {p : Addr × Obj} {l r : Led} (h : Pick p l r) : ∀ x ∈ p :: r, x ∈ l := by
  induction h with
  | head => exact fun x hx => hx
  | tail _ ih =>
    intro x hx
    rcases List.mem_cons.mp hx with rfl | hx
    · exact .tail _ (ih _ (.head _))
    · rcases List.mem_cons.mp hx with rfl | hx
      · exact .head _
      · exact .tail _ (ih _ (.tail _ hx))
inductive Picks : Led → Led → Led → Prop
  | nil {l} : Picks [] l l
  | cons {p foot l r r'} : Pick p l r → Picks foot r r' → Picks (p :: foot) l r'
theorem Picks.mem {foot l r : Led} (h : Picks foot l r) : ∀ x ∈ foot ++ r, x ∈ l := by
  induction h with
  | nil => exact fun x hx => hx
  | cons hp _ ih =>
    intro x hx
    rcases List.mem_cons.mp hx with rfl | hx
    · exact hp.mem _ (.head _)
    · exact hp.mem _ (.tail _ (ih _ hx))

def NeAll (a : Nat) : Led → Prop
  | [] => True
  | q :: r => @Ne Nat a q.1 ∧ NeAll a r
def ApartL : Led → Led → Prop
  | [], _ => True
  | p :: r, rest => NeAll p.1 rest ∧ ApartL r rest
theorem NeAll.of {a : Addr} : ∀ {rest : Led}, (∀ q ∈ rest, a ≠ q.1) → NeAll a rest
  | [], _ => trivial
  | q :: _, h => ⟨h q (.head _), NeAll.of fun p hp => h p (.tail _ hp)⟩
theorem ApartL.of : ∀ {foot rest : Led}, Apart foot rest → ApartL foot rest
  | [], _, _ => trivial
  | p :: _, _, h => ⟨NeAll.of (h p (.head _)), ApartL.of fun q hq => h q (.tail _ hq)⟩
theorem news_sub {h₀ h : Heap} {L : Addr} {a b : Led} (N : News h₀ L h a) (hs : ∀ x ∈ b, x ∈ a) : News h₀ L h b := fun p hp => N p (hs p hp)

structure EV where
  dp : Nat
  un : Nat
  gd : Option (List Code)
  outer : List Env
abbrev kt (qual : Str) (scope : Scope) (f : Addr) (cdv : Value) (ev : EV) (L : Addr) : Around := ktrTop ev.dp ev.un ev.gd qual scope L f cdv [] ev.outer
abbrev ke (qual : Str) (scope : Scope) (f : Addr) (cdv : Value) (L : Addr) : Env := envX qual scope L f cdv []
abbrev ktC (qual : Str) (scope : Scope) (f : Addr) (cdv : Value) (ev : EV) (L : Addr) : Around := ktrTop ev.dp ev.un ev.gd qual scope L f cdv (cellsFrom (L + 1) scope.names []) ev.outer
abbrev keC (qual : Str) (scope : Scope) (f : Addr) (cdv : Value) (L : Addr) : Env := envX qual scope L f cdv (cellsFrom (L + 1) scope.names [])
def LeaveF (g : Heap) (s : Shared) (Post : Value → Led → Prop) (v : Value) (s' : Shared) : Prop :=
  ∀ R : Prop, (∀ (L' : Addr) (m' : Str → Option Value) (news' foot' : Led) (h' : Heap) (tk : Nat), s' = { s with heap := h', toks := tk } → Fr g L' h' m' → News g L' h' news' → (∀ p ∈ foot', p ∈ news') → Post v foot' → R) → R

theorem leaveF_ {g : Heap} {s : Shared} {Post : Value → Led → Prop} {v : Value} {L' : Addr} {m' : Str → Option Value} {news' foot' : Led} {h' : Heap} {tk : Nat}
    (F : Fr g L' h' m') (N : News g L' h' news') (hs : ∀ p ∈ foot', p ∈ news') (hp : Post v foot') : LeaveF g s Post v { s with heap := h', toks := tk } :=
  fun _ k => k L' m' news' foot' h' tk rfl F N hs hp

def LeaveH (g : Heap) (s : Shared) (Post : Value → Led → Prop) (QL : Flow → Shared → Prop) : Prop :=
  ∀ fl s', LeaveF g s Post (match fl with | .ret v => v | _ => .none) s' → QL fl s'
theorem LeaveH.leave {g : Heap} {s : Shared} {Post : Value → Led → Prop} {QL : Flow → Shared → Prop} {fl : Flow} {L' : Addr} {m' : Str → Option Value} {news' foot' : Led} {h' : Heap} {tk : Nat}
    (hL : LeaveH g s Post QL) (F : Fr g L' h' m') (N : News g L' h' news') (hs : ∀ p ∈ foot', p ∈ news') (hp : Post (match fl with | .ret v => v | _ => .none) foot') : QL fl { s with heap := h', toks := tk } :=
  hL _ _ (leaveF_ F N hs hp)

structure Site (w : World) (pgm : Program) (loo : List Str) (mean : ExcName → Option Value) (mg mb : Str → Option Value) (D U dp un : Nat) (cs : Scope) (outer : List Env) (A₀ : Around) (base h₀ : Heap) (L : Addr) (h : Heap) (m : Str → Option Value) (news : Led) : Prop where
  B : Below A₀ base outer h₀
  F : Fr h₀ L h m
  X : (pre.heap_1 w.params).In h₀
  T : Top pgm loo mean mg mb h₀
  N : News h₀ L h news
  k : cs.kind = .function
  d : dp ≤ D
  u : un ≤ U
def Spec (w : World) (pgm : Program) (loo : List Str) (mean : ExcName → Option Value) (mg mb : Str → Option Value) (f : Value) (D U : Nat) (args : List Value) (foot : Led) (Post : Value → Led → Prop) : Prop :=
  ∀ (dp un : Nat) (gd : Option (List Code)) (cn : Str) (cs : Scope) (a : Addr) (ccd : Value) (cl : List (Str × Addr)) (outer : List Env) (A₀ : Around) (base h₀ : Heap) (L : Addr) (m : Str → Option Value) (news rest : Led) (s : Shared)
    (Q E : Value → Shared → Prop),
    Below A₀ base outer h₀ → Fr h₀ L s.heap m → (pre.heap_1 w.params).In h₀ → Top pgm loo mean mg mb h₀ → cs.kind = .function → dp ≤ D → un ≤ U →
    News h₀ L s.heap news → Picks foot news rest → Apart foot rest →
    (∀ r foot' h' tk, Post r foot' → Fr h₀ L h' m → News h₀ L h' (foot' ++ rest) → Apart foot' rest → Q r { s with heap := h', toks := tk }) →
    wpAny (model PySem.Challenge.rw_og0244_01.row.prog w) (ktrTop dp un gd cn cs L a ccd cl outer) (call f args) Q E s

section
variable {w : World} {pgm : Program} {loo : List Str} {mean : ExcName → Option Value} {mg mb : Str → Option Value}

theorem spec_of {D U : Nat} {name qual : Str} {params : Arguments} {body : List Stmt} {scope : Scope} {dV kV doc pm cdv ct oc : Value} {an od : Option Addr} {osl : Array (Option Value)} {f : Addr} {args : List Value} {binds : List (Str × Value)} {foot : Led} {Post : Value → Led → Prop}
    (ho : (pre.heap_1 w.params).lookup f = some ⟨oc, od, .func (fnOf name qual params body scope dV kV doc pm an cdv ct), osl⟩) (hcd : codeIn (pre.heap_1 w.params) cdv qual = true) (hroom : D < recursionLimit)
    (hbind : ∀ s : Shared, (pre.heap_1 w.params).In s.heap → BindsTo s (fnOf name qual params body scope dV kV doc pm an cdv ct) ⟨args, []⟩ binds) (hloc : ∀ y ∈ binds, scope.names.lookup y.1 = some .local)
    (h : ∀ (ev : EV) (A₀ : Around) (base g : Heap) (L' : Addr) (h₁ : Heap) (s : Shared) (tk : Nat), ev.dp ≤ D + 1 → ev.un ≤ U + 3 →
      Below A₀ base ev.outer g → Fr g L' h₁ (fun y => binds.reverse.lookup y) → News g L' h₁ foot → (pre.heap_1 w.params).In g → Top pgm loo mean mg mb g → (∀ p ∈ foot, p.1 < L') → ∀ QL, LeaveH g s Post QL →
      wpAny (model PySem.Challenge.rw_og0244_01.row.prog w) (kt qual scope f cdv ev L') (execs body (ke qual scope f cdv L'))
        QL (fun _ _ => False) { s with heap := h₁, toks := tk })
    (hco : scope.isCoroutine = false) (hgen : scope.isGenerator = false) (hk : scope.kind = .function)
    (hcell : ∀ x ∈ scope.names, x.2 ≠ .cell) : Spec w pgm loo mean mg mb (.ref f) D U args foot Post := by
  intro dp un gd cn cs a ccd cl outer A₀ base h₀ L m news rest s Q E B F X T hcs hD hU N PK AP hQ
  refine wpAny_call ?_
  have Nf : News h₀ L s.heap foot := news_sub N fun x hx => PK.mem x (List.mem_append_left _ hx)
  have Nr : News h₀ L s.heap rest := news_sub N fun x hx => PK.mem x (List.mem_append_right _ hx)
  have hA : (ktrTop dp un gd cn cs L a ccd cl outer).frames = some (envX cn cs L a ccd cl :: outer) := rfl
  obtain ⟨FG, BG, st, _⟩ := groundX (R := fun _ _ => True) B F Nf hA rfl hcs
  have restG : ∀ q ∈ rest, (hideAll s.heap (foot.map (·.1))).get? q.1 = some q.2 := fun q hq => hideAll_get _ (Nr q hq).1 fun hm => by
    obtain ⟨p, hp, e⟩ := List.mem_map.mp hm
    exact AP p hp q hq e
  obtain ⟨oL, es, ep, hL, hLd, hLk, hLf⟩ := F.ns
  have hLg : (hideAll s.heap (foot.map (·.1))).get? L = some oL := hideAll_get _ hL fun hm => by
    obtain ⟨p, hp, e⟩ := List.mem_map.mp hm
    exact (Nf p hp).2.1 e
  have X' : (pre.heap_1 w.params).In s.heap := X.keeps F.keep
  refine codeAny_call_def (fd := fnOf name qual params body scope dV kV doc pm an cdv ct) (body := body) (binds := binds) (Nat.lt_of_le_of_lt hD hroom) (X' _ _ ho) rfl (T.nolimit.keeps F.keep) (codeRec_of X' hcd) rfl (hbind s X') hcell hloc (fun h₁ hns hk₁ => ?_) hco hgen hk
  refine wpAny_mono (h ⟨dp + 1, un + 3, gd, envX cn cs L a ccd cl :: outer⟩ _ base (hideAll s.heap (foot.map (·.1))) s.heap.objs.size h₁ s (s.toks + binds.length) (Nat.succ_le_succ hD) (Nat.add_le_add_right hU 3) BG
    ⟨hns, fun b o e => hk₁ b o (of_hideAll _ e), Nat.le_of_eq (hideAll_size _ _)⟩
    (fun p hp => ⟨hk₁ _ _ (Nf p hp).1, Nat.ne_of_lt (Heap.lt_size (Nf p hp).1), hideAll_none _ (List.mem_map_of_mem hp)⟩) (X.keeps st) (T.keeps st) (fun p hp => Heap.lt_size (Nf p hp).1) _ (fun _ _ h => h)) (fun fl s' hl => ?_) fun _ _ e => e.elim
  refine hl _ ?_; rintro L' m' news' foot' h' tk rfl F' N' hs hp
  refine hQ _ foot' h' tk hp ⟨⟨oL, es, ep, F'.keep L oL hLg, hLd, hLk, hLf⟩, fun b o e => F'.keep b o (st b o e), F.above⟩ ?_ ?_
  · intro p hp
    rcases List.mem_append.mp hp with q | q
    · have n := N' p (hs p q)
      refine ⟨n.1, fun e => ?_, ?_⟩
      · have := n.2.2; rw [e, hLg] at this; cases this
      · cases q : h₀.get? p.1 with
        | none => rfl
        | some o => have := n.2.2; rw [st _ _ q] at this; cases this
    · exact ⟨F'.keep _ _ (restG p q), (Nr p q).2⟩
  · intro p hp q hq e
    have := (N' p (hs p hp)).2.2
    rw [e, restG q hq] at this; cases this
end
end
local macro_rules | `(tactic| kl_some) => `(tactic| ((intro h; first | exact h 0 _ tru | exact h 1 _ tru | exact h 2 _ tru | exact h 3 _ tru | exact h 4 _ tru | exact h 5 _ tru | exact h 6 _ tru | exact h 7 _ tru | exact h 8 _ tru | exact h 9 _ tru | exact h 10 _ tru | exact h 11 _ tru | exact h 12 _ tru | exact h 13 _ tru | exact h 14 _ tru)))
local macro_rules | `(tactic| km_mul $h) => `(tactic| (((have l0 := AP1.ofLt $h); (try dsimp only [List.map] at l0); (replace $h := allLt_of $h); (simp only [AllLt, and_true] at $h:ident))))
local macro_rules | `(tactic| f_shut $h) => `(tactic| (((replace $h := AP1.ofLt $h); (try dsimp only [List.map] at $h:ident))))
local macro_rules | `(tactic| walk_at "mine le") => `(tactic| (first | exact le_lit (by with_reducible assumption) (by exact tru) | exact le_lt (by with_reducible assumption) (by exact tru) | assumption | omega | (simp only [units_in1] at *; omega)))
local macro_rules | `(tactic| walk_at "mine pick") => `(tactic| (first | exact Pick.head | exact pi1 | exact pi2 | exact pi3 | exact pi4 | exact pi5 | exact pi6 | exact pi7 | exact pi8 | exact pi9 | exact pi10 | exact pi11 | exact pi12 | exact pi13 | exact pi14))
local macro_rules | `(tactic| walk_at "mine apart") => `(tactic| ((repeat (first | exact Apart.nil | refine Apart.cons (by k_all) ?_))))
local macro_rules | `(tactic| walk_at "mine site1") => `(tactic| (constructor; k_asm; k_asm; k_asm; k_asm; k_asm; exact rfl; walk_at "mine le"; walk_at "mine le"))
local macro_rules | `(tactic| walk_at "mine site") => `(tactic| (constructor; walk_at "mine site1"; constructor; walk_at "mine picks"; walk_at "mine apart"))
local macro_rules | `(tactic| walk_at "mine after") => `(tactic| (k_whole; intros; (try k_sweep); (try k_fold)))
local macro_rules | `(tactic| walk_at "mine pick3") => `(tactic| ((apply Picks.cons; walk_at "mine pick"); (apply Picks.cons; walk_at "mine pick"); (apply Picks.cons; walk_at "mine pick")))
local macro_rules | `(tactic| walk_at "mine picks") => `(tactic| ((repeat (first | exact Picks.nil | (apply Picks.cons; walk_at "mine pick")))))
local macro_rules | `(tactic| walk_at "mine lt") => `(tactic| (k_whole; intros; (rename ∀ p ∈ (_ : Led), p.1 < _ => l1); (try k_lt l1); (try k_sweep)))
local macro_rules | `(tactic| walk_at "mine afterS") => `(tactic| (k_whole; intros; (rename News _ _ _ _ => N9); (try simp only [List.cons_append, List.nil_append] at N9); (try k_sweep); (try k_fold)))
local macro_rules | `(tactic| walk_at "mine afterG") => `(tactic| (k_whole; intros; (try (rename AP1 _ _ => ap8; dsimp only [List.map] at ap8)); (try k_sweep); (try k_fold)))
local macro_rules | `(tactic| walk_at "mine afterQ") => `(tactic| (k_whole; intros; (try dsimp only [List.map, List.cons_append, List.nil_append] at *); (try k_sweep); (try k_fold)))
local macro_rules | `(tactic| walk_at "mine afterV") => `(tactic| (k_whole; intros; (rename AP1 _ _ => ap8); (try dsimp only [List.map] at ap8); (try k_sweep); (try k_fold)))
local macro_rules | `(tactic| walk_at "mine kap") => `(tactic| (focus ((repeat (first | exact AP1.nil | refine AP1.cons (by k_ne) ?_)); done)))
section
set_option maxHeartbeats 1000000
theorem use_spec {w : World} {pgm : Program} {loo : List Str} {mean : ExcName → Option Value} {mg mb : Str → Option Value} {dp un : Nat} {gd : Option (List Code)} {cn : Str} {cs : Scope} {a : Addr} {ccd : Value} {cl : List (Str × Addr)} {outer : List Env} {A₀ : Around} {base h₀ : Heap} {L : Addr} {m : Str → Option Value} {news rest : Led} {s : Shared} {Q E : Value → Shared → Prop}
    {f : Value} {D U : Nat} {args : List Value} {foot : Led} {Post : Value → Led → Prop} (S : Spec w pgm loo mean mg mb f D U args foot Post)
    (zS : Site w pgm loo mean mg mb D U dp un cs outer A₀ base h₀ L s.heap m news ∧ Picks foot news rest ∧ Apart foot rest)
    (h : ∀ r foot' h' tk, Post r foot' → Fr h₀ L h' m → News h₀ L h' (foot' ++ rest) → Apart foot' rest → Q r { s with heap := h', toks := tk }) :
    wpAny (model PySem.Challenge.rw_og0244_01.row.prog w) (ktrTop dp un gd cn cs L a ccd cl outer) (call f args) Q E s :=
  S dp un gd cn cs a ccd cl outer A₀ base h₀ L m news rest s Q E zS.1.B zS.1.F zS.1.X zS.1.T zS.1.k zS.1.d zS.1.u zS.1.N zS.2.1 zS.2.2 h
def BindsMap : List (Str × Value) → Str → Option Value
  | [], _ => none
  | b :: r, y => if y = b.1 then some b.2 else BindsMap r y
theorem bindsMap_lookup : ∀ (l : List (Str × Value)), (fun y => l.lookup y) = BindsMap l
  | [] => rfl
  | b :: r => by
    funext y
    show List.lookup y (b :: r) = if y = b.1 then some b.2 else BindsMap r y
    rw [← bindsMap_lookup r, List.lookup_cons]
    by_cases e : y = b.1
    · simp [e]
    · have : (y == b.1) = false := by simpa using e
      simp [this, e]
theorem binds_fr {g h : Heap} {L : Addr} {l : List (Str × Value)} (F : Fr g L h (fun y => l.reverse.lookup y)) : Fr g L h (BindsMap l.reverse) := by
  rw [bindsMap_lookup] at F; exact F
theorem map_fix0 {x : Str} {v : Option Value} {m₀ m₁ : Str → Option Value} (h : ∀ y, y ≠ x → m₁ y = m₀ y) : (fun y => if y = x then v else m₁ y) = fun y => if y = x then v else m₀ y := by
  funext y
  by_cases e : y = x
  · simp [e]
  · simp [e, h y e]
def SeqObj (o : Obj) (vs : List Value) : Prop := (o.cls = .type "list" ∨ o.cls = .type "tuple") ∧ ∃ n, o.data = .seq vs.toArray n
def OffAll (a : Nat) : Led → Prop
  | [] => True
  | q :: r => @Ne Nat q.1 a ∧ OffAll a r
theorem OffAll.of {a : Addr} : ∀ {l : Led}, (∀ p ∈ l, p.1 ≠ a) → OffAll a l
  | [], _ => trivial
  | p :: _, h => ⟨h p (.head _), OffAll.of fun q hq => h q (.tail _ hq)⟩
theorem OffAll.all {a : Addr} : ∀ {l : Led}, OffAll a l → ∀ p ∈ l, p.1 ≠ a
  | [], _, _, hp => nomatch hp
  | p :: _, h, q, hq => by
    rcases List.mem_cons.mp hq with rfl | hq
    · exact h.1
    · exact OffAll.all h.2 q hq
theorem OffAll.ap {a : Addr} {l : Led} (h : OffAll a l) : AP1 a (l.map (·.1)) := .mk fun b hb => by
  obtain ⟨p, hp, e⟩ := List.mem_map.mp hb
  exact e ▸ Ne.symm (h.all p hp)

def TurnEnd (h₀ : Heap) (L : Addr) (J : (Str → Option Value) → Led → Prop) (own : Led) (s₁ s₂ : Shared) : Prop :=
  ∀ R : Prop, (∀ (h' : Heap) (tk : Nat) (m' : Str → Option Value) (news' nx : Led), s₂ = { s₁ with heap := h', toks := tk } → Fr h₀ L h' m' → News h₀ L h' news' → (∀ p ∈ nx, p ∈ news') → (∀ p ∈ own, p ∈ news') → (∀ p ∈ nx, ∀ q ∈ own, p.1 ≠ q.1) → J m' nx → R) → R
def TurnPost (h₀ : Heap) (L : Addr) (J : (Str → Option Value) → Led → Prop) (own : Led) (s₁ : Shared) (Q : Flow → Shared → Prop) (f : Flow) (s₂ : Shared) : Prop :=
  match f with
  | .ret v => Q (.ret v) s₂
  | .brk => Q .next s₂
  | _ => TurnEnd h₀ L J own s₁ s₂

section
variable {w : World} {A : Around} {s : Shared} {env : Env} {h₀ : Heap} {x : Str} {body : List Stmt} {Q : Flow → Shared → Prop} {E : Value → Shared → Prop}

def ForSrc (w : World) (A : Around) (h₀ : Heap) (env : Env) (x : Str) (body : List Stmt) (Q : Flow → Shared → Prop) (E : Value → Shared → Prop) (xv : Value) (s : Shared) : Prop :=
  ∀ R : Prop, (∀ (l : Addr) (oL : Obj) (vs : List Value) (m₀ : Str → Option Value) (src nx₀ : Led) (J : Nat → (Str → Option Value) → Led → Prop),
    xv = .ref l → A.handled = none → SeqObj oL vs → (src = [] ∧ h₀.get? l = some oL ∨ src = [(l, oL)]) → Fr h₀ env.locals s.heap m₀ → News h₀ env.locals s.heap (nx₀ ++ src) → (∀ p ∈ nx₀, ∀ q ∈ src, p.1 ≠ q.1) → J 0 m₀ nx₀ →
    (∀ (i : Nat) v m₁ nx h tk I oI, vs[i]? = some v → J i m₁ nx → (∀ p ∈ nx, ∀ q ∈ (I, oI) :: src, p.1 ≠ q.1) → (∀ q ∈ src, q.1 ≠ I) → Fr h₀ env.locals h (fun y => if y = x then some v else m₁ y) → News h₀ env.locals h (nx ++ ((I, oI) :: src)) →
      ∀ QT : Flow → Shared → Prop, (∀ fl s', TurnPost h₀ env.locals (J (i + 1)) ((I, oI) :: src) { s with heap := h, toks := tk } Q fl s' → QT fl s') → wpAny (model PySem.Challenge.rw_og0244_01.row.prog w) A (execs body env) QT E { s with heap := h, toks := tk }) →
    (∀ m₁ nx h tk, J vs.length m₁ nx → (∀ p ∈ nx, ∀ q ∈ src, p.1 ≠ q.1) → Fr h₀ env.locals h m₁ → News h₀ env.locals h (nx ++ src) → Q .next { s with heap := h, toks := tk }) → R) → R

theorem for_src {m : Str → Option Value} {px pos : Pos} {iter : PySem.Expr} (_F : Fr h₀ env.locals s.heap m) (hx : env.kindOf x = some .local) (hp : (env.scope.kind == .class || (env.scope.kind == .module && env.locals != env.globals)) = false)
    (h : wpAny (model PySem.Challenge.rw_og0244_01.row.prog w) A (eval iter env) (ForSrc w A h₀ env x body Q E) E s)
    (hs : ∀ x, foldedSetIterable iter env x = pure x) (hE : PassesOwn (model PySem.Challenge.rw_og0244_01.row.prog w) A env E) :
    wpAny (model PySem.Challenge.rw_og0244_01.row.prog w) A (exec (.For (.Name x px) iter body [] pos) env) Q E s := by
  refine For_invV h₀ hx hp (wpAny_mono h (fun xv s₁ h₁ => ?_) fun _ _ e => e) hs hE
  refine h₁ _ ?_
  clear h₁
  rintro l oL vs m₀ src nx₀ J rfl hh ⟨hc, n, hdat⟩ hsrc F N hoff hj turn done
  have hget : s₁.heap.get? l = some oL := by
    rcases hsrc with ⟨_, e⟩ | e
    · exact F.keep _ _ e
    · exact (N (l, oL) (by rw [e]; simp)).1
  have hlt : l < s₁.heap.objs.size := Heap.lt_size hget
  have hLlt : env.locals < s₁.heap.objs.size := F.ns.lt
  have hneL : l ≠ env.locals := by
    rcases hsrc with ⟨_, e⟩ | e
    · exact Nat.ne_of_lt (Nat.lt_of_lt_of_le (Heap.lt_size e) F.above)
    · exact (N (l, oL) (by rw [e]; simp)).2.1
  have key : ∀ (oI : Obj) (St : Nat → Heap → Prop), oI.isFreed = false → Walks PySem.Challenge.rw_og0244_01.row.prog w A s₁.heap.objs.size [s₁.heap.objs.size, l] [s₁.heap.objs.size] vs.toArray.size (fun i v => vs.toArray[i]? = some v) St → (∀ i h, St i h → ∃ o, h.get? s₁.heap.objs.size = some o) →
      St 0 (s₁.heap.push oI) → LoopAtV PySem.Challenge.rw_og0244_01.row.prog w A h₀ env x body Q E (.ref s₁.heap.objs.size) { s₁ with heap := s₁.heap.push oI } := by
    intro oI St hfree W hI st0
    have FP := F.push oI
    have NP : News h₀ env.locals (s₁.heap.push oI) (nx₀ ++ src) := fun p hp => ⟨Heap.get?_push_of_some _ (N p hp).1, (N p hp).2⟩
    refine ⟨s₁.heap.objs.size, _, _, vs.toArray.size, _, St, m₀, nx₀ ++ src, fun i m nx' => ∃ nx, nx' = nx ++ src ∧ (∀ p ∈ nx, ∀ q ∈ src, p.1 ≠ q.1) ∧ J i m nx, rfl, W, ?_, ?_, ?_, st0, FP, NP, ⟨nx₀, rfl, hoff, hj⟩, ?_, ?_⟩
    · intro hm
      rcases List.mem_cons.mp hm with e | hm
      · exact absurd hLlt (e ▸ Nat.lt_irrefl _)
      · exact hneL (List.mem_singleton.mp hm).symm
    · intro b hb
      rw [List.mem_singleton.mp hb]
      exact next_is_new F
    · intro p hp hI
      exact absurd (Heap.lt_size (N p hp).1) ((List.mem_singleton.mp hI) ▸ Nat.lt_irrefl _)
    · rintro i v m₁ news₁ s₂ own ⟨hh', tk', rfl⟩ hin hP ⟨nx, rfl, hns, hJ⟩ hoffI hown hownget hmem hst F₁ N₁
      obtain ⟨oI', hoI'⟩ := hI _ _ hst
      have hImem : (s₁.heap.objs.size, oI') ∈ own := hmem _ (.head _) (next_is_new F) oI' hoI'
      have hIoff : ∀ p ∈ nx ++ src, p.1 ≠ s₁.heap.objs.size := fun p hp e => hoffI p hp (List.mem_singleton.mpr e)
      have hsub : ∀ p ∈ own, p ∈ (s₁.heap.objs.size, oI') :: src := by
        intro p hp
        have hg : hh'.get? p.1 = some p.2 := hownget p hp
        rcases List.mem_cons.mp (hown p hp) with e | e
        · rw [e, hoI'] at hg
          have : p = (s₁.heap.objs.size, oI') := Prod.ext e (Option.some.inj hg).symm
          rw [this]; exact .head _
        · have e := List.mem_singleton.mp e
          rcases hsrc with ⟨_, e0⟩ | e0
          · have := (N₁ p (List.mem_append_left _ hp)).2.2
            rw [e, e0] at this; cases this
          · have hl : hh'.get? l = some oL := (N₁ (l, oL) (List.mem_append_right _ (List.mem_append_right _ (by rw [e0]; simp)))).1
            rw [e, hl] at hg
            have : p = (l, oL) := Prod.ext e (Option.some.inj hg).symm
            rw [this, e0]; simp
      have N₂ : News h₀ env.locals hh' (nx ++ ((s₁.heap.objs.size, oI') :: src)) := by
        intro p hp
        rcases List.mem_append.mp hp with h | h
        · exact N₁ p (List.mem_append_right _ (List.mem_append_left _ h))
        · rcases List.mem_cons.mp h with rfl | h
          · exact N₁ _ (List.mem_append_left _ hImem)
          · exact N₁ p (List.mem_append_right _ (List.mem_append_right _ h))
      have hoff2 : ∀ p ∈ nx, ∀ q ∈ (s₁.heap.objs.size, oI') :: src, p.1 ≠ q.1 := by
        intro p hp q hq
        rcases List.mem_cons.mp hq with rfl | hq
        · exact hIoff p (List.mem_append_left _ hp)
        · exact hns p hp q hq
      have hP' : vs[i]? = some v := by simpa using hP
      refine wpAny_mono (turn i v m₁ nx hh' tk' s₁.heap.objs.size oI' hP' hJ hoff2 (fun q hq => hIoff q (List.mem_append_right _ hq)) F₁ N₂ _ (fun _ _ h => h)) (fun f s₃ h₃ => ?_) fun _ _ e => e
      have fin : TurnEnd h₀ env.locals (J (i + 1)) ((s₁.heap.objs.size, oI') :: src) { s₁ with heap := hh', toks := tk' } s₃ →
          LoopStepU h₀ env.locals [s₁.heap.objs.size] own (fun m nx' => ∃ nx, nx' = nx ++ src ∧ (∀ p ∈ nx, ∀ q ∈ src, p.1 ≠ q.1) ∧ J (i + 1) m nx) { s₁ with heap := hh', toks := tk' } .next s₃ := by
        intro hE
        refine hE _ ?_
        intro h' tk m' news' nx' e F' N' hn ho ha hj'
        refine ⟨rfl, h', tk, m', nx' ++ src, e, F', ?_, ?_, nx', rfl, fun p hp q hq => ha p hp q (.tail _ hq), hj'⟩
        · intro p hp
          rcases List.mem_append.mp hp with h | h
          · exact N' p (ho p (hsub p h))
          · rcases List.mem_append.mp h with h | h
            · exact N' p (hn p h)
            · exact N' p (ho p (.tail _ h))
        · intro p hp hq
          have hq := List.mem_singleton.mp hq
          rcases List.mem_append.mp hp with h | h
          · exact ha p h _ (.head _) hq
          · exact hIoff p (List.mem_append_right _ h) hq
      cases f with
      | ret v => exact .ret h₃
      | brk => exact .brk h₃
      | next => exact .next (fin h₃)
      | cont => exact .cont (fin h₃)
    · rintro h' tk m' news' F' N' hoffI ⟨nx, rfl, hns, hJ⟩
      rw [List.size_toArray] at hJ
      exact done m' nx h' tk hJ hns F' N'
  rcases hc with hc | hc
  · have hl : s₁.heap.IsList l vs.toArray := ⟨oL, hget, hc, n, hdat⟩
    refine wpAny_pyIter_list hl ?_
    exact key _ _ rfl (Walks.list hh s₁.heap.objs.size l (Nat.ne_of_lt hlt) vs.toArray) (fun i h st => by obtain ⟨o, e, _⟩ := st.1; exact ⟨o, e⟩) ⟨⟨_, Heap.get?_push_size _ rfl, rfl, rfl⟩, ⟨oL, Heap.get?_push_of_some _ hget, hc, n, hdat⟩⟩
  · have hl : s₁.heap.IsTuple l vs.toArray := ⟨oL, hget, hc, n, hdat⟩
    refine wpAny_pyIter_tuple hl ?_
    exact key _ _ rfl (Walks.tuple hh s₁.heap.objs.size l (Nat.ne_of_lt hlt) vs.toArray) (fun i h st => by obtain ⟨o, e, _⟩ := st.1; exact ⟨o, e⟩) ⟨⟨_, Heap.get?_push_size _ rfl, rfl, rfl⟩, ⟨oL, Heap.get?_push_of_some _ hget, hc, n, hdat⟩⟩
end

section
variable {w : World} {A : Around} {s : Shared} {env : Env} {h₀ : Heap} {x : Str} {body : List Stmt} {Q : Flow → Shared → Prop} {E : Value → Shared → Prop}
theorem ForSrc.base {l : Addr} {oL : Obj} {vs : List Value} {m₀ : Str → Option Value} {nx₀ : Led} (J : Nat → Led → Prop) (hh : A.handled = none) (hg : h₀.get? l = some oL) (hso : SeqObj oL vs) (F : Fr h₀ env.locals s.heap m₀) (N : News h₀ env.locals s.heap nx₀) (hj : J 0 nx₀)
    (turn : ∀ (i : Nat) v nx h tk I oI, vs[i]? = some v → J i nx → OffAll I nx → Fr h₀ env.locals h (fun y => if y = x then some v else m₀ y) → News h₀ env.locals h (nx ++ [(I, oI)]) →
      ∀ QT : Flow → Shared → Prop, (∀ fl s', TurnPost h₀ env.locals (fun m nx => (∀ y, y ≠ x → m y = m₀ y) ∧ J (i + 1) nx) [(I, oI)] { s with heap := h, toks := tk } Q fl s' → QT fl s') → wpAny (model PySem.Challenge.rw_og0244_01.row.prog w) A (execs body env) QT E { s with heap := h, toks := tk })
    (done : ∀ u nx h tk, J vs.length nx → Fr h₀ env.locals h (fun y => if y = x then u else m₀ y) → News h₀ env.locals h nx → Q .next { s with heap := h, toks := tk }) :
    ForSrc w A h₀ env x body Q E (.ref l) s := by
  refine fun _ k => k l oL vs m₀ [] nx₀ (fun i m nx => (∀ y, y ≠ x → m y = m₀ y) ∧ J i nx) rfl hh hso (.inl ⟨rfl, hg⟩) F (by simpa using N) (fun _ _ _ hq => (nomatch hq)) ⟨fun _ _ => rfl, hj⟩ ?_ ?_
  · rintro i v m₁ nx h tk I oI hv ⟨hm, hj⟩ ho _ F₁ N₁
    rw [map_fix0 hm] at F₁
    exact turn i v nx h tk I oI hv hj (OffAll.of fun p hp => ho p hp _ (.head _)) F₁ N₁
  · rintro m₁ nx h tk ⟨hm, hj⟩ _ F₁ N₁
    refine done (m₁ x) nx h tk hj ?_ (by simpa using N₁)
    have e : (fun y => if y = x then m₁ x else m₀ y) = m₁ := by
      funext y
      by_cases e : y = x
      · simp [e]
      · simp [e, hm y e]
    rw [e]; exact F₁
theorem TurnEnd.base {L : Addr} {J : Led → Prop} {m₀ m' : Str → Option Value} {I : Addr} {oI : Obj} {news' : Led} {s₁ : Shared} {h' : Heap} {tk : Nat} (nx : Led) (F : Fr h₀ L h' m') (N : News h₀ L h' news') (hn : ∀ p ∈ nx, p ∈ news') (hI : (I, oI) ∈ news') (ho : ∀ p ∈ nx, p.1 ≠ I) (hm : ∀ y, y ≠ x → m' y = m₀ y) (hj : J nx) :
    TurnEnd h₀ L (fun m nx => (∀ y, y ≠ x → m y = m₀ y) ∧ J nx) [(I, oI)] s₁ { s₁ with heap := h', toks := tk } :=
  fun _ k => k h' tk m' news' nx rfl F N hn (fun p hp => (List.mem_singleton.mp hp) ▸ hI) (fun p hp q hq => (List.mem_singleton.mp hq) ▸ ho p hp) ⟨hm, hj⟩
end

section
variable {w : World} {A : Around} {s : Shared} {env : Env} {h₀ : Heap} {x : Str} {body : List Stmt} {Q : Flow → Shared → Prop} {E : Value → Shared → Prop}
theorem map_fixS {x : Str} {stored : List Str} {v : Option Value} {m₀ m₁ : Str → Option Value} (h : ∀ y, y ≠ x → stored.contains y = false → m₁ y = m₀ y) :
    (fun y => if y = x then v else m₁ y) = fun y => if y = x then v else if stored.contains y then m₁ y else m₀ y := by
  funext y
  by_cases e : y = x
  · simp [e]
  · cases hc : stored.contains y with
    | true => simp [e]
    | false => simp only [if_neg e, Bool.false_eq_true, if_false]; exact h y e hc
theorem OffAll.ofAp {a : Addr} {o : Obj} {src nx : Led} (h : ∀ p ∈ nx, ∀ q ∈ src, p.1 ≠ q.1) (hm : (a, o) ∈ src) : OffAll a nx := OffAll.of fun p hp => h p hp _ hm
theorem ForSrc.led {l : Addr} {oL : Obj} {vs : List Value} {m₀ : Str → Option Value} {news nx₀ : Led} (stored : List Str) (J : Nat → Led → Prop) (hh : A.handled = none) (hp : Pick (l, oL) news nx₀) (hso : SeqObj oL vs) (F : Fr h₀ env.locals s.heap m₀) (N : News h₀ env.locals s.heap news)
    (ho : ∀ p ∈ nx₀, p.1 ≠ l) (hj : J 0 nx₀)
    (turn : ∀ (i : Nat) v nx h tk I oI (u : Str → Option Value), vs[i]? = some v → J i nx → OffAll I nx → OffAll l nx → @Ne Nat l I → Fr h₀ env.locals h (fun y => if y = x then some v else if stored.contains y then u y else m₀ y) → News h₀ env.locals h (nx ++ [(I, oI), (l, oL)]) →
      ∀ QT : Flow → Shared → Prop, (∀ fl s', TurnPost h₀ env.locals (fun m nx => (∀ y, y ≠ x → stored.contains y = false → m y = m₀ y) ∧ J (i + 1) nx) [(I, oI), (l, oL)] { s with heap := h, toks := tk } Q fl s' → QT fl s') → wpAny (model PySem.Challenge.rw_og0244_01.row.prog w) A (execs body env) QT E { s with heap := h, toks := tk })
    (done : ∀ (u : Str → Option Value) nx h tk, J vs.length nx → OffAll l nx → Fr h₀ env.locals h (fun y => if y = x then u y else if stored.contains y then u y else m₀ y) → News h₀ env.locals h (nx ++ [(l, oL)]) → Q .next { s with heap := h, toks := tk }) :
    ForSrc w A h₀ env x body Q E (.ref l) s := by
  refine fun _ k => k l oL vs m₀ [(l, oL)] nx₀ (fun i m nx => (∀ y, y ≠ x → stored.contains y = false → m y = m₀ y) ∧ J i nx) rfl hh hso (.inr rfl) F (news_sub N fun p h => ?_) (fun p h q hq => (List.mem_singleton.mp hq) ▸ ho p h) ⟨fun _ _ _ => rfl, hj⟩ ?_ ?_
  · rcases List.mem_append.mp h with h | h
    · exact hp.mem _ (.tail _ h)
    · exact hp.mem _ ((List.mem_singleton.mp h) ▸ .head _)
  · rintro i v m₁ nx h tk I oI hv ⟨hm, hj⟩ ho hl F₁ N₁
    rw [map_fixS hm] at F₁
    exact turn i v nx h tk I oI m₁ hv hj (OffAll.ofAp ho (.head _)) (OffAll.ofAp ho (.tail _ (.head _))) (hl _ (.head _)) F₁ N₁
  · rintro m₁ nx h tk ⟨hm, hj⟩ ho F₁ N₁
    refine done m₁ nx h tk hj (OffAll.ofAp ho (.head _)) ?_ N₁
    have e : (fun y => if y = x then m₁ y else if stored.contains y then m₁ y else m₀ y) = m₁ := by
      funext y
      by_cases e : y = x
      · simp [e]
      · cases hc : stored.contains y with
        | true => simp
        | false => simp only [if_neg e, Bool.false_eq_true, if_false]; exact (hm y e hc).symm
    rw [e]; exact F₁
theorem TurnEnd.led {L : Addr} {J : Led → Prop} {m₀ m' : Str → Option Value} {stored : List Str} {I l : Addr} {oI oL : Obj} {news' : Led} {s₁ : Shared} {h' : Heap} {tk : Nat} (nx : Led) (F : Fr h₀ L h' m') (N : News h₀ L h' news') (hn : ∀ p ∈ nx, p ∈ news') (hI : (I, oI) ∈ news') (hl : (l, oL) ∈ news') (ho : OffAll I nx) (ho' : OffAll l nx)
    (hm : ∀ y, y ≠ x → stored.contains y = false → m' y = m₀ y) (hj : J nx) :
    TurnEnd h₀ L (fun m nx => (∀ y, y ≠ x → stored.contains y = false → m y = m₀ y) ∧ J nx) [(I, oI), (l, oL)] s₁ { s₁ with heap := h', toks := tk } := by
  refine fun _ k => k h' tk m' news' nx rfl F N hn ?_ ?_ ⟨hm, hj⟩
  · intro p hp
    rcases List.mem_cons.mp hp with rfl | hp
    · exact hI
    · exact (List.mem_singleton.mp hp) ▸ hl
  · intro p hp q hq
    rcases List.mem_cons.mp hq with rfl | hq
    · exact ho.all p hp
    · exact (List.mem_singleton.mp hq) ▸ ho'.all p hp
end

section
variable {w : World} {A : Around} {s : Shared} {env : Env} {h₀ : Heap} {x : Str} {body : List Stmt} {Q : Flow → Shared → Prop} {E : Value → Shared → Prop}
theorem ForSrc.ledK {l : Addr} {oL : Obj} {vs : List Value} {m₀ : Str → Option Value} {news nx₀ : Led} (stored : List Str) (P : Nat → Prop) (hh : A.handled = none) (hp : Pick (l, oL) news nx₀) (hso : SeqObj oL vs) (F : Fr h₀ env.locals s.heap m₀) (N : News h₀ env.locals s.heap news)
    (ho : ∀ p ∈ nx₀, p.1 ≠ l) (hj : P 0)
    (turn : ∀ (i : Nat) v h tk I oI (u : Str → Option Value), vs[i]? = some v → P i → OffAll I nx₀ → @Ne Nat l I → Fr h₀ env.locals h (fun y => if y = x then some v else if stored.contains y then u y else m₀ y) → News h₀ env.locals h (nx₀ ++ [(I, oI), (l, oL)]) →
      ∀ QT : Flow → Shared → Prop, (∀ fl s', TurnPost h₀ env.locals (fun m nx => (∀ y, y ≠ x → stored.contains y = false → m y = m₀ y) ∧ nx = nx₀ ∧ P (i + 1)) [(I, oI), (l, oL)] { s with heap := h, toks := tk } Q fl s' → QT fl s') → wpAny (model PySem.Challenge.rw_og0244_01.row.prog w) A (execs body env) QT E { s with heap := h, toks := tk })
    (done : ∀ (u : Str → Option Value) h tk, P vs.length → Fr h₀ env.locals h (fun y => if y = x then u y else if stored.contains y then u y else m₀ y) → News h₀ env.locals h (nx₀ ++ [(l, oL)]) → Q .next { s with heap := h, toks := tk }) :
    ForSrc w A h₀ env x body Q E (.ref l) s :=
  ForSrc.led stored (fun i nx => nx = nx₀ ∧ P i) hh hp hso F N ho ⟨rfl, hj⟩ (fun i v nx h tk I oI u hv ⟨e, hP⟩ hI _ hl F' N' => by subst e; exact turn i v h tk I oI u hv hP hI hl F' N')
    fun u nx h tk ⟨e, hP⟩ _ F' N' => by subst e; exact done u h tk hP F' N'
theorem TurnEnd.ledK {L : Addr} {P : Prop} {m₀ m' : Str → Option Value} {stored : List Str} {I l : Addr} {oI oL : Obj} {nx₀ : Led} {s₁ : Shared} {h' : Heap} {tk : Nat} (F : Fr h₀ L h' m') (N : News h₀ L h' (nx₀ ++ [(I, oI), (l, oL)])) (ho : OffAll I nx₀) (ho' : ∀ p ∈ nx₀, p.1 ≠ l)
    (hm : ∀ y, y ≠ x → stored.contains y = false → m' y = m₀ y) (hj : P) :
    TurnEnd h₀ L (fun m nx => (∀ y, y ≠ x → stored.contains y = false → m y = m₀ y) ∧ nx = nx₀ ∧ P) [(I, oI), (l, oL)] s₁ { s₁ with heap := h', toks := tk } :=
  TurnEnd.led nx₀ F N (fun p hp => List.mem_append_left _ hp) (List.mem_append_right _ (.head _)) (List.mem_append_right _ (.tail _ (.head _))) ho (OffAll.of ho') hm ⟨rfl, hj⟩
end
end
local macro_rules | `(tactic| walk_at "mine for") => `(tactic| ((k_here; k_dflt (refine' for_src ?_ ?_ ?_ ?_ ?_ ?_; rotate_left 2; k_asm; (exact rfl); (exact rfl); rotate_left; (exact fun _ => rfl); (first | exact PassesOwn.never | passes_own | (with_unfolding_all passes_own)); rotate_right; k_whole))))
section
example (w : World) (h : Heap) : (pre.heap_1 w.params).In h → model PySem.Challenge.rw_og0244_01.row.prog w = model PySem.Challenge.rw_og0244_01.row.prog w := by
  k_fill
  intro _; rfl
set_option maxHeartbeats 1000000
def StrsAt (h : Heap) (l : Addr) (ys : List Str) : Prop := ∃ o vs, h.get? l = some o ∧ SeqObj o vs ∧ StrsAre vs ys
theorem StrsAt.keeps {h h' : Heap} {l : Addr} {ys : List Str} (x : StrsAt h l ys) (k : ∀ b o, h.get? b = some o → h'.get? b = some o) : StrsAt h' l ys :=
  let ⟨o, vs, a, b, c⟩ := x; ⟨o, vs, k _ _ a, b, c⟩
theorem any_strs {x : Str} {ys : List Str} : (ys.any (· == x)) = decide (x ∈ ys) := by
  rw [Bool.eq_iff_iff, List.any_eq_true, decide_eq_true_eq]
  constructor
  · rintro ⟨y, hy, e⟩
    exact (beq_iff_eq.mp e) ▸ hy
  · exact fun h => ⟨x, h, beq_self_eq_true x⟩
theorem any_isStrOf {x : Str} : ∀ {vs : List Value} {ys : List Str}, StrsAre vs ys → vs.any (isStrOf x) = decide (x ∈ ys)
  | _, _, .nil => by simp
  | _, _, .cons y t h => by
    rw [List.any_cons, any_isStrOf h]
    by_cases e : x = y
    · subst e; simp [isStrOf]
    · have : isStrOf x (.str y t) = false := by
        simp only [isStrOf]
        first | exact beq_eq_false_iff_ne.mpr (Ne.symm e) | exact beq_eq_false_iff_ne.mpr e
      simp [this, e]
section
variable {w : World} {A : Around} {E : Value → Shared → Prop} {s : Shared} {h₀ : Heap} {L l : Addr} {m : Str → Option Value} {news : Led} {x : Str} {t : Tok} {ys : List Str} {vs : List Value} {c : Nat} {Q : Value → Shared → Prop}
theorem in_at (hb : StrsAt s.heap l ys) (h : Q (.bool (decide (x ∈ ys))) s) : wpAny (model PySem.Challenge.rw_og0244_01.row.prog w) A (compareOp .In (.str x t) (.ref l)) Q E s := by
  obtain ⟨o, vs, ho, ⟨hc, n, hd⟩, hS⟩ := hb
  rcases hc with hc | hc
  · refine PySem.SeqInW.in_listW (items := vs.toArray) (isStrOf x) (fun y hy => eq_isStrOf x t hS y (by simpa using hy)) ⟨o, ho, hc, n, hd⟩ ?_
    rw [List.any_toArray, any_isStrOf hS]; exact h
  · refine in_tuple_strs (items := vs.toArray) ⟨o, ho, hc, n, hd⟩ (by simpa using hS) ?_
    rw [any_strs]; exact h
theorem notin_at (hb : StrsAt s.heap l ys) (h : Q (.bool (!decide (x ∈ ys))) s) : wpAny (model PySem.Challenge.rw_og0244_01.row.prog w) A (compareOp .NotIn (.str x t) (.ref l)) Q E s := by
  obtain ⟨o, vs, ho, ⟨hc, n, hd⟩, hS⟩ := hb
  rcases hc with hc | hc
  · refine PySem.SeqInW.notIn_listW (items := vs.toArray) (isStrOf x) (fun y hy => eq_isStrOf x t hS y (by simpa using hy)) ⟨o, ho, hc, n, hd⟩ ?_
    rw [List.any_toArray, any_isStrOf hS]; exact h
  · refine notin_tuple_strs (items := vs.toArray) ⟨o, ho, hc, n, hd⟩ (by simpa using hS) ?_
    rw [any_strs]; exact h
theorem in_base (F : Fr h₀ L s.heap m) (hb : StrsAt h₀ l ys) (h : Q (.bool (decide (x ∈ ys))) s) : wpAny (model PySem.Challenge.rw_og0244_01.row.prog w) A (compareOp .In (.str x t) (.ref l)) Q E s := in_at (hb.keeps F.keep) h
theorem notin_base (F : Fr h₀ L s.heap m) (hb : StrsAt h₀ l ys) (h : Q (.bool (!decide (x ∈ ys))) s) : wpAny (model PySem.Challenge.rw_og0244_01.row.prog w) A (compareOp .NotIn (.str x t) (.ref l)) Q E s := notin_at (hb.keeps F.keep) h
theorem in_led (N : News h₀ L s.heap news) (hm : (l, W.listOf vs.toArray c) ∈ news) (hS : StrsAre vs ys) (h : Q (.bool (decide (x ∈ ys))) s) : wpAny (model PySem.Challenge.rw_og0244_01.row.prog w) A (compareOp .In (.str x t) (.ref l)) Q E s :=
  in_at ⟨_, vs, (N _ hm).1, ⟨.inl rfl, c, rfl⟩, hS⟩ h
theorem notin_led (N : News h₀ L s.heap news) (hm : (l, W.listOf vs.toArray c) ∈ news) (hS : StrsAre vs ys) (h : Q (.bool (!decide (x ∈ ys))) s) : wpAny (model PySem.Challenge.rw_og0244_01.row.prog w) A (compareOp .NotIn (.str x t) (.ref l)) Q E s :=
  notin_at ⟨_, vs, (N _ hm).1, ⟨.inl rfl, c, rfl⟩, hS⟩ h
end
theorem strsAt_of {K : Frag} {h : Heap} {a : Addr} {cls : Value} {dd : Option Addr} {its : Array Value} {n : Nat} {sl : Array (Option Value)} {ys : List Str} (X : K.In h) (e : K.lookup a = some ⟨cls, dd, .seq its n, sl⟩)
    (hc : cls = .type "list" ∨ cls = .type "tuple") (hS : StrsAre its.toList ys) : StrsAt h a ys := ⟨_, its.toList, X _ _ e, ⟨hc, n, by simp⟩, hS⟩
def mouseModes : List Str := [Str.ofString "mouse_x10", Str.ofString "mouse_click", Str.ofString "mouse_drag", Str.ofString "mouse_all"]
theorem mouseModes_at {w : World} {h : Heap} (X : (pre.heap_1 w.params).In h) : StrsAt h 22 mouseModes := by
  k_dflt (refine' strsAt_of X ?e ?c ?s; (case e => k_is); (case c => exact .inr rfl); (case s => exact .cons _ _ (.cons _ _ (.cons _ _ (.cons _ _ .nil)))))
def mouseEncs : List Str := [Str.ofString "mouse_utf8", Str.ofString "mouse_sgr", Str.ofString "mouse_urxvt", Str.ofString "mouse_pixels"]
theorem mouseEncs_at {w : World} {h : Heap} (X : (pre.heap_1 w.params).In h) : StrsAt h 23 mouseEncs := by
  k_dflt (refine' strsAt_of X ?e ?c ?s; (case e => k_is); (case c => exact .inr rfl); (case s => exact .cons _ _ (.cons _ _ (.cons _ _ (.cons _ _ .nil)))))
def firstOn : List Str := [Str.ofString "send_receive", Str.ofString "autowrap", Str.ofString "autorepeat", Str.ofString "show_cursor", Str.ofString "num_lock"]
theorem firstOn_at {w : World} {h : Heap} (X : (pre.heap_1 w.params).In h) : StrsAt h 25 firstOn := by
  k_dflt (refine' strsAt_of X ?e ?c ?s; (case e => k_is); (case c => exact .inr rfl); (case s => exact .cons _ _ (.cons _ _ (.cons _ _ (.cons _ _ (.cons _ _ .nil))))))
def softOff : List Str := [Str.ofString "locked", Str.ofString "insert", Str.ofString "origin", Str.ofString "app_cursor", Str.ofString "app_keypad", Str.ofString "side_margins"]
theorem softOff_at {w : World} {h : Heap} (X : (pre.heap_1 w.params).In h) : StrsAt h 26 softOff := by
  k_dflt (refine' strsAt_of X ?e ?c ?s; (case e => k_is); (case c => exact .inr rfl); (case s => exact .cons _ _ (.cons _ _ (.cons _ _ (.cons _ _ (.cons _ _ (.cons _ _ .nil)))))))
def softFirst : List Str := [Str.ofString "autowrap", Str.ofString "reverse_wrap", Str.ofString "reverse_wrap_far"]
theorem softFirst_at {w : World} {h : Heap} (X : (pre.heap_1 w.params).In h) : StrsAt h 27 softFirst := by
  k_dflt (refine' strsAt_of X ?e ?c ?s; (case e => k_is); (case c => exact .inr rfl); (case s => exact .cons _ _ (.cons _ _ (.cons _ _ .nil))))
theorem group1_at {w : World} {h : Heap} (X : (pre.heap_1 w.params).In h) : StrsAt h 236 mouseModes := by
  k_dflt (refine' strsAt_of X ?e ?c ?s; (case e => k_is); (case c => exact .inl rfl); (case s => exact .cons _ _ (.cons _ _ (.cons _ _ (.cons _ _ .nil)))))
theorem group2_at {w : World} {h : Heap} (X : (pre.heap_1 w.params).In h) : StrsAt h 237 mouseEncs := by
  k_dflt (refine' strsAt_of X ?e ?c ?s; (case e => k_is); (case c => exact .inl rfl); (case s => exact .cons _ _ (.cons _ _ (.cons _ _ (.cons _ _ .nil)))))
end
section
example : Zz 0 := by (try walk1); exact trivial
def DeckIs (w : World) (d l : Addr) (oD oL : Obj) : Prop :=
  ∃ (vs : List Value) (c : Nat) (left : List Int) (mx : Int) (tm : Tok), oL = W.listOf vs.toArray c ∧
    oD.IsDictOf (strKind PySem.Challenge.rw_og0244_01.row.prog w) [(Str.ofString "left", .ref l), (Str.ofString "mixed", .int mx tm)] ∧ IntsAre vs left ∧ (∀ x ∈ left, 0 ≤ x ∧ x < 1000003) ∧ left.length ≤ 32 ∧ 0 ≤ mx ∧ mx < 1000003 ∧ (d == sysModules) = false ∧ @Ne Nat d l

theorem seqIndex_zero (n : Nat) : PySem.seqIndex? 0 (n + 1) = some 0 := by
  unfold PySem.seqIndex?
  simp
theorem fmod_bounds (a : Int) {b : Int} (hb : 0 < b) : 0 ≤ a.fmod b ∧ a.fmod b < b :=
  ⟨Int.fmod_nonneg_of_pos a hb, Int.fmod_lt_of_pos a hb⟩
set_option maxHeartbeats 8000000 in
theorem draw_spec {w : World} {pgm : Program} {loo : List Str} {mean : ExcName → Option Value} {mg mb : Str → Option Value} {d l : Addr} {oD oL : Obj} (hD : DeckIs w d l oD oL) (many : Int) (tk : Tok) (hm : 0 < many) (hm' : many ≤ 100) :
    Spec w pgm loo mean mg mb (.ref 257) 900 9000 [.ref d, .int many tk] [(d, oD), (l, oL)] (fun r foot' => ∃ oD' oL' i t, r = .int i t ∧ foot' = [(d, oD'), (l, oL')] ∧ DeckIs w d l oD' oL' ∧ 0 ≤ i ∧ i < many) := by
  obtain ⟨vs, c, left, mx, tm, rfl, hd', hI', hb, hn, hx0, hx1, lo', hne⟩ := hD
  (k_dflt (refine' spec_of ?k6 ?k7 ?k8 ?k9 ?kB ?_ ?c2 ?c3 ?c4 ?c5; (case k6 => k_is); (case k7 => k_is); (case k8 => decide); (case k9 => exact fun s X => BindsTo.of_eq rfl); (case c5 => decide); (case kB => exact locs rfl); (case c2 => exact rfl); (case c3 => exact rfl); (case c4 => exact rfl); k_whole); intro ev A₀ base g' L' h₁ s tk₁ hdp hun B' F' N' X' T' hlt QL hL; k_lt hlt; (try dsimp only))
  k_steps
  all_goals (try dsimp only)
  · have hb1 := fmod_bounds (mx * 4801 + 5) (b := 1000003) (by decide)
    have hb2 := fmod_bounds (((mx * 4801 + 5).fmod 1000003).fdiv 7) hm
    rename Obj.IsDictOf _ _ _ => hd2
    refine hL.leave (by k_asm) (by k_asm) (foot' := [(d, _), (l, _)]) ?_ ⟨_, _, _, _, rfl, rfl, ⟨vs, c, left, _, _, rfl, hd2, hI', hb, hn, hb1.1, hb1.2, lo', hne⟩, hb2.1, hb2.2⟩
    intro p hp
    exact .tail _ hp
  · cases hI' with
    | nil => rename decide _ = _ => hq; simp at hq
    | @cons x t vs left hI' =>
      k_dflt (refine' kl_popAt (i := 0) (k := 0) (p := []) (q := vs) (y := .int x t) ?F ?N ?f ?k ?e ?U ?z ?_; (case F => k_asm); (case N => k_asm); (case U => k_upd); (case f => rfl); (case k => exact seqIndex_zero _); (case e => rfl); (case z => (simp only [List.length_cons] at hn; rw [List.toList_toArray, List.length_cons, hI'.length, sizeLine_eq]; omega)))
      intro h' F' N'; (try dsimp only [List.nil_append, List.cons_append] at N')
      k_steps
      all_goals (try dsimp only)
      have hb2 := fmod_bounds x hm
      refine hL.leave (by k_asm) (by k_asm) (foot' := [(d, _), (l, _)]) ?_ ⟨_, _, _, _, rfl, rfl, ⟨vs, c + 1, left, mx, tm, rfl, hd', hI', fun y hy => hb y (.tail _ hy), by simp only [List.length_cons] at hn; omega, hx0, hx1, lo', hne⟩, hb2.1, hb2.2⟩
      intro p hp
      exact .tail _ hp

theorem drawU {w : World} {pgm : Program} {loo : List Str} {mean : ExcName → Option Value} {mg mb : Str → Option Value} {d l : Addr} {oD oL : Obj} {dp un : Nat} {gd : Option (List Code)} {cn : Str} {cs : Scope} {za : Addr} {ccd : Value} {cl : List (Str × Addr)} {outer : List Env} {A₀ : Around} {base h₀ : Heap} {zL : Addr} {zm : Str → Option Value} {zn zr : Led} {zs : Shared} {zQ zE : Value → Shared → Prop} (zS : Site w pgm loo mean mg mb 900 9000 dp un cs outer A₀ base h₀ zL zs.heap zm zn ∧ Picks [(d, oD), (l, oL)] zn zr ∧ Apart [(d, oD), (l, oL)] zr) (hD : DeckIs w d l oD oL) (many : Int) (tk : Tok) (hm : 0 < many) (hm' : many ≤ 100)
    (zh : ∀ h9 tk9, Fr h₀ zL h9 zm → ∀ oD' oL' i t, DeckIs w d l oD' oL' → 0 ≤ i → i < many → News h₀ zL h9 ((d, oD') :: (l, oL') :: zr) → zQ (.int i t) { zs with heap := h9, toks := tk9 }) :
    wpAny (model PySem.Challenge.rw_og0244_01.row.prog w) (ktrTop dp un gd cn cs zL za ccd cl outer) (call (.ref 257) [.ref d, .int many tk]) zQ zE zs :=
  draw_spec hD many tk hm hm' _ _ _ _ _ _ _ _ _ _ _ _ _ _ _ _ _ _ _ zS.1.B zS.1.F zS.1.X zS.1.T zS.1.k zS.1.d zS.1.u zS.1.N zS.2.1 zS.2.2 fun r foot h9 tk9 hp F9 N9 ap => by
    obtain ⟨oD', oL', i, t, rfl, rfl, y0, y1, y2⟩ := hp
    exact zh h9 tk9 F9 oD' oL' i t y0 y1 y2 N9
end
section
set_option maxHeartbeats 1000000
inductive LitKvs : List (Int × Value) → List (Int × Str) → Prop
  | nil : LitKvs [] []
  | cons (k : Int) (x : Str) (t : Tok) {r : List (Int × Value)} {D : List (Int × Str)} : LitKvs r D → LitKvs ((k, .str x t) :: r) ((k, x) :: D)
theorem LitKvs.keys {kvs : List (Int × Value)} {D : List (Int × Str)} (h : LitKvs kvs D) : kvs.map (·.1) = D.map (·.1) := by
  induction h with
  | nil => rfl
  | cons k x t _ ih => simp [ih]
theorem LitKvs.length {kvs : List (Int × Value)} {D : List (Int × Str)} (h : LitKvs kvs D) : kvs.length = D.length := by
  have := congrArg List.length h.keys
  simpa using this
theorem LitKvs.append {a b : List (Int × Value)} {A B : List (Int × Str)} (h : LitKvs a A) (h' : LitKvs b B) : LitKvs (a ++ b) (A ++ B) := by
  induction h with
  | nil => exact h'
  | cons k x t _ ih => exact .cons k x t ih
theorem LitKvs.valueAt {kvs : List (Int × Value)} {D : List (Int × Str)} (h : LitKvs kvs D) (k : Int) :
    (D.lookup k = none ∧ PySem.valueAt kvs k = none) ∨ ∃ x t, D.lookup k = some x ∧ PySem.valueAt kvs k = some (.str x t) := by
  induction h with
  | nil => exact .inl ⟨rfl, rfl⟩
  | @cons k' x t r D _ ih =>
    by_cases e : k = k'
    · subst e
      exact .inr ⟨x, t, by simp [List.lookup], by simp [PySem.valueAt]⟩
    · have e1 : (k == k') = false := by simpa using e
      have e2 : decide (k' = k) = false := by simpa using fun q => e (Eq.symm q)
      rcases ih with ⟨h1, h2⟩ | ⟨x', t', h1, h2⟩
      · refine .inl ⟨by simp [List.lookup, e1, h1], ?_⟩
        simp only [PySem.valueAt, List.find?_cons, e2] at h2 ⊢
        exact h2
      · refine .inr ⟨x', t', by simp [List.lookup, e1, h1], ?_⟩
        simp only [PySem.valueAt, List.find?_cons, e2] at h2 ⊢
        exact h2
theorem stored_fresh {acc : List (Int × Value)} {k : Int} {v : Value} (h : k ∉ acc.map (·.1)) : stored acc k v = acc ++ [(k, v)] := by
  unfold stored
  rw [if_neg]
  rw [List.any_eq_true]
  rintro ⟨x, hx, he⟩
  exact h (List.mem_map.mpr ⟨x, hx, of_decide_eq_true he⟩)

section
variable {w : World} {A : Around}
inductive Lits (w : World) (A : Around) : List (Sem Value × Sem Value) → List (Int × Str) → Prop
  | nil : Lits w A [] []
  | cons {kt vt : Sem Value} {k : Int} {x : Str} {ps : List (Sem Value × Sem Value)} {D : List (Int × Str)} :
      (∀ (s : Shared) (Q E : Value → Shared → Prop), (∀ t tk, Q (.int k t) { s with toks := tk }) → wpAny (model PySem.Challenge.rw_og0244_01.row.prog w) A kt Q E s) →
      (∀ (s : Shared) (Q E : Value → Shared → Prop), (∀ t tk, Q (.str x t) { s with toks := tk }) → wpAny (model PySem.Challenge.rw_og0244_01.row.prog w) A vt Q E s) → Lits w A ps D → Lits w A ((kt, vt) :: ps) ((k, x) :: D)
theorem Lits.length {ps : List (Sem Value × Sem Value)} {D : List (Int × Str)} (h : Lits w A ps D) : ps.length = D.length := by
  induction h with
  | nil => rfl
  | cons _ _ _ ih => simp [ih]
theorem Lits.append {ps qs : List (Sem Value × Sem Value)} {D D' : List (Int × Str)} (h : Lits w A ps D) (h' : Lits w A qs D') : Lits w A (ps ++ qs) (D ++ D') := by
  induction h with
  | nil => exact h'
  | cons a b _ ih => exact .cons a b ih

def keyOf : Option Expr → Option Int
  | some (.Constant (.int k) _ _) => some k
  | _ => none
def textOf : Expr → Option Str
  | .Constant (.str x) _ _ => some x
  | _ => none
theorem keyOf_some {a : Option Expr} {k : Int} (h : keyOf a = some k) : ∃ p q, a = some (.Constant (.int k) p q) := by
  unfold keyOf at h
  split at h
  · cases h; exact ⟨_, _, rfl⟩
  · cases h
theorem textOf_some {a : Expr} {x : Str} (h : textOf a = some x) : ∃ p q, a = .Constant (.str x) p q := by
  unfold textOf at h
  split at h
  · cases h; exact ⟨_, _, rfl⟩
  · cases h
def litTab : List (Option Expr) → List Expr → Option (List (Int × Str))
  | [], [] => some []
  | [], _ :: _ => none
  | _ :: _, [] => none
  | a :: ks, b :: vs => (keyOf a).bind fun k => (textOf b).bind fun x => (litTab ks vs).bind fun r => some ((k, x) :: r)
theorem lits_of {env : Env} {pos : Pos} : ∀ (keys : List (Option Expr)) (values : List Expr) (D : List (Int × Str)), litTab keys values = some D → Lits w A (pairTrees keys values env pos) D := by
  intro keys
  induction keys with
  | nil =>
    intro values D h
    cases values with
    | nil => cases h; exact .nil
    | cons _ _ => cases h
  | cons a ks ih =>
    intro values D h
    cases values with
    | nil => cases h
    | cons b vs =>
      obtain ⟨k, hk, h⟩ := Option.bind_eq_some_iff.mp h
      obtain ⟨x, hx, h⟩ := Option.bind_eq_some_iff.mp h
      obtain ⟨r, hr, h⟩ := Option.bind_eq_some_iff.mp h
      cases h
      obtain ⟨_, _, rfl⟩ := keyOf_some hk
      obtain ⟨_, _, rfl⟩ := textOf_some hx
      refine .cons (fun s Q E hq => wpAny_Constant_int (hq _ _)) (fun s Q E hq => ?_) (ih vs r hr)
      refine wpAny_bind (wpAny_Constant_str ?_)
      exact wpAny_bind (wpAny_standAt (wpAny_pure (hq _ _)))

theorem lits_store {d : Addr} : ∀ (ps : List (Sem Value × Sem Value)) (D Dacc : List (Int × Str)) (acc : List (Int × Value)) (s : Shared) (Q : PUnit → Shared → Prop) (E : Value → Shared → Prop), Lits w A ps D → LitKvs acc Dacc → ((Dacc ++ D).map (·.1)).Nodup → acc.length + ps.length ≤ sizeLine →
    s.heap.DictOf (intKind PySem.Challenge.rw_og0244_01.row.prog w) d acc →
    (∀ h' tk kvs, h'.DictOf (intKind PySem.Challenge.rw_og0244_01.row.prog w) d kvs → LitKvs kvs (Dacc ++ D) → Heap.SameBut d s.heap h' → Q PUnit.unit { s with heap := h', toks := tk }) →
    wpAny (model PySem.Challenge.rw_og0244_01.row.prog w) A (forIn ps PUnit.unit fun (x : Sem Value × Sem Value) (_ : PUnit) => (do
      let kv ← x.1
      let vv ← holding [kv] x.2
      holding [kv, vv] (dictSet d kv vv)
      pure (ForInStep.yield PUnit.unit) : Sem (ForInStep PUnit))) Q E s := by
  intro ps
  induction ps with
  | nil =>
    intro D Dacc acc s Q E hL hA hn hz hm hQ
    cases hL
    rw [List.forIn_nil]
    exact wpAny_pure (hQ s.heap s.toks acc hm (by simpa using hA) (.refl ..))
  | cons p ps ih =>
    intro D Dacc acc s Q E hL hA hn hz hm hQ
    cases hL with
    | @cons kt vt k x _ D hk hv hL =>
    rw [List.forIn_cons]
    have hfresh : k ∉ acc.map (·.1) := by
      rw [hA.keys]
      intro hmem
      rw [List.map_append, List.map_cons, List.nodup_append] at hn
      exact hn.2.2 k hmem k (.head _) rfl
    refine wpAny_bind (wpAny_bind (hk _ _ _ fun t tk => ?_))
    refine wpAny_bind (wpAny_holding (hv _ _ _ fun t' tk' => ?_))
    refine wpAny_bind (wpAny_holding (wpAny_dictSet_pairs (knd := intKind _ _) (hsz := by simp only [List.length_cons] at hz; omega) (intKind_is _ _ k t) hm fun h₁ hm₁ hs₁ => ?_))
    refine wpAny_pure ?_
    rw [stored_fresh hfresh] at hm₁
    refine ih D (Dacc ++ [(k, x)]) (acc ++ [(k, .str x t')]) _ Q E hL (hA.append (.cons k x t' .nil)) (by simpa using hn) (by simp only [List.length_append, List.length_cons, List.length_nil] at hz ⊢; omega) hm₁ fun h' tk'' kvs a b c => ?_
    exact hQ h' tk'' kvs a (by simpa using b) (hs₁.trans c)

theorem lits_evalPairs : ∀ (ps : List (Sem Value × Sem Value)) (D : List (Int × Str)) (s : Shared) (Q : List (Value × Value) → Shared → Prop) (E : Value → Shared → Prop), Lits w A ps D →
    (∀ vs tk kvs, Carries (intKind PySem.Challenge.rw_og0244_01.row.prog w) vs kvs → LitKvs kvs D → Q vs { s with toks := tk }) → wpAny (model PySem.Challenge.rw_og0244_01.row.prog w) A (evalPairs ps) Q E s := by
  intro ps
  induction ps with
  | nil => intro D s Q E hL hQ; cases hL; exact evalPairs_nil (hQ [] s.toks [] trivial .nil)
  | cons p ps ih =>
    intro D s Q E hL hQ
    cases hL with
    | @cons kt vt k x _ D hk hv hL =>
    refine evalPairs_cons (hk _ _ _ fun t tk => hv _ _ _ fun t' tk' => ih D _ _ _ hL fun vs tk'' kvs hc hl => ?_)
    exact hQ _ tk'' ((k, .str x t') :: kvs) ⟨intKind_is _ _ k t, rfl, hc⟩ (.cons k x t' hl)

theorem subDict_lits {ps : List (Sem Value × Sem Value)} {D : List (Int × Str)} {s : Shared} {Q : Addr → Shared → Prop} {E : Value → Shared → Prop} (hL : Lits w A ps D) (hn : (D.map (·.1)).Nodup) (hz : ps.length ≤ 17)
    (hQ : ∀ h' tk kvs, h'.DictOf (intKind PySem.Challenge.rw_og0244_01.row.prog w) s.heap.objs.size kvs → LitKvs kvs D → (∀ b o, s.heap.get? b = some o → h'.get? b = some o) → Q s.heap.objs.size { s with heap := h', toks := tk }) :
    wpAny (model PySem.Challenge.rw_og0244_01.row.prog w) A (subDict ps) Q E s := by
  have grow : ∀ h', Heap.SameBut s.heap.objs.size (s.heap.push { cls := .type "dict", data := .dict #[] }) h' → ∀ b o, s.heap.get? b = some o → h'.get? b = some o :=
    fun h' hs b o e => hs.extBut b o (Nat.ne_of_lt (Heap.lt_size e)) (Heap.get?_push_of_some _ e)
  by_cases h15 : ps.length ≤ 15
  · refine wpAny_subDict (knd := intKind _ _) h15 (lits_evalPairs ps D _ _ _ hL fun vs tk kvs hc hl => ⟨kvs, hc, Heap.DictOf.new _, fun h' hd hs => ?_⟩)
    rw [merged_nil_of_nodup kvs (by rw [hl.keys]; exact hn)] at hd
    exact hQ h' _ kvs hd hl (grow h' hs)
  · unfold subDict
    refine wpAny_bind (wpAny_alloc ?_)
    refine wpAny_bind (wpAny_holding ?_)
    rw [if_neg h15]
    refine wpAny_bind (wpAny_rule ?_)
    refine wpAny_bind (lits_store ps D [] [] _ _ _ hL .nil (by simpa using hn) (by rw [sizeLine_eq, List.length_nil]; omega) (Heap.DictOf.new _) fun h' tk kvs hd hl hs => ?_)
    exact wpAny_pure (wpAny_pure (hQ h' tk kvs hd (by simpa using hl) (grow h' hs)))
end
end
section
set_option maxHeartbeats 2000000
section
variable {w : World} {K : Type} [DecidableEq K] {knd : KeyKind PySem.Challenge.rw_og0244_01.row.prog w K} {A : Around} {E : Value → Shared → Prop} {s : Shared}

theorem put_fresh {d : Addr} {kvs : List (K × Value)} {k : K} {key v : Value} {Q : Unit → Shared → Prop} (hkey : knd.is k key = true) (hm : s.heap.DictOf knd d kvs) (hf : k ∉ kvs.map (·.1))
    (hQ : ∀ h', h'.DictOf knd d (kvs ++ [(k, v)]) → Heap.SameBut d s.heap h' → Q () { s with heap := h' }) (hsz : kvs.length ≤ sizeLine) :
    wpAny (model PySem.Challenge.rw_og0244_01.row.prog w) A (dictPut d (knd.hash k) key v) Q E s := by
  obtain ⟨o, es, ep, ho, hc, hd, hk, hp, hn⟩ := hm
  have hes : es.size ≤ sizeLine := by
    have e1 := hp.length
    have e2 : es.toList.length = es.size := by simp
    omega
  unfold dictPut
  refine wpAny_bind (wpAny_dictFind_of hkey ho hd hk ?_)
  have hidx : (es.findIdx? fun e => knd.is k e.key) = kvs.findIdx? fun kv => decide (kv.1 = k) := by
    rw [← hp.findIdx k]; obtain ⟨l⟩ := es; simp
  have hnone : (es.findIdx? fun e => knd.is k e.key) = none := by
    rw [hidx, List.findIdx?_eq_none_iff]
    intro kv hkv
    simp only [decide_eq_false_iff_not]
    intro e
    exact hf (List.mem_map.mpr ⟨kv, hkv, e⟩)
  rw [hnone]
  refine wpAny_updateDictKeys (hz := hes) ho hd (hQ _ ⟨_, _, ep + 1, Heap.get?_update_self _ ho (Obj.isFreed_of_dict (Obj.data_mapDictKeys hd _)),
      hc.mapDictKeys _, Obj.data_mapDictKeys hd _, hk.push hkey _, ?_, ?_⟩ (Heap.SameBut.update ..))
  · have := hp.append hkey (knd.hash k) v
    obtain ⟨l⟩ := es
    simpa using this
  · rw [List.map_append, List.nodup_append]
    refine ⟨hn, by simp, ?_⟩
    intro a ha b hb
    simp only [List.map_cons, List.map_nil, List.mem_singleton] at hb
    subst hb
    exact fun e => hf (e ▸ ha)

theorem merge_fresh {d a : Addr} {kvs more : List (K × Value)} {Q : Unit → Shared → Prop} (hda : d ≠ a) (haS : (a == sysModules) = false)
    (hd : s.heap.DictOf knd d kvs) (ha : s.heap.DictOf knd a more) (hne : kvs ≠ []) (hn : ((kvs ++ more).map (·.1)).Nodup)
    (hQ : ∀ h', h'.DictOf knd d (kvs ++ more) → Heap.SameBut d s.heap h' → Q () { s with heap := h' })
    (hsz : kvs.length + more.length ≤ sizeLine) :
    wpAny (model PySem.Challenge.rw_og0244_01.row.prog w) A (mergeMapping d (.ref a) false) Q E s := by
  obtain ⟨od, esd, epd, hod, hcd, hdd, hkd, hpd, hnd⟩ := id hd
  obtain ⟨oo, eso, epo, hoo, hco, hdo', hko, hpo, hno⟩ := id ha
  have hlen : more.length = eso.size := by rw [← hpo.length]; simp
  unfold mergeMapping
  refine wpAny_bind (m := isInstance _ _) (wpAny_isInstance ha.typeIs isSubtype_dict_dict ?_)
  rw [if_pos rfl]
  refine wpAny_bind (wpAny_specialOf ha.typeIs F.slot_dict_iter.lookup ?_)
  refine wpAny_bind (wpAny_pure ?_)
  simp only [beq_self_eq_true]
  rw [if_neg (by rw [haS]; exact Bool.false_ne_true)]
  refine wpAny_bind (wpAny_dictEntries hod hdd ?_)
  have hemp : ¬ esd.isEmpty = true := by
    intro he
    have h0 : esd = #[] := Array.isEmpty_iff.mp he
    have := hpd.length
    rw [h0] at this
    exact hne (List.length_eq_zero_iff.mp (by simpa using this.symm))
  rw [if_neg hemp]
  refine wpAny_bind (wpAny_dictEntries hoo hdo' ?_)
  refine wpAny_bind (wpAny_dictEpoch hoo hdo' ?_)
  refine wpAny_bind ?_
  refine wpAny_forIn_list _
      (fun rest _ s' => ∀ R : Prop, (∀ (h' : Heap) (i : Nat), s' = { s with heap := h' } → rest = List.range' i (eso.size - i) → i ≤ eso.size → h'.DictOf knd d (kvs ++ more.take i) → h'.get? a = some oo → Heap.SameBut d s.heap h' → R) → R)
      _ ?_ ?_ _ _ (fun _ k => k s.heap 0 rfl (by rw [List.range_eq_range']; simp) (Nat.zero_le _) (by simpa using hd) hoo (Heap.SameBut.refl _ _))
  · intro x rest b s' hJ
    refine hJ _ ?_
    clear hJ
    rintro h' i rfl hr hi hd' hoo' hs'
    have hlt : i < eso.size := by
      rcases Nat.lt_or_ge i eso.size with h | h
      · exact h
      · rw [Nat.sub_eq_zero_of_le h] at hr; simp at hr
    obtain ⟨rfl, hrest⟩ : x = i ∧ rest = List.range' (i + 1) (eso.size - (i + 1)) := by
      have e : eso.size - i = (eso.size - (i + 1)) + 1 := (Nat.succ_pred_eq_of_pos (Nat.sub_pos_of_lt (by assumption))).symm
      rw [e, List.range'_succ] at hr
      injection hr with h1 h2
      exact ⟨h1, h2⟩
    refine wpAny_bind (wpAny_dictEntries hoo' hdo' ?_)
    rw [Array.getElem?_eq_getElem hlt]
    obtain ⟨kv, hkv⟩ : ∃ kv, more[x]? = some kv := ⟨more[x]'(by rw [hlen]; exact hlt), List.getElem?_eq_getElem _⟩
    obtain ⟨k, v⟩ := kv
    obtain ⟨hkey, hval⟩ := hpo.get? (e := eso[x]) (by simp [hlt]) hkv
    obtain ⟨k', hkey', hhash⟩ := hko eso[x] (Array.getElem_mem hlt)
    obtain rfl : k' = k := knd.inj _ _ _ hkey' hkey
    have hsplit : more.take (x + 1) = more.take x ++ [(k', v)] := by rw [List.take_add_one, hkv]; rfl
    have hmx : (kvs ++ more.take x).length ≤ sizeLine := by
      rw [List.length_append]; exact Nat.le_trans (Nat.add_le_add_left (List.length_take_le' _ _) _) hsz
    have hfr : k' ∉ (kvs ++ more.take x).map (·.1) := by
      intro hmem
      have h1 : ((kvs ++ more.take (x + 1)).map (·.1)).Nodup := by
        refine List.Sublist.nodup ?_ hn
        exact (List.Sublist.append (List.Sublist.refl _) (List.take_sublist _ _)).map _
      rw [hsplit, ← List.append_assoc, List.map_append, List.nodup_append] at h1
      exact h1.2.2 k' hmem k' (by simp) rfl
    dsimp only
    simp only [Bool.false_eq_true, if_false]
    rw [hhash, hval]
    refine wpAny_bind (wpAny_holding (put_fresh hkey hd' hfr (fun h'' hd'' hs'' => ?_) hmx))
    have hoo'' : h''.get? a = some oo := (hs''.2 a (Ne.symm hda)).trans hoo'
    refine wpAny_bind (wpAny_dictEpoch hoo'' hdo' ?_)
    rw [if_neg (by simp)]
    refine wpAny_pure (fun _ k => k h'' (x + 1) rfl hrest hlt ?_ hoo'' (hs'.trans hs''))
    rw [hsplit, ← List.append_assoc]; exact hd''
  · intro b s' hJ
    refine hJ _ ?_
    clear hJ
    rintro h' i rfl hr hi hd' hoo' hs'
    have hin : i = eso.size := by
      rcases Nat.lt_or_ge i eso.size with h | h
      · have e : eso.size - i = (eso.size - (i + 1)) + 1 := (Nat.succ_pred_eq_of_pos (Nat.sub_pos_of_lt (by assumption))).symm
        rw [e, List.range'_succ] at hr; exact nomatch hr
      · exact Nat.le_antisymm hi h
    refine wpAny_pure (hQ h' ?_ hs')
    rw [hin, ← hlen, List.take_length] at hd'; exact hd'
end
end
section
set_option maxHeartbeats 2000000
section
variable {w : World} {A : Around} {E : Value → Shared → Prop} {s : Shared}
def MainOk (w : World) (n : Nat) (main : Option Addr) (Dd : List (Int × Str)) (h : Heap) : Prop := match main with
  | none => Dd = []
  | some d => Dd ≠ [] ∧ ∃ kvs, h.DictOf (intKind PySem.Challenge.rw_og0244_01.row.prog w) d kvs ∧ LitKvs kvs Dd ∧ n ≤ d ∧ d < h.objs.size

theorem nodup_left {D D' : List (Int × Str)} (h : ((D ++ D').map (·.1)).Nodup) : (D.map (·.1)).Nodup := (h.sublist ((List.sublist_append_left _ _).map _))
theorem nodup_right {D D' : List (Int × Str)} (h : ((D ++ D').map (·.1)).Nodup) : (D'.map (·.1)).Nodup := (h.sublist ((List.sublist_append_right _ _).map _))

theorem flush_lits {main : Option Addr} {run : List (Sem Value × Sem Value)} {n : Nat} {Dd Dr : List (Int × Str)} {Q : Option Addr → Shared → Prop} (hne : run ≠ []) (hL : Lits w A run Dr) (hlen : run.length ≤ 17) (hn : ((Dd ++ Dr).map (·.1)).Nodup)
    (hsz : (Dd ++ Dr).length ≤ sizeLine) (hm : MainOk w n main Dd s.heap) (hN : n ≤ s.heap.objs.size) (hS : sysModules < n)
    (hQ : ∀ d h' tk, MainOk w n (some d) (Dd ++ Dr) h' → (∀ b o, b < n → s.heap.get? b = some o → h'.get? b = some o) → s.heap.objs.size ≤ h'.objs.size → Q (some d) { s with heap := h', toks := tk }) :
    wpAny (model PySem.Challenge.rw_og0244_01.row.prog w) A (do
      if run.isEmpty then return main
      match main with
      | none => return some (← subDict run)
      | some d =>
        let sub ← holding [.ref d] (subDict run)
        (holding [.ref d, .ref sub] (mergeMapping d (.ref sub) false)).onRaise fun x => do let _ ← holding [.ref d, x] (runValue (.builtin "proto.let_go" {}))
        return some d) Q E s := by
  have hDr : Dr ≠ [] := by
    intro e; subst e
    exact hne (List.length_eq_zero_iff.mp hL.length)
  have he : run.isEmpty = false := by cases run with | nil => exact absurd rfl hne | cons _ _ => rfl
  rw [he]
  simp only [Bool.false_eq_true, if_false]
  cases main with
  | none =>
    have hm : Dd = [] := hm
    subst hm
    dsimp only
    refine wpAny_bind (subDict_lits hL (by simpa using hn) hlen fun h' tk kvs hd hl hg => ?_)
    have hlt : s.heap.objs.size < h'.objs.size := by
      obtain ⟨o, _, _, ho, _⟩ := hd
      exact Heap.lt_size ho
    refine wpAny_pure (hQ _ h' tk ⟨by simpa using hDr, kvs, hd, by simpa using hl, hN, hlt⟩ (fun b o _ e => hg b o e) (Nat.le_of_lt hlt))
  | some d =>
    obtain ⟨hDd, kvs₀, hd₀, hl₀, hnd, hds⟩ := hm
    dsimp only
    refine wpAny_bind (wpAny_holding (subDict_lits hL (nodup_right hn) hlen fun h' tk kvs hd hl hg => ?_))
    have hlt : s.heap.objs.size < h'.objs.size := by
      obtain ⟨o, _, _, ho, _⟩ := hd
      exact Heap.lt_size ho
    have hd₁ : h'.DictOf (intKind PySem.Challenge.rw_og0244_01.row.prog w) d kvs₀ := hd₀.keep hg
    refine wpAny_bind (wpAny_onRaise (wpAny_holding (merge_fresh (Nat.ne_of_lt hds) ?_ hd₁ hd ?_ ?_ (fun h'' hd'' hs'' => ?_) ?_)))
    · have : s.heap.objs.size ≠ sysModules := Nat.ne_of_gt (Nat.lt_of_lt_of_le hS hN)
      simpa using this
    · intro e; subst e
      cases hl₀
      exact hDd rfl
    · rw [List.map_append, hl₀.keys, hl.keys, ← List.map_append]; exact hn
    · refine wpAny_pure (hQ d h'' tk ⟨by simp [hDd], _, hd'', hl₀.append hl, hnd, ?_⟩ (fun b o hb e => (hs''.2 b (Nat.ne_of_lt (Nat.lt_of_lt_of_le hb hnd))).trans (hg b o e)) ?_)
      · obtain ⟨o, _, _, ho, _⟩ := hd''
        exact Heap.lt_size ho
      · have hz : h''.objs.size = h'.objs.size := hs''.1
        omega
    · rw [hl₀.length, hl.length, ← List.length_append]; exact hsz

def DispJ (w : World) (A : Around) (s : Shared) (D : List (Int × Str)) (rest : List (Option (Sem Value) × Sem Value)) (b : Option Addr × List (Sem Value × Sem Value)) (s' : Shared) : Prop :=
  ∀ R : Prop, (∀ (h' : Heap) (tk : Nat) (Dd Dr Ds : List (Int × Str)) (qs : List (Sem Value × Sem Value)), s' = { s with heap := h', toks := tk } → D = Dd ++ Dr ++ Ds → Lits w A b.2 Dr → rest = qs.map (fun p => (some p.1, p.2)) → Lits w A qs Ds → b.2.length ≤ 16 →
      MainOk w s.heap.objs.size b.1 Dd h' → (∀ a o, a < s.heap.objs.size → s.heap.get? a = some o → h'.get? a = some o) → s.heap.objs.size ≤ h'.objs.size → R) → R
theorem display_lits {ps : List (Sem Value × Sem Value)} {D : List (Int × Str)} {Q : Value → Shared → Prop} (hne : ps ≠ []) (hL : Lits w A ps D) (hn : (D.map (·.1)).Nodup) (hsz : D.length ≤ sizeLine) (hS : sysModules < s.heap.objs.size)
    (hQ : ∀ d h' tk kvs, h'.DictOf (intKind PySem.Challenge.rw_og0244_01.row.prog w) d kvs → LitKvs kvs D → s.heap.objs.size ≤ d → (∀ b o, s.heap.get? b = some o → h'.get? b = some o) → Q (.ref d) { s with heap := h', toks := tk }) :
    wpAny (model PySem.Challenge.rw_og0244_01.row.prog w) A (dictDisplay (ps.map fun p => (some p.1, p.2))) Q E s := by
  have hDne : D ≠ [] := by
    intro e; subst e
    exact hne (List.length_eq_zero_iff.mp hL.length)
  unfold dictDisplay
  dsimp only
  refine wpAny_bind ?_
  refine wpAny_forIn_list _
    (DispJ w A s D)
    _ ?_ ?_ _ _ (fun _ k => k s.heap s.toks [] [] D ps rfl (by simp) .nil rfl hL (by simp) rfl (fun a o _ e => e) (Nat.le_refl _))
  · rintro x rest ⟨main, run⟩ s' hJ
    refine hJ _ ?_
    rintro h' tk Dd Dr Ds qs rfl hD hLr hq hLq hlen hm hg hz
    cases qs with
    | nil => cases hq
    | cons q qs =>
      cases hLq with
      | @cons kt vt k y _ Ds hk hv hLq =>
      simp only [List.map_cons, List.cons.injEq] at hq
      obtain ⟨rfl, rfl⟩ := hq
      dsimp only at hlen hLr hm ⊢
      have hL1 : Lits w A (run ++ [(kt, vt)]) (Dr ++ [(k, y)]) := hLr.append (.cons hk hv .nil)
      by_cases h17 : ((run ++ [(kt, vt)]).length == 17) = true
      · rw [if_pos h17]
        have hD' : D = (Dd ++ (Dr ++ [(k, y)])) ++ Ds := by rw [hD]; simp
        refine wpAny_bind (flush_lits (main := main) (n := s.heap.objs.size) (Dd := Dd) (by simp) hL1 (by simp only [List.length_append, List.length_cons, List.length_nil]; omega) (nodup_left (D' := Ds) (by rw [← hD']; exact hn)) (by rw [hD', List.length_append] at hsz; omega) hm hz hS fun d h'' tk'' hm' hg' hz' => ?_)
        refine wpAny_pure (fun _ k' => k' h'' tk'' (Dd ++ (Dr ++ [(k, y)])) [] Ds qs rfl (by rw [hD']; simp) .nil rfl hLq (by simp) hm' (fun a o ha e => hg' a o ha (hg a o ha e)) (Nat.le_trans hz hz'))
      · rw [if_neg h17]
        refine wpAny_pure (fun _ k' => k' h' tk Dd (Dr ++ [(k, y)]) Ds qs rfl (by rw [hD]; simp) hL1 rfl hLq ?_ hm hg hz)
        simp only [List.length_append, List.length_cons, List.length_nil, beq_iff_eq] at h17 ⊢
        omega
  · rintro ⟨main, run⟩ s' hJ
    refine hJ _ ?_
    rintro h' tk Dd Dr Ds qs rfl hD hLr hq hLq hlen hm hg hz
    have hqs : qs = [] := by cases qs with | nil => rfl | cons _ _ => cases hq
    subst hqs
    cases hLq
    rw [List.append_nil] at hD
    dsimp only at hlen hLr hm ⊢
    have fin : ∀ d h'' tk'', MainOk w s.heap.objs.size (some d) D h'' → (∀ a o, a < s.heap.objs.size → s.heap.get? a = some o → h''.get? a = some o) → Q (.ref d) { s with heap := h'', toks := tk'' } := by
      intro d h'' tk'' hm' hg'
      obtain ⟨_, kvs, hd, hl, hle, _⟩ := hm'
      exact hQ d h'' tk'' kvs hd hl hle fun b o e => hg' b o (Heap.lt_size e) e
    by_cases hr : run = []
    · subst hr
      cases hLr
      rw [List.append_nil] at hD
      subst hD
      refine wpAny_bind (wpAny_pure ?_)
      cases main with
      | none => exact absurd hm hDne
      | some d => exact wpAny_pure (fin d h' tk hm hg)
    · refine wpAny_bind (flush_lits (main := main) (n := s.heap.objs.size) (Dd := Dd) hr hLr (by omega) (by rw [← hD]; exact hn) (by rw [← hD]; exact hsz) hm hz hS fun d h'' tk'' hm' hg' hz' => ?_)
      rw [← hD] at hm'
      exact wpAny_pure (fin d h'' tk'' hm' fun a o ha e => hg' a o ha (hg a o ha e))
end

section
variable {w : World} {A : Around} {E : Value → Shared → Prop} {s : Shared} {h₀ : Heap} {L : Addr} {m : Str → Option Value} {news : Led} {env : Env}
theorem longDict_K {keys : List (Option PySem.Expr)} {values : List PySem.Expr} {pos : Pos} {D : List (Int × Str)} {Q : Value → Shared → Prop} (F : Fr h₀ L s.heap m) (N : News h₀ L s.heap news) (hbig : h₀.NoLimit)
    (hD : litTab keys values = some D) (hall : keys.all (·.isSome) = true) (hl : keys.length = values.length) (hne : D ≠ []) (hn : (D.map (·.1)).Nodup) (hsz : D.length ≤ 100)
    (h : ∀ d h' tk o kvs, Fr h₀ L h' m → News h₀ L h' ((d, o) :: news) → (∀ p ∈ news, p.1 < d) → (d == sysModules) = false → o.IsDictOf (intKind PySem.Challenge.rw_og0244_01.row.prog w) kvs → LitKvs kvs D → Q (.ref d) { s with heap := h', toks := tk }) :
    wpAny (model PySem.Challenge.rw_og0244_01.row.prog w) A (eval (.Dict keys values pos) env) Q E s := by
  rw [arm_eval_Dict, zip_pairTrees keys values env pos hall hl]
  refine wpAny_bind (wpAny_standAt ?_)
  have hL := lits_of (w := w) (A := A) (env := env) (pos := pos) keys values D hD
  have hlow : sysModules < h₀.objs.size := modules_low hbig
  have hLlt : L < s.heap.objs.size := F.ns.lt
  have hbase : sysModules < s.heap.objs.size := Nat.lt_trans hlow (Nat.lt_of_le_of_lt F.above hLlt)
  refine display_lits (s := s) ?_ hL hn (by rw [sizeLine_eq]; omega) hbase fun d h' tk kvs hd hlk hle hg => ?_
  · intro e
    have := hL.length
    rw [e] at this
    exact hne (List.length_eq_zero_iff.mp this.symm)
  · obtain ⟨o, ho, hdo⟩ := Heap.dictOf_iff.mp hd
    refine h d h' tk o kvs (F.keeps hg) ?_ (fun p hp => Nat.lt_of_lt_of_le (Heap.lt_size (N p hp).1) hle) ?_ hdo hlk
    · intro p hp
      rcases List.mem_cons.mp hp with rfl | hp
      · refine ⟨ho, Nat.ne_of_gt (Nat.lt_of_lt_of_le hLlt hle), ?_⟩
        cases q : h₀.get? d with
        | none => rfl
        | some o' => exact absurd (Nat.lt_of_lt_of_le (Heap.lt_size (F.keep _ _ q)) hle) (Nat.lt_irrefl _)
      · exact ⟨hg _ _ (N p hp).1, (N p hp).2⟩
    · have : d ≠ sysModules := Nat.ne_of_gt (Nat.lt_of_lt_of_le hbase hle)
      simpa using this
end
end
example : Zz 0 := by (try walk1); exact trivial
local macro_rules | `(tactic| k_room) => `(tactic| ((show _ < 1000); (try simp only [depth_under_make, depth_under_kw, depth_in1, depth_deeper, depth_caller]); (try dsimp only [kt, ktC, ktrTop]); first | exact room_lit (by with_reducible assumption) (by exact tru) | omega))
local macro_rules | `(tactic| k_ne) => `(tactic| focus (first | with_reducible assumption | with_reducible exact Ne.symm (by assumption) | (refine' (?_ : UseB true _ _ _) ?_; rotate_left; (with_reducible assumption); kl_some) | (refine' (?_ : UseB false _ _ _) ?_; rotate_left; (with_reducible assumption); kl_some) | omega))
local macro_rules | `(tactic| k_all) => `(tactic| focus ((repeat (first | exact off_nil | exact List.forall_mem_nil _ | exact OffAll.all (by with_reducible assumption) | with_reducible assumption | (refine' off_cons2 ?_ ?_; k_ne) | (refine' List.forall_mem_cons.mpr ⟨?_, ?_⟩; k_ne))); done))
section
def privTab : List (Int × Str) := [(1, Str.ofString "app_cursor"), (3, Str.ofString "columns_132"), (5, Str.ofString "reverse_screen"), (6, Str.ofString "origin"), (7, Str.ofString "autowrap"), (8, Str.ofString "autorepeat"), (9, Str.ofString "mouse_x10"), (12, Str.ofString "blink_cursor"), (25, Str.ofString "show_cursor"), (40, Str.ofString "let_132"), (45, Str.ofString "reverse_wrap"), (47, Str.ofString "alternate"), (66, Str.ofString "app_keypad"), (67, Str.ofString "backarrow"), (69, Str.ofString "side_margins"), (80, Str.ofString "sixel_still"), (1000, Str.ofString "mouse_click"), (1002, Str.ofString "mouse_drag"), (1003, Str.ofString "mouse_all"), (1004, Str.ofString "focus"), (1005, Str.ofString "mouse_utf8"), (1006, Str.ofString "mouse_sgr"), (1007, Str.ofString "alternate_scroll"), (1015, Str.ofString "mouse_urxvt"), (1016, Str.ofString "mouse_pixels"), (1034, Str.ofString "meta_eight"), (1035, Str.ofString "num_lock"), (1036, Str.ofString "meta_escape"), (1037, Str.ofString "delete_del"), (1045, Str.ofString "reverse_wrap_far"), (1047, Str.ofString "alternate_clear"), (1048, Str.ofString "keep_cursor"), (1049, Str.ofString "alternate_full"), (2004, Str.ofString "paste"), (2026, Str.ofString "synchronised"), (2027, Str.ofString "clusters")]
def plainTab : List (Int × Str) := [(2, Str.ofString "locked"), (4, Str.ofString "insert"), (12, Str.ofString "send_receive"), (20, Str.ofString "newline")]
def wordTab (b : Bool) : List (Int × Str) := if b then privTab else plainTab
set_option maxHeartbeats 8000000 in
theorem words_spec {w : World} {pgm : Program} {loo : List Str} {mean : ExcName → Option Value} {mg mb : Str → Option Value} (b : Bool) :
    Spec w pgm loo mean mg mb (.ref 34) 880 8900 [.bool b] [] (fun r foot' => ∃ x oX kvs, r = .ref x ∧ foot' = [(x, oX)] ∧ oX.IsDictOf (intKind PySem.Challenge.rw_og0244_01.row.prog w) kvs ∧ LitKvs kvs (wordTab b) ∧ (x == sysModules) = false) := by
  cases b
  · (k_dflt (refine' spec_of ?k6 ?k7 ?k8 ?k9 ?kB ?_ ?c2 ?c3 ?c4 ?c5; (case k6 => k_is); (case k7 => k_is); (case k8 => decide); (case k9 => exact fun s X => BindsTo.of_eq rfl); (case c5 => decide); (case kB => exact locs rfl); (case c2 => exact rfl); (case c3 => exact rfl); (case c4 => exact rfl); k_whole); intro ev A₀ base g' L' h₁ s tk₁ hdp hun B' F' N' X' T' hlt QL hL; k_lt hlt; (try dsimp only))
    iterate 6 walk1
    simp only [Bool.not_false, if_true]
    iterate 2 walk1
    k_dflt (refine' longDict_K (D := plainTab) ?F ?N ?b ?d ?a ?l ?n1 ?n2 ?z ?_; (case F => k_asm); (case N => k_asm); (case b => exact Top.nolimit (by k_asm)); (case d => kernel_rfl); (case a => kernel_rfl); (case l => kernel_rfl); (case n1 => exact List.cons_ne_nil _ _); (case n2 => decide +kernel); (case z => decide))
    intro d' h' tk' o' kvs' F' N' l1 lo' hd' hl'
    (try dsimp only)
    exact hL.leave F' N' (foot' := [(d', o')]) (fun p hp => hp) ⟨_, _, _, rfl, rfl, hd', hl', lo'⟩
  · (k_dflt (refine' spec_of ?k6 ?k7 ?k8 ?k9 ?kB ?_ ?c2 ?c3 ?c4 ?c5; (case k6 => k_is); (case k7 => k_is); (case k8 => decide); (case k9 => exact fun s X => BindsTo.of_eq rfl); (case c5 => decide); (case kB => exact locs rfl); (case c2 => exact rfl); (case c3 => exact rfl); (case c4 => exact rfl); k_whole); intro ev A₀ base g' L' h₁ s tk₁ hdp hun B' F' N' X' T' hlt QL hL; k_lt hlt; (try dsimp only))
    iterate 6 walk1
    simp only [Bool.not_true, Bool.false_eq_true, if_false]
    iterate 3 walk1
    k_dflt (refine' longDict_K (D := privTab) ?F ?N ?b ?d ?a ?l ?n1 ?n2 ?z ?_; (case F => k_asm); (case N => k_asm); (case b => exact Top.nolimit (by k_asm)); (case d => kernel_rfl); (case a => kernel_rfl); (case l => kernel_rfl); (case n1 => exact List.cons_ne_nil _ _); (case n2 => decide +kernel); (case z => decide))
    intro d' h' tk' o' kvs' F' N' l1 lo' hd' hl'
    (try dsimp only)
    exact hL.leave F' N' (foot' := [(d', o')]) (fun p hp => hp) ⟨_, _, _, rfl, rfl, hd', hl', lo'⟩
theorem wordsV {w : World} {pgm : Program} {loo : List Str} {mean : ExcName → Option Value} {mg mb : Str → Option Value} {dp un : Nat} {gd : Option (List Code)} {cn : Str} {cs : Scope} {za : Addr} {ccd : Value} {cl : List (Str × Addr)} {outer : List Env} {A₀ : Around} {base h₀ : Heap} {zL : Addr} {zm : Str → Option Value} {zn zr : Led} {zs : Shared} {zQ zE : Value → Shared → Prop} (zS : Site w pgm loo mean mg mb 880 8900 dp un cs outer A₀ base h₀ zL zs.heap zm zn ∧ Picks [] zn zr ∧ Apart [] zr) (b : Bool)
    (zh : ∀ h9 tk9, Fr h₀ zL h9 zm → ∀ x oX kvs, oX.IsDictOf (intKind PySem.Challenge.rw_og0244_01.row.prog w) kvs → LitKvs kvs (wordTab b) → (x == sysModules) = false → News h₀ zL h9 ((x, oX) :: zr) → AP1 x (zr.map (·.1)) → zQ (.ref x) { zs with heap := h9, toks := tk9 }) :
    wpAny (model PySem.Challenge.rw_og0244_01.row.prog w) (ktrTop dp un gd cn cs zL za ccd cl outer) (call (.ref 34) [.bool b]) zQ zE zs :=
  words_spec b _ _ _ _ _ _ _ _ _ _ _ _ _ _ _ _ _ _ _ zS.1.B zS.1.F zS.1.X zS.1.T zS.1.k zS.1.d zS.1.u zS.1.N zS.2.1 zS.2.2 fun r foot h9 tk9 hp F9 N9 ap => by
    obtain ⟨x, oX, kvs, rfl, rfl, y0, y1, y2⟩ := hp
    exact zh h9 tk9 F9 x oX kvs y0 y1 y2 N9 (AP1.of ap)
end
section
set_option maxHeartbeats 1000000
abbrev BD := List (Str × Bool)
def boolsOf (D : BD) : List (Str × Value) := D.map fun p => (p.1, .bool p.2)
def getB (D : BD) (k : Str) : Option Bool := (D.find? fun p => p.1 = k).map (·.2)
def putB (D : BD) (k : Str) (b : Bool) : BD := if D.any (fun p => p.1 = k) then D.map (fun p => if p.1 = k then (p.1, b) else p) else D ++ [(k, b)]
def BoolDict (w : World) (o : Obj) (D : BD) : Prop := o.IsDictOf (strKind PySem.Challenge.rw_og0244_01.row.prog w) (boolsOf D)
theorem boolsOf_keys (D : BD) : (boolsOf D).map (·.1) = D.map (·.1) := by simp [boolsOf]
theorem boolsOf_length (D : BD) : (boolsOf D).length = D.length := by simp [boolsOf]
theorem valueAt_bools (D : BD) (k : Str) : valueAt (boolsOf D) k = (getB D k).map .bool := by
  induction D with
  | nil => rfl
  | cons p r ih =>
    by_cases e : p.1 = k
    · simp [valueAt, boolsOf, getB, e]
    · simp only [valueAt, boolsOf, getB, List.map_cons, List.find?_cons, e, decide_false] at ih ⊢
      exact ih
theorem stored_bools (D : BD) (k : Str) (b : Bool) : stored (boolsOf D) k (.bool b) = boolsOf (putB D k b) := by
  unfold stored putB
  have e : (boolsOf D).any (fun kv => decide (kv.1 = k)) = D.any fun p => decide (p.1 = k) := by simp [boolsOf, List.any_map]; rfl
  rw [e]
  split
  · simp only [boolsOf, List.map_map]
    apply List.map_congr_left
    intro p _
    simp only [Function.comp]
    split <;> rfl
  · simp [boolsOf]
theorem putB_length (D : BD) (k : Str) (b : Bool) : (putB D k b).length ≤ D.length + 1 := by
  unfold putB
  split <;> simp
section
variable {w : World} {A : Around} {E : Value → Shared → Prop} {s : Shared} {h₀ : Heap} {L d : Addr} {m : Str → Option Value} {news : Led} {o : Obj} {D : BD} {x : Str} {t : Tok} {g : Obj → Led}
theorem bd_get {b : Bool} {Q : Value → Shared → Prop} (N : News h₀ L s.heap news) (hp : (d, o) ∈ news) (hd : BoolDict w o D) (lo : (d == sysModules) = false)
    (h : Q (.bool ((getB D x).getD b)) { s with toks := s.toks + 1 }) : wpAny (model PySem.Challenge.rw_og0244_01.row.prog w) A (call (.builtin "dict.get") [.ref d, .str x t, .bool b]) Q E s := by
  refine kdg_get2 (knd := strKind _ _) N hp hd lo (strKind_is _ _ x t) ((getB D x).map .bool) (valueAt_bools D x) ?_
  cases e : getB D x with
  | none => rw [e] at h; exact h
  | some v => rw [e] at h; exact h
theorem bd_in {Q : Value → Shared → Prop} (N : News h₀ L s.heap news) (hp : (d, o) ∈ news) (hd : BoolDict w o D) (lo : (d == sysModules) = false)
    (h : Q (.bool (getB D x).isSome) { s with toks := s.toks + 1 }) : wpAny (model PySem.Challenge.rw_og0244_01.row.prog w) A (compareOp .In (.str x t) (.ref d)) Q E s :=
  kda_in (knd := strKind _ _) N hp hd lo (strKind_is _ _ x t) _ (by rw [valueAt_bools, Option.isSome_map]) h
theorem bd_tail {value slice : PySem.Expr} {Q : Value → Shared → Prop} {b : Bool} (N : News h₀ L s.heap news) (hp : (d, o) ∈ news) (hd : BoolDict w o D) (hb : getB D x = some b) (h : Q (.bool b) { s with toks := s.toks + 1 })
    (hs : subscripted slice false (.ref d) (.str x t) = operate [.ref d, .str x t] (getItem (.ref d) (.str x t)) := by with_unfolding_all rfl) (hg : ∀ r, letTemporaryGo value (.ref d) r = pure () := by intro _; with_unfolding_all rfl) :
    wpAny (model PySem.Challenge.rw_og0244_01.row.prog w) A (subscriptTail value slice (.ref d) (.str x t)) Q E s :=
  kda_item (knd := strKind _ _) N hp hd (strKind_is _ _ x t) (by rw [valueAt_bools, hb]; rfl) h hs hg
theorem bd_set {b : Bool} {Q : Unit → Shared → Prop} (F : Fr h₀ L s.heap m) (N : News h₀ L s.heap news) (U : UpdF d o news g) (hd : BoolDict w o D) (hsz : D.length ≤ 1000)
    (h : ∀ h' o', Fr h₀ L h' m → News h₀ L h' (g o') → BoolDict w o' (putB D x b) → Q () { s with heap := h', toks := s.toks + 1 }) : wpAny (model PySem.Challenge.rw_og0244_01.row.prog w) A (setItem (.ref d) (.str x t) (.bool b)) Q E s :=
  kda_set (knd := strKind _ _) F N U hd (strKind_is _ _ x t) (by rw [boolsOf_length, sizeLine_eq]; omega) fun h' o' F' N' hd' => h h' o' F' N' (by rw [stored_bools] at hd'; exact hd')
theorem bd_method {pl : Sem Bool} {Q : Value × List Value → Shared → Prop} (N : News h₀ L s.heap news) (hp : (d, o) ∈ news) (hd : BoolDict w o D) (h : Q (.builtin "dict.get", [.ref d]) s) : wpAny (model PySem.Challenge.rw_og0244_01.row.prog w) A (getMethod (.ref d) "get" pl) Q E s :=
  kdg_method (knd := strKind _ _) N hp hd h
end
end
example : Zz 0 := by (try walk1); exact trivial
local macro_rules | `(tactic| walk_at "compareOp In str ref") => `(tactic| (k_here; k_dflt (first
  | (refine' in_base ?_ ?_ ?_; rotate_left 4; k_asm; k_asm; k_whole)
  | (refine' in_led ?_ ?_ ?_ ?_; rotate_left 6; k_asm; k_mem; k_asm; k_whole))))
local macro_rules | `(tactic| walk_at "compareOp NotIn str ref") => `(tactic| (k_here; k_dflt (first
  | (refine' notin_base ?_ ?_ ?_; rotate_left 4; k_asm; k_asm; k_whole)
  | (refine' notin_led ?_ ?_ ?_ ?_; rotate_left 6; k_asm; k_mem; k_asm; k_whole))))
section
example : Zz 0 := by (try walk1); exact trivial
def groupOf (word : Str) : List Str := if word ∈ mouseModes then mouseModes else if word ∈ mouseEncs then mouseEncs else []
set_option maxHeartbeats 8000000 in
theorem group_spec {w : World} {pgm : Program} {loo : List Str} {mean : ExcName → Option Value} {mg mb : Str → Option Value} (word : Str) (tk : Tok) :
    Spec w pgm loo mean mg mb (.ref 55) 860 8800 [.str word tk] [] (fun r foot' => (word ∈ mouseModes ∧ r = .ref 22 ∧ foot' = []) ∨ (word ∉ mouseModes ∧ word ∈ mouseEncs ∧ r = .ref 23 ∧ foot' = []) ∨
      (word ∉ mouseModes ∧ word ∉ mouseEncs ∧ ∃ x n, r = .ref x ∧ foot' = [(x, { cls := .type "tuple", data := .seq #[] n })])) := by
  (k_dflt (refine' spec_of ?k6 ?k7 ?k8 ?k9 ?kB ?_ ?c2 ?c3 ?c4 ?c5; (case k6 => k_is); (case k7 => k_is); (case k8 => decide); (case k9 => exact fun s X => BindsTo.of_eq rfl); (case c5 => decide); (case kB => exact locs rfl); (case c2 => exact rfl); (case c3 => exact rfl); (case c4 => exact rfl); k_whole); intro ev A₀ base g' L' h₁ s tk₁ hdp hun B' F' N' X' T' hlt QL hL; k_lt hlt; (try dsimp only))
  have t22 := mouseModes_at X'
  have t23 := mouseEncs_at X'
  k_steps
  all_goals (try dsimp only)
  · exact hL.leave (by k_asm) (by k_asm) (foot' := []) (fun p hp => nomatch hp) (.inl ⟨by assumption, rfl, rfl⟩)
  · exact hL.leave (by k_asm) (by k_asm) (foot' := []) (fun p hp => nomatch hp) (.inr (.inl ⟨by assumption, by assumption, rfl, rfl⟩))
  · refine hL.leave (by k_asm) (by k_asm) (foot' := [(_, _)]) (fun p hp => hp) (.inr (.inr ⟨by assumption, by assumption, _, _, rfl, rfl⟩))
theorem groupUU {w : World} {pgm : Program} {loo : List Str} {mean : ExcName → Option Value} {mg mb : Str → Option Value} {dp un : Nat} {gd : Option (List Code)} {cn : Str} {cs : Scope} {za : Addr} {ccd : Value} {cl : List (Str × Addr)} {outer : List Env} {A₀ : Around} {base h₀ : Heap} {zL : Addr} {zm : Str → Option Value} {zn zr : Led} {zs : Shared} {zQ zE : Value → Shared → Prop} (zS : Site w pgm loo mean mg mb 860 8800 dp un cs outer A₀ base h₀ zL zs.heap zm zn ∧ Picks [] zn zr ∧ Apart [] zr) (word : Str) (tk : Tok)
    (z0 : ∀ h9 tk9, Fr h₀ zL h9 zm → word ∈ mouseModes → News h₀ zL h9 zr → zQ (.ref 22) { zs with heap := h9, toks := tk9 })
    (z1 : ∀ h9 tk9, Fr h₀ zL h9 zm → word ∉ mouseModes → word ∈ mouseEncs → News h₀ zL h9 zr → zQ (.ref 23) { zs with heap := h9, toks := tk9 })
    (z2 : ∀ h9 tk9, Fr h₀ zL h9 zm → word ∉ mouseModes → word ∉ mouseEncs → ∀ x n, News h₀ zL h9 ((x, { cls := .type "tuple", data := .seq #[] n }) :: zr) → AP1 x (zr.map (·.1)) → zQ (.ref x) { zs with heap := h9, toks := tk9 }) :
    wpAny (model PySem.Challenge.rw_og0244_01.row.prog w) (ktrTop dp un gd cn cs zL za ccd cl outer) (call (.ref 55) [.str word tk]) zQ zE zs :=
  group_spec word tk _ _ _ _ _ _ _ _ _ _ _ _ _ _ _ _ _ _ _ zS.1.B zS.1.F zS.1.X zS.1.T zS.1.k zS.1.d zS.1.u zS.1.N zS.2.1 zS.2.2 fun r foot h9 tk9 hp F9 N9 ap => by
    obtain ⟨h, rfl, rfl⟩ | ⟨h, h', rfl, rfl⟩ | ⟨h, h', x, n, rfl, rfl⟩ := hp
    · exact z0 h9 tk9 F9 h N9
    · exact z1 h9 tk9 F9 h h' N9
    · exact z2 h9 tk9 F9 h h' x n N9 (AP1.of ap)
end
example : Zz 0 := by (try walk1); exact trivial
local macro_rules | `(tactic| walk_at "setItem ref str") => `(tactic| (k_here; k_dflt (refine' bd_set ?_ ?_ ?_ ?_ ?_ ?_; rotate_left 7; k_asm; k_asm; k_updF; k_asm; walk_at "mine le"); intro h' o' F' N' hd'; (try dsimp only at N'); (try k_sweep)))
section
example : Zz 0 := by (try walk1); exact trivial
local macro_rules | `(tactic| walk_at "call ref") => `(tactic| (k_here; focus (k_dflt (refine' groupUU ?_ _ _ ?_ ?_ ?_; rotate_left 11; walk_at "mine site"; all_goals walk_at "mine afterG"))))
local macro_rules | `(tactic| walk_at "exec For Name Call cons nil") => `(tactic| walk_at "mine for")
abbrev modesD (h1 : Int) (t1 : Tok) (S : Addr) (h2 : Int) (t2 : Tok) (Kp : Addr) (n : Nat) : Obj := dictOf [⟨h1, .str (Str.ofString "states") t1, .ref S⟩, ⟨h2, .str (Str.ofString "kept") t2, .ref Kp⟩] n
def setStates (D : BD) (word : Str) (b : Bool) : BD := putB (if b then (groupOf word).foldl (fun D o => putB D o false) D else D) word b
theorem foldl_put_length (ys : List Str) : ∀ D : BD, (ys.foldl (fun D o => putB D o false) D).length ≤ D.length + ys.length := by
  induction ys with
  | nil => intro D; simp
  | cons y r ih =>
    intro D
    have h1 := ih (putB D y false)
    have h2 := putB_length D y false
    simp only [List.foldl_cons, List.length_cons]
    omega
theorem group_le (word : Str) : (groupOf word).length ≤ 4 := by
  unfold groupOf
  split
  · decide
  · split <;> decide
theorem take_succ_foldl {α β : Type} (f : β → α → β) (l : List α) (i : Nat) (a : α) (b : β) (h : l[i]? = some a) : (l.take (i + 1)).foldl f b = f ((l.take i).foldl f b) a := by
  rw [List.take_add_one, h]; simp
theorem strs_at {vs : List Value} {ys : List Str} (h : StrsAre vs ys) : ∀ (i : Nat) (v : Value), vs[i]? = some v → ∃ y t, ys[i]? = some y ∧ v = .str y t := by
  induction h with
  | nil => intro i v h; simp at h
  | @cons y t vs ys _ ih =>
    intro i v h
    cases i with
    | zero => simp at h; exact ⟨y, t, rfl, h.symm⟩
    | succ i => simpa using ih i v (by simpa using h)
theorem strs_length {vs : List Value} {ys : List Str} (h : StrsAre vs ys) : vs.length = ys.length := by
  induction h with
  | nil => rfl
  | cons _ _ _ ih => simp [ih]
set_option maxHeartbeats 8000000 in
theorem set_spec {w : World} {pgm : Program} {loo : List Str} {mean : ExcName → Option Value} {mg mb : Str → Option Value} {M dM S Kp : Addr} {h1 h2 : Int} {t1 t2 : Tok} {n : Nat} {oS : Obj} {D : BD} (hS : BoolDict w oS D) (hn1 : @Ne Nat M dM) (hn2 : @Ne Nat M S) (hn3 : @Ne Nat dM S) (hz : D.length ≤ 900) (word : Str) (tk : Tok) (b : Bool) :
    Spec w pgm loo mean mg mb (.ref 83) 850 8700 [.ref M, .str word tk, .bool b] [(M, instObj 86 dM), (dM, modesD h1 t1 S h2 t2 Kp n), (S, oS)]
      (fun r foot' => ∃ oS', r = .none ∧ foot' = [(M, instObj 86 dM), (dM, modesD h1 t1 S h2 t2 Kp n), (S, oS')] ∧ BoolDict w oS' (setStates D word b)) := by
  cases b
  · (k_dflt (refine' spec_of (binds := [(Str.ofString "self", .ref M), (Str.ofString "word", .str word tk), (Str.ofString "is_on", .bool false)]) ?k6 ?k7 ?k8 ?k9 ?kB ?_ ?c2 ?c3 ?c4 ?c5; (case k6 => k_is); (case k7 => k_is); (case k8 => decide); (case k9 => exact fun s X => BindsTo.of_eq rfl); (case c5 => decide); (case kB => exact locs rfl); (case c2 => exact rfl); (case c3 => exact rfl); (case c4 => exact rfl); k_whole); intro ev A₀ base g' L' h₁ s tk₁ hdp hun B' F' N' X' T' hlt QL hL; k_lt hlt; (replace F' := binds_fr F'); (try dsimp only [BindsMap] at F'))
    have hz' : D.length ≤ 1000 := by omega
    k_steps
    all_goals (try dsimp only)
    exact hL.leave (by k_asm) (by k_asm) (foot' := [(M, instObj 86 dM), (dM, modesD h1 t1 S h2 t2 Kp n), (S, _)]) (fun p hp => hp) ⟨_, rfl, rfl, by k_asm⟩
  · (k_dflt (refine' spec_of (binds := [(Str.ofString "self", .ref M), (Str.ofString "word", .str word tk), (Str.ofString "is_on", .bool true)]) ?k6 ?k7 ?k8 ?k9 ?kB ?_ ?c2 ?c3 ?c4 ?c5; (case k6 => k_is); (case k7 => k_is); (case k8 => decide); (case k9 => exact fun s X => BindsTo.of_eq rfl); (case c5 => decide); (case kB => exact locs rfl); (case c2 => exact rfl); (case c3 => exact rfl); (case c4 => exact rfl); k_whole); intro ev A₀ base g' L' h₁ s tk₁ hdp hun B' F' N' X' T' hlt QL hL; k_lt hlt; (replace F' := binds_fr F'); (try dsimp only [BindsMap] at F'))
    have hz' : D.length ≤ 1000 := by omega
    have t22 := mouseModes_at X'
    have t23 := mouseEncs_at X'
    k_steps
    all_goals (try dsimp only)
    · obtain ⟨oT, vs, hg, hso, hSt⟩ := t22
      have hgr : groupOf word = mouseModes := by unfold groupOf; rw [if_pos (by assumption)]
      refine ForSrc.base (vs := vs) (fun i nx => ∃ oS', nx = [(M, instObj 86 dM), (dM, modesD h1 t1 S h2 t2 Kp n), (S, oS')] ∧ BoolDict w oS' ((mouseModes.take i).foldl (fun D o => putB D o false) D)) rfl hg hso (by k_asm) (by k_asm) ⟨oS, rfl, hS⟩ ?_ ?_
      · rintro i v nx h tk I oI hv ⟨oS', rfl, hS'⟩ ho F1 N1 QT hT
        obtain ⟨y, t, hy, rfl⟩ := strs_at hSt i v hv
        have hlen := foldl_put_length (mouseModes.take i) D
        have htl : (mouseModes.take i).length ≤ 4 := by rw [List.length_take]; have : mouseModes.length = 4 := rfl; omega
        have hz1 : ((mouseModes.take i).foldl (fun D o => putB D o false) D).length ≤ 1000 := by omega
        have hoA := OffAll.ap ho
        dsimp only [List.map] at hoA
        simp only [OffAll, and_true] at ho
        simp only [List.cons_append, List.nil_append] at N1
        k_steps
        all_goals (try dsimp only)
        refine hT _ _ <| TurnEnd.base [(M, instObj 86 dM), (dM, modesD h1 t1 S h2 t2 Kp n), (S, _)] (by k_asm) (by k_asm) (fun p hp => List.mem_append_left [(I, oI)] hp) (List.mem_append_right [(M, instObj 86 dM), (dM, modesD h1 t1 S h2 t2 Kp n), (S, _)] (.head _)) (OffAll.all ⟨ho.1, ho.2.1, ho.2.2, trivial⟩) (fun y hy => if_neg hy) ⟨_, rfl, ?_⟩
        rw [take_succ_foldl _ _ _ _ _ hy]; k_asm
      · rintro u nx h tk ⟨oS', rfl, hS'⟩ F1 N1
        rw [strs_length hSt, List.take_length] at hS'
        have hz1 : (mouseModes.foldl (fun D o => putB D o false) D).length ≤ 1000 := by
          have hlen := foldl_put_length mouseModes D
          have : mouseModes.length = 4 := rfl
          omega
        replace F1 : Fr g' L' h _ := F1
        replace N1 : News g' L' h _ := N1
        dsimp only
        k_steps
        all_goals (try dsimp only)
        refine hL.leave (by k_asm) (by k_asm) (foot' := [(M, instObj 86 dM), (dM, modesD h1 t1 S h2 t2 Kp n), (S, _)]) (fun p hp => hp) ⟨_, rfl, rfl, ?_⟩
        unfold setStates
        rw [hgr, if_pos rfl]
        k_asm
    · obtain ⟨oT, vs, hg, hso, hSt⟩ := t23
      have hgr : groupOf word = mouseEncs := by unfold groupOf; rw [if_neg (by assumption), if_pos (by assumption)]
      refine ForSrc.base (vs := vs) (fun i nx => ∃ oS', nx = [(M, instObj 86 dM), (dM, modesD h1 t1 S h2 t2 Kp n), (S, oS')] ∧ BoolDict w oS' ((mouseEncs.take i).foldl (fun D o => putB D o false) D)) rfl hg hso (by k_asm) (by k_asm) ⟨oS, rfl, hS⟩ ?_ ?_
      · rintro i v nx h tk I oI hv ⟨oS', rfl, hS'⟩ ho F1 N1 QT hT
        obtain ⟨y, t, hy, rfl⟩ := strs_at hSt i v hv
        have hlen := foldl_put_length (mouseEncs.take i) D
        have htl : (mouseEncs.take i).length ≤ 4 := by rw [List.length_take]; have : mouseEncs.length = 4 := rfl; omega
        have hz1 : ((mouseEncs.take i).foldl (fun D o => putB D o false) D).length ≤ 1000 := by omega
        have hoA := OffAll.ap ho
        dsimp only [List.map] at hoA
        simp only [OffAll, and_true] at ho
        simp only [List.cons_append, List.nil_append] at N1
        k_steps
        all_goals (try dsimp only)
        refine hT _ _ <| TurnEnd.base [(M, instObj 86 dM), (dM, modesD h1 t1 S h2 t2 Kp n), (S, _)] (by k_asm) (by k_asm) (fun p hp => List.mem_append_left [(I, oI)] hp) (List.mem_append_right [(M, instObj 86 dM), (dM, modesD h1 t1 S h2 t2 Kp n), (S, _)] (.head _)) (OffAll.all ⟨ho.1, ho.2.1, ho.2.2, trivial⟩) (fun y hy => if_neg hy) ⟨_, rfl, ?_⟩
        rw [take_succ_foldl _ _ _ _ _ hy]; k_asm
      · rintro u nx h tk ⟨oS', rfl, hS'⟩ F1 N1
        rw [strs_length hSt, List.take_length] at hS'
        have hz1 : (mouseEncs.foldl (fun D o => putB D o false) D).length ≤ 1000 := by
          have hlen := foldl_put_length mouseEncs D
          have : mouseEncs.length = 4 := rfl
          omega
        replace F1 : Fr g' L' h _ := F1
        replace N1 : News g' L' h _ := N1
        dsimp only
        k_steps
        all_goals (try dsimp only)
        refine hL.leave (by k_asm) (by k_asm) (foot' := [(M, instObj 86 dM), (dM, modesD h1 t1 S h2 t2 Kp n), (S, _)]) (fun p hp => hp) ⟨_, rfl, rfl, ?_⟩
        unfold setStates
        rw [hgr, if_pos rfl]
        k_asm
    · have hgr : groupOf word = [] := by unfold groupOf; rw [if_neg (by assumption), if_neg (by assumption)]
      rename News _ _ _ (_ :: _ :: _) => N9
      refine ForSrc.led (vs := []) [] (fun _ nx => nx = [(M, instObj 86 dM), (dM, modesD h1 t1 S h2 t2 Kp n), (S, oS)]) rfl Pick.head ⟨.inr rfl, _, rfl⟩ (by k_asm) N9 (by k_all) rfl ?_ ?_
      · intro i v nx h tk I oI u hv
        simp at hv
      · rintro u nx h tk rfl ho F1 N1
        replace F1 : Fr g' L' h _ := F1
        replace N1 : News g' L' h _ := N1
        simp only [List.cons_append, List.nil_append] at N1
        have hoA := OffAll.ap ho
        dsimp only [List.map] at hoA
        simp only [OffAll, and_true] at ho
        dsimp only
        k_steps
        all_goals (try dsimp only)
        refine hL.leave (by k_asm) (by k_asm) (foot' := [(M, instObj 86 dM), (dM, modesD h1 t1 S h2 t2 Kp n), (S, _)]) (fun p hp => List.mem_append_left [_] hp) ⟨_, rfl, rfl, ?_⟩
        unfold setStates
        rw [hgr, if_pos rfl]
        k_asm
theorem setU {w : World} {pgm : Program} {loo : List Str} {mean : ExcName → Option Value} {mg mb : Str → Option Value} {M dM S Kp : Addr} {h1 h2 : Int} {t1 t2 : Tok} {n : Nat} {oS : Obj} {D : BD} {dp un : Nat} {gd : Option (List Code)} {cn : Str} {cs : Scope} {za : Addr} {ccd : Value} {cl : List (Str × Addr)} {outer : List Env} {A₀ : Around} {base h₀ : Heap} {zL : Addr} {zm : Str → Option Value} {zn zr : Led} {zs : Shared} {zQ zE : Value → Shared → Prop} (zS : Site w pgm loo mean mg mb 850 8700 dp un cs outer A₀ base h₀ zL zs.heap zm zn ∧ Picks [(M, instObj 86 dM), (dM, modesD h1 t1 S h2 t2 Kp n), (S, oS)] zn zr ∧ Apart [(M, instObj 86 dM), (dM, modesD h1 t1 S h2 t2 Kp n), (S, oS)] zr) (hS : BoolDict w oS D) (hn1 : @Ne Nat M dM) (hn2 : @Ne Nat M S) (hn3 : @Ne Nat dM S) (hz : D.length ≤ 900) (word : Str) (tk : Tok) (b : Bool)
    (zh : ∀ h9 tk9, Fr h₀ zL h9 zm → ∀ oS', BoolDict w oS' (setStates D word b) → News h₀ zL h9 ((M, instObj 86 dM) :: (dM, modesD h1 t1 S h2 t2 Kp n) :: (S, oS') :: zr) → zQ (.none) { zs with heap := h9, toks := tk9 }) :
    wpAny (model PySem.Challenge.rw_og0244_01.row.prog w) (ktrTop dp un gd cn cs zL za ccd cl outer) (call (.ref 83) [.ref M, .str word tk, .bool b]) zQ zE zs :=
  set_spec hS hn1 hn2 hn3 hz word tk b _ _ _ _ _ _ _ _ _ _ _ _ _ _ _ _ _ _ _ zS.1.B zS.1.F zS.1.X zS.1.T zS.1.k zS.1.d zS.1.u zS.1.N zS.2.1 zS.2.2 fun r foot h9 tk9 hp F9 N9 ap => by
    obtain ⟨oS', rfl, rfl, y0⟩ := hp
    exact zh h9 tk9 F9 oS' y0 N9
end
example : Zz 0 := by (try walk1); exact trivial
local macro_rules | `(tactic| walk_at "call ref") => `(tactic| (k_here; focus (k_dflt (refine' wordsV ?_ _ ?_; rotate_left 11; walk_at "mine site"; walk_at "mine afterV"))))
section
example : Zz 0 := by (try walk1); exact trivial
example : Zz 0 := by (try walk1); exact trivial
section
variable {w : World} {A : Around} {E : Value → Shared → Prop} {s : Shared} {h₀ : Heap} {L d : Addr} {m : Str → Option Value} {news : Led} {o : Obj} {D : List (Int × Str)} {kvs : List (Int × Value)} {k : Int} {t : Tok} {Q : Value → Shared → Prop}
theorem lit_get (N : News h₀ L s.heap news) (hp : (d, o) ∈ news) (hd : o.IsDictOf (intKind PySem.Challenge.rw_og0244_01.row.prog w) kvs) (hl : LitKvs kvs D) (lo : (d == sysModules) = false)
    (h1 : D.lookup k = none → Q .none { s with toks := s.toks + 1 }) (h2 : ∀ x t, D.lookup k = some x → Q (.str x t) { s with toks := s.toks + 1 }) : wpAny (model PySem.Challenge.rw_og0244_01.row.prog w) A (call (.builtin "dict.get") [.ref d, .int k t]) Q E s := by
  refine kdg_get1 (knd := intKind _ _) N hp hd lo (intKind_is _ _ k t) _ rfl ?_
  rcases hl.valueAt k with ⟨a, b⟩ | ⟨x, t, a, b⟩
  · rw [b]; exact h1 a
  · rw [b]; exact h2 x t a
theorem lit_method {pl : Sem Bool} {Q : Value × List Value → Shared → Prop} (N : News h₀ L s.heap news) (hp : (d, o) ∈ news) (hd : o.IsDictOf (intKind PySem.Challenge.rw_og0244_01.row.prog w) kvs) (h : Q (.builtin "dict.get", [.ref d]) s) : wpAny (model PySem.Challenge.rw_og0244_01.row.prog w) A (getMethod (.ref d) "get" pl) Q E s :=
  kdg_method (knd := intKind _ _) N hp hd h
end
example : Zz 0 := by (try walk1); exact trivial
example : Zz 0 := by (try walk1); exact trivial
section
local macro_rules | `(tactic| walk_at "call builtin:dict.get") => `(tactic| (k_here; k_dflt (refine' lit_get ?_ ?_ ?_ ?_ ?_ ?_ ?_; rotate_left 6; k_asm; k_mem; k_asm; k_asm; k_asm; k_whole); intros))
local macro_rules | `(tactic| walk_at "getMethod ref") => `(tactic| (k_here; k_dflt (refine' lit_method ?_ ?_ ?_ ?_; rotate_left 5; k_asm; k_mem; k_asm; k_whole)))
set_option maxHeartbeats 8000000 in
theorem word_spec {w : World} {pgm : Program} {loo : List Str} {mean : ExcName → Option Value} {mg mb : Str → Option Value} (number : Int) (tk : Tok) (b : Bool) :
    Spec w pgm loo mean mg mb (.ref 41) 870 8800 [.int number tk, .bool b] [] (fun r foot' => foot' = [] ∧ ((wordTab b).lookup number = none ∧ r = .none ∨ ∃ x t, (wordTab b).lookup number = some x ∧ r = .str x t)) := by
  (k_dflt (refine' spec_of (binds := [(Str.ofString "number", .int number tk), (Str.ofString "is_private", .bool b)]) ?k6 ?k7 ?k8 ?k9 ?kB ?_ ?c2 ?c3 ?c4 ?c5; (case k6 => k_is); (case k7 => k_is); (case k8 => decide); (case k9 => exact fun s X => BindsTo.of_eq rfl); (case c5 => decide); (case kB => exact locs rfl); (case c2 => exact rfl); (case c3 => exact rfl); (case c4 => exact rfl); k_whole); intro ev A₀ base g' L' h₁ s tk₁ hdp hun B' F' N' X' T' hlt QL hL; k_lt hlt; (replace F' := binds_fr F'); (try dsimp only [BindsMap] at F'))
  k_steps
  all_goals (try dsimp only)
  · exact hL.leave (by k_asm) (by k_asm) (foot' := []) (fun p hp => nomatch hp) ⟨rfl, .inl ⟨by assumption, rfl⟩⟩
  · exact hL.leave (by k_asm) (by k_asm) (foot' := []) (fun p hp => nomatch hp) ⟨rfl, .inr ⟨_, _, by assumption, rfl⟩⟩
end
example : Zz 0 := by (try walk1); exact trivial
theorem wordUU {w : World} {pgm : Program} {loo : List Str} {mean : ExcName → Option Value} {mg mb : Str → Option Value} {dp un : Nat} {gd : Option (List Code)} {cn : Str} {cs : Scope} {za : Addr} {ccd : Value} {cl : List (Str × Addr)} {outer : List Env} {A₀ : Around} {base h₀ : Heap} {zL : Addr} {zm : Str → Option Value} {zn zr : Led} {zs : Shared} {zQ zE : Value → Shared → Prop} (zS : Site w pgm loo mean mg mb 870 8800 dp un cs outer A₀ base h₀ zL zs.heap zm zn ∧ Picks [] zn zr ∧ Apart [] zr) (number : Int) (tk : Tok) (b : Bool)
    (z0 : ∀ h9 tk9, Fr h₀ zL h9 zm → (wordTab b).lookup number = none → News h₀ zL h9 zr → zQ .none { zs with heap := h9, toks := tk9 })
    (z1 : ∀ h9 tk9, Fr h₀ zL h9 zm → ∀ x t, (wordTab b).lookup number = some x → News h₀ zL h9 zr → zQ (.str x t) { zs with heap := h9, toks := tk9 }) :
    wpAny (model PySem.Challenge.rw_og0244_01.row.prog w) (ktrTop dp un gd cn cs zL za ccd cl outer) (call (.ref 41) [.int number tk, .bool b]) zQ zE zs :=
  word_spec number tk b _ _ _ _ _ _ _ _ _ _ _ _ _ _ _ _ _ _ _ zS.1.B zS.1.F zS.1.X zS.1.T zS.1.k zS.1.d zS.1.u zS.1.N zS.2.1 zS.2.2 fun r foot h9 tk9 hp F9 N9 ap => by
    obtain ⟨rfl, ⟨h, rfl⟩ | ⟨x, t, h, rfl⟩⟩ := hp
    · exact z0 h9 tk9 F9 h N9
    · exact z1 h9 tk9 F9 x t h N9
theorem find_hit {α : Type} {p : α → Bool} {ys : List α} {i : Nat} {y : α} (h : (ys.take i).find? p = none) (hy : ys[i]? = some y) (hp : p y = true) : ys.find? p = some y := by
  have e : ys = ys.take i ++ ys.drop i := (List.take_append_drop i ys).symm
  rw [e, List.find?_append, h]
  have hd : ys.drop i = y :: ys.drop (i + 1) := by
    have hi : i < ys.length := by
      rcases Nat.lt_or_ge i ys.length with h | h
      · exact h
      · rw [List.getElem?_eq_none h] at hy; cases hy
    rw [List.drop_eq_getElem_cons hi]
    have : ys[i] = y := by rw [List.getElem?_eq_getElem hi] at hy; exact Option.some.inj hy
    rw [this]
  rw [hd, List.find?_cons, hp]; rfl
theorem find_miss {α : Type} {p : α → Bool} {ys : List α} {i : Nat} {y : α} (h : (ys.take i).find? p = none) (hy : ys[i]? = some y) (hp : p y = false) : (ys.take (i + 1)).find? p = none := by
  rw [List.take_add_one, hy, List.find?_append, h]
  simp [hp]
def onB (D : BD) (x : Str) : Bool := (getB D x).getD false
example : Zz 0 := by (try walk1); exact trivial
section
local macro_rules | `(tactic| walk_at "call builtin:dict.get") => `(tactic| (k_here; k_dflt (refine' bd_get ?_ ?_ ?_ ?_ ?_; rotate_left 5; k_asm; k_mem; k_asm; k_asm; k_whole)))
local macro_rules | `(tactic| walk_at "getMethod ref") => `(tactic| (k_here; k_dflt (refine' bd_method ?_ ?_ ?_ ?_; rotate_left 5; k_asm; k_mem; k_asm; k_whole)))
set_option maxHeartbeats 8000000 in
theorem ison_spec {w : World} {pgm : Program} {loo : List Str} {mean : ExcName → Option Value} {mg mb : Str → Option Value} {M dM S Kp : Addr} {h1 h2 : Int} {t1 t2 : Tok} {n : Nat} {oS : Obj} {D : BD} (hS : BoolDict w oS D) (hlo : (S == sysModules) = false) (hn1 : @Ne Nat M dM) (hn2 : @Ne Nat M S) (hn3 : @Ne Nat dM S) (word : Str) (tk : Tok) :
    Spec w pgm loo mean mg mb (.ref 76) 850 8700 [.ref M, .str word tk] [(M, instObj 86 dM), (dM, modesD h1 t1 S h2 t2 Kp n), (S, oS)] (fun r foot' => r = .bool (onB D word) ∧ foot' = [(M, instObj 86 dM), (dM, modesD h1 t1 S h2 t2 Kp n), (S, oS)]) := by
  (k_dflt (refine' spec_of (binds := [(Str.ofString "self", .ref M), (Str.ofString "word", .str word tk)]) ?k6 ?k7 ?k8 ?k9 ?kB ?_ ?c2 ?c3 ?c4 ?c5; (case k6 => k_is); (case k7 => k_is); (case k8 => decide); (case k9 => exact fun s X => BindsTo.of_eq rfl); (case c5 => decide); (case kB => exact locs rfl); (case c2 => exact rfl); (case c3 => exact rfl); (case c4 => exact rfl); k_whole); intro ev A₀ base g' L' h₁ s tk₁ hdp hun B' F' N' X' T' hlt QL hL; k_lt hlt; (replace F' := binds_fr F'); (try dsimp only [BindsMap] at F'))
  k_steps
  all_goals (try dsimp only)
  exact hL.leave (by k_asm) (by k_asm) (foot' := [(M, instObj 86 dM), (dM, modesD h1 t1 S h2 t2 Kp n), (S, oS)]) (fun p hp => hp) ⟨rfl, rfl⟩
end
example : Zz 0 := by (try walk1); exact trivial
example : Zz 0 := by (try walk1); exact trivial
section
theorem isonU {w : World} {pgm : Program} {loo : List Str} {mean : ExcName → Option Value} {mg mb : Str → Option Value} {M dM S Kp : Addr} {h1 h2 : Int} {t1 t2 : Tok} {n : Nat} {oS : Obj} {D : BD} {dp un : Nat} {gd : Option (List Code)} {cn : Str} {cs : Scope} {za : Addr} {ccd : Value} {cl : List (Str × Addr)} {outer : List Env} {A₀ : Around} {base h₀ : Heap} {zL : Addr} {zm : Str → Option Value} {zn zr : Led} {zs : Shared} {zQ zE : Value → Shared → Prop} (zS : Site w pgm loo mean mg mb 850 8700 dp un cs outer A₀ base h₀ zL zs.heap zm zn ∧ Picks [(M, instObj 86 dM), (dM, modesD h1 t1 S h2 t2 Kp n), (S, oS)] zn zr ∧ Apart [(M, instObj 86 dM), (dM, modesD h1 t1 S h2 t2 Kp n), (S, oS)] zr) (hS : BoolDict w oS D) (hlo : (S == sysModules) = false) (hn1 : @Ne Nat M dM) (hn2 : @Ne Nat M S) (hn3 : @Ne Nat dM S) (word : Str) (tk : Tok)
    (zh : ∀ h9 tk9, Fr h₀ zL h9 zm → News h₀ zL h9 ((M, instObj 86 dM) :: (dM, modesD h1 t1 S h2 t2 Kp n) :: (S, oS) :: zr) → zQ (.bool (onB D word)) { zs with heap := h9, toks := tk9 }) :
    wpAny (model PySem.Challenge.rw_og0244_01.row.prog w) (ktrTop dp un gd cn cs zL za ccd cl outer) (call (.ref 76) [.ref M, .str word tk]) zQ zE zs :=
  ison_spec hS hlo hn1 hn2 hn3 word tk _ _ _ _ _ _ _ _ _ _ _ _ _ _ _ _ _ _ _ zS.1.B zS.1.F zS.1.X zS.1.T zS.1.k zS.1.d zS.1.u zS.1.N zS.2.1 zS.2.2 fun r foot h9 tk9 hp F9 N9 ap => by
    obtain ⟨rfl, rfl⟩ := hp
    exact zh h9 tk9 F9   N9

local macro_rules | `(tactic| walk_at "call ref") => `(tactic| (k_here; focus (k_dflt (refine' isonU ?_ ?_ ?_ ?_ ?_ ?_ _ _ ?_; rotate_left 21; walk_at "mine site"; k_asm; k_asm; k_ne; k_ne; k_ne; walk_at "mine after"))))
local macro_rules | `(tactic| walk_at "exec For Name Name cons nil") => `(tactic| walk_at "mine for")

set_option maxHeartbeats 8000000 in
theorem mmode_spec {w : World} {pgm : Program} {loo : List Str} {mean : ExcName → Option Value} {mg mb : Str → Option Value} {M dM S Kp : Addr} {h1 h2 : Int} {t1 t2 : Tok} {n : Nat} {oS : Obj} {D : BD} (hS : BoolDict w oS D) (hlo : (S == sysModules) = false) (hn1 : @Ne Nat M dM) (hn2 : @Ne Nat M S) (hn3 : @Ne Nat dM S) :
    Spec w pgm loo mean mg mb (.ref 144) 840 8600 [.ref M] [(M, instObj 86 dM), (dM, modesD h1 t1 S h2 t2 Kp n), (S, oS)] (fun r foot' => foot' = [(M, instObj 86 dM), (dM, modesD h1 t1 S h2 t2 Kp n), (S, oS)] ∧ ((mouseModes.find? (onB D) = none ∧ r = .none) ∨ ∃ y t, mouseModes.find? (onB D) = some y ∧ r = .str y t)) := by
  (k_dflt (refine' spec_of (binds := [(Str.ofString "modes", .ref M)]) ?k6 ?k7 ?k8 ?k9 ?kB ?_ ?c2 ?c3 ?c4 ?c5; (case k6 => k_is); (case k7 => k_is); (case k8 => decide); (case k9 => exact fun s X => BindsTo.of_eq rfl); (case c5 => decide); (case kB => exact locs rfl); (case c2 => exact rfl); (case c3 => exact rfl); (case c4 => exact rfl); k_whole); intro ev A₀ base g' L' h₁ s tk₁ hdp hun B' F' N' X' T' hlt QL hL; k_lt hlt; (replace F' := binds_fr F'); (try dsimp only [BindsMap] at F'))
  obtain ⟨oT, vs, hg, hso, hSt⟩ := mouseModes_at X'
  k_steps
  all_goals (try dsimp only)
  refine ForSrc.base (vs := vs) (fun i nx => nx = [(M, instObj 86 dM), (dM, modesD h1 t1 S h2 t2 Kp n), (S, oS)] ∧ (mouseModes.take i).find? (onB D) = none) rfl hg hso (by k_asm) (by k_asm) ⟨rfl, rfl⟩ ?_ ?_
  · rintro i v nx h tk I oI hv ⟨rfl, hno⟩ ho F1 N1 QT hT
    obtain ⟨y, t, hy, rfl⟩ := strs_at hSt i v hv
    have hoA := OffAll.ap ho
    dsimp only [List.map] at hoA
    simp only [OffAll, and_true] at ho
    simp only [List.cons_append, List.nil_append] at N1
    k_steps
    all_goals (try dsimp only)
    · refine hT _ _ (?_ : QL _ _)
      exact hL.leave (by k_asm) (by k_asm) (foot' := [(M, instObj 86 dM), (dM, modesD h1 t1 S h2 t2 Kp n), (S, oS)]) (fun p hp => List.mem_append_left [(I, oI)] hp) ⟨rfl, .inr ⟨_, _, find_hit hno hy (by assumption), rfl⟩⟩
    · exact hT _ _ <| TurnEnd.base [(M, instObj 86 dM), (dM, modesD h1 t1 S h2 t2 Kp n), (S, oS)] (by k_asm) (by k_asm) (fun p hp => List.mem_append_left [(I, oI)] hp) (List.mem_append_right [(M, instObj 86 dM), (dM, modesD h1 t1 S h2 t2 Kp n), (S, oS)] (.head _)) (OffAll.all ⟨ho.1, ho.2.1, ho.2.2, trivial⟩) (fun y hy => if_neg hy) ⟨rfl, find_miss hno hy (by assumption)⟩
  · rintro u nx h tk ⟨rfl, hno⟩ F1 N1
    rw [strs_length hSt, List.take_length] at hno
    replace F1 : Fr g' L' h _ := F1
    replace N1 : News g' L' h _ := N1
    dsimp only
    k_steps
    all_goals (try dsimp only)
    exact hL.leave (by k_asm) (by k_asm) (foot' := [(M, instObj 86 dM), (dM, modesD h1 t1 S h2 t2 Kp n), (S, oS)]) (fun p hp => hp) ⟨rfl, .inl ⟨hno, rfl⟩⟩

set_option maxHeartbeats 8000000 in
theorem menc_spec {w : World} {pgm : Program} {loo : List Str} {mean : ExcName → Option Value} {mg mb : Str → Option Value} {M dM S Kp : Addr} {h1 h2 : Int} {t1 t2 : Tok} {n : Nat} {oS : Obj} {D : BD} (hS : BoolDict w oS D) (hlo : (S == sysModules) = false) (hn1 : @Ne Nat M dM) (hn2 : @Ne Nat M S) (hn3 : @Ne Nat dM S) :
    Spec w pgm loo mean mg mb (.ref 151) 840 8600 [.ref M] [(M, instObj 86 dM), (dM, modesD h1 t1 S h2 t2 Kp n), (S, oS)] (fun r foot' => foot' = [(M, instObj 86 dM), (dM, modesD h1 t1 S h2 t2 Kp n), (S, oS)] ∧ ((mouseEncs.find? (onB D) = none ∧ r = .none) ∨ ∃ y t, mouseEncs.find? (onB D) = some y ∧ r = .str y t)) := by
  (k_dflt (refine' spec_of (binds := [(Str.ofString "modes", .ref M)]) ?k6 ?k7 ?k8 ?k9 ?kB ?_ ?c2 ?c3 ?c4 ?c5; (case k6 => k_is); (case k7 => k_is); (case k8 => decide); (case k9 => exact fun s X => BindsTo.of_eq rfl); (case c5 => decide); (case kB => exact locs rfl); (case c2 => exact rfl); (case c3 => exact rfl); (case c4 => exact rfl); k_whole); intro ev A₀ base g' L' h₁ s tk₁ hdp hun B' F' N' X' T' hlt QL hL; k_lt hlt; (replace F' := binds_fr F'); (try dsimp only [BindsMap] at F'))
  obtain ⟨oT, vs, hg, hso, hSt⟩ := mouseEncs_at X'
  k_steps
  all_goals (try dsimp only)
  refine ForSrc.base (vs := vs) (fun i nx => nx = [(M, instObj 86 dM), (dM, modesD h1 t1 S h2 t2 Kp n), (S, oS)] ∧ (mouseEncs.take i).find? (onB D) = none) rfl hg hso (by k_asm) (by k_asm) ⟨rfl, rfl⟩ ?_ ?_
  · rintro i v nx h tk I oI hv ⟨rfl, hno⟩ ho F1 N1 QT hT
    obtain ⟨y, t, hy, rfl⟩ := strs_at hSt i v hv
    have hoA := OffAll.ap ho
    dsimp only [List.map] at hoA
    simp only [OffAll, and_true] at ho
    simp only [List.cons_append, List.nil_append] at N1
    k_steps
    all_goals (try dsimp only)
    · refine hT _ _ (?_ : QL _ _)
      exact hL.leave (by k_asm) (by k_asm) (foot' := [(M, instObj 86 dM), (dM, modesD h1 t1 S h2 t2 Kp n), (S, oS)]) (fun p hp => List.mem_append_left [(I, oI)] hp) ⟨rfl, .inr ⟨_, _, find_hit hno hy (by assumption), rfl⟩⟩
    · exact hT _ _ <| TurnEnd.base [(M, instObj 86 dM), (dM, modesD h1 t1 S h2 t2 Kp n), (S, oS)] (by k_asm) (by k_asm) (fun p hp => List.mem_append_left [(I, oI)] hp) (List.mem_append_right [(M, instObj 86 dM), (dM, modesD h1 t1 S h2 t2 Kp n), (S, oS)] (.head _)) (OffAll.all ⟨ho.1, ho.2.1, ho.2.2, trivial⟩) (fun y hy => if_neg hy) ⟨rfl, find_miss hno hy (by assumption)⟩
  · rintro u nx h tk ⟨rfl, hno⟩ F1 N1
    rw [strs_length hSt, List.take_length] at hno
    replace F1 : Fr g' L' h _ := F1
    replace N1 : News g' L' h _ := N1
    dsimp only
    k_steps
    all_goals (try dsimp only)
    exact hL.leave (by k_asm) (by k_asm) (foot' := [(M, instObj 86 dM), (dM, modesD h1 t1 S h2 t2 Kp n), (S, oS)]) (fun p hp => hp) ⟨rfl, .inl ⟨hno, rfl⟩⟩

end
example : Zz 0 := by (try walk1); exact trivial
end
section
set_option maxHeartbeats 1000000
theorem ints_of : ∀ (vs : List Value) (ks : List Int), vs.length = ks.length → (∀ (j : Nat) (v : Value), vs[j]? = some v → ∃ (k : Int) (t : Tok), ks[j]? = some k ∧ v = Value.int k t) → IntsAre vs ks
  | [], [], _, _ => .nil
  | v :: vs, k :: ks, hl, h => by
    obtain ⟨k', t, hk, rfl⟩ := h 0 v rfl
    simp only [List.getElem?_cons_zero, Option.some.injEq] at hk
    subst hk
    exact .cons k t (ints_of vs ks (by simpa using hl) fun j u hu => by simpa using h (j + 1) u (by simpa using hu))
  | [], _ :: _, hl, _ => by simp at hl
  | _ :: _, [], hl, _ => by simp at hl
theorem strs_of : ∀ (vs : List Value) (ks : List Str), vs.length = ks.length → (∀ (j : Nat) (v : Value), vs[j]? = some v → ∃ (k : Str) (t : Tok), ks[j]? = some k ∧ v = Value.str k t) → StrsAre vs ks
  | [], [], _, _ => .nil
  | v :: vs, k :: ks, hl, h => by
    obtain ⟨k', t, hk, rfl⟩ := h 0 v rfl
    simp only [List.getElem?_cons_zero, Option.some.injEq] at hk
    subst hk
    exact .cons k t (strs_of vs ks (by simpa using hl) fun j u hu => by simpa using h (j + 1) u (by simpa using hu))
  | [], _ :: _, hl, _ => by simp at hl
  | _ :: _, [], hl, _ => by simp at hl
section
variable {w : World} {A : Around} {E : Value → Shared → Prop} {s : Shared} {h₀ : Heap} {L d : Addr} {m : Str → Option Value} {news : Led} {o : Obj} {Q : Value → Shared → Prop}
theorem sort_back {D : Addr} {vs : List Value} {h : Heap} {out : Array Value} (F : Fr h₀ L h m) (N : News h₀ L h ((D, W.listOf vs.toArray 0) :: news)) (l1 : ∀ q ∈ news, q.1 < D) :
    ∃ e, Fr h₀ L (sortedHeap h D vs out) m ∧ News h₀ L (sortedHeap h D vs out) ((D, W.listOf out e) :: news) := by
  have ho : h.get? D = some (seqObj "list" vs.toArray 0) := (N _ (.head _)).1
  obtain ⟨e, he⟩ := sortedHeap_at (out := out) ho
  have hn := (N _ (.head _)).2
  have old : ∀ b o, b ≠ D → h.get? b = some o → (sortedHeap h D vs out).get? b = some o := fun b o hb e => (sortedHeap_old hb (Heap.lt_size e)).trans e
  obtain ⟨oL, a1, a2, hL, a3⟩ := F.ns
  refine ⟨e, ⟨⟨oL, a1, a2, old _ _ (Ne.symm hn.1) hL, a3⟩, fun b o q => old b o (fun hb => by rw [hb, hn.2] at q; cases q) (F.keep b o q), F.above⟩, fun p hp => ?_⟩
  rcases List.mem_cons.mp hp with rfl | hp
  · exact ⟨he, hn⟩
  · exact ⟨old _ _ (Nat.ne_of_lt (l1 p hp)) (N p (.tail _ hp)).1, (N p (.tail _ hp)).2⟩

theorem sorted_intDict {kvs : List (Int × Value)} (hh : A.handled = none) (F : Fr h₀ L s.heap m) (N : News h₀ L s.heap news) (hD : s.heap.DictOf (intKind PySem.Challenge.rw_og0244_01.row.prog w) d kvs) (lo : (d == sysModules) = false) (h64 : kvs.length < 64)
    (h : ∀ B vs' ns' c h' tk, Fr h₀ L h' m → News h₀ L h' ((B, W.listOf vs'.toArray c) :: news) → (∀ q ∈ news, q.1 < B) → IntsAre vs' ns' → ns'.Perm (kvs.map (·.1)) → ns'.Pairwise (· ≤ ·) → Q (.ref B) { s with heap := h', toks := tk }) :
    wpAny (model PySem.Challenge.rw_og0244_01.row.prog w) A (call (.builtin "sorted") [.ref d]) Q E s := by
  obtain ⟨ep, hat⟩ := hD.dictAt
  refine kdu_sorted (kdl_dict (knd := intKind PySem.Challenge.rw_og0244_01.row.prog w) (kvs := kvs) (ep := ep) lo) hh F N hat (by rw [sizeLine_eq]; omega) fun B h' tk vs F' N' l1 hl hv => ?_
  have hI : IntsAre vs (kvs.map (·.1)) := ints_of vs _ (by simpa using hl) fun j v hj => by
    obtain ⟨k, x, hk, his⟩ := hv j v hj
    obtain ⟨t, rfl⟩ := Value.isInt_shape his
    exact ⟨k, t, by simp [hk], rfl⟩
  refine wpAny_call_entry slot_list_sort ⟨_, (N' _ (.head _)).1, rfl⟩ entry_list_sort (list_sort_tree (N' _ (.head _)).1 hI (by omega) fun out ns' a1 a2 a3 => ⟨_, rfl, ?_⟩) (args_list_sort _)
  obtain ⟨e, F2, N2⟩ := sort_back (out := out) F' N' l1
  exact h B out.toList ns' e _ tk F2 (by simpa using N2) l1 a1 a2 a3

theorem sorted_strDict {kvs : List (Str × Value)} (hh : A.handled = none) (F : Fr h₀ L s.heap m) (N : News h₀ L s.heap news) (hD : s.heap.DictOf (strKind PySem.Challenge.rw_og0244_01.row.prog w) d kvs) (lo : (d == sysModules) = false) (h64 : kvs.length < 64)
    (h : ∀ B vs' ss' c h' tk, Fr h₀ L h' m → News h₀ L h' ((B, W.listOf vs'.toArray c) :: news) → (∀ q ∈ news, q.1 < B) → StrsAre vs' ss' → ss'.Perm (kvs.map (·.1)) → sortedS ss' = true → Q (.ref B) { s with heap := h', toks := tk }) :
    wpAny (model PySem.Challenge.rw_og0244_01.row.prog w) A (call (.builtin "sorted") [.ref d]) Q E s := by
  obtain ⟨ep, hat⟩ := hD.dictAt
  refine kdu_sorted (kdl_dict (knd := strKind PySem.Challenge.rw_og0244_01.row.prog w) (kvs := kvs) (ep := ep) lo) hh F N hat (by rw [sizeLine_eq]; omega) fun B h' tk vs F' N' l1 hl hv => ?_
  have hS : StrsAre vs (kvs.map (·.1)) := strs_of vs _ (by simpa using hl) fun j v hj => by
    obtain ⟨k, x, hk, his⟩ := hv j v hj
    obtain ⟨t, rfl⟩ := Value.isStrOf_shape his
    exact ⟨k, t, by simp [hk], rfl⟩
  refine wpAny_call_entry slot_list_sort ⟨_, (N' _ (.head _)).1, rfl⟩ entry_list_sort (list_sort_treeK strKind_oneLt (N' _ (.head _)).1 hS.keysOf (fun v₁ v₂ rest e => keyKind_strs (by rw [← e]; exact hS)) (by omega) fun st' hp hs => ⟨_, rfl, ?_⟩) (args_list_sort _)
  obtain ⟨ss', b1, b2, b3⟩ := sorted_out_str hS hp hs
  obtain ⟨e, F2, N2⟩ := sort_back (out := (arrOf st').map (·.2)) F' N' l1
  exact h B _ ss' e _ tk F2 (by rw [Array.toArray_toList]; exact N2) l1 b1 b2 b3
end
end
section
example : Zz 0 := by (try walk1); exact trivial
local macro_rules | `(tactic| k_lt $h) => `(tactic| km_mul $h)
local macro_rules | `(tactic| walk_at "exec For Name Name cons nil") => `(tactic| walk_at "mine for")
local macro_rules | `(tactic| walk_at "exec For Name Call cons nil") => `(tactic| walk_at "mine for")
def findNum (word : Str) : Option (Int × Bool) := match plainTab.find? (fun p => p.2 == word) with
  | some p => some (p.1, false)
  | none => (privTab.find? (fun p => p.2 == word)).map fun p => (p.1, true)
example : Zz 0 := by (try walk1); exact trivial
section
variable {w : World} {A : Around} {E : Value → Shared → Prop} {s : Shared} {h₀ : Heap} {L d : Addr} {m : Str → Option Value} {news : Led} {o : Obj} {D : List (Int × Str)} {kvs : List (Int × Value)} {k : Int} {t : Tok} {x : Str} {Q : Value → Shared → Prop}
theorem lit_item {value slice : PySem.Expr} (N : News h₀ L s.heap news) (hp : (d, o) ∈ news) (hd : o.IsDictOf (intKind PySem.Challenge.rw_og0244_01.row.prog w) kvs) (hl : LitKvs kvs D) (hb : D.lookup k = some x) (h : ∀ t', Q (.str x t') { s with toks := s.toks + 1 })
    (hs : subscripted slice false (.ref d) (.int k t) = operate [.ref d, .int k t] (getItem (.ref d) (.int k t)) := by with_unfolding_all rfl) (hg : ∀ r, letTemporaryGo value (.ref d) r = pure () := by intro _; with_unfolding_all rfl) :
    wpAny (model PySem.Challenge.rw_og0244_01.row.prog w) A (subscriptTail value slice (.ref d) (.int k t)) Q E s := by
  rcases hl.valueAt k with ⟨a, _⟩ | ⟨y, t', a, b⟩
  · rw [hb] at a; cases a
  · rw [hb] at a
    have e : x = y := Option.some.inj a
    subst e
    exact kda_item (knd := intKind _ _) N hp hd (intKind_is _ _ k t) b (h t') hs hg
end
example : Zz 0 := by (try walk1); exact trivial
theorem lit_lt {kvs : List (Int × Value)} {b : Bool} (h : LitKvs kvs (wordTab b)) : kvs.length < 64 := by
  rw [h.length]
  cases b <;> decide
theorem wordTab_sorted (b : Bool) : ((wordTab b).map (·.1)).Pairwise (· ≤ ·) := by cases b <;> decide +kernel
theorem wordTab_nodup (b : Bool) : ((wordTab b).map (·.1)).Nodup := by cases b <;> decide +kernel
theorem lookup_of_at : ∀ {D : List (Int × Str)} {i : Nat} {p : Int × Str}, (D.map (·.1)).Nodup → D[i]? = some p → D.lookup p.1 = some p.2
  | [], i, p, _, h => by simp at h
  | q :: r, i, p, hn, h => by
    cases i with
    | zero =>
      simp only [List.getElem?_cons_zero, Option.some.injEq] at h
      subst h
      simp [List.lookup]
    | succ i =>
      simp only [List.getElem?_cons_succ] at h
      have hn' := List.nodup_cons.mp hn
      have hne : (p.1 == q.1) = false := by
        rw [beq_eq_false_iff_ne]
        intro e
        exact hn'.1 (List.mem_map.mpr ⟨p, List.mem_of_getElem? h, e⟩)
      simp only [List.lookup, hne]
      exact lookup_of_at hn'.2 h
local macro_rules | `(tactic| walk_at "call builtin:sorted") => `(tactic| (k_here; k_dflt (refine' sorted_intDict ?_ ?_ ?_ ?_ ?_ ?_ ?_; rotate_left 5; (exact rfl); k_asm; k_asm; (exact kda_dict (by k_asm) (by k_mem) (by k_asm)); k_asm; (exact lit_lt (by k_asm)); k_whole); intro B9 vs9 ns9 c9 h9 tk9 F9 N9 l1 hI9 hp9 ho9; (try k_lt l1); (try k_sweep)))
local macro_rules | `(tactic| walk_at "subscriptTail") => `(tactic| (k_here; k_dflt ((with_reducible refine' lit_item ?_ ?_ ?_ ?_ ?_ ?_); rotate_left 7; k_asm; k_mem; k_asm; k_asm; k_asm; k_whole); intro t9))
theorem findNum_false {word : Str} {p : Int × Str} (h : (wordTab false).find? (fun p => p.2 == word) = some p) : findNum word = some (p.1, false) := by
  unfold findNum
  have h' : plainTab.find? (fun p => p.2 == word) = some p := h
  rw [h']
theorem findNum_true {word : Str} {p : Int × Str} (h0 : (wordTab false).find? (fun p => p.2 == word) = none) (h : (wordTab true).find? (fun p => p.2 == word) = some p) : findNum word = some (p.1, true) := by
  unfold findNum
  have h0' : plainTab.find? (fun p => p.2 == word) = none := h0
  have h' : privTab.find? (fun p => p.2 == word) = some p := h
  rw [h0', h']; rfl
theorem findNum_none {word : Str} (h0 : (wordTab false).find? (fun p => p.2 == word) = none) (h : (wordTab true).find? (fun p => p.2 == word) = none) : findNum word = none := by
  unfold findNum
  have h0' : plainTab.find? (fun p => p.2 == word) = none := h0
  have h' : privTab.find? (fun p => p.2 == word) = none := h
  rw [h0', h']; rfl
theorem ints_at {vs : List Value} {ks : List Int} (h : IntsAre vs ks) : ∀ (i : Nat) (v : Value), vs[i]? = some v → ∃ (k : Int) (t : Tok), ks[i]? = some k ∧ v = Value.int k t := by
  induction h with
  | nil => intro i v h; simp at h
  | @cons k t vs ys _ ih =>
    intro i v h
    cases i with
    | zero => simp at h; exact ⟨k, t, rfl, h.symm⟩
    | succ i => simpa using ih i v (by simpa using h)
theorem ints_length {vs : List Value} {ks : List Int} (h : IntsAre vs ks) : vs.length = ks.length := by
  induction h with
  | nil => rfl
  | cons _ _ _ ih => simp [ih]
set_option maxHeartbeats 8000000 in
theorem mnum_spec {w : World} {pgm : Program} {loo : List Str} {mean : ExcName → Option Value} {mg mb : Str → Option Value} (word : Str) (tk : Tok) :
    Spec w pgm loo mean mg mb (.ref 48) 860 8700 [.str word tk] [] (fun r foot' => (findNum word = none ∧ r = .none ∧ foot' = []) ∨ ∃ x n k t b, findNum word = some (k, b) ∧ r = .ref x ∧ foot' = [(x, { cls := .type "tuple", data := .seq #[.int k t, .bool b] n })]) := by
  (k_dflt (refine' spec_of (binds := [(Str.ofString "word", .str word tk)]) ?k6 ?k7 ?k8 ?k9 ?kB ?_ ?c2 ?c3 ?c4 ?c5; (case k6 => k_is); (case k7 => k_is); (case k8 => decide); (case k9 => exact fun s X => BindsTo.of_eq rfl); (case c5 => decide); (case kB => exact locs rfl); (case c2 => exact rfl); (case c3 => exact rfl); (case c4 => exact rfl); k_whole); intro ev A₀ base g' L' h₁ s tk₁ hdp hun B' F' N' X' T' hlt QL hL; k_lt hlt; (replace F' := binds_fr F'); (try dsimp only [BindsMap] at F'))
  k_steps
  all_goals (try dsimp only)
  rename LitKvs _ _ => hl9
  rename IntsAre _ _ => hI9
  rename List.Perm _ _ => hp9
  rename List.Pairwise _ _ => ho9
  rename News _ _ _ _ => N9
  have hns := ksm_same (hl9.keys ▸ hp9) ho9 (wordTab_sorted false)
  subst hns
  refine ForSrc.ledK [] (fun i => ((wordTab false).take i).find? (fun p => p.2 == word) = none) rfl Pick.head ⟨.inl rfl, _, rfl⟩ (by k_asm) N9 (by k_all) rfl ?_ ?_
  · intro i v h tk I oI u hv hno hoff hlI F1 N1 QT hT
    obtain ⟨k, t, hk, rfl⟩ := ints_at hI9 i v hv
    rw [List.getElem?_map] at hk
    obtain ⟨p, hp, rfl⟩ := Option.map_eq_some_iff.mp hk
    have hlk := lookup_of_at (wordTab_nodup false) hp
    simp only [OffAll, and_true] at hoff
    simp only [List.cons_append, List.nil_append] at N1
    clear N9
    k_steps
    all_goals (try (refine hT _ _ ?_; dsimp only [TurnPost]))
    · k_steps
      all_goals (try dsimp only)
      refine hL.leave (by k_asm) (by k_asm) (foot' := [_]) (by (repeat (first | exact sub_nil | (refine' sub_cons ?sa ?_; (case sa => k_mem))))) (.inr ⟨_, _, _, _, _, ?_, rfl, rfl⟩)
      exact findNum_false  (find_hit hno hp (by assumption))
    · exact TurnEnd.ledK (by k_asm) (by k_asm) ⟨hoff.1, hoff.2.1, hoff.2.2, trivial⟩ (by k_all) (fun y hy _ => if_neg hy) (find_miss hno hp (by assumption))
  · intro u h tk hno F1 N1
    rw [ints_length hI9, List.length_map, List.take_length] at hno
    replace F1 : Fr g' L' h _ := F1
    replace N1 : News g' L' h _ := N1
    simp only [List.cons_append, List.nil_append] at N1
    clear N9 hl9 hI9 hp9 ho9
    dsimp only
    k_steps
    all_goals (try dsimp only)
    have hno1 := hno
    clear hno
    rename LitKvs _ _ => hl9
    rename IntsAre _ _ => hI9
    rename List.Perm _ _ => hp9
    rename List.Pairwise _ _ => ho9
    rename News _ _ _ _ => N9
    have hns := ksm_same (hl9.keys ▸ hp9) ho9 (wordTab_sorted true)
    subst hns
    refine ForSrc.ledK [] (fun i => ((wordTab true).take i).find? (fun p => p.2 == word) = none) rfl Pick.head ⟨.inl rfl, _, rfl⟩ (by k_asm) N9 (by k_all) rfl ?_ ?_
    · intro i v h tk I oI u hv hno hoff hlI F1 N1 QT hT
      obtain ⟨k, t, hk, rfl⟩ := ints_at hI9 i v hv
      rw [List.getElem?_map] at hk
      obtain ⟨p, hp, rfl⟩ := Option.map_eq_some_iff.mp hk
      have hlk := lookup_of_at (wordTab_nodup true) hp
      simp only [OffAll, and_true] at hoff
      simp only [List.cons_append, List.nil_append] at N1
      clear N9
      k_steps
      all_goals (try (refine hT _ _ ?_; dsimp only [TurnPost]))
      · k_steps
        all_goals (try dsimp only)
        refine hL.leave (by k_asm) (by k_asm) (foot' := [_]) (by (repeat (first | exact sub_nil | (refine' sub_cons ?sa ?_; (case sa => k_mem))))) (.inr ⟨_, _, _, _, _, ?_, rfl, rfl⟩)
        exact findNum_true hno1 (find_hit hno hp (by assumption))
      · exact TurnEnd.ledK (by k_asm) (by k_asm) ⟨hoff.1, hoff.2.1, hoff.2.2.1, hoff.2.2.2.1, hoff.2.2.2.2, trivial⟩ (by k_all) (fun y hy _ => if_neg hy) (find_miss hno hp (by assumption))
    · intro u h tk hno2 F1 N1
      rw [ints_length hI9, List.length_map, List.take_length] at hno2
      replace F1 : Fr g' L' h _ := F1
      replace N1 : News g' L' h _ := N1
      simp only [List.cons_append, List.nil_append] at N1
      clear N9 hl9 hI9 hp9 ho9
      dsimp only
      k_steps
      all_goals (try dsimp only)
      exact hL.leave (by k_asm) (by k_asm) (foot' := []) (fun p hp => nomatch hp) (.inl ⟨findNum_none hno1 hno2, rfl, rfl⟩)
end
example : Zz 0 := by (try walk1); exact trivial
local macro_rules | `(tactic| walk_at "call ref") => `(tactic| (k_here; focus (k_dflt (refine' wordUU ?_ _ _ _ ?_ ?_; rotate_left 11; walk_at "mine site"; all_goals walk_at "mine afterG"))))
local macro_rules | `(tactic| walk_at "call ref") => `(tactic| (k_here; focus (k_dflt (refine' isonU ?_ ?_ ?_ ?_ ?_ ?_ _ _ ?_; rotate_left 21; walk_at "mine site"; k_asm; k_asm; k_ne; k_ne; k_ne; walk_at "mine after"))))
section
example : Zz 0 := by (try walk1); exact trivial
local macro_rules | `(tactic| walk_at "exec For Name Name cons nil") => `(tactic| walk_at "mine for")
def saveOne (D K : BD) (k : Int) : BD := match privTab.lookup k with
  | none => K
  | some x => putB K x (onB D x)
theorem saveOne_le (D K : BD) (k : Int) : (saveOne D K k).length ≤ K.length + 1 := by
  unfold saveOne
  split
  · omega
  · exact putB_length _ _ _
theorem saveOne_none {D K : BD} {k : Int} (h : (wordTab true).lookup k = none) : saveOne D K k = K := by
  have h' : privTab.lookup k = none := h
  unfold saveOne; rw [h']
theorem saveOne_some {D K : BD} {k : Int} {x : Str} (h : (wordTab true).lookup k = some x) : saveOne D K k = putB K x (onB D x) := by
  have h' : privTab.lookup k = some x := h
  unfold saveOne; rw [h']
theorem nst {y a : Str} {l : List Str} (h : (a :: l).contains y = false) : y ≠ a ∧ l.contains y = false := by
  simp only [List.contains_cons, Bool.or_eq_false_iff, beq_eq_false_iff_ne] at h
  exact h
theorem foldl_save_le (D : BD) (ns : List Int) : ∀ K : BD, (ns.foldl (saveOne D) K).length ≤ K.length + ns.length := by
  induction ns with
  | nil => intro K; simp
  | cons y r ih =>
    intro K
    have h1 := ih (saveOne D K y)
    have h2 := saveOne_le D K y
    simp only [List.foldl_cons, List.length_cons]
    omega
example : Zz 0 := by (try walk1); exact trivial
section
set_option maxHeartbeats 8000000 in
theorem save_spec {w : World} {pgm : Program} {loo : List Str} {mean : ExcName → Option Value} {mg mb : Str → Option Value} {M dM S Kp : Addr} {h1 h2 : Int} {t1 t2 : Tok} {n : Nat} {oS : Obj} {D : BD} {oK : Obj} {K : BD} {N : Addr} {vs : List Value} {c : Nat} {ns : List Int} (hS : BoolDict w oS D) (hlo : (S == sysModules) = false) (hn1 : @Ne Nat M dM) (hn2 : @Ne Nat M S) (hn3 : @Ne Nat dM S) (hK : BoolDict w oK K) (hI : IntsAre vs ns) (hz : K.length + ns.length ≤ 900)
    (hk1 : @Ne Nat M Kp) (hk2 : @Ne Nat dM Kp) (hk3 : @Ne Nat S Kp) (hm1 : @Ne Nat M N) (hm2 : @Ne Nat dM N) (hm3 : @Ne Nat S N) (hm4 : @Ne Nat Kp N) :
    Spec w pgm loo mean mg mb (.ref 104) 840 8600 [.ref M, .ref N] [(M, instObj 86 dM), (dM, modesD h1 t1 S h2 t2 Kp n), (S, oS), (Kp, oK), (N, W.listOf vs.toArray c)] (fun r foot' => ∃ oK', r = .none ∧ foot' = [(M, instObj 86 dM), (dM, modesD h1 t1 S h2 t2 Kp n), (S, oS), (Kp, oK'), (N, W.listOf vs.toArray c)] ∧ BoolDict w oK' (ns.foldl (saveOne D) K)) := by
  (k_dflt (refine' spec_of (binds := [(Str.ofString "modes", .ref M), (Str.ofString "numbers", .ref N)]) ?k6 ?k7 ?k8 ?k9 ?kB ?_ ?c2 ?c3 ?c4 ?c5; (case k6 => k_is); (case k7 => k_is); (case k8 => decide); (case k9 => exact fun s X => BindsTo.of_eq rfl); (case c5 => decide); (case kB => exact locs rfl); (case c2 => exact rfl); (case c3 => exact rfl); (case c4 => exact rfl); k_whole); intro ev A₀ base g' L' h₁ s tk₁ hdp hun B' F' N' X' T' hlt QL hL; k_lt hlt; (replace F' := binds_fr F'); (try dsimp only [BindsMap] at F'))
  k_steps
  all_goals (try dsimp only)
  refine ForSrc.led (vs := vs) [Str.ofString "word"] (fun i nx => ∃ oK', nx = [(M, instObj 86 dM), (dM, modesD h1 t1 S h2 t2 Kp n), (S, oS), (Kp, oK')] ∧ BoolDict w oK' ((ns.take i).foldl (saveOne D) K)) rfl (Pick.tail (Pick.tail (Pick.tail (Pick.tail Pick.head)))) ⟨.inl rfl, _, rfl⟩ (by k_asm) (by k_asm) (by k_all) ⟨_, rfl, hK⟩ ?_ ?_
  · rintro i v nx h tk I oI u hv ⟨oK', rfl, hK'⟩ ho1 ho2 hne F1 N1 QT hT
    obtain ⟨k, t, hk, rfl⟩ := ints_at hI i v hv
    have hlen := foldl_save_le D (ns.take i) K
    have htl : (ns.take i).length ≤ ns.length := List.length_take_le' _ _
    have hz1 : ((ns.take i).foldl (saveOne D) K).length ≤ 1000 := by omega
    have ho1' := ho1
    have ho2' := ho2
    replace ho1 := OffAll.ap ho1
    replace ho2 := OffAll.ap ho2
    dsimp only [List.map] at ho1 ho2
    simp only [List.cons_append, List.nil_append] at N1
    k_steps
    all_goals (try refine hT _ _ ?_)
    · (refine' TurnEnd.led [(M, instObj 86 dM), (dM, modesD h1 t1 S h2 t2 Kp n), (S, oS), (Kp, oK')] ?teF1 ?teN1 ?tehn1 ?tehI1 ?tehl1 ?teo1 ?teq1 ?tem1 ?_; (case teF1 => k_asm); (case teN1 => k_asm); (case tehn1 => exact (by (repeat (first | exact sub_nil | (refine' sub_cons ?sa ?_; (case sa => k_mem)))))); (case tehI1 => k_mem); (case tehl1 => k_mem); (case teo1 => exact ho1'); (case teq1 => exact ho2'); (case tem1 => exact (fun y h1 h2 => by have h3 := (nst h2).1; simp only [if_neg h1, if_neg h3, h2, Bool.false_eq_true, if_false])))
      refine ⟨_, rfl, ?_⟩
      rw [take_succ_foldl _ _ _ _ _ hk]
      rw [saveOne_none (by assumption)]; exact hK'
    · (refine' TurnEnd.led [(M, instObj 86 dM), (dM, modesD h1 t1 S h2 t2 Kp n), (S, oS), (Kp, _)] ?teF2 ?teN2 ?tehn2 ?tehI2 ?tehl2 ?teo2 ?teq2 ?tem2 ?_; (case teF2 => k_asm); (case teN2 => k_asm); (case tehn2 => exact (by (repeat (first | exact sub_nil | (refine' sub_cons ?sa ?_; (case sa => k_mem)))))); (case tehI2 => k_mem); (case tehl2 => k_mem); (case teo2 => exact ho1'); (case teq2 => exact ho2'); (case tem2 => exact (fun y h1 h2 => by have h3 := (nst h2).1; simp only [if_neg h1, if_neg h3, h2, Bool.false_eq_true, if_false])))
      refine ⟨_, rfl, ?_⟩
      rw [take_succ_foldl _ _ _ _ _ hk]
      rw [saveOne_some (by assumption)]; k_asm
  · rintro u nx h tk ⟨oK', rfl, hK'⟩ ho F1 N1
    rw [ints_length hI, List.take_length] at hK'
    replace F1 : Fr g' L' h _ := F1
    replace N1 : News g' L' h _ := N1
    dsimp only
    k_steps
    all_goals (try dsimp only)
    exact hL.leave (by k_asm) (by k_asm) (foot' := [(M, instObj 86 dM), (dM, modesD h1 t1 S h2 t2 Kp n), (S, oS), (Kp, _), (N, W.listOf vs.toArray c)]) (fun p hp => hp) ⟨_, rfl, rfl, by k_asm⟩
end
example : Zz 0 := by (try walk1); exact trivial
theorem saveU {w : World} {pgm : Program} {loo : List Str} {mean : ExcName → Option Value} {mg mb : Str → Option Value} {M dM S Kp : Addr} {h1 h2 : Int} {t1 t2 : Tok} {n : Nat} {oS : Obj} {D : BD} {oK : Obj} {K : BD} {N : Addr} {vs : List Value} {c : Nat} {ns : List Int} {dp un : Nat} {gd : Option (List Code)} {cn : Str} {cs : Scope} {za : Addr} {ccd : Value} {cl : List (Str × Addr)} {outer : List Env} {A₀ : Around} {base h₀ : Heap} {zL : Addr} {zm : Str → Option Value} {zn zr : Led} {zs : Shared} {zQ zE : Value → Shared → Prop} (zS : Site w pgm loo mean mg mb 840 8600 dp un cs outer A₀ base h₀ zL zs.heap zm zn ∧ Picks [(M, instObj 86 dM), (dM, modesD h1 t1 S h2 t2 Kp n), (S, oS), (Kp, oK), (N, W.listOf vs.toArray c)] zn zr ∧ Apart [(M, instObj 86 dM), (dM, modesD h1 t1 S h2 t2 Kp n), (S, oS), (Kp, oK), (N, W.listOf vs.toArray c)] zr) (hS : BoolDict w oS D) (hlo : (S == sysModules) = false) (hn1 : @Ne Nat M dM) (hn2 : @Ne Nat M S) (hn3 : @Ne Nat dM S) (hK : BoolDict w oK K) (hI : IntsAre vs ns) (hz : K.length + ns.length ≤ 900) (hk1 : @Ne Nat M Kp) (hk2 : @Ne Nat dM Kp) (hk3 : @Ne Nat S Kp) (hm1 : @Ne Nat M N) (hm2 : @Ne Nat dM N) (hm3 : @Ne Nat S N) (hm4 : @Ne Nat Kp N)
    (zh : ∀ h9 tk9, Fr h₀ zL h9 zm → ∀ oK', BoolDict w oK' (ns.foldl (saveOne D) K) → News h₀ zL h9 ((M, instObj 86 dM) :: (dM, modesD h1 t1 S h2 t2 Kp n) :: (S, oS) :: (Kp, oK') :: (N, W.listOf vs.toArray c) :: zr) → zQ (.none) { zs with heap := h9, toks := tk9 }) :
    wpAny (model PySem.Challenge.rw_og0244_01.row.prog w) (ktrTop dp un gd cn cs zL za ccd cl outer) (call (.ref 104) [.ref M, .ref N]) zQ zE zs :=
  save_spec hS hlo hn1 hn2 hn3 hK hI hz hk1 hk2 hk3 hm1 hm2 hm3 hm4 _ _ _ _ _ _ _ _ _ _ _ _ _ _ _ _ _ _ _ zS.1.B zS.1.F zS.1.X zS.1.T zS.1.k zS.1.d zS.1.u zS.1.N zS.2.1 zS.2.2 fun r foot h9 tk9 hp F9 N9 ap => by
    obtain ⟨oK', rfl, rfl, y0⟩ := hp
    exact zh h9 tk9 F9 oK' y0 N9
end
example : Zz 0 := by (try walk1); exact trivial
local macro_rules | `(tactic| walk_at "compareOp In str ref") => `(tactic| (k_here; k_dflt (refine' bd_in ?_ ?_ ?_ ?_ ?_; rotate_left 5; k_asm; k_mem; k_asm; k_asm; k_whole)))
section
example : Zz 0 := by (try walk1); exact trivial
local macro_rules | `(tactic| k_lt $h) => `(tactic| km_mul $h)
local macro_rules | `(tactic| walk_at "exec For Name Name cons nil") => `(tactic| walk_at "mine for")
def pairObj (x : Str) (t : Tok) (b : Bool) (n : Nat) : Obj := { cls := .type "tuple", data := .seq #[.str x t, .bool b] n }
inductive PairsL : List Value → Led → BD → Prop
  | nil : PairsL [] [] []
  | cons {a : Addr} {x : Str} {t : Tok} {b : Bool} {n : Nat} {vs : List Value} {ts : Led} {ps : BD} : PairsL vs ts ps → PairsL (.ref a :: vs) ((a, pairObj x t b n) :: ts) ((x, b) :: ps)
theorem PairsL.append {vs vs' : List Value} {ts ts' : Led} {ps ps' : BD} (h : PairsL vs ts ps) (h' : PairsL vs' ts' ps') : PairsL (vs ++ vs') (ts ++ ts') (ps ++ ps') := by
  induction h with
  | nil => exact h'
  | cons _ ih => exact .cons ih
theorem PairsL.length {vs : List Value} {ts : Led} {ps : BD} (h : PairsL vs ts ps) : vs.length = ps.length := by
  induction h with
  | nil => rfl
  | cons _ ih => simp [ih]
def savedOne (K : BD) (k : Int) : Option (Str × Bool) := match privTab.lookup k with
  | none => none
  | some x => if (getB K x).isSome then some (x, onB K x) else none
theorem savedOne_none {K : BD} {k : Int} (h : (wordTab true).lookup k = none) : savedOne K k = none := by
  have h' : privTab.lookup k = none := h
  unfold savedOne; rw [h']
theorem savedOne_out {K : BD} {k : Int} {x : Str} (h : (wordTab true).lookup k = some x) (hs : (getB K x).isSome = false) : savedOne K k = none := by
  have h' : privTab.lookup k = some x := h
  unfold savedOne; rw [h']; simp [hs]
theorem savedOne_some {K : BD} {k : Int} {x : Str} (h : (wordTab true).lookup k = some x) (hs : (getB K x).isSome = true) : savedOne K k = some (x, (getB K x).getD false) := by
  have h' : privTab.lookup k = some x := h
  unfold savedOne; rw [h']; simp [hs, onB]
theorem take_succ_fm {α β : Type} (f : α → Option β) (l : List α) (i : Nat) (a : α) (h : l[i]? = some a) : (l.take (i + 1)).filterMap f = (l.take i).filterMap f ++ (f a).toList := by
  rw [List.take_add_one, h, List.filterMap_append]
  cases hf : f a <;> simp [hf]
theorem news_swap {h₀ h : Heap} {L : Addr} {a ts b : Led} (N : News h₀ L h ((a ++ ts) ++ b)) : News h₀ L h (a ++ (b ++ ts)) := news_sub N fun p hp => by
  rcases List.mem_append.mp hp with h | h
  · exact List.mem_append_left _ (List.mem_append_left _ h)
  · rcases List.mem_append.mp h with h | h
    · exact List.mem_append_right _ h
    · exact List.mem_append_left _ (List.mem_append_right _ h)
theorem mem_parts {A ts nn : Led} {z : Addr × Obj} (h1 : ∀ p ∈ A, p ∈ nn) (h2 : ∀ p ∈ ts, p ∈ nn) (h3 : z ∈ nn) : ∀ p ∈ A ++ (ts ++ [z]), p ∈ nn := fun p hp => by
  rcases List.mem_append.mp hp with h | h
  · exact h1 p h
  · rcases List.mem_append.mp h with h | h
    · exact h2 p h
    · exact (List.mem_singleton.mp h) ▸ h3
theorem mem_swap {a b ts : Led} : ∀ p ∈ a ++ ts, p ∈ a ++ (b ++ ts) := fun p hp => by
  rcases List.mem_append.mp hp with h | h
  · exact List.mem_append_left _ h
  · exact List.mem_append_right _ (List.mem_append_right _ h)
theorem OffAll.append {a : Nat} {l r : Led} (h : OffAll a l) (h' : OffAll a r) : OffAll a (l ++ r) := by
  induction l with
  | nil => exact h'
  | cons p l ih => exact ⟨h.1, ih h.2⟩
theorem OffAll.left {a : Nat} {l r : Led} (h : OffAll a (l ++ r)) : OffAll a l ∧ OffAll a r := by
  induction l with
  | nil => exact ⟨trivial, h⟩
  | cons p l ih => exact ⟨⟨h.1, (ih h.2).1⟩, (ih h.2).2⟩
theorem OffAll.ofLt {a : Addr} : ∀ {l : Led}, AllLt a l → OffAll a l
  | [], _ => trivial
  | _ :: _, h => ⟨Nat.ne_of_lt h.1, OffAll.ofLt h.2⟩
example : Zz 0 := by (try walk1); exact trivial
section
variable {w : World} {A : Around} {E : Value → Shared → Prop} {s : Shared} {h₀ : Heap} {L d : Addr} {m : Str → Option Value} {news : Led} {o : Obj} {D : BD} {x : Str} {t : Tok}
theorem bd_tailS {value slice : PySem.Expr} {Q : Value → Shared → Prop} (N : News h₀ L s.heap news) (hp : (d, o) ∈ news) (hd : BoolDict w o D) (hb : (getB D x).isSome = true) (h : Q (.bool ((getB D x).getD false)) { s with toks := s.toks + 1 })
    (hs : subscripted slice false (.ref d) (.str x t) = operate [.ref d, .str x t] (getItem (.ref d) (.str x t)) := by with_unfolding_all rfl) (hg : ∀ r, letTemporaryGo value (.ref d) r = pure () := by intro _; with_unfolding_all rfl) :
    wpAny (model PySem.Challenge.rw_og0244_01.row.prog w) A (subscriptTail value slice (.ref d) (.str x t)) Q E s := by
  cases e : getB D x with
  | none => rw [e] at hb; cases hb
  | some b => rw [e] at h; exact bd_tail N hp hd e h hs hg
end
example : Zz 0 := by (try walk1); exact trivial
example : Zz 0 := by (try walk1); exact trivial
section
local macro_rules | `(tactic| walk_at "subscriptTail") => `(tactic| (k_here; k_dflt ((with_reducible refine' bd_tailS ?_ ?_ ?_ ?_ ?_); rotate_left 5; k_asm; k_mem; k_asm; k_asm; k_whole)))
local macro_rules | `(tactic| walk_at "call builtin:list.append") => `(tactic| (k_here; k_dflt (refine' append_K ?_ ?_ ?_ ?_ ?_; rotate_left 7; k_asm; k_asm; k_upd; rotate_left; assumption; rotate_right; k_whole); intro h' F' N'; (try k_sweep)))
set_option maxHeartbeats 8000000 in
theorem saved_spec {w : World} {pgm : Program} {loo : List Str} {mean : ExcName → Option Value} {mg mb : Str → Option Value} {M dM S Kp : Addr} {h1 h2 : Int} {t1 t2 : Tok} {n : Nat} {oK : Obj} {K : BD} {N : Addr} {vs : List Value} {c : Nat} {ns : List Int} (hK : BoolDict w oK K) (hlo : (Kp == sysModules) = false) (hI : IntsAre vs ns) (hz : ns.length ≤ 900)
    (hn1 : @Ne Nat M dM) (hk1 : @Ne Nat M Kp) (hk2 : @Ne Nat dM Kp) (hm1 : @Ne Nat M N) (hm2 : @Ne Nat dM N) (hm4 : @Ne Nat Kp N) :
    Spec w pgm loo mean mg mb (.ref 111) 840 8600 [.ref M, .ref N] [(M, instObj 86 dM), (dM, modesD h1 t1 S h2 t2 Kp n), (Kp, oK), (N, W.listOf vs.toArray c)] (fun r foot' => ∃ Fd vs' c' ts, r = .ref Fd ∧ foot' = [(M, instObj 86 dM), (dM, modesD h1 t1 S h2 t2 Kp n), (Kp, oK), (N, W.listOf vs.toArray c), (Fd, W.listOf vs'.toArray c')] ++ ts ∧ PairsL vs' ts (ns.filterMap (savedOne K)) ∧ OffAll Fd ts) := by
  (k_dflt (refine' spec_of (binds := [(Str.ofString "modes", .ref M), (Str.ofString "numbers", .ref N)]) ?k6 ?k7 ?k8 ?k9 ?kB ?_ ?c2 ?c3 ?c4 ?c5; (case k6 => k_is); (case k7 => k_is); (case k8 => decide); (case k9 => exact fun s X => BindsTo.of_eq rfl); (case c5 => decide); (case kB => exact locs rfl); (case c2 => exact rfl); (case c3 => exact rfl); (case c4 => exact rfl); k_whole); intro ev A₀ base g' L' h₁ s tk₁ hdp hun B' F' N' X' T' hlt QL hL; k_lt hlt; (replace F' := binds_fr F'); (try dsimp only [BindsMap] at F'))
  k_steps
  all_goals (try dsimp only)
  rename News _ _ _ (_ :: _ :: _ :: _ :: _ :: _) => N0
  rename _ ∧ _ ∧ _ ∧ _ => l0
  rename_i Fd _ _ _ _
  refine ForSrc.led (vs := vs) [Str.ofString "word"] (fun i nx => ∃ vsF cF ts, nx = [(Fd, W.listOf vsF.toArray cF), (M, instObj 86 dM), (dM, modesD h1 t1 S h2 t2 Kp n), (Kp, oK)] ++ ts ∧ PairsL vsF ts ((ns.take i).filterMap (savedOne K)) ∧ OffAll Fd ts) rfl (Pick.tail (Pick.tail (Pick.tail (Pick.tail Pick.head)))) ⟨.inl rfl, _, rfl⟩ (by k_asm) N0 (by k_all) ⟨[], 0, [], rfl, .nil, trivial⟩ ?_ ?_
  · rintro i v nx h tk I oI u hv ⟨vsF, cF, ts, rfl, hPL, hoFd⟩ ho1 ho2 hne F1 N1 QT hT
    obtain ⟨k, t, hk, rfl⟩ := ints_at hI i v hv
    have hlen : vsF.length ≤ ns.length := by
      rw [hPL.length]
      exact Nat.le_trans (List.length_filterMap_le _ _) (by rw [List.length_take]; omega)
    have hzF : vsF.toArray.size ≤ sizeLine := by rw [List.size_toArray, sizeLine_eq]; omega
    have N1 := news_swap N1
    obtain ⟨ho1a, ho1t⟩ := ho1.left
    obtain ⟨ho2a, ho2t⟩ := ho2.left
    have ho1' := ho1a
    have hFI := ho1a.1
    have ho2' := ho2a
    simp only [OffAll, and_true] at ho1a ho2a
    simp only [List.cons_append, List.nil_append] at N1
    clear N0
    k_steps
    all_goals (try refine hT _ _ ?_)
    · refine TurnEnd.led ([(Fd, W.listOf vsF.toArray cF), (M, instObj 86 dM), (dM, modesD h1 t1 S h2 t2 Kp n), (Kp, oK)] ++ ts) (by k_asm) (by k_asm) (mem_swap (a := [(Fd, W.listOf vsF.toArray cF), (M, instObj 86 dM), (dM, modesD h1 t1 S h2 t2 Kp n), (Kp, oK)]) (b := [(I, oI), (N, W.listOf vs.toArray c)])) (by k_mem) (by k_mem) (OffAll.append ho1' ho1t) (OffAll.append ho2' ho2t) (fun y h1 h2 => by have h3 := (nst h2).1; simp only [if_neg h1, if_neg h3, h2, Bool.false_eq_true, if_false]) ⟨vsF, cF, ts, rfl, ?_, hoFd⟩
      rw [take_succ_fm _ _ _ _ hk, savedOne_none (by assumption)]
      simpa using hPL
    · rename News _ _ _ (_ :: _ :: _) => N2
      rename _ ∧ _ ∧ _ ∧ _ ∧ _ ∧ _ ∧ AllLt _ _ => l2
      rename_i T' _ _ _ _
      rw [List.push_toArray] at N2
      have hoT : OffAll T' ts := OffAll.ofLt l2.2.2.2.2.2.2
      (refine' TurnEnd.led ([(Fd, W.listOf (vsF ++ [Value.ref T']).toArray (cF + 1)), (M, instObj 86 dM), (dM, modesD h1 t1 S h2 t2 Kp n), (Kp, oK)] ++ (ts ++ [(T', pairObj _ _ _ 0)])) ?qF ?qN ?qn ?qI ?ql ?qo ?qp ?qm ?_; (case qF => k_asm); (case qN => exact N2); (case qn => (refine' mem_parts ?qa ?qb ?qc; (case qa => exact (by (repeat (first | exact sub_nil | (refine' sub_cons ?sa ?_; (case sa => k_mem)))))); (case qb => (intro p hp; simp only [List.mem_cons]; simp only [hp, or_true])); (case qc => k_mem))); (case qI => k_mem); (case ql => k_mem); (case qo => exact OffAll.append ho1' (OffAll.append ho1t ⟨Nat.ne_of_gt l2.2.2.2.2.1, trivial⟩)); (case qp => exact OffAll.append ho2' (OffAll.append ho2t ⟨Nat.ne_of_gt l2.2.2.2.2.2.1, trivial⟩)); (case qm => exact (fun y h1 h2 => by have h3 := (nst h2).1; simp only [if_neg h1, if_neg h3, h2, Bool.false_eq_true, if_false])))
      refine ⟨vsF ++ [Value.ref T'], cF + 1, ts ++ [(T', pairObj _ _ _ 0)], rfl, ?_, OffAll.append hoFd ⟨Nat.ne_of_gt l2.1, trivial⟩⟩
      rw [take_succ_fm _ _ _ _ hk, savedOne_some (by assumption) (by assumption)]
      exact hPL.append (.cons .nil)
    · refine TurnEnd.led ([(Fd, W.listOf vsF.toArray cF), (M, instObj 86 dM), (dM, modesD h1 t1 S h2 t2 Kp n), (Kp, oK)] ++ ts) (by k_asm) (by k_asm) (mem_swap (a := [(Fd, W.listOf vsF.toArray cF), (M, instObj 86 dM), (dM, modesD h1 t1 S h2 t2 Kp n), (Kp, oK)]) (b := [(I, oI), (N, W.listOf vs.toArray c)])) (by k_mem) (by k_mem) (OffAll.append ho1' ho1t) (OffAll.append ho2' ho2t) (fun y h1 h2 => by have h3 := (nst h2).1; simp only [if_neg h1, if_neg h3, h2, Bool.false_eq_true, if_false]) ⟨vsF, cF, ts, rfl, ?_, hoFd⟩
      rw [take_succ_fm _ _ _ _ hk, savedOne_out (by assumption) (by assumption)]
      simpa using hPL
  · rintro u nx h tk ⟨vsF, cF, ts, rfl, hPL, hoFd⟩ ho F1 N1
    rw [ints_length hI, List.take_length] at hPL
    have N1 := news_swap N1
    replace F1 : Fr g' L' h _ := F1
    replace N1 : News g' L' h _ := N1
    simp only [List.cons_append, List.nil_append] at N1
    clear N0
    dsimp only
    k_steps
    all_goals (try dsimp only)
    exact hL.leave (by k_asm) (by k_asm) (foot' := [(M, instObj 86 dM), (dM, modesD h1 t1 S h2 t2 Kp n), (Kp, oK), (N, W.listOf vs.toArray c), (Fd, W.listOf vsF.toArray cF)] ++ ts) (by intro p hp; simp only [List.mem_append, List.mem_cons, List.cons_append, List.nil_append, List.not_mem_nil, or_false] at hp ⊢; grind) ⟨Fd, vsF, cF, ts, rfl, rfl, hPL, hoFd⟩
end
example : Zz 0 := by (try walk1); exact trivial
end
section
set_option maxHeartbeats 1000000
section
variable {w : World} {pgm : Program} {loo : List Str} {mean : ExcName → Option Value} {mg mb : Str → Option Value}
theorem spec_ofC {D U : Nat} {name qual : Str} {params : Arguments} {body : List Stmt} {scope : Scope} {dV kV doc pm cdv ct oc : Value} {an od : Option Addr} {osl : Array (Option Value)} {f : Addr} {args : List Value} {binds : List (Str × Value)} {foot : Led} {Post : Value → Led → Prop}
    (ho : (pre.heap_1 w.params).lookup f = some ⟨oc, od, .func (fnOf name qual params body scope dV kV doc pm an cdv ct), osl⟩) (hcd : codeIn (pre.heap_1 w.params) cdv qual = true) (hroom : D < recursionLimit)
    (hbind : ∀ s : Shared, (pre.heap_1 w.params).In s.heap → BindsTo s (fnOf name qual params body scope dV kV doc pm an cdv ct) ⟨args, []⟩ binds)
    (hkind : (binds.all fun y => scope.names.lookup y.1 == some .local || scope.names.lookup y.1 == some .cell) = true) (hnd : ((cellsFrom 0 scope.names []).map (·.1)).Nodup)
    (h : ∀ (ev : EV) (A₀ : Around) (base g : Heap) (L' : Addr) (h₁ : Heap) (s : Shared) (tk : Nat) (cells : Led), ev.dp ≤ D + 1 → ev.un ≤ U + 3 →
      Below A₀ base ev.outer g → Fr g L' h₁ (bindL (envOfC qual scope L' f cdv).kindOf binds fun _ => none) → News g L' h₁ (cells ++ foot) → CellsAre (bindC (envOfC qual scope L' f cdv).kindOf binds fun _ => none) (cellsFrom (L' + 1) scope.names []) cells →
      (pre.heap_1 w.params).In g → Top pgm loo mean mg mb g → (∀ p ∈ foot, p.1 < L') → ∀ QL, LeaveH g s Post QL →
      wpAny (model PySem.Challenge.rw_og0244_01.row.prog w) (ktC qual scope f cdv ev L') (execs body (keC qual scope f cdv L'))
        QL (fun _ _ => False) { s with heap := h₁, toks := tk })
    (hco : scope.isCoroutine = false) (hgen : scope.isGenerator = false) (hk : scope.kind = .function) : Spec w pgm loo mean mg mb (.ref f) D U args foot Post := by
  intro dp un gd cn cs a ccd cl outer A₀ base h₀ L m news rest s Q E B F X T hcs hD hU N PK AP hQ
  refine wpAny_call ?_
  have Nf : News h₀ L s.heap foot := news_sub N fun x hx => PK.mem x (List.mem_append_left _ hx)
  have Nr : News h₀ L s.heap rest := news_sub N fun x hx => PK.mem x (List.mem_append_right _ hx)
  have hA : (ktrTop dp un gd cn cs L a ccd cl outer).frames = some (envX cn cs L a ccd cl :: outer) := rfl
  obtain ⟨FG, BG, st, _⟩ := groundX (R := fun _ _ => True) B F Nf hA rfl hcs
  have Xg := X.keeps st
  have Tg := T.keeps st
  have restG : ∀ q ∈ rest, (hideAll s.heap (foot.map (·.1))).get? q.1 = some q.2 := fun q hq => hideAll_get _ (Nr q hq).1 fun hm => by
    obtain ⟨p, hp, e⟩ := List.mem_map.mp hm
    exact AP p hp q hq e
  obtain ⟨oL, es, ep, hL, hLd, hLk, hLf⟩ := F.ns
  have hLg : (hideAll s.heap (foot.map (·.1))).get? L = some oL := hideAll_get _ hL fun hm => by
    obtain ⟨p, hp, e⟩ := List.mem_map.mp hm
    exact (Nf p hp).2.1 e
  have X' : (pre.heap_1 w.params).In s.heap := X.keeps F.keep
  refine codeAny_call_function (Nat.lt_of_le_of_lt hD hroom) (X' _ _ ho) rfl hco hgen rfl (codeRec_of X' hcd) (hbind s X' _ _ _ _ ?_)
  refine wpAny_newFunctionEnv_cells hk (kindsX hkind _) fun env' he s' x => ?_
  subst he
  refine ⟨(T.nolimit.keeps F.keep).keeps x.toInCall.keep, codeAny_func ?_⟩
  obtain ⟨h₁, tk, rfl, _⟩ := x.done
  have hk₁ := x.toInCall.keep
  obtain ⟨cells, NC, Y⟩ := Cl.news (h₀ := s.heap) (Nat.le_refl _) fun n c hm => ⟨x.cell n c (lookup_of_mem_nodup (cellsFrom_names scope.names 0 (s.heap.objs.size + 1) [] [] rfl ▸ hnd) hm), x.above n c hm⟩
  refine wpAny_mono (h ⟨dp + 1, un + 3, gd, envX cn cs L a ccd cl :: outer⟩ _ base (hideAll s.heap (foot.map (·.1))) s.heap.objs.size h₁ s tk cells (Nat.succ_le_succ hD) (Nat.add_le_add_right hU 3) BG
    ⟨x.toInCall.ns, fun b o e => hk₁ b o (of_hideAll _ e), Nat.le_of_eq (hideAll_size _ _)⟩ (fun p hp => ?_) Y Xg Tg (fun p hp => Heap.lt_size (Nf p hp).1) _ (fun _ _ h => h)) (fun fl s' hl => ?_) fun _ _ e => e.elim
  · rcases List.mem_append.mp hp with hp | hp
    · refine ⟨(NC p hp).1, (NC p hp).2.1, ?_⟩
      cases q : (hideAll s.heap (foot.map (·.1))).get? p.1 with
      | none => rfl
      | some o => have := of_hideAll _ q; rw [(NC p hp).2.2] at this; cases this
    · exact ⟨hk₁ _ _ (Nf p hp).1, Nat.ne_of_lt (Heap.lt_size (Nf p hp).1), hideAll_none _ (List.mem_map_of_mem hp)⟩
  · refine hl _ ?_; rintro L' m' news' foot' h' tk rfl F' N' hs hp
    refine hQ _ foot' h' tk hp ⟨⟨oL, es, ep, F'.keep L oL hLg, hLd, hLk, hLf⟩, fun b o e => F'.keep b o (st b o e), F.above⟩ ?_ ?_
    · intro p hp
      rcases List.mem_append.mp hp with q | q
      · have n := N' p (hs p q)
        refine ⟨n.1, fun e => ?_, ?_⟩
        · have := n.2.2; rw [e, hLg] at this; cases this
        · cases q : h₀.get? p.1 with
          | none => rfl
          | some o => have := n.2.2; rw [st _ _ q] at this; cases this
      · exact ⟨F'.keep _ _ (restG p q), (Nr p q).2⟩
    · intro p hp q hq e
      have := (N' p (hs p hp)).2.2
      rw [e, restG q hq] at this; cases this
end
end
section
section
variable {prog : Program} {w : World} {A : Around} {h₀ : Heap} {L : Addr} {m : Str → Option Value} {env : Env} {ct elt : Expr} {x : Str} {scope : Scope} {cl : List (Str × Addr)} {s : Shared} {S : List (Addr × Obj) → Prop} {P : Nat → Value → Prop} {Fin : List Value → List (Addr × Obj) → Prop} {news : List (Addr × Obj)}
theorem range_fm {f : Nat → Option Value} (i : Nat) : (List.range (i + 1)).filterMap f = (List.range i).filterMap f ++ (f i).toList := by
  rw [List.range_succ, List.filterMap_append]
  cases h : f i with
  | none => simp [h]
  | some y => simp [h]
theorem fm_rest {n : Nat} (f : Nat → Option Value)
    (turn : ∀ i v I oI C oC D m₂ ys h tk (E' : Value → Shared → Prop), i < n → P i v → LCg.NsObj oC m₂ → m₂ x = some v → Fr h₀ L h m → News h₀ L h ((I, oI) :: (C, oC) :: (D, LCg.lst ys) :: news) → LCg.Off3 I C D news → ((@Ne Nat I C) ∧ (@Ne Nat I D) ∧ (@Ne Nat C D)) →
      wpAny (model prog w) A (isTrue ct (compEnvC scope cl C env) (eval ct (compEnvC scope cl C env))) (fun b s' => if b = true then wpAny (model prog w) A (eval elt (compEnvC scope cl C env)) (LCg.CompEnd h₀ L m { s with heap := h, toks := tk } I oI C oC D (LCg.lst ys) S (fun y news' => news' = news ∧ f i = some y)) E' s'
        else LCg.CompEnd h₀ L m { s with heap := h, toks := tk } I oI C oC D (LCg.lst ys) S (fun _ news' => news' = news ∧ f i = none) Value.none s') E' { s with heap := h, toks := tk })
    (fin : Fin ((List.range n).filterMap f) news) : LCt.CompRestT prog w A h₀ L m env ct elt x scope cl s S P Fin n 0 [] news := by
  have key : ∀ (j i : Nat) (ys : List Value), i + j = n → ys = (List.range i).filterMap f → LCt.CompRestT prog w A h₀ L m env ct elt x scope cl s S P Fin j i ys news := by
    intro j
    induction j with
    | zero =>
      intro i ys hi hy
      subst hy
      have e : i = n := by omega
      subst e
      exact LCt.CompRestT.zero fin
    | succ j ih =>
      intro i ys hi hy
      refine LCt.CompRestT.succ ?_
      intro v I oI C oC D m₂ h tk E' hv hC hx F N off ne
      refine wpAny_mono (turn i v I oI C oC D m₂ ys h tk E' (by omega) hv hC hx F N off ne) (fun b s₂ hq => ?_) fun _ _ e => e
      cases b with
      | true =>
        simp only [if_true] at hq ⊢
        refine wpAny_mono hq (fun y s₃ hr => ?_) fun _ _ e => e
        obtain ⟨h', tk', nw, e, F', N', off', hS, hn, hf⟩ := hr
        subst hn
        refine ⟨h', tk', _, e, F', N', off', hS, ih (i + 1) _ (by omega) ?_⟩
        rw [range_fm, hf, hy]; rfl
      | false =>
        simp only [Bool.false_eq_true, if_false] at hq ⊢
        obtain ⟨h', tk', nw, e, F', N', off', hS, hn, hf⟩ := hq
        subst hn
        refine ⟨h', tk', _, e, F', N', off', hS, ih (i + 1) _ (by omega) ?_⟩
        rw [range_fm, hf, hy]; simp
  exact key n 0 [] (by omega) rfl
theorem m_rest {n : Nat} (f : Nat → Value)
    (turn : ∀ i v I oI C oC D m₂ ys h tk (E' : Value → Shared → Prop), i < n → P i v → LCg.NsObj oC m₂ → m₂ x = some v → Fr h₀ L h m → News h₀ L h ((I, oI) :: (C, oC) :: (D, LCg.lst ys) :: news) → LCg.Off3 I C D news → ((@Ne Nat I C) ∧ (@Ne Nat I D) ∧ (@Ne Nat C D)) →
      wpAny (model prog w) A (eval elt (compEnvC scope cl C env)) (LCg.CompEnd h₀ L m { s with heap := h, toks := tk } I oI C oC D (LCg.lst ys) S (fun y news' => news' = news ∧ f i = y)) E' { s with heap := h, toks := tk })
    (fin : Fin ((List.range n).map f) news) : LCg.CompRest prog w A h₀ L m env elt x scope cl s S P Fin n 0 [] news := by
  have key : ∀ (j i : Nat) (ys : List Value), i + j = n → ys = (List.range i).map f → LCg.CompRest prog w A h₀ L m env elt x scope cl s S P Fin j i ys news := by
    intro j
    induction j with
    | zero =>
      intro i ys hi hy
      subst hy
      have e : i = n := by omega
      subst e
      exact LCg.CompRest.zero fin
    | succ j ih =>
      intro i ys hi hy
      refine LCg.CompRest.succ ?_
      intro v I oI C oC D m₂ h tk E' hv hC hx F N off ne
      refine wpAny_mono (turn i v I oI C oC D m₂ ys h tk E' (by omega) hv hC hx F N off ne) (fun y s₂ hq => ?_) fun _ _ e => e
      obtain ⟨h', tk', nw, e, F', N', off', hS, hn, hf⟩ := hq
      subst hn
      refine ⟨h', tk', _, e, F', N', off', hS, ih (i + 1) _ (by omega) ?_⟩
      rw [List.range_succ, List.map_append, hy]
      simp [hf]
  exact key n 0 [] (by omega) rfl
end
theorem range_fm' {f : Nat → Option Value} (n : Nat) : (List.range (n + 1)).filterMap f = (f 0).toList ++ (List.range n).filterMap (f ∘ Nat.succ) := by
  rw [List.range_succ_eq_map, List.filterMap_cons, List.filterMap_map]
  cases f 0 <;> rfl
def pickS (p : Str → Bool) (vs : List Value) (ss : List Str) (i : Nat) : Option Value := match ss[i]? with
  | some y => if p y then vs[i]? else none
  | none => none
theorem pickS_yes {p : Str → Bool} {vs : List Value} {ss : List Str} {i : Nat} {y : Str} {v : Value} (h : ss[i]? = some y) (hv : vs[i]? = some v) (hp : p y = true) : pickS p vs ss i = some v := by
  unfold pickS; rw [h]; simp [hp, hv]
theorem pickS_no {p : Str → Bool} {vs : List Value} {ss : List Str} {i : Nat} {y : Str} (h : ss[i]? = some y) (hp : p y = false) : pickS p vs ss i = none := by
  unfold pickS; rw [h]; simp [hp]
theorem filt_strs {p : Str → Bool} {vs : List Value} {ss : List Str} (h : StrsAre vs ss) : StrsAre ((List.range vs.length).filterMap (pickS p vs ss)) (ss.filter p) := by
  induction h with
  | nil => exact .nil
  | @cons y t vs ss h ih =>
    rw [List.length_cons, range_fm']
    have e : pickS p (Value.str y t :: vs) (y :: ss) ∘ Nat.succ = pickS p vs ss := by
      funext i; simp [pickS]
    rw [e]
    by_cases hp : p y = true
    · rw [pickS_yes (y := y) (v := .str y t) rfl rfl hp, List.filter_cons_of_pos hp]
      exact .cons _ _ ih
    · rw [pickS_no (y := y) rfl (by simpa using hp), List.filter_cons_of_neg hp]
      exact ih
end
example : Zz 0 := by (try walk1); exact trivial
local macro_rules | `(tactic| walk_at "eval ListComp") => `(tactic| (k_here; (with_reducible refine' gL1 ?_); k_dflt (refine LCt.ListComp_T (F₀ := by k_asm) (by with_unfolding_all rfl) (by decide) (by rfl) (by decide) (by rfl) ?_)))
local macro_rules | `(tactic| walk_at "exec Assign cons ListComp") => `(tactic| (k_here; (with_reducible refine' gM1 ?_); k_dflt (refine LCt.Assign_ListComp_T (F₀ := by k_asm) (by rfl) (by with_unfolding_all rfl) (by with_unfolding_all rfl) (by decide) (by rfl) (by decide) (by rfl) (by rfl) (by rfl) ?_)))
local macro_rules | `(tactic| walk_at "subscriptTail") => `(tactic| (k_here; k_dflt ((with_reducible refine' bd_tailS ?_ ?_ ?_ ?_ ?_); rotate_left 5; k_asm; k_mem; k_asm; k_asm; k_whole)))
section
example : Zz 0 := by (try walk1); exact trivial
local macro_rules | `(tactic| walk_at "call builtin:sorted") => `(tactic| (k_here; k_dflt (refine' sorted_strDict ?_ ?_ ?_ ?_ ?_ ?_ ?_; rotate_left 5; (exact rfl); k_asm; k_asm; (exact kda_dict (by k_asm) (by k_mem) (by k_asm)); k_asm; (rw [boolsOf_length]; omega); walk_at "mine lt")))
theorem getB_mem {D : BD} {x : Str} (h : x ∈ D.map (·.1)) : (getB D x).isSome = true := by
  obtain ⟨p, hp, e⟩ := List.mem_map.mp h
  unfold getB
  cases hf : D.find? (fun p => p.1 = x) with
  | none => exact absurd e (by simpa using List.find?_eq_none.mp hf p hp)
  | some q => rfl
set_option maxHeartbeats 8000000 in
theorem on_spec {w : World} {pgm : Program} {loo : List Str} {mean : ExcName → Option Value} {mg mb : Str → Option Value} {M dM S Kp : Addr} {h1 h2 : Int} {t1 t2 : Tok} {n : Nat} {oS : Obj} {D : BD} (hS : BoolDict w oS D) (hlo : (S == sysModules) = false) (hn1 : @Ne Nat M dM) (hn2 : @Ne Nat M S) (hn3 : @Ne Nat dM S) (hz : D.length ≤ 60) :
    Spec w pgm loo mean mg mb (.ref 123) 840 8600 [.ref M] [(M, instObj 86 dM), (dM, modesD h1 t1 S h2 t2 Kp n), (S, oS)] (fun r foot' => ∃ l vs c ss, r = .ref l ∧ foot' = (l, W.listOf vs.toArray c) :: [(M, instObj 86 dM), (dM, modesD h1 t1 S h2 t2 Kp n), (S, oS)] ∧ StrsAre vs (ss.filter (onB D)) ∧ ss.Perm (D.map (·.1)) ∧ sortedS ss = true) := by
  (k_dflt (refine' spec_ofC (binds := [(Str.ofString "modes", .ref M)]) ?k6 ?k7 ?k8 ?k9 ?kB ?kD ?_ ?c2 ?c3 ?c4; (case k6 => k_is); (case k7 => k_is); (case k8 => decide); (case k9 => exact fun s X => BindsTo.of_eq rfl); (case kB => exact rfl); (case kD => decide +kernel); (case c2 => exact rfl); (case c3 => exact rfl); (case c4 => exact rfl); k_whole); intro ev A₀ base g' L' h₁ s tk₁ cells' hdp hun B' F' N' Y' X' T' hlt QL hL; (obtain ⟨cellA, cellB⟩ := cells_ap hlt; dsimp only [List.map] at cellA cellB); (replace hlt := allLt_of hlt; simp only [AllLt, and_true] at hlt); k_cells Y'; (try simp only [List.cons_append, List.nil_append] at N'); (try dsimp only))
  k_steps
  all_goals (try dsimp only)
  rename StrsAre _ _ => hI9
  rename List.Perm _ _ => hp9
  rename sortedS _ = true => ho9
  rename_i B9 vs9 ss9 c9 h9 tk9 F9 N9 l9
  rw [boolsOf_keys] at hp9
  have hl9 : vs9.length = ss9.length := strs_length hI9
  have hz9 : ss9.length ≤ 60 := by rw [hp9.length_eq, List.length_map]; exact hz
  refine LCt.CompSrcT.ledger rfl F9 N9 (.head _) (by rw [List.size_toArray]; rw [sizeLine_eq]; omega) ?_
  intro g9
  refine fm_rest (pickS (onB D) vs9 ss9) ?_ ?_
  · intro i v I oI C oC Dl m₂ ys h tk E' hi hv hC hx F1 N1 off ne
    obtain ⟨y, t, hy, rfl⟩ := strs_at hI9 i v (by simpa using hv)
    have hm : y ∈ D.map (·.1) := hp9.mem_iff.mp (List.mem_of_getElem? hy)
    have hb := getB_mem hm
    k_steps
    all_goals (try dsimp only)
    · (refine' LCg.CompEnd.intro ?cF1 ?cN1 _ ?cs1 off ?cS1 ⟨rfl, ?cR1⟩; (case cF1 => k_asm); (case cN1 => k_asm); (case cs1 => exact fun p hp => hp); (case cS1 => exact Or.inr ⟨_, .head _, rfl, _, rfl⟩); (case cR1 => exact pickS_yes hy (by simpa using hv) (by assumption)))
    · (refine' LCg.CompEnd.intro ?cF2 ?cN2 _ ?cs2 off ?cS2 ⟨rfl, ?cR2⟩; (case cF2 => k_asm); (case cN2 => k_asm); (case cs2 => exact fun p hp => hp); (case cS2 => exact Or.inr ⟨_, .head _, rfl, _, rfl⟩); (case cR2 => exact pickS_no hy (by assumption)))
  · k_steps
    all_goals (try dsimp only)
    (refine' hL.leave (foot' := (_, LCg.lst _) :: [(M, instObj 86 dM), (dM, modesD h1 t1 S h2 t2 Kp n), (S, oS)]) ?lvF3 ?lvN3 ?lvs3 ?_; (case lvF3 => k_asm); (case lvN3 => k_asm); (case lvs3 => exact (by (repeat (first | exact sub_nil | (refine' sub_cons ?sa ?_; (case sa => k_mem)))))))
    exact ⟨_, _, _, _, rfl, rfl, by rw [List.size_toArray]; exact filt_strs hI9, hp9, ho9⟩
theorem onV {w : World} {pgm : Program} {loo : List Str} {mean : ExcName → Option Value} {mg mb : Str → Option Value} {M dM S Kp : Addr} {h1 h2 : Int} {t1 t2 : Tok} {n : Nat} {oS : Obj} {D : BD} {dp un : Nat} {gd : Option (List Code)} {cn : Str} {cs : Scope} {za : Addr} {ccd : Value} {cl : List (Str × Addr)} {outer : List Env} {A₀ : Around} {base h₀ : Heap} {zL : Addr} {zm : Str → Option Value} {zn zr : Led} {zs : Shared} {zQ zE : Value → Shared → Prop} (zS : Site w pgm loo mean mg mb 840 8600 dp un cs outer A₀ base h₀ zL zs.heap zm zn ∧ Picks [(M, instObj 86 dM), (dM, modesD h1 t1 S h2 t2 Kp n), (S, oS)] zn zr ∧ Apart [(M, instObj 86 dM), (dM, modesD h1 t1 S h2 t2 Kp n), (S, oS)] zr) (hS : BoolDict w oS D) (hlo : (S == sysModules) = false) (hn1 : @Ne Nat M dM) (hn2 : @Ne Nat M S) (hn3 : @Ne Nat dM S) (hz : D.length ≤ 60)
    (zh : ∀ h9 tk9, Fr h₀ zL h9 zm → ∀ l vs c ss, StrsAre vs (ss.filter (onB D)) → ss.Perm (D.map (·.1)) → sortedS ss = true → News h₀ zL h9 ((l, W.listOf vs.toArray c) :: (M, instObj 86 dM) :: (dM, modesD h1 t1 S h2 t2 Kp n) :: (S, oS) :: zr) → AP1 l (zr.map (·.1)) → zQ (.ref l) { zs with heap := h9, toks := tk9 }) :
    wpAny (model PySem.Challenge.rw_og0244_01.row.prog w) (ktrTop dp un gd cn cs zL za ccd cl outer) (call (.ref 123) [.ref M]) zQ zE zs :=
  on_spec hS hlo hn1 hn2 hn3 hz _ _ _ _ _ _ _ _ _ _ _ _ _ _ _ _ _ _ _ zS.1.B zS.1.F zS.1.X zS.1.T zS.1.k zS.1.d zS.1.u zS.1.N zS.2.1 zS.2.2 fun r foot h9 tk9 hp F9 N9 ap => by
    obtain ⟨l, vs, c, ss, rfl, rfl, y0, y1, y2⟩ := hp
    exact zh h9 tk9 F9 l vs c ss y0 y1 y2 N9 (AP1.of ap)
end
section
section
variable {w : World} {A : Around} {E : Value → Shared → Prop} {s : Shared} {a b : Addr} {vs us : List Value} {ss ts : List Str} {Q : Value → Shared → Prop}
theorem eq_strs (ha : s.heap.IsList a vs.toArray) (hb : s.heap.IsList b us.toArray) (hS : StrsAre vs ss) (hT : StrsAre us ts) (hu : A.units < cLine) (h : Q (.bool (decide (ss = ts))) s) :
    wpAny (model PySem.Challenge.rw_og0244_01.row.prog w) A (compareOp .Eq (.ref a) (.ref b)) Q E s := by
  have l1 := strs_length hS
  have l2 := strs_length hT
  by_cases hl : vs.length = us.length
  · refine PySem.SeqAt.eq_listAt (e := fun j => ss[j]? == ts[j]?) ha hb (by simpa using hl) hu (fun j h1 h2 => ?_) ?_
    · obtain ⟨y, t, hy, e1⟩ := strs_at hS j vs.toArray[j] (by simp at h1; simp [h1])
      obtain ⟨z, u, hz, e2⟩ := strs_at hT j us.toArray[j] (by simp at h2; simp [h2])
      rw [e1, e2, hy, hz]
      have := PySem.SeqAt.EqAt.str_str (A := A.in1) (s := s) y t z u
      exact this
    · have e : ((List.range vs.toArray.size).all fun j => ss[j]? == ts[j]?) = decide (ss = ts) := by
        rw [Bool.eq_iff_iff, List.all_eq_true, decide_eq_true_eq]
        constructor
        · intro h
          apply List.ext_getElem?
          intro j
          rcases Nat.lt_or_ge j vs.length with hj | hj
          · exact beq_iff_eq.mp (h j (List.mem_range.mpr (by simpa using hj)))
          · rw [List.getElem?_eq_none (by omega), List.getElem?_eq_none (by omega)]
        · rintro rfl j _
          exact beq_self_eq_true _
      rw [e]; exact h
  · refine PySem.SeqAt.eq_list_lengthsAt ha hb (by simpa using hl) hu ?_
    have e : decide (ss = ts) = false := decide_eq_false fun e => hl (by rw [l1, l2, e])
    rw [e] at h; exact h
theorem ne_same {va vb : Value} {d : PyData} {as bs : List Addr} (ra : Reads s.heap va d as) (rb : Reads s.heap vb d bs) (hd : PySem.SeqAt.shaped d = true) (hu : A.units + 64 < cLine) (h : Q (.bool false) s) :
    wpAny (model PySem.Challenge.rw_og0244_01.row.prog w) A (compareOp .NotEq va vb) Q E s :=
  ne_dataH ra rb hd hd hu (by rw [PySem.SeqAt.eqv_refl d (PySem.SeqAt.canLay_of_shaped hd)]; exact h)
theorem isList_led {h₀ h : Heap} {L : Addr} {news : Led} {a : Addr} {vs : List Value} {c : Nat} (N : News h₀ L h news) (hm : (a, W.listOf vs.toArray c) ∈ news) : h.IsList a vs.toArray := ⟨_, (N _ hm).1, rfl, c, rfl⟩
theorem isList_led' {h₀ h : Heap} {L : Addr} {news : Led} {a : Addr} {vs : List Value} (N : News h₀ L h news) (hm : (a, LCg.lst vs) ∈ news) : h.IsList a vs.toArray := ⟨_, (N _ hm).1, rfl, _, rfl⟩
end
end
example : Zz 0 := by (try walk1); exact trivial
local macro_rules | `(tactic| walk_at "call ref") => `(tactic| (k_here; focus (k_dflt (refine' onV ?_ ?_ ?_ ?_ ?_ ?_ ?_ ?_; rotate_left 21; walk_at "mine site"; k_asm; k_asm; k_ne; k_ne; k_ne; walk_at "mine le"; walk_at "mine afterV"))))
section
example : Zz 0 := by (try walk1); exact trivial
local macro_rules | `(tactic| walk_at "compareOp Eq ref ref") => `(tactic| (k_here; k_dflt (refine' eq_strs ?_ ?_ ?_ ?_ ?_ ?_; rotate_left 4; (exact isList_led (by k_asm) (by k_mem)); (exact isList_led (by k_asm) (by k_mem)); k_asm; k_asm; ((show _ < 9900); (try simp only [units_in1]); (try dsimp only [kt, ktC, ktrTop]); omega); k_whole)))
set_option maxHeartbeats 8000000 in
theorem same_spec {w : World} {pgm : Program} {loo : List Str} {mean : ExcName → Option Value} {mg mb : Str → Option Value} {M dM S Kp M' dM' S' Kp' : Addr} {h1 h2 h1' h2' : Int} {t1 t2 t1' t2' : Tok} {n n' : Nat} {oS oS' : Obj} {D D' : BD} (hS : BoolDict w oS D) (hlo : (S == sysModules) = false) (hS' : BoolDict w oS' D') (hlo' : (S' == sysModules) = false) (hn1 : @Ne Nat M dM) (hn2 : @Ne Nat M S) (hn3 : @Ne Nat dM S) (hn1' : @Ne Nat M' dM') (hn2' : @Ne Nat M' S') (hn3' : @Ne Nat dM' S')
    (hx1 : AP1 M [M', dM', S']) (hx2 : AP1 dM [M', dM', S']) (hx3 : AP1 S [M', dM', S']) (hz : D.length ≤ 60) (hz' : D'.length ≤ 60) :
    Spec w pgm loo mean mg mb (.ref 130) 830 8500 [.ref M, .ref M'] [(M, instObj 86 dM), (dM, modesD h1 t1 S h2 t2 Kp n), (S, oS), (M', instObj 86 dM'), (dM', modesD h1' t1' S' h2' t2' Kp' n'), (S', oS')] (fun r foot' => ∃ ss ss', r = .bool (decide (ss.filter (onB D) = ss'.filter (onB D'))) ∧ foot' = [(M, instObj 86 dM), (dM, modesD h1 t1 S h2 t2 Kp n), (S, oS), (M', instObj 86 dM'), (dM', modesD h1' t1' S' h2' t2' Kp' n'), (S', oS')] ∧ ss.Perm (D.map (·.1)) ∧ sortedS ss = true ∧ ss'.Perm (D'.map (·.1)) ∧ sortedS ss' = true) := by
  (k_dflt (refine' spec_of (binds := [(Str.ofString "one", .ref M), (Str.ofString "other", .ref M')]) ?k6 ?k7 ?k8 ?k9 ?kB ?_ ?c2 ?c3 ?c4 ?c5; (case k6 => k_is); (case k7 => k_is); (case k8 => decide); (case k9 => exact fun s X => BindsTo.of_eq rfl); (case c5 => decide); (case kB => exact locs rfl); (case c2 => exact rfl); (case c3 => exact rfl); (case c4 => exact rfl); k_whole); intro ev A₀ base g' L' h₁ s tk₁ hdp hun B' F' N' X' T' hlt QL hL; k_lt hlt; (replace F' := binds_fr F'); (try dsimp only [BindsMap] at F'))
  k_steps
  all_goals (try dsimp only)
  (refine' hL.leave (foot' := [(M, instObj 86 dM), (dM, modesD h1 t1 S h2 t2 Kp n), (S, oS), (M', instObj 86 dM'), (dM', modesD h1' t1' S' h2' t2' Kp' n'), (S', oS')]) ?lvF4 ?lvN4 ?lvs4 ?_; (case lvF4 => k_asm); (case lvN4 => k_asm); (case lvs4 => exact (by (repeat (first | exact sub_nil | (refine' sub_cons ?sa ?_; (case sa => k_mem)))))))
  exact ⟨_, _, rfl, rfl, by assumption, by assumption, by assumption, by assumption⟩
end
section
section
variable {w : World} {A : Around} {s : Shared} {env : Env} {h₀ : Heap} {x : Str} {body : List Stmt} {Q : Flow → Shared → Prop} {E : Value → Shared → Prop}
def firstD : BD := firstOn.foldl (fun D y => putB D y true) []
theorem fold_len (l : List Str) (D : BD) : (l.foldl (fun D y => putB D y true) D).length ≤ D.length + l.length := by
  induction l generalizing D with
  | nil => simp
  | cons a l ih => have := ih (putB D a true); have := putB_length D a true; simp only [List.foldl_cons, List.length_cons]; omega
theorem ForSrc.first {d0 d1 : Addr} {o0 o1 : Obj} {tail : Led} {m₀ : Str → Option Value} (hh : A.handled = none) (X : (pre.heap_1 w.params).In h₀) (F : Fr h₀ env.locals s.heap m₀) (N : News h₀ env.locals s.heap ((d0, o0) :: (d1, o1) :: tail))
    (hd1 : o1.IsDictOf (strKind PySem.Challenge.rw_og0244_01.row.prog w) [])
    (turn : ∀ y t D o' h tk I oI, BoolDict w o' D → D.length ≤ 5 → OffAll I ((d0, o0) :: (d1, o') :: tail) → Fr h₀ env.locals h (fun z => if z = x then some (.str y t) else m₀ z) → News h₀ env.locals h (((d0, o0) :: (d1, o') :: tail) ++ [(I, oI)]) →
      ∀ QT : Flow → Shared → Prop, (∀ fl s', TurnPost h₀ env.locals (fun m nx => (∀ y, y ≠ x → m y = m₀ y) ∧ ∃ o'', nx = (d0, o0) :: (d1, o'') :: tail ∧ BoolDict w o'' (putB D y true)) [(I, oI)] { s with heap := h, toks := tk } Q fl s' → QT fl s') → wpAny (model PySem.Challenge.rw_og0244_01.row.prog w) A (execs body env) QT E { s with heap := h, toks := tk })
    (done : ∀ u o' h tk, BoolDict w o' firstD → Fr h₀ env.locals h (fun y => if y = x then u else m₀ y) → News h₀ env.locals h ((d0, o0) :: (d1, o') :: tail) → Q .next { s with heap := h, toks := tk }) :
    ForSrc w A h₀ env x body Q E (.ref 25) s := by
  obtain ⟨oT, vs, hg, hso, hSt⟩ := firstOn_at X
  refine ForSrc.base (vs := vs) (fun i nx => ∃ o', nx = (d0, o0) :: (d1, o') :: tail ∧ BoolDict w o' ((firstOn.take i).foldl (fun D y => putB D y true) [])) hh hg hso F N ⟨o1, rfl, hd1⟩ ?_ ?_
  · rintro i v nx h tk I oI hv ⟨o', rfl, hb⟩ ho F1 N1
    obtain ⟨y, t, hy, rfl⟩ := strs_at hSt i v hv
    have hl : ((firstOn.take i).foldl (fun D y => putB D y true) []).length ≤ 5 := by
      have := fold_len (firstOn.take i) []
      have h5 : firstOn.length = 5 := rfl
      simp only [List.length_nil, List.length_take] at this
      omega
    have e : (firstOn.take (i + 1)).foldl (fun D y => putB D y true) [] = putB ((firstOn.take i).foldl (fun D y => putB D y true) []) y true := by
      rw [List.take_add_one, hy, List.foldl_append]; rfl
    rw [e]
    exact turn y t _ o' h tk I oI hb hl ho F1 N1
  · rintro u nx h tk ⟨o', rfl, hb⟩ F1 N1
    rw [strs_length hSt, List.take_length] at hb
    exact done u o' h tk hb F1 N1
end
section
variable {w : World} {A : Around} {E : Value → Shared → Prop} {s : Shared} {h₀ : Heap} {L d : Addr} {m : Str → Option Value} {news : Led} {o : Obj} {D : BD} {Q : Value → Shared → Prop}
theorem bd_copy (F : Fr h₀ L s.heap m) (N : News h₀ L s.heap news) (hbig : h₀.NoLimit) (hp : (d, o) ∈ news) (hd : BoolDict w o D) (lo : (d == sysModules) = false) (hz : D.length ≤ 60)
    (k : ∀ e h' o', Fr h₀ L h' m → News h₀ L h' ((e, o') :: news) → (∀ p ∈ news, p.1 < e) → (e == sysModules) = false → BoolDict w o' D → Q (.ref e) { s with heap := h' }) :
    wpAny (model PySem.Challenge.rw_og0244_01.row.prog w) A (call (.type "dict") [.ref d]) Q E s := by
  refine kt_call_dict (knd := strKind _ _) (more := boolsOf D) lo (kda_dict N hp hd) (by rw [boolsOf_length, sizeLine_eq]; omega) fun h' hm hs => ?_
  obtain ⟨o', ho', hd'⟩ := Heap.dictOf_iff.mp hm
  have N1 := News.push F N { cls := .type "dict", data := .dict #[] }
  exact k _ h' o' ((F.push _).change hs (N1 _ (.head _)).2.1 (N1.fresh (.head _))) (N1.setHead N.apart hs ho') (fun p hp => Heap.lt_size (N p hp).1) (F.notModules (modules_low hbig)) hd'
end
end
section
example : Zz 0 := by (try walk1); exact trivial
local macro_rules | `(tactic| walk_at "exec For Name Name cons nil") => `(tactic| walk_at "mine for")
local macro_rules | `(tactic| walk_at "exec For Name Call cons nil") => `(tactic| walk_at "mine for")
local macro_rules | `(tactic| walk_at "exec For Name Tuple cons nil") => `(tactic| walk_at "mine for")
local macro_rules | `(tactic| walk_at "call type:dict") => `(tactic| (k_here; k_dflt (refine' bd_copy ?_ ?_ ?_ ?_ ?_ ?_ ?_ ?_; rotate_left 6; k_asm; k_asm; (exact Top.nolimit (by k_asm)); k_mem; k_asm; k_asm; walk_at "mine le"; walk_at "mine lt")))
local macro_rules | `(tactic| k_lt $h) => `(tactic| km_mul $h)
set_option maxHeartbeats 8000000 in
theorem copy_ap {w : World} {pgm : Program} {loo : List Str} {mean : ExcName → Option Value} {mg mb : Str → Option Value} {M dM S Kp : Addr} {h1 h2 : Int} {t1 t2 : Tok} {n : Nat} {oS : Obj} {D : BD} {oK : Obj} {K : BD} (hS : BoolDict w oS D) (hlo : (S == sysModules) = false) (hn1 : @Ne Nat M dM) (hn2 : @Ne Nat M S) (hn3 : @Ne Nat dM S) (hK : BoolDict w oK K) (hlk : (Kp == sysModules) = false) (hn4 : @Ne Nat M Kp) (hn5 : @Ne Nat dM Kp) (hn6 : @Ne Nat S Kp) (hz : D.length ≤ 60) (hzk : K.length ≤ 60) :
    Spec w pgm loo mean mg mb (.ref 137) 840 8600 [.ref M] [(M, instObj 86 dM), (dM, modesD h1 t1 S h2 t2 Kp n), (S, oS), (Kp, oK)] (fun r foot' => ∀ R : Prop, (∀ (M' dM' S' Kp' : Addr) (h1' : Int) (t1' : Tok) (h2' : Int) (t2' : Tok) (n' : Nat) (oS' oK' : Obj), r = .ref M' → foot' = (M', instObj 86 dM') :: (dM', modesD h1' t1' S' h2' t2' Kp' n') :: (S', oS') :: (Kp', oK') :: [(M, instObj 86 dM), (dM, modesD h1 t1 S h2 t2 Kp n), (S, oS), (Kp, oK)] → BoolDict w oS' D → BoolDict w oK' K → (S' == sysModules) = false → (Kp' == sysModules) = false →
      AP1 M' [dM', S', Kp', M, dM, S, Kp] → AP1 dM' [S', Kp', M, dM, S, Kp] → AP1 S' [Kp', M, dM, S, Kp] → AP1 Kp' [M, dM, S, Kp] → R) → R) := by
  (k_dflt (refine' spec_of (binds := [(Str.ofString "modes", .ref M)]) ?k6 ?k7 ?k8 ?k9 ?kB ?_ ?c2 ?c3 ?c4 ?c5; (case k6 => k_is); (case k7 => k_is); (case k8 => decide); (case k9 => exact fun s X => BindsTo.of_eq rfl); (case c5 => decide); (case kB => exact locs rfl); (case c2 => exact rfl); (case c3 => exact rfl); (case c4 => exact rfl); k_whole); intro ev A₀ base g' L' h₁ s tk₁ hdp hun B' F' N' X' T' hlt QL hL; k_lt hlt; (replace F' := binds_fr F'); (try dsimp only [BindsMap] at F'))
  k_steps
  all_goals (try dsimp only)
  (k_dflt (refine' ForSrc.first ?hh ?X ?F ?N ?D ?_ ?_; (case hh => exact rfl); (case X => k_asm); (case F => k_asm); (case N => k_asm); (case D => assumption); k_whole))
  · intro y t D9 o9 h9 tk9 I9 oI9 hD9 hz9 ho9 F9 N9 QT hT
    replace ho9 := OffAll.ap ho9
    dsimp only [List.map] at ho9
    simp only [List.cons_append, List.nil_append] at N9
    k_steps
    all_goals (try dsimp only)
    (k_dflt (refine' hT _ _ <| TurnEnd.base _ ?teF ?teN ?tes ?teI ?teo ?tem ⟨_, rfl, ?teD⟩; (case teF => k_asm); (case teN => k_asm); (case tes => exact (by (repeat (first | exact sub_nil | (refine' sub_cons ?sa ?_; (case sa => k_mem)))))); (case teI => k_mem); (case teo => k_all); (case tem => exact fun y hy => if_neg hy); (case teD => assumption)))
  · intro u o9 h9 tk9 hD9 F9 N9
    k_steps
    all_goals (try dsimp only)
    (refine' hL.leave (foot' := (_, instObj 86 ?sM) :: (?sM, modesD _ _ ?sS _ _ ?sK _) :: (?sS, _) :: (?sK, _) :: [(M, instObj 86 dM), (dM, modesD h1 t1 S h2 t2 Kp n), (S, oS), (Kp, oK)]) ?lvF5 ?lvN5 ?lvs5 ?_; (case lvF5 => k_asm); (case lvN5 => k_asm); (case lvs5 => exact (by (repeat (first | exact sub_nil | (refine' sub_cons ?sa ?_; (case sa => k_mem)))))))
    refine fun _ k => k _ _ _ _ _ _ _ _ _ _ _ rfl rfl (by assumption) (by assumption) (by assumption) (by assumption) ?_ ?_ ?_ ?_ <;> walk_at "mine kap"
end
section
open PyProof.V in
theorem lit_of_flat : ∀ {D : List (Int × Str)} {kvs : List (Int × Value)}, FlatPairs PyData.int kvs ((D.map fun p => (p.1, PyData.str p.2)).map fun p => (PyData.int p.1, p.2)) → LitKvs kvs D
  | [], _, h => by cases h; exact .nil
  | (k, x) :: D, _, h => by
    cases h with
    | cons hf h =>
      obtain ⟨t, rfl⟩ := hf.str_inv
      exact .cons _ _ _ (lit_of_flat h)
def LitAt (w : World) (h : Heap) (a : Addr) (D : List (Int × Str)) : Prop := (a == sysModules) = false ∧ ∃ kvs, h.DictOf (intKind PySem.Challenge.rw_og0244_01.row.prog w) a kvs ∧ LitKvs kvs D
theorem LitAt.of {w : World} {h : Heap} {a : Addr} {D : List (Int × Str)} (T : KTD.Keyed h a (D.map fun p => (p.1, PyData.str p.2))) : LitAt w h a D := by
  obtain ⟨lo, kvs, hd, hf⟩ := T PySem.Challenge.rw_og0244_01.row.prog w
  exact ⟨lo, kvs, hd, lit_of_flat hf⟩
theorem LitAt.keeps {w : World} {h h' : Heap} {a : Addr} {D : List (Int × Str)} (x : LitAt w h a D) (k : ∀ b o, h.get? b = some o → h'.get? b = some o) : LitAt w h' a D := by
  obtain ⟨lo, kvs, hd, hl⟩ := x
  obtain ⟨o, e, r⟩ := Heap.dictOf_iff.mp hd
  exact ⟨lo, kvs, Heap.dictOf_iff.mpr ⟨o, k _ _ e, r⟩, hl⟩
theorem priv_at {w : World} {h : Heap} (X : (pre.heap_1 w.params).In h) : LitAt w h 233 privTab := by
  k_dflt (exact LitAt.of (kt_keyed_in X (by kernel_rfl)))
theorem plain_at {w : World} {h : Heap} (X : (pre.heap_1 w.params).In h) : LitAt w h 232 plainTab := by
  k_dflt (exact LitAt.of (kt_keyed_in X (by kernel_rfl)))
section
variable {w : World} {A : Around} {E : Value → Shared → Prop} {s : Shared} {h₀ : Heap} {L a : Addr} {m : Str → Option Value} {news : Led} {D : List (Int × Str)} {k : Int} {t : Tok} {x : Str} {Q : Value → Shared → Prop}
theorem litK_method {pl : Sem Bool} {Q : Value × List Value → Shared → Prop} (F : Fr h₀ L s.heap m) (hA : LitAt w h₀ a D) (h : Q (.builtin "dict.get", [.ref a]) s) : wpAny (model PySem.Challenge.rw_og0244_01.row.prog w) A (getMethod (.ref a) "get" pl) Q E s := by
  obtain ⟨lo, kvs, hD, hl⟩ := hA.keeps F.keep
  exact getMethod_builtin hD.typeIs PySem.F.plainAttrs_dict PySem.F.slot_dict_get PySem.F.type_dict_get hD.mapOf.noDict h
theorem litK_get1 (F : Fr h₀ L s.heap m) (hA : LitAt w h₀ a D) (h1 : D.lookup k = none → Q .none { s with toks := s.toks + 1 }) (h2 : ∀ x t, D.lookup k = some x → Q (.str x t) { s with toks := s.toks + 1 }) :
    wpAny (model PySem.Challenge.rw_og0244_01.row.prog w) A (call (.builtin "dict.get") [.ref a, .int k t]) Q E s := by
  obtain ⟨lo, kvs, hD, hl⟩ := hA.keeps F.keep
  refine call_meetsIn PySem.F.slot_dict_get hD.typeIs PySem.F.entry_dict_get (PySem.F.args_dict_get_2 _ _) (meets_dict_get (intKind _ _) a (intKind_is _ _ k t) lo) ⟨_, hD.mapOf, ?_⟩
  rcases hl.valueAt k with ⟨a, b⟩ | ⟨x, t, a, b⟩
  · rw [b]; exact h1 a
  · rw [b]; exact h2 x t a
theorem litK_get2 {z : Str} {tz : Tok} (F : Fr h₀ L s.heap m) (hA : LitAt w h₀ a D) (h : ∀ t', Q (.str ((D.lookup k).getD z) t') { s with toks := s.toks + 1 }) :
    wpAny (model PySem.Challenge.rw_og0244_01.row.prog w) A (call (.builtin "dict.get") [.ref a, .int k t, .str z tz]) Q E s := by
  obtain ⟨lo, kvs, hD, hl⟩ := hA.keeps F.keep
  refine call_meetsIn PySem.F.slot_dict_get hD.typeIs PySem.F.entry_dict_get (PySem.F.args_dict_get_3 _ _ _) (meets_dict_get_default (intKind _ _) a (intKind_is _ _ k t) lo _) ⟨_, hD.mapOf, ?_⟩
  rcases hl.valueAt k with ⟨a, b⟩ | ⟨x, t, a, b⟩
  · rw [b]; rw [a] at h; exact h tz
  · rw [b]; rw [a] at h; exact h t
theorem litK_in (F : Fr h₀ L s.heap m) (hA : LitAt w h₀ a D) (h : Q (.bool (D.lookup k).isSome) { s with toks := s.toks + 1 }) : wpAny (model PySem.Challenge.rw_og0244_01.row.prog w) A (compareOp .In (.int k t) (.ref a)) Q E s := by
  obtain ⟨lo, kvs, hD, hl⟩ := hA.keeps F.keep
  refine wpAny_in_of (knd := intKind _ _) (intKind_is _ _ k t) lo hD.mapOf ?_
  rcases hl.valueAt k with ⟨a, b⟩ | ⟨x, t, a, b⟩
  · rw [b]; rw [a] at h; exact h
  · rw [b]; rw [a] at h; exact h
theorem litK_item {value slice : PySem.Expr} (F : Fr h₀ L s.heap m) (hA : LitAt w h₀ a D) (hb : (D.lookup k).isSome = true) (h : ∀ t', Q (.str ((D.lookup k).getD default) t') { s with toks := s.toks + 1 })
    (hs : subscripted slice false (.ref a) (.int k t) = operate [.ref a, .int k t] (getItem (.ref a) (.int k t)) := by with_unfolding_all rfl) (hg : ∀ r, letTemporaryGo value (.ref a) r = pure () := by intro _; with_unfolding_all rfl) :
    wpAny (model PySem.Challenge.rw_og0244_01.row.prog w) A (subscriptTail value slice (.ref a) (.int k t)) Q E s := by
  obtain ⟨lo, kvs, hD, hl⟩ := hA.keeps F.keep
  rcases hl.valueAt k with ⟨a, _⟩ | ⟨y, t', a, b⟩
  · rw [a] at hb; cases hb
  · rw [a] at h
    exact subscriptTail_builtin hD.typeIs slot_dict_getitem.lookup (wpAny_getItem_of (knd := intKind _ _) (intKind_is _ _ k t) hD.mapOf b (h t')) hs hg
theorem litK_sorted (hh : A.handled = none) (F : Fr h₀ L s.heap m) (N : News h₀ L s.heap news) (hA : LitAt w h₀ a D) (hz : D.length < 64)
    (h : ∀ B vs' ns' c h' tk, Fr h₀ L h' m → News h₀ L h' ((B, W.listOf vs'.toArray c) :: news) → (∀ q ∈ news, q.1 < B) → IntsAre vs' ns' → ns'.Perm (D.map (·.1)) → ns'.Pairwise (· ≤ ·) → Q (.ref B) { s with heap := h', toks := tk }) :
    wpAny (model PySem.Challenge.rw_og0244_01.row.prog w) A (call (.builtin "sorted") [.ref a]) Q E s := by
  obtain ⟨lo, kvs, hD, hl⟩ := hA.keeps F.keep
  refine sorted_intDict hh F N hD lo (by rw [hl.length]; exact hz) fun B vs' ns' c h' tk F' N' l1 a1 a2 a3 => ?_
  rw [hl.keys] at a2
  exact h B vs' ns' c h' tk F' N' l1 a1 a2 a3
theorem litK_len (n : Int) (F : Fr h₀ L s.heap m) (hA : LitAt w h₀ a D) (hn : (D.length : Int) = n) (hz : D.length ≤ 1000) (h : ∀ t, Q (.int n t) { s with toks := s.toks + 1 + 1 }) : wpAny (model PySem.Challenge.rw_og0244_01.row.prog w) A (call (.builtin "len") [.ref a]) Q E s := by
  obtain ⟨lo, kvs, hD, hl⟩ := hA.keeps F.keep
  refine call_len_dict lo hD (by rw [hl.length]; omega) ?_
  rw [hl.length, hn]
  exact h _
theorem list_perm_at {value slice : PySem.Expr} {vs : List Value} {ns ks : List Int} {c : Nat} {i : Int} (N : News h₀ L s.heap news) (hm : (a, W.listOf vs.toArray c) ∈ news) (hI : IntsAre vs ns) (hp : ns.Perm ks) (h0 : 0 ≤ i) (h1 : i < ks.length) (hz : ks.length ≤ 1000) (h : ∀ k t, k ∈ ks → Q (.int k t) s)
    (hs : subscripted slice false (.ref a) (.int i t) = operate [.ref a, .int i t] (getItem (.ref a) (.int i t)) := by with_unfolding_all rfl) (hg : ∀ r, letTemporaryGo value (.ref a) r = pure () := by intro _; with_unfolding_all rfl) :
    wpAny (model PySem.Challenge.rw_og0244_01.row.prog w) A (subscriptTail value slice (.ref a) (.int i t)) Q E s := by
  have hl := isList_led N hm
  have e1 := ints_length hI
  have e2 := hp.length_eq
  have hi : i.toNat < vs.length := by omega
  obtain ⟨k, t', hk, hv⟩ := ints_at hI i.toNat vs[i.toNat] (List.getElem?_eq_getElem hi)
  refine subscriptTail_builtin hl.typeIs slot_list_getitem.lookup (wpAny_getItem_list (x := .int k t') hl h0 (by omega) ?_ (h k t' (hp.mem_iff.mp (List.mem_of_getElem? hk)))) hs hg
  rw [← hv]; simp [hi]
end
end
example : Zz 0 := by (try walk1); exact trivial
local macro_rules | `(tactic| walk_at "call ref") => `(tactic| (k_here; focus (k_dflt (refine' drawU ?_ ?_ _ _ ?_ ?_ ?_; rotate_left 14; rotate_left; k_asm; rotate_right; walk_at "mine site"; (first | decide | omega); (first | decide | omega); walk_at "mine after"))))
local macro_rules | `(tactic| walk_at "call builtin:sorted") => `(tactic| (k_here; k_dflt (refine' litK_sorted ?_ ?_ ?_ ?_ ?_ ?_; rotate_left 5; (exact rfl); k_asm; k_asm; k_asm; (decide +kernel); walk_at "mine lt")))
local macro_rules | `(tactic| walk_at "call builtin:dict.get") => `(tactic| (k_here; k_dflt (first | (refine' litK_get2 ?_ ?_ ?_; rotate_left 4; k_asm; k_asm; k_whole; intro t9) | (refine' litK_get1 ?_ ?_ ?_ ?_; rotate_left 4; k_asm; k_asm; k_whole; intros))))
local macro_rules | `(tactic| walk_at "getMethod ref") => `(tactic| (k_here; k_dflt ((with_reducible refine' litK_method ?_ ?_ ?_); rotate_left 4; k_asm; k_asm; k_whole)))
local macro_rules | `(tactic| walk_at "compareOp In int ref") => `(tactic| (k_here; k_dflt (refine' litK_in ?_ ?_ ?_; rotate_left 4; k_asm; k_asm; k_whole)))
local macro_rules | `(tactic| walk_at "subscriptTail") => `(tactic| (k_here; k_dflt ((with_reducible refine' litK_item ?_ ?_ ?_ ?_); rotate_left 4; k_asm; k_asm; k_asm; k_whole); intro t9))
section
example : Zz 0 := by (try walk1); exact trivial
local macro_rules | `(tactic| k_lt $h) => `(tactic| km_mul $h)
local macro_rules | `(tactic| walk_at "subscriptTail") => `(tactic| (k_here; k_dflt (refine' list_perm_at ?_ ?_ ?_ ?_ ?_ ?_ ?_ ?_; rotate_left 7; k_asm; k_mem; k_asm; k_asm; k_asm; (have e36 : (privTab.map (·.1)).length = 36 := rfl); omega; (decide +kernel); k_whole); intro k9 t9 hk9))
local macro_rules | `(tactic| walk_at "call builtin:len") => `(tactic| (k_here; k_dflt (refine' litK_len 36 ?_ ?_ ?_ ?_ ?_; rotate_left 4; k_asm; k_asm; (decide +kernel); (decide +kernel); k_whole); intro t9))
set_option maxHeartbeats 8000000 in
theorem number_spec {w : World} {pgm : Program} {loo : List Str} {mean : ExcName → Option Value} {mg mb : Str → Option Value} {d l : Addr} {oD oL : Obj} (hD : DeckIs w d l oD oL) :
    Spec w pgm loo mean mg mb (.ref 269) 890 8990 [.ref d] [(d, oD), (l, oL)] (fun r foot' => ∃ oD' oL' i t, r = .int i t ∧ foot' = [(d, oD'), (l, oL')] ∧ DeckIs w d l oD' oL') := by
  obtain ⟨hne0, lo0⟩ : @Ne Nat d l ∧ (d == sysModules) = false := by
    obtain ⟨vs, c, left, mx, tm, rfl, hd', hI', hb, hn, hx0, hx1, lo', hne⟩ := hD
    exact ⟨hne, lo'⟩
  (k_dflt (refine' spec_of (binds := [(Str.ofString "deck", .ref d)]) ?k6 ?k7 ?k8 ?k9 ?kB ?_ ?c2 ?c3 ?c4 ?c5; (case k6 => k_is); (case k7 => k_is); (case k8 => decide); (case k9 => exact fun s X => BindsTo.of_eq rfl); (case c5 => decide); (case kB => exact locs rfl); (case c2 => exact rfl); (case c3 => exact rfl); (case c4 => exact rfl); k_whole); intro ev A₀ base g' L' h₁ s tk₁ hdp hun B' F' N' X' T' hlt QL hL; k_lt hlt; (replace F' := binds_fr F'); (try dsimp only [BindsMap] at F'))
  have pv := priv_at (w := w) X'
  k_steps
  all_goals (try dsimp only)
  · (refine' hL.leave (foot' := [(d, _), (l, _)]) ?lvF6 ?lvN6 ?lvs6 ?_; (case lvF6 => k_asm); (case lvN6 => k_asm); (case lvs6 => exact (by (repeat (first | exact sub_nil | (refine' sub_cons ?sa ?_; (case sa => k_mem)))))))
    exact ⟨_, _, _, _, rfl, rfl, by assumption⟩
  · (refine' hL.leave (foot' := [(d, _), (l, _)]) ?lvF7 ?lvN7 ?lvs7 ?_; (case lvF7 => k_asm); (case lvN7 => k_asm); (case lvs7 => exact (by (repeat (first | exact sub_nil | (refine' sub_cons ?sa ?_; (case sa => k_mem)))))))
    exact ⟨_, _, _, _, rfl, rfl, by assumption⟩
  · (refine' hL.leave (foot' := [(d, _), (l, _)]) ?lvF8 ?lvN8 ?lvs8 ?_; (case lvF8 => k_asm); (case lvN8 => k_asm); (case lvs8 => exact (by (repeat (first | exact sub_nil | (refine' sub_cons ?sa ?_; (case sa => k_mem)))))))
    exact ⟨_, _, _, _, rfl, rfl, by assumption⟩
theorem numberU {w : World} {pgm : Program} {loo : List Str} {mean : ExcName → Option Value} {mg mb : Str → Option Value} {d l : Addr} {oD oL : Obj} {dp un : Nat} {gd : Option (List Code)} {cn : Str} {cs : Scope} {za : Addr} {ccd : Value} {cl : List (Str × Addr)} {outer : List Env} {A₀ : Around} {base h₀ : Heap} {zL : Addr} {zm : Str → Option Value} {zn zr : Led} {zs : Shared} {zQ zE : Value → Shared → Prop} (zS : Site w pgm loo mean mg mb 890 8990 dp un cs outer A₀ base h₀ zL zs.heap zm zn ∧ Picks [(d, oD), (l, oL)] zn zr ∧ Apart [(d, oD), (l, oL)] zr) (hD : DeckIs w d l oD oL)
    (zh : ∀ h9 tk9, Fr h₀ zL h9 zm → ∀ oD' oL' i t, DeckIs w d l oD' oL' → News h₀ zL h9 ((d, oD') :: (l, oL') :: zr) → zQ (.int i t) { zs with heap := h9, toks := tk9 }) :
    wpAny (model PySem.Challenge.rw_og0244_01.row.prog w) (ktrTop dp un gd cn cs zL za ccd cl outer) (call (.ref 269) [.ref d]) zQ zE zs :=
  number_spec hD _ _ _ _ _ _ _ _ _ _ _ _ _ _ _ _ _ _ _ zS.1.B zS.1.F zS.1.X zS.1.T zS.1.k zS.1.d zS.1.u zS.1.N zS.2.1 zS.2.2 fun r foot h9 tk9 hp F9 N9 ap => by
    obtain ⟨oD', oL', i, t, rfl, rfl, y0⟩ := hp
    exact zh h9 tk9 F9 oD' oL' i t y0 N9
end
section
section
variable {w : World} {A : Around} {E : Value → Shared → Prop} {s : Shared} {env : Env} {h₀ : Heap} {target : PySem.Expr} {body : List Stmt} {Q : Flow → Shared → Prop}
theorem for_listK {ax : Addr} {lo : Obj} {vs : List Value} {n : Nat} {m₀ : Str → Option Value} {news : Led} (J : Nat → (Str → Option Value) → Led → Prop)
    (hh : A.handled = none) (F : Fr h₀ env.locals s.heap m₀) (N : News h₀ env.locals s.heap news) (hg : h₀.get? ax = some lo) (hc : lo.cls = .type "list") (hd : lo.data = .seq vs.toArray n) (hj : J 0 m₀ news)
    (turn : ∀ i v m₁ nx h tk I oI, vs[i]? = some v → J i m₁ nx → OffAll I nx → Fr h₀ env.locals h m₁ → News h₀ env.locals h (nx ++ [(I, oI)]) →
      ∀ QT : Flow → Shared → Prop, (∀ fl s', TurnPost h₀ env.locals (J (i + 1)) [(I, oI)] { s with heap := h, toks := tk } Q fl s' → QT fl s') → wpAny (model PySem.Challenge.rw_og0244_01.row.prog w) A (assign target env v) (fun _ s₃ => wpAny (model PySem.Challenge.rw_og0244_01.row.prog w) A (execs body env) QT E s₃) E { s with heap := h, toks := tk })
    (done : ∀ m₁ nx h tk, J vs.length m₁ nx → Fr h₀ env.locals h m₁ → News h₀ env.locals h nx → Q .next { s with heap := h, toks := tk }) :
    wpAny (model PySem.Challenge.rw_og0244_01.row.prog w) A (pyIter (.ref ax)) (fun it s₂ => TurnsAt PySem.Challenge.rw_og0244_01.row.prog w A h₀ env target body Q E it s₂) E s := by
  have hax : s.heap.get? ax = some lo := F.keep _ _ hg
  have hl : s.heap.IsList ax vs.toArray := ⟨lo, hax, hc, n, hd⟩
  have hlt : ax < s.heap.objs.size := Heap.lt_size hax
  have hne : ax ≠ s.heap.objs.size := Nat.ne_of_lt hlt
  refine wpAny_pyIter_list hl ?_
  refine ⟨s.heap.objs.size, _, _, _, _, _, _, m₀, news, J, rfl, KTurns.ofWalks (Walks.list hh s.heap.objs.size ax hne vs.toArray) fun i v s Q E st q => letGo_listiter st.1 q, ?_, ?_, ?_, ⟨⟨_, Heap.get?_push_size _ rfl, rfl, rfl⟩, hl.at fun o e => Heap.get?_push_of_some _ e⟩, F.push _, fun p hp => ⟨Heap.get?_push_of_some _ (N p hp).1, (N p hp).2⟩, hj, ?_, ?_⟩
  · intro hI
    rcases List.mem_cons.mp hI with e | hI
    · exact absurd F.ns.lt (e ▸ Nat.lt_irrefl _)
    · have e : env.locals = ax := List.mem_singleton.mp hI
      exact absurd (Heap.lt_size hg) (Nat.not_lt.mpr (e ▸ F.above))
  · intro b hb
    rw [List.mem_singleton.mp hb]
    exact next_is_new F
  · intro p hp hI
    exact absurd (Heap.lt_size (N p hp).1) ((List.mem_singleton.mp hI) ▸ Nat.lt_irrefl _)
  · rintro i v m₁ nx h tk own hi hP hJ hoff hown hget hmem hst F₁ N₁
    obtain ⟨oI, hoI, _⟩ := hst.1
    have hIm : (s.heap.objs.size, oI) ∈ own := hmem _ (.head _) (next_is_new F) oI hoI
    have hsub : ∀ p ∈ own, p = (s.heap.objs.size, oI) := by
      intro p hp
      rcases List.mem_cons.mp (hown p hp) with e | e
      · have hg := hget p hp
        rw [e, hoI] at hg
        exact Prod.ext e (Option.some.inj hg).symm
      · have e := List.mem_singleton.mp e
        have := (N₁ p (List.mem_append_left _ hp)).2.2
        rw [e, hg] at this; cases this
    have N₂ : News h₀ env.locals h (nx ++ [(s.heap.objs.size, oI)]) := by
      intro p hp
      rcases List.mem_append.mp hp with q | q
      · exact N₁ p (List.mem_append_right _ q)
      · rw [List.mem_singleton.mp q]; exact N₁ _ (List.mem_append_left _ hIm)
    have hP' : vs[i]? = some v := by
      have hp' : vs.toArray[i]? = some v := hP
      simpa using hp'
    refine wpAny_mono (turn i v m₁ nx h tk _ oI hP' hJ (OffAll.of fun p hp e => hoff p hp (List.mem_singleton.mpr e)) F₁ N₂ _ (fun _ _ h => h)) (fun _ s₃ h₃ => wpAny_mono h₃ (fun f s₄ h₄ => ?_) fun _ _ e => e) fun _ _ e => e
    have fin : TurnEnd h₀ env.locals (J (i + 1)) [(s.heap.objs.size, oI)] { s with heap := h, toks := tk } s₄ → LoopStepU h₀ env.locals [s.heap.objs.size] own (J (i + 1)) { s with heap := h, toks := tk } .next s₄ := by
      intro hE
      refine hE _ ?_
      intro h' tk' m' news' nx' e F' N' hn ho ha hj'
      refine ⟨rfl, h', tk', m', nx', e, F', ?_, fun p hp hq => ha p hp _ (.head _) (List.mem_singleton.mp hq), hj'⟩
      intro p hp
      rcases List.mem_append.mp hp with q | q
      · rw [hsub p q]; exact N' _ (ho _ (.head _))
      · exact N' p (hn p q)
    cases f with
    | ret v => exact .ret h₄
    | brk => exact .brk h₄
    | next => exact .next (fin h₄)
    | cont => exact .cont (fin h₄)
  · intro h' tk m' nx F' N' _ hJ
    have hJ' : J vs.toArray.size m' nx := hJ
    rw [List.size_toArray] at hJ'
    exact done m' nx h' tk hJ' F' N'
theorem TurnEnd.intro' {h₀ : Heap} {L : Addr} {J : (Str → Option Value) → Led → Prop} {m' : Str → Option Value} {I : Addr} {oI : Obj} {news' : Led} {s₁ : Shared} {h' : Heap} {tk : Nat} (nx : Led) (F : Fr h₀ L h' m') (N : News h₀ L h' news') (hn : ∀ p ∈ nx, p ∈ news') (hI : (I, oI) ∈ news') (ho : ∀ p ∈ nx, p.1 ≠ I) (hj : J m' nx) :
    TurnEnd h₀ L J [(I, oI)] s₁ { s₁ with heap := h', toks := tk } :=
  fun _ k => k h' tk m' news' nx rfl F N hn (fun p hp => (List.mem_singleton.mp hp) ▸ hI) (fun p hp q hq => (List.mem_singleton.mp hq) ▸ ho p hp) hj
end
section
variable {w : World} {A : Around} {s : Shared} {env : Env} {h₀ : Heap} {x : Str} {body : List Stmt} {Q : Flow → Shared → Prop} {E : Value → Shared → Prop}
theorem ForSrc.ledM {l : Addr} {oL : Obj} {vs : List Value} {m₀ : Str → Option Value} {news nx₀ nx₁ : Led} (J : Nat → (Str → Option Value) → Led → Prop) (hh : A.handled = none) (hp : Pick (l, oL) news nx₀) (hso : SeqObj oL vs) (F : Fr h₀ env.locals s.heap m₀) (N : News h₀ env.locals s.heap news)
    (hs : ∀ p ∈ nx₁, p ∈ nx₀) (ho : ∀ p ∈ nx₁, p.1 ≠ l) (hj : J 0 m₀ nx₁)
    (turn : ∀ (i : Nat) v m nx h tk I oI, vs[i]? = some v → J i m nx → OffAll I nx → OffAll l nx → @Ne Nat l I → Fr h₀ env.locals h (fun y => if y = x then some v else m y) → News h₀ env.locals h (nx ++ [(I, oI), (l, oL)]) →
      ∀ QT : Flow → Shared → Prop, (∀ fl s', TurnPost h₀ env.locals (J (i + 1)) [(I, oI), (l, oL)] { s with heap := h, toks := tk } Q fl s' → QT fl s') → wpAny (model PySem.Challenge.rw_og0244_01.row.prog w) A (execs body env) QT E { s with heap := h, toks := tk })
    (done : ∀ m nx h tk, J vs.length m nx → OffAll l nx → Fr h₀ env.locals h m → News h₀ env.locals h (nx ++ [(l, oL)]) → Q .next { s with heap := h, toks := tk }) :
    ForSrc w A h₀ env x body Q E (.ref l) s := by
  refine fun _ k => k l oL vs m₀ [(l, oL)] nx₁ J rfl hh hso (.inr rfl) F (news_sub N fun p h => ?_) (fun p h q hq => (List.mem_singleton.mp hq) ▸ ho p h) hj ?_ ?_
  · rcases List.mem_append.mp h with h | h
    · exact hp.mem _ (.tail _ (hs p h))
    · exact hp.mem _ ((List.mem_singleton.mp h) ▸ .head _)
  · rintro i v m₁ nx h tk I oI hv hj ho hl F₁ N₁
    exact turn i v m₁ nx h tk I oI hv hj (OffAll.ofAp ho (.head _)) (OffAll.ofAp ho (.tail _ (.head _))) (hl _ (.head _)) F₁ N₁
  · rintro m₁ nx h tk hj ho F₁ N₁
    exact done m₁ nx h tk hj (OffAll.ofAp ho (.head _)) F₁ N₁
end
theorem TurnEnd.introL {h₀ : Heap} {L : Addr} {J : (Str → Option Value) → Led → Prop} {m' : Str → Option Value} {I l : Addr} {oI oL : Obj} {news' : Led} {s₁ : Shared} {h' : Heap} {tk : Nat} (nx : Led) (F : Fr h₀ L h' m') (N : News h₀ L h' news') (hn : ∀ p ∈ nx, p ∈ news') (hI : (I, oI) ∈ news') (hl : (l, oL) ∈ news') (ho : OffAll I nx) (ho' : OffAll l nx) (hj : J m' nx) :
    TurnEnd h₀ L J [(I, oI), (l, oL)] s₁ { s₁ with heap := h', toks := tk } := by
  refine fun _ k => k h' tk m' news' nx rfl F N hn ?_ ?_ hj
  · intro p hp
    rcases List.mem_cons.mp hp with rfl | hp
    · exact hI
    · exact (List.mem_singleton.mp hp) ▸ hl
  · intro p hp q hq
    rcases List.mem_cons.mp hq with rfl | hq
    · exact ho.all p hp
    · exact (List.mem_singleton.mp hq) ▸ ho'.all p hp
theorem add_listsK {w : World} {A : Around} {E : Value → Shared → Prop} {s : Shared} {h₀ : Heap} {L : Addr} {m : Str → Option Value} {news : Led} {l b : Addr} {vs ws : List Value} {Q : Value → Shared → Prop} (F : Fr h₀ L s.heap m) (N : News h₀ L s.heap news) (hl : s.heap.IsList l vs.toArray) (hb : s.heap.IsList b ws.toArray)
    (hsz : vs.length + ws.length ≤ sizeLine) (h : ∀ B h', Fr h₀ L h' m → News h₀ L h' ((B, W.listOf (vs ++ ws).toArray 0) :: news) → (∀ p ∈ news, p.1 < B) → Q (.ref B) { s with heap := h' }) :
    wpAny (model PySem.Challenge.rw_og0244_01.row.prog w) A (binaryOp .Add (.ref l) (.ref b)) Q E s :=
  add_lists F N hl hb (fun h' F' N' => h _ h' F' N' fun p hp => Heap.lt_size (N p hp).1) hsz
end
local macro_rules | `(tactic| walk_at "mine forT") => `(tactic| ((k_here; k_dflt (refine' For_turns ?_ ?_ ?_ ?_; rotate_left 2; k_asm; rotate_left; (exact fun _ => rfl); (first | exact PassesOwn.never | passes_own | (with_unfolding_all passes_own)); rotate_right; k_whole))))
example : Zz 0 := by (try walk1); exact trivial
local macro_rules | `(tactic| walk_at "binaryOp Add ref ref") => `(tactic| (k_here; k_dflt (refine' add_listsK ?_ ?_ ?_ ?_ ?_ ?_; rotate_left 6; k_asm; k_asm; (first | exact isList_led (by k_asm) (by k_mem) | exact isList_led' (by k_asm) (by k_mem)); (first | exact isList_led (by k_asm) (by k_mem) | exact isList_led' (by k_asm) (by k_mem)); (simp only [List.size_toArray, List.length_cons, List.length_nil, sizeLine_eq]; omega); walk_at "mine lt")))
section
example : Zz 0 := by (try walk1); exact trivial
local macro_rules | `(tactic| k_lt $h) => `(tactic| km_mul $h)
def lawGroups : List (List Str) := [mouseModes, mouseEncs]
def dropGroup (f : List Str) (word : Str) (g : List Str) : List Str := if word ∈ g then f.filter (fun x => !decide (x ∈ g)) else f
def lawSet (on : List Str) (word : Str) (b : Bool) : List Str :=
  let f := on.filter (fun x => !decide (x = word))
  if b = false then f else (lawGroups.foldl (fun f g => dropGroup f word g) f) ++ [word]
theorem refsAt_of {K : Frag} {h : Heap} {a : Addr} {cls : Value} {dd : Option Addr} {its : Array Value} {n : Nat} {sl : Array (Option Value)} {xs : List Value} (X : K.In h) (e : K.lookup a = some ⟨cls, dd, .seq its n, sl⟩)
    (hc : cls = .type "list") (hi : its = xs.toArray) : ∃ lo n, h.get? a = some lo ∧ lo.cls = .type "list" ∧ lo.data = .seq xs.toArray n := ⟨_, n, X _ _ e, hc, by rw [hi]⟩
theorem groups_at {w : World} {h : Heap} (X : (pre.heap_1 w.params).In h) : ∃ lo n, h.get? 238 = some lo ∧ lo.cls = .type "list" ∧ lo.data = .seq ([.ref 236, .ref 237] : List Value).toArray n := by
  k_dflt (refine' refsAt_of X ?e ?c ?d; (case e => k_is); (case c => rfl); (case d => rfl))
theorem groups_item {w : World} {h : Heap} (X : (pre.heap_1 w.params).In h) {i : Nat} {v : Value} (hv : ([.ref 236, .ref 237] : List Value)[i]? = some v) : ∃ ga g, v = .ref ga ∧ StrsAt h ga g ∧ lawGroups[i]? = some g := by
  match i, hv with
  | 0, hv => exact ⟨236, _, (Option.some.inj hv).symm, group1_at X, rfl⟩
  | 1, hv => exact ⟨237, _, (Option.some.inj hv).symm, group2_at X, rfl⟩
  | i + 2, hv => simp at hv
theorem drop_len (f : List Str) (word : Str) (g : List Str) : (dropGroup f word g).length ≤ f.length := by
  unfold dropGroup
  split
  · exact List.length_filter_le _ _
  · exact Nat.le_refl _
theorem drops_len (gs : List (List Str)) (word : Str) (f : List Str) : (gs.foldl (fun f g => dropGroup f word g) f).length ≤ f.length := by
  induction gs generalizing f with
  | nil => exact Nat.le_refl _
  | cons g gs ih => exact Nat.le_trans (ih _) (drop_len f word g)
theorem strs_append {a b : List Value} {x y : List Str} (h : StrsAre a x) (h' : StrsAre b y) : StrsAre (a ++ b) (x ++ y) := by
  induction h with
  | nil => exact h'
  | cons _ _ _ ih => exact .cons _ _ ih
theorem lawSet_len (on : List Str) (x : Str) (b : Bool) : (lawSet on x b).length ≤ on.length + 1 := by
  have h := List.length_filter_le (fun y => !decide (y = x)) on
  simp only [lawSet]
  split
  · omega
  · have := drops_len lawGroups x (on.filter (fun y => !decide (y = x)))
    rw [List.length_append, List.length_singleton]
    omega
theorem law_post {r : Value} {foot' rest : Led} {vs vs' : List Value} {ss : List Str} {word : Str} {b : Bool} {l : Addr} {c' : Nat} (hl : vs.length = ss.length) (hr : r = .ref l) (hf : foot' = (l, W.listOf vs'.toArray c') :: rest) {o : Addr} (hne : @Ne Nat l o) (hS : StrsAre vs' (lawSet ss word b)) :
    ∃ l vs' c', r = .ref l ∧ foot' = (l, W.listOf vs'.toArray c') :: rest ∧ StrsAre vs' (lawSet ss word b) ∧ vs'.length ≤ vs.length + 1 ∧ @Ne Nat l o :=
  ⟨l, vs', c', hr, hf, hS, by rw [strs_length hS, hl]; exact lawSet_len _ _ _, hne⟩
local macro_rules | `(tactic| walk_at "exec For Name Name cons nil") => `(tactic| walk_at "mine forT")
local macro_rules | `(tactic| walk_at "exec For Tuple Name cons nil") => `(tactic| walk_at "mine forT")
set_option maxHeartbeats 8000000 in
theorem lset_spec {w : World} {pgm : Program} {loo : List Str} {mean : ExcName → Option Value} {mg mb : Str → Option Value} {o : Addr} {vs : List Value} {c : Nat} {ss : List Str} (hS : StrsAre vs ss) (hz' : vs.length ≤ 300) (word : Str) (tk : Tok) (b : Bool) :
    Spec w pgm loo mean mg mb (.ref 262) 890 8990 [.ref o, .str word tk, .bool b] [(o, W.listOf vs.toArray c)] (fun r foot' => ∃ l vs' c', r = .ref l ∧ foot' = [(l, W.listOf vs'.toArray c'), (o, W.listOf vs.toArray c)] ∧ StrsAre vs' (lawSet ss word b) ∧ vs'.length ≤ vs.length + 1 ∧ @Ne Nat l o) := by
  (k_dflt (refine' spec_ofC (binds := [(Str.ofString "on", .ref o), (Str.ofString "word", .str word tk), (Str.ofString "is_on", .bool b)]) ?k6 ?k7 ?k8 ?k9 ?kB ?kD ?_ ?c2 ?c3 ?c4; (case k6 => k_is); (case k7 => k_is); (case k8 => decide); (case k9 => exact fun s X => BindsTo.of_eq rfl); (case kB => exact rfl); (case kD => decide +kernel); (case c2 => exact rfl); (case c3 => exact rfl); (case c4 => exact rfl); k_whole); intro ev A₀ base g' L' h₁ s tk₁ cells' hdp hun B' F' N' Y' X' T' hlt QL hL; (obtain ⟨cellA, cellB⟩ := cells_ap hlt; dsimp only [List.map] at cellA cellB); (replace hlt := allLt_of hlt; simp only [AllLt, and_true] at hlt); k_cells Y'; (try simp only [List.cons_append, List.nil_append] at N'); (try dsimp only))
  have hl9 : vs.length = ss.length := strs_length hS
  have hz : ss.length ≤ 300 := by omega
  k_steps
  all_goals (try dsimp only)
  refine LCt.CompSrcT.ledger rfl (by k_asm) (by k_asm) (by k_mem) (by rw [List.size_toArray, sizeLine_eq]; omega) ?_
  intro g9
  refine fm_rest (pickS (fun x => !decide (x = word)) vs ss) ?_ ?_
  · intro i v I oI C oC Dl m₂ ys h tk E' hi hv hC hx F1 N1 off ne
    obtain ⟨y, t, hy, rfl⟩ := strs_at hS i v (by simpa using hv)
    k_steps
    all_goals (try dsimp only)
    · (refine' LCg.CompEnd.intro ?ce9F ?ce9N _ ?ce9s off ?ce9S ⟨rfl, ?ce9R⟩; (case ce9F => k_asm); (case ce9N => k_asm); (case ce9s => exact fun p hp => hp); (case ce9S => first | exact Or.inr ⟨_, by k_mem, rfl, _, rfl⟩ | exact Or.inl (by assumption)))
      exact pickS_yes hy (by simpa using hv) (by simp_all)
    · (refine' LCg.CompEnd.intro ?ce10F ?ce10N _ ?ce10s off ?ce10S ⟨rfl, ?ce10R⟩; (case ce10F => k_asm); (case ce10N => k_asm); (case ce10s => exact fun p hp => hp); (case ce10S => first | exact Or.inr ⟨_, by k_mem, rfl, _, rfl⟩ | exact Or.inl (by assumption)))
      exact pickS_no hy (by simp_all)
  · k_steps
    all_goals (try dsimp only)
    rotate_left
    · (refine' hL.leave (foot' := (_, LCg.lst _) :: [(o, W.listOf vs.toArray c)]) ?lvF13 ?lvN13 ?lvs13 ?_; (case lvF13 => k_asm); (case lvN13 => k_asm); (case lvs13 => exact (by (repeat (first | exact sub_nil | (refine' sub_cons ?sa ?_; (case sa => k_mem)))))))
      refine law_post hl9 rfl rfl (by first | k_ne | omega) ?_
      have hb : b = false := by assumption
      rw [List.size_toArray]
      simp only [lawSet, hb, if_true]
      exact filt_strs hS
    · have hb : b = true := by assumption
      obtain ⟨lo, nl, hg, hc, hd⟩ := groups_at X'
      have hS0 := filt_strs (p := fun x => !decide (x = word)) hS
      have hz0 : (ss.filter (fun x => !decide (x = word))).length ≤ 300 := Nat.le_trans (List.length_filter_le _ _) hz
      rw [← List.size_toArray] at hS0
      rename _ ∧ _ ∧ _ => o1
      rename News _ _ _ (_ :: _ :: _ :: _) => N1
      (k_dflt (refine' for_listK (fun i m nx => ∀ R : Prop, (∀ (l : Addr) (vs' : List Value) (c' : Nat) (og ow : Obj) (mm : Str → Option Value) (x : Option Value) (tw : Tok), m = (fun z => if z = Str.ofString "found" then some (.ref l) else mm z) → nx = [(l, W.listOf vs'.toArray c'), (L' + 1 + 1, og), (L' + 1, ow), (o, W.listOf vs.toArray c)] → og.data = .cell x → ow.data = .cell (some (.str word tw)) → StrsAre vs' ((lawGroups.take i).foldl (fun f g => dropGroup f word g) (ss.filter (fun x => !decide (x = word)))) → @Ne Nat (L' + 1 + 1) l → @Ne Nat (L' + 1) l → @Ne Nat o l → R) → R) ?hh ?F ?N ?hg ?hc ?hd ?hj ?_ ?_; (case hh => exact rfl); (case F => k_asm); (case N => exact N1); (case hg => exact hg); (case hc => exact hc); (case hd => exact hd); (case hj => exact fun _ k => k _ _ _ _ _ _ _ _ rfl rfl (by assumption) (by assumption) hS0 o1.1 o1.2.1 o1.2.2)))
      · intro i v m₁ nx h tk I oI hv hJ hoI F2 N2 QT hT
        refine hJ _ ?_
        clear hJ
        rintro l vs' c' og ow mm x tw rfl rfl hog how hS1 ho1 ho2 ho3
        obtain ⟨ga, g, rfl, hga, hgi⟩ := groups_item X' hv
        simp only [OffAll, and_true] at hoI
        have hoI2 := hoI.2.1
        simp only [List.cons_append, List.nil_append] at N2
        clear N1
        replace F2 : Fr g' L' h _ := F2
        replace N2 : News g' L' h _ := N2
        have hle : ((lawGroups.take i).foldl (fun f g => dropGroup f word g) (ss.filter (fun x => !decide (x = word)))).length ≤ 300 := Nat.le_trans (drops_len _ _ _) hz0
        have hlv := strs_length hS1
        k_steps
        all_goals (try refine hT _ _ ?_)
        · refine LCt.CompSrcT.ledger rfl (by k_asm) (by k_asm) (by k_mem) (by rw [List.size_toArray, sizeLine_eq]; omega) ?_
          intro g8
          refine fm_rest (pickS (fun x => !decide (x ∈ g)) vs' ((lawGroups.take i).foldl (fun f g => dropGroup f word g) (ss.filter (fun x => !decide (x = word))))) ?_ ?_
          · intro i v I oI C oC Dl m₂ ys h tk E' hi hv hC hx F1 N1 off ne
            obtain ⟨y, t, hy, rfl⟩ := strs_at hS1 i v (by simpa using hv)
            k_steps
            all_goals (try dsimp only)
            · (refine' LCg.CompEnd.intro ?ce11F ?ce11N _ ?ce11s off ?ce11S ⟨rfl, ?ce11R⟩; (case ce11F => k_asm); (case ce11N => k_asm); (case ce11s => exact fun p hp => hp); (case ce11S => first | exact Or.inr ⟨_, by k_mem, rfl, _, rfl⟩ | exact Or.inl (by assumption)))
              exact pickS_no hy (by simp_all)
            · (refine' LCg.CompEnd.intro ?ce12F ?ce12N _ ?ce12s off ?ce12S ⟨rfl, ?ce12R⟩; (case ce12F => k_asm); (case ce12N => k_asm); (case ce12s => exact fun p hp => hp); (case ce12S => first | exact Or.inr ⟨_, by k_mem, rfl, _, rfl⟩ | exact Or.inl (by assumption)))
              exact pickS_yes hy (by simpa using hv) (by simp_all)
          · k_steps
            all_goals (try refine hT _ _ ?_)
            rename _ ∧ _ ∧ _ ∧ _ ∧ _ => o2
            (refine' TurnEnd.intro' [(_, W.listOf (List.toArray _) _), (L' + 1 + 1, _), (L' + 1, ow), (o, W.listOf vs.toArray c)] ?teF ?teN ?tes ?teI ?teo ?teJ; (case teF => k_asm); (case teN => k_asm); (case tes => exact (by (repeat (first | exact sub_nil | (refine' sub_cons ?sa ?_; (case sa => k_mem)))))); (case teI => k_mem); (case teo => exact OffAll.all ⟨Ne.symm o2.2.2.2.2, hoI.2.1, hoI.2.2.1, hoI.2.2.2, trivial⟩))
            refine fun _ k => k _ _ _ _ _ _ _ _ rfl rfl (by assumption) how ?_ o2.2.1 o2.2.2.1 o2.2.2.2.1
            rw [List.take_add_one, hgi, List.foldl_append, List.size_toArray]
            have hin : word ∈ g := by assumption
            simp only [Option.toList, List.foldl_cons, List.foldl_nil, dropGroup, if_pos hin]
            exact filt_strs hS1
        · (refine' TurnEnd.intro' [(l, W.listOf vs'.toArray c'), (L' + 1 + 1, _), (L' + 1, ow), (o, W.listOf vs.toArray c)] ?ueF ?ueN ?ues ?ueI ?ueo ?uej; (case ueF => k_asm); (case ueN => k_asm); (case ues => exact (by (repeat (first | exact sub_nil | (refine' sub_cons ?sa ?_; (case sa => k_mem)))))); (case ueI => k_mem); (case ueo => exact OffAll.all ⟨hoI.1, hoI.2.1, hoI.2.2.1, hoI.2.2.2, trivial⟩))
          refine fun _ k => k _ _ _ _ _ _ _ _ rfl rfl (by assumption) how ?_ ho1 ho2 ho3
          have hin : ¬ word ∈ g := by assumption
          rw [List.take_add_one, hgi, List.foldl_append]
          simp only [Option.toList, List.foldl_cons, List.foldl_nil, dropGroup, if_neg hin]
          exact hS1
      · intro m₁ nx h tk hJ F2 N2
        refine hJ _ ?_
        clear hJ
        rintro l vs' c' og ow mm x tw rfl rfl hog how hS1 ho1 ho2 ho3
        clear N1
        replace F2 : Fr g' L' h _ := F2
        replace N2 : News g' L' h _ := N2
        have hlv := strs_length hS1
        have hle : ((lawGroups.take 2).foldl (fun f g => dropGroup f word g) (ss.filter (fun x => !decide (x = word)))).length ≤ 300 := Nat.le_trans (drops_len _ _ _) hz0
        have hlv2 : vs'.length ≤ 300 := by rw [hlv]; exact hle
        dsimp only
        k_steps
        all_goals (try dsimp only)
        (refine' hL.leave (foot' := [(_, W.listOf (vs' ++ [Value.str word tw]).toArray 0), (o, W.listOf vs.toArray c)]) ?lvF14 ?lvN14 ?lvs14 ?_; (case lvF14 => k_asm); (case lvN14 => k_asm); (case lvs14 => exact (by (repeat (first | exact sub_nil | (refine' sub_cons ?sa ?_; (case sa => k_mem)))))))
        refine law_post hl9 rfl rfl (by first | k_ne | omega) ?_
        simp only [lawSet, hb, Bool.true_eq_false, if_false]
        exact strs_append hS1 (.cons _ _ .nil)
theorem lsetV {w : World} {pgm : Program} {loo : List Str} {mean : ExcName → Option Value} {mg mb : Str → Option Value} {o : Addr} {vs : List Value} {c : Nat} {ss : List Str} {dp un : Nat} {gd : Option (List Code)} {cn : Str} {cs : Scope} {za : Addr} {ccd : Value} {cl : List (Str × Addr)} {outer : List Env} {A₀ : Around} {base h₀ : Heap} {zL : Addr} {zm : Str → Option Value} {zn zr : Led} {zs : Shared} {zQ zE : Value → Shared → Prop} (zS : Site w pgm loo mean mg mb 890 8990 dp un cs outer A₀ base h₀ zL zs.heap zm zn ∧ Picks [(o, W.listOf vs.toArray c)] zn zr ∧ Apart [(o, W.listOf vs.toArray c)] zr) (hS : StrsAre vs ss) (hz' : vs.length ≤ 300) (word : Str) (tk : Tok) (b : Bool)
    (zh : ∀ h9 tk9, Fr h₀ zL h9 zm → ∀ l vs' c', StrsAre vs' (lawSet ss word b) → vs'.length ≤ vs.length + 1 → @Ne Nat l o → News h₀ zL h9 ((l, W.listOf vs'.toArray c') :: (o, W.listOf vs.toArray c) :: zr) → AP1 l (zr.map (·.1)) → zQ (.ref l) { zs with heap := h9, toks := tk9 }) :
    wpAny (model PySem.Challenge.rw_og0244_01.row.prog w) (ktrTop dp un gd cn cs zL za ccd cl outer) (call (.ref 262) [.ref o, .str word tk, .bool b]) zQ zE zs :=
  lset_spec hS hz' word tk b _ _ _ _ _ _ _ _ _ _ _ _ _ _ _ _ _ _ _ zS.1.B zS.1.F zS.1.X zS.1.T zS.1.k zS.1.d zS.1.u zS.1.N zS.2.1 zS.2.2 fun r foot h9 tk9 hp F9 N9 ap => by
    obtain ⟨l, vs', c', rfl, rfl, y0, y1, y2⟩ := hp
    exact zh h9 tk9 F9 l vs' c' y0 y1 y2 N9 (AP1.of ap)
end
example : Zz 0 := by (try walk1); exact trivial
local macro_rules | `(tactic| walk_at "call ref") => `(tactic| (k_here; focus (k_dflt (refine' lsetV ?_ ?_ ?_ _ _ _ ?_; rotate_left 14; walk_at "mine site"; k_asm; walk_at "mine le"; walk_at "mine afterV"))))
section
example : Zz 0 := by (try walk1); exact trivial
def softWords : List Str := [Str.ofString "locked", Str.ofString "insert", Str.ofString "origin", Str.ofString "app_cursor", Str.ofString "app_keypad", Str.ofString "side_margins", Str.ofString "reverse_wrap", Str.ofString "reverse_wrap_far"]
def lawSoft (on : List Str) : List Str := lawSet (lawSet (softWords.foldl (fun o x => lawSet o x false) on) (Str.ofString "autowrap") true) (Str.ofString "show_cursor") true
local macro_rules | `(tactic| walk_at "exec For Name Tuple cons nil") => `(tactic| walk_at "mine for")
set_option maxHeartbeats 8000000 in
theorem lsoft_spec {w : World} {pgm : Program} {loo : List Str} {mean : ExcName → Option Value} {mg mb : Str → Option Value} {o : Addr} {vs : List Value} {c : Nat} {ss : List Str} (hS : StrsAre vs ss) (hz : vs.length ≤ 200) :
    Spec w pgm loo mean mg mb (.ref 276) 880 8980 [.ref o] [(o, W.listOf vs.toArray c)] (fun r foot' => ∃ l vs' c', r = .ref l ∧ foot' = [(l, W.listOf vs'.toArray c')] ∧ StrsAre vs' (lawSoft ss)) := by
  (k_dflt (refine' spec_of (binds := [(Str.ofString "on", .ref o)]) ?k6 ?k7 ?k8 ?k9 ?kB ?_ ?c2 ?c3 ?c4 ?c5; (case k6 => k_is); (case k7 => k_is); (case k8 => decide); (case k9 => exact fun s X => BindsTo.of_eq rfl); (case c5 => decide); (case kB => exact locs rfl); (case c2 => exact rfl); (case c3 => exact rfl); (case c4 => exact rfl); k_whole); intro ev A₀ base g' L' h₁ s tk₁ hdp hun B' F' N' X' T' hlt QL hL; k_lt hlt; (replace F' := binds_fr F'); (try dsimp only [BindsMap] at F'))
  k_steps
  all_goals (try dsimp only)
  rename Fr _ _ _ _ => F1
  rename News _ _ _ (_ :: _) => N1
  rename _ < _ => l1
  (k_dflt (refine' ForSrc.ledM (nx₁ := [(o, W.listOf vs.toArray c)]) (fun i m nx => ∃ (lo : Addr) (vo : List Value) (co : Nat) (mm : Str → Option Value), m = (fun z => if z = Str.ofString "on" then some (.ref lo) else mm z) ∧ nx = [(lo, W.listOf vo.toArray co)] ∧ StrsAre vo ((softWords.take i).foldl (fun o x => lawSet o x false) ss) ∧ vo.length ≤ 200 + i) ?hh ?hp ?hso ?F ?N ?hs ?ho ?hj ?_ ?_; (case hh => exact rfl); (case N => exact N1); (case hp => exact Pick.head); (case hso => exact ⟨.inr rfl, _, rfl⟩); (case F => exact F1); (case hs => exact fun p hp => hp); (case ho => k_all); (case hj => exact ⟨o, vs, c, _, by funext z; rfl, rfl, hS, hz⟩)))
  · rintro i v m nx h tk I oI hv ⟨lo, vo, co, mm, rfl, rfl, hSo, hzo⟩ ho1 ho2 hne F2 N2 QT hT
    clear N1 F1
    replace F2 : Fr g' L' h _ := F2
    replace N2 : News g' L' h _ := N2
    simp only [OffAll, and_true] at ho1 ho2
    simp only [List.cons_append, List.nil_append] at N2
    have hi : i < 8 := by
      rcases Nat.lt_or_ge i 8 with q | q
      · exact q
      · rw [List.getElem?_eq_none (by exact q)] at hv; cases hv
    have hq := fun (hs : StrsAre _ softWords) => strs_at hs i v hv
    obtain ⟨y, t, hy, rfl⟩ := hq (.cons _ _ (.cons _ _ (.cons _ _ (.cons _ _ (.cons _ _ (.cons _ _ (.cons _ _ (.cons _ _ .nil))))))))
    k_steps
    all_goals (try refine hT _ _ ?_)
    rename StrsAre _ (lawSet _ _ _) => hS9
    rename List.length _ ≤ List.length _ + 1 => hle9
    (refine' TurnEnd.introL [(_, W.listOf _ _)] ?teF ?teN ?tes ?teI ?tel ?teo ?teq ⟨_, _, _, _, rfl, rfl, ?teS, ?tez⟩; (case teF => k_asm); (case teN => k_asm); (case tes => exact (by (repeat (first | exact sub_nil | (refine' sub_cons ?sa ?_; (case sa => k_mem)))))); (case teI => k_mem); (case tel => k_mem); (case teo => exact ⟨by k_ne, trivial⟩); (case teq => exact ⟨by k_ne, trivial⟩); (case tez => omega))
    rw [List.take_add_one, hy, List.foldl_append]
    exact hS9
  · rintro m nx h tk ⟨lo, vo, co, mm, rfl, rfl, hSo, hzo⟩ ho2 F2 N2
    clear N1 F1
    replace F2 : Fr g' L' h _ := F2
    replace N2 : News g' L' h _ := N2
    simp only [List.cons_append, List.nil_append] at N2
    have hzo : vo.length ≤ 208 := hzo
    simp only [OffAll, and_true] at ho2
    dsimp only
    k_steps
    all_goals (try dsimp only)
    (refine' hL.leave (foot' := [(_, W.listOf _ _)]) ?lvF15 ?lvN15 ?lvs15 ?_; (case lvF15 => k_asm); (case lvN15 => k_asm); (case lvs15 => exact (by (repeat (first | exact sub_nil | (refine' sub_cons ?sa ?_; (case sa => k_mem)))))))
    exact ⟨_, _, _, rfl, rfl, by assumption⟩
theorem lsoftV {w : World} {pgm : Program} {loo : List Str} {mean : ExcName → Option Value} {mg mb : Str → Option Value} {o : Addr} {vs : List Value} {c : Nat} {ss : List Str} {dp un : Nat} {gd : Option (List Code)} {cn : Str} {cs : Scope} {za : Addr} {ccd : Value} {cl : List (Str × Addr)} {outer : List Env} {A₀ : Around} {base h₀ : Heap} {zL : Addr} {zm : Str → Option Value} {zn zr : Led} {zs : Shared} {zQ zE : Value → Shared → Prop} (zS : Site w pgm loo mean mg mb 880 8980 dp un cs outer A₀ base h₀ zL zs.heap zm zn ∧ Picks [(o, W.listOf vs.toArray c)] zn zr ∧ Apart [(o, W.listOf vs.toArray c)] zr) (hS : StrsAre vs ss) (hz : vs.length ≤ 200)
    (zh : ∀ h9 tk9, Fr h₀ zL h9 zm → ∀ l vs' c', StrsAre vs' (lawSoft ss) → News h₀ zL h9 ((l, W.listOf vs'.toArray c') :: zr) → AP1 l (zr.map (·.1)) → zQ (.ref l) { zs with heap := h9, toks := tk9 }) :
    wpAny (model PySem.Challenge.rw_og0244_01.row.prog w) (ktrTop dp un gd cn cs zL za ccd cl outer) (call (.ref 276) [.ref o]) zQ zE zs :=
  lsoft_spec hS hz _ _ _ _ _ _ _ _ _ _ _ _ _ _ _ _ _ _ _ zS.1.B zS.1.F zS.1.X zS.1.T zS.1.k zS.1.d zS.1.u zS.1.N zS.2.1 zS.2.2 fun r foot h9 tk9 hp F9 N9 ap => by
    obtain ⟨l, vs', c', rfl, rfl, y0⟩ := hp
    exact zh h9 tk9 F9 l vs' c' y0 N9 (AP1.of ap)
end
section
theorem miss_list_keys : typeLookup (.type "list") (Str.ofString "keys") = pure none := am_miss_of_fast (by kernel_rfl)
theorem getAttrQ_miss_list {prog : Program} {w : World} {A : Around} {E : Value → Shared → Prop} {s : Shared} {a : Addr} {o : Obj} {xs : Array Value} {k : Nat} {name : Str} {Q : Option Value → Shared → Prop}
    (hx : s.heap.get? a = some o) (hc : o.cls = .type "list") (hdat : o.data = .seq xs k) (hd : o.dict = none) (hmiss : typeLookup (.type "list") name = pure none) (hname : (["__module__", "__name__", "__qualname__", "__doc__", "__annotations__"] : List Str).contains name = false) (hA : A.handled = none)
    (h : ∀ h' tk, (∀ b o, s.heap.get? b = some o → h'.get? b = some o) → Q none { s with heap := h', toks := tk }) (hsz : name.length + 100 ≤ sizeLine) :
    wpAny (model prog w) A (getAttr? (.ref a) name) Q E s := by
  obtain ⟨c, dct, dat, sl⟩ := o
  simp only at hc hdat hd
  subst hc hdat hd
  obtain ⟨hp, g, d, tk, os⟩ := s
  have hT : ∀ tk', (⟨hp, g, d, tk', os⟩ : Shared).TypeIs (.ref a) "list" := fun _ => ⟨_, hx, rfl⟩
  have f1 := sub_AttributeError
  have f3 := F.slot_list_getattribute.lookup
  have f4 := F.slot_list_getattribute.bind (.ref a)
  have f5 := am_list_getattr_none
  unfold getAttr? getAttrBy? getAttrBy
  repeat (any_goals (first | assumption | exact hT _ | ((with_reducible show wpAny _ _ (call (Value.builtin "list.__getattribute__") _ _) _ _ _); refine call_meets F.slot_list_getattribute (hT _) am_entry_list_getattribute (F.args_list_getattribute_2 _ _) (meets_getattribute_miss_list a xs k sl name _ hmiss hname hsz) ⟨hx, hA, fun h' tk' e hx' => ?_⟩) | wp_step))
  obtain ⟨t', u', he⟩ := hx'.there
  show wpAny _ _ (getattributeRaised _ _ _ _ _ _ _) _ _ _
  unfold getattributeRaised
  repeat (any_goals (first | assumption | wp_step))
  exact h _ _ hx'.keeps
theorem plain_update_loop : plainId "dict.update.loop" = true := by decide +kernel
theorem entry_update_loop : entryFor table "dict.update.loop" = some Builtin.«dict.update.loop» := entryFor_of_fast (by kernel_rfl)
section
variable {prog : Program} {w : World} {A : Around} {R : Result → Shared → Prop} {I D : Addr} {fp wr : List Addr} {n : Nat} {P : Nat → Value → Prop} {St : Nat → Heap → Prop} {h₀ : Heap} {ps : List (Int × Value)}
theorem code_update_loop (W : Walks prog w A.in1 I fp [I] n P St) (hn : ps.length = n) (hz : n ≤ 100) (hDf : D ∉ fp) (hDI : D ≠ I)
    (hP : ∀ i v, P i v → ∃ a k t x, v = .ref a ∧ h₀.IsTuple a #[.int k t, x] ∧ ps[i]? = some (k, x) ∧ a ≠ D ∧ a ≠ I) :
    ∀ (k i : Nat) (t : Tok) (s : Shared), n - i = k → i ≤ n → St i s.heap → (∀ b o, b ≠ D → b ≠ I → h₀.get? b = some o → s.heap.get? b = some o) → s.heap.DictOf (intKind prog w) D (merged [] (ps.take i)) →
    (∀ h' tk, (∀ b o, b ≠ D → b ≠ I → h₀.get? b = some o → h'.get? b = some o) → h'.DictOf (intKind prog w) D (merged [] ps) → R (.ok (.ret .none)) { s with heap := h', toks := tk }) →
    codeAny (model prog w) A (.builtin "dict.update.loop" ⟨[.ref D, .ref I, .int (i : Int) t, .none], []⟩) R s := by
  intro k
  induction k with
  | zero =>
    intro i t s hk hi hst hkeep hD hR
    have hin : i = n := Nat.le_antisymm hi (Nat.le_of_sub_eq_zero hk)
    subst hin
    refine codeAny_builtin entry_update_loop ?_
    rw [Around.under_plainId plain_update_loop _]
    show wpAny _ A.in1 (pyNext (.ref I) >>= _) _ _ s
    refine wpAny_bind (W.done s _ _ hst fun h' tk hm => ?_)
    have hD' : h'.DictOf (intKind prog w) D (merged [] ps) := by
      obtain ⟨o, e, r⟩ := Heap.dictOf_iff.mp hD
      rw [← hn, List.take_length] at r
      exact Heap.dictOf_iff.mpr ⟨o, hm _ _ (by simpa using hDI) e, r⟩
    refine wpAny_bind (wpAny_pure (wpAny_pure (hR h' tk (fun b o h1 h2 e => hm _ _ (by simpa using h2) (hkeep b o h1 h2 e)) hD')))
  | succ k ih =>
    intro i t s hk hi hst hkeep hD hR
    have hlt : i < n := Nat.lt_of_sub_eq_succ hk
    refine codeAny_builtin entry_update_loop ?_
    rw [Around.under_plainId plain_update_loop _]
    show wpAny _ A.in1 (pyNext (.ref I) >>= _) _ _ s
    refine wpAny_bind (W.item i s _ _ hlt hst fun v h₁ tk₁ hPv hst' hm => ?_)
    obtain ⟨a, kk, tk, x, rfl, ha, hp, haD, haI⟩ := hP i v hPv
    have ha₁ : h₁.IsTuple a #[.int kk tk, x] := ha.at fun o e => hm _ _ (by simpa using haI) (hkeep a o haD haI e)
    have hD₁ : h₁.DictOf (intKind prog w) D (merged [] (ps.take i)) := by
      obtain ⟨o, e, r⟩ := Heap.dictOf_iff.mp hD
      exact Heap.dictOf_iff.mpr ⟨o, hm _ _ (by simpa using hDI) e, r⟩
    refine wpAny_bind (wpAny_holding (wpAny_bind ?_))
    have hT : (Shared.mk h₁ s.gens s.drawn tk₁ s.os).TypeIs (.ref a) "tuple" := by
      obtain ⟨o, e, r, _⟩ := ha₁
      exact ⟨o, e, r⟩
    obtain ⟨oa, eoa, hca, na, hda⟩ := id ha₁
    refine wpAny_tryCatch ?_
    unfold Builtin.Dict.pairItems
    refine wpAny_bind (wpAny_typeOf hT ?_)
    rw [if_pos (by decide)]
    refine wpAny_bind (wpAny_seqItems (s := Shared.mk h₁ s.gens s.drawn tk₁ s.os) eoa hda (wpAny_pure ?_))
    show wpAny _ A.in1 (holding [.int kk tk, x] (dictSet D (.int kk tk) x)) _ _ _
    refine wpAny_holding (wpAny_dictSet_pairs (knd := intKind prog w) (intKind_is _ _ kk tk) hD₁ (fun h₂ hD₂ hs => ?_) ?_)
    · refine wpAny_pure ⟨plainId_quiet plain_update_loop _, ih (i + 1) _ _ (congrArg Nat.pred hk) hlt (W.frame _ _ _ hst' fun b hb o e => hs.extBut b o (fun q => hDf (q ▸ hb)) e) (fun b o h1 h2 e => hs.extBut b o h1 (hm _ _ (by simpa using h2) (hkeep b o h1 h2 e))) ?_ fun h' tk' k1 k2 => hR h' tk' k1 k2⟩
      rw [merged_take_succ _ _ _ _ hp]; exact hD₂
    · have q1 := merged_length_le ([] : List (Int × Value)) (ps.take i)
      have q2 := List.length_take_le i ps
      simp only [List.length_nil] at q1
      rw [sizeLine_eq]
      omega
end
section
variable {prog : Program} {w : World} {A : Around} {E : Value → Shared → Prop} {s : Shared}
theorem code_dict_new (a : Value) {Q₁ : Value → Shared → Prop} (h : Q₁ (.ref s.heap.objs.size) { s with heap := s.heap.push { cls := .type "dict", data := .dict #[] } }) :
    codeAny (model prog w) A (.call (.builtin "dict.__new__") ⟨[.type "dict", a], []⟩) (wants Q₁ E) s := kt_code_dict_new a h
theorem call_dict_pairs {l : Addr} {vs : List Value} {ol : Obj} {n : Nat} {ps : List (Int × Value)} {Q : Value → Shared → Prop} (hA : A.handled = none) (hl : s.heap.get? l = some ol) (hc : ol.cls = .type "list") (hd : ol.data = .seq vs.toArray n) (hdi : ol.dict = none) (hn : ps.length = vs.length) (hz : vs.length ≤ 100)
    (hP : ∀ (i : Nat) (v : Value), vs[i]? = some v → ∃ (a : Addr) (k : Int) (t : Tok) (x : Value), v = .ref a ∧ s.heap.IsTuple a #[.int k t, x] ∧ ps[i]? = some (k, x))
    (h : ∀ h' tk, (∀ b o, s.heap.get? b = some o → h'.get? b = some o) → h'.DictOf (intKind prog w) s.heap.objs.size (merged [] ps) → Q (.ref s.heap.objs.size) { s with heap := h', toks := tk }) :
    wpAny (model prog w) A (call (.type "dict") [.ref l]) Q E s := by
  refine callType_codes (Q₁ := fun obj s₁ => obj = .ref s.heap.objs.size ∧ s₁ = { s with heap := s.heap.push { cls := .type "dict", data := .dict #[] } }) F.kt_called_dict (F.kt_typeCall_dict_1 _) F.entry_dict_init (code_dict_new _ ⟨rfl, rfl⟩) ?_
  rintro obj s₁ ⟨rfl, rfl⟩
  have hnew : (s.heap.push { cls := .type "dict", data := .dict #[] }).DictOf (intKind prog w) s.heap.objs.size [] := Heap.DictOf.new s.heap
  have hl1 : (s.heap.push { cls := .type "dict", data := .dict #[] }).get? l = some ol := Heap.get?_push_of_some _ hl
  have hlt : l < s.heap.objs.size := Heap.lt_size hl
  refine ⟨hnew.typeIs, F.args_dict_init_2 _ _, ?_⟩
  unfold Builtin.«dict.__init__»
  refine wpAny_bind ?_
  unfold Builtin.Dict.selfAndRest
  refine wpAny_bind (wpAny_notOrdered_dict hnew.typeIs ?_)
  show wpAny _ _ (pure (s.heap.objs.size, [Value.ref l])) _ _ _
  refine wpAny_pure ?_
  show wpAny _ _ (Builtin.Dict.updateFrom "dict.__init__" s.heap.objs.size (.ref l) [] .none) _ _ _
  unfold Builtin.Dict.updateFrom
  refine wpAny_bind (wpAny_typeOf (T := "list") ⟨ol, hl1, hc⟩ ?_)
  rw [if_pos (by decide)]
  refine wpAny_bind (getAttrQ_miss_list hl1 hc hd hdi miss_list_keys (by decide) (by simp [hA]) (fun h₂ tk₂ hk₂ => ?_) (by decide))
  rw [if_pos (show (none : Option Value).isNone = true from rfl)]
  refine wpAny_bind (wpAny_rule ?_)
  have keep2 : ∀ b o, s.heap.get? b = some o → h₂.get? b = some o := fun b o e => hk₂ b o (Heap.get?_push_of_some _ e)
  have hl2 : h₂.get? l = some ol := keep2 _ _ hl
  have hL2 : h₂.IsList l vs.toArray := ⟨ol, hl2, hc, n, hd⟩
  have hlt2 : l < h₂.objs.size := Heap.lt_size hl2
  have hD2 : h₂.DictOf (intKind prog w) s.heap.objs.size [] := by
    obtain ⟨o, e, r⟩ := Heap.dictOf_iff.mp hnew
    exact Heap.dictOf_iff.mpr ⟨o, hk₂ _ _ e, r⟩
  have hDlt : s.heap.objs.size < h₂.objs.size := by
    obtain ⟨o, e, r⟩ := Heap.dictOf_iff.mp hD2
    exact Heap.lt_size e
  have hh3 : A.in1.in1.handled = none := by simp [hA]
  refine wpAny_bind (wpAny_pyIter_list (s := { s with heap := h₂, toks := tk₂ }) hL2 ?_)
  have hneD : l ≠ s.heap.objs.size := Nat.ne_of_lt hlt
  refine wpAny_pure ⟨plainId_quiet plain_update_loop _, code_update_loop (A := A.in1) (I := h₂.objs.size) (D := s.heap.objs.size) (n := vs.toArray.size) (h₀ := s.heap) (ps := ps) (Walks.list hh3 h₂.objs.size l (Nat.ne_of_lt hlt2) vs.toArray) (by simpa using hn) (by simpa using hz) ?_ (Nat.ne_of_lt hDlt) ?_ vs.toArray.size 0 _ _ (by omega) (Nat.zero_le _) ⟨⟨_, Heap.get?_push_size _ rfl, rfl, rfl⟩, hL2.at fun o e => Heap.get?_push_of_some _ e⟩ (fun b o _ _ e => Heap.get?_push_of_some _ (keep2 b o e)) ?_ (fun h' tk k1 k2 => ⟨rfl, h h' tk (fun b o e => k1 b o (Nat.ne_of_lt (Heap.lt_size e)) (Nat.ne_of_lt (Nat.lt_trans (Heap.lt_size e) hDlt)) e) k2⟩)⟩
  · intro hm
    rcases List.mem_cons.mp hm with e | hm
    · exact absurd hDlt (e ▸ Nat.lt_irrefl _)
    · exact hneD (List.mem_singleton.mp hm).symm
  · intro i v hv
    have hv' : vs.toArray[i]? = some v := hv
    obtain ⟨a, k, t, x, e, ht, hp⟩ := hP i v (by simpa using hv')
    have hla : a < s.heap.objs.size := by obtain ⟨o, e, _⟩ := ht; exact Heap.lt_size e
    exact ⟨a, k, t, x, e, ht, hp, Nat.ne_of_lt hla, Nat.ne_of_lt (Nat.lt_trans hla hDlt)⟩
  · obtain ⟨o, e, r⟩ := Heap.dictOf_iff.mp hD2
    rw [List.take_zero]
    exact Heap.dictOf_iff.mpr ⟨o, Heap.get?_push_of_some _ e, r⟩
end
end
example : Zz 0 := by (try walk1); exact trivial
local macro_rules | `(tactic| walk_at "call ref") => `(tactic| (k_here; focus (k_dflt (refine' setU ?_ ?_ ?_ ?_ ?_ ?_ _ _ _ ?_; rotate_left 21; walk_at "mine site"; k_asm; k_ne; k_ne; k_ne; walk_at "mine le"; walk_at "mine after"))))
section
example : Zz 0 := by (try walk1); exact trivial
local macro_rules | `(tactic| walk_at "exec For Name Name cons nil") => `(tactic| walk_at "mine for")
theorem setStates_le (D : BD) (x : Str) (b : Bool) : (setStates D x b).length ≤ D.length + 5 := by
  unfold setStates
  cases b
  · have := putB_length D x false
    simpa using (by omega : (putB D x false).length ≤ D.length + 5)
  · have h1 := foldl_put_length (groupOf x) D
    have h2 := group_le x
    have h3 := putB_length ((groupOf x).foldl (fun D o => putB D o false) D) x true
    simpa using (by omega : (putB ((groupOf x).foldl (fun D o => putB D o false) D) x true).length ≤ D.length + 5)
def fOff (_ : Str) : Bool := false
def fFirst (x : Str) : Bool := decide (x ∈ firstOn)
def softOf (D : BD) : BD := setStates (softFirst.foldl (fun D x => setStates D x (fFirst x)) (softOff.foldl (fun D x => setStates D x (fOff x)) D)) (Str.ofString "show_cursor") true
theorem foldl_set_le (f : Str → Bool) (ys : List Str) : ∀ D : BD, (ys.foldl (fun D x => setStates D x (f x)) D).length ≤ D.length + 5 * ys.length := by
  induction ys with
  | nil => intro D; simp
  | cons y r ih =>
    intro D
    have h1 := ih (setStates D y (f y))
    have h2 := setStates_le D y (f y)
    simp only [List.foldl_cons, List.length_cons]
    omega
set_option maxHeartbeats 8000000 in
theorem soft_spec {w : World} {pgm : Program} {loo : List Str} {mean : ExcName → Option Value} {mg mb : Str → Option Value} {M dM S Kp : Addr} {h1 h2 : Int} {t1 t2 : Tok} {n : Nat} {oS : Obj} {D : BD} (hS : BoolDict w oS D) (hn1 : @Ne Nat M dM) (hn2 : @Ne Nat M S) (hn3 : @Ne Nat dM S) (hz : D.length ≤ 700) :
    Spec w pgm loo mean mg mb (.ref 118) 840 8600 [.ref M] [(M, instObj 86 dM), (dM, modesD h1 t1 S h2 t2 Kp n), (S, oS)] (fun r foot' => ∃ oS', r = .none ∧ foot' = [(M, instObj 86 dM), (dM, modesD h1 t1 S h2 t2 Kp n), (S, oS')] ∧ BoolDict w oS' (softOf D)) := by
  (k_dflt (refine' spec_of (binds := [(Str.ofString "modes", .ref M)]) ?k6 ?k7 ?k8 ?k9 ?kB ?_ ?c2 ?c3 ?c4 ?c5; (case k6 => k_is); (case k7 => k_is); (case k8 => decide); (case k9 => exact fun s X => BindsTo.of_eq rfl); (case c5 => decide); (case kB => exact locs rfl); (case c2 => exact rfl); (case c3 => exact rfl); (case c4 => exact rfl); k_whole); intro ev A₀ base g' L' h₁ s tk₁ hdp hun B' F' N' X' T' hlt QL hL; k_lt hlt; (replace F' := binds_fr F'); (try dsimp only [BindsMap] at F'))
  obtain ⟨oT, vs, hg, hso, hSt⟩ := softOff_at X'
  obtain ⟨oT2, vs2, hg2, hso2, hSt2⟩ := softFirst_at X'
  have tfo := firstOn_at X'
  have hz' : D.length ≤ 900 := by omega
  k_steps
  all_goals (try dsimp only)
  refine ForSrc.base (vs := vs) (fun i nx => ∃ oS', nx = [(M, instObj 86 dM), (dM, modesD h1 t1 S h2 t2 Kp n), (S, oS')] ∧ BoolDict w oS' ((softOff.take i).foldl (fun D x => setStates D x (fOff x)) (D))) rfl hg hso (by k_asm) (by k_asm) ⟨_, rfl, hS⟩ ?_ ?_
  · rintro i v nx h tk I oI hv ⟨oS', rfl, hS'⟩ ho F1 N1 QT hT
    obtain ⟨y, t, hy, rfl⟩ := strs_at hSt i v hv
    have hlen := foldl_set_le fOff (softOff.take i) (D)
    have hgl : softOff.length ≤ 6 := by decide
    have htl : (softOff.take i).length ≤ 6 := by rw [List.length_take]; omega
    skip
    have hz1 : ((softOff.take i).foldl (fun D x => setStates D x (fOff x)) (D)).length ≤ 900 := by omega
    have hoA := OffAll.ap ho
    dsimp only [List.map] at hoA
    simp only [OffAll, and_true] at ho
    simp only [List.cons_append, List.nil_append] at N1
    k_steps
    all_goals (try refine hT _ _ ?_)
    refine TurnEnd.base [(M, instObj 86 dM), (dM, modesD h1 t1 S h2 t2 Kp n), (S, _)] (by k_asm) (by k_asm) (fun p hp => List.mem_append_left [(I, oI)] hp) (List.mem_append_right [(M, instObj 86 dM), (dM, modesD h1 t1 S h2 t2 Kp n), (S, _)] (.head _)) (OffAll.all ⟨ho.1, ho.2.1, ho.2.2, trivial⟩) (fun y hy => if_neg hy) ⟨_, rfl, ?_⟩
    rw [take_succ_foldl _ _ _ _ _ hy]; k_asm
  · rintro u nx h tk ⟨oS', rfl, hS'⟩ F1 N1
    rw [strs_length hSt, List.take_length] at hS'
    replace F1 : Fr g' L' h _ := F1
    replace N1 : News g' L' h _ := N1
    have hb1 : (softOff.foldl (fun D x => setStates D x (fOff x)) D).length ≤ 730 := by
      have := foldl_set_le fOff softOff D
      have : softOff.length = 6 := rfl
      omega
    dsimp only
    k_steps
    all_goals (try dsimp only)
    refine ForSrc.base (vs := vs2) (fun i nx => ∃ oS', nx = [(M, instObj 86 dM), (dM, modesD h1 t1 S h2 t2 Kp n), (S, oS')] ∧ BoolDict w oS' ((softFirst.take i).foldl (fun D x => setStates D x (fFirst x)) (softOff.foldl (fun D x => setStates D x (fOff x)) D))) rfl hg2 hso2 (by k_asm) (by k_asm) ⟨_, rfl, hS'⟩ ?_ ?_
    · rintro i v nx h tk I oI hv ⟨oS', rfl, hS'⟩ ho F1 N1 QT hT
      obtain ⟨y, t, hy, rfl⟩ := strs_at hSt2 i v hv
      have hlen := foldl_set_le fFirst (softFirst.take i) (softOff.foldl (fun D x => setStates D x (fOff x)) D)
      have hgl : softFirst.length ≤ 6 := by decide
      have htl : (softFirst.take i).length ≤ 6 := by rw [List.length_take]; omega
      have hb2 := hb1
      have hz1 : ((softFirst.take i).foldl (fun D x => setStates D x (fFirst x)) (softOff.foldl (fun D x => setStates D x (fOff x)) D)).length ≤ 900 := by omega
      have hoA := OffAll.ap ho
      dsimp only [List.map] at hoA
      simp only [OffAll, and_true] at ho
      simp only [List.cons_append, List.nil_append] at N1
      k_steps
      all_goals (try refine hT _ _ ?_)
      refine TurnEnd.base [(M, instObj 86 dM), (dM, modesD h1 t1 S h2 t2 Kp n), (S, _)] (by k_asm) (by k_asm) (fun p hp => List.mem_append_left [(I, oI)] hp) (List.mem_append_right [(M, instObj 86 dM), (dM, modesD h1 t1 S h2 t2 Kp n), (S, _)] (.head _)) (OffAll.all ⟨ho.1, ho.2.1, ho.2.2, trivial⟩) (fun y hy => if_neg hy) ⟨_, rfl, ?_⟩
      rw [take_succ_foldl _ _ _ _ _ hy]; k_asm
    · rintro u nx h tk ⟨oS', rfl, hS'⟩ F1 N1
      rw [strs_length hSt2, List.take_length] at hS'
      replace F1 : Fr g' L' h _ := F1
      replace N1 : News g' L' h _ := N1
      have hz3 : (softFirst.foldl (fun D x => setStates D x (fFirst x)) (softOff.foldl (fun D x => setStates D x (fOff x)) D)).length ≤ 900 := by
        have := foldl_set_le fFirst softFirst (softOff.foldl (fun D x => setStates D x (fOff x)) D)
        have : softFirst.length = 3 := rfl
        omega
      dsimp only
      k_steps
      all_goals (try dsimp only)
      exact hL.leave (by k_asm) (by k_asm) (foot' := [(M, instObj 86 dM), (dM, modesD h1 t1 S h2 t2 Kp n), (S, _)]) (fun p hp => hp) ⟨_, rfl, rfl, by k_asm⟩
theorem softU {w : World} {pgm : Program} {loo : List Str} {mean : ExcName → Option Value} {mg mb : Str → Option Value} {M dM S Kp : Addr} {h1 h2 : Int} {t1 t2 : Tok} {n : Nat} {oS : Obj} {D : BD} {dp un : Nat} {gd : Option (List Code)} {cn : Str} {cs : Scope} {za : Addr} {ccd : Value} {cl : List (Str × Addr)} {outer : List Env} {A₀ : Around} {base h₀ : Heap} {zL : Addr} {zm : Str → Option Value} {zn zr : Led} {zs : Shared} {zQ zE : Value → Shared → Prop} (zS : Site w pgm loo mean mg mb 840 8600 dp un cs outer A₀ base h₀ zL zs.heap zm zn ∧ Picks [(M, instObj 86 dM), (dM, modesD h1 t1 S h2 t2 Kp n), (S, oS)] zn zr ∧ Apart [(M, instObj 86 dM), (dM, modesD h1 t1 S h2 t2 Kp n), (S, oS)] zr) (hS : BoolDict w oS D) (hn1 : @Ne Nat M dM) (hn2 : @Ne Nat M S) (hn3 : @Ne Nat dM S) (hz : D.length ≤ 700)
    (zh : ∀ h9 tk9, Fr h₀ zL h9 zm → ∀ oS', BoolDict w oS' (softOf D) → News h₀ zL h9 ((M, instObj 86 dM) :: (dM, modesD h1 t1 S h2 t2 Kp n) :: (S, oS') :: zr) → zQ (.none) { zs with heap := h9, toks := tk9 }) :
    wpAny (model PySem.Challenge.rw_og0244_01.row.prog w) (ktrTop dp un gd cn cs zL za ccd cl outer) (call (.ref 118) [.ref M]) zQ zE zs :=
  soft_spec hS hn1 hn2 hn3 hz _ _ _ _ _ _ _ _ _ _ _ _ _ _ _ _ _ _ _ zS.1.B zS.1.F zS.1.X zS.1.T zS.1.k zS.1.d zS.1.u zS.1.N zS.2.1 zS.2.2 fun r foot h9 tk9 hp F9 N9 ap => by
    obtain ⟨oS', rfl, rfl, y0⟩ := hp
    exact zh h9 tk9 F9 oS' y0 N9
end
section
example : Zz 0 := by (try walk1); exact trivial
def fixedModes : List Int := [1, 5, 7, 10, 11, 13, 14, 15, 16, 17, 18, 19]
def IntsAt (h : Heap) (l : Addr) (ys : List Int) : Prop := ∃ o vs, h.get? l = some o ∧ SeqObj o vs ∧ IntsAre vs ys
theorem intsAt_of {K : Frag} {h : Heap} {a : Addr} {cls : Value} {dd : Option Addr} {its : Array Value} {n : Nat} {sl : Array (Option Value)} {ys : List Int} (X : K.In h) (e : K.lookup a = some ⟨cls, dd, .seq its n, sl⟩)
    (hc : cls = .type "list" ∨ cls = .type "tuple") (hS : IntsAre its.toList ys) : IntsAt h a ys := ⟨_, its.toList, X _ _ e, ⟨hc, n, by simp⟩, hS⟩
theorem fixed_at {w : World} {h : Heap} (X : (pre.heap_1 w.params).In h) : IntsAt h 24 fixedModes := by
  k_dflt (refine' intsAt_of X ?e ?c ?s; (case e => k_is); (case c => exact .inr rfl); (case s => exact .cons _ _ (.cons _ _ (.cons _ _ (.cons _ _ (.cons _ _ (.cons _ _ (.cons _ _ (.cons _ _ (.cons _ _ (.cons _ _ (.cons _ _ (.cons _ _ .nil)))))))))))))
theorem any_isInt {x : Int} : ∀ {vs : List Value} {ys : List Int}, IntsAre vs ys → vs.any (isInt x) = decide (x ∈ ys)
  | _, _, .nil => by simp
  | _, _, .cons y t h => by
    rw [List.any_cons, any_isInt h]
    by_cases e : x = y
    · subst e; simp [isInt]
    · have : isInt x (.int y t) = false := by
        simp only [isInt]
        first | exact beq_eq_false_iff_ne.mpr (Ne.symm e) | exact beq_eq_false_iff_ne.mpr e
      simp [this, e]
example : Zz 0 := by (try walk1); exact trivial
section
variable {w : World} {A : Around} {E : Value → Shared → Prop} {s : Shared} {h₀ : Heap} {L l : Addr} {m : Str → Option Value} {news : Led} {x : Int} {t : Tok} {ys : List Int} {Q : Value → Shared → Prop}
theorem in_ints (F : Fr h₀ L s.heap m) (hb : IntsAt h₀ l ys) (h : Q (.bool (decide (x ∈ ys))) s) : wpAny (model PySem.Challenge.rw_og0244_01.row.prog w) A (compareOp .In (.int x t) (.ref l)) Q E s := by
  obtain ⟨o, vs, ho, ⟨hc, n, hd⟩, hS⟩ := hb
  have ho := F.keep _ _ ho
  obtain ⟨cls, dd, data, sl⟩ := o
  simp only at hc hd
  subst hd
  rcases hc with rfl | rfl
  · refine PySem.SeqInW.in_listW (items := vs.toArray) (isInt x) (fun y hy => eq_isInt x t hS y (by simpa using hy)) ⟨_, ho, rfl, n, rfl⟩ ?_
    rw [List.any_toArray, any_isInt hS]; exact h
  · refine in_tuple_ints (items := vs.toArray) ⟨_, ho, rfl, n, rfl⟩ (by simpa using hS) ?_
    have e : (ys.any (· == x)) = decide (x ∈ ys) := by
      rw [Bool.eq_iff_iff, List.any_eq_true, decide_eq_true_eq]
      exact ⟨fun ⟨y, hy, e⟩ => (beq_iff_eq.mp e) ▸ hy, fun h => ⟨x, h, beq_self_eq_true x⟩⟩
    rw [e]; exact h
end
example : Zz 0 := by (try walk1); exact trivial
local macro_rules | `(tactic| walk_at "compareOp In int ref") => `(tactic| (k_here; k_dflt (refine' in_ints ?_ ?_ ?_; rotate_left 4; k_asm; k_asm; k_whole)))
def reportOf (D : BD) (number : Int) (b : Bool) : Int := match (wordTab b).lookup number with
  | none => if b = false ∧ number ∈ fixedModes then 4 else 0
  | some x => if onB D x then 1 else 2
theorem int_same {a b : Int} {t : Tok} (h : b = a) : Value.int a t = Value.int b t := by rw [h]
theorem rep4 {D : BD} {number : Int} (hw : (wordTab false).lookup number = none) (h : number ∈ fixedModes) : reportOf D number false = 4 := by unfold reportOf; rw [hw]; simp [h]
theorem rep0 {D : BD} {number : Int} (hw : (wordTab false).lookup number = none) (h : ¬ number ∈ fixedModes) : reportOf D number false = 0 := by unfold reportOf; rw [hw]; simp [h]
theorem rep0' {D : BD} {number : Int} (hw : (wordTab true).lookup number = none) : reportOf D number true = 0 := by unfold reportOf; rw [hw]; simp
theorem rep1 {D : BD} {number : Int} {b : Bool} {x : Str} (hw : (wordTab b).lookup number = some x) (h : onB D x = true) : reportOf D number b = 1 := by unfold reportOf; rw [hw]; simp [h]
theorem rep2 {D : BD} {number : Int} {b : Bool} {x : Str} (hw : (wordTab b).lookup number = some x) (h : onB D x = false) : reportOf D number b = 2 := by unfold reportOf; rw [hw]; simp [h]
set_option maxHeartbeats 8000000 in
theorem report_spec {w : World} {pgm : Program} {loo : List Str} {mean : ExcName → Option Value} {mg mb : Str → Option Value} {M dM S Kp : Addr} {h1 h2 : Int} {t1 t2 : Tok} {n : Nat} {oS : Obj} {D : BD} (hS : BoolDict w oS D) (hlo : (S == sysModules) = false) (hn1 : @Ne Nat M dM) (hn2 : @Ne Nat M S) (hn3 : @Ne Nat dM S) (number : Int) (tk : Tok) (b : Bool) :
    Spec w pgm loo mean mg mb (.ref 97) 840 8600 [.ref M, .int number tk, .bool b] [(M, instObj 86 dM), (dM, modesD h1 t1 S h2 t2 Kp n), (S, oS)] (fun r foot' => ∃ t, r = .int (reportOf D number b) t ∧ foot' = [(M, instObj 86 dM), (dM, modesD h1 t1 S h2 t2 Kp n), (S, oS)]) := by
  cases b
  · (k_dflt (refine' spec_of (binds := [(Str.ofString "modes", .ref M), (Str.ofString "number", .int number tk), (Str.ofString "is_private", .bool false)]) ?k6 ?k7 ?k8 ?k9 ?kB ?_ ?c2 ?c3 ?c4 ?c5; (case k6 => k_is); (case k7 => k_is); (case k8 => decide); (case k9 => exact fun s X => BindsTo.of_eq rfl); (case c5 => decide); (case kB => exact locs rfl); (case c2 => exact rfl); (case c3 => exact rfl); (case c4 => exact rfl); k_whole); intro ev A₀ base g' L' h₁ s tk₁ hdp hun B' F' N' X' T' hlt QL hL; k_lt hlt; (replace F' := binds_fr F'); (try dsimp only [BindsMap] at F'))
    have tf := fixed_at X'
    k_steps
    all_goals (try dsimp only)
    · exact hL.leave (by k_asm) (by k_asm) (foot' := [(M, instObj 86 dM), (dM, modesD h1 t1 S h2 t2 Kp n), (S, oS)]) (fun p hp => hp) ⟨_, int_same (rep4 (D := D) (by assumption) (by assumption)), rfl⟩
    · exact hL.leave (by k_asm) (by k_asm) (foot' := [(M, instObj 86 dM), (dM, modesD h1 t1 S h2 t2 Kp n), (S, oS)]) (fun p hp => hp) ⟨_, int_same (rep0 (D := D) (by assumption) (by assumption)), rfl⟩
    · exact hL.leave (by k_asm) (by k_asm) (foot' := [(M, instObj 86 dM), (dM, modesD h1 t1 S h2 t2 Kp n), (S, oS)]) (fun p hp => hp) ⟨_, int_same (rep1 (D := D) (by assumption) (by assumption)), rfl⟩
    · exact hL.leave (by k_asm) (by k_asm) (foot' := [(M, instObj 86 dM), (dM, modesD h1 t1 S h2 t2 Kp n), (S, oS)]) (fun p hp => hp) ⟨_, int_same (rep2 (D := D) (by assumption) (by assumption)), rfl⟩
  · (k_dflt (refine' spec_of (binds := [(Str.ofString "modes", .ref M), (Str.ofString "number", .int number tk), (Str.ofString "is_private", .bool true)]) ?k6 ?k7 ?k8 ?k9 ?kB ?_ ?c2 ?c3 ?c4 ?c5; (case k6 => k_is); (case k7 => k_is); (case k8 => decide); (case k9 => exact fun s X => BindsTo.of_eq rfl); (case c5 => decide); (case kB => exact locs rfl); (case c2 => exact rfl); (case c3 => exact rfl); (case c4 => exact rfl); k_whole); intro ev A₀ base g' L' h₁ s tk₁ hdp hun B' F' N' X' T' hlt QL hL; k_lt hlt; (replace F' := binds_fr F'); (try dsimp only [BindsMap] at F'))
    k_steps
    all_goals (try dsimp only)
    · exact hL.leave (by k_asm) (by k_asm) (foot' := [(M, instObj 86 dM), (dM, modesD h1 t1 S h2 t2 Kp n), (S, oS)]) (fun p hp => hp) ⟨_, int_same (rep0' (D := D) (by assumption)), rfl⟩
    · exact hL.leave (by k_asm) (by k_asm) (foot' := [(M, instObj 86 dM), (dM, modesD h1 t1 S h2 t2 Kp n), (S, oS)]) (fun p hp => hp) ⟨_, int_same (rep1 (D := D) (by assumption) (by assumption)), rfl⟩
    · exact hL.leave (by k_asm) (by k_asm) (foot' := [(M, instObj 86 dM), (dM, modesD h1 t1 S h2 t2 Kp n), (S, oS)]) (fun p hp => hp) ⟨_, int_same (rep2 (D := D) (by assumption) (by assumption)), rfl⟩
theorem reportU {w : World} {pgm : Program} {loo : List Str} {mean : ExcName → Option Value} {mg mb : Str → Option Value} {M dM S Kp : Addr} {h1 h2 : Int} {t1 t2 : Tok} {n : Nat} {oS : Obj} {D : BD} {dp un : Nat} {gd : Option (List Code)} {cn : Str} {cs : Scope} {za : Addr} {ccd : Value} {cl : List (Str × Addr)} {outer : List Env} {A₀ : Around} {base h₀ : Heap} {zL : Addr} {zm : Str → Option Value} {zn zr : Led} {zs : Shared} {zQ zE : Value → Shared → Prop} (zS : Site w pgm loo mean mg mb 840 8600 dp un cs outer A₀ base h₀ zL zs.heap zm zn ∧ Picks [(M, instObj 86 dM), (dM, modesD h1 t1 S h2 t2 Kp n), (S, oS)] zn zr ∧ Apart [(M, instObj 86 dM), (dM, modesD h1 t1 S h2 t2 Kp n), (S, oS)] zr) (hS : BoolDict w oS D) (hlo : (S == sysModules) = false) (hn1 : @Ne Nat M dM) (hn2 : @Ne Nat M S) (hn3 : @Ne Nat dM S) (number : Int) (tk : Tok) (b : Bool)
    (zh : ∀ h9 tk9, Fr h₀ zL h9 zm → ∀ t, News h₀ zL h9 ((M, instObj 86 dM) :: (dM, modesD h1 t1 S h2 t2 Kp n) :: (S, oS) :: zr) → zQ (.int (reportOf D number b) t) { zs with heap := h9, toks := tk9 }) :
    wpAny (model PySem.Challenge.rw_og0244_01.row.prog w) (ktrTop dp un gd cn cs zL za ccd cl outer) (call (.ref 97) [.ref M, .int number tk, .bool b]) zQ zE zs :=
  report_spec hS hlo hn1 hn2 hn3 number tk b _ _ _ _ _ _ _ _ _ _ _ _ _ _ _ _ _ _ _ zS.1.B zS.1.F zS.1.X zS.1.T zS.1.k zS.1.d zS.1.u zS.1.N zS.2.1 zS.2.2 fun r foot h9 tk9 hp F9 N9 ap => by
    obtain ⟨t, rfl, rfl⟩ := hp
    exact zh h9 tk9 F9 t  N9
end
section
def Stop (P : Prop) : Prop := P
theorem stop_ {P : Prop} (h : Stop P) : P := h
theorem sA (h : Stop (wpAny x1 x2 (setAttr (Value.ref x3) x4 (Value.bool (@BEq.beq xa xi x5 x6))) zQ zE zs)) : wpAny x1 x2 (setAttr (Value.ref x3) x4 (Value.bool (@BEq.beq xa xi x5 x6))) zQ zE zs := h
theorem sB (h : Stop (wpAny x1 x2 (execs [PySem.Stmt.If (PySem.Expr.BoolOp x3 x4 x5) x6 x7 x8] x9) zQ zE zs)) : wpAny x1 x2 (execs [PySem.Stmt.If (PySem.Expr.BoolOp x3 x4 x5) x6 x7 x8] x9) zQ zE zs := h
theorem sR (h : Stop (wpAny x1 (Around.deeper callerA x2) (execs (PySem.Stmt.For x3 x4 x5 x6 x7 :: x8) x9) zQ zE zs)) : wpAny x1 (Around.deeper callerA x2) (execs (PySem.Stmt.For x3 x4 x5 x6 x7 :: x8) x9) zQ zE zs := h
theorem sD (h : Stop (wpAny x1 (Around.deeper callerA x2) x3 zQ zE zs)) : wpAny x1 (Around.deeper callerA x2) x3 zQ zE zs := h
theorem sC231 (h : Stop (wpAny x1 x2 (call (Value.ref 231) x3) zQ zE zs)) : wpAny x1 x2 (call (Value.ref 231) x3) zQ zE zs := h
def eightW : Str := Str.ofString "eight_bits"
def known : List Str := plainTab.map (·.2) ++ privTab.map (·.2) ++ [eightW]
structure Inv (D : BD) (ss : List Str) (K : BD) : Prop where
  on : ∀ x, onB D x = decide (x ∈ ss)
  nd : ss.Nodup
  ndD : (D.map (·.1)).Nodup
  kD : ∀ x ∈ D.map (·.1), x ∈ known
  ndK : (K.map (·.1)).Nodup
  kK : ∀ x ∈ K.map (·.1), x ∈ known
theorem nodup_len {l k : List Str} (h : l.Nodup) (hs : ∀ x ∈ l, x ∈ k) : l.length ≤ k.length := by
  induction l generalizing k with
  | nil => simp
  | cons a l ih =>
    have ha : a ∈ k := hs a (.head _)
    have h' := List.nodup_cons.mp h
    have := ih h'.2 (k := k.erase a) (fun x hx => (List.mem_erase_of_ne (fun (e : x = a) => h'.1 (e ▸ hx))).mpr (hs x (.tail _ hx)))
    rw [List.length_erase_of_mem ha] at this
    have : 0 < k.length := List.length_pos_of_mem ha
    simp only [List.length_cons]; omega
theorem known_len : known.length = 41 := by decide +kernel
theorem getB_mem' {D : BD} {x : Str} {b : Bool} (h : getB D x = some b) : x ∈ D.map (·.1) := by
  unfold getB at h
  cases hf : D.find? (fun p => p.1 = x) with
  | none => rw [hf] at h; cases h
  | some q =>
    have h1 := List.find?_some hf
    have h2 := List.mem_of_find?_eq_some hf
    exact List.mem_map.mpr ⟨q, h2, by simpa using h1⟩
theorem onB_mem {D : BD} {x : Str} (h : onB D x = true) : x ∈ D.map (·.1) := by
  unfold onB at h
  cases hg : getB D x with
  | none => rw [hg] at h; cases h
  | some b => exact getB_mem' hg
theorem Inv.zD {D K : BD} {ss : List Str} (h : Inv D ss K) : D.length ≤ 41 := by
  have := nodup_len h.ndD h.kD
  rw [known_len, List.length_map] at this; exact this
theorem Inv.zK {D K : BD} {ss : List Str} (h : Inv D ss K) : K.length ≤ 41 := by
  have := nodup_len h.ndK h.kK
  rw [known_len, List.length_map] at this; exact this
theorem Inv.zs {D K : BD} {ss : List Str} (h : Inv D ss K) : ss.length ≤ 41 := by
  have := nodup_len h.nd (k := known) fun x hx => h.kD x (onB_mem (by rw [h.on x]; exact decide_eq_true hx))
  rw [known_len] at this; exact this
theorem getB_cons {p : Str × Bool} {D : BD} {y : Str} : getB (p :: D) y = if p.1 = y then some p.2 else getB D y := by
  unfold getB
  rw [List.find?_cons]
  by_cases h : p.1 = y
  · simp only [h, decide_true, if_true]; rfl
  · simp only [h, decide_false, if_false]
theorem getB_map {D : BD} {x y : Str} {b : Bool} : getB (D.map fun p => if p.1 = x then (p.1, b) else p) y = if y = x ∧ (getB D x).isSome = true then some b else getB D y := by
  induction D with
  | nil => simp [getB]
  | cons p D ih =>
    rw [List.map_cons, getB_cons, ih, getB_cons, getB_cons]
    by_cases hp : p.1 = x
    · by_cases hy : y = x
      · subst hy; simp [hp]
      · have hxy : ¬ x = y := fun e => hy e.symm
        simp [hp, hxy, hy]
    · by_cases hpy : p.1 = y
      · have : ¬ y = x := fun e => hp (hpy.trans e)
        simp [hp, hpy, this]
      · simp [hp, hpy]
theorem getB_putB {D : BD} {x y : Str} {b : Bool} : getB (putB D x b) y = if y = x then some b else getB D y := by
  unfold putB
  by_cases ha : D.any (fun p => decide (p.1 = x)) = true
  · rw [if_pos ha, getB_map]
    have : (getB D x).isSome = true := by
      obtain ⟨p, hp, hq⟩ := List.any_eq_true.mp ha
      exact getB_mem (List.mem_map.mpr ⟨p, hp, by simpa using hq⟩)
    simp [this]
  · rw [if_neg ha]
    unfold getB
    rw [List.find?_append]
    by_cases hy : y = x
    · subst hy
      have : D.find? (fun p => decide (p.1 = y)) = none := by
        rw [List.find?_eq_none]
        intro p hp hq
        exact ha (List.any_eq_true.mpr ⟨p, hp, hq⟩)
      simp [this]
    · have hxy : ¬ x = y := fun e => hy e.symm
      cases D.find? (fun p => decide (p.1 = y)) <;> simp [hy, hxy]
theorem onB_putB {D : BD} {x y : Str} {b : Bool} : onB (putB D x b) y = if y = x then b else onB D y := by
  unfold onB
  rw [getB_putB]
  split <;> rfl
theorem onB_offs {l : List Str} {D : BD} {y : Str} : onB (l.foldl (fun D o => putB D o false) D) y = if y ∈ l then false else onB D y := by
  induction l generalizing D with
  | nil => simp
  | cons a l ih =>
    rw [List.foldl_cons, ih, onB_putB]
    by_cases h1 : y ∈ l
    · simp [h1]
    · by_cases h2 : y = a <;> simp [h1, h2]
theorem onB_set {D : BD} {x y : Str} {b : Bool} : onB (setStates D x b) y = if y = x then b else if b = true ∧ y ∈ groupOf x then false else onB D y := by
  unfold setStates
  rw [onB_putB]
  by_cases h : y = x
  · simp [h]
  · rw [if_neg h, if_neg h]
    cases b
    · simp
    · simp only [if_true, true_and]
      exact onB_offs
theorem keys_putB {D : BD} {x y : Str} {b : Bool} : y ∈ (putB D x b).map (·.1) ↔ y = x ∨ y ∈ D.map (·.1) := by
  constructor
  · intro h
    have := getB_mem h
    rw [getB_putB] at this
    by_cases hy : y = x
    · exact .inl hy
    · rw [if_neg hy] at this
      cases hg : getB D y with
      | none => rw [hg] at this; cases this
      | some b => exact .inr (getB_mem' hg)
  · intro h
    have : (getB (putB D x b) y).isSome = true := by
      rw [getB_putB]
      by_cases hy : y = x
      · simp [hy]
      · rw [if_neg hy]
        rcases h with h | h
        · exact absurd h hy
        · exact getB_mem h
    cases hg : getB (putB D x b) y with
    | none => rw [hg] at this; cases this
    | some b => exact getB_mem' hg
theorem nd_putB {D : BD} {x : Str} {b : Bool} (h : (D.map (·.1)).Nodup) : ((putB D x b).map (·.1)).Nodup := by
  unfold putB
  by_cases ha : D.any (fun p => decide (p.1 = x)) = true
  · rw [if_pos ha, List.map_map]
    have e : ((fun p : Str × Bool => p.1) ∘ fun p => if p.1 = x then (p.1, b) else p) = fun p => p.1 := by
      funext p
      by_cases hp : p.1 = x <;> simp [hp]
    rw [e]; exact h
  · rw [if_neg ha, List.map_append, List.nodup_append]
    refine ⟨h, by simp, ?_⟩
    intro a ha' c hc e
    simp only [List.map_cons, List.map_nil, List.mem_singleton] at hc
    obtain ⟨p, hp, hq⟩ := List.mem_map.mp ha'
    exact ha (List.any_eq_true.mpr ⟨p, hp, by simpa using (hq.trans (e.trans hc))⟩)
theorem keys_offs {l : List Str} {D : BD} {y : Str} : y ∈ (l.foldl (fun D o => putB D o false) D).map (·.1) ↔ y ∈ l ∨ y ∈ D.map (·.1) := by
  induction l generalizing D with
  | nil => simp
  | cons a l ih =>
    rw [List.foldl_cons, ih, keys_putB, List.mem_cons]
    constructor
    · rintro (h | h | h)
      · exact .inl (.inr h)
      · exact .inl (.inl h)
      · exact .inr h
    · rintro ((h | h) | h)
      · exact .inr (.inl h)
      · exact .inl h
      · exact .inr (.inr h)
theorem nd_offs {l : List Str} {D : BD} (h : (D.map (·.1)).Nodup) : ((l.foldl (fun D o => putB D o false) D).map (·.1)).Nodup := by
  induction l generalizing D with
  | nil => exact h
  | cons a l ih => exact ih (nd_putB h)
theorem groupOf_known : ∀ x y, y ∈ groupOf x → y ∈ known := by
  intro x y h
  have h1 : ∀ y ∈ mouseModes, y ∈ known := by decide +kernel
  have h2 : ∀ y ∈ mouseEncs, y ∈ known := by decide +kernel
  unfold groupOf at h
  split at h
  · exact h1 y h
  · split at h
    · exact h2 y h
    · cases h
theorem keys_set {D : BD} {x y : Str} {b : Bool} (hx : x ∈ known) (hD : ∀ x ∈ D.map (·.1), x ∈ known) (h : y ∈ (setStates D x b).map (·.1)) : y ∈ known := by
  unfold setStates at h
  rcases keys_putB.mp h with rfl | h
  · exact hx
  · cases b
    · exact hD y (by simpa using h)
    · simp only [if_true] at h
      rcases keys_offs.mp h with h | h
      · exact groupOf_known x y h
      · exact hD y h
theorem nd_set {D : BD} {x : Str} {b : Bool} (h : (D.map (·.1)).Nodup) : ((setStates D x b).map (·.1)).Nodup := by
  unfold setStates
  apply nd_putB
  cases b
  · simpa using h
  · simp only [if_true]; exact nd_offs h
theorem mem_drops {gs : List (List Str)} {word y : Str} {f : List Str} : y ∈ gs.foldl (fun f g => dropGroup f word g) f ↔ y ∈ f ∧ ¬ ∃ g ∈ gs, word ∈ g ∧ y ∈ g := by
  induction gs generalizing f with
  | nil => simp
  | cons g gs ih =>
    rw [List.foldl_cons, ih]
    unfold dropGroup
    by_cases hw : word ∈ g
    · rw [if_pos hw, List.mem_filter]
      simp only [Bool.not_eq_true', decide_eq_false_iff_not, List.mem_cons]
      constructor
      · rintro ⟨⟨h1, h2⟩, h3⟩
        refine ⟨h1, ?_⟩
        rintro ⟨g', (rfl | hg'), h4, h5⟩
        · exact h2 h5
        · exact h3 ⟨g', hg', h4, h5⟩
      · rintro ⟨h1, h2⟩
        exact ⟨⟨h1, fun h => h2 ⟨g, .inl rfl, hw, h⟩⟩, fun ⟨g', hg', h4, h5⟩ => h2 ⟨g', .inr hg', h4, h5⟩⟩
    · rw [if_neg hw]
      simp only [List.mem_cons]
      constructor
      · rintro ⟨h1, h3⟩
        refine ⟨h1, ?_⟩
        rintro ⟨g', (rfl | hg'), h4, h5⟩
        · exact hw h4
        · exact h3 ⟨g', hg', h4, h5⟩
      · rintro ⟨h1, h2⟩
        exact ⟨h1, fun ⟨g', hg', h4, h5⟩ => h2 ⟨g', .inr hg', h4, h5⟩⟩
theorem mouse_apart : ∀ x ∈ mouseModes, x ∉ mouseEncs := by decide +kernel
theorem group_iff {x y : Str} : (∃ g ∈ lawGroups, x ∈ g ∧ y ∈ g) ↔ y ∈ groupOf x := by
  unfold lawGroups groupOf
  by_cases h1 : x ∈ mouseModes
  · have h2 := mouse_apart x h1
    simp [h1, h2]
  · by_cases h2 : x ∈ mouseEncs <;> simp [h1, h2]
theorem mem_lawSet {on : List Str} {x y : Str} {b : Bool} : y ∈ lawSet on x b ↔ if y = x then b = true else y ∈ on ∧ ¬ (b = true ∧ y ∈ groupOf x) := by
  unfold lawSet
  cases b
  · simp only [if_true, List.mem_filter, Bool.not_eq_true', decide_eq_false_iff_not, Bool.false_eq_true, false_and, not_false_eq_true, and_true]
    by_cases h : y = x <;> simp [h]
  · simp only [Bool.true_eq_false, if_false, List.mem_append, List.mem_singleton, mem_drops, List.mem_filter, Bool.not_eq_true', decide_eq_false_iff_not, true_and, group_iff]
    by_cases h : y = x <;> simp [h]
theorem nodup_drops {gs : List (List Str)} {word : Str} {f : List Str} (h : f.Nodup) : (gs.foldl (fun f g => dropGroup f word g) f).Nodup := by
  induction gs generalizing f with
  | nil => exact h
  | cons g gs ih =>
    apply ih
    show (dropGroup f word g).Nodup
    unfold dropGroup
    split
    · exact h.filter _
    · exact h
theorem nodup_lawSet {on : List Str} {x : Str} {b : Bool} (h : on.Nodup) : (lawSet on x b).Nodup := by
  unfold lawSet
  cases b
  · simp only [if_true]; exact h.filter _
  · simp only [Bool.true_eq_false, if_false]
    rw [List.nodup_append]
    refine ⟨nodup_drops (h.filter _), by simp, ?_⟩
    intro a ha c hc e
    have := (mem_drops.mp ha).1
    rw [List.mem_singleton.mp hc] at e
    rw [e] at this
    simp at this
theorem Inv.set {D K : BD} {ss : List Str} {x : Str} (b : Bool) (h : Inv D ss K) (hx : x ∈ known) : Inv (setStates D x b) (lawSet ss x b) K where
  on := fun y => by
    rw [onB_set, h.on y]
    by_cases hy : y = x
    · rw [if_pos hy]
      have : (y ∈ lawSet ss x b) ↔ b = true := by rw [mem_lawSet, if_pos hy]
      rw [decide_eq_decide.mpr this]; cases b <;> rfl
    · rw [if_neg hy]
      have : (y ∈ lawSet ss x b) ↔ y ∈ ss ∧ ¬ (b = true ∧ y ∈ groupOf x) := by rw [mem_lawSet, if_neg hy]
      rw [decide_eq_decide.mpr this]
      by_cases hb : b = true ∧ y ∈ groupOf x
      · rw [if_pos hb, decide_eq_false (fun q => q.2 hb)]
      · rw [if_neg hb]; exact decide_eq_decide.mpr ⟨fun q => ⟨q, hb⟩, fun q => q.1⟩
  nd := nodup_lawSet h.nd
  ndD := nd_set h.ndD
  kD := fun y hy => keys_set hx h.kD hy
  ndK := h.ndK
  kK := h.kK
theorem inv_ext {D K : BD} {ss ts : List Str} (h : Inv D ss K) (hn : ts.Nodup) (he : ∀ y, y ∈ ss ↔ y ∈ ts) : Inv D ts K where
  on := fun y => by rw [h.on y]; exact decide_eq_decide.mpr (he y)
  nd := hn
  ndD := h.ndD
  kD := h.kD
  ndK := h.ndK
  kK := h.kK
theorem Inv.sets {D K : BD} {ss : List Str} (f : Str → Bool) (l : List Str) (h : Inv D ss K) (hl : ∀ x ∈ l, x ∈ known) : Inv (l.foldl (fun D x => setStates D x (f x)) D) (l.foldl (fun s x => lawSet s x (f x)) ss) K := by
  induction l generalizing D ss with
  | nil => exact h
  | cons a l ih => exact ih (h.set (f a) (hl a (.head _))) fun x hx => hl x (.tail _ hx)
theorem mem_sets_plain (l : List Str) (f : Str → Bool) (hp : ∀ x ∈ l, groupOf x = []) (ss : List Str) (y : Str) :
    y ∈ l.foldl (fun s x => lawSet s x (f x)) ss ↔ if y ∈ l then f y = true else y ∈ ss := by
  induction l generalizing ss with
  | nil => simp
  | cons a l ih =>
    rw [List.foldl_cons, ih (fun x hx => hp x (.tail _ hx)), mem_lawSet, hp a (.head _)]
    by_cases h1 : y ∈ l
    · simp [h1]
    · by_cases h2 : y = a
      · subst h2; simp [h1]
      · simp [h1, h2]
theorem nodup_sets (l : List Str) (f : Str → Bool) {ss : List Str} (h : ss.Nodup) : (l.foldl (fun s x => lawSet s x (f x)) ss).Nodup := by
  induction l generalizing ss with
  | nil => exact h
  | cons a l ih => exact ih (nodup_lawSet h)
def softAll : List Str := softOff ++ softFirst ++ [Str.ofString "show_cursor"]
def lawAll : List Str := softWords ++ [Str.ofString "autowrap", Str.ofString "show_cursor"]
def fSoft (x : Str) : Bool := decide (x ∈ softFirst ∧ fFirst x = true) || decide (x = Str.ofString "show_cursor")
def fLaw (x : Str) : Bool := decide (x = Str.ofString "autowrap") || decide (x = Str.ofString "show_cursor")
theorem fold_congr {β : Type} (g : β → Str → Bool → β) (f f' : Str → Bool) (l : List Str) (h : ∀ x ∈ l, f x = f' x) (b : β) : l.foldl (fun s x => g s x (f x)) b = l.foldl (fun s x => g s x (f' x)) b := by
  induction l generalizing b with
  | nil => rfl
  | cons a l ih =>
    rw [List.foldl_cons, List.foldl_cons, h a (.head _)]
    exact ih (fun x hx => h x (.tail _ hx)) _
theorem softOf_eq (D : BD) : softOf D = softAll.foldl (fun D x => setStates D x (fSoft x)) D := by
  unfold softOf softAll
  rw [List.foldl_append, List.foldl_append, List.foldl_cons, List.foldl_nil, fold_congr setStates fOff fSoft softOff (by decide +kernel), fold_congr setStates fFirst fSoft softFirst (by decide +kernel)]
  rfl
theorem lawSoft_eq (ss : List Str) : lawSoft ss = lawAll.foldl (fun s x => lawSet s x (fLaw x)) ss := by
  unfold lawSoft lawAll
  rw [List.foldl_append, List.foldl_cons, List.foldl_cons, List.foldl_nil, fold_congr lawSet (fun _ => false) fLaw softWords (by decide +kernel)]
  rfl
theorem Inv.soft {D K : BD} {ss : List Str} (h : Inv D ss K) : Inv (softOf D) (lawSoft ss) K := by
  rw [softOf_eq, lawSoft_eq]
  refine inv_ext (h.sets fSoft softAll (by decide +kernel)) (nodup_sets _ _ h.nd) fun y => ?_
  rw [mem_sets_plain softAll fSoft (by decide +kernel), mem_sets_plain lawAll fLaw (by decide +kernel)]
  have e1 : ∀ x ∈ softAll, x ∈ lawAll ∧ fSoft x = fLaw x := by decide +kernel
  have e2 : ∀ x ∈ lawAll, x ∈ softAll := by decide +kernel
  by_cases hy : y ∈ softAll
  · rw [if_pos hy, if_pos (e1 y hy).1, (e1 y hy).2]
  · rw [if_neg hy, if_neg fun q => hy (e2 y q)]
theorem priv_known {k : Int} {x : Str} (h : privTab.lookup k = some x) : x ∈ known := by
  have : ∀ D : List (Int × Str), D.lookup k = some x → x ∈ D.map (·.2) := by
    intro D
    induction D with
    | nil => intro h; cases h
    | cons p D ih =>
      intro h
      rw [List.lookup_cons] at h
      split at h
      · exact List.mem_map.mpr ⟨p, .head _, Option.some.inj h⟩
      · exact List.mem_cons_of_mem _ (ih h)
  exact List.mem_append_left _ (List.mem_append_right _ (this _ h))
theorem Inv.save {D K : BD} {ss : List Str} (k : Int) (h : Inv D ss K) : Inv D ss (saveOne D K k) where
  on := h.on
  nd := h.nd
  ndD := h.ndD
  kD := h.kD
  ndK := by
    unfold saveOne
    split
    · exact h.ndK
    · exact nd_putB h.ndK
  kK := fun y hy => by
    unfold saveOne at hy
    split at hy
    · exact h.kK y hy
    · rename_i x hx
      rcases keys_putB.mp hy with rfl | hy
      · exact priv_known hx
      · exact h.kK y hy
theorem Inv.saves {D K : BD} {ss : List Str} (ns : List Int) (h : Inv D ss K) : Inv D ss (ns.foldl (saveOne D) K) := by
  induction ns generalizing K with
  | nil => exact h
  | cons a l ih => exact ih (h.save a)
theorem Inv.puts {D K : BD} {ss : List Str} (ps : BD) (h : Inv D ss K) (hp : ∀ p ∈ ps, p.1 ∈ known) : Inv (ps.foldl (fun D p => setStates D p.1 p.2) D) (ps.foldl (fun s p => lawSet s p.1 p.2) ss) K := by
  induction ps generalizing D ss with
  | nil => exact h
  | cons a l ih => exact ih (h.set a.2 (hp a (.head _))) fun x hx => hp x (.tail _ hx)
end
local macro_rules | `(tactic| kl_no) => `(tactic| (refine stop_ ?_))
section
def tupI (k : Int) (t : Tok) (n : Nat) : Obj := { cls := .type "tuple", data := .seq #[.int k t, .bool true] n }
def PairOf (R : Led) (v : Value) (k : Int) : Prop := ∃ a t n, v = .ref a ∧ (a, tupI k t n) ∈ R
theorem PairOf.more {R R' : Led} {v : Value} {k : Int} (h : PairOf R v k) (hs : ∀ p ∈ R, p ∈ R') : PairOf R' v k := by
  obtain ⟨a, t, n, e, hm⟩ := h
  exact ⟨a, t, n, e, hs _ hm⟩
section
variable {w : World} {A : Around} {h₀ : Heap} {L : Addr} {m : Str → Option Value} {env : Env} {elt : PySem.Expr} {x : Str} {scope : Scope} {cl : List (Str × Addr)} {s : Shared} {S : List (Addr × Obj) → Prop} {P : Nat → Value → Prop} {Fin : List Value → List (Addr × Obj) → Prop}
theorem n_rest {n : Nat} {d l cd : Addr} {oD oL oc : Obj} {R₀ : Led} (hD : DeckIs w d l oD oL) (hd0 : OffAll d R₀) (hl0 : OffAll l R₀)
    (turn : ∀ i v I oI C oC Dl m₂ ys h tk (E' : Value → Shared → Prop) oD oL R, P i v → LCg.NsObj oC m₂ → m₂ x = some v → DeckIs w d l oD oL → OffAll d R → OffAll l R → Fr h₀ L h m → News h₀ L h ((I, oI) :: (C, oC) :: (Dl, LCg.lst ys) :: (d, oD) :: (l, oL) :: (cd, oc) :: R) → LCg.Off3 I C Dl ((d, oD) :: (l, oL) :: (cd, oc) :: R) → ((@Ne Nat I C) ∧ (@Ne Nat I Dl) ∧ (@Ne Nat C Dl)) →
      wpAny (model PySem.Challenge.rw_og0244_01.row.prog w) A (eval elt (compEnvC scope cl C env)) (LCg.CompEnd h₀ L m { s with heap := h, toks := tk } I oI C oC Dl (LCg.lst ys) S (fun y news' => ∃ oD' oL' T k t n', y = .ref T ∧ news' = (d, oD') :: (l, oL') :: (cd, oc) :: (T, tupI k t n') :: R ∧ DeckIs w d l oD' oL' ∧ @Ne Nat T d ∧ @Ne Nat T l)) E' { s with heap := h, toks := tk })
    (fin : ∀ oD oL (ys : List Value) (ks : List Int) (R : Led), DeckIs w d l oD oL → ys.length = n → ks.length = n → (∀ (j : Nat) y, ys[j]? = some y → ∃ k, ks[j]? = some k ∧ PairOf R y k) → (∀ p ∈ R₀, p ∈ R) → OffAll d R → OffAll l R → Fin ys ((d, oD) :: (l, oL) :: (cd, oc) :: R)) :
    LCg.CompRest PySem.Challenge.rw_og0244_01.row.prog w A h₀ L m env elt x scope cl s S P Fin n 0 [] ((d, oD) :: (l, oL) :: (cd, oc) :: R₀) := by
  have key : ∀ (j i : Nat) (ys : List Value) (ks : List Int) (R : Led) (oD oL : Obj), i + j = n → ys.length = i → ks.length = i → DeckIs w d l oD oL → (∀ (j : Nat) y, ys[j]? = some y → ∃ k, ks[j]? = some k ∧ PairOf R y k) → (∀ p ∈ R₀, p ∈ R) → OffAll d R → OffAll l R →
      LCg.CompRest PySem.Challenge.rw_og0244_01.row.prog w A h₀ L m env elt x scope cl s S P Fin j i ys ((d, oD) :: (l, oL) :: (cd, oc) :: R) := by
    intro j
    induction j with
    | zero =>
      intro i ys ks R oD oL hi h1 h2 hD hp hs hd hl
      exact LCg.CompRest.zero (fin oD oL ys ks R hD (by omega) (by omega) hp hs hd hl)
    | succ j ih =>
      intro i ys ks R oD oL hi h1 h2 hD hp hs hd hl
      refine LCg.CompRest.succ ?_
      intro v I oI C oC Dl m₂ h tk E' hv hC hx F N off ne
      refine wpAny_mono (turn i v I oI C oC Dl m₂ ys h tk E' oD oL R hv hC hx hD hd hl F N off ne) (fun y s₂ hq => ?_) fun _ _ e => e
      obtain ⟨h', tk', nw, e, F', N', off', hS, oD', oL', T, k, t, n', hy, hn, hD', hTd, hTl⟩ := hq
      subst hn
      refine ⟨h', tk', _, e, F', N', off', hS, ih (i + 1) (ys ++ [y]) (ks ++ [k]) _ oD' oL' (by omega) (by simp [h1]) (by simp [h2]) hD' ?_ (fun p q => .tail _ (hs p q)) ⟨hTd, hd⟩ ⟨hTl, hl⟩⟩
      intro jj z hz
      rcases Nat.lt_or_ge jj ys.length with hj | hj
      · rw [List.getElem?_append_left hj] at hz
        obtain ⟨k', hk', hP⟩ := hp jj z hz
        exact ⟨k', by rw [List.getElem?_append_left (by omega)]; exact hk', hP.more fun p q => .tail _ q⟩
      · rw [List.getElem?_append_right hj] at hz
        have e0 : jj - ys.length = 0 := by
          rcases Nat.eq_zero_or_pos (jj - ys.length) with q | q
          · exact q
          · rw [List.getElem?_eq_none (by simp only [List.length_singleton]; exact q)] at hz; cases hz
        rw [e0] at hz
        have ez : y = z := by simpa using hz
        subst ez
        refine ⟨k, ?_, T, t, n', hy, .head _⟩
        rw [List.getElem?_append_right (Nat.le_trans (Nat.le_of_eq (h2.trans h1.symm)) hj)]
        have : jj - ks.length = 0 := (congrArg (jj - ·) (h2.trans h1.symm)).trans e0
        rw [this]; rfl
  exact key n 0 [] [] R₀ oD oL (by omega) rfl rfl hD (fun j y h => by simp at h) (fun p q => q) hd0 hl0
end
theorem dict_pairs_led {w : World} {A : Around} {E : Value → Shared → Prop} {s : Shared} {h₀ : Heap} {L : Addr} {m : Str → Option Value} {news : Led} {l : Addr} {ys : List Value} {ks : List Int} {Q : Value → Shared → Prop} (hA : A.handled = none) (F : Fr h₀ L s.heap m) (N : News h₀ L s.heap news) (T : h₀.NoLimit) (hm : (l, LCg.lst ys) ∈ news)
    (hn : ks.length = ys.length) (hz : ys.length ≤ 100) (hp : ∀ (j : Nat) y, ys[j]? = some y → ∃ k, ks[j]? = some k ∧ PairOf news y k)
    (h : ∀ d h' tk o, Fr h₀ L h' m → News h₀ L h' ((d, o) :: news) → (∀ p ∈ news, p.1 < d) → (d == sysModules) = false → o.IsDictOf (intKind PySem.Challenge.rw_og0244_01.row.prog w) (merged [] (ks.map fun k => (k, Value.bool true))) → Q (.ref d) { s with heap := h', toks := tk }) :
    wpAny (model PySem.Challenge.rw_og0244_01.row.prog w) A (call (.type "dict") [.ref l]) Q E s := by
  have hg := (N _ hm).1
  have F1 := F.push { cls := .type "dict", data := .dict #[] }
  refine call_dict_pairs (vs := ys) (ps := ks.map fun k => (k, Value.bool true)) hA hg rfl rfl rfl (by simpa using hn) hz (fun i v hv => ?_) fun h' tk keep hd => ?_
  · obtain ⟨k, hk, a, t, n, e, ha⟩ := hp i v hv
    exact ⟨a, k, t, .bool true, e, ⟨_, (N _ ha).1, rfl, n, rfl⟩, by simp [hk]⟩
  · obtain ⟨o, ho, hdo⟩ := Heap.dictOf_iff.mp hd
    obtain ⟨oL, es, ep, hL, hLd, hLk, hLf⟩ := F.ns
    have hlow : h₀.get? s.heap.objs.size = none := next_is_new F
    have hneL : s.heap.objs.size ≠ L := Ne.symm (Nat.ne_of_lt F.ns.lt)
    refine h _ h' tk o ⟨⟨oL, es, ep, keep L oL hL, hLd, hLk, hLf⟩, fun b ob e => keep b ob (F.keep b ob e), F.above⟩ ?_ (fun p hp => Heap.lt_size (N p hp).1) (F.notModules (modules_low T)) hdo
    intro p hp
    rcases List.mem_cons.mp hp with rfl | hp
    · exact ⟨ho, hneL, hlow⟩
    · exact ⟨keep _ _ (N p hp).1, (N p hp).2⟩
end
section
def WObj (w : World) (o : Obj) (O Q : Addr) : Prop := o.IsDictOf (strKind PySem.Challenge.rw_og0244_01.row.prog w) [(Str.ofString "on", .ref O), (Str.ofString "kept", .ref Q)]
section
variable {w : World} {A : Around} {E : Value → Shared → Prop} {s : Shared} {h₀ : Heap} {L d : Addr} {m : Str → Option Value} {news : Led} {o : Obj} {O Q' : Addr} {t : Tok} {g : Obj → Led}
theorem w_item {value slice : PySem.Expr} {Q : Value → Shared → Prop} {x : Str} {v : Value} (N : News h₀ L s.heap news) (hp : (d, o) ∈ news) (hd : WObj w o O Q') (hx : x = Str.ofString "on" ∧ v = .ref O ∨ x = Str.ofString "kept" ∧ v = .ref Q') (h : Q v { s with toks := s.toks + 1 })
    (hs : subscripted slice false (.ref d) (.str x t) = operate [.ref d, .str x t] (getItem (.ref d) (.str x t)) := by with_unfolding_all rfl) (hg : ∀ r, letTemporaryGo value (.ref d) r = pure () := by intro _; with_unfolding_all rfl) :
    wpAny (model PySem.Challenge.rw_og0244_01.row.prog w) A (subscriptTail value slice (.ref d) (.str x t)) Q E s := by
  refine kda_item (knd := strKind _ _) N hp hd (strKind_is _ _ x t) ?_ h hs hg
  rcases hx with ⟨rfl, rfl⟩ | ⟨rfl, rfl⟩
  · rfl
  · rfl
theorem w_get {Q : Value → Shared → Prop} {x : Str} {v : Value} (N : News h₀ L s.heap news) (hp : (d, o) ∈ news) (hd : WObj w o O Q') (hx : x = Str.ofString "on" ∧ v = .ref O ∨ x = Str.ofString "kept" ∧ v = .ref Q') (h : Q v { s with toks := s.toks + 1 }) :
    wpAny (model PySem.Challenge.rw_og0244_01.row.prog w) A (getItem (.ref d) (.str x t)) Q E s := by
  refine kdt_getItem (knd := strKind _ _) N hp hd (strKind_is _ _ x t) ?_ h
  rcases hx with ⟨rfl, rfl⟩ | ⟨rfl, rfl⟩ <;> rfl
theorem w_put {Q : Unit → Shared → Prop} {O' : Addr} (F : Fr h₀ L s.heap m) (N : News h₀ L s.heap news) (U : UpdF d o news g) (hd : WObj w o O Q')
    (h : ∀ h' o', Fr h₀ L h' m → News h₀ L h' (g o') → WObj w o' O' Q' → Q () { s with heap := h', toks := s.toks + 1 }) : wpAny (model PySem.Challenge.rw_og0244_01.row.prog w) A (setItem (.ref d) (.str (Str.ofString "on") t) (.ref O')) Q E s :=
  kda_set (knd := strKind _ _) F N U hd (strKind_is _ _ _ t) (by rw [sizeLine_eq]; exact Nat.le_of_ble_eq_true rfl) fun h' o' F' N' hd' => h h' o' F' N' hd'
end
theorem AP1.off {a : Nat} {l : Led} (h : AP1 a (l.map (·.1))) : OffAll a l := OffAll.of fun p hp e => h.get (List.mem_map.mpr ⟨p, hp, rfl⟩) e.symm
theorem off3_ap {I C D : Addr} {l : Led} (h : LCg.Off3 I C D l) (ne : (@Ne Nat I C) ∧ (@Ne Nat I D) ∧ (@Ne Nat C D)) : AP1 I (C :: D :: l.map (·.1)) ∧ AP1 C (D :: l.map (·.1)) ∧ AP1 D (l.map (·.1)) := by
  have m := h.mem
  have key : ∀ b ∈ l.map (·.1), @Ne Nat b I ∧ @Ne Nat b C ∧ @Ne Nat b D := fun b hb => by
    obtain ⟨p, hp, rfl⟩ := List.mem_map.mp hb
    exact m p hp
  exact ⟨.cons ne.1 (.cons ne.2.1 (.mk fun b hb => Ne.symm (key b hb).1)), .cons ne.2.2 (.mk fun b hb => Ne.symm (key b hb).2.1), .mk fun b hb => Ne.symm (key b hb).2.2⟩
theorem off3_tail {I C D : Addr} {a b c : Addr × Obj} {R : Led} (h : LCg.Off3 I C D (a :: b :: c :: R)) : OffAll I R ∧ OffAll C R ∧ OffAll D R := by
  have m := h.2.2.2.mem
  exact ⟨OffAll.of fun p hp => (m p hp).1, OffAll.of fun p hp => (m p hp).2.1, OffAll.of fun p hp => (m p hp).2.2⟩
theorem off3_put {I C D : Addr} {a a' b b' c p : Addr × Obj} {R : Led} (h : LCg.Off3 I C D (a :: b :: c :: R)) (ea : a'.1 = a.1) (eb : b'.1 = b.1) (h1 : @Ne Nat p.1 I) (h2 : @Ne Nat p.1 C) (h3 : @Ne Nat p.1 D) : LCg.Off3 I C D (a' :: b' :: c :: p :: R) := by
  obtain ⟨x, y, z, t⟩ := h
  exact ⟨ea ▸ x, eb ▸ y, z, ⟨h1, h2, h3⟩, t⟩
theorem AP1.ofLtSub {d : Addr} {l sub : Led} (h : ∀ p ∈ l, p.1 < d) (hs : ∀ p ∈ sub, p ∈ l) : AP1 d (sub.map (·.1)) := AP1.ofLt fun p hp => h p (hs p hp)
theorem mem_four {x a b c : Addr × Obj} {S R : Led} (hs : ∀ p ∈ S, p ∈ R) : ∀ p ∈ a :: b :: c :: S, p ∈ x :: a :: b :: c :: R := by
  intro p hp
  simp only [List.mem_cons] at hp ⊢
  rcases hp with h | h | h | h
  · exact .inr (.inl h)
  · exact .inr (.inr (.inl h))
  · exact .inr (.inr (.inr (.inl h)))
  · exact .inr (.inr (.inr (.inr (hs p h))))
theorem mem_more {x : Addr × Obj} {S R : Led} (hs : ∀ p ∈ S, p ∈ R) : ∀ p ∈ x :: S, p ∈ x :: R := by
  intro p hp
  rcases List.mem_cons.mp hp with h | h
  · exact h ▸ .head _
  · exact .tail _ (hs p h)
theorem news_four {h₀ h : Heap} {L : Addr} {x y a b c : Addr × Obj} {S R : Led} (N : News h₀ L h (y :: x :: a :: b :: c :: R)) (hs : ∀ p ∈ S, p ∈ R) : News h₀ L h (y :: a :: b :: c :: S) := news_sub N (mem_more (mem_four hs))
theorem lt_four {d : Addr} {x a b c : Addr × Obj} {S R : Led} (h : ∀ p ∈ x :: a :: b :: c :: R, p.1 < d) (hs : ∀ p ∈ S, p ∈ R) : AP1 d ((a :: b :: c :: S).map (·.1)) := AP1.ofLtSub h (mem_four hs)
theorem rev_ints {w : World} {A : Around} {E : Value → Shared → Prop} {s : Shared} {h₀ : Heap} {L l : Addr} {m : Str → Option Value} {news : Led} {value slice : PySem.Expr} {vs : List Value} {ns : List Int} {kvs : List (Int × Value)} {c : Nat} {k : Int} {t : Tok} {Q : Value → Shared → Prop} (hk : k = -1)
    (F : Fr h₀ L s.heap m) (N : News h₀ L s.heap news) (hm : (l, W.listOf vs.toArray c) ∈ news) (hi : IntsAre vs ns) (hp : ns.Perm (kvs.map (·.1))) (hz : kvs.length < 64)
    (h : ∀ D ws ns' h', Fr h₀ L h' m → News h₀ L h' ((D, W.listOf (List.toArray ws) 0) :: news) → (∀ p ∈ news, p.1 < D) → IntsAre ws ns' → ns'.length < 64 → Q (.ref D) { s with heap := h' })
    (hs : subscripted slice false (.ref l) (.ref s.heap.objs.size) = operate [.ref l, .ref s.heap.objs.size] (getItem (.ref l) (.ref s.heap.objs.size)) := by with_unfolding_all rfl) (ht : ∀ r, letTemporaryGo value (.ref l) r = pure () := by intro _; with_unfolding_all rfl) :
    wpAny (model PySem.Challenge.rw_og0244_01.row.prog w) A (subscriptTail value slice (.ref l) (.ref s.heap.objs.size)) Q E { s with heap := s.heap.push { cls := .type "slice", data := .fields #[.none, .none, .int k t] } } := by
  subst hk
  have q := hp.length_eq
  rw [List.length_map] at q
  refine krv_ints F N (isList_led N hm) (IsPart.int _ _) hi (fun D ws h' F' N' l1 hI' hl => h D ws _ h' F' N' l1 hI' (by omega)) hs ht ?_
  rw [List.size_toArray, hi.length, sizeLine_eq]
  omega
theorem save_yes {D K : BD} {k : Int} (h : (privTab.lookup k).isSome = true) : saveOne D K k = putB K ((privTab.lookup k).getD default) (onB D ((privTab.lookup k).getD default)) := by
  unfold saveOne
  cases e : privTab.lookup k with
  | none => rw [e] at h; cases h
  | some x => rfl
theorem save_no {D K : BD} {k : Int} (h : (privTab.lookup k).isSome = false) : saveOne D K k = K := by
  unfold saveOne
  cases e : privTab.lookup k with
  | none => rfl
  | some x => rw [e] at h; cases h
def DeedPost (w : World) (d l M dM S Kp W Q : Addr) (h1 : Int) (t1 : Tok) (h2 : Int) (t2 : Tok) (n : Nat) (r : Value) (foot' : Led) : Prop :=
  ∀ R : Prop, (∀ (oD oL oS oK oW oQ : Obj) (O : Addr) (vs : List Value) (c : Nat) (D K : BD) (ss : List Str), r = .bool true →
    foot' = [(d, oD), (l, oL), (M, instObj 86 dM), (dM, modesD h1 t1 S h2 t2 Kp n), (S, oS), (Kp, oK), (W, oW), (O, PySem.W.listOf vs.toArray c), (Q, oQ)] →
    DeckIs w d l oD oL → BoolDict w oS D → BoolDict w oK K → WObj w oW O Q → BoolDict w oQ K → StrsAre vs ss → Inv D ss K → AP1 O [d, l, M, dM, S, Kp, W, Q] → R) → R
theorem DeedPost.mk {w : World} {d l M dM S Kp W Q : Addr} {h1 : Int} {t1 : Tok} {h2 : Int} {t2 : Tok} {n : Nat} {oD oL oS oK oW oQ : Obj} {O : Addr} {vs : List Value} {c : Nat} {D K : BD} {ss : List Str}
    (a1 : DeckIs w d l oD oL) (a2 : BoolDict w oS D) (a3 : BoolDict w oK K) (a4 : WObj w oW O Q) (a5 : BoolDict w oQ K) (a6 : StrsAre vs ss) (a7 : Inv D ss K) (a8 : AP1 O [d, l, M, dM, S, Kp, W, Q]) :
    DeedPost w d l M dM S Kp W Q h1 t1 h2 t2 n (.bool true) [(d, oD), (l, oL), (M, instObj 86 dM), (dM, modesD h1 t1 S h2 t2 Kp n), (S, oS), (Kp, oK), (W, oW), (O, PySem.W.listOf vs.toArray c), (Q, oQ)] :=
  fun _ k => k oD oL oS oK oW oQ O vs c D K ss rfl rfl a1 a2 a3 a4 a5 a6 a7 a8
theorem plain_knownF : ∀ g : Fin 4, (plainTab.lookup (([2, 4, 12, 20] : List Int).getD g.val 0)).getD default ∈ known := by decide +kernel
theorem plain_known {i : Int} (h0 : 0 ≤ i) (h1 : i < 4) : (plainTab.lookup (([2, 4, 12, 20] : List Int).getD i.toNat 0)).getD default ∈ known := by
  have h := plain_knownF ⟨i.toNat, (Int.toNat_lt h0).2 h1⟩
  simpa only [Int.toNat_of_nonneg h0] using h
theorem eight_known : eightW ∈ known := by decide +kernel
theorem priv_getD_known (k : Int) : (privTab.lookup k).getD (Str.ofString "eight_bits") ∈ known := by
  cases e : privTab.lookup k with
  | none => exact eight_known
  | some x => exact priv_known e
end
section
section
variable {w : World} {A : Around} {E : Value → Shared → Prop} {s : Shared} {env : Env} {h₀ : Heap} {x : Str} {body : List Stmt} {Q : Flow → Shared → Prop}
theorem range_loop {r : Addr} {b : Int} {t u v : Tok} {m₀ : Str → Option Value} {news : Led} (J : Nat → (Str → Option Value) → Led → Prop)
    (hh : A.handled = none) (F : Fr h₀ env.locals s.heap m₀) (N : News h₀ env.locals s.heap news) (hr : IsRange s.heap r 0 b 1 t u v) (hsm : Builtin.Range.small 0 b 1 = true) (hn : Builtin.Range.rangeSize 0 b 1 = ((b.toNat : Nat) : Int)) (hj : J 0 m₀ news)
    (turn : ∀ (i : Nat) t m₁ nx h tk I oI, i < b.toNat → J i m₁ nx → OffAll I nx → Fr h₀ env.locals h (fun y => if y = x then some (.int (i : Int) t) else m₁ y) → News h₀ env.locals h (nx ++ [(I, oI)]) →
      ∀ QT : Flow → Shared → Prop, (∀ fl s', TurnPost h₀ env.locals (J (i + 1)) [(I, oI)] { s with heap := h, toks := tk } Q fl s' → QT fl s') → wpAny (model PySem.Challenge.rw_og0244_01.row.prog w) A (execs body env) QT E { s with heap := h, toks := tk })
    (done : ∀ m₁ nx h tk, J b.toNat m₁ nx → Fr h₀ env.locals h m₁ → News h₀ env.locals h nx → Q .next { s with heap := h, toks := tk }) :
    wpAny (model PySem.Challenge.rw_og0244_01.row.prog w) A (pyIter (.ref r)) (fun it s₂ => LoopAtV PySem.Challenge.rw_og0244_01.row.prog w A h₀ env x body Q E it s₂) E s := by
  refine wpAny_pyIter_range hr hsm ?_
  refine ⟨s.heap.objs.size, _, _, b.toNat, _, _, m₀, news, J, rfl, LCg.range_walks hh 0 b.toNat, ?_, ?_, ?_, ?_, F.push _, fun p hp => ⟨Heap.get?_push_of_some _ (N p hp).1, (N p hp).2⟩, hj, ?_, ?_⟩
  · intro hI
    have e := List.mem_singleton.mp hI
    exact absurd F.ns.lt (e ▸ Nat.lt_irrefl _)
  · intro b hb
    rw [List.mem_singleton.mp hb]
    exact next_is_new F
  · intro p hp hI
    exact absurd (Heap.lt_size (N p hp).1) ((List.mem_singleton.mp hI) ▸ Nat.lt_irrefl _)
  · show IsRangeIter _ _ _ _ _
    rw [hn]
    simpa using Heap.get?_push_size _ rfl
  · rintro i v m₁ nx s₂ own ⟨h, tk, rfl⟩ hin hP hJ hoffI hown hownget hmem hst F₁ N₁
    obtain ⟨t', rfl⟩ := hP
    obtain ⟨oI, hst'⟩ : ∃ o, h.get? s.heap.objs.size = some o := ⟨_, hst⟩
    have hIm := hmem s.heap.objs.size (.head _) (next_is_new F) _ hst'
    have hsub : ∀ p ∈ own, p = (s.heap.objs.size, oI) := by
      intro p hp
      have e := List.mem_singleton.mp (hown p hp)
      have hg := hownget p hp
      rw [e, hst'] at hg
      exact Prod.ext e (Option.some.inj hg).symm
    have e0 : (0 : Int) + (i : Int) = (i : Int) := by omega
    rw [e0] at F₁
    refine wpAny_mono (turn i t' m₁ nx h tk s.heap.objs.size oI hin hJ (OffAll.of fun p hp e => hoffI p hp (List.mem_singleton.mpr e)) F₁ (fun p hp => ?_) _ (fun _ _ h => h)) (fun f s₄ h₄ => ?_) fun _ _ e => e
    · rcases List.mem_append.mp hp with q | q
      · exact N₁ p (List.mem_append_right _ q)
      · rw [List.mem_singleton.mp q]; exact N₁ _ (List.mem_append_left _ hIm)
    · have fin : TurnEnd h₀ env.locals (J (i + 1)) [(s.heap.objs.size, oI)] { s with heap := h, toks := tk } s₄ → LoopStepU h₀ env.locals [s.heap.objs.size] own (J (i + 1)) { s with heap := h, toks := tk } .next s₄ := by
        intro hE
        refine hE _ ?_
        intro h' tk' m' news' nx' e F' N' hn ho ha hj'
        refine ⟨rfl, h', tk', m', nx', e, F', ?_, fun p hp hq => ha p hp _ (.head _) (List.mem_singleton.mp hq), hj'⟩
        intro p hp
        rcases List.mem_append.mp hp with q | q
        · rw [hsub p q]; exact N' _ (ho _ (.head _))
        · exact N' p (hn p q)
      cases f with
      | ret v => exact .ret h₄
      | brk => exact .brk h₄
      | next => exact .next (fin h₄)
      | cont => exact .cont (fin h₄)
  · rintro h' tk m' nx F' N' _ hJ
    exact done m' nx h' tk hJ F' N'
end
end
section
theorem mixed_range (l : List Int) : ∀ a : Int, 0 ≤ a → a < 1000003 → 0 ≤ l.foldl (fun a n => (a * 31 + n + 89).fmod 1000003) a ∧ l.foldl (fun a n => (a * 31 + n + 89).fmod 1000003) a < 1000003 := by
  induction l with
  | nil => exact fun a h0 h1 => ⟨h0, h1⟩
  | cons x l ih =>
    intro a _ _
    have hb := fmod_bounds (a * 31 + x + 89) (b := 1000003) (by decide)
    exact ih _ hb.1 hb.2
theorem deck_made {w : World} {o : Obj} {d l : Addr} {ys : List Value} {ns : List Int} {t : Tok}
    (hd : o.IsDictOf (strKind PySem.Challenge.rw_og0244_01.row.prog w) [(Str.ofString "left", .ref l), (Str.ofString "mixed", .int (List.foldl (fun a n => (a * 31 + n + 89).fmod 1000003) 9898 ((ns.take 32).map fun k => k.fmod 1000003)) t)])
    (hI : IntsAre ys ((ns.take 32).map fun k => k.fmod 1000003)) (lo : (d == sysModules) = false) (ne : @Ne Nat d l) : DeckIs w d l o (LCg.lst ys) := by
  have hb := mixed_range ((ns.take 32).map fun k => k.fmod 1000003) 9898 (by decide) (by decide)
  refine ⟨ys, _, _, _, _, rfl, hd, hI, ?_, ?_, hb.1, hb.2, lo, ne⟩
  · intro x hx
    obtain ⟨k, _, rfl⟩ := List.mem_map.mp hx
    exact fmod_bounds k (by decide)
  · rw [List.length_map, List.length_take]; omega
theorem first_on : ∀ (l : List Str) (D : BD) (x : Str), onB (l.foldl (fun D y => putB D y true) D) x = (decide (x ∈ l) || onB D x) := by
  intro l
  induction l with
  | nil => intro D x; simp
  | cons a l ih =>
    intro D x
    rw [List.foldl_cons, ih, onB_putB]
    by_cases h : x = a
    · simp [h]
    · simp [h]
theorem first_inv : Inv firstD firstOn [] := by
  refine ⟨fun x => ?_, by decide +kernel, by decide +kernel, by decide +kernel, .nil, fun x hx => (nomatch hx)⟩
  unfold firstD
  rw [first_on]
  have e : onB [] x = false := rfl
  rw [e, Bool.or_false]
theorem first_strs (t1 t2 t3 t4 t5 : Tok) : StrsAre [.str (Str.ofString "send_receive") t1, .str (Str.ofString "autowrap") t2, .str (Str.ofString "autorepeat") t3, .str (Str.ofString "show_cursor") t4, .str (Str.ofString "num_lock") t5] firstOn :=
  .cons _ _ (.cons _ _ (.cons _ _ (.cons _ _ (.cons _ _ .nil))))
def TailStmt : Prop := ∀ {w : World} {pgm : Program} {loo : List Str} {mean : ExcName → Option Value} {mg mb : Str → Option Value} {qual : Str} {params : Arguments} {body : List Stmt} {scope : Scope} {dV kV doc pm cdv ct oc : Value} {name : Str} {an od : Option Addr} {osl : Array (Option Value)}
    (ho : (pre.heap_1 w.params).lookup 314 = some ⟨oc, od, .func (fnOf name qual params body scope dV kV doc pm an cdv ct), osl⟩)
    {ev : EV} {A₀ : Around} {base h₀ : Heap} {L fa : Addr} {ccd : Value} {m : Str → Option Value} {s : Shared} {Qf : Flow → Shared → Prop}
    {d l M dM S Kp W O Q : Addr} {h1 h2 : Int} {t1 t2 : Tok} {n c : Nat} {oD oL oS oK oW oQ : Obj} {vs : List Value} {news : Led} {D K : BD} {ss : List Str}
    {tail : List Stmt} (htail : tail = body.drop 2) (hdp : ev.dp ≤ 700) (hun : ev.un ≤ 8000) (B' : Below A₀ base ev.outer h₀) (X' : (pre.heap_1 w.params).In h₀) (T' : Top pgm loo mean mg mb h₀)
    (F' : Fr h₀ L s.heap (fun y => if y = Str.ofString "w" then some (Value.ref W) else if y = Str.ofString "deck" then some (Value.ref d) else if y = Str.ofString "modes" then some (Value.ref M) else m y))
    (N' : News h₀ L s.heap news) (hs : ∀ p ∈ ([(d, oD), (l, oL), (M, instObj 86 dM), (dM, modesD h1 t1 S h2 t2 Kp n), (S, oS), (Kp, oK), (W, oW), (O, PySem.W.listOf vs.toArray c), (Q, oQ)] : Led), p ∈ news)
    (hD : DeckIs w d l oD oL) (hS : BoolDict w oS D) (hK : BoolDict w oK K) (hW : WObj w oW O Q) (hQ : BoolDict w oQ K) (hO : StrsAre vs ss) (hI : Inv D ss K)
    (loS : (S == sysModules) = false) (loK : (Kp == sysModules) = false) (loW : (W == sysModules) = false) (loQ : (Q == sysModules) = false)
    (n1 : AP1 l [d]) (n2 : AP1 M [d, l]) (n3 : AP1 dM [d, l, M]) (n4 : AP1 S [d, l, M, dM]) (n5 : AP1 Kp [d, l, M, dM, S]) (n6 : AP1 W [d, l, M, dM, S, Kp]) (n7 : AP1 Q [d, l, M, dM, S, Kp, W]) (n8 : AP1 O [d, l, M, dM, S, Kp, W, Q])
    (hfin : ∀ h' tk' m', Fr h₀ L h' m' → Qf (.ret (.bool true)) { s with heap := h', toks := tk' }), wpAny (model PySem.Challenge.rw_og0244_01.row.prog w) (kt qual scope fa ccd ev L) (execs tail (ke qual scope fa ccd L)) Qf (fun _ _ => False) s
end
section
example : Zz 0 := by (try walk1); exact trivial
abbrev keysD (g1 : Int) (u1 : Tok) (w1 : Tok) (g2 : Int) (u2 : Tok) (LV : Addr) (g3 : Int) (u3 : Tok) (alt : Bool) (g4 : Int) (u4 : Tok) (ST : Addr) (n : Nat) : Obj :=
  dictOf [⟨g1, .str (Str.ofString "most") u1, .int 2 w1⟩, ⟨g2, .str (Str.ofString "levels") u2, .ref LV⟩, ⟨g3, .str (Str.ofString "is_alternate") u3, .bool alt⟩, ⟨g4, .str (Str.ofString "stacks") u4, .ref ST⟩] n
def pushP (ps : List Int) (f : Int) : List Int := if ps.length < 3 then ps ++ [f % 32] else (ps ++ [f % 32]).eraseIdx 1
theorem and31 {f : Int} (h0 : 0 ≤ f) (h1 : f < 40) : Builtin.bitAnd f 31 = f % 32 := by
  have h : ∀ k : Fin 40, Builtin.bitAnd ((k.val : Nat) : Int) 31 = ((k.val : Nat) : Int) % 32 := by decide +kernel
  have := h ⟨f.toNat, by omega⟩
  simpa [Int.toNat_of_nonneg h0] using this
theorem ints_cases {vs : List Value} {ps : List Int} (hI : IntsAre vs ps) (h1 : 1 ≤ ps.length) (h3 : ps.length ≤ 3) :
    (∃ a ta, ps = [a] ∧ vs = [.int a ta]) ∨ (∃ a b ta tb, ps = [a, b] ∧ vs = [.int a ta, .int b tb]) ∨ (∃ a b e ta tb te, ps = [a, b, e] ∧ vs = [.int a ta, .int b tb, .int e te]) := by
  cases hI with
  | nil => simp at h1
  | cons a ta h =>
    cases h with
    | nil => exact .inl ⟨a, ta, rfl, rfl⟩
    | cons b tb h =>
      cases h with
      | nil => exact .inr (.inl ⟨a, b, ta, tb, rfl, rfl⟩)
      | cons e te h =>
        cases h with
        | nil => exact .inr (.inr ⟨a, b, e, ta, tb, te, rfl, rfl⟩)
        | cons _ _ _ => simp only [List.length_cons] at h3; omega
set_option maxHeartbeats 8000000 in
theorem stack_spec {w : World} {pgm : Program} {loo : List Str} {mean : ExcName → Option Value} {mg mb : Str → Option Value} {KO dK LV ST s0 s1 sX : Addr} {g1 g2 g3 g4 : Int} {u1 w1 u2 u3 u4 : Tok} {n c : Nat} {alt : Bool} (hx : sX = if alt then s1 else s0) (a1 : @Ne Nat KO dK) (a2 : @Ne Nat KO ST) (a3 : @Ne Nat dK ST) :
    Spec w pgm loo mean mg mb (.ref 173) 870 8800 [.ref KO] [(KO, instObj 192 dK), (dK, keysD g1 u1 w1 g2 u2 LV g3 u3 alt g4 u4 ST n), (ST, PySem.W.listOf #[.ref s0, .ref s1] c)] (fun r foot' => r = .ref sX ∧ foot' = [(KO, instObj 192 dK), (dK, keysD g1 u1 w1 g2 u2 LV g3 u3 alt g4 u4 ST n), (ST, PySem.W.listOf #[.ref s0, .ref s1] c)]) := by
  (k_dflt (refine' spec_of (binds := [(Str.ofString "self", .ref KO)]) ?k6 ?k7 ?k8 ?k9 ?kB ?_ ?c2 ?c3 ?c4 ?c5; (case k6 => k_is); (case k7 => k_is); (case k8 => decide); (case k9 => exact fun s X => BindsTo.of_eq rfl); (case c5 => decide); (case kB => exact locs rfl); (case c2 => exact rfl); (case c3 => exact rfl); (case c4 => exact rfl); k_whole); intro ev A₀ base g' L' h₁ s tk₁ hdp hun B' F' N' X' T' hlt QL hL; k_lt hlt; (replace F' := binds_fr F'); (try dsimp only [BindsMap] at F'))
  cases alt <;> simp only [if_true, if_false, Bool.false_eq_true] at hx <;> subst hx
  all_goals k_steps
  all_goals (try dsimp only)
  · (refine' hL.leave (foot' := [(KO, instObj 192 dK), (dK, _), (ST, _)]) ?lvF16 ?lvN16 ?lvs16 ?_; (case lvF16 => k_asm); (case lvN16 => k_asm); (case lvs16 => exact (by (repeat (first | exact sub_nil | (refine' sub_cons ?sa ?_; (case sa => k_mem)))))))
    exact ⟨rfl, rfl⟩
  · (refine' hL.leave (foot' := [(KO, instObj 192 dK), (dK, _), (ST, _)]) ?lvF17 ?lvN17 ?lvs17 ?_; (case lvF17 => k_asm); (case lvN17 => k_asm); (case lvs17 => exact (by (repeat (first | exact sub_nil | (refine' sub_cons ?sa ?_; (case sa => k_mem)))))))
    exact ⟨rfl, rfl⟩
theorem stackU {w : World} {pgm : Program} {loo : List Str} {mean : ExcName → Option Value} {mg mb : Str → Option Value} {KO dK LV ST s0 s1 sX : Addr} {g1 g2 g3 g4 : Int} {u1 w1 u2 u3 u4 : Tok} {n c : Nat} {alt : Bool} {dp un : Nat} {gd : Option (List Code)} {cn : Str} {cs : Scope} {za : Addr} {ccd : Value} {cl : List (Str × Addr)} {outer : List Env} {A₀ : Around} {base h₀ : Heap} {zL : Addr} {zm : Str → Option Value} {zn zr : Led} {zs : Shared} {zQ zE : Value → Shared → Prop} (zS : Site w pgm loo mean mg mb 870 8800 dp un cs outer A₀ base h₀ zL zs.heap zm zn ∧ Picks [(KO, instObj 192 dK), (dK, keysD g1 u1 w1 g2 u2 LV g3 u3 alt g4 u4 ST n), (ST, PySem.W.listOf #[.ref s0, .ref s1] c)] zn zr ∧ Apart [(KO, instObj 192 dK), (dK, keysD g1 u1 w1 g2 u2 LV g3 u3 alt g4 u4 ST n), (ST, PySem.W.listOf #[.ref s0, .ref s1] c)] zr) (hx : sX = if alt then s1 else s0) (a1 : @Ne Nat KO dK) (a2 : @Ne Nat KO ST) (a3 : @Ne Nat dK ST)
    (zh : ∀ h9 tk9, Fr h₀ zL h9 zm → News h₀ zL h9 ((KO, instObj 192 dK) :: (dK, keysD g1 u1 w1 g2 u2 LV g3 u3 alt g4 u4 ST n) :: (ST, PySem.W.listOf #[.ref s0, .ref s1] c) :: zr) → zQ (.ref sX) { zs with heap := h9, toks := tk9 }) :
    wpAny (model PySem.Challenge.rw_og0244_01.row.prog w) (ktrTop dp un gd cn cs zL za ccd cl outer) (call (.ref 173) [.ref KO]) zQ zE zs :=
  stack_spec hx a1 a2 a3 _ _ _ _ _ _ _ _ _ _ _ _ _ _ _ _ _ _ _ zS.1.B zS.1.F zS.1.X zS.1.T zS.1.k zS.1.d zS.1.u zS.1.N zS.2.1 zS.2.2 fun r foot h9 tk9 hp F9 N9 ap => by
    obtain ⟨rfl, rfl⟩ := hp
    exact zh h9 tk9 F9   N9

local macro_rules | `(tactic| walk_at "call ref") => `(tactic| (k_here; focus (k_dflt (refine' stackU ?_ ?_ ?_ ?_ ?_ ?_; rotate_left 29; walk_at "mine site"; k_asm; k_ne; k_ne; k_ne; walk_at "mine after"))))
set_option maxHeartbeats 8000000 in
theorem push_spec {w : World} {pgm : Program} {loo : List Str} {mean : ExcName → Option Value} {mg mb : Str → Option Value} {KO dK LV ST s0 s1 sX : Addr} {g1 g2 g3 g4 : Int} {u1 w1 u2 u3 u4 : Tok} {n c : Nat} {alt : Bool} {c1 : Nat} {vs : List Value} {ps : List Int} (hx : sX = if alt then s1 else s0) (a1 : @Ne Nat KO dK) (a2 : @Ne Nat KO ST) (a3 : @Ne Nat dK ST) (a4 : @Ne Nat KO sX) (a5 : @Ne Nat dK sX) (a6 : @Ne Nat ST sX) (hI : IntsAre vs ps) (hp1 : 1 ≤ ps.length) (hp3 : ps.length ≤ 3) (f : Int) (tf : Tok) (h0 : 0 ≤ f) (h1 : f < 40) :
    Spec w pgm loo mean mg mb (.ref 210) 840 8600 [.ref KO, .int f tf] [(KO, instObj 192 dK), (dK, keysD g1 u1 w1 g2 u2 LV g3 u3 alt g4 u4 ST n), (ST, PySem.W.listOf #[.ref s0, .ref s1] c), (sX, PySem.W.listOf vs.toArray c1)] (fun r foot' => ∃ vs' c', r = .none ∧ foot' = [(KO, instObj 192 dK), (dK, keysD g1 u1 w1 g2 u2 LV g3 u3 alt g4 u4 ST n), (ST, PySem.W.listOf #[.ref s0, .ref s1] c), (sX, PySem.W.listOf vs'.toArray c')] ∧ IntsAre vs' (pushP ps f)) := by
  have hb := and31 h0 h1
  rcases ints_cases hI hp1 hp3 with ⟨a, ta, q1, q2⟩ | ⟨a, b, ta, tb, q1, q2⟩ | ⟨a, b, e, ta, tb, te, q1, q2⟩
  all_goals subst q1
  all_goals subst q2
  all_goals clear hI
  all_goals (k_dflt (refine' spec_of (binds := [(Str.ofString "keys", .ref KO), (Str.ofString "flags", .int f tf)]) ?k6 ?k7 ?k8 ?k9 ?kB ?_ ?c2 ?c3 ?c4 ?c5; (case k6 => k_is); (case k7 => k_is); (case k8 => decide); (case k9 => exact fun s X => BindsTo.of_eq rfl); (case c5 => decide); (case kB => exact locs rfl); (case c2 => exact rfl); (case c3 => exact rfl); (case c4 => exact rfl); k_whole); intro ev A₀ base g' L' h₁ s tk₁ hdp hun B' F' N' X' T' hlt QL hL; k_lt hlt; (replace F' := binds_fr F'); (try dsimp only [BindsMap] at F'))
  all_goals k_steps
  all_goals (try dsimp only)
  · (refine' hL.leave (foot' := [(KO, instObj 192 dK), (dK, _), (ST, _), (sX, PySem.W.listOf (List.toArray [.int a ta, .int (Builtin.bitAnd f 31) _]) _)]) ?lFp00 ?lNp00 ?lsp00 ?_; (case lFp00 => k_asm); (case lNp00 => k_asm); (case lsp00 => exact (by (repeat (first | exact sub_nil | (refine' sub_cons ?sa ?_; (case sa => k_mem)))))))
    exact ⟨_, _, rfl, rfl, by rw [hb]; exact .cons _ _ (.cons _ _ .nil)⟩
  · (refine' hL.leave (foot' := [(KO, instObj 192 dK), (dK, _), (ST, _), (sX, PySem.W.listOf (List.toArray [.int a ta, .int b tb, .int (Builtin.bitAnd f 31) _]) _)]) ?lFp01 ?lNp01 ?lsp01 ?_; (case lFp01 => k_asm); (case lNp01 => k_asm); (case lsp01 => exact (by (repeat (first | exact sub_nil | (refine' sub_cons ?sa ?_; (case sa => k_mem)))))))
    exact ⟨_, _, rfl, rfl, by rw [hb]; exact .cons _ _ (.cons _ _ (.cons _ _ .nil))⟩
  · (refine' hL.leave (foot' := [(KO, instObj 192 dK), (dK, _), (ST, _), (sX, PySem.W.listOf (List.toArray [.int a ta, .int e te, .int (Builtin.bitAnd f 31) _]) _)]) ?lFp02 ?lNp02 ?lsp02 ?_; (case lFp02 => k_asm); (case lNp02 => k_asm); (case lsp02 => exact (by (repeat (first | exact sub_nil | (refine' sub_cons ?sa ?_; (case sa => k_mem)))))))
    exact ⟨_, _, rfl, rfl, by rw [hb]; exact .cons _ _ (.cons _ _ (.cons _ _ .nil))⟩
theorem pushU {w : World} {pgm : Program} {loo : List Str} {mean : ExcName → Option Value} {mg mb : Str → Option Value} {KO dK LV ST s0 s1 sX : Addr} {g1 g2 g3 g4 : Int} {u1 w1 u2 u3 u4 : Tok} {n c : Nat} {alt : Bool} {c1 : Nat} {vs : List Value} {ps : List Int} {dp un : Nat} {gd : Option (List Code)} {cn : Str} {cs : Scope} {za : Addr} {ccd : Value} {cl : List (Str × Addr)} {outer : List Env} {A₀ : Around} {base h₀ : Heap} {zL : Addr} {zm : Str → Option Value} {zn zr : Led} {zs : Shared} {zQ zE : Value → Shared → Prop} (zS : Site w pgm loo mean mg mb 840 8600 dp un cs outer A₀ base h₀ zL zs.heap zm zn) (hx : sX = if alt then s1 else s0) (a1 : @Ne Nat KO dK) (a2 : @Ne Nat KO ST) (a3 : @Ne Nat dK ST) (a4 : @Ne Nat KO sX) (a5 : @Ne Nat dK sX) (a6 : @Ne Nat ST sX) (hI : IntsAre vs ps) (hp1 : 1 ≤ ps.length) (hp3 : ps.length ≤ 3) (f : Int) (tf : Tok) (h0 : 0 ≤ f) (h1 : f < 40) (zP : Picks [(KO, instObj 192 dK), (dK, keysD g1 u1 w1 g2 u2 LV g3 u3 alt g4 u4 ST n), (ST, PySem.W.listOf #[.ref s0, .ref s1] c), (sX, PySem.W.listOf vs.toArray c1)] zn zr) (zA : Apart [(KO, instObj 192 dK), (dK, keysD g1 u1 w1 g2 u2 LV g3 u3 alt g4 u4 ST n), (ST, PySem.W.listOf #[.ref s0, .ref s1] c), (sX, PySem.W.listOf vs.toArray c1)] zr)
    (zh : ∀ h9 tk9, Fr h₀ zL h9 zm → ∀ vs' c', IntsAre vs' (pushP ps f) → News h₀ zL h9 ((KO, instObj 192 dK) :: (dK, keysD g1 u1 w1 g2 u2 LV g3 u3 alt g4 u4 ST n) :: (ST, PySem.W.listOf #[.ref s0, .ref s1] c) :: (sX, PySem.W.listOf vs'.toArray c') :: zr) → zQ (.none) { zs with heap := h9, toks := tk9 }) :
    wpAny (model PySem.Challenge.rw_og0244_01.row.prog w) (ktrTop dp un gd cn cs zL za ccd cl outer) (call (.ref 210) [.ref KO, .int f tf]) zQ zE zs :=
  push_spec hx a1 a2 a3 a4 a5 a6 hI hp1 hp3 f tf h0 h1 _ _ _ _ _ _ _ _ _ _ _ _ _ _ _ _ _ _ _ zS.B zS.F zS.X zS.T zS.k zS.d zS.u zS.N zP zA fun r foot h9 tk9 hp F9 N9 ap => by
    obtain ⟨vs', c', rfl, rfl, y0⟩ := hp
    exact zh h9 tk9 F9 vs' c' y0 N9
end
section
section
variable {prog : Program} {w : World} {A : Around} {h₀ : Heap} {L : Addr} {m : Str → Option Value} {env : Env} {ct elt : Expr} {x : Str} {scope : Scope} {cl : List (Str × Addr)} {s : Shared} {S : List (Addr × Obj) → Prop} {P : Nat → Value → Prop} {Fin : List Value → List (Addr × Obj) → Prop} {news : List (Addr × Obj)}
theorem rel_restT {n : Nat} (J : Nat → List Value → Led → Prop) (h0 : J 0 [] news)
    (turn : ∀ i v I oI C oC D m₂ ys nw h tk (E' : Value → Shared → Prop), i < n → P i v → LCg.NsObj oC m₂ → m₂ x = some v → J i ys nw → Fr h₀ L h m → News h₀ L h ((I, oI) :: (C, oC) :: (D, LCg.lst ys) :: nw) → LCg.Off3 I C D nw → ((@Ne Nat I C) ∧ (@Ne Nat I D) ∧ (@Ne Nat C D)) →
      wpAny (model prog w) A (isTrue ct (compEnvC scope cl C env) (eval ct (compEnvC scope cl C env))) (fun b s' => if b = true then wpAny (model prog w) A (eval elt (compEnvC scope cl C env)) (LCg.CompEnd h₀ L m { s with heap := h, toks := tk } I oI C oC D (LCg.lst ys) S (fun y news' => J (i + 1) (ys ++ [y]) news')) E' s'
        else LCg.CompEnd h₀ L m { s with heap := h, toks := tk } I oI C oC D (LCg.lst ys) S (fun _ news' => J (i + 1) ys news') Value.none s') E' { s with heap := h, toks := tk })
    (fin : ∀ ys nw, J n ys nw → Fin ys nw) : LCt.CompRestT prog w A h₀ L m env ct elt x scope cl s S P Fin n 0 [] news := by
  have key : ∀ (j i : Nat) (ys : List Value) (nw : Led), i + j = n → J i ys nw → LCt.CompRestT prog w A h₀ L m env ct elt x scope cl s S P Fin j i ys nw := by
    intro j
    induction j with
    | zero =>
      intro i ys nw hi hj
      have e : i = n := by omega
      subst e
      exact LCt.CompRestT.zero (fin ys nw hj)
    | succ j ih =>
      intro i ys nw hi hj
      refine LCt.CompRestT.succ ?_
      intro v I oI C oC D m₂ h tk E' hv hC hx F N off ne
      refine wpAny_mono (turn i v I oI C oC D m₂ ys nw h tk E' (by omega) hv hC hx hj F N off ne) (fun b s₂ hq => ?_) fun _ _ e => e
      cases b with
      | true =>
        simp only [if_true] at hq ⊢
        refine wpAny_mono hq (fun y s₃ hr => ?_) fun _ _ e => e
        obtain ⟨h', tk', nw', e, F', N', off', hS, hn⟩ := hr
        exact ⟨h', tk', _, e, F', N', off', hS, ih (i + 1) _ _ (by omega) hn⟩
      | false =>
        simp only [Bool.false_eq_true, if_false] at hq ⊢
        obtain ⟨h', tk', nw', e, F', N', off', hS, hn⟩ := hq
        exact ⟨h', tk', _, e, F', N', off', hS, ih (i + 1) _ _ (by omega) hn⟩
  exact key n 0 [] news (by omega) h0
end
theorem strs_snoc {vs : List Value} {ss : List Str} {y : Str} {t : Tok} (h : StrsAre vs ss) : StrsAre (vs ++ [.str y t]) (ss ++ [y]) := strs_append h (.cons _ _ .nil)
theorem AP1.ofOff1 {D : Addr} {l : Led} (h : LCg.Off1 D l) : AP1 D (l.map (·.1)) := by
  induction l with
  | nil => exact AP1.nil
  | cons p l ih => exact AP1.cons (Ne.symm h.1) (ih h.2)
def wordsOf (ns : List Int) : List Str := ns.filterMap fun k => privTab.lookup k
def keptOne (K : BD) (x : Str) : Option (Str × Bool) := if (getB K x).isSome = true then some (x, (getB K x).getD false) else none
theorem saved_eq (K : BD) (ns : List Int) : (wordsOf ns).filterMap (keptOne K) = ns.filterMap (savedOne K) := by
  unfold wordsOf
  rw [List.filterMap_filterMap]
  congr 1
  funext k
  unfold savedOne keptOne onB
  cases privTab.lookup k <;> rfl
theorem words_yes {ns : List Int} {i : Nat} {k : Int} (hk : ns[i]? = some k) (h : (privTab.lookup k).isSome = true) : wordsOf (ns.take (i + 1)) = wordsOf (ns.take i) ++ [(privTab.lookup k).getD default] := by
  unfold wordsOf
  rw [take_succ_fm _ _ _ _ hk]
  cases e : privTab.lookup k with
  | none => rw [e] at h; cases h
  | some x => rfl
theorem words_no {ns : List Int} {i : Nat} {k : Int} (hk : ns[i]? = some k) (h : (privTab.lookup k).isSome = false) : wordsOf (ns.take (i + 1)) = wordsOf (ns.take i) := by
  unfold wordsOf
  rw [take_succ_fm _ _ _ _ hk]
  cases e : privTab.lookup k with
  | none => simp
  | some x => rw [e] at h; cases h
theorem kept_yes {K : BD} {y : Str} (h : (getB K y).isSome = true) : keptOne K y = some (y, (getB K y).getD false) := by unfold keptOne; rw [if_pos h]
theorem kept_no {K : BD} {y : Str} (h : (getB K y).isSome = false) : keptOne K y = none := by unfold keptOne; rw [h]; rfl
def OffEach : List Addr → Led → Prop
  | [], _ => True
  | a :: bs, ts => OffAll a ts ∧ OffEach bs ts
theorem OffEach.put {T : Addr} {o : Obj} {ts : Led} : ∀ {bs : List Addr}, OffEach bs ts → AP1 T bs → OffEach bs (ts ++ [(T, o)])
  | [], _, _ => trivial
  | _ :: _, h, k => ⟨OffAll.append h.1 ⟨k.get (.head _), trivial⟩, OffEach.put h.2 (.mk fun b hb => k.get (.tail _ hb))⟩
theorem OffEach.nil : ∀ {bs : List Addr}, OffEach bs []
  | [] => trivial
  | _ :: _ => ⟨trivial, OffEach.nil⟩
theorem off3_app {I C D : Addr} {p : Addr × Obj} {ts : Led} (h1 : @Ne Nat p.1 I) (h2 : @Ne Nat p.1 C) (h3 : @Ne Nat p.1 D) : ∀ {l : Led}, LCg.Off3 I C D (l ++ ts) → LCg.Off3 I C D (l ++ (ts ++ [p]))
  | [], h => by
    induction ts with
    | nil => exact ⟨⟨h1, h2, h3⟩, trivial⟩
    | cons q ts ih => exact ⟨h.1, ih h.2⟩
  | q :: l, h => ⟨h.1, off3_app h1 h2 h3 h.2⟩
theorem for_srcR {w : World} {A : Around} {s : Shared} {env : Env} {h₀ : Heap} {x : Str} {body : List Stmt} {Q : Flow → Shared → Prop} {E : Value → Shared → Prop} {m : Str → Option Value} {px pos : Pos} {iter : PySem.Expr} (_F : Fr h₀ env.locals s.heap m) (hx : env.kindOf x = some .local) (hp : (env.scope.kind == .class || (env.scope.kind == .module && env.locals != env.globals)) = false)
    (h : wpAny (model PySem.Challenge.rw_og0244_01.row.prog w) A (eval iter env) (fun xv s₁ => Stop (wpAny (model PySem.Challenge.rw_og0244_01.row.prog w) A (pyIter xv) (fun it s₂ => LoopAtV PySem.Challenge.rw_og0244_01.row.prog w A h₀ env x body Q E it s₂) E s₁)) E s)
    (hs : ∀ x, foldedSetIterable iter env x = pure x) (hE : PassesOwn (model PySem.Challenge.rw_og0244_01.row.prog w) A env E) :
    wpAny (model PySem.Challenge.rw_og0244_01.row.prog w) A (exec (.For (.Name x px) iter body [] pos) env) Q E s :=
  For_invV h₀ hx hp h hs hE
theorem range_loopJ {w : World} {A : Around} {E : Value → Shared → Prop} {s : Shared} {env : Env} {h₀ : Heap} {x : Str} {body : List Stmt} {Q : Flow → Shared → Prop} {r : Addr} {b : Int} {t u v : Tok} {m₀ : Str → Option Value} {news : Led} (J : Nat → Led → Prop)
    (hh : A.handled = none) (F : Fr h₀ env.locals s.heap m₀) (N : News h₀ env.locals s.heap news) (hr : IsRange s.heap r 0 b 1 t u v) (hb0 : 0 ≤ b) (hb : b ≤ 100) (hj : J 0 news)
    (turn : ∀ (i : Nat) t nx h tk I oI, i < b.toNat → J i nx → OffAll I nx → Fr h₀ env.locals h (fun y => if y = x then some (.int (i : Int) t) else m₀ y) → News h₀ env.locals h (nx ++ [(I, oI)]) →
      ∀ QT : Flow → Shared → Prop, (∀ fl s', TurnPost h₀ env.locals (fun m nx => (∀ y, y ≠ x → m y = m₀ y) ∧ J (i + 1) nx) [(I, oI)] { s with heap := h, toks := tk } Q fl s' → QT fl s') → wpAny (model PySem.Challenge.rw_og0244_01.row.prog w) A (execs body env) QT E { s with heap := h, toks := tk })
    (done : ∀ u nx h tk, J b.toNat nx → Fr h₀ env.locals h (fun y => if y = x then u else m₀ y) → News h₀ env.locals h nx → Q .next { s with heap := h, toks := tk }) :
    wpAny (model PySem.Challenge.rw_og0244_01.row.prog w) A (pyIter (.ref r)) (fun it s₂ => LoopAtV PySem.Challenge.rw_og0244_01.row.prog w A h₀ env x body Q E it s₂) E s := by
  refine range_loop (fun i m nx => (∀ y, y ≠ x → m y = m₀ y) ∧ J i nx) hh F N hr (small_one (by decide) (by decide) (by omega) (by omega)) (by rw [rangeSize_nat]; simp) ⟨fun _ _ => rfl, hj⟩ ?_ ?_
  · rintro i t m₁ nx h tk I oI hi ⟨hm, hJ⟩ ho F₁ N₁
    rw [map_fix0 hm] at F₁
    exact turn i t nx h tk I oI hi hJ ho F₁ N₁
  · rintro m₁ nx h tk ⟨hm, hJ⟩ F₁ N₁
    refine done (m₁ x) nx h tk hJ ?_ N₁
    have e : (fun y => if y = x then m₁ x else m₀ y) = m₁ := by
      funext y
      by_cases e : y = x
      · simp [e]
      · simp [e, hm y e]
    rw [e]; exact F₁
theorem words_len (ns : List Int) : (wordsOf ns).length ≤ ns.length := List.length_filterMap_le _ _
end
local macro_rules | `(tactic| walk_at "mine fin") => `(tactic| ((intro D7 h7 tk7 F7 N7 o7; (try simp only [List.cons_append, List.nil_append] at N7 o7); (replace o7 := AP1.ofOff1 o7); (try dsimp only [List.map] at o7); (try dsimp only))))
local macro_rules | `(tactic| walk_at "mine forR") => `(tactic| ((k_here; k_dflt (refine' for_srcR ?_ ?_ ?_ ?_ ?_ ?_; rotate_left 2; k_asm; (exact rfl); (exact rfl); rotate_left; (exact fun _ => rfl); (first | exact PassesOwn.never | passes_own | (with_unfolding_all passes_own)); rotate_right; k_whole))))
section
theorem shape4 {x f a b : Str} {fv : Value} {v : Option Value} {m m₀ : Str → Option Value} (hf : m f = some fv) (h : ∀ y, y ≠ x → y ≠ f → y ≠ a → y ≠ b → m y = m₀ y) : (fun y => if y = x then v else m y) = fun y => if y = x then v else if y = f then some fv else if y = a then m a else if y = b then m b else m₀ y := by
  funext y
  by_cases h0 : y = x
  · simp [h0]
  · by_cases h1 : y = f
    · subst h1; simp [h0, hf]
    · by_cases h2 : y = a
      · subst h2; simp [h0, h1]
      · by_cases h3 : y = b
        · subst h3; simp [h0, h1, h2]
        · simp [h0, h1, h2, h3, h y h0 h1 h2 h3]
theorem shape_self {x : Str} {m : Str → Option Value} : (fun y => if y = x then m x else m y) = m := by
  funext y
  by_cases h : y = x
  · simp [h]
  · simp [h]
section
variable {w : World} {A : Around} {s : Shared} {env : Env} {h₀ : Heap} {x : Str} {body : List Stmt} {Q : Flow → Shared → Prop} {E : Value → Shared → Prop}
theorem ForSrc.ledV {l : Addr} {oL : Obj} {vs : List Value} {v0 : Value} {m₀ m₁ : Str → Option Value} {news nx₀ nx₁ : Led} (f a b : Str) (J : Nat → Value → Prop) (hh : A.handled = none) (hp : Pick (l, oL) news nx₀) (hso : SeqObj oL vs) (F : Fr h₀ env.locals s.heap m₁) (N : News h₀ env.locals s.heap news)
    (hs : ∀ p ∈ nx₁, p ∈ nx₀) (ho : ∀ p ∈ nx₁, p.1 ≠ l) (hm : ∀ y, m₁ y = if y = f then some v0 else m₀ y) (hj : J 0 v0)
    (turn : ∀ (i : Nat) v fv h tk I oI u1 u2, vs[i]? = some v → J i fv → OffAll I nx₁ → OffAll l nx₁ → @Ne Nat l I → Fr h₀ env.locals h (fun y => if y = x then some v else if y = f then some fv else if y = a then u1 else if y = b then u2 else m₀ y) → News h₀ env.locals h (nx₁ ++ [(I, oI), (l, oL)]) →
      ∀ QT : Flow → Shared → Prop, (∀ fl s', TurnPost h₀ env.locals (fun m nx => nx = nx₁ ∧ ∃ fv, m f = some fv ∧ J (i + 1) fv ∧ ∀ y, y ≠ x → y ≠ f → y ≠ a → y ≠ b → m y = m₀ y) [(I, oI), (l, oL)] { s with heap := h, toks := tk } Q fl s' → QT fl s') → wpAny (model PySem.Challenge.rw_og0244_01.row.prog w) A (execs body env) QT E { s with heap := h, toks := tk })
    (done : ∀ fv u0 u1 u2 h tk, J vs.length fv → Fr h₀ env.locals h (fun y => if y = x then u0 else if y = f then some fv else if y = a then u1 else if y = b then u2 else m₀ y) → News h₀ env.locals h nx₁ → Q .next { s with heap := h, toks := tk }) :
    ForSrc w A h₀ env x body Q E (.ref l) s := by
  refine ForSrc.ledM (nx₁ := nx₁) (fun i m nx => nx = nx₁ ∧ ∃ fv, m f = some fv ∧ J i fv ∧ ∀ y, y ≠ x → y ≠ f → y ≠ a → y ≠ b → m y = m₀ y) hh hp hso F N hs ho ⟨rfl, v0, by rw [hm]; simp, hj, fun y _ h1 _ _ => by rw [hm y, if_neg h1]⟩ ?_ ?_
  · rintro i v m nx h tk I oI hv ⟨rfl, fv, hf, hJ, hmy⟩ h1 h2 h3 F₁ N₁
    rw [shape4 hf hmy] at F₁
    exact turn i v fv h tk I oI (m a) (m b) hv hJ h1 h2 h3 F₁ N₁
  · rintro m nx h tk ⟨rfl, fv, hf, hJ, hmy⟩ hl F₁ N₁
    refine done fv (m x) (m a) (m b) h tk hJ ?_ (news_sub N₁ fun p hp => List.mem_append_left _ hp)
    rw [← shape4 hf hmy, shape_self]
    exact F₁
end
end
section
example : Zz 0 := by (try walk1); exact trivial
set_option linter.unusedVariables false
def bitAt (old f way k : Int) : Int := k * (([(old.fdiv k).fmod 2, (f.fdiv k).fmod 2, if (f.fdiv k).fmod 2 > (old.fdiv k).fmod 2 then (f.fdiv k).fmod 2 else (old.fdiv k).fmod 2, (old.fdiv k).fmod 2 * (1 - (f.fdiv k).fmod 2)] : List Int).getD (if 1 ≤ way ∧ way ≤ 3 then way else 0).toNat 0)
def bitSum (old f way : Int) : Int := (([1, 2, 4, 8, 16] : List Int).map (bitAt old f way)).sum
theorem bit_in {old f way k : Int} (h1 : 1 ≤ way) (h2 : way ≤ 3) : bitAt old f way k = k * (([(old.fdiv k).fmod 2, (f.fdiv k).fmod 2, if (f.fdiv k).fmod 2 > (old.fdiv k).fmod 2 then (f.fdiv k).fmod 2 else (old.fdiv k).fmod 2, (old.fdiv k).fmod 2 * (1 - (f.fdiv k).fmod 2)] : List Int).getD way.toNat 0) := by
  unfold bitAt; rw [if_pos (show 1 ≤ way ∧ way ≤ 3 from ⟨h1, h2⟩)]
theorem bit_out {old f way k : Int} (h : ¬ (1 ≤ way ∧ way ≤ 3)) : bitAt old f way k = k * (old.fdiv k).fmod 2 := by
  unfold bitAt; rw [if_neg h]; rfl
theorem bit_rng : ∀ k ∈ ([1, 2, 4, 8, 16] : List Int), 1 ≤ k ∧ k ≤ 16 := by decide
theorem int_up {i a b : Int} (e : a + 1 = b) (h : a ≤ i) : i = a ∨ b ≤ i := e ▸ (Int.lt_or_eq_of_le h).symm.imp Eq.symm id
theorem bit_step {i : Nat} {k : Int} {g : Int → Int} {bs : List Int} (hS : (([1, 2, 4, 8, 16] : List Int).take i).map g = bs) (hk : ([1, 2, 4, 8, 16] : List Int)[i]? = some k) : bs.sum + g k = ((([1, 2, 4, 8, 16] : List Int).take (i + 1)).map g).sum := by
  rw [List.take_add_one, hk, List.map_append, hS, List.sum_append]
  simp
local macro_rules | `(tactic| walk_at "exec For Name Tuple cons nil") => `(tactic| walk_at "mine for")
set_option maxHeartbeats 8000000 in
theorem bits_spec {w : World} {pgm : Program} {loo : List Str} {mean : ExcName → Option Value} {mg mb : Str → Option Value} (old f way : Int) (t1 t2 t3 : Tok) (h0 : 0 ≤ old) (h1 : old < 32) (h2 : 0 ≤ f) (h3 : f < 40) (h4 : 0 ≤ way) (h5 : way < 5) :
    Spec w pgm loo mean mg mb (.ref 300) 840 8600 [.int old t1, .int f t2, .int way t3] [] (fun q foot' => ∃ t, q = .int (bitSum old f way) t ∧ foot' = []) := by
  (k_dflt (refine' spec_of (binds := [(Str.ofString "old", .int old t1), (Str.ofString "flags", .int f t2), (Str.ofString "way", .int way t3)]) ?k6 ?k7 ?k8 ?k9 ?kB ?_ ?c2 ?c3 ?c4 ?c5; (case k6 => k_is); (case k7 => k_is); (case k8 => decide); (case k9 => exact fun s X => BindsTo.of_eq rfl); (case c5 => decide); (case kB => exact locs rfl); (case c2 => exact rfl); (case c3 => exact rfl); (case c4 => exact rfl); k_whole); intro ev A₀ base g' L' h₁ s tk₁ hdp hun B' F' N' X' T' hlt QL hL; k_lt hlt; (replace F' := binds_fr F'); (try dsimp only [BindsMap] at F'))
  k_steps
  all_goals (try dsimp only)
  rename Fr _ _ _ _ => F1
  rename News _ _ _ _ => N1
  (k_dflt (refine' ForSrc.ledV (nx₁ := []) (Str.ofString "found") (Str.ofString "was") (Str.ofString "is_told") (fun i fv => ∃ t, fv = .int ((([1, 2, 4, 8, 16] : List Int).take i).map (bitAt old f way)).sum t) ?hh ?hp ?hso ?F ?N ?hs ?ho ?hm ?hj ?_ ?_; (case hh => exact rfl); (case N => exact N1); (case hp => exact Pick.head); (case hso => exact ⟨.inr rfl, _, rfl⟩); (case F => exact F1); (case hs => exact fun p hp => nomatch hp); (case ho => exact fun p hp => nomatch hp); (case hm => exact fun y => rfl); (case hj => exact ⟨_, rfl⟩)))
  · rintro i v fv h tk I oI u1 u2 hv ⟨t, rfl⟩ - - hne F2 N2 QT hT
    obtain ⟨k, tk', hk, rfl⟩ := ints_at (.cons 1 _ (.cons 2 _ (.cons 4 _ (.cons 8 _ (.cons 16 _ .nil))))) i v hv
    have hk5 : 1 ≤ k ∧ k ≤ 16 := bit_rng k (List.mem_of_getElem? hk)
    have hk6 := hk5.1
    have hk7 := hk5.2
    clear hk5
    clear F1 N1
    simp only [List.nil_append] at N2
    generalize hS : (([1, 2, 4, 8, 16] : List Int).take i).map (bitAt old f way) = bs at F2
    k_steps
    all_goals (try refine hT _ _ ?_)
    all_goals refine TurnEnd.introL [] (by k_asm) (by k_asm) (fun p hp => nomatch hp) (by k_mem) (by k_mem) trivial trivial ⟨rfl, _, rfl, ⟨_, int_same ?_⟩, fun y h0 h1 h2 h3 => by simp only [if_neg h0, if_neg h1, if_neg h2, if_neg h3]⟩
    · rw [← bit_step hS hk, bit_in (by assumption) (by assumption)]
      rcases int_up (a := 1) (b := 2) rfl (by assumption) with rfl | hw
      · rfl
      rcases int_up (a := 2) (b := 3) rfl hw with rfl | hw
      · rfl
      obtain rfl := Int.le_antisymm (by assumption) hw
      rfl
    · rw [← bit_step hS hk, bit_out (by omega)]; try rfl
    · rw [← bit_step hS hk, bit_out (by omega)]; try rfl
  · rintro fv u0 u1 u2 h tk ⟨t, rfl⟩ F2 N2
    clear F1 N1
    k_steps
    all_goals (try dsimp only)
    (refine' hL.leave (foot' := []) ?lvF ?lvN ?lvs ?_; (case lvF => k_asm); (case lvN => k_asm); (case lvs => exact fun p hp => nomatch hp))
    exact ⟨_, rfl, rfl⟩
theorem bitsU {w : World} {pgm : Program} {loo : List Str} {mean : ExcName → Option Value} {mg mb : Str → Option Value} {dp un : Nat} {gd : Option (List Code)} {cn : Str} {cs : Scope} {za : Addr} {ccd : Value} {cl : List (Str × Addr)} {outer : List Env} {A₀ : Around} {base h₀ : Heap} {zL : Addr} {zm : Str → Option Value} {zn zr : Led} {zs : Shared} {zQ zE : Value → Shared → Prop} (zS : Site w pgm loo mean mg mb 840 8600 dp un cs outer A₀ base h₀ zL zs.heap zm zn ∧ Picks [] zn zr ∧ Apart [] zr) (old f way : Int) (t1 t2 t3 : Tok) (h0 : 0 ≤ old) (h1 : old < 32) (h2 : 0 ≤ f) (h3 : f < 40) (h4 : 0 ≤ way) (h5 : way < 5)
    (zh : ∀ h9 tk9, Fr h₀ zL h9 zm → ∀ t, News h₀ zL h9 (zr) → zQ (.int (bitSum old f way) t) { zs with heap := h9, toks := tk9 }) :
    wpAny (model PySem.Challenge.rw_og0244_01.row.prog w) (ktrTop dp un gd cn cs zL za ccd cl outer) (call (.ref 300) [.int old t1, .int f t2, .int way t3]) zQ zE zs :=
  bits_spec old f way t1 t2 t3 h0 h1 h2 h3 h4 h5 _ _ _ _ _ _ _ _ _ _ _ _ _ _ _ _ _ _ _ zS.1.B zS.1.F zS.1.X zS.1.T zS.1.k zS.1.d zS.1.u zS.1.N zS.2.1 zS.2.2 fun r foot h9 tk9 hp F9 N9 ap => by
    obtain ⟨t, rfl, rfl⟩ := hp
    exact zh h9 tk9 F9 t  N9
end
section
theorem set_last {x : Int} : ∀ {ps : List Int}, 1 ≤ ps.length → ps.set (ps.length - 1) x = ps.dropLast ++ [x]
  | [], h => absurd h (by decide)
  | [_], _ => rfl
  | a :: b :: r, _ => by
    have ih := set_last (x := x) (ps := b :: r) (by simp)
    show a :: ((b :: r).set ((b :: r).length - 1) x) = a :: ((b :: r).dropLast ++ [x])
    rw [ih]
section
variable {w : World} {A : Around} {E : Value → Shared → Prop} {s : Shared} {h₀ : Heap} {L D P p0 p1 pX : Addr} {m : Str → Option Value} {news news' : Led} {vs : List Value} {ns : List Int} {n c : Nat} {u t : Tok} {x h : Int} {alt : Bool}
theorem ints_last (hi : IntsAre vs ns) (h1 : 1 ≤ ns.length) : ∃ t, vs[vs.length - 1]? = some (.int (ns.getLastD 0) t) := by
  have hl := IntsAre.length hi
  obtain ⟨t, ht⟩ := hi.get (ns.length - 1) (ns.getLastD 0) (by
    match ns, h1 with
    | a :: r, _ => simp [List.getLastD, List.getLast?_eq_getElem?, List.getLast_eq_getElem])
  exact ⟨t, by rw [hl]; exact ht⟩
theorem last_ints {value slice : PySem.Expr} {Q : Value → Shared → Prop} (N : News h₀ L s.heap news) (hm : (D, PySem.W.listOf vs.toArray n) ∈ news) (hi : IntsAre vs ns) (h1 : 1 ≤ ns.length) (h : ∀ t, Q (.int (ns.getLastD 0) t) s)
    (hs : subscripted slice false (.ref D) (.int (-1) u) = operate [.ref D, .int (-1) u] (getItem (.ref D) (.int (-1) u)) := by with_unfolding_all rfl) :
    wpAny (model PySem.Challenge.rw_og0244_01.row.prog w) A (subscriptTail value slice (.ref D) (.int (-1) u)) Q E s := by
  have hl := IntsAre.length hi
  obtain ⟨t, ht⟩ := ints_last hi h1
  have hL := isList_led N hm
  refine tail_any hL.typeIs slot_list_getitem.lookup (wpAny_getItem_list_neg hL (by decide) (by rw [List.size_toArray]; omega) (by decide) ?_ (h t)) hs
  rw [List.size_toArray]
  have e : (-1 + (vs.length : Int)).toNat = vs.length - 1 := by omega
  rw [e]; simpa using ht
theorem setL_eq : ∀ (vs : List Value) (j : Nat) {v : Value}, j < vs.length → ki_setL vs j v = some (vs.set j v)
  | [], _, _, h => absurd h (Nat.not_lt_zero _)
  | _ :: _, 0, _, _ => rfl
  | a :: r, j + 1, v, h => by
    show (match ki_setL r j v with | some q => some (a :: q) | none => none) = _
    rw [setL_eq r j (Nat.lt_of_succ_lt_succ h)]
    rfl
theorem set_last_ints {Q : Unit → Shared → Prop} (F : Fr h₀ L s.heap m) (N : News h₀ L s.heap news) (hi : IntsAre vs ns) (h1 : 1 ≤ ns.length) (U : Upd D (PySem.W.listOf vs.toArray n) (PySem.W.listOf (vs.set (vs.length - 1) (.int x t)).toArray n) news news')
    (h : ∀ h', Fr h₀ L h' m → News h₀ L h' news' → IntsAre (vs.set (vs.length - 1) (.int x t)) (ns.dropLast ++ [x]) → Q () { s with heap := h' }) :
    wpAny (model PySem.Challenge.rw_og0244_01.row.prog w) A (PySem.setItem (.ref D) (.int (-1) u) (.int x t)) Q E s := by
  have hl := IntsAre.length hi
  refine ki_setNeg (j := vs.length - 1) (q := vs.set (vs.length - 1) (.int x t)) F N (by decide) (by decide) ?_ ?_ U fun h' F' N' => h h' F' N' ?_
  · rw [List.size_toArray, seqIndex_neg (by decide) (by omega)]
    congr 1; omega
  · exact setL_eq vs _ (by omega)
  · have := ints_set (x := x) (u := t) hi (vs.length - 1)
    rw [← set_last h1, ← hl]; exact this
end
end
example : Zz 0 := by (try walk1); exact trivial
local macro_rules | `(tactic| walk_at "call ref") => `(tactic| (k_here; focus (k_dflt (refine' stackU ?_ ?_ ?_ ?_ ?_ ?_; rotate_left 29; walk_at "mine site"; k_asm; k_ne; k_ne; k_ne; walk_at "mine after"))))
section
example : Zz 0 := by (try walk1); exact trivial
set_option linter.unusedVariables false
def bitsOf (old f : Int) (way : Int) : Int := if way = 1 then Builtin.bitAnd f 31 else if way = 2 then Builtin.bitOr old (Builtin.bitAnd f 31) else if way = 3 then Builtin.bitAnd old (31 - Builtin.bitAnd f 31) else old
def flagsP (ps : List Int) (f way : Int) : List Int := ps.dropLast ++ [bitsOf (ps.getLastD 0) f way]
theorem last_getD {ps : List Int} (h : 1 ≤ ps.length) : ps.getD (-1 + (ps.length : Int)).toNat 0 = ps.getLastD 0 := by
  have e : (-1 + (ps.length : Int)).toNat = ps.length - 1 := (congrArg Int.toNat (Int.add_comm _ _)).trans (Int.toNat_sub ps.length 1)
  rw [e]
  match ps, h with
  | a :: r, _ => simp [List.getLastD, List.getD, List.getLast_eq_getElem]
theorem flags_fin {vs : List Value} {ps : List Int} {f way X : Int} (h1 : 1 ≤ ps.length) (hi : IntsAre vs (ps.dropLast ++ [X])) (h : bitsOf (ps.getD (-1 + (ps.length : Int)).toNat 0) f way = X) : IntsAre vs (flagsP ps f way) := by
  rw [last_getD h1] at h
  subst h; exact hi
theorem flags_none {vs : List Value} {ps : List Int} {f way : Int} (hi : IntsAre vs ps) (h1 : 1 ≤ ps.length) (h : bitsOf (ps.getLastD 0) f way = ps.getLastD 0) : IntsAre vs (flagsP ps f way) := by
  unfold flagsP
  rw [h]
  have e : ps.dropLast ++ [ps.getLastD 0] = ps := by
    match ps, h1 with
    | a :: r, _ =>
      have q : (a :: r).getLastD 0 = (a :: r).getLast (by simp) := by simp [List.getLastD]
      rw [q]; exact List.dropLast_concat_getLast (by simp)
  rw [e]; exact hi
local macro_rules | `(tactic| walk_at "subscriptTail") => `(tactic| (k_here; k_dflt ((with_reducible refine' last_ints ?_ ?_ ?_ ?_ ?_); rotate_left 6; k_asm; k_mem; k_asm; assumption; k_whole); intro t9))
local macro_rules | `(tactic| walk_at "setItem ref int") => `(tactic| (k_here; k_dflt ((with_reducible refine' set_last_ints ?_ ?_ ?_ ?_ ?_ ?_); rotate_left 8; k_asm; k_asm; rotate_left 2; k_upd; rotate_right 2; k_asm; assumption; k_whole); intro h9 F9 N9 hi9; (try k_sweep)))
set_option maxHeartbeats 8000000 in
theorem flags_spec {w : World} {pgm : Program} {loo : List Str} {mean : ExcName → Option Value} {mg mb : Str → Option Value} {KO dK LV ST s0 s1 sX : Addr} {g1 g2 g3 g4 : Int} {u1 w1 u2 u3 u4 : Tok} {n c : Nat} {alt : Bool} {c1 : Nat} {vs : List Value} {ps : List Int} (hx : sX = if alt then s1 else s0) (a1 : @Ne Nat KO dK) (a2 : @Ne Nat KO ST) (a3 : @Ne Nat dK ST) (a4 : @Ne Nat KO sX) (a5 : @Ne Nat dK sX) (a6 : @Ne Nat ST sX) (hI : IntsAre vs ps) (hp1 : 1 ≤ ps.length) (hp3 : ps.length ≤ 3) (f : Int) (tf : Tok) (way : Int) (tw : Tok) :
    Spec w pgm loo mean mg mb (.ref 224) 840 8600 [.ref KO, .int f tf, .int way tw] [(KO, instObj 192 dK), (dK, keysD g1 u1 w1 g2 u2 LV g3 u3 alt g4 u4 ST n), (ST, PySem.W.listOf #[.ref s0, .ref s1] c), (sX, PySem.W.listOf vs.toArray c1)] (fun r foot' => ∃ vs' c', r = .none ∧ foot' = [(KO, instObj 192 dK), (dK, keysD g1 u1 w1 g2 u2 LV g3 u3 alt g4 u4 ST n), (ST, PySem.W.listOf #[.ref s0, .ref s1] c), (sX, PySem.W.listOf vs'.toArray c')] ∧ IntsAre vs' (flagsP ps f way)) := by
  (k_dflt (refine' spec_of (binds := [(Str.ofString "keys", .ref KO), (Str.ofString "flags", .int f tf), (Str.ofString "way", .int way tw)]) ?k6 ?k7 ?k8 ?k9 ?kB ?_ ?c2 ?c3 ?c4 ?c5; (case k6 => k_is); (case k7 => k_is); (case k8 => decide); (case k9 => exact fun s X => BindsTo.of_eq rfl); (case c5 => decide); (case kB => exact locs rfl); (case c2 => exact rfl); (case c3 => exact rfl); (case c4 => exact rfl); k_whole); intro ev A₀ base g' L' h₁ s tk₁ hdp hun B' F' N' X' T' hlt QL hL; k_lt hlt; (replace F' := binds_fr F'); (try dsimp only [BindsMap] at F'))
  k_steps
  all_goals (try dsimp only)
  · (refine' hL.leave (foot' := [(KO, instObj 192 dK), (dK, _), (ST, _), (sX, PySem.W.listOf _ _)]) ?lvF18 ?lvN18 ?lvs18 ?_; (case lvF18 => k_asm); (case lvN18 => k_asm); (case lvs18 => exact (by (repeat (first | exact sub_nil | (refine' sub_cons ?sa ?_; (case sa => k_mem)))))))
    exact ⟨_, _, rfl, rfl, by first | (refine flags_fin hp1 (by assumption) ?_; unfold bitsOf; simp [*]; done) | (refine flags_none hI hp1 ?_; unfold bitsOf; simp [*]; done)⟩
  · (refine' hL.leave (foot' := [(KO, instObj 192 dK), (dK, _), (ST, _), (sX, PySem.W.listOf _ _)]) ?lvF19 ?lvN19 ?lvs19 ?_; (case lvF19 => k_asm); (case lvN19 => k_asm); (case lvs19 => exact (by (repeat (first | exact sub_nil | (refine' sub_cons ?sa ?_; (case sa => k_mem)))))))
    exact ⟨_, _, rfl, rfl, by first | (refine flags_fin hp1 (by assumption) ?_; unfold bitsOf; simp [*]; done) | (refine flags_none hI hp1 ?_; unfold bitsOf; simp [*]; done)⟩
  · (refine' hL.leave (foot' := [(KO, instObj 192 dK), (dK, _), (ST, _), (sX, PySem.W.listOf _ _)]) ?lvF20 ?lvN20 ?lvs20 ?_; (case lvF20 => k_asm); (case lvN20 => k_asm); (case lvs20 => exact (by (repeat (first | exact sub_nil | (refine' sub_cons ?sa ?_; (case sa => k_mem)))))))
    exact ⟨_, _, rfl, rfl, by first | (refine flags_fin hp1 (by assumption) ?_; unfold bitsOf; simp [*]; done) | (refine flags_none hI hp1 ?_; unfold bitsOf; simp [*]; done)⟩
  · (refine' hL.leave (foot' := [(KO, instObj 192 dK), (dK, _), (ST, _), (sX, PySem.W.listOf _ _)]) ?lvF21 ?lvN21 ?lvs21 ?_; (case lvF21 => k_asm); (case lvN21 => k_asm); (case lvs21 => exact (by (repeat (first | exact sub_nil | (refine' sub_cons ?sa ?_; (case sa => k_mem)))))))
    exact ⟨_, _, rfl, rfl, by first | (refine flags_fin hp1 (by assumption) ?_; unfold bitsOf; simp [*]; done) | (refine flags_none hI hp1 ?_; unfold bitsOf; simp [*]; done)⟩
theorem flagsU {w : World} {pgm : Program} {loo : List Str} {mean : ExcName → Option Value} {mg mb : Str → Option Value} {KO dK LV ST s0 s1 sX : Addr} {g1 g2 g3 g4 : Int} {u1 w1 u2 u3 u4 : Tok} {n c : Nat} {alt : Bool} {c1 : Nat} {vs : List Value} {ps : List Int} {dp un : Nat} {gd : Option (List Code)} {cn : Str} {cs : Scope} {za : Addr} {ccd : Value} {cl : List (Str × Addr)} {outer : List Env} {A₀ : Around} {base h₀ : Heap} {zL : Addr} {zm : Str → Option Value} {zn zr : Led} {zs : Shared} {zQ zE : Value → Shared → Prop} (zS : Site w pgm loo mean mg mb 840 8600 dp un cs outer A₀ base h₀ zL zs.heap zm zn) (hx : sX = if alt then s1 else s0) (a1 : @Ne Nat KO dK) (a2 : @Ne Nat KO ST) (a3 : @Ne Nat dK ST) (a4 : @Ne Nat KO sX) (a5 : @Ne Nat dK sX) (a6 : @Ne Nat ST sX) (hI : IntsAre vs ps) (hp1 : 1 ≤ ps.length) (hp3 : ps.length ≤ 3) (f : Int) (tf : Tok) (way : Int) (tw : Tok) (zP : Picks [(KO, instObj 192 dK), (dK, keysD g1 u1 w1 g2 u2 LV g3 u3 alt g4 u4 ST n), (ST, PySem.W.listOf #[.ref s0, .ref s1] c), (sX, PySem.W.listOf vs.toArray c1)] zn zr) (zA : Apart [(KO, instObj 192 dK), (dK, keysD g1 u1 w1 g2 u2 LV g3 u3 alt g4 u4 ST n), (ST, PySem.W.listOf #[.ref s0, .ref s1] c), (sX, PySem.W.listOf vs.toArray c1)] zr)
    (zh : ∀ h9 tk9, Fr h₀ zL h9 zm → ∀ vs' c', IntsAre vs' (flagsP ps f way) → News h₀ zL h9 ((KO, instObj 192 dK) :: (dK, keysD g1 u1 w1 g2 u2 LV g3 u3 alt g4 u4 ST n) :: (ST, PySem.W.listOf #[.ref s0, .ref s1] c) :: (sX, PySem.W.listOf vs'.toArray c') :: zr) → zQ (.none) { zs with heap := h9, toks := tk9 }) :
    wpAny (model PySem.Challenge.rw_og0244_01.row.prog w) (ktrTop dp un gd cn cs zL za ccd cl outer) (call (.ref 224) [.ref KO, .int f tf, .int way tw]) zQ zE zs :=
  flags_spec hx a1 a2 a3 a4 a5 a6 hI hp1 hp3 f tf way tw _ _ _ _ _ _ _ _ _ _ _ _ _ _ _ _ _ _ _ zS.B zS.F zS.X zS.T zS.k zS.d zS.u zS.N zP zA fun r foot h9 tk9 hp F9 N9 ap => by
    obtain ⟨vs', c', rfl, rfl, y0⟩ := hp
    exact zh h9 tk9 F9 vs' c' y0 N9
end
section
example : Zz 0 := by (try walk1); exact trivial
set_option linter.unusedVariables false
def popOne (ps : List Int) : List Int := if ps.length > 1 then ps.dropLast else [0]
def popN : Nat → List Int → List Int
  | 0, ps => ps
  | n + 1, ps => popOne (popN n ps)
theorem popOne_len {ps : List Int} (h1 : 1 ≤ ps.length) (h3 : ps.length ≤ 3) : 1 ≤ (popOne ps).length ∧ (popOne ps).length ≤ 3 := by
  unfold popOne
  split
  · rename_i h; rw [List.length_dropLast]; exact ⟨Nat.le_sub_of_add_le h, Nat.le_trans (Nat.sub_le _ _) h3⟩
  · decide
theorem popN_len {ps : List Int} (h1 : 1 ≤ ps.length) (h3 : ps.length ≤ 3) : ∀ n, 1 ≤ (popN n ps).length ∧ (popN n ps).length ≤ 3
  | 0 => ⟨h1, h3⟩
  | n + 1 => popOne_len (popN_len h1 h3 n).1 (popN_len h1 h3 n).2
theorem popN_add (ps : List Int) (n : Nat) (h : popN n ps = [0]) : ∀ j, popN (n + j) ps = [0]
  | 0 => h
  | j + 1 => by
    show popOne (popN (n + j) ps) = [0]
    rw [popN_add ps n h j]; rfl
theorem popN_all {ps : List Int} (h1 : 1 ≤ ps.length) (h3 : ps.length ≤ 3) : popN ps.length ps = [0] := by
  match ps, h1, h3 with
  | [a], _, _ => rfl
  | [a, b], _, _ => rfl
  | [a, b, e], _, _ => rfl
theorem popN_clamp {ps : List Int} {many : Int} (h1 : 1 ≤ ps.length) (h3 : ps.length ≤ 3) (h0 : 0 ≤ many) :
    popN (if (if (ps.length : Int) < many then (ps.length : Int) else many) > 0 then if (ps.length : Int) < many then (ps.length : Int) else many else 0).toNat ps = popN many.toNat ps := by
  by_cases h : (ps.length : Int) < many
  · rw [if_pos h, if_pos (by omega)]
    have e : many.toNat = ps.length + (many.toNat - ps.length) := (Nat.add_sub_cancel' ((Int.le_toNat h0).2 (Int.le_of_lt h))).symm
    rw [e, popN_add ps _ (popN_all h1 h3)]
    simpa using popN_all h1 h3
  · rw [if_neg h]
    split
    · rfl
    · have : many = 0 := by omega
      subst this; rfl
local macro_rules | `(tactic| walk_at "exec For Name Call cons nil") => `(tactic| walk_at "mine forR")
set_option maxHeartbeats 8000000 in
theorem pop_spec {w : World} {pgm : Program} {loo : List Str} {mean : ExcName → Option Value} {mg mb : Str → Option Value} {KO dK LV ST s0 s1 sX : Addr} {g1 g2 g3 g4 : Int} {u1 w1 u2 u3 u4 : Tok} {n c : Nat} {alt : Bool} {c1 : Nat} {vs : List Value} {ps : List Int} (hx : sX = if alt then s1 else s0) (a1 : @Ne Nat KO dK) (a2 : @Ne Nat KO ST) (a3 : @Ne Nat dK ST) (a4 : @Ne Nat KO sX) (a5 : @Ne Nat dK sX) (a6 : @Ne Nat ST sX) (hI : IntsAre vs ps) (hp1 : 1 ≤ ps.length) (hp3 : ps.length ≤ 3) (many : Int) (tf : Tok) (h0 : 0 ≤ many) (h1 : many < 5) :
    Spec w pgm loo mean mg mb (.ref 217) 840 8600 [.ref KO, .int many tf] [(KO, instObj 192 dK), (dK, keysD g1 u1 w1 g2 u2 LV g3 u3 alt g4 u4 ST n), (ST, PySem.W.listOf #[.ref s0, .ref s1] c), (sX, PySem.W.listOf vs.toArray c1)] (fun r foot' => ∃ vs' c', r = .none ∧ foot' = [(KO, instObj 192 dK), (dK, keysD g1 u1 w1 g2 u2 LV g3 u3 alt g4 u4 ST n), (ST, PySem.W.listOf #[.ref s0, .ref s1] c), (sX, PySem.W.listOf vs'.toArray c')] ∧ IntsAre vs' (popN many.toNat ps)) := by
  have lv := IntsAre.length hI
  (k_dflt (refine' spec_of (binds := [(Str.ofString "keys", .ref KO), (Str.ofString "many", .int many tf)]) ?k6 ?k7 ?k8 ?k9 ?kB ?_ ?c2 ?c3 ?c4 ?c5; (case k6 => k_is); (case k7 => k_is); (case k8 => decide); (case k9 => exact fun s X => BindsTo.of_eq rfl); (case c5 => decide); (case kB => exact locs rfl); (case c2 => exact rfl); (case c3 => exact rfl); (case c4 => exact rfl); k_whole); intro ev A₀ base g' L' h₁ s tk₁ hdp hun B' F' N' X' T' hlt QL hL; k_lt hlt; (replace F' := binds_fr F'); (try dsimp only [BindsMap] at F'))
  k_steps
  all_goals (try dsimp only)
  rename IsRange _ _ _ _ _ _ _ _ => hr
  rename Fr _ _ _ _ => F1
  rename News _ _ _ _ => N1
  unfold Stop
  refine range_loopJ (fun i nx => ∃ vs' c', nx = [(KO, instObj 192 dK), (dK, keysD g1 u1 w1 g2 u2 LV g3 u3 alt g4 u4 ST n), (ST, PySem.W.listOf #[.ref s0, .ref s1] c), (sX, PySem.W.listOf vs'.toArray c')] ∧ IntsAre vs' (popN i ps)) rfl F1 N1 hr (by repeat' split <;> omega) (by repeat' split <;> omega) ⟨_, _, rfl, hI⟩ ?_ ?_
  · rintro i t nx h tk I oI hi ⟨vs', c', rfl, hI'⟩ ⟨o1, o2, o3, o4, -⟩ F2 N2 QT hT
    clear F1 N1
    obtain ⟨z1, z2⟩ := popN_len hp1 hp3 i
    simp only [List.cons_append, List.nil_append] at N2
    rcases ints_cases hI' z1 z2 with ⟨a, ta, q1, rfl⟩ | ⟨a, b, ta, tb, q1, rfl⟩ | ⟨a, b, e, ta, tb, te, q1, rfl⟩
    all_goals clear hI'
    · k_steps
      all_goals (try dsimp only)
      · refine hT _ _ ?_
        refine TurnEnd.base [(KO, instObj 192 dK), (dK, keysD g1 u1 w1 g2 u2 LV g3 u3 alt g4 u4 ST n), (ST, PySem.W.listOf #[.ref s0, .ref s1] c), (sX, PySem.W.listOf (List.toArray [.int 0 _]) _)] (by k_asm) (by k_asm) (by (repeat (first | exact sub_nil | (refine' sub_cons ?sa ?_; (case sa => k_mem))))) (by k_mem) (OffAll.all ⟨o1, o2, o3, o4, trivial⟩) (fun y hy => if_neg hy) ⟨_, _, rfl, ?_⟩
        show IntsAre _ (popOne (popN i ps))
        rw [q1]
        exact .cons _ _ .nil
    · k_steps
      all_goals (try dsimp only)
      · refine hT _ _ ?_
        refine TurnEnd.base [(KO, instObj 192 dK), (dK, keysD g1 u1 w1 g2 u2 LV g3 u3 alt g4 u4 ST n), (ST, PySem.W.listOf #[.ref s0, .ref s1] c), (sX, PySem.W.listOf (List.toArray [.int a ta]) _)] (by k_asm) (by k_asm) (by (repeat (first | exact sub_nil | (refine' sub_cons ?sa ?_; (case sa => k_mem))))) (by k_mem) (OffAll.all ⟨o1, o2, o3, o4, trivial⟩) (fun y hy => if_neg hy) ⟨_, _, rfl, ?_⟩
        show IntsAre _ (popOne (popN i ps))
        rw [q1]
        exact .cons _ _ .nil
    · k_steps
      all_goals (try dsimp only)
      · refine hT _ _ ?_
        refine TurnEnd.base [(KO, instObj 192 dK), (dK, keysD g1 u1 w1 g2 u2 LV g3 u3 alt g4 u4 ST n), (ST, PySem.W.listOf #[.ref s0, .ref s1] c), (sX, PySem.W.listOf (List.toArray [.int a ta, .int b tb]) _)] (by k_asm) (by k_asm) (by (repeat (first | exact sub_nil | (refine' sub_cons ?sa ?_; (case sa => k_mem))))) (by k_mem) (OffAll.all ⟨o1, o2, o3, o4, trivial⟩) (fun y hy => if_neg hy) ⟨_, _, rfl, ?_⟩
        show IntsAre _ (popOne (popN i ps))
        rw [q1]
        exact .cons _ _ (.cons _ _ .nil)
  · rintro u nx h tk ⟨vs', c', rfl, hI'⟩ F2 N2
    clear F1 N1
    rw [popN_clamp hp1 hp3 h0] at hI'
    k_steps
    all_goals (try dsimp only)
    (refine' hL.leave (foot' := [(KO, instObj 192 dK), (dK, keysD g1 u1 w1 g2 u2 LV g3 u3 alt g4 u4 ST n), (ST, PySem.W.listOf #[.ref s0, .ref s1] c), (sX, PySem.W.listOf vs'.toArray c')]) ?lvF22 ?lvN22 ?lvs22 ?_; (case lvF22 => k_asm); (case lvN22 => k_asm); (case lvs22 => exact (by (repeat (first | exact sub_nil | (refine' sub_cons ?sa ?_; (case sa => k_mem)))))))
    exact ⟨_, _, rfl, rfl, hI'⟩
theorem popU {w : World} {pgm : Program} {loo : List Str} {mean : ExcName → Option Value} {mg mb : Str → Option Value} {KO dK LV ST s0 s1 sX : Addr} {g1 g2 g3 g4 : Int} {u1 w1 u2 u3 u4 : Tok} {n c : Nat} {alt : Bool} {c1 : Nat} {vs : List Value} {ps : List Int} {dp un : Nat} {gd : Option (List Code)} {cn : Str} {cs : Scope} {za : Addr} {ccd : Value} {cl : List (Str × Addr)} {outer : List Env} {A₀ : Around} {base h₀ : Heap} {zL : Addr} {zm : Str → Option Value} {zn zr : Led} {zs : Shared} {zQ zE : Value → Shared → Prop} (zS : Site w pgm loo mean mg mb 840 8600 dp un cs outer A₀ base h₀ zL zs.heap zm zn) (hx : sX = if alt then s1 else s0) (a1 : @Ne Nat KO dK) (a2 : @Ne Nat KO ST) (a3 : @Ne Nat dK ST) (a4 : @Ne Nat KO sX) (a5 : @Ne Nat dK sX) (a6 : @Ne Nat ST sX) (hI : IntsAre vs ps) (hp1 : 1 ≤ ps.length) (hp3 : ps.length ≤ 3) (many : Int) (tf : Tok) (h0 : 0 ≤ many) (h1 : many < 5) (zP : Picks [(KO, instObj 192 dK), (dK, keysD g1 u1 w1 g2 u2 LV g3 u3 alt g4 u4 ST n), (ST, PySem.W.listOf #[.ref s0, .ref s1] c), (sX, PySem.W.listOf vs.toArray c1)] zn zr) (zA : Apart [(KO, instObj 192 dK), (dK, keysD g1 u1 w1 g2 u2 LV g3 u3 alt g4 u4 ST n), (ST, PySem.W.listOf #[.ref s0, .ref s1] c), (sX, PySem.W.listOf vs.toArray c1)] zr)
    (zh : ∀ h9 tk9, Fr h₀ zL h9 zm → ∀ vs' c', IntsAre vs' (popN many.toNat ps) → News h₀ zL h9 ((KO, instObj 192 dK) :: (dK, keysD g1 u1 w1 g2 u2 LV g3 u3 alt g4 u4 ST n) :: (ST, PySem.W.listOf #[.ref s0, .ref s1] c) :: (sX, PySem.W.listOf vs'.toArray c') :: zr) → zQ (.none) { zs with heap := h9, toks := tk9 }) :
    wpAny (model PySem.Challenge.rw_og0244_01.row.prog w) (ktrTop dp un gd cn cs zL za ccd cl outer) (call (.ref 217) [.ref KO, .int many tf]) zQ zE zs :=
  pop_spec hx a1 a2 a3 a4 a5 a6 hI hp1 hp3 many tf h0 h1 _ _ _ _ _ _ _ _ _ _ _ _ _ _ _ _ _ _ _ zS.B zS.F zS.X zS.T zS.k zS.d zS.u zS.N zP zA fun r foot h9 tk9 hp F9 N9 ap => by
    obtain ⟨vs', c', rfl, rfl, y0⟩ := hp
    exact zh h9 tk9 F9 vs' c' y0 N9
end
section
example : Zz 0 := by (try walk1); exact trivial
set_option linter.unusedVariables false
def clampI (lv : Int) : Int := if (if (4 : Int) - 1 < lv then (4 : Int) - 1 else lv) > 0 then (if (4 : Int) - 1 < lv then (4 : Int) - 1 else lv) else 0
def levelP (ls : List Int) (r lv : Int) : List Int := if r < 8 then ls.set r.toNat (clampI lv) else ls
set_option maxHeartbeats 8000000 in
theorem level_spec {w : World} {pgm : Program} {loo : List Str} {mean : ExcName → Option Value} {mg mb : Str → Option Value} {KO dK LV ST : Addr} {g1 g2 g3 g4 : Int} {u1 w1 u2 u3 u4 : Tok} {n c1 : Nat} {vs : List Value} {ls : List Int} {alt : Bool} (hI : IntsAre vs ls) (h8 : ls.length = 8) (r lv : Int) (tr tl : Tok) (h0 : 0 ≤ r) (h1 : r < 9) (a1 : @Ne Nat KO dK) (a2 : @Ne Nat KO LV) (a3 : @Ne Nat dK LV) :
    Spec w pgm loo mean mg mb (.ref 203) 840 8600 [.ref KO, .int r tr, .int lv tl] [(KO, instObj 192 dK), (dK, keysD g1 u1 w1 g2 u2 LV g3 u3 alt g4 u4 ST n), (LV, PySem.W.listOf vs.toArray c1)] (fun q foot' => ∃ vs' c', q = .none ∧ foot' = [(KO, instObj 192 dK), (dK, keysD g1 u1 w1 g2 u2 LV g3 u3 alt g4 u4 ST n), (LV, PySem.W.listOf vs'.toArray c')] ∧ IntsAre vs' (levelP ls r lv)) := by
  (k_dflt (refine' spec_of (binds := [(Str.ofString "keys", .ref KO), (Str.ofString "resource", .int r tr), (Str.ofString "level", .int lv tl)]) ?k6 ?k7 ?k8 ?k9 ?kB ?_ ?c2 ?c3 ?c4 ?c5; (case k6 => k_is); (case k7 => k_is); (case k8 => decide); (case k9 => exact fun s X => BindsTo.of_eq rfl); (case c5 => decide); (case kB => exact locs rfl); (case c2 => exact rfl); (case c3 => exact rfl); (case c4 => exact rfl); k_whole); intro ev A₀ base g' L' h₁ s tk₁ hdp hun B' F' N' X' T' hlt QL hL; k_lt hlt; (replace F' := binds_fr F'); (try dsimp only [BindsMap] at F'))
  k_steps
  all_goals (try dsimp only)
  · (refine' hL.leave (foot' := [(KO, instObj 192 dK), (dK, _), (LV, PySem.W.listOf (List.toArray _) _)]) ?lvF23 ?lvN23 ?lvs23 ?_; (case lvF23 => k_asm); (case lvN23 => k_asm); (case lvs23 => exact (by (repeat (first | exact sub_nil | (refine' sub_cons ?sa ?_; (case sa => k_mem)))))))
    refine ⟨_, _, rfl, rfl, ?_⟩
    unfold levelP
    rw [if_pos (show r < 8 by omega)]
    assumption
  · (refine' hL.leave (foot' := [(KO, instObj 192 dK), (dK, _), (LV, PySem.W.listOf (List.toArray _) _)]) ?lvF24 ?lvN24 ?lvs24 ?_; (case lvF24 => k_asm); (case lvN24 => k_asm); (case lvs24 => exact (by (repeat (first | exact sub_nil | (refine' sub_cons ?sa ?_; (case sa => k_mem)))))))
    refine ⟨_, _, rfl, rfl, ?_⟩
    unfold levelP
    rw [if_neg (show ¬ r < 8 by omega)]
    assumption
theorem levelU {w : World} {pgm : Program} {loo : List Str} {mean : ExcName → Option Value} {mg mb : Str → Option Value} {KO dK LV ST : Addr} {g1 g2 g3 g4 : Int} {u1 w1 u2 u3 u4 : Tok} {n c1 : Nat} {vs : List Value} {ls : List Int} {alt : Bool} {dp un : Nat} {gd : Option (List Code)} {cn : Str} {cs : Scope} {za : Addr} {ccd : Value} {cl : List (Str × Addr)} {outer : List Env} {A₀ : Around} {base h₀ : Heap} {zL : Addr} {zm : Str → Option Value} {zn zr : Led} {zs : Shared} {zQ zE : Value → Shared → Prop} (zS : Site w pgm loo mean mg mb 840 8600 dp un cs outer A₀ base h₀ zL zs.heap zm zn ∧ Picks [(KO, instObj 192 dK), (dK, keysD g1 u1 w1 g2 u2 LV g3 u3 alt g4 u4 ST n), (LV, PySem.W.listOf vs.toArray c1)] zn zr ∧ Apart [(KO, instObj 192 dK), (dK, keysD g1 u1 w1 g2 u2 LV g3 u3 alt g4 u4 ST n), (LV, PySem.W.listOf vs.toArray c1)] zr) (hI : IntsAre vs ls) (h8 : ls.length = 8) (r lv : Int) (tr tl : Tok) (h0 : 0 ≤ r) (h1 : r < 9) (a1 : @Ne Nat KO dK) (a2 : @Ne Nat KO LV) (a3 : @Ne Nat dK LV)
    (zh : ∀ h9 tk9, Fr h₀ zL h9 zm → ∀ vs' c', IntsAre vs' (levelP ls r lv) → News h₀ zL h9 ((KO, instObj 192 dK) :: (dK, keysD g1 u1 w1 g2 u2 LV g3 u3 alt g4 u4 ST n) :: (LV, PySem.W.listOf vs'.toArray c') :: zr) → zQ (.none) { zs with heap := h9, toks := tk9 }) :
    wpAny (model PySem.Challenge.rw_og0244_01.row.prog w) (ktrTop dp un gd cn cs zL za ccd cl outer) (call (.ref 203) [.ref KO, .int r tr, .int lv tl]) zQ zE zs :=
  level_spec hI h8 r lv tr tl h0 h1 a1 a2 a3 _ _ _ _ _ _ _ _ _ _ _ _ _ _ _ _ _ _ _ zS.1.B zS.1.F zS.1.X zS.1.T zS.1.k zS.1.d zS.1.u zS.1.N zS.2.1 zS.2.2 fun r foot h9 tk9 hp F9 N9 ap => by
    obtain ⟨vs', c', rfl, rfl, y0⟩ := hp
    exact zh h9 tk9 F9 vs' c' y0 N9
end
section
example : Zz 0 := by (try walk1); exact trivial
local macro_rules | `(tactic| k_lt $h) => `(tactic| km_mul $h)
set_option linter.unusedVariables false
abbrev keysH (w : World) (u1 w1 u2 : Tok) (LV : Addr) (u3 : Tok) (alt : Bool) (u4 : Tok) (ST : Addr) (n : Nat) : Obj := keysD (PyData.keyHash w.params (Str.ofString "most")) u1 w1 (PyData.keyHash w.params (Str.ofString "levels")) u2 LV (PyData.keyHash w.params (Str.ofString "is_alternate")) u3 alt (PyData.keyHash w.params (Str.ofString "stacks")) u4 ST n
set_option maxHeartbeats 8000000 in
theorem reset_ap {w : World} {pgm : Program} {loo : List Str} {mean : ExcName → Option Value} {mg mb : Str → Option Value} {KO dK LV ST : Addr} {u1 w1 u2 u3 u4 : Tok} {alt : Bool} (a1 : @Ne Nat KO dK) :
    Spec w pgm loo mean mg mb (.ref 231) 840 8600 [.ref KO] [(KO, instObj 192 dK), (dK, keysH w u1 w1 u2 LV u3 alt u4 ST 4)] (fun q foot' => ∀ R : Prop, (∀ (LV' ST' s0' s1' : Addr) (vs8 v0 v1 : List Value) (c8 c0 c1 cS : Nat), q = .none → foot' = [(KO, instObj 192 dK), (dK, keysH w u1 w1 u2 LV' u3 alt u4 ST' 4), (LV', PySem.W.listOf vs8.toArray c8), (ST', PySem.W.listOf #[.ref s0', .ref s1'] cS), (s0', PySem.W.listOf v0.toArray c0), (s1', PySem.W.listOf v1.toArray c1)] →
      IntsAre vs8 [0, 0, 0, 0, 0, 0, 0, 0] → IntsAre v0 [0] → IntsAre v1 [0] → AP1 LV' [KO, dK] → AP1 s0' [LV', KO, dK] → AP1 s1' [s0', LV', KO, dK] → AP1 ST' [s1', s0', LV', KO, dK] → R) → R) := by
  (k_dflt (refine' spec_of (binds := [(Str.ofString "keys", .ref KO)]) ?k6 ?k7 ?k8 ?k9 ?kB ?_ ?c2 ?c3 ?c4 ?c5; (case k6 => k_is); (case k7 => k_is); (case k8 => decide); (case k9 => exact fun s X => BindsTo.of_eq rfl); (case c5 => decide); (case kB => exact locs rfl); (case c2 => exact rfl); (case c3 => exact rfl); (case c4 => exact rfl); k_whole); intro ev A₀ base g' L' h₁ s tk₁ hdp hun B' F' N' X' T' hlt QL hL; k_lt hlt; (replace F' := binds_fr F'); (try dsimp only [BindsMap] at F'))
  simp only [keysH, keysD] at N'
  k_steps
  all_goals (try dsimp only)
  (refine' hL.leave (foot' := [(KO, instObj 192 dK), (dK, keysH w u1 w1 u2 ?LV u3 alt u4 ?ST 4), (?LV, PySem.W.listOf (List.replicate (Int.toNat 8) [Value.int 0 _]).flatten.toArray 0), (?ST, PySem.W.listOf #[.ref ?s0, .ref ?s1] 0), (?s0, PySem.W.listOf (List.toArray [.int 0 _]) 0), (?s1, PySem.W.listOf (List.toArray [.int 0 _]) 0)]) ?lvF ?lvN ?lvs ?_; (case lvF => k_asm); (case lvN => k_asm); (case lvs => exact (by (repeat (first | exact sub_nil | (refine' sub_cons ?sa ?_; (case sa => k_mem)))))))
  refine fun _ k => k _ _ _ _ _ _ _ _ _ _ _ rfl rfl (.cons _ _ (.cons _ _ (.cons _ _ (.cons _ _ (.cons _ _ (.cons _ _ (.cons _ _ (.cons _ _ .nil)))))))) (.cons _ _ .nil) (.cons _ _ .nil) ?_ ?_ ?_ ?_ <;> walk_at "mine kap"
end
section
theorem bitSum_same {old f : Int} : bitSum old f 0 = bitSum old 0 0 ∧ bitSum old f 4 = bitSum old 0 0 := ⟨rfl, rfl⟩
theorem bits_tab : ∀ (o : Fin 32) (g : Fin 32), (bitSum ((o.val : Nat) : Int) ((g.val : Nat) : Int) 2 = Builtin.bitOr ((o.val : Nat) : Int) ((g.val : Nat) : Int) ∧ bitSum ((o.val : Nat) : Int) ((g.val : Nat) : Int) 3 = Builtin.bitAnd ((o.val : Nat) : Int) (31 - ((g.val : Nat) : Int))) := by decide +kernel
theorem bit_mod : ∀ (g : Fin 40), ∀ k ∈ ([1, 2, 4, 8, 16] : List Int), (((g.val : Nat) : Int).fdiv k).fmod 2 = ((((g.val : Nat) : Int) % 32).fdiv k).fmod 2 := by decide +kernel
theorem bitSum_mod {old f way : Int} (h2 : 0 ≤ f) (h3 : f < 40) : bitSum old f way = bitSum old (f % 32) way := by
  have h := bit_mod ⟨f.toNat, by omega⟩
  simp only [Int.toNat_of_nonneg h2] at h
  unfold bitSum
  congr 1
  apply List.map_congr_left
  intro k hk
  unfold bitAt
  rw [h k hk]
theorem bits_one : ∀ (o : Fin 32), bitSum ((o.val : Nat) : Int) 0 0 = ((o.val : Nat) : Int) := by decide +kernel
theorem bits_told : ∀ (g : Fin 32), bitSum 0 ((g.val : Nat) : Int) 1 = ((g.val : Nat) : Int) := by decide +kernel
theorem bitSum_told {old f : Int} : bitSum old f 1 = bitSum 0 f 1 := rfl
theorem bits_eq {old f way : Int} (h0 : 0 ≤ old) (h1 : old < 32) (h2 : 0 ≤ f) (h3 : f < 40) (h4 : 0 ≤ way) (h5 : way < 5) : bitSum old f way = bitsOf old f way := by
  have e31 := and31 h2 h3
  have hg0 : 0 ≤ f % 32 := Int.emod_nonneg f (by decide)
  have hg1 : f % 32 < 32 := Int.emod_lt_of_pos f (by decide)
  have t1 := bits_one ⟨old.toNat, (Int.toNat_lt h0).2 h1⟩
  have t2 := bits_told ⟨(f % 32).toNat, (Int.toNat_lt hg0).2 hg1⟩
  have t3 := bits_tab ⟨old.toNat, (Int.toNat_lt h0).2 h1⟩ ⟨(f % 32).toNat, (Int.toNat_lt hg0).2 hg1⟩
  simp only [Int.toNat_of_nonneg h0] at t1
  simp only [Int.toNat_of_nonneg hg0] at t2
  simp only [Int.toNat_of_nonneg h0, Int.toNat_of_nonneg hg0] at t3
  unfold bitsOf
  rw [e31]
  rcases int_up (a := 0) (b := 1) rfl h4 with rfl | hw
  · rw [bitSum_same.1, t1]; rfl
  rcases int_up (a := 1) (b := 2) rfl hw with rfl | hw
  · rw [bitSum_mod h2 h3, bitSum_told, t2]; rfl
  rcases int_up (a := 2) (b := 3) rfl hw with rfl | hw
  · rw [bitSum_mod h2 h3, t3.1]; rfl
  rcases int_up (a := 3) (b := 4) rfl hw with rfl | hw
  · rw [bitSum_mod h2 h3, t3.2]; rfl
  obtain rfl := Int.le_antisymm (Int.le_of_lt_add_one h5) hw
  rw [bitSum_same.2, t1]; rfl
theorem bits_rtab : ∀ (o : Fin 32) (g : Fin 32), (0 ≤ Builtin.bitOr ((o.val : Nat) : Int) ((g.val : Nat) : Int) ∧ Builtin.bitOr ((o.val : Nat) : Int) ((g.val : Nat) : Int) < 32) ∧ (0 ≤ Builtin.bitAnd ((o.val : Nat) : Int) (31 - ((g.val : Nat) : Int)) ∧ Builtin.bitAnd ((o.val : Nat) : Int) (31 - ((g.val : Nat) : Int)) < 32) := by decide +kernel
theorem bits_range {old f way : Int} (h0 : 0 ≤ old) (h1 : old < 32) (h2 : 0 ≤ f) (h3 : f < 40) : 0 ≤ bitsOf old f way ∧ bitsOf old f way < 32 := by
  have e31 := and31 h2 h3
  have hg0 : 0 ≤ f % 32 := Int.emod_nonneg f (by decide)
  have t3 := bits_rtab ⟨old.toNat, (Int.toNat_lt h0).2 h1⟩ ⟨(f % 32).toNat, (Int.toNat_lt hg0).2 (Int.emod_lt_of_pos f (by decide))⟩
  simp only [Int.toNat_of_nonneg h0, Int.toNat_of_nonneg hg0] at t3
  unfold bitsOf
  rw [e31]
  split
  · exact ⟨hg0, Int.emod_lt_of_pos f (by decide)⟩
  · split
    · exact t3.1
    · split
      · exact t3.2
      · exact ⟨h0, h1⟩
structure KS (ps : List Int) : Prop where
  one : 1 ≤ ps.length
  three : ps.length ≤ 3
  rng : ∀ x ∈ ps, 0 ≤ x ∧ x < 32
theorem one_snoc {l : List Int} {x : Int} : 1 ≤ (l ++ [x]).length := by simp
theorem KS.zero : KS [0] := ⟨by decide, by decide, by intro x hx; simp at hx; omega⟩
theorem KS.push {ps : List Int} {f : Int} (h : KS ps) : KS (pushP ps f) := by
  have h1 := h.one
  have h3 := h.three
  have hr : ∀ x ∈ ps ++ [f % 32], 0 ≤ x ∧ x < 32 := fun x hx => by
    rcases List.mem_append.mp hx with hx | hx
    · exact h.rng x hx
    · rw [List.mem_singleton.mp hx]; exact ⟨Int.emod_nonneg f (by decide), Int.emod_lt_of_pos f (by decide)⟩
  unfold pushP
  split
  · exact ⟨by rw [List.length_append]; omega, by rw [List.length_append, List.length_singleton]; omega, hr⟩
  · have e : (ps ++ [f % 32]).length = 4 := by rw [List.length_append, List.length_singleton]; omega
    exact ⟨by rw [List.length_eraseIdx, if_pos (by omega)]; omega, by rw [List.length_eraseIdx, if_pos (by omega)]; omega, fun x hx => hr x (List.mem_of_mem_eraseIdx hx)⟩
theorem KS.popOne {ps : List Int} (h : KS ps) : KS (popOne ps) := by
  refine ⟨(popOne_len h.one h.three).1, (popOne_len h.one h.three).2, fun x hx => ?_⟩
  unfold Mine.popOne at hx
  split at hx
  · exact h.rng x ((List.dropLast_sublist _).subset hx)
  · simp at hx; omega
theorem KS.pop {ps : List Int} (h : KS ps) : ∀ n, KS (popN n ps)
  | 0 => h
  | n + 1 => (KS.pop h n).popOne
theorem KS.last {ps : List Int} (h : KS ps) : 0 ≤ ps.getLastD 0 ∧ ps.getLastD 0 < 32 := by
  have h1 := h.one
  match ps, h with
  | [], h => exact absurd h.one (by decide)
  | a :: r, h =>
    have : (a :: r).getLastD 0 = (a :: r).getLast (by simp) := by simp [List.getLastD]
    rw [this]
    exact h.rng _ (List.getLast_mem _)
theorem KS.flags {ps : List Int} {f way : Int} (h : KS ps) (h2 : 0 ≤ f) (h3 : f < 40) : KS (flagsP ps f way) := by
  have h1 := h.one
  have h3' := h.three
  unfold flagsP
  refine ⟨by rw [List.length_append, List.length_singleton]; omega, by rw [List.length_append, List.length_singleton, List.length_dropLast]; omega, fun x hx => ?_⟩
  rcases List.mem_append.mp hx with hx | hx
  · exact h.rng x ((List.dropLast_sublist _).subset hx)
  · rw [List.mem_singleton.mp hx]
    exact bits_range h.last.1 h.last.2 h2 h3
section
variable {w : World} {A : Around} {E : Value → Shared → Prop} {s : Shared} {h₀ : Heap} {L D P p0 p1 pX : Addr} {m : Str → Option Value} {news news' : Led} {vs : List Value} {ns : List Int} {n c : Nat} {u t : Tok} {x h : Int} {alt : Bool}
theorem pair_item {value slice : PySem.Expr} {Q : Value → Shared → Prop} (N : News h₀ L s.heap news) (hm : (P, PySem.W.listOf #[.ref p0, .ref p1] c) ∈ news) (hx : pX = if alt then p1 else p0) (hh : h = if alt then 1 else 0) (hQ : Q (.ref pX) s)
    (hs : subscripted slice false (.ref P) (.int h u) = operate [.ref P, .int h u] (getItem (.ref P) (.int h u)) := by with_unfolding_all rfl) :
    wpAny (model PySem.Challenge.rw_og0244_01.row.prog w) A (subscriptTail value slice (.ref P) (.int h u)) Q E s := by
  have hL : s.heap.IsList P #[.ref p0, .ref p1] := ⟨_, (N _ hm).1, rfl, c, rfl⟩
  refine tail_any hL.typeIs slot_list_getitem.lookup (wpAny_getItem_list hL ?_ ?_ ?_ hQ) hs
  · rw [hh]; cases alt <;> decide
  · rw [hh]; cases alt <;> decide
  · rw [hh, hx]; cases alt <;> rfl
end
end
local macro_rules | `(tactic| walk_at "mine kone") => `(tactic| (first | assumption | exact KS.one (by k_asm) | exact one_snoc | exact (KS.push (by k_asm)).one | exact (KS.pop (by k_asm) _).one | exact (KS.flags (by k_asm) (by assumption) (by assumption)).one))
local macro_rules | `(tactic| walk_at "mine kthree") => `(tactic| (first | assumption | exact KS.three (by k_asm) | exact (KS.push (by k_asm)).three | exact (KS.pop (by k_asm) _).three | exact (KS.flags (by k_asm) (by assumption) (by assumption)).three))
section
def LeS (a b : Str) : Prop := ¬ b.cps.toList < a.cps.toList
theorem leS_trans {a b c : Str} (h : LeS a b) (k : LeS b c) : LeS a c := by
  have h : a.cps.toList ≤ b.cps.toList := List.not_lt.mp h
  have k : b.cps.toList ≤ c.cps.toList := List.not_lt.mp k
  exact List.not_lt.mpr (List.le_trans h k)
theorem leS_antisymm {a b : Str} (h : LeS a b) (k : LeS b a) : a = b := by
  have h : a.cps.toList ≤ b.cps.toList := List.not_lt.mp h
  have k : b.cps.toList ≤ a.cps.toList := List.not_lt.mp k
  have e := List.le_antisymm h k
  cases a; cases b
  simpa using e
theorem rising_pairwise : ∀ (p : Str) (l : List Str), risingS p l = true → (p :: l).Pairwise LeS
  | p, [], _ => List.pairwise_singleton _ _
  | p, x :: r, h => by
    have h : (!PySem.Spec.ltCps x.cps.toList p.cps.toList && risingS x r) = true := h
    rw [Bool.and_eq_true, Bool.not_eq_true', ltCps_eq, decide_eq_false_iff_not] at h
    have ih := rising_pairwise x r h.2
    refine List.pairwise_cons.mpr ⟨fun y hy => ?_, ih⟩
    rcases List.mem_cons.mp hy with rfl | hy
    · exact h.1
    · exact leS_trans h.1 ((List.pairwise_cons.mp ih).1 y hy)
theorem sortedS_pairwise : ∀ {l : List Str}, sortedS l = true → l.Pairwise LeS
  | [], _ => List.Pairwise.nil
  | x :: r, h => rising_pairwise x r h
theorem perm_sorted : ∀ {a b : List Str}, a.Pairwise LeS → b.Pairwise LeS → a.Perm b → a = b
  | [], b, _, _, p => (List.nil_perm.mp p).symm
  | x :: r, [], _, _, p => absurd p (by simp)
  | x :: r, y :: t, ha, hb, p => by
    have hx := (List.pairwise_cons.mp ha).1
    have hy := (List.pairwise_cons.mp hb).1
    have e : x = y := by
      have m1 : x ∈ y :: t := p.mem_iff.mp (.head _)
      have m2 : y ∈ x :: r := p.mem_iff.mpr (.head _)
      rcases List.mem_cons.mp m1 with e | m1
      · exact e
      · rcases List.mem_cons.mp m2 with e | m2
        · exact e.symm
        · exact leS_antisymm (hx y m2) (hy x m1)
    subst e
    rw [perm_sorted (List.pairwise_cons.mp ha).2 (List.pairwise_cons.mp hb).2 (List.perm_cons x |>.mp p)]
theorem sorted_unique {a b : List Str} (ha : sortedS a = true) (hb : sortedS b = true) (p : a.Perm b) : a = b := perm_sorted (sortedS_pairwise ha) (sortedS_pairwise hb) p
theorem nodup_perm {a b : List Str} (ha : a.Nodup) (hb : b.Nodup) (h : ∀ x, x ∈ a ↔ x ∈ b) : a.Perm b := (List.perm_ext_iff_of_nodup ha hb).mpr h
theorem Inv.ssK {D K : BD} {ss : List Str} (h : Inv D ss K) : ∀ x ∈ ss, x ∈ known := fun x hx => h.kD x (onB_mem (by rw [h.on]; exact decide_eq_true hx))
theorem told_eq {D K : BD} {ss a b : List Str} (hI : Inv D ss K) (pa : a.Perm (D.map (·.1))) (sa : sortedS a = true) (pb : b.Perm ss) (sb : sortedS b = true) : a.filter (onB D) = b := by
  refine perm_sorted ((sortedS_pairwise sa).filter _) (sortedS_pairwise sb) ?_
  refine nodup_perm ((pa.nodup_iff.mpr hI.ndD).filter _) (pb.nodup_iff.mpr hI.nd) fun x => ?_
  rw [List.mem_filter, pa.mem_iff, pb.mem_iff, hI.on, decide_eq_true_eq]
  constructor
  · exact fun h => h.2
  · exact fun h => ⟨onB_mem (by rw [hI.on]; exact decide_eq_true h), h⟩
section
variable {w : World} {A : Around} {E : Value → Shared → Prop} {s : Shared} {h₀ : Heap} {L l a b : Addr} {m : Str → Option Value} {news : Led} {vs us : List Value} {ss : List Str} {c : Nat} {Q : Value → Shared → Prop}
theorem sorted_strs_led (F : Fr h₀ L s.heap m) (N : News h₀ L s.heap news) (hm : (l, W.listOf vs.toArray c) ∈ news) (hS : StrsAre vs ss) (h64 : vs.length < 64)
    (h : ∀ D vs' ss' c' h', Fr h₀ L h' m → News h₀ L h' ((D, W.listOf vs'.toArray c') :: news) → (∀ q ∈ news, q.1 < D) → StrsAre vs' ss' → ss'.Perm ss → sortedS ss' = true → Q (.ref D) { s with heap := h' }) :
    wpAny (model PySem.Challenge.rw_og0244_01.row.prog w) A (call (.builtin "sorted") [.ref l]) Q E s :=
  sorted_N_str F N (isList_led N hm) hS h64 fun h' vs' ss' e F' N' a1 a2 a3 => h _ vs' ss' e h' F' N' (fun p hp => Nat.lt_succ_of_lt (Heap.lt_size (N p hp).1)) a1 a2 a3
theorem list_led (F : Fr h₀ L s.heap m) (N : News h₀ L s.heap news) (hm : (l, W.listOf vs.toArray c) ∈ news) (hz : vs.length ≤ 1000)
    (h : ∀ D c' h', Fr h₀ L h' m → News h₀ L h' ((D, W.listOf vs.toArray c') :: news) → (∀ q ∈ news, q.1 < D) → Q (.ref D) { s with heap := h' }) :
    wpAny (model PySem.Challenge.rw_og0244_01.row.prog w) A (call (.type "list") [.ref l]) Q E s :=
  list_copyK F N (isList_led N hm) h (by rw [List.size_toArray, sizeLine_eq]; omega)
theorem readsAll_strs {h : Heap} : ∀ {vs : List Value} {ss : List Str}, StrsAre vs ss → ReadsAll h vs (ss.map .str) []
  | _, _, .nil => .nil
  | _, _, .cons x t r => .cons (.str x t) (readsAll_strs r)
theorem shaped_strs {ss : List Str} (hk : ∀ x ∈ ss, x ∈ known) (hok : ∀ x ∈ known, PyData.strOk x = true) : PySem.SeqAt.shaped (.list (ss.map .str)) = true := by
  have h1 : ∀ ss : List Str, (∀ x ∈ ss, x ∈ known) → PyData.canLayAll0 (ss.map .str) = true := by
    intro ss
    induction ss with
    | nil => intro _; rfl
    | cons p ps ih =>
      intro hk
      have a := hok _ (hk p (.head _))
      have b := ih fun q hq => hk q (.tail _ hq)
      simp only [List.map_cons, PyData.canLayAll0, PyData.canLay0, Bool.and_eq_true]
      exact ⟨a, b⟩
  have h2 : ∀ ss : List Str, PyData.depthAll (ss.map .str) ≤ 1 := by
    intro ss
    induction ss with
    | nil => exact Nat.zero_le _
    | cons p ps ih =>
      simp only [List.map_cons, PyData.depthAll, PyData.depth]
      omega
  unfold PySem.SeqAt.shaped
  simp only [PyData.canLay0, PyData.depth, Bool.and_eq_true]
  have := h2 ss
  exact ⟨h1 ss hk, decide_eq_true (by omega)⟩
end
end
section
def pairData (ps : BD) : PyData := .list (ps.map fun p => .tuple [.str p.1, .bool p.2])
theorem readsAll_pairs {h : Heap} {vs : List Value} {ts : Led} {ps : BD} (hP : PairsL vs ts ps) (ht : ∀ p ∈ ts, h.get? p.1 = some p.2) : ∃ as, ReadsAll h vs (ps.map fun p => PyData.tuple [.str p.1, .bool p.2]) as := by
  induction hP with
  | nil => exact ⟨_, .nil⟩
  | @cons a x t b n vs ts ps hP ih =>
    obtain ⟨as, r⟩ := ih fun p hp => ht p (.tail _ hp)
    have e := ht _ (.head _)
    exact ⟨_, .cons (.tuple (n := n) e rfl rfl (.cons (.str x t) (.cons (.bool b) .nil))) r⟩
theorem reads_pairs {h₀ h : Heap} {L : Addr} {news : Led} {l : Addr} {vs : List Value} {n : Nat} {ts : Led} {ps : BD} (N : News h₀ L h news) (hm : (l, ({ cls := .type "list", data := .seq vs.toArray n } : Obj)) ∈ news) (hP : PairsL vs ts ps) (ht : ∀ p ∈ ts, p ∈ news) : ∃ as, Reads h (.ref l) (pairData ps) as := by
  obtain ⟨as, r⟩ := readsAll_pairs hP fun p hp => (N p (ht p hp)).1
  exact ⟨_, .list (N _ hm).1 rfl rfl r⟩
theorem known_ok : ∀ x ∈ known, PyData.strOk x = true := by decide +kernel
theorem shaped_pairs {ps : BD} (hk : ∀ p ∈ ps, p.1 ∈ known) : PySem.SeqAt.shaped (pairData ps) = true := by
  have h1 : ∀ ps : BD, (∀ p ∈ ps, p.1 ∈ known) → PyData.canLayAll0 (ps.map fun p => PyData.tuple [.str p.1, .bool p.2]) = true := by
    intro ps
    induction ps with
    | nil => intro _; rfl
    | cons p ps ih =>
      intro hk
      have a := known_ok _ (hk p (.head _))
      have b := ih fun q hq => hk q (.tail _ hq)
      simp only [List.map_cons, PyData.canLayAll0, PyData.canLay0, Bool.and_true, Bool.and_eq_true]
      exact ⟨a, b⟩
  have h2 : ∀ ps : BD, PyData.depthAll (ps.map fun p => PyData.tuple [.str p.1, .bool p.2]) ≤ 1 := by
    intro ps
    induction ps with
    | nil => exact Nat.zero_le _
    | cons p ps ih =>
      simp only [List.map_cons, PyData.depthAll, PyData.depth]
      exact Nat.max_le.2 ⟨by decide, ih⟩
  unfold PySem.SeqAt.shaped pairData
  simp only [PyData.canLay0, PyData.depth, Bool.and_eq_true]
  have := h2 ps
  exact ⟨h1 ps hk, decide_eq_true (by omega)⟩
theorem savedOne_known {K : BD} {ns : List Int} : ∀ p ∈ ns.filterMap (savedOne K), p.1 ∈ known := by
  intro p hp
  obtain ⟨k, _, e⟩ := List.mem_filterMap.mp hp
  unfold savedOne at e
  cases hk : privTab.lookup k with
  | none => rw [hk] at e; cases e
  | some x =>
    rw [hk] at e
    dsimp only at e
    split at e
    · cases e; exact priv_known hk
    · cases e
section
variable {w : World} {A : Around} {E : Value → Shared → Prop} {s : Shared} {h₀ : Heap} {L a b : Addr} {news ts us : Led} {vs ws : List Value} {n k : Nat} {ps : BD} {Q : Value → Shared → Prop}
theorem ne_pairs (N : News h₀ L s.heap news) (ha : (a, ({ cls := .type "list", data := .seq vs.toArray n } : Obj)) ∈ news) (hb : (b, ({ cls := .type "list", data := .seq ws.toArray k } : Obj)) ∈ news) (hP : PairsL vs ts ps) (hR : PairsL ws us ps) (ht : ∀ p ∈ ts, p ∈ news) (hu' : ∀ p ∈ us, p ∈ news) (hk : ∀ p ∈ ps, p.1 ∈ known) (hu : A.units + 64 < cLine) (h : Q (.bool false) s) :
    wpAny (model PySem.Challenge.rw_og0244_01.row.prog w) A (compareOp .NotEq (.ref a) (.ref b)) Q E s := by
  obtain ⟨as, ra⟩ := reads_pairs N ha hP ht
  obtain ⟨bs, rb⟩ := reads_pairs N hb hR hu'
  exact ne_same ra rb (shaped_pairs hk) hu h
end
theorem pairs_at {vs : List Value} {ts : Led} {ps : BD} (h : PairsL vs ts ps) : ∀ (i : Nat) (v : Value), vs[i]? = some v → ∃ a x t b n, v = .ref a ∧ ps[i]? = some (x, b) ∧ (a, pairObj x t b n) ∈ ts := by
  induction h with
  | nil => intro i v h; simp at h
  | @cons a x t b n vs ts ps h ih =>
    intro i v hv
    cases i with
    | zero =>
      simp only [List.getElem?_cons_zero, Option.some.injEq] at hv
      exact ⟨a, x, t, b, n, hv.symm, rfl, .head _⟩
    | succ i =>
      obtain ⟨a', x', t', b', n', e, hp, hm⟩ := ih i v (by simpa using hv)
      exact ⟨a', x', t', b', n', e, by simpa using hp, .tail _ hm⟩
theorem map_getD (vs : List Value) : (List.range vs.length).map (fun i => vs.getD i .none) = vs := by
  apply List.ext_getElem
  · simp
  · intro i h1 h2
    simp [List.getD, h2]
theorem getD_of {vs : List Value} {i : Nat} {v : Value} (h : vs[i]? = some v) : vs.getD i .none = v := by
  simp [List.getD, h]
theorem news_tail {h₀ h : Heap} {L : Addr} {a1 a2 a3 a4 f : Addr × Obj} {ts R : Led} (N : News h₀ L h (a1 :: a2 :: a3 :: a4 :: f :: (ts ++ R))) : News h₀ L h (f :: a1 :: a2 :: a3 :: a4 :: (R ++ ts)) := news_sub N fun p hp => by
  simp only [List.mem_cons, List.mem_append] at hp ⊢
  rcases hp with h | h | h | h | h | h | h
  · exact .inr (.inr (.inr (.inr (.inl h))))
  · exact .inl h
  · exact .inr (.inl h)
  · exact .inr (.inr (.inl h))
  · exact .inr (.inr (.inr (.inl h)))
  · exact .inr (.inr (.inr (.inr (.inr (.inr h)))))
  · exact .inr (.inr (.inr (.inr (.inr (.inl h)))))
theorem savedUU {w : World} {pgm : Program} {loo : List Str} {mean : ExcName → Option Value} {mg mb : Str → Option Value} {M dM S Kp : Addr} {h1 h2 : Int} {t1 t2 : Tok} {n : Nat} {oK : Obj} {K : BD} {N : Addr} {vs : List Value} {c : Nat} {ns : List Int} {dp un : Nat} {gd : Option (List Code)} {cn : Str} {cs : Scope} {za : Addr} {ccd : Value} {cl : List (Str × Addr)} {outer : List Env} {A₀ : Around} {base h₀ : Heap} {zL : Addr} {zm : Str → Option Value} {zn zr : Led} {zs : Shared} {zQ zE : Value → Shared → Prop} (zS : Site w pgm loo mean mg mb 840 8600 dp un cs outer A₀ base h₀ zL zs.heap zm zn ∧ Picks [(M, instObj 86 dM), (dM, modesD h1 t1 S h2 t2 Kp n), (Kp, oK), (N, W.listOf vs.toArray c)] zn zr ∧ Apart [(M, instObj 86 dM), (dM, modesD h1 t1 S h2 t2 Kp n), (Kp, oK), (N, W.listOf vs.toArray c)] zr) (hK : BoolDict w oK K) (hlo : (Kp == sysModules) = false) (hI : IntsAre vs ns) (hz : ns.length ≤ 900)
    (hn1 : @Ne Nat M dM) (hk1 : @Ne Nat M Kp) (hk2 : @Ne Nat dM Kp) (hm1 : @Ne Nat M N) (hm2 : @Ne Nat dM N) (hm4 : @Ne Nat Kp N)
    (zh : ∀ h9 tk9, Fr h₀ zL h9 zm → ∀ Fd vs' c' ts, PairsL vs' ts (ns.filterMap (savedOne K)) → OffAll Fd ts → News h₀ zL h9 ((Fd, W.listOf vs'.toArray c') :: (M, instObj 86 dM) :: (dM, modesD h1 t1 S h2 t2 Kp n) :: (Kp, oK) :: (N, W.listOf vs.toArray c) :: (zr ++ ts)) → zQ (.ref Fd) { zs with heap := h9, toks := tk9 }) :
    wpAny (model PySem.Challenge.rw_og0244_01.row.prog w) (ktrTop dp un gd cn cs zL za ccd cl outer) (call (.ref 111) [.ref M, .ref N]) zQ zE zs :=
  saved_spec hK hlo hI hz hn1 hk1 hk2 hm1 hm2 hm4 _ _ _ _ _ _ _ _ _ _ _ _ _ _ _ _ _ _ _ zS.1.B zS.1.F zS.1.X zS.1.T zS.1.k zS.1.d zS.1.u zS.1.N zS.2.1 zS.2.2 fun r foot h9 tk9 hp F9 N9 ap => by
    obtain ⟨Fd, vs', c', ts, rfl, rfl, hP, hO⟩ := hp
    simp only [List.cons_append, List.nil_append, List.append_assoc] at N9
    exact zh h9 tk9 F9 Fd vs' c' ts hP hO (news_tail N9)
end
section
def optV (x : Option Str) (t : Tok) : Value := match x with | none => .none | some y => .str y t
def optD (x : Option Str) : PyData := match x with | none => .none | some y => .str y
theorem Spec.post {w : World} {pgm : Program} {loo : List Str} {mean : ExcName → Option Value} {mg mb : Str → Option Value} {f : Value} {D U : Nat} {args : List Value} {foot : Led} {P P' : Value → Led → Prop} (S : Spec w pgm loo mean mg mb f D U args foot P) (hP : ∀ r f, P r f → P' r f) : Spec w pgm loo mean mg mb f D U args foot P' :=
  fun dp un gd cn cs a ccd cl outer A₀ base h₀ L m news rest s Q E h1 h2 h3 h4 h5 h6 h7 h8 h9 h10 h => S dp un gd cn cs a ccd cl outer A₀ base h₀ L m news rest s Q E h1 h2 h3 h4 h5 h6 h7 h8 h9 h10 fun r f h' tk p => h r f h' tk (hP r f p)
theorem mmode_opt {w : World} {pgm : Program} {loo : List Str} {mean : ExcName → Option Value} {mg mb : Str → Option Value} {M dM S Kp : Addr} {h1 h2 : Int} {t1 t2 : Tok} {n : Nat} {oS : Obj} {D : BD} (hS : BoolDict w oS D) (hlo : (S == sysModules) = false) (hn1 : @Ne Nat M dM) (hn2 : @Ne Nat M S) (hn3 : @Ne Nat dM S) :
    Spec w pgm loo mean mg mb (.ref 144) 840 8600 [.ref M] [(M, instObj 86 dM), (dM, modesD h1 t1 S h2 t2 Kp n), (S, oS)] (fun r foot' => ∃ t, r = optV (mouseModes.find? (onB D)) t ∧ foot' = [(M, instObj 86 dM), (dM, modesD h1 t1 S h2 t2 Kp n), (S, oS)]) := by
  refine Spec.post (mmode_spec hS hlo hn1 hn2 hn3) fun r f p => ?_
  obtain ⟨rfl, ⟨e, rfl⟩ | ⟨y, t, e, rfl⟩⟩ := p
  · exact ⟨default, by rw [e]; rfl, rfl⟩
  · exact ⟨t, by rw [e]; rfl, rfl⟩
theorem menc_opt {w : World} {pgm : Program} {loo : List Str} {mean : ExcName → Option Value} {mg mb : Str → Option Value} {M dM S Kp : Addr} {h1 h2 : Int} {t1 t2 : Tok} {n : Nat} {oS : Obj} {D : BD} (hS : BoolDict w oS D) (hlo : (S == sysModules) = false) (hn1 : @Ne Nat M dM) (hn2 : @Ne Nat M S) (hn3 : @Ne Nat dM S) :
    Spec w pgm loo mean mg mb (.ref 151) 840 8600 [.ref M] [(M, instObj 86 dM), (dM, modesD h1 t1 S h2 t2 Kp n), (S, oS)] (fun r foot' => ∃ t, r = optV (mouseEncs.find? (onB D)) t ∧ foot' = [(M, instObj 86 dM), (dM, modesD h1 t1 S h2 t2 Kp n), (S, oS)]) := by
  refine Spec.post (menc_spec hS hlo hn1 hn2 hn3) fun r f p => ?_
  obtain ⟨rfl, ⟨e, rfl⟩ | ⟨y, t, e, rfl⟩⟩ := p
  · exact ⟨default, by rw [e]; rfl, rfl⟩
  · exact ⟨t, by rw [e]; rfl, rfl⟩
theorem reads_opt {h : Heap} (x : Option Str) (t : Tok) : Reads h (optV x t) (optD x) [] := by
  cases x with
  | none => exact .none
  | some y => exact .str y t
theorem ok_opt {x : Option Str} (h : ∀ y, x = some y → y ∈ known) : PyData.canLay0 (optD x) = true ∧ PyData.depth (optD x) ≤ 1 := by
  cases x with
  | none => exact ⟨rfl, by simp [optD, PyData.depth]⟩
  | some y => exact ⟨known_ok _ (h y rfl), by simp [optD, PyData.depth]⟩
section
variable {w : World} {A : Around} {E : Value → Shared → Prop} {s : Shared} {h₀ : Heap} {L l a b : Addr} {m : Str → Option Value} {news : Led} {vs us : List Value} {ss : List Str} {c c' : Nat} {Q : Value → Shared → Prop}
theorem ne_strs_same (N : News h₀ L s.heap news) (ha : (a, W.listOf vs.toArray c) ∈ news) (hb : (b, W.listOf us.toArray c') ∈ news) (hS : StrsAre vs ss) (hT : StrsAre us ss) (hk : ∀ x ∈ ss, x ∈ known) (hu : A.units + 64 < cLine) (h : Q (.bool false) s) :
    wpAny (model PySem.Challenge.rw_og0244_01.row.prog w) A (compareOp .NotEq (.ref a) (.ref b)) Q E s :=
  ne_same (.list (N _ ha).1 rfl rfl (readsAll_strs hS)) (.list (N _ hb).1 rfl rfl (readsAll_strs hT)) (shaped_strs hk known_ok) hu h
theorem ne_two {x y : Option Str} {t1 t2 u1 u2 : Tok} (N : News h₀ L s.heap news) (ha : (a, W.listOf #[optV x t1, optV y t2] c) ∈ news) (hb : (b, W.listOf #[optV x u1, optV y u2] c') ∈ news) (hx : ∀ z, x = some z → z ∈ known) (hy : ∀ z, y = some z → z ∈ known) (hu : A.units + 64 < cLine) (h : Q (.bool false) s) :
    wpAny (model PySem.Challenge.rw_og0244_01.row.prog w) A (compareOp .NotEq (.ref a) (.ref b)) Q E s := by
  refine ne_same (d := .list [optD x, optD y]) (.list (N _ ha).1 rfl rfl (.cons (reads_opt x t1) (.cons (reads_opt y t2) .nil))) (.list (N _ hb).1 rfl rfl (.cons (reads_opt x u1) (.cons (reads_opt y u2) .nil))) ?_ hu h
  have h1 := ok_opt hx
  have h2 := ok_opt hy
  unfold PySem.SeqAt.shaped
  simp only [PyData.canLay0, PyData.canLayAll0, PyData.depth, PyData.depthAll, Bool.and_eq_true, Bool.and_true]
  exact ⟨⟨h1.1, h2.1⟩, decide_eq_true (Nat.le_trans (Nat.succ_le_succ (Nat.max_le.2 ⟨h1.2, Nat.max_le.2 ⟨h2.2, Nat.zero_le _⟩⟩)) (by decide))⟩
theorem ne_numTup {k : Int} {bb : Bool} {t u : Tok} {n n' : Nat} (N : News h₀ L s.heap news) (ha : (a, ({ cls := .type "tuple", data := .seq #[.int k t, .bool bb] n } : Obj)) ∈ news) (hb : (b, ({ cls := .type "tuple", data := .seq #[.int k u, .bool bb] n' } : Obj)) ∈ news) (hu : A.units + 64 < cLine) (h : Q (.bool false) s) :
    wpAny (model PySem.Challenge.rw_og0244_01.row.prog w) A (compareOp .NotEq (.ref a) (.ref b)) Q E s := by
  refine ne_same (d := .tuple [.int k, .bool bb]) (.tuple (N _ ha).1 rfl rfl (.cons (.int k t) (.cons (.bool bb) .nil))) (.tuple (N _ hb).1 rfl rfl (.cons (.int k u) (.cons (.bool bb) .nil))) ?_ hu h
  unfold PySem.SeqAt.shaped
  simp [PyData.canLay0, PyData.canLayAll0, PyData.depth, PyData.depthAll]
end
theorem on_len {vs : List Value} {ss : List Str} {D : BD} {p : Str → Bool} (h : StrsAre vs (ss.filter p)) (hp : ss.Perm (D.map (·.1))) (hz : D.length ≤ 41) : vs.length ≤ 1000 := by
  have := strs_length h
  have := List.length_filter_le p ss
  have := hp.length_eq
  rw [List.length_map] at this
  omega
section
variable {prog : Program} {w : World} {A : Around} {h₀ : Heap} {L : Addr} {m : Str → Option Value} {env : Env} {elt : Expr} {x : Str} {scope : Scope} {cl : List (Str × Addr)} {s : Shared} {S : List (Addr × Obj) → Prop} {P : Nat → Value → Prop} {Fin : List Value → List (Addr × Obj) → Prop} {news : List (Addr × Obj)}
theorem rel_rest {n : Nat} (J : Nat → List Value → Led → Prop) (h0 : J 0 [] news)
    (turn : ∀ i v I oI C oC D m₂ ys nw h tk (E' : Value → Shared → Prop), i < n → P i v → LCg.NsObj oC m₂ → m₂ x = some v → J i ys nw → Fr h₀ L h m → News h₀ L h ((I, oI) :: (C, oC) :: (D, LCg.lst ys) :: nw) → LCg.Off3 I C D nw → ((@Ne Nat I C) ∧ (@Ne Nat I D) ∧ (@Ne Nat C D)) →
      wpAny (model prog w) A (eval elt (compEnvC scope cl C env)) (LCg.CompEnd h₀ L m { s with heap := h, toks := tk } I oI C oC D (LCg.lst ys) S (fun y news' => J (i + 1) (ys ++ [y]) news')) E' { s with heap := h, toks := tk })
    (fin : ∀ ys nw, J n ys nw → Fin ys nw) : LCg.CompRest prog w A h₀ L m env elt x scope cl s S P Fin n 0 [] news := by
  have key : ∀ (j i : Nat) (ys : List Value) (nw : Led), i + j = n → J i ys nw → LCg.CompRest prog w A h₀ L m env elt x scope cl s S P Fin j i ys nw := by
    intro j
    induction j with
    | zero =>
      intro i ys nw hi hj
      have e : i = n := by omega
      subst e
      exact LCg.CompRest.zero (fin ys nw hj)
    | succ j ih =>
      intro i ys nw hi hj
      refine LCg.CompRest.succ ?_
      intro v I oI C oC D m₂ h tk E' hv hC hx F N off ne
      refine wpAny_mono (turn i v I oI C oC D m₂ ys nw h tk E' (by omega) hv hC hx hj F N off ne) (fun y s₂ hq => ?_) fun _ _ e => e
      obtain ⟨h', tk', nw', e, F', N', off', hS, hn⟩ := hq
      exact ⟨h', tk', _, e, F', N', off', hS, ih (i + 1) _ _ (by omega) hn⟩
  exact key n 0 [] news (by omega) h0
end
inductive OptVs : List Value → List (Option Str) → Prop
  | nil : OptVs [] []
  | cons {x : Option Str} {t : Tok} {vs : List Value} {xs : List (Option Str)} : OptVs vs xs → OptVs (optV x t :: vs) (x :: xs)
theorem OptVs.snoc {vs : List Value} {xs : List (Option Str)} (h : OptVs vs xs) (x : Option Str) (t : Tok) : OptVs (vs ++ [optV x t]) (xs ++ [x]) := by
  induction h with
  | nil => exact .cons .nil
  | cons _ ih => exact .cons ih
theorem opt_snoc {α : Type} {f : α → Option Str} {gs : List α} {g : α} {ys : List Value} {i : Nat} (h : OptVs ys ((gs.take i).map f)) (hg : gs[i]? = some g) (t : Tok) : OptVs (ys ++ [optV (f g) t]) ((gs.take (i + 1)).map f) := by
  rw [List.take_add_one, hg, List.map_append]
  exact h.snoc _ _
theorem OptVs.two {vs : List Value} {x y : Option Str} (h : OptVs vs [x, y]) : ∃ t u, vs = [optV x t, optV y u] := by
  cases h with
  | cons h => cases h with
    | cons h => cases h; exact ⟨_, _, rfl⟩
theorem listAt_of {K : Frag} {h : Heap} {a : Addr} {cls : Value} {dd : Option Addr} {its : Array Value} {n : Nat} {sl : Array (Option Value)} {ys : List Str} (X : K.In h) (e : K.lookup a = some ⟨cls, dd, .seq its n, sl⟩)
    (hc : cls = .type "list") (hS : StrsAre its.toList ys) : ∃ vs : List Value, h.IsList a vs.toArray ∧ StrsAre vs ys := ⟨its.toList, ⟨_, X _ _ e, hc, n, by simp⟩, hS⟩
theorem group1_list {w : World} {h : Heap} (X : (pre.heap_1 w.params).In h) : ∃ vs : List Value, h.IsList 236 vs.toArray ∧ StrsAre vs mouseModes := by
  k_dflt (refine' listAt_of X ?e ?c ?s; (case e => k_is); (case c => exact rfl); (case s => exact .cons _ _ (.cons _ _ (.cons _ _ (.cons _ _ .nil)))))
theorem group2_list {w : World} {h : Heap} (X : (pre.heap_1 w.params).In h) : ∃ vs : List Value, h.IsList 237 vs.toArray ∧ StrsAre vs mouseEncs := by
  k_dflt (refine' listAt_of X ?e ?c ?s; (case e => k_is); (case c => exact rfl); (case s => exact .cons _ _ (.cons _ _ (.cons _ _ (.cons _ _ .nil)))))
theorem groups_itemL {w : World} {h : Heap} (X : (pre.heap_1 w.params).In h) {i : Nat} {v : Value} (hv : ([.ref 236, .ref 237] : List Value)[i]? = some v) : ∃ ga g vs, v = .ref ga ∧ h.IsList ga vs.toArray ∧ StrsAre vs g ∧ lawGroups[i]? = some g ∧ g.length ≤ 4 := by
  match i, hv with
  | 0, hv => obtain ⟨vs, a, b⟩ := group1_list X; exact ⟨236, _, vs, (Option.some.inj hv).symm, a, b, rfl, Nat.le_refl _⟩
  | 1, hv => obtain ⟨vs, a, b⟩ := group2_list X; exact ⟨237, _, vs, (Option.some.inj hv).symm, a, b, rfl, Nat.le_refl _⟩
  | i + 2, hv => simp at hv
theorem groups_list {w : World} {h : Heap} (X : (pre.heap_1 w.params).In h) : h.IsList 238 ([.ref 236, .ref 237] : List Value).toArray := by
  obtain ⟨lo, n, a, b, c⟩ := groups_at X
  exact ⟨lo, a, b, n, c⟩
theorem find_on {D K : BD} {ss : List Str} (hI : Inv D ss K) (g : List Str) : (g.filter (fun x => decide (x ∈ ss))).head? = g.find? (onB D) := by
  rw [List.head?_filter]
  congr 1
  funext x
  exact (hI.on x).symm
theorem modes_known : ∀ x ∈ mouseModes, x ∈ known := by decide +kernel
theorem encs_known : ∀ x ∈ mouseEncs, x ∈ known := by decide +kernel
theorem find_known {g : List Str} (h : ∀ x ∈ g, x ∈ known) {p : Str → Bool} : ∀ z, g.find? p = some z → z ∈ known := fun z e => h z (List.mem_of_find?_eq_some e)
theorem lookup_mem {T : List (Int × Str)} {k : Int} {x : Str} (h : T.lookup k = some x) : (k, x) ∈ T := by
  induction T with
  | nil => cases h
  | cons p T ih =>
    rw [List.lookup_cons] at h
    split at h
    · rename_i e
      have e := beq_iff_eq.mp e
      subst e
      cases h; exact .head _
    · exact .tail _ (ih h)
theorem findNum_tab {b : Bool} {k : Int} {x : Str} (h : (wordTab b).lookup k = some x) : findNum x = some (k, b) := by
  have h1 : ∀ p ∈ privTab, findNum p.2 = some (p.1, true) := by decide +kernel
  have h2 : ∀ p ∈ plainTab, findNum p.2 = some (p.1, false) := by decide +kernel
  cases b with
  | true => exact h1 _ (lookup_mem h)
  | false => exact h2 _ (lookup_mem h)
theorem findNum_eight : findNum eightW = none := by decide +kernel
section
variable {w : World} {A : Around} {E : Value → Shared → Prop} {s : Shared} {h₀ : Heap} {L l : Addr} {news : Led} {vs : List Value} {ss : List Str} {c : Nat} {Q : Value → Shared → Prop}
theorem eq_none_all : ∀ {vs : List Value} {ys : List Str}, StrsAre vs ys → ∀ y, y ∈ vs → PySem.MeetsSeq.EqGives y .none false
  | _, _, .nil, _, hy => nomatch hy
  | _, _, .cons n u h, y, hy => by
    rcases List.mem_cons.mp hy with rfl | hy
    · exact fun prog w A E s Q h => PySem.SeqAt.EqAt.str_none (A := A) (s := s) n u prog w E Q h
    · exact eq_none_all h y hy
theorem in_none_led (N : News h₀ L s.heap news) (hm : (l, W.listOf vs.toArray c) ∈ news) (hS : StrsAre vs ss) (h : Q (.bool false) s) : wpAny (model PySem.Challenge.rw_og0244_01.row.prog w) A (compareOp .In .none (.ref l)) Q E s := by
  refine PySem.SeqInW.in_listW (items := vs.toArray) (fun _ => false) (fun y hy => eq_none_all hS y (by simpa using hy)) (isList_led N hm) ?_
  have e : (vs.toArray.any fun _ => false) = false := by rw [List.any_toArray]; simp
  rw [e]; exact h
end
theorem word_t {w : World} {pgm : Program} {loo : List Str} {mean : ExcName → Option Value} {mg mb : Str → Option Value} (k : Int) (tk : Tok) (x : Str) (h : privTab.lookup k = some x) : Spec w pgm loo mean mg mb (.ref 41) 870 8800 [.int k tk, .bool true] [] (fun r foot' => ∃ t, r = .str x t ∧ foot' = []) := by
  refine Spec.post (word_spec k tk true) fun r f p => ?_
  have h' : (wordTab true).lookup k = some x := h
  obtain ⟨rfl, ⟨e, rfl⟩ | ⟨y, t, e, rfl⟩⟩ := p
  · rw [h'] at e; cases e
  · rw [h'] at e; cases e; exact ⟨t, rfl, rfl⟩
theorem word_f {w : World} {pgm : Program} {loo : List Str} {mean : ExcName → Option Value} {mg mb : Str → Option Value} (k : Int) (tk : Tok) (x : Str) (h : plainTab.lookup k = some x) : Spec w pgm loo mean mg mb (.ref 41) 870 8800 [.int k tk, .bool false] [] (fun r foot' => ∃ t, r = .str x t ∧ foot' = []) := by
  refine Spec.post (word_spec k tk false) fun r f p => ?_
  have h' : (wordTab false).lookup k = some x := h
  obtain ⟨rfl, ⟨e, rfl⟩ | ⟨y, t, e, rfl⟩⟩ := p
  · rw [h'] at e; cases e
  · rw [h'] at e; cases e; exact ⟨t, rfl, rfl⟩
theorem word_tn {w : World} {pgm : Program} {loo : List Str} {mean : ExcName → Option Value} {mg mb : Str → Option Value} (k : Int) (tk : Tok) (h : privTab.lookup k = none) : Spec w pgm loo mean mg mb (.ref 41) 870 8800 [.int k tk, .bool true] [] (fun r foot' => r = .none ∧ foot' = []) := by
  refine Spec.post (word_spec k tk true) fun r f p => ?_
  have h' : (wordTab true).lookup k = none := h
  obtain ⟨rfl, ⟨e, rfl⟩ | ⟨y, t, e, rfl⟩⟩ := p
  · exact ⟨rfl, rfl⟩
  · rw [h'] at e; cases e
theorem word_fn {w : World} {pgm : Program} {loo : List Str} {mean : ExcName → Option Value} {mg mb : Str → Option Value} (k : Int) (tk : Tok) (h : plainTab.lookup k = none) : Spec w pgm loo mean mg mb (.ref 41) 870 8800 [.int k tk, .bool false] [] (fun r foot' => r = .none ∧ foot' = []) := by
  refine Spec.post (word_spec k tk false) fun r f p => ?_
  have h' : (wordTab false).lookup k = none := h
  obtain ⟨rfl, ⟨e, rfl⟩ | ⟨y, t, e, rfl⟩⟩ := p
  · exact ⟨rfl, rfl⟩
  · rw [h'] at e; cases e
theorem mnum_t {w : World} {pgm : Program} {loo : List Str} {mean : ExcName → Option Value} {mg mb : Str → Option Value} (k : Int) (x : Str) (tk : Tok) (h : privTab.lookup k = some x) : Spec w pgm loo mean mg mb (.ref 48) 860 8700 [.str x tk] [] (fun r foot' => ∃ a n t, r = .ref a ∧ foot' = [(a, { cls := .type "tuple", data := .seq #[.int k t, .bool true] n })]) := by
  refine Spec.post (mnum_spec x tk) fun r f p => ?_
  have h' := findNum_tab (b := true) h
  rcases p with ⟨e, rfl, rfl⟩ | ⟨a, n, k', t, b, e, rfl, rfl⟩
  · rw [h'] at e; cases e
  · rw [h'] at e; cases e; exact ⟨a, n, t, rfl, rfl⟩
theorem mnum_f {w : World} {pgm : Program} {loo : List Str} {mean : ExcName → Option Value} {mg mb : Str → Option Value} (k : Int) (x : Str) (tk : Tok) (h : plainTab.lookup k = some x) : Spec w pgm loo mean mg mb (.ref 48) 860 8700 [.str x tk] [] (fun r foot' => ∃ a n t, r = .ref a ∧ foot' = [(a, { cls := .type "tuple", data := .seq #[.int k t, .bool false] n })]) := by
  refine Spec.post (mnum_spec x tk) fun r f p => ?_
  have h' := findNum_tab (b := false) h
  rcases p with ⟨e, rfl, rfl⟩ | ⟨a, n, k', t, b, e, rfl, rfl⟩
  · rw [h'] at e; cases e
  · rw [h'] at e; cases e; exact ⟨a, n, t, rfl, rfl⟩
theorem mnum_8 {w : World} {pgm : Program} {loo : List Str} {mean : ExcName → Option Value} {mg mb : Str → Option Value} (tk : Tok) : Spec w pgm loo mean mg mb (.ref 48) 860 8700 [.str (Str.ofString "eight_bits") tk] [] (fun r foot' => r = .none ∧ foot' = []) := by
  refine Spec.post (mnum_spec _ tk) fun r f p => ?_
  rcases p with ⟨e, rfl, rfl⟩ | ⟨a, n, k', t, b, e, rfl, rfl⟩
  · exact ⟨rfl, rfl⟩
  · rw [show findNum (Str.ofString "eight_bits") = none from findNum_eight] at e; cases e
theorem eq_intV {prog : Program} {w : World} {A : Around} {E : Value → Shared → Prop} {s : Shared} {a b : Int} {t u : Tok} {Q : Value → Shared → Prop} {v : Bool} (e : (a == b) = v) (h : Q (.bool v) s) : wpAny (model prog w) A (compareOp .Eq (.int a t) (.int b u)) Q E s := eq_int (by rw [e]; exact h)
theorem any_fixed {k : Int} {b : Bool} (h : (([1, 5, 7, 10, 11, 13, 14, 15, 16, 17, 18, 19] : List Int).any fun x => x == k) = b) : decide (k ∈ fixedModes) = b := by
  rw [← h, Bool.eq_iff_iff, List.any_eq_true, decide_eq_true_eq]
  exact ⟨fun h => ⟨k, h, beq_self_eq_true k⟩, fun ⟨y, hy, e⟩ => (beq_iff_eq.mp e) ▸ hy⟩
theorem bne_same {x : Str} (h : (x != x) = true) : False := by simp at h
theorem on_of {D K : BD} {ss : List Str} {x : Str} {b : Bool} (hI : Inv D ss K) (h : decide (x ∈ ss) = b) : onB D x = b := by rw [hI.on]; exact h
theorem mmode_optU {w : World} {pgm : Program} {loo : List Str} {mean : ExcName → Option Value} {mg mb : Str → Option Value} {M dM S Kp : Addr} {h1 h2 : Int} {t1 t2 : Tok} {n : Nat} {oS : Obj} {D : BD} {dp un : Nat} {gd : Option (List Code)} {cn : Str} {cs : Scope} {za : Addr} {ccd : Value} {cl : List (Str × Addr)} {outer : List Env} {A₀ : Around} {base h₀ : Heap} {zL : Addr} {zm : Str → Option Value} {zn zr : Led} {zs : Shared} {zQ zE : Value → Shared → Prop} (zS : Site w pgm loo mean mg mb 840 8600 dp un cs outer A₀ base h₀ zL zs.heap zm zn ∧ Picks [(M, instObj 86 dM), (dM, modesD h1 t1 S h2 t2 Kp n), (S, oS)] zn zr ∧ Apart [(M, instObj 86 dM), (dM, modesD h1 t1 S h2 t2 Kp n), (S, oS)] zr) (hS : BoolDict w oS D) (hlo : (S == sysModules) = false) (hn1 : @Ne Nat M dM) (hn2 : @Ne Nat M S) (hn3 : @Ne Nat dM S)
    (zh : ∀ h9 tk9, Fr h₀ zL h9 zm → ∀ t, News h₀ zL h9 ((M, instObj 86 dM) :: (dM, modesD h1 t1 S h2 t2 Kp n) :: (S, oS) :: zr) → zQ (optV (mouseModes.find? (onB D)) t) { zs with heap := h9, toks := tk9 }) :
    wpAny (model PySem.Challenge.rw_og0244_01.row.prog w) (ktrTop dp un gd cn cs zL za ccd cl outer) (call (.ref 144) [.ref M]) zQ zE zs :=
  mmode_opt hS hlo hn1 hn2 hn3 _ _ _ _ _ _ _ _ _ _ _ _ _ _ _ _ _ _ _ zS.1.B zS.1.F zS.1.X zS.1.T zS.1.k zS.1.d zS.1.u zS.1.N zS.2.1 zS.2.2 fun r foot h9 tk9 hp F9 N9 ap => by
    obtain ⟨t, rfl, rfl⟩ := hp
    exact zh h9 tk9 F9 t  N9

theorem menc_optU {w : World} {pgm : Program} {loo : List Str} {mean : ExcName → Option Value} {mg mb : Str → Option Value} {M dM S Kp : Addr} {h1 h2 : Int} {t1 t2 : Tok} {n : Nat} {oS : Obj} {D : BD} {dp un : Nat} {gd : Option (List Code)} {cn : Str} {cs : Scope} {za : Addr} {ccd : Value} {cl : List (Str × Addr)} {outer : List Env} {A₀ : Around} {base h₀ : Heap} {zL : Addr} {zm : Str → Option Value} {zn zr : Led} {zs : Shared} {zQ zE : Value → Shared → Prop} (zS : Site w pgm loo mean mg mb 840 8600 dp un cs outer A₀ base h₀ zL zs.heap zm zn ∧ Picks [(M, instObj 86 dM), (dM, modesD h1 t1 S h2 t2 Kp n), (S, oS)] zn zr ∧ Apart [(M, instObj 86 dM), (dM, modesD h1 t1 S h2 t2 Kp n), (S, oS)] zr) (hS : BoolDict w oS D) (hlo : (S == sysModules) = false) (hn1 : @Ne Nat M dM) (hn2 : @Ne Nat M S) (hn3 : @Ne Nat dM S)
    (zh : ∀ h9 tk9, Fr h₀ zL h9 zm → ∀ t, News h₀ zL h9 ((M, instObj 86 dM) :: (dM, modesD h1 t1 S h2 t2 Kp n) :: (S, oS) :: zr) → zQ (optV (mouseEncs.find? (onB D)) t) { zs with heap := h9, toks := tk9 }) :
    wpAny (model PySem.Challenge.rw_og0244_01.row.prog w) (ktrTop dp un gd cn cs zL za ccd cl outer) (call (.ref 151) [.ref M]) zQ zE zs :=
  menc_opt hS hlo hn1 hn2 hn3 _ _ _ _ _ _ _ _ _ _ _ _ _ _ _ _ _ _ _ zS.1.B zS.1.F zS.1.X zS.1.T zS.1.k zS.1.d zS.1.u zS.1.N zS.2.1 zS.2.2 fun r foot h9 tk9 hp F9 N9 ap => by
    obtain ⟨t, rfl, rfl⟩ := hp
    exact zh h9 tk9 F9 t  N9

theorem word_tU {w : World} {pgm : Program} {loo : List Str} {mean : ExcName → Option Value} {mg mb : Str → Option Value} {dp un : Nat} {gd : Option (List Code)} {cn : Str} {cs : Scope} {za : Addr} {ccd : Value} {cl : List (Str × Addr)} {outer : List Env} {A₀ : Around} {base h₀ : Heap} {zL : Addr} {zm : Str → Option Value} {zn zr : Led} {zs : Shared} {zQ zE : Value → Shared → Prop} (zS : Site w pgm loo mean mg mb 870 8800 dp un cs outer A₀ base h₀ zL zs.heap zm zn ∧ Picks [] zn zr ∧ Apart [] zr) (k : Int) (tk : Tok) (x : Str) (h : privTab.lookup k = some x)
    (zh : ∀ h9 tk9, Fr h₀ zL h9 zm → ∀ t, News h₀ zL h9 (zr) → zQ (.str x t) { zs with heap := h9, toks := tk9 }) :
    wpAny (model PySem.Challenge.rw_og0244_01.row.prog w) (ktrTop dp un gd cn cs zL za ccd cl outer) (call (.ref 41) [.int k tk, .bool true]) zQ zE zs :=
  word_t k tk x h _ _ _ _ _ _ _ _ _ _ _ _ _ _ _ _ _ _ _ zS.1.B zS.1.F zS.1.X zS.1.T zS.1.k zS.1.d zS.1.u zS.1.N zS.2.1 zS.2.2 fun r foot h9 tk9 hp F9 N9 ap => by
    obtain ⟨t, rfl, rfl⟩ := hp
    exact zh h9 tk9 F9 t  N9

theorem word_fU {w : World} {pgm : Program} {loo : List Str} {mean : ExcName → Option Value} {mg mb : Str → Option Value} {dp un : Nat} {gd : Option (List Code)} {cn : Str} {cs : Scope} {za : Addr} {ccd : Value} {cl : List (Str × Addr)} {outer : List Env} {A₀ : Around} {base h₀ : Heap} {zL : Addr} {zm : Str → Option Value} {zn zr : Led} {zs : Shared} {zQ zE : Value → Shared → Prop} (zS : Site w pgm loo mean mg mb 870 8800 dp un cs outer A₀ base h₀ zL zs.heap zm zn ∧ Picks [] zn zr ∧ Apart [] zr) (k : Int) (tk : Tok) (x : Str) (h : plainTab.lookup k = some x)
    (zh : ∀ h9 tk9, Fr h₀ zL h9 zm → ∀ t, News h₀ zL h9 (zr) → zQ (.str x t) { zs with heap := h9, toks := tk9 }) :
    wpAny (model PySem.Challenge.rw_og0244_01.row.prog w) (ktrTop dp un gd cn cs zL za ccd cl outer) (call (.ref 41) [.int k tk, .bool false]) zQ zE zs :=
  word_f k tk x h _ _ _ _ _ _ _ _ _ _ _ _ _ _ _ _ _ _ _ zS.1.B zS.1.F zS.1.X zS.1.T zS.1.k zS.1.d zS.1.u zS.1.N zS.2.1 zS.2.2 fun r foot h9 tk9 hp F9 N9 ap => by
    obtain ⟨t, rfl, rfl⟩ := hp
    exact zh h9 tk9 F9 t  N9

theorem word_tnU {w : World} {pgm : Program} {loo : List Str} {mean : ExcName → Option Value} {mg mb : Str → Option Value} {dp un : Nat} {gd : Option (List Code)} {cn : Str} {cs : Scope} {za : Addr} {ccd : Value} {cl : List (Str × Addr)} {outer : List Env} {A₀ : Around} {base h₀ : Heap} {zL : Addr} {zm : Str → Option Value} {zn zr : Led} {zs : Shared} {zQ zE : Value → Shared → Prop} (zS : Site w pgm loo mean mg mb 870 8800 dp un cs outer A₀ base h₀ zL zs.heap zm zn ∧ Picks [] zn zr ∧ Apart [] zr) (k : Int) (tk : Tok) (h : privTab.lookup k = none)
    (zh : ∀ h9 tk9, Fr h₀ zL h9 zm → News h₀ zL h9 (zr) → zQ (.none) { zs with heap := h9, toks := tk9 }) :
    wpAny (model PySem.Challenge.rw_og0244_01.row.prog w) (ktrTop dp un gd cn cs zL za ccd cl outer) (call (.ref 41) [.int k tk, .bool true]) zQ zE zs :=
  word_tn k tk h _ _ _ _ _ _ _ _ _ _ _ _ _ _ _ _ _ _ _ zS.1.B zS.1.F zS.1.X zS.1.T zS.1.k zS.1.d zS.1.u zS.1.N zS.2.1 zS.2.2 fun r foot h9 tk9 hp F9 N9 ap => by
    obtain ⟨rfl, rfl⟩ := hp
    exact zh h9 tk9 F9   N9

theorem word_fnU {w : World} {pgm : Program} {loo : List Str} {mean : ExcName → Option Value} {mg mb : Str → Option Value} {dp un : Nat} {gd : Option (List Code)} {cn : Str} {cs : Scope} {za : Addr} {ccd : Value} {cl : List (Str × Addr)} {outer : List Env} {A₀ : Around} {base h₀ : Heap} {zL : Addr} {zm : Str → Option Value} {zn zr : Led} {zs : Shared} {zQ zE : Value → Shared → Prop} (zS : Site w pgm loo mean mg mb 870 8800 dp un cs outer A₀ base h₀ zL zs.heap zm zn ∧ Picks [] zn zr ∧ Apart [] zr) (k : Int) (tk : Tok) (h : plainTab.lookup k = none)
    (zh : ∀ h9 tk9, Fr h₀ zL h9 zm → News h₀ zL h9 (zr) → zQ (.none) { zs with heap := h9, toks := tk9 }) :
    wpAny (model PySem.Challenge.rw_og0244_01.row.prog w) (ktrTop dp un gd cn cs zL za ccd cl outer) (call (.ref 41) [.int k tk, .bool false]) zQ zE zs :=
  word_fn k tk h _ _ _ _ _ _ _ _ _ _ _ _ _ _ _ _ _ _ _ zS.1.B zS.1.F zS.1.X zS.1.T zS.1.k zS.1.d zS.1.u zS.1.N zS.2.1 zS.2.2 fun r foot h9 tk9 hp F9 N9 ap => by
    obtain ⟨rfl, rfl⟩ := hp
    exact zh h9 tk9 F9   N9

theorem mnum_tV {w : World} {pgm : Program} {loo : List Str} {mean : ExcName → Option Value} {mg mb : Str → Option Value} {dp un : Nat} {gd : Option (List Code)} {cn : Str} {cs : Scope} {za : Addr} {ccd : Value} {cl : List (Str × Addr)} {outer : List Env} {A₀ : Around} {base h₀ : Heap} {zL : Addr} {zm : Str → Option Value} {zn zr : Led} {zs : Shared} {zQ zE : Value → Shared → Prop} (zS : Site w pgm loo mean mg mb 860 8700 dp un cs outer A₀ base h₀ zL zs.heap zm zn ∧ Picks [] zn zr ∧ Apart [] zr) (k : Int) (x : Str) (tk : Tok) (h : privTab.lookup k = some x)
    (zh : ∀ h9 tk9, Fr h₀ zL h9 zm → ∀ a n t, News h₀ zL h9 ((a, { cls := .type "tuple", data := .seq #[.int k t, .bool true] n }) :: zr) → AP1 a (zr.map (·.1)) → zQ (.ref a) { zs with heap := h9, toks := tk9 }) :
    wpAny (model PySem.Challenge.rw_og0244_01.row.prog w) (ktrTop dp un gd cn cs zL za ccd cl outer) (call (.ref 48) [.str x tk]) zQ zE zs :=
  mnum_t k x tk h _ _ _ _ _ _ _ _ _ _ _ _ _ _ _ _ _ _ _ zS.1.B zS.1.F zS.1.X zS.1.T zS.1.k zS.1.d zS.1.u zS.1.N zS.2.1 zS.2.2 fun r foot h9 tk9 hp F9 N9 ap => by
    obtain ⟨a, n, t, rfl, rfl⟩ := hp
    exact zh h9 tk9 F9 a n t  N9 (AP1.of ap)

theorem mnum_fV {w : World} {pgm : Program} {loo : List Str} {mean : ExcName → Option Value} {mg mb : Str → Option Value} {dp un : Nat} {gd : Option (List Code)} {cn : Str} {cs : Scope} {za : Addr} {ccd : Value} {cl : List (Str × Addr)} {outer : List Env} {A₀ : Around} {base h₀ : Heap} {zL : Addr} {zm : Str → Option Value} {zn zr : Led} {zs : Shared} {zQ zE : Value → Shared → Prop} (zS : Site w pgm loo mean mg mb 860 8700 dp un cs outer A₀ base h₀ zL zs.heap zm zn ∧ Picks [] zn zr ∧ Apart [] zr) (k : Int) (x : Str) (tk : Tok) (h : plainTab.lookup k = some x)
    (zh : ∀ h9 tk9, Fr h₀ zL h9 zm → ∀ a n t, News h₀ zL h9 ((a, { cls := .type "tuple", data := .seq #[.int k t, .bool false] n }) :: zr) → AP1 a (zr.map (·.1)) → zQ (.ref a) { zs with heap := h9, toks := tk9 }) :
    wpAny (model PySem.Challenge.rw_og0244_01.row.prog w) (ktrTop dp un gd cn cs zL za ccd cl outer) (call (.ref 48) [.str x tk]) zQ zE zs :=
  mnum_f k x tk h _ _ _ _ _ _ _ _ _ _ _ _ _ _ _ _ _ _ _ zS.1.B zS.1.F zS.1.X zS.1.T zS.1.k zS.1.d zS.1.u zS.1.N zS.2.1 zS.2.2 fun r foot h9 tk9 hp F9 N9 ap => by
    obtain ⟨a, n, t, rfl, rfl⟩ := hp
    exact zh h9 tk9 F9 a n t  N9 (AP1.of ap)

theorem mnum_8U {w : World} {pgm : Program} {loo : List Str} {mean : ExcName → Option Value} {mg mb : Str → Option Value} {dp un : Nat} {gd : Option (List Code)} {cn : Str} {cs : Scope} {za : Addr} {ccd : Value} {cl : List (Str × Addr)} {outer : List Env} {A₀ : Around} {base h₀ : Heap} {zL : Addr} {zm : Str → Option Value} {zn zr : Led} {zs : Shared} {zQ zE : Value → Shared → Prop} (zS : Site w pgm loo mean mg mb 860 8700 dp un cs outer A₀ base h₀ zL zs.heap zm zn ∧ Picks [] zn zr ∧ Apart [] zr) (tk : Tok)
    (zh : ∀ h9 tk9, Fr h₀ zL h9 zm → News h₀ zL h9 (zr) → zQ (.none) { zs with heap := h9, toks := tk9 }) :
    wpAny (model PySem.Challenge.rw_og0244_01.row.prog w) (ktrTop dp un gd cn cs zL za ccd cl outer) (call (.ref 48) [.str (Str.ofString "eight_bits") tk]) zQ zE zs :=
  mnum_8 tk _ _ _ _ _ _ _ _ _ _ _ _ _ _ _ _ _ _ _ zS.1.B zS.1.F zS.1.X zS.1.T zS.1.k zS.1.d zS.1.u zS.1.N zS.2.1 zS.2.2 fun r foot h9 tk9 hp F9 N9 ap => by
    obtain ⟨rfl, rfl⟩ := hp
    exact zh h9 tk9 F9   N9
end
section
section
variable {w : World} {A : Around} {E : Value → Shared → Prop} {s : Shared} {env : Env} {h₀ : Heap} {target : PySem.Expr} {body : List Stmt} {Q : Flow → Shared → Prop}
theorem for_listL {ax : Addr} {lo : Obj} {vs : List Value} {n : Nat} {m₀ : Str → Option Value} {news : Led} (J : Nat → (Str → Option Value) → Led → Prop)
    (hh : A.handled = none) (F : Fr h₀ env.locals s.heap m₀) (N : News h₀ env.locals s.heap news) (hJL : ∀ i m nx, J i m nx → (ax, lo) ∈ nx) (hc : lo.cls = .type "list") (hd : lo.data = .seq vs.toArray n) (hj : J 0 m₀ news)
    (turn : ∀ i v m₁ nx h tk I oI, vs[i]? = some v → J i m₁ nx → OffAll I nx → Fr h₀ env.locals h m₁ → News h₀ env.locals h (nx ++ [(I, oI)]) →
      ∀ QT : Flow → Shared → Prop, (∀ fl s', TurnPost h₀ env.locals (J (i + 1)) [(I, oI)] { s with heap := h, toks := tk } Q fl s' → QT fl s') → wpAny (model PySem.Challenge.rw_og0244_01.row.prog w) A (assign target env v) (fun _ s₃ => wpAny (model PySem.Challenge.rw_og0244_01.row.prog w) A (execs body env) QT E s₃) E { s with heap := h, toks := tk })
    (done : ∀ m₁ nx h tk, J vs.length m₁ nx → Fr h₀ env.locals h m₁ → News h₀ env.locals h nx → Q .next { s with heap := h, toks := tk }) :
    wpAny (model PySem.Challenge.rw_og0244_01.row.prog w) A (pyIter (.ref ax)) (fun it s₂ => TurnsAt PySem.Challenge.rw_og0244_01.row.prog w A h₀ env target body Q E it s₂) E s := by
  have hm := hJL _ _ _ hj
  have hax : s.heap.get? ax = some lo := (N _ hm).1
  have hl : s.heap.IsList ax vs.toArray := ⟨lo, hax, hc, n, hd⟩
  have hlt : ax < s.heap.objs.size := Heap.lt_size hax
  have hne : ax ≠ s.heap.objs.size := Nat.ne_of_lt hlt
  refine wpAny_pyIter_list hl ?_
  refine ⟨s.heap.objs.size, _, _, _, _, _, _, m₀, news, J, rfl, KTurns.ofWalks (Walks.list hh s.heap.objs.size ax hne vs.toArray) fun i v s Q E st q => letGo_listiter st.1 q, ?_, ?_, ?_, ⟨⟨_, Heap.get?_push_size _ rfl, rfl, rfl⟩, hl.at fun o e => Heap.get?_push_of_some _ e⟩, F.push _, fun p hp => ⟨Heap.get?_push_of_some _ (N p hp).1, (N p hp).2⟩, hj, ?_, ?_⟩
  · intro hI
    rcases List.mem_cons.mp hI with e | hI
    · exact absurd F.ns.lt (e ▸ Nat.lt_irrefl _)
    · have e : env.locals = ax := List.mem_singleton.mp hI
      exact (N _ hm).2.1 e.symm
  · intro b hb
    rw [List.mem_singleton.mp hb]
    exact next_is_new F
  · intro p hp hI
    exact absurd (Heap.lt_size (N p hp).1) ((List.mem_singleton.mp hI) ▸ Nat.lt_irrefl _)
  · rintro i v m₁ nx h tk own hi hP hJ hoff hown hget hmem hst F₁ N₁
    obtain ⟨oI, hoI, _⟩ := hst.1
    have hIm : (s.heap.objs.size, oI) ∈ own := hmem _ (.head _) (next_is_new F) oI hoI
    have hsub : ∀ p ∈ own, p = (s.heap.objs.size, oI) ∨ p = (ax, lo) := by
      intro p hp
      rcases List.mem_cons.mp (hown p hp) with e | e
      · have hg := hget p hp
        rw [e, hoI] at hg
        exact .inl (Prod.ext e (Option.some.inj hg).symm)
      · have e := List.mem_singleton.mp e
        have hg := hget p hp
        have := (N₁ _ (List.mem_append_right _ (hJL _ _ _ hJ))).1
        rw [e] at hg
        rw [hg] at this
        exact .inr (Prod.ext e (Option.some.inj this))
    have N₂ : News h₀ env.locals h (nx ++ [(s.heap.objs.size, oI)]) := by
      intro p hp
      rcases List.mem_append.mp hp with q | q
      · exact N₁ p (List.mem_append_right _ q)
      · rw [List.mem_singleton.mp q]; exact N₁ _ (List.mem_append_left _ hIm)
    have hP' : vs[i]? = some v := by
      have hp' : vs.toArray[i]? = some v := hP
      simpa using hp'
    refine wpAny_mono (turn i v m₁ nx h tk _ oI hP' hJ (OffAll.of fun p hp e => hoff p hp (List.mem_singleton.mpr e)) F₁ N₂ _ (fun _ _ h => h)) (fun _ s₃ h₃ => wpAny_mono h₃ (fun f s₄ h₄ => ?_) fun _ _ e => e) fun _ _ e => e
    have fin : TurnEnd h₀ env.locals (J (i + 1)) [(s.heap.objs.size, oI)] { s with heap := h, toks := tk } s₄ → LoopStepU h₀ env.locals [s.heap.objs.size] own (J (i + 1)) { s with heap := h, toks := tk } .next s₄ := by
      intro hE
      refine hE _ ?_
      intro h' tk' m' news' nx' e F' N' hn ho ha hj'
      refine ⟨rfl, h', tk', m', nx', e, F', ?_, fun p hp hq => ha p hp _ (.head _) (List.mem_singleton.mp hq), hj'⟩
      intro p hp
      rcases List.mem_append.mp hp with q | q
      · rcases hsub p q with e | e
        · rw [e]; exact N' _ (ho _ (.head _))
        · rw [e]; exact N' _ (hn _ (hJL _ _ _ hj'))
      · exact N' p (hn p q)
    cases f with
    | ret v => exact .ret h₄
    | brk => exact .brk h₄
    | next => exact .next (fin h₄)
    | cont => exact .cont (fin h₄)
  · intro h' tk m' nx F' N' _ hJ
    have hJ' : J vs.toArray.size m' nx := hJ
    rw [List.size_toArray] at hJ'
    exact done m' nx h' tk hJ' F' N'
theorem map_fix2 {a b : Str} {m₀ m₁ : Str → Option Value} (h : ∀ y, y ≠ a → y ≠ b → m₁ y = m₀ y) : m₁ = fun y => if y = a then m₁ a else if y = b then m₁ b else m₀ y := by
  funext y
  by_cases e : y = a
  · simp [e]
  · by_cases e2 : y = b
    · subst e2; simp [e]
    · simp [e, e2, h y e e2]
theorem for_listL2 {ax : Addr} {lo : Obj} {vs : List Value} {n : Nat} {m₀ : Str → Option Value} {news : Led} (a b : Str) (J : Nat → Led → Prop)
    (hh : A.handled = none) (F : Fr h₀ env.locals s.heap m₀) (N : News h₀ env.locals s.heap news) (hJL : ∀ i nx, J i nx → (ax, lo) ∈ nx) (hc : lo.cls = .type "list") (hd : lo.data = .seq vs.toArray n) (hj : J 0 news)
    (turn : ∀ i v nx h tk I oI u1 u2, vs[i]? = some v → J i nx → OffAll I nx → Fr h₀ env.locals h (fun y => if y = a then u1 else if y = b then u2 else m₀ y) → News h₀ env.locals h (nx ++ [(I, oI)]) →
      ∀ QT : Flow → Shared → Prop, (∀ fl s', TurnPost h₀ env.locals (fun m nx => (∀ y, y ≠ a → y ≠ b → m y = m₀ y) ∧ J (i + 1) nx) [(I, oI)] { s with heap := h, toks := tk } Q fl s' → QT fl s') → wpAny (model PySem.Challenge.rw_og0244_01.row.prog w) A (assign target env v) (fun _ s₃ => wpAny (model PySem.Challenge.rw_og0244_01.row.prog w) A (execs body env) QT E s₃) E { s with heap := h, toks := tk })
    (done : ∀ u1 u2 nx h tk, J vs.length nx → Fr h₀ env.locals h (fun y => if y = a then u1 else if y = b then u2 else m₀ y) → News h₀ env.locals h nx → Q .next { s with heap := h, toks := tk }) :
    wpAny (model PySem.Challenge.rw_og0244_01.row.prog w) A (pyIter (.ref ax)) (fun it s₂ => TurnsAt PySem.Challenge.rw_og0244_01.row.prog w A h₀ env target body Q E it s₂) E s :=
  for_listL (fun i m nx => (∀ y, y ≠ a → y ≠ b → m y = m₀ y) ∧ J i nx) hh F N (fun i _ nx h => hJL i nx h.2) hc hd ⟨fun _ _ _ => rfl, hj⟩
    (fun i v m₁ nx h tk I oI hv hJ ho F₁ N₁ => turn i v nx h tk I oI (m₁ a) (m₁ b) hv hJ.2 ho ((map_fix2 hJ.1) ▸ F₁) N₁)
    fun m₁ nx h tk hJ F₁ N₁ => done (m₁ a) (m₁ b) nx h tk hJ.2 ((map_fix2 hJ.1) ▸ F₁) N₁
end
end
section
theorem priv_len {ns : List Int} (h : ns.Perm (privTab.map (·.1))) : ns.length ≤ 900 := by
  rw [h.length_eq]; decide +kernel
section
variable {w : World} {pgm : Program} {loo : List Str} {mean : ExcName → Option Value} {mg mb : Str → Option Value} {M dM S Kp M' dM' S' Kp' : Addr} {h1 h2 h1' h2' : Int} {t1 t2 t1' t2' : Tok} {n n' : Nat} {oS oS' : Obj} {D D' : BD}
theorem same_t (hS : BoolDict w oS D) (hlo : (S == sysModules) = false) (hS' : BoolDict w oS' D) (hlo' : (S' == sysModules) = false) (n1 : AP1 M' [dM', S', M, dM, S]) (n2 : AP1 dM' [S', M, dM, S]) (n3 : AP1 S' [M, dM, S]) (n4 : AP1 dM [M]) (n5 : AP1 S [M, dM]) (hz : D.length ≤ 60) :
    Spec w pgm loo mean mg mb (.ref 130) 830 8500 [.ref M, .ref M'] [(M, instObj 86 dM), (dM, modesD h1 t1 S h2 t2 Kp n), (S, oS), (M', instObj 86 dM'), (dM', modesD h1' t1' S' h2' t2' Kp' n'), (S', oS')] (fun r foot' => r = .bool true ∧ foot' = [(M, instObj 86 dM), (dM, modesD h1 t1 S h2 t2 Kp n), (S, oS), (M', instObj 86 dM'), (dM', modesD h1' t1' S' h2' t2' Kp' n'), (S', oS')]) := by
  refine Spec.post (same_spec hS hlo hS' hlo' (n4.get (by k_mem)).symm (n5.get (by k_mem)).symm (n5.get (by k_mem)).symm (n1.get (by k_mem)) (n1.get (by k_mem)) (n2.get (by k_mem)) (.cons (n1.get (by k_mem)).symm (.cons (n2.get (by k_mem)).symm (.cons (n3.get (by k_mem)).symm .nil))) (.cons (n1.get (by k_mem)).symm (.cons (n2.get (by k_mem)).symm (.cons (n3.get (by k_mem)).symm .nil))) (.cons (n1.get (by k_mem)).symm (.cons (n2.get (by k_mem)).symm (.cons (n3.get (by k_mem)).symm .nil))) hz hz) fun r f p => ?_
  obtain ⟨ss, ss', e1, e2, p1, q1, p2, q2⟩ := p
  have e := sorted_unique q1 q2 (p1.trans p2.symm)
  subst e
  exact ⟨by rw [e1]; simp, e2⟩
theorem same_f {x : Str} (hx : onB D x ≠ onB D' x) (hS : BoolDict w oS D) (hlo : (S == sysModules) = false) (hS' : BoolDict w oS' D') (hlo' : (S' == sysModules) = false) (n1 : AP1 M' [dM', S', M, dM, S]) (n2 : AP1 dM' [S', M, dM, S]) (n3 : AP1 S' [M, dM, S]) (n4 : AP1 dM [M]) (n5 : AP1 S [M, dM]) (hz : D.length ≤ 60) (hz' : D'.length ≤ 60) :
    Spec w pgm loo mean mg mb (.ref 130) 830 8500 [.ref M, .ref M'] [(M, instObj 86 dM), (dM, modesD h1 t1 S h2 t2 Kp n), (S, oS), (M', instObj 86 dM'), (dM', modesD h1' t1' S' h2' t2' Kp' n'), (S', oS')] (fun r foot' => r = .bool false ∧ foot' = [(M, instObj 86 dM), (dM, modesD h1 t1 S h2 t2 Kp n), (S, oS), (M', instObj 86 dM'), (dM', modesD h1' t1' S' h2' t2' Kp' n'), (S', oS')]) := by
  refine Spec.post (same_spec hS hlo hS' hlo' (n4.get (by k_mem)).symm (n5.get (by k_mem)).symm (n5.get (by k_mem)).symm (n1.get (by k_mem)) (n1.get (by k_mem)) (n2.get (by k_mem)) (.cons (n1.get (by k_mem)).symm (.cons (n2.get (by k_mem)).symm (.cons (n3.get (by k_mem)).symm .nil))) (.cons (n1.get (by k_mem)).symm (.cons (n2.get (by k_mem)).symm (.cons (n3.get (by k_mem)).symm .nil))) (.cons (n1.get (by k_mem)).symm (.cons (n2.get (by k_mem)).symm (.cons (n3.get (by k_mem)).symm .nil))) hz hz') fun r f p => ?_
  obtain ⟨ss, ss', e1, e2, p1, q1, p2, q2⟩ := p
  have hne : ss.filter (onB D) ≠ ss'.filter (onB D') := by
    intro e
    apply hx
    rw [Bool.eq_iff_iff]
    constructor
    · intro h
      have m : x ∈ ss.filter (onB D) := List.mem_filter.mpr ⟨p1.mem_iff.mpr (onB_mem h), h⟩
      rw [e] at m
      exact (List.mem_filter.mp m).2
    · intro h
      have m : x ∈ ss'.filter (onB D') := List.mem_filter.mpr ⟨p2.mem_iff.mpr (onB_mem h), h⟩
      rw [← e] at m
      exact (List.mem_filter.mp m).2
  exact ⟨by rw [e1, decide_eq_false hne], e2⟩
theorem same_tU  {dp un : Nat} {gd : Option (List Code)} {cn : Str} {cs : Scope} {za : Addr} {ccd : Value} {cl : List (Str × Addr)} {outer : List Env} {A₀ : Around} {base h₀ : Heap} {zL : Addr} {zm : Str → Option Value} {zn zr : Led} {zs : Shared} {zQ zE : Value → Shared → Prop} (zS : Site w pgm loo mean mg mb 830 8500 dp un cs outer A₀ base h₀ zL zs.heap zm zn ∧ Picks [(M, instObj 86 dM), (dM, modesD h1 t1 S h2 t2 Kp n), (S, oS), (M', instObj 86 dM'), (dM', modesD h1' t1' S' h2' t2' Kp' n'), (S', oS')] zn zr ∧ Apart [(M, instObj 86 dM), (dM, modesD h1 t1 S h2 t2 Kp n), (S, oS), (M', instObj 86 dM'), (dM', modesD h1' t1' S' h2' t2' Kp' n'), (S', oS')] zr) (hS : BoolDict w oS D) (hlo : (S == sysModules) = false) (hS' : BoolDict w oS' D) (hlo' : (S' == sysModules) = false) (n1 : AP1 M' [dM', S', M, dM, S]) (n2 : AP1 dM' [S', M, dM, S]) (n3 : AP1 S' [M, dM, S]) (n4 : AP1 dM [M]) (n5 : AP1 S [M, dM]) (hz : D.length ≤ 60)
    (zh : ∀ h9 tk9, Fr h₀ zL h9 zm → News h₀ zL h9 ((M, instObj 86 dM) :: (dM, modesD h1 t1 S h2 t2 Kp n) :: (S, oS) :: (M', instObj 86 dM') :: (dM', modesD h1' t1' S' h2' t2' Kp' n') :: (S', oS') :: zr) → zQ (.bool true) { zs with heap := h9, toks := tk9 }) :
    wpAny (model PySem.Challenge.rw_og0244_01.row.prog w) (ktrTop dp un gd cn cs zL za ccd cl outer) (call (.ref 130) [.ref M, .ref M']) zQ zE zs :=
  same_t hS hlo hS' hlo' n1 n2 n3 n4 n5 hz _ _ _ _ _ _ _ _ _ _ _ _ _ _ _ _ _ _ _ zS.1.B zS.1.F zS.1.X zS.1.T zS.1.k zS.1.d zS.1.u zS.1.N zS.2.1 zS.2.2 fun r foot h9 tk9 hp F9 N9 ap => by
    obtain ⟨rfl, rfl⟩ := hp
    exact zh h9 tk9 F9   N9

theorem same_fU {x : Str} {dp un : Nat} {gd : Option (List Code)} {cn : Str} {cs : Scope} {za : Addr} {ccd : Value} {cl : List (Str × Addr)} {outer : List Env} {A₀ : Around} {base h₀ : Heap} {zL : Addr} {zm : Str → Option Value} {zn zr : Led} {zs : Shared} {zQ zE : Value → Shared → Prop} (zS : Site w pgm loo mean mg mb 830 8500 dp un cs outer A₀ base h₀ zL zs.heap zm zn ∧ Picks [(M, instObj 86 dM), (dM, modesD h1 t1 S h2 t2 Kp n), (S, oS), (M', instObj 86 dM'), (dM', modesD h1' t1' S' h2' t2' Kp' n'), (S', oS')] zn zr ∧ Apart [(M, instObj 86 dM), (dM, modesD h1 t1 S h2 t2 Kp n), (S, oS), (M', instObj 86 dM'), (dM', modesD h1' t1' S' h2' t2' Kp' n'), (S', oS')] zr) (hx : onB D x ≠ onB D' x) (hS : BoolDict w oS D) (hlo : (S == sysModules) = false) (hS' : BoolDict w oS' D') (hlo' : (S' == sysModules) = false) (n1 : AP1 M' [dM', S', M, dM, S]) (n2 : AP1 dM' [S', M, dM, S]) (n3 : AP1 S' [M, dM, S]) (n4 : AP1 dM [M]) (n5 : AP1 S [M, dM]) (hz : D.length ≤ 60) (hz' : D'.length ≤ 60)
    (zh : ∀ h9 tk9, Fr h₀ zL h9 zm → News h₀ zL h9 ((M, instObj 86 dM) :: (dM, modesD h1 t1 S h2 t2 Kp n) :: (S, oS) :: (M', instObj 86 dM') :: (dM', modesD h1' t1' S' h2' t2' Kp' n') :: (S', oS') :: zr) → zQ (.bool false) { zs with heap := h9, toks := tk9 }) :
    wpAny (model PySem.Challenge.rw_og0244_01.row.prog w) (ktrTop dp un gd cn cs zL za ccd cl outer) (call (.ref 130) [.ref M, .ref M']) zQ zE zs :=
  same_f hx hS hlo hS' hlo' n1 n2 n3 n4 n5 hz hz' _ _ _ _ _ _ _ _ _ _ _ _ _ _ _ _ _ _ _ zS.1.B zS.1.F zS.1.X zS.1.T zS.1.k zS.1.d zS.1.u zS.1.N zS.2.1 zS.2.2 fun r foot h9 tk9 hp F9 N9 ap => by
    obtain ⟨rfl, rfl⟩ := hp
    exact zh h9 tk9 F9   N9

end
theorem paste_ne {D K : BD} {ss : List Str} {x : Str} (hI : Inv D ss K) : onB D x ≠ onB (setStates D x (!decide (x ∈ ss))) x := by
  rw [onB_set, if_pos rfl, hI.on]
  cases decide (x ∈ ss) <;> decide
theorem isDict_cls {w : World} {o : Obj} {D : BD} (h : BoolDict w o D) : o.cls = .type "dict" := by
  obtain ⟨es, ep, h1, h2, h3⟩ := h
  exact h1.1
theorem dict_cls_ne {w : World} {o : Obj} {D : BD} (h : BoolDict w o D) : o.cls ≠ .type "tuple" := by
  rw [isDict_cls h]; decide
theorem list_cls_ne {its : Array Value} {n : Nat} : (PySem.W.listOf its n).cls ≠ .type "tuple" := by
  show Value.type "list" ≠ _; decide
theorem inst_cls_ne {dM : Addr} : (instObj 86 dM).cls ≠ .type "tuple" := fun e => nomatch e
theorem modes_cls_ne {h1 h2 : Int} {t1 t2 : Tok} {S Kp : Addr} {n : Nat} : (modesD h1 t1 S h2 t2 Kp n).cls ≠ .type "tuple" := by
  show Value.type "dict" ≠ _; decide
theorem off_pairs {h₀ h : Heap} {L a : Addr} {o : Obj} {news ts : Led} {vs : List Value} {ps : BD} (N : News h₀ L h news) (hm : (a, o) ∈ news) (hc : o.cls ≠ .type "tuple") (hP : PairsL vs ts ps) (ht : ∀ p ∈ ts, p ∈ news) : OffAll a ts := by
  induction hP with
  | nil => trivial
  | @cons b x t bb n vs ts ps hP ih =>
    refine ⟨fun e => ?_, ih fun p hp => ht p (.tail _ hp)⟩
    have h1 := (N _ hm).1
    have h2 := (N _ (ht _ (.head _))).1
    have e : b = a := e
    dsimp only at h1 h2
    rw [e, h1] at h2
    cases h2
    exact hc rfl
theorem copy_apU {w : World} {pgm : Program} {loo : List Str} {mean : ExcName → Option Value} {mg mb : Str → Option Value} {M dM S Kp : Addr} {h1 h2 : Int} {t1 t2 : Tok} {n : Nat} {oS : Obj} {D : BD} {oK : Obj} {K : BD} {dp un : Nat} {gd : Option (List Code)} {cn : Str} {cs : Scope} {za : Addr} {ccd : Value} {cl : List (Str × Addr)} {outer : List Env} {A₀ : Around} {base h₀ : Heap} {zL : Addr} {zm : Str → Option Value} {zn zr : Led} {zs : Shared} {zQ zE : Value → Shared → Prop} (zS : Site w pgm loo mean mg mb 840 8600 dp un cs outer A₀ base h₀ zL zs.heap zm zn ∧ Picks [(M, instObj 86 dM), (dM, modesD h1 t1 S h2 t2 Kp n), (S, oS), (Kp, oK)] zn zr ∧ Apart [(M, instObj 86 dM), (dM, modesD h1 t1 S h2 t2 Kp n), (S, oS), (Kp, oK)] zr) (hS : BoolDict w oS D) (hlo : (S == sysModules) = false) (hn1 : @Ne Nat M dM) (hn2 : @Ne Nat M S) (hn3 : @Ne Nat dM S) (hK : BoolDict w oK K) (hlk : (Kp == sysModules) = false) (hn4 : @Ne Nat M Kp) (hn5 : @Ne Nat dM Kp) (hn6 : @Ne Nat S Kp) (hz : D.length ≤ 60) (hzk : K.length ≤ 60)
    (zh : ∀ h9 tk9, Fr h₀ zL h9 zm → ∀ (M' dM' S' Kp' : Addr) (h1' : Int) (t1' : Tok) (h2' : Int) (t2' : Tok) (n' : Nat) (oS' oK' : Obj), BoolDict w oS' D → BoolDict w oK' K → (S' == sysModules) = false → (Kp' == sysModules) = false → News h₀ zL h9 ((M', instObj 86 dM') :: (dM', modesD h1' t1' S' h2' t2' Kp' n') :: (S', oS') :: (Kp', oK') :: (M, instObj 86 dM) :: (dM, modesD h1 t1 S h2 t2 Kp n) :: (S, oS) :: (Kp, oK) :: zr) → AP1 M' ([dM', S', Kp', M, dM, S, Kp] ++ zr.map (·.1)) → AP1 dM' ([S', Kp', M, dM, S, Kp] ++ zr.map (·.1)) → AP1 S' ([Kp', M, dM, S, Kp] ++ zr.map (·.1)) → AP1 Kp' ([M, dM, S, Kp] ++ zr.map (·.1)) → zQ (.ref M') { zs with heap := h9, toks := tk9 }) :
    wpAny (model PySem.Challenge.rw_og0244_01.row.prog w) (ktrTop dp un gd cn cs zL za ccd cl outer) (call (.ref 137) [.ref M]) zQ zE zs :=
  copy_ap hS hlo hn1 hn2 hn3 hK hlk hn4 hn5 hn6 hz hzk _ _ _ _ _ _ _ _ _ _ _ _ _ _ _ _ _ _ _ zS.1.B zS.1.F zS.1.X zS.1.T zS.1.k zS.1.d zS.1.u zS.1.N zS.2.1 zS.2.2 fun r foot h9 tk9 hp F9 N9 ap => by
    refine hp _ ?_; rintro M' dM' S' Kp' h1' t1' h2' t2' n' oS' oK' rfl rfl y0 y1 y2 y3 y4 y5 y6 y7
    exact zh h9 tk9 F9 M' dM' S' Kp' h1' t1' h2' t2' n' oS' oK' y0 y1 y2 y3 N9 (AP1.app y4 (AP1.ofMem ap (by k_mem))) (AP1.app y5 (AP1.ofMem ap (by k_mem))) (AP1.app y6 (AP1.ofMem ap (by k_mem))) (AP1.app y7 (AP1.ofMem ap (by k_mem)))
end
section
def SpecC (w : World) (pgm : Program) (loo : List Str) (mean : ExcName → Option Value) (mg mb : Str → Option Value) (f : Value) (D U : Nat) (args : List Value) (foot : Led) (Post : Value → Led → Prop) : Prop :=
  ∀ (dp un : Nat) (gd : Option (List Code)) (cn : Str) (cs : Scope) (a : Addr) (ccd : Value) (cl : List (Str × Addr)) (outer : List Env) (A₀ : Around) (base h₀ : Heap) (L : Addr) (m : Str → Option Value) (news rest : Led) (s : Shared)
    (R : Result → Shared → Prop),
    Below A₀ base outer h₀ → Fr h₀ L s.heap m → (pre.heap_1 w.params).In h₀ → Top pgm loo mean mg mb h₀ → cs.kind = .function → dp ≤ D → un ≤ U →
    News h₀ L s.heap news → Picks foot news rest → Apart foot rest →
    (∀ r foot' h' tk, Post r foot' → Fr h₀ L h' m → News h₀ L h' (foot' ++ rest) → Apart foot' rest → R (.ok (.ret r)) { s with heap := h', toks := tk }) →
    codeAny (model PySem.Challenge.rw_og0244_01.row.prog w) (ktrTop dp un gd cn cs L a ccd cl outer) (.call f ⟨args, []⟩) R s
section
variable {w : World} {pgm : Program} {loo : List Str} {mean : ExcName → Option Value} {mg mb : Str → Option Value}
theorem spec_codeOf {D U : Nat} {name qual : Str} {params : Arguments} {body : List Stmt} {scope : Scope} {dV kV doc pm cdv ct oc : Value} {an od : Option Addr} {osl : Array (Option Value)} {f : Addr} {args : List Value} {binds : List (Str × Value)} {foot : Led} {Post : Value → Led → Prop}
    (ho : (pre.heap_1 w.params).lookup f = some ⟨oc, od, .func (fnOf name qual params body scope dV kV doc pm an cdv ct), osl⟩) (hcd : codeIn (pre.heap_1 w.params) cdv qual = true) (hroom : D < recursionLimit)
    (hbind : ∀ s : Shared, (pre.heap_1 w.params).In s.heap → BindsTo s (fnOf name qual params body scope dV kV doc pm an cdv ct) ⟨args, []⟩ binds) (hloc : ∀ y ∈ binds, scope.names.lookup y.1 = some .local)
    (h : ∀ (ev : EV) (A₀ : Around) (base g : Heap) (L' : Addr) (h₁ : Heap) (s : Shared) (tk : Nat), ev.dp ≤ D + 1 → ev.un ≤ U + 3 →
      Below A₀ base ev.outer g → Fr g L' h₁ (fun y => binds.reverse.lookup y) → News g L' h₁ foot → (pre.heap_1 w.params).In g → Top pgm loo mean mg mb g → (∀ p ∈ foot, p.1 < L') → ∀ QL, LeaveH g s Post QL →
      wpAny (model PySem.Challenge.rw_og0244_01.row.prog w) (kt qual scope f cdv ev L') (execs body (ke qual scope f cdv L'))
        QL (fun _ _ => False) { s with heap := h₁, toks := tk })
    (hco : scope.isCoroutine = false) (hgen : scope.isGenerator = false) (hk : scope.kind = .function)
    (hcell : ∀ x ∈ scope.names, x.2 ≠ .cell) : SpecC w pgm loo mean mg mb (.ref f) D U args foot Post := by
  intro dp un gd cn cs a ccd cl outer A₀ base h₀ L m news rest s R B F X T hcs hD hU N PK AP hQ
  have Nf : News h₀ L s.heap foot := news_sub N fun x hx => PK.mem x (List.mem_append_left _ hx)
  have Nr : News h₀ L s.heap rest := news_sub N fun x hx => PK.mem x (List.mem_append_right _ hx)
  have hA : (ktrTop dp un gd cn cs L a ccd cl outer).frames = some (envX cn cs L a ccd cl :: outer) := rfl
  obtain ⟨FG, BG, st, _⟩ := groundX (R := fun _ _ => True) B F Nf hA rfl hcs
  have restG : ∀ q ∈ rest, (hideAll s.heap (foot.map (·.1))).get? q.1 = some q.2 := fun q hq => hideAll_get _ (Nr q hq).1 fun hm => by
    obtain ⟨p, hp, e⟩ := List.mem_map.mp hm
    exact AP p hp q hq e
  obtain ⟨oL, es, ep, hL, hLd, hLk, hLf⟩ := F.ns
  have hLg : (hideAll s.heap (foot.map (·.1))).get? L = some oL := hideAll_get _ hL fun hm => by
    obtain ⟨p, hp, e⟩ := List.mem_map.mp hm
    exact (Nf p hp).2.1 e
  have X' : (pre.heap_1 w.params).In s.heap := X.keeps F.keep
  refine codeAny_call_def (fd := fnOf name qual params body scope dV kV doc pm an cdv ct) (body := body) (binds := binds) (Nat.lt_of_le_of_lt hD hroom) (X' _ _ ho) rfl (T.nolimit.keeps F.keep) (codeRec_of X' hcd) rfl (hbind s X') hcell hloc (fun h₁ hns hk₁ => ?_) hco hgen hk
  refine wpAny_mono (h ⟨dp + 1, un + 3, gd, envX cn cs L a ccd cl :: outer⟩ _ base (hideAll s.heap (foot.map (·.1))) s.heap.objs.size h₁ s (s.toks + binds.length) (Nat.succ_le_succ hD) (Nat.add_le_add_right hU 3) BG
    ⟨hns, fun b o e => hk₁ b o (of_hideAll _ e), Nat.le_of_eq (hideAll_size _ _)⟩
    (fun p hp => ⟨hk₁ _ _ (Nf p hp).1, Nat.ne_of_lt (Heap.lt_size (Nf p hp).1), hideAll_none _ (List.mem_map_of_mem hp)⟩) (X.keeps st) (T.keeps st) (fun p hp => Heap.lt_size (Nf p hp).1) _ (fun _ _ h => h)) (fun fl s' hl => ?_) fun _ _ e => e.elim
  refine hl _ ?_; rintro L' m' news' foot' h' tk rfl F' N' hs hp
  refine hQ _ foot' h' tk hp ⟨⟨oL, es, ep, F'.keep L oL hLg, hLd, hLk, hLf⟩, fun b o e => F'.keep b o (st b o e), F.above⟩ ?_ ?_
  · intro p hp
    rcases List.mem_append.mp hp with q | q
    · have n := N' p (hs p q)
      refine ⟨n.1, fun e => ?_, ?_⟩
      · have := n.2.2; rw [e, hLg] at this; cases this
      · cases q : h₀.get? p.1 with
        | none => rfl
        | some o => have := n.2.2; rw [st _ _ q] at this; cases this
    · exact ⟨F'.keep _ _ (restG p q), (Nr p q).2⟩
  · intro p hp q hq e
    have := (N' p (hs p hp)).2.2
    rw [e, restG q hq] at this; cases this
theorem use_codeP {dp un : Nat} {gd : Option (List Code)} {cn : Str} {cs : Scope} {a : Addr} {ccd : Value} {cl : List (Str × Addr)} {outer : List Env} {A₀ : Around} {base h₀ : Heap} {L : Addr} {m : Str → Option Value} {news rest : Led} {s : Shared} {R : Result → Shared → Prop}
    {f : Value} {D U : Nat} {args : List Value} {foot : Led} {Post : Value → Led → Prop} (S : SpecC w pgm loo mean mg mb f D U args foot Post)
    (B : Below A₀ base outer h₀) (F : Fr h₀ L s.heap m) (X : (pre.heap_1 w.params).In h₀) (T : Top pgm loo mean mg mb h₀) (N : News h₀ L s.heap news) (hk : cs.kind = .function) (hd : dp ≤ D) (hu : un + 1 ≤ U)
    (PK : Picks foot news rest) (AP : Apart foot rest)
    (h : ∀ r foot' h' tk, Post r foot' → Fr h₀ L h' m → News h₀ L h' (foot' ++ rest) → Apart foot' rest → R (.ok (.ret r)) { s with heap := h', toks := tk }) :
    codeAny (model PySem.Challenge.rw_og0244_01.row.prog w) (ktrTop dp un gd cn cs L a ccd cl outer).in1 (.call f ⟨args, []⟩) R s :=
  S dp (un + 1) gd cn cs a ccd cl outer A₀ base h₀ L m news rest s R B F X T hk hd hu N PK AP h
end
end
example : Zz 0 := by (try walk1); exact trivial
local macro_rules | `(tactic| walk_at "subscriptTail") => `(tactic| (k_here; k_dflt ((with_reducible refine' pair_item ?_ ?_ ?_ ?_ ?_); rotate_left 8; k_asm; k_mem; k_asm; k_asm; k_whole)))
local macro_rules | `(tactic| walk_at "subscriptTail") => `(tactic| (k_here; k_dflt ((with_reducible refine' last_ints ?_ ?_ ?_ ?_ ?_); rotate_left 6; k_asm; k_mem; k_asm; walk_at "mine kone"; k_whole); intro t9))
local macro_rules | `(tactic| walk_at "setItem ref int") => `(tactic| (k_here; k_dflt ((with_reducible refine' set_last_ints ?_ ?_ ?_ ?_ ?_ ?_); rotate_left 8; k_asm; k_asm; rotate_left 2; k_upd; rotate_right 2; k_asm; walk_at "mine kone"; k_whole); intro h9 F9 N9 hi9; (try k_sweep)))
section
example : Zz 0 := by (try walk1); exact trivial
set_option linter.unusedVariables false
example : Zz 0 := by (try walk1); exact trivial
section
set_option maxHeartbeats 8000000 in
theorem kflag_code {w : World} {pgm : Program} {loo : List Str} {mean : ExcName → Option Value} {mg mb : Str → Option Value} {KO dK LV ST s0 s1 sX : Addr} {g1 g2 g3 g4 : Int} {u1 w1 u2 u3 u4 : Tok} {n c : Nat} {alt : Bool} {c1 : Nat} {vs : List Value} {ps : List Int} (hx : sX = if alt then s1 else s0) (a1 : @Ne Nat KO dK) (a2 : @Ne Nat KO ST) (a3 : @Ne Nat dK ST) (a4 : @Ne Nat KO sX) (a5 : @Ne Nat dK sX) (a6 : @Ne Nat ST sX) (hI : IntsAre vs ps) (hp1 : 1 ≤ ps.length) :
    SpecC w pgm loo mean mg mb (.ref 180) 850 8700 [.ref KO] [(KO, instObj 192 dK), (dK, keysD g1 u1 w1 g2 u2 LV g3 u3 alt g4 u4 ST n), (ST, PySem.W.listOf #[.ref s0, .ref s1] c), (sX, PySem.W.listOf vs.toArray c1)] (fun r foot' => ∃ t, r = .int (ps.getLastD 0) t ∧ foot' = [(KO, instObj 192 dK), (dK, keysD g1 u1 w1 g2 u2 LV g3 u3 alt g4 u4 ST n), (ST, PySem.W.listOf #[.ref s0, .ref s1] c), (sX, PySem.W.listOf vs.toArray c1)]) := by
  (k_dflt (refine' spec_codeOf (binds := [(Str.ofString "self", .ref KO)]) ?k6 ?k7 ?k8 ?k9 ?kB ?_ ?c2 ?c3 ?c4 ?c5; (case k6 => k_is); (case k7 => k_is); (case k8 => decide); (case k9 => exact fun s X => BindsTo.of_eq rfl); (case c5 => decide); (case kB => exact locs rfl); (case c2 => exact rfl); (case c3 => exact rfl); (case c4 => exact rfl); k_whole); intro ev A₀ base g' L' h₁ s tk₁ hdp hun B' F' N' X' T' hlt QL hL; k_lt hlt; (replace F' := binds_fr F'); (try dsimp only [BindsMap] at F'))
  k_steps
  all_goals (try dsimp only)
  (refine' hL.leave (foot' := [(KO, instObj 192 dK), (dK, _), (ST, _), (sX, _)]) ?lvF25 ?lvN25 ?lvs25 ?_; (case lvF25 => k_asm); (case lvN25 => k_asm); (case lvs25 => exact (by (repeat (first | exact sub_nil | (refine' sub_cons ?sa ?_; (case sa => k_mem)))))))
  exact ⟨_, rfl, rfl⟩
end
example : Zz 0 := by (try walk1); exact trivial
theorem kflagU {w : World} {pgm : Program} {loo : List Str} {mean : ExcName → Option Value} {mg mb : Str → Option Value} {KO dK LV ST s0 s1 sX : Addr} {g1 g2 g3 g4 : Int} {u1 w1 u2 u3 u4 : Tok} {n c : Nat} {alt : Bool} {c1 : Nat} {vs : List Value} {ps : List Int} {dp un : Nat} {gd : Option (List Code)} {cn : Str} {cs : Scope} {za : Addr} {ccd : Value} {cl : List (Str × Addr)} {outer : List Env} {A₀ : Around} {base h₀ : Heap} {zL : Addr} {zm : Str → Option Value} {zn zr : Led} {zs : Shared} {zR : Result → Shared → Prop} (zS : Site w pgm loo mean mg mb 850 8699 dp un cs outer A₀ base h₀ zL zs.heap zm zn) (hx : sX = if alt then s1 else s0) (a1 : @Ne Nat KO dK) (a2 : @Ne Nat KO ST) (a3 : @Ne Nat dK ST) (a4 : @Ne Nat KO sX) (a5 : @Ne Nat dK sX) (a6 : @Ne Nat ST sX) (hI : IntsAre vs ps) (hp1 : 1 ≤ ps.length) (zP : Picks [(KO, instObj 192 dK), (dK, keysD g1 u1 w1 g2 u2 LV g3 u3 alt g4 u4 ST n), (ST, PySem.W.listOf #[.ref s0, .ref s1] c), (sX, PySem.W.listOf vs.toArray c1)] zn zr) (zA : Apart [(KO, instObj 192 dK), (dK, keysD g1 u1 w1 g2 u2 LV g3 u3 alt g4 u4 ST n), (ST, PySem.W.listOf #[.ref s0, .ref s1] c), (sX, PySem.W.listOf vs.toArray c1)] zr)
    (zh : ∀ h9 tk9, Fr h₀ zL h9 zm → ∀ t, News h₀ zL h9 ((KO, instObj 192 dK) :: (dK, keysD g1 u1 w1 g2 u2 LV g3 u3 alt g4 u4 ST n) :: (ST, PySem.W.listOf #[.ref s0, .ref s1] c) :: (sX, PySem.W.listOf vs.toArray c1) :: zr) → zR (.ok (.ret (.int (ps.getLastD 0) t))) { zs with heap := h9, toks := tk9 }) :
    codeAny (model PySem.Challenge.rw_og0244_01.row.prog w) (ktrTop dp un gd cn cs zL za ccd cl outer).in1 (.call (.ref 180) ⟨[.ref KO], []⟩) zR zs :=
  use_codeP (kflag_code hx a1 a2 a3 a4 a5 a6 hI hp1) zS.B zS.F zS.X zS.T zS.N zS.k zS.d (Nat.succ_le_succ zS.u) zP zA fun r foot h9 tk9 hp F9 N9 ap => by
    obtain ⟨t, rfl, rfl⟩ := hp
    exact zh h9 tk9 F9 t N9
def KJ (w : World) (d l KO dK : Addr) (m : Str → Option Value) (nx : Led) : Prop :=
  ∀ R : Prop, (∀ (oD oL : Obj) (LV ST s0 s1 sX sY P p0 p1 pX pY : Addr) (u1 w1 u2 u3 u4 th tl : Tok) (c8 cS cX cY cP cA cB : Nat) (vs8 vX vY wX wY : List Value) (ls px py : List Int) (alt : Bool) (hh : Int), nx = [(d, oD), (l, oL), (KO, instObj 192 dK), (dK, keysH w u1 w1 u2 LV u3 alt u4 ST 4), (LV, PySem.W.listOf vs8.toArray c8), (ST, PySem.W.listOf #[.ref s0, .ref s1] cS), (sX, PySem.W.listOf vX.toArray cX), (sY, PySem.W.listOf vY.toArray cY), (P, PySem.W.listOf #[.ref p0, .ref p1] cP), (pX, PySem.W.listOf wX.toArray cA), (pY, PySem.W.listOf wY.toArray cB)] → m (Str.ofString "keys") = some (.ref KO) → m (Str.ofString "deck") = some (.ref d) → m (Str.ofString "piles") = some (.ref P) → m (Str.ofString "here") = some (.int hh th) → m (Str.ofString "level") = some (.int (ls.getD 4 0) tl) → DeckIs w d l oD oL → (sX = if alt then s1 else s0) → (sY = if alt then s0 else s1) → (pX = if alt then p1 else p0) → (pY = if alt then p0 else p1) → (hh = if alt then 1 else 0) → IntsAre vs8 ls → ls.length = 8 → IntsAre vX px → IntsAre vY py → IntsAre wX px → IntsAre wY py → KS px → KS py → AP1 LV [KO, dK, l, d] → AP1 sX [LV, KO, dK, l, d] → AP1 sY [sX, LV, KO, dK, l, d] → AP1 ST [sY, sX, LV, KO, dK, l, d] → AP1 pX [ST, sY, sX, LV, KO, dK, l, d] → AP1 pY [pX, ST, sY, sX, LV, KO, dK, l, d] → AP1 P [pY, pX, ST, sY, sX, LV, KO, dK, l, d] → R) → R
theorem shape5 {x a b c e f : Str} {va vb vc ve vf : Value} {v : Option Value} {m : Str → Option Value} (h1 : m a = some va) (h2 : m b = some vb) (h3 : m c = some vc) (h4 : m e = some ve) (h5 : m f = some vf) :
    (fun y => if y = x then v else m y) = fun y => if y = x then v else if y = a then some va else if y = b then some vb else if y = c then some vc else if y = e then some ve else if y = f then some vf else m y := by
  funext y
  by_cases q0 : y = x
  · simp [q0]
  · by_cases q1 : y = a
    · subst q1; simp [q0, h1]
    · by_cases q2 : y = b
      · subst q2; simp [q0, q1, h2]
      · by_cases q3 : y = c
        · subst q3; simp [q0, q1, q2, h3]
        · by_cases q4 : y = e
          · subst q4; simp [q0, q1, q2, q3, h4]
          · by_cases q5 : y = f
            · subst q5; simp [q0, q1, q2, q3, q4, h5]
            · simp [q0, q1, q2, q3, q4, q5]
theorem flags_same {px : List Int} {f how : Int} (ks : KS px) (h2 : 0 ≤ f) (h3 : f < 40) (h4 : 0 ≤ how) (h5 : how < 5) : px.dropLast ++ [bitSum (px.getLastD 0) f how] = flagsP px f how := by
  unfold flagsP
  rw [bits_eq ks.last.1 ks.last.2 h2 h3 h4 h5]
theorem level_four {ls : List Int} {r told : Int} (h : r = 4) (h8 : ls.length = 8) : (levelP ls r told).getD 4 0 = clampI told := by
  subst h
  unfold levelP
  rw [if_pos (show (4 : Int) < 8 by decide)]
  show (ls.set 4 (clampI told)).getD 4 0 = _
  simp [List.getD, h8]
theorem level_other {ls : List Int} {r told : Int} (h : r ≠ 4) (h0 : 0 ≤ r) : (levelP ls r told).getD 4 0 = ls.getD 4 0 := by
  unfold levelP
  split
  · have : r.toNat ≠ 4 := by omega
    simp [List.getD, List.getElem?_set, this]
  · rfl
theorem levelP_len {ls : List Int} {r told : Int} (h8 : ls.length = 8) : (levelP ls r told).length = 8 := by
  unfold levelP
  split
  · rw [List.length_set]; exact h8
  · exact h8
theorem levelP_lenI {vs : List Value} {ls : List Int} {r told : Int} (_h : IntsAre vs (levelP ls r told)) (h8 : ls.length = 8) : (levelP ls r told).length = 8 := levelP_len h8
theorem ne_intS {prog : Program} {w : World} {A : Around} {E : Value → Shared → Prop} {s : Shared} {a b : Int} {t u : Tok} {Q : Value → Shared → Prop} (e : a = b) (h : Q (.bool false) s) : wpAny (model prog w) A (compareOp .NotEq (.int a t) (.int b u)) Q E s := by
  subst e
  exact ne_int (by simpa using h)
theorem reset_apU {w : World} {pgm : Program} {loo : List Str} {mean : ExcName → Option Value} {mg mb : Str → Option Value} {KO dK LV ST : Addr} {u1 w1 u2 u3 u4 : Tok} {alt : Bool} {dp un : Nat} {gd : Option (List Code)} {cn : Str} {cs : Scope} {za : Addr} {ccd : Value} {cl : List (Str × Addr)} {outer : List Env} {A₀ : Around} {base h₀ : Heap} {zL : Addr} {zm : Str → Option Value} {zn zr : Led} {zs : Shared} {zQ zE : Value → Shared → Prop} (zS : Site w pgm loo mean mg mb 840 8600 dp un cs outer A₀ base h₀ zL zs.heap zm zn ∧ Picks [(KO, instObj 192 dK), (dK, keysH w u1 w1 u2 LV u3 alt u4 ST 4)] zn zr ∧ Apart [(KO, instObj 192 dK), (dK, keysH w u1 w1 u2 LV u3 alt u4 ST 4)] zr) (a1 : @Ne Nat KO dK)
    (zh : ∀ h9 tk9, Fr h₀ zL h9 zm → ∀ (LV' ST' s0' s1' : Addr) (vs8 v0 v1 : List Value) (c8 c0 c1 cS : Nat), IntsAre vs8 [0, 0, 0, 0, 0, 0, 0, 0] → IntsAre v0 [0] → IntsAre v1 [0] → News h₀ zL h9 ((KO, instObj 192 dK) :: (dK, keysH w u1 w1 u2 LV' u3 alt u4 ST' 4) :: (LV', PySem.W.listOf vs8.toArray c8) :: (ST', PySem.W.listOf #[.ref s0', .ref s1'] cS) :: (s0', PySem.W.listOf v0.toArray c0) :: (s1', PySem.W.listOf v1.toArray c1) :: zr) → AP1 LV' ([KO, dK] ++ zr.map (·.1)) → AP1 s0' ([LV', KO, dK] ++ zr.map (·.1)) → AP1 s1' ([s0', LV', KO, dK] ++ zr.map (·.1)) → AP1 ST' ([s1', s0', LV', KO, dK] ++ zr.map (·.1)) → zQ (.none) { zs with heap := h9, toks := tk9 }) :
    wpAny (model PySem.Challenge.rw_og0244_01.row.prog w) (ktrTop dp un gd cn cs zL za ccd cl outer) (call (.ref 231) [.ref KO]) zQ zE zs :=
  reset_ap a1 _ _ _ _ _ _ _ _ _ _ _ _ _ _ _ _ _ _ _ zS.1.B zS.1.F zS.1.X zS.1.T zS.1.k zS.1.d zS.1.u zS.1.N zS.2.1 zS.2.2 fun r foot h9 tk9 hp F9 N9 ap => by
    refine hp _ ?_; rintro LV' ST' s0' s1' vs8 v0 v1 c8 c0 c1 cS rfl rfl y0 y1 y2 y3 y4 y5 y6
    exact zh h9 tk9 F9 LV' ST' s0' s1' vs8 v0 v1 c8 c0 c1 cS y0 y1 y2 N9 (AP1.app y3 (AP1.ofMem ap (by k_mem))) (AP1.app y4 (AP1.ofMem ap (by k_mem))) (AP1.app y5 (AP1.ofMem ap (by k_mem))) (AP1.app y6 (AP1.ofMem ap (by k_mem)))
end
example : Zz 0 := by (try walk1); exact trivial
local macro_rules | `(tactic| k_mem) => `(tactic| first | exact me0 | exact me1 | exact me2 | exact me3 | exact me4 | exact me5 | exact me6 | exact me7 | exact me8 | exact me9 | exact me10 | exact me11 | exact me12 | exact me13 | exact me14)
section
example : Zz 0 := by (try walk1); exact trivial
theorem ints_push1 {a f : Int} (ta t : Tok) : IntsAre [.int a ta, .int (f.fmod 32) t] (pushP [a] f) := by
  rw [Int.fmod_eq_emod_of_nonneg _ (by decide)]; exact .cons _ _ (.cons _ _ .nil)
theorem ints_push2 {a b f : Int} (ta tb t : Tok) : IntsAre [.int a ta, .int b tb, .int (f.fmod 32) t] (pushP [a, b] f) := by
  rw [Int.fmod_eq_emod_of_nonneg _ (by decide)]; exact .cons _ _ (.cons _ _ (.cons _ _ .nil))
theorem ints_push3 {a b e f : Int} (ta te t : Tok) : IntsAre [.int a ta, .int e te, .int (f.fmod 32) t] (pushP [a, b, e] f) := by
  rw [Int.fmod_eq_emod_of_nonneg _ (by decide)]; exact .cons _ _ (.cons _ _ (.cons _ _ .nil))
theorem range_loopP {w : World} {A : Around} {E : Value → Shared → Prop} {s : Shared} {env : Env} {h₀ : Heap} {x : Str} {body : List Stmt} {Q : Flow → Shared → Prop} {r : Addr} {b : Int} {t u v : Tok} {m₀ : Str → Option Value} {news rest : Led} {p : Addr} {o : Obj} (J : Nat → Obj → Prop)
    (hh : A.handled = none) (F : Fr h₀ env.locals s.heap m₀) (N : News h₀ env.locals s.heap news) (PK : Pick (p, o) news rest) (hr : IsRange s.heap r 0 b 1 t u v) (hb0 : 0 ≤ b) (hb : b ≤ 100) (hj : J 0 o)
    (turn : ∀ (i : Nat) t o h tk I oI, i < b.toNat → J i o → OffAll I ((p, o) :: rest) → Fr h₀ env.locals h (fun y => if y = x then some (.int (i : Int) t) else m₀ y) → News h₀ env.locals h (((p, o) :: rest) ++ [(I, oI)]) →
      ∀ QT : Flow → Shared → Prop, (∀ fl s', TurnPost h₀ env.locals (fun m nx => (∀ y, y ≠ x → m y = m₀ y) ∧ ∃ o', nx = (p, o') :: rest ∧ J (i + 1) o') [(I, oI)] { s with heap := h, toks := tk } Q fl s' → QT fl s') → wpAny (model PySem.Challenge.rw_og0244_01.row.prog w) A (execs body env) QT E { s with heap := h, toks := tk })
    (done : ∀ u o h tk, J b.toNat o → Fr h₀ env.locals h (fun y => if y = x then u else m₀ y) → News h₀ env.locals h ((p, o) :: rest) → Q .next { s with heap := h, toks := tk }) :
    wpAny (model PySem.Challenge.rw_og0244_01.row.prog w) A (pyIter (.ref r)) (fun it s₂ => LoopAtV PySem.Challenge.rw_og0244_01.row.prog w A h₀ env x body Q E it s₂) E s := by
  refine range_loopJ (fun i nx => ∃ o', nx = (p, o') :: rest ∧ J i o') hh F (news_sub N PK.mem) hr hb0 hb ⟨_, rfl, hj⟩ ?_ ?_
  · rintro i t nx h tk I oI hi ⟨o', rfl, hJ⟩ ho F₁ N₁
    exact turn i t o' h tk I oI hi hJ ho F₁ N₁
  · rintro u nx h tk ⟨o', rfl, hJ⟩ F₁ N₁
    exact done u o' h tk hJ F₁ N₁
theorem ints_pop1 {px : List Int} {a : Int} {j : Nat} (t : Tok) (q : popN j px = [a]) : IntsAre [.int 0 t] (popN (j + 1) px) := by
  show IntsAre _ (popOne (popN j px))
  rw [q]; exact .cons _ _ .nil
theorem ints_pop2 {px : List Int} {a b : Int} {j : Nat} (ta : Tok) (q : popN j px = [a, b]) : IntsAre [.int a ta] (popN (j + 1) px) := by
  show IntsAre _ (popOne (popN j px))
  rw [q]; exact .cons _ _ .nil
theorem ints_pop3 {px : List Int} {a b e : Int} {j : Nat} (ta tb : Tok) (q : popN j px = [a, b, e]) : IntsAre [.int a ta, .int b tb] (popN (j + 1) px) := by
  show IntsAre _ (popOne (popN j px))
  rw [q]; exact .cons _ _ (.cons _ _ .nil)
theorem fn_cases {P : Prop} {K : Frag} {a : Addr} {name qual : Str} {params : Arguments} {body : List Stmt} {scope : Scope} {dV kV doc pm cdv ct oc : Value} {an od : Option Addr} {osl : Array (Option Value)} {name' qual' : Str} {params' : Arguments} {body' : List Stmt} {scope' : Scope} {dV' kV' doc' pm' cdv' ct' oc' : Value} {an' od' : Option Addr} {osl' : Array (Option Value)}
    (h1 : K.lookup a = some ⟨oc, od, .func (fnOf name qual params body scope dV kV doc pm an cdv ct), osl⟩) (h2 : K.lookup a = some ⟨oc', od', .func (fnOf name' qual' params' body' scope' dV' kV' doc' pm' an' cdv' ct'), osl'⟩)
    (h : qual' = qual → body' = body → scope' = scope → cdv' = cdv → P) : P := by
  have e := h2.symm.trans h1
  injection e with e
  injection e with e1 e2 e3 e4
  injection e3 with e3
  injection e3 with f1 f2 f3 f4 f5 f6 f7 f8 f9 f10 f11 f12 f13 f14
  exact h f2 (by injection f4) f5 f13
def StopNow : Prop := True
theorem stop_if {P : Prop} (_ : StopNow) (h : Stop P) : P := h
theorem KJ.mk {w : World} {d l KO dK : Addr} {m : Str → Option Value} {oD oL : Obj} {LV ST s0 s1 sX sY P p0 p1 pX pY : Addr} {u1 w1 u2 u3 u4 th tl : Tok} {c8 cS cX cY cP cA cB : Nat} {vs8 vX vY wX wY : List Value} {ls px py : List Int} {alt : Bool} {hh : Int}
    (k1 : m (Str.ofString "keys") = some (.ref KO)) (k2 : m (Str.ofString "deck") = some (.ref d)) (k3 : m (Str.ofString "piles") = some (.ref P)) (k4 : m (Str.ofString "here") = some (.int hh th)) (k5 : m (Str.ofString "level") = some (.int (ls.getD 4 0) tl)) (hDk : DeckIs w d l oD oL) (hsX : sX = if alt then s1 else s0) (hsY : sY = if alt then s0 else s1) (hpX : pX = if alt then p1 else p0) (hpY : pY = if alt then p0 else p1) (hhh : hh = if alt then 1 else 0) (hI8 : IntsAre vs8 ls) (h8 : ls.length = 8) (iX : IntsAre vX px) (iY : IntsAre vY py) (jX : IntsAre wX px) (jY : IntsAre wY py) (ksX : KS px) (ksY : KS py) (b1 : AP1 LV [KO, dK, l, d]) (b2 : AP1 sX [LV, KO, dK, l, d]) (b3 : AP1 sY [sX, LV, KO, dK, l, d]) (b4 : AP1 ST [sY, sX, LV, KO, dK, l, d]) (b5 : AP1 pX [ST, sY, sX, LV, KO, dK, l, d]) (b6 : AP1 pY [pX, ST, sY, sX, LV, KO, dK, l, d]) (b7 : AP1 P [pY, pX, ST, sY, sX, LV, KO, dK, l, d]) :
    KJ w d l KO dK m [(d, oD), (l, oL), (KO, instObj 192 dK), (dK, keysH w u1 w1 u2 LV u3 alt u4 ST 4), (LV, PySem.W.listOf vs8.toArray c8), (ST, PySem.W.listOf #[.ref s0, .ref s1] cS), (sX, PySem.W.listOf vX.toArray cX), (sY, PySem.W.listOf vY.toArray cY), (P, PySem.W.listOf #[.ref p0, .ref p1] cP), (pX, PySem.W.listOf wX.toArray cA), (pY, PySem.W.listOf wY.toArray cB)] :=
  fun _ k => k oD oL LV ST s0 s1 sX sY P p0 p1 pX pY u1 w1 u2 u3 u4 th tl c8 cS cX cY cP cA cB vs8 vX vY wX wY ls px py alt hh rfl k1 k2 k3 k4 k5 hDk hsX hsY hpX hpY hhh hI8 h8 iX iY jX jY ksX ksY b1 b2 b3 b4 b5 b6 b7
theorem shape5' {a b c e f : Str} {va vb vc ve vf : Value} {m : Str → Option Value} (h1 : m a = some va) (h2 : m b = some vb) (h3 : m c = some vc) (h4 : m e = some ve) (h5 : m f = some vf) :
    m = fun y => if y = a then some va else if y = b then some vb else if y = c then some vc else if y = e then some ve else if y = f then some vf else m y := by
  funext y
  by_cases q1 : y = a
  · subst q1; simp [h1]
  · by_cases q2 : y = b
    · subst q2; simp [q1, h2]
    · by_cases q3 : y = c
      · subst q3; simp [q1, q2, h3]
      · by_cases q4 : y = e
        · subst q4; simp [q1, q2, q3, h4]
        · by_cases q5 : y = f
          · subst q5; simp [q1, q2, q3, q4, h5]
          · simp [q1, q2, q3, q4, q5]
example : Zz 0 := by (try walk1); exact trivial
section
local macro_rules | `(tactic| walk_at "compareOp NotEq int int") => `(tactic| kl_no)
local macro_rules | `(tactic| walk_at "getAttr ref") => `(tactic| (k_here; (with_reducible refine' gF ?_); focus (k_dflt (refine' get_prop ?_ ?_ ?_ ?_ ?_ ?_ ?_ ?_ ?_ ?_; rotate_left 10; k_asm; k_asm; k_inst; k_is; k_is; k_is; k_is; k_is; k_is; k_whole; refine' kflagU ?_ ?_ ?_ ?_ ?_ ?_ ?_ ?_ ?_ ?_ ?_ ?_ ?_; rotate_left 32; walk_at "mine site1"; rotate_left 9; walk_at "mine pick3"; rotate_right 9; k_asm; rotate_left 8; walk_at "mine picks"; rotate_right 8; k_ne; k_ne; k_ne; k_ne; k_ne; k_ne; k_asm; walk_at "mine kone"; walk_at "mine apart"; k_whole; intros; (try k_sweep); (try dsimp only); (refine handed_on rfl ?_); (try dsimp only)))))
set_option maxHeartbeats 8000000 in
theorem krun_check {w : World} {pgm : Program} {loo : List Str} {mean : ExcName → Option Value} {mg mb : Str → Option Value} {qual : Str} {params : Arguments} {body tail : List Stmt} {scope : Scope} {dV kV doc pm cdv ct oc : Value} {name : Str} {an od : Option Addr} {osl : Array (Option Value)}
    (ho : (pre.heap_1 w.params).lookup 307 = some ⟨oc, od, .func (fnOf name qual params body scope dV kV doc pm an cdv ct), osl⟩) {a0 : Stmt} {tg it : PySem.Expr} {fb oe rs : List Stmt} {fp : Pos} (hbody : body = a0 :: PySem.Stmt.For tg it fb oe fp :: rs) (htail : tail = fb.drop 2)
    {ev : EV} {A₀ : Around} {base h₀ h h' : Heap} {L fa I d l KO dK : Addr} {oI : Obj} {ccd : Value} {m : Str → Option Value} {s : Shared} {tk tk' : Nat} {news : Led} {Q : Flow → Shared → Prop} {oD oL : Obj} {LV ST s0 s1 sX sY P p0 p1 pX pY : Addr} {u1 w1 u2 u3 u4 th tl : Tok} {c8 cS cX cY cP cA cB : Nat} {vs8 vX vY wX wY : List Value} {ls px py : List Int} {alt : Bool} {hh : Int}
    (hdp : ev.dp ≤ 801) (hun : ev.un ≤ 8303) (B' : Below A₀ base ev.outer h₀) (X' : (pre.heap_1 w.params).In h₀) (T' : Top pgm loo mean mg mb h₀) (F' : Fr h₀ L h' m) (N' : News h₀ L h' news)
    (hs : ∀ p ∈ ([(d, oD), (l, oL), (KO, instObj 192 dK), (dK, keysH w u1 w1 u2 LV u3 alt u4 ST 4), (LV, PySem.W.listOf vs8.toArray c8), (ST, PySem.W.listOf #[.ref s0, .ref s1] cS), (sX, PySem.W.listOf vX.toArray cX), (sY, PySem.W.listOf vY.toArray cY), (P, PySem.W.listOf #[.ref p0, .ref p1] cP), (pX, PySem.W.listOf wX.toArray cA), (pY, PySem.W.listOf wY.toArray cB), (I, oI)] : Led), p ∈ news) (n1 : AP1 l [d]) (aKO : AP1 KO [dK, l, d]) (aDK : AP1 dK [l, d]) (ai : AP1 I [d, l, KO, dK, LV, ST, sX, sY, P, pX, pY])
    (k1 : m (Str.ofString "keys") = some (.ref KO)) (k2 : m (Str.ofString "deck") = some (.ref d)) (k3 : m (Str.ofString "piles") = some (.ref P)) (k4 : m (Str.ofString "here") = some (.int hh th)) (k5 : m (Str.ofString "level") = some (.int (ls.getD 4 0) tl)) (hDk : DeckIs w d l oD oL) (hsX : sX = if alt then s1 else s0) (hsY : sY = if alt then s0 else s1) (hpX : pX = if alt then p1 else p0) (hpY : pY = if alt then p0 else p1) (hhh : hh = if alt then 1 else 0) (hI8 : IntsAre vs8 ls) (h8 : ls.length = 8) (iX : IntsAre vX px) (iY : IntsAre vY py) (jX : IntsAre wX px) (jY : IntsAre wY py) (ksX : KS px) (ksY : KS py) (b1 : AP1 LV [KO, dK, l, d]) (b2 : AP1 sX [LV, KO, dK, l, d]) (b3 : AP1 sY [sX, LV, KO, dK, l, d]) (b4 : AP1 ST [sY, sX, LV, KO, dK, l, d]) (b5 : AP1 pX [ST, sY, sX, LV, KO, dK, l, d]) (b6 : AP1 pY [pX, ST, sY, sX, LV, KO, dK, l, d]) (b7 : AP1 P [pY, pX, ST, sY, sX, LV, KO, dK, l, d]) :
    ∀ QT : Flow → Shared → Prop, (∀ fl s', TurnPost h₀ L (fun m nx => KJ w d l KO dK m nx) [(I, oI)] { s with heap := h, toks := tk } Q fl s' → QT fl s') → wpAny (model PySem.Challenge.rw_og0244_01.row.prog w) (kt qual scope fa ccd ev L) (execs tail (ke qual scope fa ccd L)) QT (fun _ _ => False) { s with heap := h', toks := tk' } := by
  intro QT hT
  refine' fn_cases ho ?k6 ?_
  (case k6 => k_is)
  rintro rfl rfl rfl rfl
  injection hbody with _ hb2
  injection hb2 with hb3 _
  injection hb3 with _ _ hb4 _ _
  subst hb4
  simp only [List.drop_succ_cons, List.drop_zero] at htail
  subst htail
  clear ho
  replace N' := news_sub N' hs
  clear hs
  rw [shape5' k1 k2 k3 k4 k5] at F'
  k_steps
  all_goals (try dsimp only)
  unfold Stop
  refine ne_intS rfl ?_
  k_steps
  all_goals (try dsimp only)
  unfold Stop
  refine ne_intS rfl ?_
  k_steps
  all_goals (try dsimp only)
  refine hT _ _ ?_
  rename Fr _ _ _ _ => Fz
  rename News _ _ _ _ => Nz
  (refine' TurnEnd.intro' _ Fz Nz ?zn ?zI ?zo (KJ.mk rfl rfl rfl rfl rfl hDk hsX hsY hpX hpY hhh hI8 h8 iX iY jX jY ksX ksY b1 b2 b3 b4 b5 b6 b7); (case zn => exact (by (repeat (first | exact sub_nil | (refine' sub_cons ?sa ?_; (case sa => k_mem)))))); (case zI => k_mem); (case zo => k_all))
theorem krun_check01 {w : World} {pgm : Program} {loo : List Str} {mean : ExcName → Option Value} {mg mb : Str → Option Value} {qual : Str} {params : Arguments} {body tail : List Stmt} {scope : Scope} {dV kV doc pm cdv ct oc : Value} {name : Str} {an od : Option Addr} {osl : Array (Option Value)}
    (ho : (pre.heap_1 w.params).lookup 307 = some ⟨oc, od, .func (fnOf name qual params body scope dV kV doc pm an cdv ct), osl⟩) {a0 : Stmt} {tg it : PySem.Expr} {fb oe rs : List Stmt} {fp : Pos} (hbody : body = a0 :: PySem.Stmt.For tg it fb oe fp :: rs) (htail : tail = fb.drop 2)
    {ev : EV} {A₀ : Around} {base h₀ h h' : Heap} {L fa I d l KO dK : Addr} {oI : Obj} {ccd : Value} {m : Str → Option Value} {s : Shared} {tk tk' : Nat} {news : Led} {Q : Flow → Shared → Prop} {oD oL : Obj} {LV ST s0 s1 P p0 p1 : Addr} {u1 w1 u2 u3 u4 th tl : Tok} {c8 cS cX cY cP cA cB : Nat} {vs8 vX vY wX wY : List Value} {ls : List Int} {alt : Bool} {hh : Int}
    (hdp : ev.dp ≤ 801) (hun : ev.un ≤ 8303) (B' : Below A₀ base ev.outer h₀) (X' : (pre.heap_1 w.params).In h₀) (T' : Top pgm loo mean mg mb h₀) (F' : Fr h₀ L h' m) (N' : News h₀ L h' news)
    (hs : ∀ p ∈ ([(d, oD), (l, oL), (KO, instObj 192 dK), (dK, keysH w u1 w1 u2 LV u3 alt u4 ST 4), (LV, PySem.W.listOf vs8.toArray c8), (ST, PySem.W.listOf #[.ref s0, .ref s1] cS), (s0, PySem.W.listOf vX.toArray cX), (s1, PySem.W.listOf vY.toArray cY), (P, PySem.W.listOf #[.ref p0, .ref p1] cP), (p0, PySem.W.listOf wX.toArray cA), (p1, PySem.W.listOf wY.toArray cB), (I, oI)] : Led), p ∈ news) (n1 : AP1 l [d]) (aKO : AP1 KO [dK, l, d]) (aDK : AP1 dK [l, d]) (ai : AP1 I [d, l, KO, dK, LV, ST, s0, s1, P, p0, p1])
    (k1 : m (Str.ofString "keys") = some (.ref KO)) (k2 : m (Str.ofString "deck") = some (.ref d)) (k3 : m (Str.ofString "piles") = some (.ref P)) (k4 : m (Str.ofString "here") = some (.int hh th)) (k5 : m (Str.ofString "level") = some (.int (ls.getD 4 0) tl)) (hDk : DeckIs w d l oD oL) (hhh : hh = if alt then 1 else 0) (hI8 : IntsAre vs8 ls) (h8 : ls.length = 8) (iX : IntsAre vX [0]) (iY : IntsAre vY [0]) (jX : IntsAre wX [0]) (jY : IntsAre wY [0]) (b1 : AP1 LV [KO, dK, l, d]) (b2 : AP1 s0 [LV, KO, dK, l, d]) (b3 : AP1 s1 [s0, LV, KO, dK, l, d]) (b4 : AP1 ST [s1, s0, LV, KO, dK, l, d]) (b5 : AP1 p0 [ST, s1, s0, LV, KO, dK, l, d]) (b6 : AP1 p1 [p0, ST, s1, s0, LV, KO, dK, l, d]) (b7 : AP1 P [p1, p0, ST, s1, s0, LV, KO, dK, l, d]) :
    ∀ QT : Flow → Shared → Prop, (∀ fl s', TurnPost h₀ L (fun m nx => KJ w d l KO dK m nx) [(I, oI)] { s with heap := h, toks := tk } Q fl s' → QT fl s') → wpAny (model PySem.Challenge.rw_og0244_01.row.prog w) (kt qual scope fa ccd ev L) (execs tail (ke qual scope fa ccd L)) QT (fun _ _ => False) { s with heap := h', toks := tk' } := by
  cases alt with
  | false => exact krun_check (sX := s0) (sY := s1) (pX := p0) (pY := p1) ho hbody htail hdp hun B' X' T' F' N' hs n1 aKO aDK ai k1 k2 k3 k4 k5 hDk rfl rfl rfl rfl hhh hI8 h8 iX iY jX jY KS.zero KS.zero b1 b2 b3 b4 b5 b6 b7
  | true => exact krun_check (sX := s1) (sY := s0) (pX := p1) (pY := p0) (cX := cY) (cY := cX) (cA := cB) (cB := cA) (vX := vY) (vY := vX) (wX := wY) (wY := wX) ho hbody htail hdp hun B' X' T' F' N' (fun p hp => hs p (((by (repeat (first | exact sub_nil | (refine' sub_cons ?sa ?_; (case sa => k_mem))))) : ∀ q ∈ (_ : Led), q ∈ (_ : Led)) p hp)) n1 aKO aDK (by walk_at "mine kap") k1 k2 k3 k4 k5 hDk rfl rfl rfl rfl hhh hI8 h8 iY iX jY jX KS.zero KS.zero b1 (by walk_at "mine kap") (by walk_at "mine kap") (by walk_at "mine kap") (by walk_at "mine kap") (by walk_at "mine kap") (by walk_at "mine kap")
theorem flip_sides {alt : Bool} {hh : Int} {a b x y : Nat} (hx : x = if alt then b else a) (hy : y = if alt then a else b) (h : hh = if alt then 1 else 0) :
    (y = if ((1 : Int) - hh == 1) then b else a) ∧ (x = if ((1 : Int) - hh == 1) then a else b) ∧ ((1 : Int) - hh = if ((1 : Int) - hh == 1) then 1 else 0) := by
  subst hx; subst hy; subst h
  cases alt <;> exact ⟨rfl, rfl, rfl⟩
end
example : Zz 0 := by (try walk1); exact trivial
end
section
example : Zz 0 := by (try walk1); exact trivial
local macro_rules | `(tactic| k_lt $h) => `(tactic| km_mul $h)
local macro_rules | `(tactic| walk_at "exec For Name Call cons nil") => `(tactic| walk_at "mine forR")
local macro_rules | `(tactic| walk_at "call builtin:list.append") => `(tactic| (k_here; k_dflt (refine' append_K ?_ ?_ ?_ ?_ ?_; rotate_left 7; k_asm; k_asm; k_upd; rotate_left; (rw [sizeLine_eq]; exact Nat.le_of_ble_eq_true rfl); rotate_right; k_whole); intro h' F' N'; (try k_sweep)))
local macro_rules | `(tactic| walk_at "call builtin:list.append") => `(tactic| refine stop_if (by with_reducible assumption) ?_)
local macro_rules | `(tactic| walk_at "call ref") => `(tactic| (k_here; focus (k_dflt (refine' pushU ?_ ?_ ?_ ?_ ?_ ?_ ?_ ?_ ?_ ?_ ?_ _ _ ?_ ?_ ?_ ?_ ?_; rotate_left 32; walk_at "mine site1"; rotate_left 12; walk_at "mine pick3"; rotate_right 12; k_asm; rotate_left 11; walk_at "mine picks"; rotate_right 11; k_ne; k_ne; k_ne; k_ne; k_ne; k_ne; k_asm; walk_at "mine kone"; walk_at "mine kthree"; k_asm; k_asm; walk_at "mine apart"; walk_at "mine after"))))
local macro_rules | `(tactic| walk_at "call ref") => `(tactic| (k_here; focus (k_dflt (refine' popU ?_ ?_ ?_ ?_ ?_ ?_ ?_ ?_ ?_ ?_ ?_ _ _ ?_ ?_ ?_ ?_ ?_; rotate_left 32; walk_at "mine site1"; rotate_left 12; walk_at "mine pick3"; rotate_right 12; k_asm; rotate_left 11; walk_at "mine picks"; rotate_right 11; k_ne; k_ne; k_ne; k_ne; k_ne; k_ne; k_asm; walk_at "mine kone"; walk_at "mine kthree"; k_asm; k_asm; walk_at "mine apart"; walk_at "mine after"))))
local macro_rules | `(tactic| walk_at "call ref") => `(tactic| (k_here; focus (k_dflt (refine' flagsU ?_ ?_ ?_ ?_ ?_ ?_ ?_ ?_ ?_ ?_ ?_ _ _ _ _ ?_ ?_ ?_; rotate_left 32; walk_at "mine site1"; rotate_left 10; walk_at "mine pick3"; rotate_right 10; k_asm; rotate_left 9; walk_at "mine picks"; rotate_right 9; k_ne; k_ne; k_ne; k_ne; k_ne; k_ne; k_asm; walk_at "mine kone"; walk_at "mine kthree"; walk_at "mine apart"; walk_at "mine after"))))
local macro_rules | `(tactic| walk_at "call ref") => `(tactic| (k_here; focus (k_dflt (refine' levelU ?_ ?_ ?_ _ _ _ _ ?_ ?_ ?_ ?_ ?_ ?_; rotate_left 28; walk_at "mine site"; k_asm; k_asm; k_asm; k_asm; k_ne; k_ne; k_ne; walk_at "mine after"))))
local macro_rules | `(tactic| walk_at "call ref") => `(tactic| (k_here; focus (k_dflt (refine' bitsU ?_ _ _ _ _ _ _ ?_ ?_ ?_ ?_ ?_ ?_ ?_; rotate_left 11; walk_at "mine site"; (first | k_asm | exact (KS.last (by k_asm)).1); (first | k_asm | exact (KS.last (by k_asm)).2); k_asm; k_asm; k_asm; k_asm; walk_at "mine after"))))
local macro_rules | `(tactic| walk_at "mine reset") => `(tactic| (k_here; focus (k_dflt (refine' reset_apU ?_ ?_ ?_; rotate_left 20; walk_at "mine site"; k_ne; walk_at "mine afterQ"))))
local macro_rules | `(tactic| walk_at "setAttr ref") => `(tactic| ((with_reducible refine' sA ?_)))
local macro_rules | `(tactic| walk_at "execs cons") => `(tactic| ((with_reducible refine' sB ?_)))
local macro_rules | `(tactic| walk_at "call ref") => `(tactic| ((with_reducible refine' sC231 ?_)))
set_option maxHeartbeats 8000000 in
theorem krun_spec {w : World} {pgm : Program} {loo : List Str} {mean : ExcName → Option Value} {mg mb : Str → Option Value} {d l : Addr} {oD oL : Obj} (hD : DeckIs w d l oD oL) (n1 : AP1 l [d]) :
    Spec w pgm loo mean mg mb (.ref 307) 800 8300 [.ref d] [(d, oD), (l, oL)] (fun r foot' => ∃ oD' oL', r = .bool true ∧ foot' = [(d, oD'), (l, oL')]) := by
  (k_dflt (refine' spec_of (binds := [(Str.ofString "deck", .ref d)]) ?k6 ?k7 ?k8 ?k9 ?kB ?_ ?c2 ?c3 ?c4 ?c5; (case k6 => k_is); (case k7 => k_is); (case k8 => decide); (case k9 => exact fun s X => BindsTo.of_eq rfl); (case c5 => decide); (case kB => exact locs rfl); (case c2 => exact rfl); (case c3 => exact rfl); (case c4 => exact rfl); k_whole); intro ev A₀ base g' L' h₁ s tk₁ hdp hun B' F' N' X' T' hlt QL hL; k_lt hlt; (replace F' := binds_fr F'); (try dsimp only [BindsMap] at F'))
  k_steps
  all_goals (try dsimp only)
  rename_i x' d' hq1 aK lK l2 gq Lq hq2 Bq Xq Tq qq eq tq1 hq3 tmp hq4 at1 lt1 D1 hq5 i1 nz sz ez1 ez2 ez3 aLV lLV hq6 tq2 hq7 s0 hq8 as0 ls0 s1 hq9 as1 ls1 ST hq10 aST lST hq11 Fq Nq tq3 Tcq kXq p0 hq12 ap0 lp0 p1 hq13 ap1 lp1 P hq14 aP lP DT hq15 aDT lDT hq16 hq17 hq18 hq19 hq20 h9 tk9 F9 oD9 oL9 i9 t9 hD9 hi9 hj9 N9 hr1 tr1 tt uu vv hr F1 N1 hkp
  have aKO : AP1 x' [d', l, d] := .cons (Nat.ne_of_gt l2) (.cons (Nat.ne_of_gt (Nat.lt_trans lK.2 l2)) (.cons (Nat.ne_of_gt (Nat.lt_trans lK.1 l2)) .nil))
  have aDK : AP1 d' [l, d] := AP1.sub aK (by (repeat (first | exact sub_nil | (refine' sub_cons ?sa ?_; (case sa => k_mem)))))
  unfold Stop
  refine range_loop (news := [(d, oD9), (l, oL9), (x', instObj 192 d'), (d', keysH w (_ : Tok) (_ : Tok) (_ : Tok) D1 (_ : Tok) false (_ : Tok) ST 4), (D1, PySem.W.listOf _ 0), (ST, PySem.W.listOf #[.ref s0, .ref s1] 0), (s0, PySem.W.listOf (List.toArray [.int 0 _]) 0), (s1, PySem.W.listOf (List.toArray [.int 0 _]) 0), (P, PySem.W.listOf #[.ref p0, .ref p1] 0), (p0, PySem.W.listOf (List.toArray [.int 0 _]) 0), (p1, PySem.W.listOf (List.toArray [.int 0 _]) 0)]) (fun _ m nx => KJ w d l x' d' m nx) rfl F1 (news_sub N1 (by (repeat (first | exact sub_nil | (refine' sub_cons ?sa ?_; (case sa => k_mem)))))) hr (small_one (by decide) (by decide) (by omega) (by omega)) (by rw [rangeSize_nat]; simp) (KJ.mk (LV := D1) (ST := ST) (s0 := s0) (s1 := s1) (P := P) (p0 := p0) (p1 := p1) (px := [0]) (py := [0]) (alt := false) (hh := 0) rfl rfl rfl rfl rfl hD9 rfl rfl rfl rfl rfl i1 rfl (.cons _ _ .nil) (.cons _ _ .nil) (.cons _ _ .nil) (.cons _ _ .nil) KS.zero KS.zero (AP1.sub aLV (by (repeat (first | exact sub_nil | (refine' sub_cons ?sa ?_; (case sa => k_mem)))))) (AP1.sub as0 (by (repeat (first | exact sub_nil | (refine' sub_cons ?sa ?_; (case sa => k_mem)))))) (AP1.sub as1 (by (repeat (first | exact sub_nil | (refine' sub_cons ?sa ?_; (case sa => k_mem)))))) (AP1.sub aST (by (repeat (first | exact sub_nil | (refine' sub_cons ?sa ?_; (case sa => k_mem)))))) (AP1.sub ap0 (by (repeat (first | exact sub_nil | (refine' sub_cons ?sa ?_; (case sa => k_mem)))))) (AP1.sub ap1 (by (repeat (first | exact sub_nil | (refine' sub_cons ?sa ?_; (case sa => k_mem)))))) (AP1.sub aP (by (repeat (first | exact sub_nil | (refine' sub_cons ?sa ?_; (case sa => k_mem))))))) ?_ ?_
  · rintro i t m₁ nx h tk I oI hi hJ hoI F2 N2 QT hT
    refine hJ _ ?_
    clear hJ
    rintro oD' oL' LV ST' s0' s1' sX sY P' p0' p1' pX pY u1 w1 u2 u3 u4 th tl c8 cS cX cY cP cA cB vs8 vX vY wX wY ls px py alt hh rfl k1 k2 k3 k4 k5 hDk hsX hsY hpX hpY hhh hI8 h8 iX iY jX jY ksX ksY b1 b2 b3 b4 b5 b6 b7
    clear F1 N1 N9 aLV lLV at1 lt1 as0 ls0 as1 ls1 aST lST ap0 lp0 ap1 lp1 aP lP aDT lDT aK lK l2 i1 sz ez1 ez2 ez3 hD9 hD
    rw [shape5 k1 k2 k3 k4 k5] at F2
    have apI := OffAll.ap hoI
    simp only [List.cons_append, List.nil_append] at N2
    dsimp only [List.map] at apI
    have stopN : StopNow := trivial
    k_steps
    all_goals (try dsimp only)
    · unfold Stop
      repeat (rename StopNow => stopQ; clear stopQ)
      rename IntsAre _ (pushP px _) => iP
      rcases ints_cases jX ksX.one ksX.three with ⟨a, ta, q1, q2⟩ | ⟨a, b, ta, tb, q1, q2⟩ | ⟨a, b, e, ta, tb, te, q1, q2⟩
      all_goals subst q1
      all_goals subst q2
      · k_steps
        all_goals (try dsimp only)
        unfold Stop
        (refine' krun_check (alt := alt) (LV := LV) (ST := ST') (s0 := s0') (s1 := s1') (sX := sX) (sY := sY) (P := P') (p0 := p0') (p1 := p1') (pX := pX) (pY := pY) ?ho26 ?hb26 ?ht26 ?hd26 ?hu26 ?hB26 ?hX26 ?hT26 ?hF26 ?hN26 ?hs26 n1 aKO aDK ?ai26 ?p126 ?p226 ?p326 ?p426 ?p526 ?hDk26 hsX hsY hpX hpY hhh (hI8) (h8) iP iY (ints_push1 ta _) jY (ksX.push) (ksY) b1 b2 b3 b4 b5 b6 b7 _ hT; (case ho26 => k_is); (case hb26 => rfl); (case ht26 => rfl); (case hd26 => assumption); (case hu26 => assumption); (case hB26 => k_asm); (case hX26 => k_asm); (case hT26 => k_asm); (case hF26 => k_asm); (case p126 => exact rfl); (case p226 => exact rfl); (case p326 => exact rfl); (case p426 => exact rfl); (case p526 => exact rfl); (case hN26 => k_asm); (case hDk26 => k_asm); (case hs26 => exact (by (repeat (first | exact sub_nil | (refine' sub_cons ?sa ?_; (case sa => k_mem)))))); (case ai26 => walk_at "mine kap"))
      · k_steps
        all_goals (try dsimp only)
        unfold Stop
        (refine' krun_check (alt := alt) (LV := LV) (ST := ST') (s0 := s0') (s1 := s1') (sX := sX) (sY := sY) (P := P') (p0 := p0') (p1 := p1') (pX := pX) (pY := pY) ?ho27 ?hb27 ?ht27 ?hd27 ?hu27 ?hB27 ?hX27 ?hT27 ?hF27 ?hN27 ?hs27 n1 aKO aDK ?ai27 ?p127 ?p227 ?p327 ?p427 ?p527 ?hDk27 hsX hsY hpX hpY hhh (hI8) (h8) iP iY (ints_push2 ta tb _) jY (ksX.push) (ksY) b1 b2 b3 b4 b5 b6 b7 _ hT; (case ho27 => k_is); (case hb27 => rfl); (case ht27 => rfl); (case hd27 => assumption); (case hu27 => assumption); (case hB27 => k_asm); (case hX27 => k_asm); (case hT27 => k_asm); (case hF27 => k_asm); (case p127 => exact rfl); (case p227 => exact rfl); (case p327 => exact rfl); (case p427 => exact rfl); (case p527 => exact rfl); (case hN27 => k_asm); (case hDk27 => k_asm); (case hs27 => exact (by (repeat (first | exact sub_nil | (refine' sub_cons ?sa ?_; (case sa => k_mem)))))); (case ai27 => walk_at "mine kap"))
      · k_steps
        all_goals (try dsimp only)
        unfold Stop
        (refine' krun_check (alt := alt) (LV := LV) (ST := ST') (s0 := s0') (s1 := s1') (sX := sX) (sY := sY) (P := P') (p0 := p0') (p1 := p1') (pX := pX) (pY := pY) ?ho28 ?hb28 ?ht28 ?hd28 ?hu28 ?hB28 ?hX28 ?hT28 ?hF28 ?hN28 ?hs28 n1 aKO aDK ?ai28 ?p128 ?p228 ?p328 ?p428 ?p528 ?hDk28 hsX hsY hpX hpY hhh (hI8) (h8) iP iY (ints_push3 ta te _) jY (ksX.push) (ksY) b1 b2 b3 b4 b5 b6 b7 _ hT; (case ho28 => k_is); (case hb28 => rfl); (case ht28 => rfl); (case hd28 => assumption); (case hu28 => assumption); (case hB28 => k_asm); (case hX28 => k_asm); (case hT28 => k_asm); (case hF28 => k_asm); (case p128 => exact rfl); (case p228 => exact rfl); (case p328 => exact rfl); (case p428 => exact rfl); (case p528 => exact rfl); (case hN28 => k_asm); (case hDk28 => k_asm); (case hs28 => exact (by (repeat (first | exact sub_nil | (refine' sub_cons ?sa ?_; (case sa => k_mem)))))); (case ai28 => walk_at "mine kap"))
    · unfold Stop
      rename IntsAre _ (popN _ px) => iP
      rename IsRange _ _ _ _ _ _ _ _ => hrq
      rename Fr _ _ _ _ => Fq2
      rename News _ _ _ _ => Nq2
      refine range_loopP (p := pX) (fun j o => ∃ ws c, o = PySem.W.listOf ws.toArray c ∧ IntsAre ws (popN j px)) rfl Fq2 Nq2 (by walk_at "mine pick") hrq (by assumption) (by omega) ⟨_, _, rfl, jX⟩ ?_ ?_
      · rintro j tj _ hj tkj J oJ hjl ⟨ws, cw, rfl, jW⟩ hoJ Fj Nj QT hT
        clear Fq2 Nq2 hrq jX
        have apJ := OffAll.ap hoJ
        dsimp only [List.map] at apJ
        simp only [List.cons_append, List.nil_append] at Nj
        rcases ints_cases jW (ksX.pop j).one (ksX.pop j).three with ⟨a, ta, q1, rfl⟩ | ⟨a, b, ta, tb, q1, rfl⟩ | ⟨a, b, e, ta, tb, te, q1, rfl⟩
        · k_steps
          all_goals (try dsimp only)
          refine hT _ _ ?_
          rename Fr _ _ _ _ => Fz
          rename News _ _ _ _ => Nz
          (refine' TurnEnd.base _ Fz Nz ?zn21 ?zI21 ?zo21 ?zm21 ⟨_, rfl, _, _, rfl, ints_pop1 _ q1⟩; (case zn21 => exact (by (repeat (first | exact sub_nil | (refine' sub_cons ?sa ?_; (case sa => k_mem)))))); (case zI21 => k_mem); (case zo21 => k_all); (case zm21 => exact fun y hy => if_neg hy))
        · k_steps
          all_goals (try dsimp only)
          refine hT _ _ ?_
          rename Fr _ _ _ _ => Fz
          rename News _ _ _ _ => Nz
          (refine' TurnEnd.base _ Fz Nz ?zn22 ?zI22 ?zo22 ?zm22 ⟨_, rfl, _, _, rfl, ints_pop2 ta q1⟩; (case zn22 => exact (by (repeat (first | exact sub_nil | (refine' sub_cons ?sa ?_; (case sa => k_mem)))))); (case zI22 => k_mem); (case zo22 => k_all); (case zm22 => exact fun y hy => if_neg hy))
        · k_steps
          all_goals (try dsimp only)
          refine hT _ _ ?_
          rename Fr _ _ _ _ => Fz
          rename News _ _ _ _ => Nz
          (refine' TurnEnd.base _ Fz Nz ?zn23 ?zI23 ?zo23 ?zm23 ⟨_, rfl, _, _, rfl, ints_pop3 ta tb q1⟩; (case zn23 => exact (by (repeat (first | exact sub_nil | (refine' sub_cons ?sa ?_; (case sa => k_mem)))))); (case zI23 => k_mem); (case zo23 => k_all); (case zm23 => exact fun y hy => if_neg hy))
      · rintro uj _ hj tkj ⟨ws, cw, rfl, jW⟩ Fj Nj
        clear Fq2 Nq2 hrq jX
        k_steps
        all_goals (try dsimp only)
        unfold Stop
        (refine' krun_check (alt := alt) (LV := LV) (ST := ST') (s0 := s0') (s1 := s1') (sX := sX) (sY := sY) (P := P') (p0 := p0') (p1 := p1') (pX := pX) (pY := pY) ?ho29 ?hb29 ?ht29 ?hd29 ?hu29 ?hB29 ?hX29 ?hT29 ?hF29 ?hN29 ?hs29 n1 aKO aDK ?ai29 ?p129 ?p229 ?p329 ?p429 ?p529 ?hDk29 hsX hsY hpX hpY hhh (hI8) (h8) iP iY jW jY (ksX.pop _) (ksY) b1 b2 b3 b4 b5 b6 b7 _ hT; (case ho29 => k_is); (case hb29 => rfl); (case ht29 => rfl); (case hd29 => assumption); (case hu29 => assumption); (case hB29 => k_asm); (case hX29 => k_asm); (case hT29 => k_asm); (case hF29 => k_asm); (case p129 => exact rfl); (case p229 => exact rfl); (case p329 => exact rfl); (case p429 => exact rfl); (case p529 => exact rfl); (case hN29 => k_asm); (case hDk29 => k_asm); (case hs29 => exact (by (repeat (first | exact sub_nil | (refine' sub_cons ?sa ?_; (case sa => k_mem)))))); (case ai29 => walk_at "mine kap"))
    · rename IntsAre _ (flagsP px _ _) => iF
      rename IntsAre (wX.set _ _) _ => jF
      rw [flags_same ksX (by assumption) (by assumption) (by assumption) (by assumption)] at jF
      unfold Stop
      (refine' krun_check (alt := alt) (LV := LV) (ST := ST') (s0 := s0') (s1 := s1') (sX := sX) (sY := sY) (P := P') (p0 := p0') (p1 := p1') (pX := pX) (pY := pY) ?ho30 ?hb30 ?ht30 ?hd30 ?hu30 ?hB30 ?hX30 ?hT30 ?hF30 ?hN30 ?hs30 n1 aKO aDK ?ai30 ?p130 ?p230 ?p330 ?p430 ?p530 ?hDk30 hsX hsY hpX hpY hhh (hI8) (h8) iF iY jF jY (ksX.flags (by assumption) (by assumption)) (ksY) b1 b2 b3 b4 b5 b6 b7 _ hT; (case ho30 => k_is); (case hb30 => rfl); (case ht30 => rfl); (case hd30 => assumption); (case hu30 => assumption); (case hB30 => k_asm); (case hX30 => k_asm); (case hT30 => k_asm); (case hF30 => k_asm); (case p130 => exact rfl); (case p230 => exact rfl); (case p330 => exact rfl); (case p430 => exact rfl); (case p530 => exact rfl); (case hN30 => k_asm); (case hDk30 => k_asm); (case hs30 => exact (by (repeat (first | exact sub_nil | (refine' sub_cons ?sa ?_; (case sa => k_mem)))))); (case ai30 => walk_at "mine kap"))

    · rename IntsAre _ (levelP ls _ _) => iL
      have h8' := levelP_lenI iL h8
      unfold Stop
      (refine' krun_check (alt := alt) (LV := LV) (ST := ST') (s0 := s0') (s1 := s1') (sX := sX) (sY := sY) (P := P') (p0 := p0') (p1 := p1') (pX := pX) (pY := pY) ?ho31 ?hb31 ?ht31 ?hd31 ?hu31 ?hB31 ?hX31 ?hT31 ?hF31 ?hN31 ?hs31 n1 aKO aDK ?ai31 ?p131 ?p231 ?p331 ?p431 ?p531 ?hDk31 hsX hsY hpX hpY hhh (iL) (levelP_len h8) iX iY jX jY (ksX) (ksY) b1 b2 b3 b4 b5 b6 b7 _ hT; (case ho31 => k_is); (case hb31 => rfl); (case ht31 => rfl); (case hd31 => assumption); (case hu31 => assumption); (case hB31 => k_asm); (case hX31 => k_asm); (case hT31 => k_asm); (case hF31 => k_asm); (case p131 => exact rfl); (case p231 => exact rfl); (case p331 => exact rfl); (case p431 => exact rfl); (case p531 => exact (congrArg some (int_same (by rw [level_four (by assumption) h8]; unfold clampI; (repeat (any_goals split)) <;> omega)))); (case hN31 => k_asm); (case hDk31 => k_asm); (case hs31 => exact (by (repeat (first | exact sub_nil | (refine' sub_cons ?sa ?_; (case sa => k_mem)))))); (case ai31 => walk_at "mine kap"))

    · rename IntsAre _ (levelP ls _ _) => iL
      have h8' := levelP_lenI iL h8
      unfold Stop
      (refine' krun_check (alt := alt) (LV := LV) (ST := ST') (s0 := s0') (s1 := s1') (sX := sX) (sY := sY) (P := P') (p0 := p0') (p1 := p1') (pX := pX) (pY := pY) ?ho32 ?hb32 ?ht32 ?hd32 ?hu32 ?hB32 ?hX32 ?hT32 ?hF32 ?hN32 ?hs32 n1 aKO aDK ?ai32 ?p132 ?p232 ?p332 ?p432 ?p532 ?hDk32 hsX hsY hpX hpY hhh (iL) (levelP_len h8) iX iY jX jY (ksX) (ksY) b1 b2 b3 b4 b5 b6 b7 _ hT; (case ho32 => k_is); (case hb32 => rfl); (case ht32 => rfl); (case hd32 => assumption); (case hu32 => assumption); (case hB32 => k_asm); (case hX32 => k_asm); (case hT32 => k_asm); (case hF32 => k_asm); (case p132 => exact rfl); (case p232 => exact rfl); (case p332 => exact rfl); (case p432 => exact rfl); (case p532 => exact (congrArg some (int_same (level_other (by assumption) (by assumption))))); (case hN32 => k_asm); (case hDk32 => k_asm); (case hs32 => exact (by (repeat (first | exact sub_nil | (refine' sub_cons ?sa ?_; (case sa => k_mem)))))); (case ai32 => walk_at "mine kap"))

    · repeat (rename StopNow => stopQ; clear stopQ)
      unfold Stop
      walk_at "mine reset"
      rename_i h9r F9r LV9 ST9 s09 s19 vs89 v09 v19 c89 c09 c19 cS9 hJ8 hJ0 hJ1 N9r q1 q2 q3 q4
      replace q1 := AP1.sub (cs := [x', d', l, d, I]) q1 (by (repeat (first | exact sub_nil | (refine' sub_cons ?sa ?_; (case sa => k_mem)))))
      replace q2 := AP1.sub (cs := [LV9, x', d', l, d, I]) q2 (by (repeat (first | exact sub_nil | (refine' sub_cons ?sa ?_; (case sa => k_mem)))))
      replace q3 := AP1.sub (cs := [s09, LV9, x', d', l, d, I]) q3 (by (repeat (first | exact sub_nil | (refine' sub_cons ?sa ?_; (case sa => k_mem)))))
      replace q4 := AP1.sub (cs := [s19, s09, LV9, x', d', l, d, I]) q4 (by (repeat (first | exact sub_nil | (refine' sub_cons ?sa ?_; (case sa => k_mem)))))
      replace N9r := news_sub (b := [(x', instObj 192 d'), (d', keysH w u1 w1 u2 LV9 u3 alt u4 ST9 4), (LV9, PySem.W.listOf vs89.toArray c89), (ST9, PySem.W.listOf #[.ref s09, .ref s19] cS9), (s09, PySem.W.listOf v09.toArray c09), (s19, PySem.W.listOf v19.toArray c19), (d, _), (l, _), (I, oI)]) N9r (by (repeat (first | exact sub_nil | (refine' sub_cons ?sa ?_; (case sa => k_mem)))))
      clear b1 b2 b3 b4 b5 b6 b7 iX iY jX jY ksX ksY hI8 h8
      have one0 : 1 ≤ ([0] : List Int).length := by decide
      have len0 : ([0, 0, 0, 0, 0, 0, 0, 0] : List Int).length = 8 := rfl
      k_steps
      all_goals (try dsimp only)
      rename_i p0n hz1 a1n z1n p1n hz2 a2n z2n Pn hz3 a3n z3n Dn hz4 a4n z4n hz5 hz6 hz7 Fz8 Nz8
      unfold Stop
      (refine' krun_check01 (alt := alt) (LV := LV9) (ST := ST9) (s0 := s09) (s1 := s19) (P := Pn) (p0 := p0n) (p1 := p1n) ?ho34 ?hb34 ?ht34 ?hd34 ?hu34 ?hB34 ?hX34 ?hT34 ?hF34 ?hN34 ?hs34 n1 aKO aDK ?ai34 ?p134 ?p234 ?p334 ?p434 ?p534 ?hDk34 hhh hJ8 rfl hJ0 hJ1 (.cons _ _ .nil) (.cons _ _ .nil) (by walk_at "mine kap") (by walk_at "mine kap") (by walk_at "mine kap") (by walk_at "mine kap") (by walk_at "mine kap") (by walk_at "mine kap") (by walk_at "mine kap") _ hT; (case ho34 => k_is); (case hb34 => rfl); (case ht34 => rfl); (case hd34 => assumption); (case hu34 => assumption); (case hB34 => k_asm); (case hX34 => k_asm); (case hT34 => k_asm); (case hF34 => k_asm); (case p134 => exact rfl); (case p234 => exact rfl); (case p334 => exact rfl); (case p434 => exact rfl); (case p534 => exact rfl); (case hN34 => k_asm); (case hDk34 => k_asm); (case hs34 => exact (by (repeat (first | exact sub_nil | (refine' sub_cons ?sa ?_; (case sa => k_mem)))))); (case ai34 => walk_at "mine kap"))
    · unfold Stop
      have fS := flip_sides hsX hsY hhh
      have fP := flip_sides hpX hpY hhh
      generalize ((1 : Int) - hh == 1) = al2 at fS fP ⊢
      k_steps
      all_goals (try dsimp only)
      unfold Stop
      (refine' krun_check (alt := al2) (LV := LV) (ST := ST') (s0 := s0') (s1 := s1') (sX := sY) (sY := sX) (P := P') (p0 := p0') (p1 := p1') (pX := pY) (pY := pX) ?ho33 ?hb33 ?ht33 ?hd33 ?hu33 ?hB33 ?hX33 ?hT33 ?hF33 ?hN33 ?hs33 n1 aKO aDK ?ai33 ?p133 ?p233 ?p333 ?p433 ?p533 ?hDk33 fS.1 fS.2.1 fP.1 fP.2.1 fS.2.2 (hI8) (h8) iY iX jY jX (ksY) (ksX) (by walk_at "mine kap") (by walk_at "mine kap") (by walk_at "mine kap") (by walk_at "mine kap") (by walk_at "mine kap") (by walk_at "mine kap") (by walk_at "mine kap") _ hT; (case ho33 => k_is); (case hb33 => rfl); (case ht33 => rfl); (case hd33 => assumption); (case hu33 => assumption); (case hB33 => k_asm); (case hX33 => k_asm); (case hT33 => k_asm); (case hF33 => k_asm); (case p133 => exact rfl); (case p233 => exact rfl); (case p333 => exact rfl); (case p433 => exact rfl); (case p533 => exact rfl); (case hN33 => k_asm); (case hDk33 => k_asm); (case hs33 => exact (by (repeat (first | exact sub_nil | (refine' sub_cons ?sa ?_; (case sa => k_mem)))))); (case ai33 => walk_at "mine kap"))
  · intro m₁ nx h tk hJ F2 N2
    refine hJ _ ?_
    clear hJ
    rintro oD' oL' LV ST' s0' s1' sX sY P' p0' p1' pX pY u1 w1 u2 u3 u4 th tl c8 cS cX cY cP cA cB vs8 vX vY wX wY ls px py alt hh rfl _ _ _ _ _ hDk _ _ _ _ _ _ _ _ _ _ _ _ _ _ _ _ _ _ _ _
    clear F1 N1
    k_steps
    all_goals (try dsimp only)
    (refine' hL.leave (foot' := [(d, _), (l, _)]) ?lvF35 ?lvN35 ?lvs35 ?_; (case lvF35 => k_asm); (case lvN35 => k_asm); (case lvs35 => exact (by (repeat (first | exact sub_nil | (refine' sub_cons ?sa ?_; (case sa => k_mem)))))))
    exact ⟨_, _, rfl, rfl⟩
theorem krunU {w : World} {pgm : Program} {loo : List Str} {mean : ExcName → Option Value} {mg mb : Str → Option Value} {d l : Addr} {oD oL : Obj} {dp un : Nat} {gd : Option (List Code)} {cn : Str} {cs : Scope} {za : Addr} {ccd : Value} {cl : List (Str × Addr)} {outer : List Env} {A₀ : Around} {base h₀ : Heap} {zL : Addr} {zm : Str → Option Value} {zn zr : Led} {zs : Shared} {zQ zE : Value → Shared → Prop} (zS : Site w pgm loo mean mg mb 800 8300 dp un cs outer A₀ base h₀ zL zs.heap zm zn ∧ Picks [(d, oD), (l, oL)] zn zr ∧ Apart [(d, oD), (l, oL)] zr) (hD : DeckIs w d l oD oL) (n1 : AP1 l [d])
    (zh : ∀ h9 tk9, Fr h₀ zL h9 zm → ∀ oD' oL', News h₀ zL h9 ((d, oD') :: (l, oL') :: zr) → zQ (.bool true) { zs with heap := h9, toks := tk9 }) :
    wpAny (model PySem.Challenge.rw_og0244_01.row.prog w) (ktrTop dp un gd cn cs zL za ccd cl outer) (call (.ref 307) [.ref d]) zQ zE zs :=
  krun_spec hD n1 _ _ _ _ _ _ _ _ _ _ _ _ _ _ _ _ _ _ _ zS.1.B zS.1.F zS.1.X zS.1.T zS.1.k zS.1.d zS.1.u zS.1.N zS.2.1 zS.2.2 fun r foot h9 tk9 hp F9 N9 ap => by
    obtain ⟨oD', oL', rfl, rfl⟩ := hp
    exact zh h9 tk9 F9 oD' oL'  N9
end
example : Zz 0 := by (try walk1); exact trivial
local macro_rules | `(tactic| walk_at "call ref") => `(tactic| (k_here; focus (k_dflt (refine' numberU ?_ ?_ ?_; rotate_left 14; rotate_left; k_asm; rotate_right; walk_at "mine site"; walk_at "mine after"))))
local macro_rules | `(tactic| walk_at "subscriptTail Name Constant ref str") => `(tactic| (k_here; k_dflt ((with_reducible refine' w_item ?_ ?_ ?_ ?_ ?_); rotate_left 7; k_asm; k_mem; k_asm; (first | exact Or.inl ⟨rfl, rfl⟩ | exact Or.inr ⟨rfl, rfl⟩); k_whole)))
local macro_rules | `(tactic| walk_at "getItem ref str") => `(tactic| (k_here; k_dflt (refine' w_get ?_ ?_ ?_ ?_ ?_; rotate_left 7; k_asm; k_mem; k_asm; (first | exact Or.inl ⟨rfl, rfl⟩ | exact Or.inr ⟨rfl, rfl⟩); k_whole)))
local macro_rules | `(tactic| walk_at "setItem ref str ref") => `(tactic| (k_here; k_dflt (refine' w_put ?_ ?_ ?_ ?_ ?_; rotate_left 8; k_asm; k_asm; k_updF; k_asm; k_whole); intro h' o' F' N' hd'; (try dsimp only at N'); (try k_sweep)))
local macro_rules | `(tactic| walk_at "call ref") => `(tactic| (k_here; focus (k_dflt (refine' savedUU ?_ ?_ ?_ ?_ ?_ ?_ ?_ ?_ ?_ ?_ ?_ ?_; rotate_left 24; walk_at "mine site"; k_asm; k_asm; k_asm; (first | omega | exact priv_len (by assumption)); k_ne; k_ne; k_ne; k_ne; k_ne; k_ne; walk_at "mine afterS"))))
local macro_rules | `(tactic| walk_at "call type:tuple") => `(tactic| (k_here; k_dflt (refine' call_tuple_same ?_ ?_; rotate_left; k_asm)))
local macro_rules | `(tactic| walk_at "eval ListComp") => `(tactic| (k_here; (with_reducible refine' gL0 ?_); k_dflt (refine LCg.ListComp_U (F₀ := by k_asm) (by with_unfolding_all rfl) (by decide) (by rfl) (by decide) (by rfl) ?_)))
local macro_rules | `(tactic| walk_at "exec Assign cons ListComp") => `(tactic| (k_here; (with_reducible refine' gM0 ?_); k_dflt (refine LCg.Assign_ListComp_U (F₀ := by k_asm) (by rfl) (by with_unfolding_all rfl) (by with_unfolding_all rfl) (by decide) (by rfl) (by decide) (by rfl) (by rfl) (by rfl) ?_)))
section
example : Zz 0 := by (try walk1); exact trivial
theorem plain_some {i : Int} (h0 : 0 ≤ i) (h1 : i < 4) : (plainTab.lookup (([2, 4, 12, 20] : List Int).getD i.toNat 0)).isSome = true := by
  have : i = 0 ∨ i = 1 ∨ i = 2 ∨ i = 3 := by omega
  rcases this with rfl | rfl | rfl | rfl <;> decide +kernel
local macro_rules | `(tactic| walk_at "call ref") => `(tactic| (k_here; focus (k_dflt (refine' softU ?_ ?_ ?_ ?_ ?_ ?_ ?_; rotate_left 21; walk_at "mine site"; k_asm; k_ne; k_ne; k_ne; walk_at "mine le"; walk_at "mine after"))))
local macro_rules | `(tactic| walk_at "call ref") => `(tactic| (k_here; focus (k_dflt (refine' lsoftV ?_ ?_ ?_ ?_; rotate_left 14; walk_at "mine site"; k_asm; walk_at "mine le"; walk_at "mine afterV"))))
local macro_rules | `(tactic| k_lt $h) => `(tactic| f_shut $h)
local macro_rules | `(tactic| walk_at "CompSrc") => `(tactic| kl_no)
local macro_rules | `(tactic| walk_at "CompSrcT") => `(tactic| kl_no)
local macro_rules | `(tactic| walk_at "exec For Tuple Name cons nil") => `(tactic| walk_at "mine forT")
local macro_rules | `(tactic| walk_at "compareOp NotEq ref ref") => `(tactic| kl_no)
local macro_rules | `(tactic| walk_at "call type:dict") => `(tactic| kl_no)
local macro_rules | `(tactic| walk_at "FinE") => `(tactic| (unfold LCg.FinE; walk_at "mine fin"))
local macro_rules | `(tactic| walk_at "FinA") => `(tactic| (unfold LCg.FinA; walk_at "mine fin"))
local macro_rules | `(tactic| walk_at "subscriptTail Call Name cons nil Slice ref ref") => `(tactic| (k_here; k_dflt (refine kba_turn (value' := PySem.Expr.Name (PySem.Str.ofString "_") ⟨0, 0, 0, 0⟩) (fun _ => rfl) ?_)))
local macro_rules | `(tactic| walk_at "subscriptTail Name Slice ref ref") => `(tactic| (k_here; k_dflt (refine' rev_ints ?_ ?_ ?_ ?_ ?_ ?_ ?_ ?_; rotate_left 8; rfl; k_asm; k_asm; k_mem; k_asm; k_asm; k_asm); intro D9 ws9 ns9 h9 F9 N9 l1 hI9 hl9; (try k_lt l1); (try k_sweep)))
local macro_rules | `(tactic| walk_at "exec For Name Name cons nil") => `(tactic| walk_at "mine for")
local macro_rules | `(tactic| walk_at "exec For Name Call cons nil") => `(tactic| walk_at "mine forR")
local macro_rules | `(tactic| walk_at "call ref") => `(tactic| (k_here; focus (k_dflt (refine' saveU ?_ ?_ ?_ ?_ ?_ ?_ ?_ ?_ ?_ ?_ ?_ ?_ ?_ ?_ ?_ ?_ ?_; rotate_left 26; walk_at "mine site"; k_asm; k_asm; k_ne; k_ne; k_ne; k_asm; k_asm; walk_at "mine le"; k_ne; k_ne; k_ne; k_ne; k_ne; k_ne; k_ne; walk_at "mine after"))))
local macro_rules | `(tactic| walk_at "call builtin:sorted") => `(tactic| (k_here; k_dflt (refine' sorted_intDict ?_ ?_ ?_ ?_ ?_ ?_ ?_; rotate_left 5; (exact rfl); k_asm; k_asm; (exact kda_dict (by k_asm) (by k_mem) (by k_asm)); k_asm; assumption; walk_at "mine lt")))
local macro_rules | `(tactic| walk_at "subscriptTail") => `(tactic| (k_here; k_dflt ((with_reducible refine' litK_item ?_ ?_ ?_ ?_); rotate_left 4; k_asm; k_asm; (exact plain_some (by assumption) (by assumption)); k_whole); intro t9))
set_option maxHeartbeats 8000000 in
theorem deed_spec {w : World} {pgm : Program} {loo : List Str} {mean : ExcName → Option Value} {mg mb : Str → Option Value} {d l : Addr} {oD oL : Obj} {M dM S Kp W O Q : Addr} {h1 h2 : Int} {t1 t2 : Tok} {n : Nat} {oS oK oW oQ : Obj} {D K : BD} {vs : List Value} {c : Nat} {ss : List Str}
    (hD : DeckIs w d l oD oL) (hS : BoolDict w oS D) (hK : BoolDict w oK K) (hW : WObj w oW O Q) (hQ : BoolDict w oQ K) (hO : StrsAre vs ss) (hI : Inv D ss K)
    (loS : (S == sysModules) = false) (loK : (Kp == sysModules) = false) (loW : (W == sysModules) = false) (loQ : (Q == sysModules) = false)
    (n1 : AP1 l [d]) (n2 : AP1 M [d, l]) (n3 : AP1 dM [d, l, M]) (n4 : AP1 S [d, l, M, dM]) (n5 : AP1 Kp [d, l, M, dM, S]) (n6 : AP1 W [d, l, M, dM, S, Kp]) (n7 : AP1 Q [d, l, M, dM, S, Kp, W]) (n8 : AP1 O [d, l, M, dM, S, Kp, W, Q]) :
    Spec w pgm loo mean mg mb (.ref 281) 800 8300 [.ref d, .ref M, .ref W] [(d, oD), (l, oL), (M, instObj 86 dM), (dM, modesD h1 t1 S h2 t2 Kp n), (S, oS), (Kp, oK), (W, oW), (O, PySem.W.listOf vs.toArray c), (Q, oQ)] (DeedPost w d l M dM S Kp W Q h1 t1 h2 t2 n) := by
  have zD := hI.zD
  have zK := hI.zK
  have zs := hI.zs
  have lv := strs_length hO
  have zv : vs.length ≤ 41 := by omega
  have lo0 : (d == sysModules) = false := by
    obtain ⟨vs, c, left, mx, tm, rfl, hd', hI', hb, hn, hx0, hx1, lo', hne⟩ := hD
    exact lo'
  (k_dflt (refine' spec_ofC (binds := [(Str.ofString "deck", .ref d), (Str.ofString "modes", .ref M), (Str.ofString "w", .ref W)]) ?k6 ?k7 ?k8 ?k9 ?kB ?kD ?_ ?c2 ?c3 ?c4; (case k6 => k_is); (case k7 => k_is); (case k8 => decide); (case k9 => exact fun s X => BindsTo.of_eq rfl); (case kB => exact rfl); (case kD => decide +kernel); (case c2 => exact rfl); (case c3 => exact rfl); (case c4 => exact rfl); k_whole); intro ev A₀ base g' L' h₁ s tk₁ cells' hdp hun B' F' N' Y' X' T' hlt QL hL; (obtain ⟨cellA, cellB⟩ := cells_ap hlt; dsimp only [List.map] at cellA cellB); (replace hlt := allLt_of hlt; simp only [AllLt, and_true] at hlt); k_cells Y'; (try simp only [List.cons_append, List.nil_append] at N'); (try dsimp only))
  rename_i oc1 oc2 dc1 dc2
  have pv := priv_at (w := w) X'
  have pl := plain_at (w := w) X'
  k_steps
  all_goals (try dsimp only)
  · (refine' hL.leave (foot' := [(d, _), (l, _), (M, instObj 86 dM), (dM, modesD h1 t1 S h2 t2 Kp n), (S, _), (Kp, oK), (W, _), (_, PySem.W.listOf _ _), (Q, oQ)]) ?lvF41 ?lvN41 ?lvs41 ?_; (case lvF41 => k_asm); (case lvN41 => k_asm); (case lvs41 => exact (by (repeat (first | exact sub_nil | (refine' sub_cons ?sa ?_; (case sa => k_mem)))))))
    exact DeedPost.mk (by assumption) (by assumption) hK (by assumption) hQ (by assumption) (hI.set _ (plain_known (by assumption) (by assumption))) (AP1.sub (by assumption) (by (repeat (first | exact sub_nil | (refine' sub_cons ?sa ?_; (case sa => k_mem))))))
  · (refine' hL.leave (foot' := [(d, _), (l, _), (M, instObj 86 dM), (dM, modesD h1 t1 S h2 t2 Kp n), (S, _), (Kp, oK), (W, _), (_, PySem.W.listOf _ _), (Q, oQ)]) ?lvF42 ?lvN42 ?lvs42 ?_; (case lvF42 => k_asm); (case lvN42 => k_asm); (case lvs42 => exact (by (repeat (first | exact sub_nil | (refine' sub_cons ?sa ?_; (case sa => k_mem)))))))
    exact DeedPost.mk (by assumption) (by assumption) hK (by assumption) hQ (by assumption) (hI.set _ (priv_getD_known _)) (AP1.sub (by assumption) (by (repeat (first | exact sub_nil | (refine' sub_cons ?sa ?_; (case sa => k_mem))))))
  · (refine' hL.leave (foot' := [(d, _), (l, _), (M, instObj 86 dM), (dM, modesD h1 t1 S h2 t2 Kp n), (S, _), (Kp, oK), (W, _), (_, PySem.W.listOf _ _), (Q, oQ)]) ?lvF43 ?lvN43 ?lvs43 ?_; (case lvF43 => k_asm); (case lvN43 => k_asm); (case lvs43 => exact (by (repeat (first | exact sub_nil | (refine' sub_cons ?sa ?_; (case sa => k_mem)))))))
    exact DeedPost.mk (by assumption) (by assumption) hK (by assumption) hQ (by assumption) hI.soft (AP1.sub (by assumption) (by (repeat (first | exact sub_nil | (refine' sub_cons ?sa ?_; (case sa => k_mem))))))
  · rename IsRange _ _ _ _ _ _ _ _ => hr
    rename DeckIs _ _ _ _ _ => hDk
    rename News _ _ _ _ => N1
    rename Fr _ _ _ _ => F1
    rename 0 ≤ _ => hn0
    rename _ < 4 => hn4
    unfold Stop
    (refine' LCg.CompSrc.range rfl F1 (news := (d, _) :: (l, _) :: (L' + 1, _) :: [(L' + 1 + 1, _), (M, instObj 86 dM), (dM, modesD h1 t1 S h2 t2 Kp n), (S, oS), (Kp, oK), (W, oW), (O, PySem.W.listOf vs.toArray c), (Q, oQ)]) (news_sub N1 ?su) hr ?sm (rangeSize_nat _ _) ?sz ?_; (case su => exact (by (repeat (first | exact sub_nil | (refine' sub_cons ?sa ?_; (case sa => k_mem)))))); (case sm => exact small_one (by decide) (by decide) (by omega) (by omega)); (case sz => (rw [sizeLine_eq]; omega)))
    intro g8
    (refine' n_rest hDk ?hd0 ?hl0 ?_ ?_; (case hd0 => exact OffAll.of (by k_all)); (case hl0 => exact OffAll.of (by k_all)))
    · intro i v I oI C oC Dl m₂ ys h tk E' oD' oL' R hv hC hx hDk' hRd hRl F2 N2 off ne
      clear N1 F1
      obtain ⟨ap1, ap2, ap3⟩ := off3_ap off ne
      obtain ⟨ot1, ot2, ot3⟩ := off3_tail off
      dsimp only [List.map] at ap1 ap2 ap3
      k_steps
      all_goals (try dsimp only)
      (refine' LCg.CompEnd.intro ?eF ?eN ((d, _) :: (l, _) :: (L' + 1, _) :: (_, tupI _ _ 0) :: R) ?es ?eo trivial ⟨_, _, _, _, _, _, rfl, rfl, ?eD, ?e1, ?e2⟩; (case eF => k_asm); (case eN => k_asm); (case es => exact (by (repeat (first | exact List.forall_mem_nil _ | (refine' List.forall_mem_cons.mpr ⟨?sa, ?_⟩; (case sa => k_mem)) | exact fun p hp => by (repeat (first | exact hp | refine List.mem_cons_of_mem _ ?_)))))); (case eD => assumption); (case eo => exact off3_put off rfl rfl (by k_ne) (by k_ne) (by k_ne)); (case e1 => k_ne); (case e2 => k_ne))
    · intro oD' oL' ys ks R hDk' hy hk hp hs hRd hRl
      intro D8 h8 tk8 F8 N8 off8
      have hz8 : ys.length ≤ 3 := by omega
      clear N1 F1
      k_steps
      all_goals (try dsimp only)
      unfold Stop
      (refine' dict_pairs_led (ys := ys) (ks := ks) rfl F8 N8 (Top.nolimit T') (.head _) ?hn ?hz (fun j y hj => ?hq) ?_; (case hn => omega); (case hz => omega); (case hq => (obtain ⟨k, e, q⟩ := hp j y hj; exact ⟨k, e, q.more fun p hp => List.mem_cons_of_mem _ (List.mem_cons_of_mem _ (List.mem_cons_of_mem _ (List.mem_cons_of_mem _ hp)))⟩)))
      intro dd h9 tk9 od F9 N9 lt9 lo9 hdd
      have ap9 := lt_four lt9 hs
      replace N9 := news_four N9 hs
      dsimp only [List.map] at ap9
      have hm64 : (merged ([] : List (Int × Value)) (ks.map fun k => (k, Value.bool true))).length < 64 := by
        have q1 := merged_length_le ([] : List (Int × Value)) (ks.map fun k => (k, Value.bool true))
        simp only [List.length_nil, List.length_map] at q1
        omega
      clear hs hRd hRl off8 hp F8 N8 lt9
      k_steps
      all_goals (try dsimp only)
      · rename_i DN ws ns h7 hN hl7 ap7 h6 tk6 a6 h5 tk5 F5 oK5 hK5 N5
        (k_dflt (refine' ForSrc.led (vs := ws) [] (fun i nx => ∃ oQ', nx = [(M, instObj 86 dM), (dM, modesD h1 t1 S h2 t2 Kp n), (S, oS), (Kp, oK5), (d, oD'), (l, oL'), (L' + 1, oc2), (L' + 1 + 1, oc1), (W, oW), (O, PySem.W.listOf vs.toArray c), (Q, oQ')] ∧ BoolDict w oQ' ((ns.take i).foldl (saveOne D) K)) ?hh ?hp ?hso ?F ?N ?ho ?hj ?_ ?_; (case hh => exact rfl); (case F => exact F5); (case N => exact news_sub (b := (DN, PySem.W.listOf ws.toArray 0) :: [(M, instObj 86 dM), (dM, modesD h1 t1 S h2 t2 Kp n), (S, oS), (Kp, oK5), (d, oD'), (l, oL'), (L' + 1, oc2), (L' + 1 + 1, oc1), (W, oW), (O, PySem.W.listOf vs.toArray c), (Q, oQ)]) N5 (by (repeat (first | exact sub_nil | (refine' sub_cons ?sa ?_; (case sa => k_mem)))))); (case hp => exact Pick.head); (case hso => exact ⟨.inl rfl, _, rfl⟩); (case ho => k_all); (case hj => exact ⟨_, rfl, hQ⟩)))
        · rintro i v nx h tk I oI u hv ⟨oQ', rfl, hQ'⟩ ho1 ho2 hne F1 N1 QT hT
          clear F5 N5
          obtain ⟨k, t, hk, rfl⟩ := ints_at hN i v hv
          have hlen := foldl_save_le D (ns.take i) K
          have htl : (ns.take i).length ≤ ns.length := List.length_take_le' _ _
          have hz1 : ((ns.take i).foldl (saveOne D) K).length ≤ 1000 := by omega
          have apI := AP1.cons (b := DN) (Ne.symm hne) (OffAll.ap ho1)
          dsimp only [List.map] at apI
          simp only [List.cons_append, List.nil_append] at N1
          k_steps
          all_goals (try refine hT _ _ ?_)
          · (refine' TurnEnd.led [(M, instObj 86 dM), (dM, modesD h1 t1 S h2 t2 Kp n), (S, oS), (Kp, oK5), (d, oD'), (l, oL'), (L' + 1, oc2), (L' + 1 + 1, oc1), (W, oW), (O, PySem.W.listOf vs.toArray c), (Q, _)] ?teF39 ?teN39 ?tehn39 ?tehI39 ?tehl39 ?teo39 ?teq39 ?tem39 ?_; (case teF39 => k_asm); (case teN39 => k_asm); (case tehn39 => exact (by (repeat (first | exact sub_nil | (refine' sub_cons ?sa ?_; (case sa => k_mem)))))); (case tehI39 => k_mem); (case tehl39 => k_mem); (case teo39 => exact ho1); (case teq39 => exact ho2); (case tem39 => exact (fun y hy _ => if_neg hy)))
            refine ⟨_, rfl, ?_⟩
            rw [take_succ_foldl _ _ _ _ _ hk, save_yes (by assumption), hI.on]
            assumption
          · (refine' TurnEnd.led [(M, instObj 86 dM), (dM, modesD h1 t1 S h2 t2 Kp n), (S, oS), (Kp, oK5), (d, oD'), (l, oL'), (L' + 1, oc2), (L' + 1 + 1, oc1), (W, oW), (O, PySem.W.listOf vs.toArray c), (Q, _)] ?teF40 ?teN40 ?tehn40 ?tehI40 ?tehl40 ?teo40 ?teq40 ?tem40 ?_; (case teF40 => k_asm); (case teN40 => k_asm); (case tehn40 => exact (by (repeat (first | exact sub_nil | (refine' sub_cons ?sa ?_; (case sa => k_mem)))))); (case tehI40 => k_mem); (case tehl40 => k_mem); (case teo40 => exact ho1); (case teq40 => exact ho2); (case tem40 => exact (fun y hy _ => if_neg hy)))
            refine ⟨_, rfl, ?_⟩
            rw [take_succ_foldl _ _ _ _ _ hk, save_no (by assumption)]
            assumption
        · rintro u nx h tk ⟨oQ', rfl, hQ'⟩ ho F1 N1
          clear F5 N5
          rw [ints_length hN, List.take_length] at hQ'
          replace F1 : Fr g' L' h _ := F1
          replace N1 : News g' L' h _ := N1
          simp only [List.cons_append, List.nil_append] at N1
          dsimp only
          k_steps
          all_goals (try dsimp only)
          (refine' hL.leave (foot' := [(d, _), (l, _), (M, instObj 86 dM), (dM, modesD h1 t1 S h2 t2 Kp n), (S, _), (Kp, _), (W, _), (O, PySem.W.listOf _ _), (Q, _)]) ?lvF44 ?lvN44 ?lvs44 ?_; (case lvF44 => k_asm); (case lvN44 => k_asm); (case lvs44 => exact (by (repeat (first | exact sub_nil | (refine' sub_cons ?sa ?_; (case sa => k_mem)))))))
          exact DeedPost.mk hDk' hS hK5 hW hQ' hO (hI.saves ns) n8
      · rename_i DN ws ns h7 hN hl7 ap7 h6 F6 N6 tk6 a6
        unfold Stop
        have ap8 := AP1.sub (cs := [d, l, L' + 1, L' + 1 + 1, M, dM, S, Kp, W, O, Q]) ap7 (by (repeat (first | exact sub_nil | (refine' sub_cons ?sa ?_; (case sa => k_mem)))))
        clear ap7
        replace N6 := news_sub (b := [(DN, PySem.W.listOf ws.toArray 0), (d, oD'), (l, oL'), (L' + 1, oc2), (L' + 1 + 1, oc1), (M, instObj 86 dM), (dM, modesD h1 t1 S h2 t2 Kp n), (S, oS), (Kp, oK), (W, oW), (O, PySem.W.listOf vs.toArray c), (Q, oQ)]) N6 (by (repeat (first | exact sub_nil | (refine' sub_cons ?sa ?_; (case sa => k_mem)))))
        refine LCt.CompSrcT.ledger rfl F6 N6 (.head _) (by rw [List.size_toArray, ints_length hN, sizeLine_eq]; omega) ?_
        intro g7
        refine rel_restT (fun i ys nw => nw = [(DN, PySem.W.listOf ws.toArray 0), (d, oD'), (l, oL'), (L' + 1, oc2), (L' + 1 + 1, oc1), (M, instObj 86 dM), (dM, modesD h1 t1 S h2 t2 Kp n), (S, oS), (Kp, oK), (W, oW), (O, PySem.W.listOf vs.toArray c), (Q, oQ)] ∧ StrsAre ys (wordsOf (ns.take i))) ⟨rfl, .nil⟩ ?_ ?_
        · rintro i v I oI C oC Dl m₂ ys nw h tk E' hi hv hC hx ⟨rfl, hys⟩ F1 N1 off ne
          clear F6 N6
          obtain ⟨k, t, hk, rfl⟩ := ints_at hN i v (by simpa using hv)
          k_steps
          all_goals (try dsimp only)
          · (refine' LCg.CompEnd.intro ?ce36F ?ce36N _ ?ce36s off ?ce36S ⟨rfl, ?ce36R⟩; (case ce36F => k_asm); (case ce36N => k_asm); (case ce36s => exact fun p hp => hp); (case ce36S => first | exact Or.inr ⟨_, by k_mem, rfl, _, rfl⟩ | exact Or.inl (by assumption)))
            rw [words_yes hk (by assumption)]
            exact strs_snoc hys
          · (refine' LCg.CompEnd.intro ?ce37F ?ce37N _ ?ce37s off ?ce37S ⟨rfl, ?ce37R⟩; (case ce37F => k_asm); (case ce37N => k_asm); (case ce37s => exact fun p hp => hp); (case ce37S => first | exact Or.inr ⟨_, by k_mem, rfl, _, rfl⟩ | exact Or.inl (by assumption)))
            rw [words_no hk (by assumption)]
            exact hys
        · rintro ys nw ⟨rfl, hys⟩
          rw [List.size_toArray, ints_length hN, List.take_length] at hys
          clear F6 N6
          k_steps
          all_goals (try dsimp only)
          rename_i WD h5 tk5 F5 N5 ap5
          unfold Stop
          have hwl := words_len ns
          refine LCt.CompSrcT.ledger rfl F5 N5 (.head _) (by rw [List.size_toArray, strs_length hys, sizeLine_eq]; omega) ?_
          intro g6
          refine rel_restT (fun i ds nw => ∃ ts, nw = [(WD, LCg.lst ys), (DN, PySem.W.listOf ws.toArray 0), (d, oD'), (l, oL'), (L' + 1, oc2), (L' + 1 + 1, oc1), (M, instObj 86 dM), (dM, modesD h1 t1 S h2 t2 Kp n), (S, oS), (Kp, oK), (W, oW), (O, PySem.W.listOf vs.toArray c), (Q, oQ)] ++ ts ∧ PairsL ds ts (((wordsOf ns).take i).filterMap (keptOne K)) ∧ OffEach [WD, DN, d, l, L' + 1, L' + 1 + 1, M, dM, S, Kp, W, O, Q] ts) ⟨[], rfl, .nil, OffEach.nil⟩ ?_ ?_
          · rintro i v I oI C oC Dl m₂ ds nw h tk E' hi hv hC hx ⟨ts, rfl, hPL, hoff⟩ F1 N1 off ne
            clear F5 N5
            obtain ⟨y, t, hy, rfl⟩ := strs_at hys i v (by simpa using hv)
            have off' := off
            simp only [List.cons_append, List.nil_append] at N1 off
            obtain ⟨ap1, ap2, ap3⟩ := off3_ap off ne
            dsimp only [List.map] at ap1 ap2 ap3
            k_steps
            all_goals (try dsimp only)
            · rename_i TD h3 F3 N3 apT
              have hT := AP1.sub (cs := [WD, DN, d, l, L' + 1, L' + 1 + 1, M, dM, S, Kp, W, O, Q]) apT (by (repeat (first | exact sub_nil | (refine' sub_cons ?sa ?_; (case sa => k_mem)))))
              (refine' LCg.CompEnd.intro F3 N3 ([(WD, LCg.lst ys), (DN, PySem.W.listOf ws.toArray 0), (d, oD'), (l, oL'), (L' + 1, oc2), (L' + 1 + 1, oc1), (M, instObj 86 dM), (dM, modesD h1 t1 S h2 t2 Kp n), (S, oS), (Kp, oK), (W, oW), (O, PySem.W.listOf vs.toArray c), (Q, oQ)] ++ (ts ++ [(TD, pairObj y t ((getB K y).getD false) 0)])) ?es (off3_app ?o1 ?o2 ?o3 off') (Or.inr ⟨LCg.lst ys, ?em, rfl, _, rfl⟩) ⟨ts ++ [(TD, pairObj y t ((getB K y).getD false) 0)], rfl, ?eP, hoff.put hT⟩; (case es => (simp only [List.cons_append, List.nil_append]; (repeat (refine' List.forall_mem_cons.mpr ⟨?sa, ?_⟩; (case sa => k_mem))); exact List.forall_mem_append.mpr ⟨fun p hp => by (repeat (first | exact hp | refine List.mem_cons_of_mem _ ?_)), List.forall_mem_cons.mpr ⟨by k_mem, List.forall_mem_nil _⟩⟩)); (case o1 => exact AP1.get apT (by k_mem)); (case o2 => exact AP1.get apT (by k_mem)); (case o3 => exact AP1.get apT (by k_mem)); (case em => exact List.mem_append_left _ (.head _)); (case eP => (rw [take_succ_fm _ _ _ _ hy, kept_yes (by assumption)]; exact hPL.append (.cons .nil))))
            · (refine' LCg.CompEnd.intro F1 N1 ([(WD, LCg.lst ys), (DN, PySem.W.listOf ws.toArray 0), (d, oD'), (l, oL'), (L' + 1, oc2), (L' + 1 + 1, oc1), (M, instObj 86 dM), (dM, modesD h1 t1 S h2 t2 Kp n), (S, oS), (Kp, oK), (W, oW), (O, PySem.W.listOf vs.toArray c), (Q, oQ)] ++ ts) ?fs off' (Or.inr ⟨LCg.lst ys, ?fm, rfl, _, rfl⟩) ⟨ts, rfl, ?fP, hoff⟩; (case fs => exact fun p hp => hp); (case fm => exact List.mem_append_left _ (.head _)); (case fP => (rw [take_succ_fm _ _ _ _ hy, kept_no (by assumption)]; simpa using hPL)))
          · rintro ds nw ⟨ts, rfl, hPL, hoff⟩
            rw [List.size_toArray, strs_length hys, List.take_length, saved_eq] at hPL
            clear F5 N5
            k_steps
            all_goals (try dsimp only)
            rename_i DD h9 tk9 F9 N9 apD h8 tk8 tr ur vr hrg F8 N8 hk8
            unfold Stop
            refine range_loopJ (fun _ nx => nx = [(DD, LCg.lst ds), (WD, LCg.lst ys), (DN, PySem.W.listOf ws.toArray 0), (d, oD'), (l, oL'), (L' + 1, oc2), (L' + 1 + 1, oc1), (M, instObj 86 dM), (dM, modesD h1 t1 S h2 t2 Kp n), (S, oS), (Kp, oK), (W, oW), (O, PySem.W.listOf vs.toArray c), (Q, oQ)] ++ ts) rfl F8 N8 hrg (by decide) (by decide) rfl ?_ ?_
            · rintro i t nx h tk I oI hi rfl ho F1 N1 QT4 hT4
              clear F9 N9 F8 N8
              replace N1 := news_sub (b := (I, oI) :: ([(DD, LCg.lst ds), (WD, LCg.lst ys), (DN, PySem.W.listOf ws.toArray 0), (d, oD'), (l, oL'), (L' + 1, oc2), (L' + 1 + 1, oc1), (M, instObj 86 dM), (dM, modesD h1 t1 S h2 t2 Kp n), (S, oS), (Kp, oK), (W, oW), (O, PySem.W.listOf vs.toArray c), (Q, oQ)] ++ ts)) N1 fun p hp => by
                rcases List.mem_cons.mp hp with h | h
                · exact List.mem_append_right _ (h ▸ .head _)
                · exact List.mem_append_left _ h
              have apI := OffAll.ap ho
              simp only [List.cons_append, List.nil_append] at N1 apI
              dsimp only [List.map] at apI
              obtain ⟨-, e2, -, -, -, -, e7, e8, e9, e10, -, -, -⟩ := id hoff
              have e1 := (OffAll.left (l := [(DD, LCg.lst ds), (WD, LCg.lst ys), (DN, PySem.W.listOf ws.toArray 0), (d, oD'), (l, oL'), (L' + 1, oc2), (L' + 1 + 1, oc1), (M, instObj 86 dM), (dM, modesD h1 t1 S h2 t2 Kp n), (S, oS), (Kp, oK), (W, oW), (O, PySem.W.listOf vs.toArray c), (Q, oQ)]) ho).2
              k_steps
              all_goals (try dsimp only)
              rename_i h6 tk6 F6 Fd vs6 c6 ts6 hP6 hO6 N6
              unfold Stop
              have hl6 : vs6.length ≤ ns.length := by
                rw [hP6.length]
                exact List.length_filterMap_le _ _
              refine LCg.CompSrc.ledger rfl F6 N6 (.head _) (by rw [List.size_toArray, sizeLine_eq]; omega) ?_
              intro g5
              refine m_rest (fun i => vs6.getD i .none) ?_ ?_
              · intro i2 v2 I2 oI2 C oC Dl m₂ ys2 h5 tk5 E' hi2 hv2 hC hx F2 N2 off ne
                clear F6 N6
                have hv3 : vs6[i2]? = some v2 := by simpa using hv2
                obtain ⟨ta, tx, tt, tb, tn, rfl, hpb, hma⟩ := pairs_at hP6 i2 v2 hv3
                have hT : h5.IsTuple ta #[.str tx tt, .bool tb] := ⟨_, (N2 (ta, pairObj tx tt tb tn) (by repeat (first | exact List.mem_append_right _ hma | refine List.mem_cons_of_mem _ ?_))).1, rfl, _, rfl⟩
                k_steps
                all_goals (try dsimp only)
                (refine' LCg.CompEnd.intro ?ce38F ?ce38N _ ?ce38s off ?ce38S ⟨rfl, ?ce38R⟩; (case ce38F => k_asm); (case ce38N => k_asm); (case ce38s => exact fun p hp => hp); (case ce38S => first | exact Or.inr ⟨_, by k_mem, rfl, _, rfl⟩ | exact Or.inl (by assumption)))
                exact getD_of hv3
              · rw [List.size_toArray, map_getD]
                unfold LCg.FinE
                intro D7 h7 tk7 F7 N7 o7
                replace o7 := AP1.ofOff1 o7
                dsimp only [List.map] at o7
                clear F6 N6
                k_steps
                all_goals (try dsimp only)
                unfold Stop
                refine ne_pairs N7 (.head _) (by k_mem) hP6 hPL (fun p hp => by repeat (first | exact List.mem_append_right _ hp | refine List.mem_cons_of_mem _ ?_)) (fun p hp => by repeat (first | exact List.mem_append_left _ hp | refine List.mem_cons_of_mem _ ?_)) savedOne_known (by ((show _ < 9900); (try dsimp only [kt, ktC, ktrTop]); omega)) ?_
                k_steps
                all_goals (try dsimp only)
                refine hT4 _ _ ?_
                refine TurnEnd.base ([(DD, LCg.lst ds), (WD, LCg.lst ys), (DN, PySem.W.listOf ws.toArray 0), (d, oD'), (l, oL'), (L' + 1, oc2), (L' + 1 + 1, oc1), (M, instObj 86 dM), (dM, modesD h1 t1 S h2 t2 Kp n), (S, oS), (Kp, oK), (W, oW), (O, PySem.W.listOf vs.toArray c), (Q, oQ)] ++ ts) F7 N7 ?_ (by k_mem) (OffAll.all ho) (fun y hy => if_neg hy) rfl
                exact List.forall_mem_append.mpr ⟨(by (repeat (first | exact sub_nil | (refine' sub_cons ?sa ?_; (case sa => k_mem))))), fun p hp => by repeat (first | exact List.mem_append_left _ hp | refine List.mem_cons_of_mem _ ?_)⟩
            · rintro u nx h tk rfl F1 N1
              clear F9 N9 F8 N8
              simp only [List.cons_append, List.nil_append] at N1
              k_steps
              all_goals (try dsimp only)
              obtain ⟨-, -, -, -, -, -, e7, e8, e9, e10, e11, e12, e13⟩ := id hoff
              have apO : AP1 O [DD, WD, DN, d, l, L' + 1, L' + 1 + 1, M, dM, S, Kp, W, Q] := by
                refine AP1.cons (by k_ne) (AP1.cons (by k_ne) (AP1.cons (by k_ne) (AP1.cons (by k_ne) (AP1.cons (by k_ne) (AP1.cons (by k_ne) (AP1.cons (by k_ne) (AP1.cons (by k_ne) (AP1.cons (by k_ne) (AP1.cons (by k_ne) (AP1.cons (by k_ne) (AP1.cons (by k_ne) (AP1.cons (by k_ne) AP1.nil))))))))))))
              refine for_listL2 (Str.ofString "word") (Str.ofString "is_on") (fun i nx => ∀ R : Prop, (∀ (oS' oW' : Obj) (O' : Addr) (vs' : List Value) (c' : Nat) (D' : BD) (ss' : List Str), nx = [(DD, LCg.lst ds), (WD, LCg.lst ys), (DN, PySem.W.listOf ws.toArray 0), (d, oD'), (l, oL'), (L' + 1, oc2), (L' + 1 + 1, oc1), (M, instObj 86 dM), (dM, modesD h1 t1 S h2 t2 Kp n), (S, oS'), (Kp, oK), (W, oW'), (O', PySem.W.listOf vs'.toArray c'), (Q, oQ)] ++ ts → BoolDict w oS' D' → WObj w oW' O' Q → StrsAre vs' ss' → Inv D' ss' K → AP1 O' [DD, WD, DN, d, l, L' + 1, L' + 1 + 1, M, dM, S, Kp, W, Q] → OffAll O' ts → R) → R) rfl F1 N1 (by intro i nx hj; refine hj _ ?_; rintro oS' oW' O' vs' c' D' ss' rfl - - - - - -; exact .head _) rfl rfl (fun _ k => k oS oW O vs c D ss rfl hS hW hO hI apO e12) ?_ ?_
              · intro i v nx h tk I oI u1 u2 hv hJ ho F2 N2 QT3 hT3
                refine hJ _ ?_
                clear hJ
                rintro oS' oW' O' vs' c' D' ss' rfl hS' hW' hO' hI' apO' ofO'
                clear F1 N1
                obtain ⟨ta, tx, tt, tb, tn, rfl, hpb, hma⟩ := pairs_at hPL i v hv
                have hkn := savedOne_known (tx, tb) (List.mem_of_getElem? hpb)
                have hT : h.IsTuple ta #[.str tx tt, .bool tb] := ⟨_, (N2 (ta, pairObj tx tt tb tn) (List.mem_append_left _ (List.mem_append_right _ hma))).1, rfl, _, rfl⟩
                replace N2 := news_sub (b := (I, oI) :: ([(DD, LCg.lst ds), (WD, LCg.lst ys), (DN, PySem.W.listOf ws.toArray 0), (d, oD'), (l, oL'), (L' + 1, oc2), (L' + 1 + 1, oc1), (M, instObj 86 dM), (dM, modesD h1 t1 S h2 t2 Kp n), (S, oS'), (Kp, oK), (W, oW'), (O', PySem.W.listOf vs'.toArray c'), (Q, oQ)] ++ ts)) N2 fun p hp => by
                  rcases List.mem_cons.mp hp with h | h
                  · exact List.mem_append_right _ (h ▸ .head _)
                  · exact List.mem_append_left _ h
                have apI := OffAll.ap ho
                simp only [List.cons_append, List.nil_append] at N2 apI
                dsimp only [List.map] at apI
                have e1 := (OffAll.left (l := [(DD, LCg.lst ds), (WD, LCg.lst ys), (DN, PySem.W.listOf ws.toArray 0), (d, oD'), (l, oL'), (L' + 1, oc2), (L' + 1 + 1, oc1), (M, instObj 86 dM), (dM, modesD h1 t1 S h2 t2 Kp n), (S, oS'), (Kp, oK), (W, oW'), (O', PySem.W.listOf vs'.toArray c'), (Q, oQ)]) ho).2
                have zD' := hI'.zD
                have zs' := hI'.zs
                have lv' := strs_length hO'
                have zv' : vs'.length ≤ 41 := by omega
                k_steps
                all_goals (try dsimp only)
                refine hT3 _ _ ?_
                rename_i oS8 hS8 h8b tk8b l8 vs8 c8 hs8 hle8 hne8 ap8b h8c o8 F8 N8 hd8
                refine TurnEnd.intro' ([(DD, LCg.lst ds), (WD, LCg.lst ys), (DN, PySem.W.listOf ws.toArray 0), (d, oD'), (l, oL'), (L' + 1, oc2), (L' + 1 + 1, oc1), (M, instObj 86 dM), (dM, modesD h1 t1 S h2 t2 Kp n), (S, oS8), (Kp, oK), (W, o8), (l8, PySem.W.listOf vs8.toArray c8), (Q, oQ)] ++ ts) F8 N8 ?_ (by k_mem) ?_ ⟨fun y h1 h2 => by simp only [if_neg h1, if_neg h2], fun _ k => k oS8 o8 l8 vs8 c8 _ _ rfl hS8 hd8 hs8 (hI'.set tb hkn) (AP1.sub ap8b (by (repeat (first | exact sub_nil | (refine' sub_cons ?sa ?_; (case sa => k_mem)))))) (AP1.off (.mk fun b hb => ap8b.get (by repeat (first | exact hb | refine List.mem_cons_of_mem _ ?_))))⟩
                · exact List.forall_mem_append.mpr ⟨(by (repeat (first | exact sub_nil | (refine' sub_cons ?sa ?_; (case sa => k_mem))))), fun p hp => by repeat (first | exact hp | refine List.mem_cons_of_mem _ ?_)⟩
                · simp only [List.cons_append, List.nil_append]
                  k_all
              · intro u1 u2 nx h tk hJ F2 N2
                refine hJ _ ?_
                clear hJ
                rintro oS' oW' O' vs' c' D' ss' rfl hS' hW' hO' hI' apO' ofO'
                clear F1 N1
                simp only [List.cons_append, List.nil_append] at N2
                k_steps
                all_goals (try dsimp only)
                (refine' hL.leave (foot' := [(d, _), (l, _), (M, instObj 86 dM), (dM, modesD h1 t1 S h2 t2 Kp n), (S, _), (Kp, oK), (W, _), (O', PySem.W.listOf _ _), (Q, oQ)]) ?lvF45 ?lvN45 ?lvs45 ?_; (case lvF45 => k_asm); (case lvN45 => k_asm); (case lvs45 => exact (by (repeat (first | exact sub_nil | (refine' sub_cons ?sa ?_; (case sa => k_mem)))))))
                exact DeedPost.mk hDk' hS' hK hW' hQ hO' hI' (AP1.sub apO' (by (repeat (first | exact sub_nil | (refine' sub_cons ?sa ?_; (case sa => k_mem))))))
end
example : Zz 0 := by (try walk1); exact trivial
local macro_rules | `(tactic| walk_at "call builtin:sorted") => `(tactic| (k_here; k_dflt (refine' sorted_strs_led ?_ ?_ ?_ ?_ ?_ ?_; rotate_left 7; k_asm; k_asm; k_mem; k_asm; walk_at "mine le"; walk_at "mine lt")))
section
example : Zz 0 := by (try walk1); exact trivial
local macro_rules | `(tactic| k_lt $h) => `(tactic| f_shut $h)
local macro_rules | `(tactic| walk_at "CompSrc") => `(tactic| kl_no)
local macro_rules | `(tactic| walk_at "CompSrcT") => `(tactic| kl_no)
local macro_rules | `(tactic| walk_at "compareOp NotEq ref ref") => `(tactic| kl_no)
local macro_rules | `(tactic| walk_at "FinE") => `(tactic| (unfold LCg.FinE; walk_at "mine fin"))
local macro_rules | `(tactic| walk_at "FinA") => `(tactic| (unfold LCg.FinA; walk_at "mine fin"))
local macro_rules | `(tactic| walk_at "compareOp Eq int int") => `(tactic| kl_no)
local macro_rules | `(tactic| walk_at "compareOp In none ref") => `(tactic| (k_here; k_dflt (refine' in_none_led ?_ ?_ ?_ ?_; rotate_left 6; k_asm; k_mem; k_asm; k_whole)))
local macro_rules | `(tactic| walk_at "call ref") => `(tactic| (k_here; focus (k_dflt (refine' mmode_optU ?_ ?_ ?_ ?_ ?_ ?_ ?_; rotate_left 21; walk_at "mine site"; k_asm; k_asm; k_ne; k_ne; k_ne; walk_at "mine after"))))
local macro_rules | `(tactic| walk_at "call ref") => `(tactic| (k_here; focus (k_dflt (refine' menc_optU ?_ ?_ ?_ ?_ ?_ ?_ ?_; rotate_left 21; walk_at "mine site"; k_asm; k_asm; k_ne; k_ne; k_ne; walk_at "mine after"))))
local macro_rules | `(tactic| walk_at "call ref") => `(tactic| (k_here; focus (k_dflt (refine' word_tU ?S _ _ _ ?hw ?_; (case S => walk_at "mine site"); (case hw => k_asm); walk_at "mine after"))))
local macro_rules | `(tactic| walk_at "call ref") => `(tactic| (k_here; focus (k_dflt (refine' word_fU ?S _ _ _ ?hw ?_; (case S => walk_at "mine site"); (case hw => k_asm); walk_at "mine after"))))
local macro_rules | `(tactic| walk_at "call ref") => `(tactic| (k_here; focus (k_dflt (refine' word_tnU ?_ _ _ ?_ ?_; rotate_left 11; walk_at "mine site"; k_asm; walk_at "mine after"))))
local macro_rules | `(tactic| walk_at "call ref") => `(tactic| (k_here; focus (k_dflt (refine' word_fnU ?_ _ _ ?_ ?_; rotate_left 11; walk_at "mine site"; k_asm; walk_at "mine after"))))
local macro_rules | `(tactic| walk_at "call ref") => `(tactic| (k_here; focus (k_dflt (refine' mnum_tV ?S _ _ _ ?hw ?_; (case S => walk_at "mine site"); (case hw => k_asm); walk_at "mine afterV"))))
local macro_rules | `(tactic| walk_at "call ref") => `(tactic| (k_here; focus (k_dflt (refine' mnum_fV ?S _ _ _ ?hw ?_; (case S => walk_at "mine site"); (case hw => k_asm); walk_at "mine afterV"))))
local macro_rules | `(tactic| walk_at "call ref") => `(tactic| (k_here; focus (k_dflt (refine' mnum_8U ?_ _ ?_; rotate_left 11; walk_at "mine site"; walk_at "mine after"))))
local macro_rules | `(tactic| walk_at "call ref") => `(tactic| (k_here; focus (k_dflt (refine' reportU ?_ ?_ ?_ ?_ ?_ ?_ _ _ _ ?_; rotate_left 21; walk_at "mine site"; k_asm; k_asm; k_ne; k_ne; k_ne; walk_at "mine after"))))
local macro_rules | `(tactic| walk_at "call type:list") => `(tactic| (k_here; k_dflt (refine' list_led ?_ ?_ ?_ ?_ ?_; rotate_left 6; k_asm; k_asm; k_mem; (first | exact on_len (by k_asm) (by k_asm) (by k_asm) | assumption | omega); walk_at "mine lt")))
set_option maxHeartbeats 8000000 in
theorem told_spec {w : World} {pgm : Program} {loo : List Str} {mean : ExcName → Option Value} {mg mb : Str → Option Value} {d l : Addr} {oD oL : Obj} {M dM S Kp W O Q : Addr} {h1 h2 : Int} {t1 t2 : Tok} {n : Nat} {oS oW : Obj} {D K : BD} {vs : List Value} {c : Nat} {ss : List Str}
    (hD : DeckIs w d l oD oL) (hS : BoolDict w oS D) (hW : WObj w oW O Q) (hO : StrsAre vs ss) (hI : Inv D ss K) (loS : (S == sysModules) = false) (loW : (W == sysModules) = false)
    (n1 : AP1 l [d]) (n2 : AP1 M [d, l]) (n3 : AP1 dM [d, l, M]) (n4 : AP1 S [d, l, M, dM]) (n6 : AP1 W [d, l, M, dM, S]) (n8 : AP1 O [d, l, M, dM, S, W]) :
    Spec w pgm loo mean mg mb (.ref 286) 800 8300 [.ref d, .ref M, .ref W] [(d, oD), (l, oL), (M, instObj 86 dM), (dM, modesD h1 t1 S h2 t2 Kp n), (S, oS), (W, oW), (O, PySem.W.listOf vs.toArray c)]
      (fun r foot' => ∃ oD' oL', r = .bool true ∧ foot' = [(d, oD'), (l, oL'), (M, instObj 86 dM), (dM, modesD h1 t1 S h2 t2 Kp n), (S, oS), (W, oW), (O, PySem.W.listOf vs.toArray c)] ∧ DeckIs w d l oD' oL') := by
  have zD := hI.zD
  have zs := hI.zs
  have lv := strs_length hO
  have zv : vs.length ≤ 41 := by omega
  have lo0 : (d == sysModules) = false := by
    obtain ⟨vs, c, left, mx, tm, rfl, hd', hI', hb, hn, hx0, hx1, lo', hne⟩ := hD
    exact lo'
  (k_dflt (refine' spec_ofC (binds := [(Str.ofString "deck", .ref d), (Str.ofString "modes", .ref M), (Str.ofString "w", .ref W)]) ?k6 ?k7 ?k8 ?k9 ?kB ?kD ?_ ?c2 ?c3 ?c4; (case k6 => k_is); (case k7 => k_is); (case k8 => decide); (case k9 => exact fun s X => BindsTo.of_eq rfl); (case kB => exact rfl); (case kD => decide +kernel); (case c2 => exact rfl); (case c3 => exact rfl); (case c4 => exact rfl); k_whole); intro ev A₀ base g' L' h₁ s tk₁ cells' hdp hun B' F' N' Y' X' T' hlt QL hL; (obtain ⟨cellA, cellB⟩ := cells_ap hlt; dsimp only [List.map] at cellA cellB); (replace hlt := allLt_of hlt; simp only [AllLt, and_true] at hlt); k_cells Y'; (try simp only [List.cons_append, List.nil_append] at N'); (try dsimp only))
  have pv := priv_at (w := w) X'
  have pl := plain_at (w := w) X'
  k_steps
  all_goals (try dsimp only)
  rename_i oC dC h9 tk9 l9 vs9 c9 ss9 hv9 hp9 hs9 a9 D9 c8 h8 a8 B9 vs7 ss7 c7 h7 F7 N7 hv7 hp7 hs7 a7
  unfold Stop
  have he := told_eq hI hp9 hs9 hp7 hs7
  rw [← he] at hv7
  refine ne_strs_same N7 (by k_mem) (by k_mem) hv9 hv7 (by rw [he]; exact fun x hx => hI.ssK x (hp7.mem_iff.mp hx)) (by ((show _ < 9900); (try dsimp only [kt, ktC, ktrTop]); omega)) ?_
  replace N7 := news_sub (b := [(L' + 1, oC), (d, oD), (l, oL), (M, instObj 86 dM), (dM, modesD h1 t1 S h2 t2 Kp n), (S, oS), (W, oW), (O, PySem.W.listOf vs.toArray c)]) N7 (by (repeat (first | exact sub_nil | (refine' sub_cons ?sa ?_; (case sa => k_mem)))))
  clear a9 a8 a7 hv7 hv9 he hp9 hs9 hp7 hs7
  k_steps
  all_goals (try dsimp only)
  rename_i h8' tk8' t8 h9' tk9' t9 TL h6' a6 h6 F6 N6
  unfold Stop
  refine LCg.CompSrc.base rfl F6 N6 (groups_list X') (by rw [sizeLine_eq]; decide) ?_
  intro g5
  refine rel_rest (fun i ys nw => nw = [(TL, _), (M, instObj 86 dM), (dM, modesD h1 t1 S h2 t2 Kp n), (S, oS), (L' + 1, oC), (d, oD), (l, oL), (W, oW), (O, PySem.W.listOf vs.toArray c)] ∧ OptVs ys ((lawGroups.take i).map fun g => g.find? (onB D))) ⟨rfl, .nil⟩ ?_ ?_
  · rintro i v I oI C oC' Dl m₂ ys nw h tk E' hi hv hC hx ⟨rfl, hys⟩ F1 N1 off ne
    clear F6 N6
    obtain ⟨ga, g, gvs, rfl, hgl, hgs, hgi, hg4⟩ := groups_itemL X' (by simpa using hv)
    obtain ⟨ap1, ap2, ap3⟩ := off3_ap off ne
    dsimp only [List.map] at ap1 ap2 ap3
    k_steps
    all_goals (try dsimp only)
    unfold Stop
    refine LCt.CompSrcT.base rfl F1 N1 hgl (by rw [List.size_toArray, strs_length hgs, sizeLine_eq]; omega) ?_
    intro g6
    refine fm_rest (pickS (fun x => decide (x ∈ ss)) gvs g) ?_ ?_
    · intro i2 v2 I2 oI2 C2 oC2 Dl2 m3 ys2 hh2 tk2 E2 hi2 hv2 hC2 hx2 F2 N2 off2 ne2
      clear F1 N1
      obtain ⟨y, t, hy, rfl⟩ := strs_at hgs i2 v2 (by simpa using hv2)
      obtain ⟨bp1, bp2, bp3⟩ := off3_ap off2 ne2
      dsimp only [List.map] at bp1 bp2 bp3
      k_steps
      all_goals (try dsimp only)
      · exact pickS_yes hy (by simpa using hv2) (by simp_all)
      · exact pickS_no hy (by simp_all)
    · have hl9 := List.length_filter_le (fun x => decide (x ∈ ss)) g
      have hf := filt_strs (p := fun x => decide (x ∈ ss)) hgs
      have hfo := find_on hI g
      rw [← List.size_toArray] at hf
      revert hf hfo hl9
      generalize (List.range gvs.toArray.size).filterMap (pickS (fun x => decide (x ∈ ss)) gvs g) = ys'
      generalize g.filter (fun x => decide (x ∈ ss)) = fs
      intro hl9 hf hfo
      cases hf with
      | nil =>
        k_steps
        all_goals (try dsimp only)
        (refine' LCg.CompEnd.intro ?eF1 ?eN1 _ ?es1 off (Or.inl (groups_list X')) ⟨rfl, ?eJ1⟩; (case eF1 => k_asm); (case eN1 => k_asm); (case es1 => exact (by (repeat (first | exact sub_nil | (refine' sub_cons ?sa ?_; (case sa => k_mem)))))); (case eJ1 => (have q := opt_snoc hys hgi default; rw [← hfo] at q; exact q)))
      | cons y t hr =>
        have hz := strs_length hr
        rw [List.length_cons] at hl9
        k_steps
        all_goals (try dsimp only)
        (refine' LCg.CompEnd.intro ?eF2 ?eN2 _ ?es2 off (Or.inl (groups_list X')) ⟨rfl, ?eJ2⟩; (case eF2 => k_asm); (case eN2 => k_asm); (case es2 => exact (by (repeat (first | exact sub_nil | (refine' sub_cons ?sa ?_; (case sa => k_mem)))))); (case eJ2 => (have q := opt_snoc hys hgi t; rw [← hfo] at q; exact q)))
  · rintro ys nw ⟨rfl, hys⟩
    obtain ⟨u8, u9, rfl⟩ := OptVs.two (x := mouseModes.find? (onB D)) (y := mouseEncs.find? (onB D)) hys
    unfold LCg.FinE
    intro D7 h7 tk7 F7 N7 o7
    replace o7 := AP1.ofOff1 o7
    dsimp only [List.map] at o7
    clear F6 N6
    k_steps
    all_goals (try dsimp only)
    unfold Stop
    refine ne_two N7 (by k_mem) (.head _) (find_known modes_known) (find_known encs_known) (by ((show _ < 9900); (try dsimp only [kt, ktC, ktrTop]); omega)) ?_
    replace N7 := news_sub (b := [(L' + 1, oC), (d, oD), (l, oL), (M, instObj 86 dM), (dM, modesD h1 t1 S h2 t2 Kp n), (S, oS), (W, oW), (O, PySem.W.listOf vs.toArray c)]) N7 (by (repeat (first | exact sub_nil | (refine' sub_cons ?sa ?_; (case sa => k_mem)))))
    clear o7 a6
    k_steps
    all_goals (try dsimp only)
    rename_i hx8 tk8x F8 oD8 oL8 i8 ti8 hD8 hi8 hj8 N8
    unfold Stop
    obtain rfl | rfl : i8 = 0 ∨ i8 = 1 := by omega
    · skip
      refine eq_intV (v := true) rfl ?_
      k_steps
      all_goals (try dsimp only)
      · rename List.lookup _ privTab = none => hn
        unfold Stop
        refine eq_intV (v := true) (by rw [rep0' hn]; rfl) ?_
        k_steps
        all_goals (try dsimp only)
        (refine' hL.leave (foot' := [(d, _), (l, _), (M, instObj 86 dM), (dM, modesD h1 t1 S h2 t2 Kp n), (S, oS), (W, oW), (O, PySem.W.listOf vs.toArray c)]) ?lvF46 ?lvN46 ?lvs46 ?_; (case lvF46 => k_asm); (case lvN46 => k_asm); (case lvs46 => exact (by (repeat (first | exact sub_nil | (refine' sub_cons ?sa ?_; (case sa => k_mem)))))))
        exact ⟨_, _, rfl, rfl, by assumption⟩
      · exact (bne_same (by assumption)).elim
      · unfold Stop
        rename List.lookup _ privTab = some _ => hs
        refine ne_numTup (by k_asm) (.tail _ (.head _)) (.head _) (by ((show _ < 9900); (try dsimp only [kt, ktC, ktrTop]); omega)) ?_
        k_steps
        all_goals (try dsimp only)
        · rename _ ∈ ss => hin
          unfold Stop
          refine eq_intV (v := true) (by rw [rep1 hs (on_of hI (decide_eq_true hin))]; rfl) ?_
          k_steps
          all_goals (try dsimp only)
          (refine' hL.leave (foot' := [(d, _), (l, _), (M, instObj 86 dM), (dM, modesD h1 t1 S h2 t2 Kp n), (S, oS), (W, oW), (O, PySem.W.listOf vs.toArray c)]) ?lvF47 ?lvN47 ?lvs47 ?_; (case lvF47 => k_asm); (case lvN47 => k_asm); (case lvs47 => exact (by (repeat (first | exact sub_nil | (refine' sub_cons ?sa ?_; (case sa => k_mem)))))))
          exact ⟨_, _, rfl, rfl, by assumption⟩
        · rename ¬ _ ∈ ss => hin
          unfold Stop
          refine eq_intV (v := true) (by rw [rep2 hs (on_of hI (decide_eq_false hin))]; rfl) ?_
          k_steps
          all_goals (try dsimp only)
          (refine' hL.leave (foot' := [(d, _), (l, _), (M, instObj 86 dM), (dM, modesD h1 t1 S h2 t2 Kp n), (S, oS), (W, oW), (O, PySem.W.listOf vs.toArray c)]) ?lvF48 ?lvN48 ?lvs48 ?_; (case lvF48 => k_asm); (case lvN48 => k_asm); (case lvs48 => exact (by (repeat (first | exact sub_nil | (refine' sub_cons ?sa ?_; (case sa => k_mem)))))))
          exact ⟨_, _, rfl, rfl, by assumption⟩
    · skip
      refine eq_intV (v := false) rfl ?_
      k_steps
      all_goals (try dsimp only)
      · rename List.lookup _ plainTab = none => hn
        have hx := any_fixed (by assumption)
        unfold Stop
        refine eq_intV (v := true) (by rw [rep4 hn (of_decide_eq_true hx)]; rfl) ?_
        k_steps
        all_goals (try dsimp only)
        (refine' hL.leave (foot' := [(d, _), (l, _), (M, instObj 86 dM), (dM, modesD h1 t1 S h2 t2 Kp n), (S, oS), (W, oW), (O, PySem.W.listOf vs.toArray c)]) ?lvF49 ?lvN49 ?lvs49 ?_; (case lvF49 => k_asm); (case lvN49 => k_asm); (case lvs49 => exact (by (repeat (first | exact sub_nil | (refine' sub_cons ?sa ?_; (case sa => k_mem)))))))
        exact ⟨_, _, rfl, rfl, by assumption⟩
      · rename List.lookup _ plainTab = none => hn
        have hx := any_fixed (by assumption)
        unfold Stop
        refine eq_intV (v := true) (by rw [rep0 hn (of_decide_eq_false hx)]; rfl) ?_
        k_steps
        all_goals (try dsimp only)
        (refine' hL.leave (foot' := [(d, _), (l, _), (M, instObj 86 dM), (dM, modesD h1 t1 S h2 t2 Kp n), (S, oS), (W, oW), (O, PySem.W.listOf vs.toArray c)]) ?lvF50 ?lvN50 ?lvs50 ?_; (case lvF50 => k_asm); (case lvN50 => k_asm); (case lvs50 => exact (by (repeat (first | exact sub_nil | (refine' sub_cons ?sa ?_; (case sa => k_mem)))))))
        exact ⟨_, _, rfl, rfl, by assumption⟩
      · exact (bne_same (by assumption)).elim
      · unfold Stop
        rename List.lookup _ plainTab = some _ => hs
        refine ne_numTup (by k_asm) (.tail _ (.head _)) (.head _) (by ((show _ < 9900); (try dsimp only [kt, ktC, ktrTop]); omega)) ?_
        k_steps
        all_goals (try dsimp only)
        · rename _ ∈ ss => hin
          unfold Stop
          refine eq_intV (v := true) (by rw [rep1 hs (on_of hI (decide_eq_true hin))]; rfl) ?_
          k_steps
          all_goals (try dsimp only)
          (refine' hL.leave (foot' := [(d, _), (l, _), (M, instObj 86 dM), (dM, modesD h1 t1 S h2 t2 Kp n), (S, oS), (W, oW), (O, PySem.W.listOf vs.toArray c)]) ?lvF51 ?lvN51 ?lvs51 ?_; (case lvF51 => k_asm); (case lvN51 => k_asm); (case lvs51 => exact (by (repeat (first | exact sub_nil | (refine' sub_cons ?sa ?_; (case sa => k_mem)))))))
          exact ⟨_, _, rfl, rfl, by assumption⟩
        · rename ¬ _ ∈ ss => hin
          unfold Stop
          refine eq_intV (v := true) (by rw [rep2 hs (on_of hI (decide_eq_false hin))]; rfl) ?_
          k_steps
          all_goals (try dsimp only)
          (refine' hL.leave (foot' := [(d, _), (l, _), (M, instObj 86 dM), (dM, modesD h1 t1 S h2 t2 Kp n), (S, oS), (W, oW), (O, PySem.W.listOf vs.toArray c)]) ?lvF52 ?lvN52 ?lvs52 ?_; (case lvF52 => k_asm); (case lvN52 => k_asm); (case lvs52 => exact (by (repeat (first | exact sub_nil | (refine' sub_cons ?sa ?_; (case sa => k_mem)))))))
          exact ⟨_, _, rfl, rfl, by assumption⟩
theorem toldU {w : World} {pgm : Program} {loo : List Str} {mean : ExcName → Option Value} {mg mb : Str → Option Value} {d l : Addr} {oD oL : Obj} {M dM S Kp W O Q : Addr} {h1 h2 : Int} {t1 t2 : Tok} {n : Nat} {oS oW : Obj} {D K : BD} {vs : List Value} {c : Nat} {ss : List Str} {dp un : Nat} {gd : Option (List Code)} {cn : Str} {cs : Scope} {za : Addr} {ccd : Value} {cl : List (Str × Addr)} {outer : List Env} {A₀ : Around} {base h₀ : Heap} {zL : Addr} {zm : Str → Option Value} {zn zr : Led} {zs : Shared} {zQ zE : Value → Shared → Prop} (zS : Site w pgm loo mean mg mb 800 8300 dp un cs outer A₀ base h₀ zL zs.heap zm zn ∧ Picks [(d, oD), (l, oL), (M, instObj 86 dM), (dM, modesD h1 t1 S h2 t2 Kp n), (S, oS), (W, oW), (O, PySem.W.listOf vs.toArray c)] zn zr ∧ Apart [(d, oD), (l, oL), (M, instObj 86 dM), (dM, modesD h1 t1 S h2 t2 Kp n), (S, oS), (W, oW), (O, PySem.W.listOf vs.toArray c)] zr) (hD : DeckIs w d l oD oL) (hS : BoolDict w oS D) (hW : WObj w oW O Q) (hO : StrsAre vs ss) (hI : Inv D ss K) (loS : (S == sysModules) = false) (loW : (W == sysModules) = false) (n1 : AP1 l [d]) (n2 : AP1 M [d, l]) (n3 : AP1 dM [d, l, M]) (n4 : AP1 S [d, l, M, dM]) (n6 : AP1 W [d, l, M, dM, S]) (n8 : AP1 O [d, l, M, dM, S, W])
    (zh : ∀ h9 tk9, Fr h₀ zL h9 zm → ∀ oD' oL', DeckIs w d l oD' oL' → News h₀ zL h9 ((d, oD') :: (l, oL') :: (M, instObj 86 dM) :: (dM, modesD h1 t1 S h2 t2 Kp n) :: (S, oS) :: (W, oW) :: (O, PySem.W.listOf vs.toArray c) :: zr) → zQ (.bool true) { zs with heap := h9, toks := tk9 }) :
    wpAny (model PySem.Challenge.rw_og0244_01.row.prog w) (ktrTop dp un gd cn cs zL za ccd cl outer) (call (.ref 286) [.ref d, .ref M, .ref W]) zQ zE zs :=
  told_spec hD hS hW hO hI loS loW n1 n2 n3 n4 n6 n8 _ _ _ _ _ _ _ _ _ _ _ _ _ _ _ _ _ _ _ zS.1.B zS.1.F zS.1.X zS.1.T zS.1.k zS.1.d zS.1.u zS.1.N zS.2.1 zS.2.2 fun r foot h9 tk9 hp F9 N9 ap => by
    obtain ⟨oD', oL', rfl, rfl, y0⟩ := hp
    exact zh h9 tk9 F9 oD' oL' y0 N9
end
section
example : Zz 0 := by (try walk1); exact trivial
local macro_rules | `(tactic| k_lt $h) => `(tactic| f_shut $h)
local macro_rules | `(tactic| walk_at "CompSrc") => `(tactic| kl_no)
local macro_rules | `(tactic| walk_at "CompSrcT") => `(tactic| kl_no)
local macro_rules | `(tactic| walk_at "compareOp NotEq ref ref") => `(tactic| kl_no)
local macro_rules | `(tactic| walk_at "call type:list") => `(tactic| kl_no)
local macro_rules | `(tactic| walk_at "call ref") => `(tactic| (k_here; focus (k_dflt (refine' copy_apU ?_ ?_ ?_ ?_ ?_ ?_ ?_ ?_ ?_ ?_ ?_ ?_ ?_ ?_; rotate_left 23; walk_at "mine site"; k_asm; k_asm; k_ne; k_ne; k_ne; k_asm; k_asm; k_ne; k_ne; k_ne; omega; omega; walk_at "mine afterQ"))))
local macro_rules | `(tactic| walk_at "call ref") => `(tactic| (k_here; focus (k_dflt (refine' same_fU ?_ ?_ ?_ ?_ ?_ ?_ ?_ ?_ ?_ ?_ ?_ ?_ ?_ ?_; rotate_left 32; walk_at "mine site"; (apply paste_ne; k_asm); k_asm; k_asm; k_asm; k_asm; rotate_left 5; omega; (exact Nat.le_trans (setStates_le _ _ _) (by omega)); rotate_right 5; walk_at "mine kap"; walk_at "mine kap"; walk_at "mine kap"; walk_at "mine kap"; walk_at "mine kap"; walk_at "mine after"))))
local macro_rules | `(tactic| walk_at "call ref") => `(tactic| (k_here; focus (k_dflt (refine' same_tU ?_ ?_ ?_ ?_ ?_ ?_ ?_ ?_ ?_ ?_ ?_ ?_; rotate_left 30; walk_at "mine site"; k_asm; k_asm; k_asm; k_asm; walk_at "mine kap"; walk_at "mine kap"; walk_at "mine kap"; walk_at "mine kap"; walk_at "mine kap"; omega; walk_at "mine after"))))
local macro_rules | `(tactic| walk_at "compareOp Eq ref ref") => `(tactic| kl_no)
set_option maxHeartbeats 8000000 in
theorem copied_spec {w : World} {pgm : Program} {loo : List Str} {mean : ExcName → Option Value} {mg mb : Str → Option Value} {M dM S Kp W O Q : Addr} {h1 h2 : Int} {t1 t2 : Tok} {n : Nat} {oS oK oW : Obj} {D K : BD} {vs : List Value} {c : Nat} {ss : List Str}
    (hS : BoolDict w oS D) (hK : BoolDict w oK K) (hW : WObj w oW O Q) (hO : StrsAre vs ss) (hI : Inv D ss K) (loS : (S == sysModules) = false) (loK : (Kp == sysModules) = false) (loW : (W == sysModules) = false)
    (n3 : AP1 dM [M]) (n4 : AP1 S [M, dM]) (n5 : AP1 Kp [M, dM, S]) (n6 : AP1 W [M, dM, S, Kp]) (n8 : AP1 O [M, dM, S, Kp, W]) :
    Spec w pgm loo mean mg mb (.ref 293) 800 8300 [.ref M, .ref W] [(M, instObj 86 dM), (dM, modesD h1 t1 S h2 t2 Kp n), (S, oS), (Kp, oK), (W, oW), (O, PySem.W.listOf vs.toArray c)]
      (fun r foot' => r = .bool true ∧ foot' = [(M, instObj 86 dM), (dM, modesD h1 t1 S h2 t2 Kp n), (S, oS), (Kp, oK), (W, oW), (O, PySem.W.listOf vs.toArray c)]) := by
  have zD := hI.zD
  have zK := hI.zK
  have zs := hI.zs
  have lv := strs_length hO
  have zv : vs.length ≤ 41 := by omega
  (k_dflt (refine' spec_of (binds := [(Str.ofString "modes", .ref M), (Str.ofString "w", .ref W)]) ?k6 ?k7 ?k8 ?k9 ?kB ?_ ?c2 ?c3 ?c4 ?c5; (case k6 => k_is); (case k7 => k_is); (case k8 => decide); (case k9 => exact fun s X => BindsTo.of_eq rfl); (case c5 => decide); (case kB => exact locs rfl); (case c2 => exact rfl); (case c3 => exact rfl); (case c4 => exact rfl); k_whole); intro ev A₀ base g' L' h₁ s tk₁ hdp hun B' F' N' X' T' hlt QL hL; k_lt hlt; (replace F' := binds_fr F'); (try dsimp only [BindsMap] at F'))
  have pv := priv_at (w := w) X'
  k_steps
  all_goals (try dsimp only)
  rename_i M9 dM9 S9 Kp9 h19 t19 h29 t29 n9 oS9 oK9 hS9 hK9 lo9 lk9 q1 q2 q3 q4 zq1 ze1 B9 vs9 ns9 c9 hb1 tb1 hI9 hp9 ho9 aB DT hb2 aD hb3 hb4 hb5 hb6 tb6 zq2 ze2 hb7 tb7 F6 Fd vs6 c6 ts6 hP6 hO6 N6
  unfold Stop
  have z9 := priv_len hp9
  have z6 : vs6.length ≤ 1000 := by
    rw [hP6.length]
    have := List.length_filterMap_le (savedOne K) ns9
    omega
  replace N6 := news_sub (b := (Fd, PySem.W.listOf vs6.toArray c6) :: ([(M9, instObj 86 dM9), (dM9, modesD h19 t19 S9 h29 t29 Kp9 n9), (S9, oS9), (Kp9, oK9), (B9, PySem.W.listOf vs9.toArray c9), (M, instObj 86 dM), (dM, modesD h1 t1 S h2 t2 Kp n), (S, oS), (Kp, oK), (W, oW), (O, PySem.W.listOf vs.toArray c)] ++ ts6)) N6 (List.forall_mem_cons.mpr ⟨by k_mem, List.forall_mem_append.mpr ⟨(by (repeat (first | exact sub_nil | (refine' sub_cons ?sa ?_; (case sa => k_mem))))), (fun p hp => by repeat (first | exact hp | exact List.mem_append_right _ hp | exact List.mem_append_left _ hp | refine List.mem_cons_of_mem _ ?_))⟩⟩)
  refine list_led F6 N6 (.head _) z6 ?_
  intro D1 c1 h8 F8 N8 l8
  replace l8 := AP1.ofLt l8
  simp only [List.cons_append, List.nil_append, List.map_cons] at l8
  replace l8 := AP1.sub (cs := [M9, dM9, S9, Kp9, B9, M, dM, S, Kp, W, O]) l8 (by (repeat (first | exact sub_nil | (refine' sub_cons ?sa ?_; (case sa => k_mem)))))
  clear F6 N6 aD
  replace N8 := news_sub (b := (D1, PySem.W.listOf vs6.toArray c1) :: ([(M9, instObj 86 dM9), (dM9, modesD h19 t19 S9 h29 t29 Kp9 n9), (S9, oS9), (Kp9, oK9), (B9, PySem.W.listOf vs9.toArray c9), (M, instObj 86 dM), (dM, modesD h1 t1 S h2 t2 Kp n), (S, oS), (Kp, oK), (W, oW), (O, PySem.W.listOf vs.toArray c)] ++ ts6)) N8 (List.forall_mem_cons.mpr ⟨by k_mem, (fun p hp => by repeat (first | exact hp | exact List.mem_append_right _ hp | exact List.mem_append_left _ hp | refine List.mem_cons_of_mem _ ?_))⟩)
  have o1 : OffAll M ts6 := off_pairs N8 (by k_mem) inst_cls_ne hP6 (fun p hp => by repeat (first | exact hp | exact List.mem_append_right _ hp | exact List.mem_append_left _ hp | refine List.mem_cons_of_mem _ ?_))
  have o2 : OffAll dM ts6 := off_pairs N8 (by k_mem) modes_cls_ne hP6 (fun p hp => by repeat (first | exact hp | exact List.mem_append_right _ hp | exact List.mem_append_left _ hp | refine List.mem_cons_of_mem _ ?_))
  have o3 : OffAll Kp ts6 := off_pairs N8 (by k_mem) (dict_cls_ne hK) hP6 (fun p hp => by repeat (first | exact hp | exact List.mem_append_right _ hp | exact List.mem_append_left _ hp | refine List.mem_cons_of_mem _ ?_))
  have o4 : OffAll B9 ts6 := off_pairs N8 (by k_mem) list_cls_ne hP6 (fun p hp => by repeat (first | exact hp | exact List.mem_append_right _ hp | exact List.mem_append_left _ hp | refine List.mem_cons_of_mem _ ?_))
  simp only [List.cons_append, List.nil_append] at N8
  k_steps
  all_goals (try dsimp only)
  rename_i hc1 tc1 F7 Fe vs7 c7 ts7 hP7 hO7 N7
  unfold Stop
  have z7 : vs7.length ≤ 1000 := by
    rw [hP7.length]
    have := List.length_filterMap_le (savedOne K) ns9
    omega
  refine list_led F7 N7 (.head _) z7 ?_
  intro D2 c2 h5 F5 N5 l5
  clear l5 F7 N7
  k_steps
  all_goals (try dsimp only)
  unfold Stop
  refine ne_pairs N5 (by k_mem) (.head _) hP6 hP7 (fun p hp => by repeat (first | exact List.mem_append_left _ hp | refine List.mem_cons_of_mem _ ?_)) (fun p hp => by repeat (first | exact List.mem_append_right _ hp | refine List.mem_cons_of_mem _ ?_)) savedOne_known (by ((show _ < 9900); (try dsimp only [kt, ktC, ktrTop]); omega)) ?_
  replace N5 := news_sub (b := [(M9, instObj 86 dM9), (dM9, modesD h19 t19 S9 h29 t29 Kp9 n9), (S9, oS9), (M, instObj 86 dM), (dM, modesD h1 t1 S h2 t2 Kp n), (S, oS), (Kp, oK), (W, oW), (O, PySem.W.listOf vs.toArray c)]) N5 (by (repeat (first | exact sub_nil | (refine' sub_cons ?sa ?_; (case sa => k_mem)))))
  clear l8 o1 o2 o3 o4 hP6 hP7 hO6 hO7 z6 z7 aB
  k_steps
  all_goals (try dsimp only)
  rename_i hd1 td1 oS8 hS8 hd2 td2 hd3 td3 F4 l4 vs4 c4 ss4 hv4 hp4 hs4 N4 a4
  unfold Stop
  refine list_led F4 N4 (.head _) (on_len hv4 hp4 zD) ?_
  intro D3 c3 h3 F3 N3 l3
  clear l3 F4 N4
  k_steps
  all_goals (try dsimp only)
  rename_i B2 vs2 ss2 cc2 hh2 F2 N2 hv2 hp2 hs2 a2
  unfold Stop
  have he := told_eq hI hp4 hs4 hp2 hs2
  refine eq_strs (isList_led N2 (by k_mem)) (isList_led N2 (.head _)) hv4 hv2 (by ((show _ < 9900); (try dsimp only [kt, ktC, ktrTop]); omega)) ?_
  rw [he, decide_eq_true rfl]
  k_steps
  all_goals (try dsimp only)
  (refine' hL.leave (foot' := [(M, instObj 86 dM), (dM, modesD h1 t1 S h2 t2 Kp n), (S, oS), (Kp, oK), (W, oW), (O, PySem.W.listOf vs.toArray c)]) ?lvF53 ?lvN53 ?lvs53 ?_; (case lvF53 => k_asm); (case lvN53 => k_asm); (case lvs53 => exact (by (repeat (first | exact sub_nil | (refine' sub_cons ?sa ?_; (case sa => k_mem)))))))
  exact ⟨rfl, rfl⟩
theorem copiedU {w : World} {pgm : Program} {loo : List Str} {mean : ExcName → Option Value} {mg mb : Str → Option Value} {M dM S Kp W O Q : Addr} {h1 h2 : Int} {t1 t2 : Tok} {n : Nat} {oS oK oW : Obj} {D K : BD} {vs : List Value} {c : Nat} {ss : List Str} {dp un : Nat} {gd : Option (List Code)} {cn : Str} {cs : Scope} {za : Addr} {ccd : Value} {cl : List (Str × Addr)} {outer : List Env} {A₀ : Around} {base h₀ : Heap} {zL : Addr} {zm : Str → Option Value} {zn zr : Led} {zs : Shared} {zQ zE : Value → Shared → Prop} (zS : Site w pgm loo mean mg mb 800 8300 dp un cs outer A₀ base h₀ zL zs.heap zm zn ∧ Picks [(M, instObj 86 dM), (dM, modesD h1 t1 S h2 t2 Kp n), (S, oS), (Kp, oK), (W, oW), (O, PySem.W.listOf vs.toArray c)] zn zr ∧ Apart [(M, instObj 86 dM), (dM, modesD h1 t1 S h2 t2 Kp n), (S, oS), (Kp, oK), (W, oW), (O, PySem.W.listOf vs.toArray c)] zr) (hS : BoolDict w oS D) (hK : BoolDict w oK K) (hW : WObj w oW O Q) (hO : StrsAre vs ss) (hI : Inv D ss K) (loS : (S == sysModules) = false) (loK : (Kp == sysModules) = false) (loW : (W == sysModules) = false) (n3 : AP1 dM [M]) (n4 : AP1 S [M, dM]) (n5 : AP1 Kp [M, dM, S]) (n6 : AP1 W [M, dM, S, Kp]) (n8 : AP1 O [M, dM, S, Kp, W])
    (zh : ∀ h9 tk9, Fr h₀ zL h9 zm → News h₀ zL h9 ((M, instObj 86 dM) :: (dM, modesD h1 t1 S h2 t2 Kp n) :: (S, oS) :: (Kp, oK) :: (W, oW) :: (O, PySem.W.listOf vs.toArray c) :: zr) → zQ (.bool true) { zs with heap := h9, toks := tk9 }) :
    wpAny (model PySem.Challenge.rw_og0244_01.row.prog w) (ktrTop dp un gd cn cs zL za ccd cl outer) (call (.ref 293) [.ref M, .ref W]) zQ zE zs :=
  copied_spec hS hK hW hO hI loS loK loW n3 n4 n5 n6 n8 _ _ _ _ _ _ _ _ _ _ _ _ _ _ _ _ _ _ _ zS.1.B zS.1.F zS.1.X zS.1.T zS.1.k zS.1.d zS.1.u zS.1.N zS.2.1 zS.2.2 fun r foot h9 tk9 hp F9 N9 ap => by
    obtain ⟨rfl, rfl⟩ := hp
    exact zh h9 tk9 F9   N9
end
section
example : Zz 0 := by (try walk1); exact trivial
theorem shape3 {x a b c : Str} {va vb vc : Value} {v : Option Value} {m : Str → Option Value} (h1 : m a = some va) (h2 : m b = some vb) (h3 : m c = some vc) :
    (fun y => if y = x then v else m y) = fun y => if y = x then v else if y = a then some va else if y = b then some vb else if y = c then some vc else m y := by
  funext y
  by_cases q0 : y = x
  · simp [q0]
  · by_cases q1 : y = a
    · subst q1; simp [q0, h1]
    · by_cases q2 : y = b
      · subst q2; simp [q0, q1, h2]
      · by_cases q3 : y = c
        · subst q3; simp [q0, q1, q2, h3]
        · simp [q0, q1, q2, q3]
theorem shape3' {a b c : Str} {va vb vc : Value} {m : Str → Option Value} (h1 : m a = some va) (h2 : m b = some vb) (h3 : m c = some vc) :
    m = fun y => if y = a then some va else if y = b then some vb else if y = c then some vc else m y := by
  funext y
  by_cases q1 : y = a
  · subst q1; simp [h1]
  · by_cases q2 : y = b
    · subst q2; simp [q1, h2]
    · by_cases q3 : y = c
      · subst q3; simp [q1, q2, h3]
      · simp [q1, q2, q3]
def LJ (w : World) (d l M dM S Kp W Q : Addr) (h1 : Int) (t1 : Tok) (h2 : Int) (t2 : Tok) (n : Nat) (m : Str → Option Value) (nx : Led) : Prop :=
  ∀ R : Prop, (∀ (oD oL oS oK oW oQ : Obj) (O : Addr) (vs : List Value) (c : Nat) (D K : BD) (ss : List Str), 
    nx = [(d, oD), (l, oL), (M, instObj 86 dM), (dM, modesD h1 t1 S h2 t2 Kp n), (S, oS), (Kp, oK), (W, oW), (O, PySem.W.listOf vs.toArray c), (Q, oQ)] → m (Str.ofString "deck") = some (.ref d) → m (Str.ofString "modes") = some (.ref M) → m (Str.ofString "w") = some (.ref W) →
    DeckIs w d l oD oL → BoolDict w oS D → BoolDict w oK K → WObj w oW O Q → BoolDict w oQ K → StrsAre vs ss → Inv D ss K → AP1 O [d, l, M, dM, S, Kp, W, Q] → R) → R
theorem LJ.mk {w : World} {d l M dM S Kp W Q : Addr} {h1 : Int} {t1 : Tok} {h2 : Int} {t2 : Tok} {n : Nat} {m : Str → Option Value} {oD oL oS oK oW oQ : Obj} {O : Addr} {vs : List Value} {c : Nat} {D K : BD} {ss : List Str}
    (k1 : m (Str.ofString "deck") = some (.ref d)) (k2 : m (Str.ofString "modes") = some (.ref M)) (k3 : m (Str.ofString "w") = some (.ref W)) (a1 : DeckIs w d l oD oL) (a2 : BoolDict w oS D) (a3 : BoolDict w oK K) (a4 : WObj w oW O Q) (a5 : BoolDict w oQ K) (a6 : StrsAre vs ss) (a7 : Inv D ss K) (a8 : AP1 O [d, l, M, dM, S, Kp, W, Q]) :
    LJ w d l M dM S Kp W Q h1 t1 h2 t2 n m [(d, oD), (l, oL), (M, instObj 86 dM), (dM, modesD h1 t1 S h2 t2 Kp n), (S, oS), (Kp, oK), (W, oW), (O, PySem.W.listOf vs.toArray c), (Q, oQ)] :=
  fun _ k => k oD oL oS oK oW oQ O vs c D K ss rfl k1 k2 k3 a1 a2 a3 a4 a5 a6 a7 a8
theorem deedU {w : World} {pgm : Program} {loo : List Str} {mean : ExcName → Option Value} {mg mb : Str → Option Value} {d l : Addr} {oD oL : Obj} {M dM S Kp W O Q : Addr} {h1 h2 : Int} {t1 t2 : Tok} {n : Nat} {oS oK oW oQ : Obj} {D K : BD} {vs : List Value} {c : Nat} {ss : List Str} {dp un : Nat} {gd : Option (List Code)} {cn : Str} {cs : Scope} {za : Addr} {ccd : Value} {cl : List (Str × Addr)} {outer : List Env} {A₀ : Around} {base h₀ : Heap} {zL : Addr} {zm : Str → Option Value} {zn zr : Led} {zs : Shared} {zQ zE : Value → Shared → Prop} (zS : Site w pgm loo mean mg mb 800 8300 dp un cs outer A₀ base h₀ zL zs.heap zm zn ∧ Picks [(d, oD), (l, oL), (M, instObj 86 dM), (dM, modesD h1 t1 S h2 t2 Kp n), (S, oS), (Kp, oK), (W, oW), (O, PySem.W.listOf vs.toArray c), (Q, oQ)] zn zr ∧ Apart [(d, oD), (l, oL), (M, instObj 86 dM), (dM, modesD h1 t1 S h2 t2 Kp n), (S, oS), (Kp, oK), (W, oW), (O, PySem.W.listOf vs.toArray c), (Q, oQ)] zr) (hD : DeckIs w d l oD oL) (hS : BoolDict w oS D) (hK : BoolDict w oK K) (hW : WObj w oW O Q) (hQ : BoolDict w oQ K) (hO : StrsAre vs ss) (hI : Inv D ss K) (loS : (S == sysModules) = false) (loK : (Kp == sysModules) = false) (loW : (W == sysModules) = false) (loQ : (Q == sysModules) = false) (n1 : AP1 l [d]) (n2 : AP1 M [d, l]) (n3 : AP1 dM [d, l, M]) (n4 : AP1 S [d, l, M, dM]) (n5 : AP1 Kp [d, l, M, dM, S]) (n6 : AP1 W [d, l, M, dM, S, Kp]) (n7 : AP1 Q [d, l, M, dM, S, Kp, W]) (n8 : AP1 O [d, l, M, dM, S, Kp, W, Q])
    (zh : ∀ h9 tk9, Fr h₀ zL h9 zm → ∀ (oD oL oS oK oW oQ : Obj) (O : Addr) (vs : List Value) (c : Nat) (D K : BD) (ss : List Str), DeckIs w d l oD oL → BoolDict w oS D → BoolDict w oK K → WObj w oW O Q → BoolDict w oQ K → StrsAre vs ss → Inv D ss K → News h₀ zL h9 ((d, oD) :: (l, oL) :: (M, instObj 86 dM) :: (dM, modesD h1 t1 S h2 t2 Kp n) :: (S, oS) :: (Kp, oK) :: (W, oW) :: (O, PySem.W.listOf vs.toArray c) :: (Q, oQ) :: zr) → AP1 O ([d, l, M, dM, S, Kp, W, Q] ++ zr.map (·.1)) → zQ (.bool true) { zs with heap := h9, toks := tk9 }) :
    wpAny (model PySem.Challenge.rw_og0244_01.row.prog w) (ktrTop dp un gd cn cs zL za ccd cl outer) (call (.ref 281) [.ref d, .ref M, .ref W]) zQ zE zs :=
  deed_spec hD hS hK hW hQ hO hI loS loK loW loQ n1 n2 n3 n4 n5 n6 n7 n8 _ _ _ _ _ _ _ _ _ _ _ _ _ _ _ _ _ _ _ zS.1.B zS.1.F zS.1.X zS.1.T zS.1.k zS.1.d zS.1.u zS.1.N zS.2.1 zS.2.2 fun r foot h9 tk9 hp F9 N9 ap => by
    refine hp _ ?_; rintro oD oL oS oK oW oQ O vs c D K ss rfl rfl y0 y1 y2 y3 y4 y5 y6 y7
    exact zh h9 tk9 F9 oD oL oS oK oW oQ O vs c D K ss y0 y1 y2 y3 y4 y5 y6 N9 (AP1.app y7 (AP1.ofMem ap (by k_mem)))

example : Zz 0 := by (try walk1); exact trivial
section
local macro_rules | `(tactic| k_lt $h) => `(tactic| km_mul $h)
local macro_rules | `(tactic| walk_at "exec For Name Call cons nil") => `(tactic| walk_at "mine forR")
local macro_rules | `(tactic| walk_at "call type:range") => `(tactic| ((rename Fr _ _ _ _ => F'); (rename News _ _ _ _ => N'); (with_unfolding_all refine range1_rows F' N' ?_); intro _ _ _ _ _ _ _ _ _))
local macro_rules | `(tactic| walk_at "call ref") => `(tactic| (k_here; focus (k_dflt (refine' deedU ?_ ?_ ?_ ?_ ?_ ?_ ?_ ?_ ?_ ?_ ?_ ?_ ?_ ?_ ?_ ?_ ?_ ?_ ?_ ?_ ?_; rotate_left 33; rotate_left; k_asm; rotate_left 2; k_asm; rotate_right 3; walk_at "mine site"; k_asm; k_asm; k_asm; k_asm; k_asm; k_asm; k_asm; k_asm; k_asm; walk_at "mine kap"; walk_at "mine kap"; walk_at "mine kap"; walk_at "mine kap"; walk_at "mine kap"; walk_at "mine kap"; walk_at "mine kap"; walk_at "mine kap"; walk_at "mine afterQ"))))
local macro_rules | `(tactic| walk_at "call ref") => `(tactic| (k_here; focus (k_dflt (refine' toldU ?_ ?_ ?_ ?_ ?_ ?_ ?_ ?_ ?_ ?_ ?_ ?_ ?_ ?_ ?_; rotate_left 31; rotate_left; k_asm; rotate_left; k_asm; rotate_right 2; walk_at "mine site"; k_asm; k_asm; k_asm; k_asm; k_asm; walk_at "mine kap"; walk_at "mine kap"; walk_at "mine kap"; walk_at "mine kap"; walk_at "mine kap"; walk_at "mine kap"; walk_at "mine after"))))
local macro_rules | `(tactic| walk_at "call ref") => `(tactic| (k_here; focus (k_dflt (refine' copiedU ?_ ?_ ?_ ?_ ?_ ?_ ?_ ?_ ?_ ?_ ?_ ?_ ?_ ?_ ?_; rotate_left 29; rotate_left 3; k_asm; rotate_right 3; walk_at "mine site"; k_asm; k_asm; k_asm; k_asm; k_asm; k_asm; k_asm; walk_at "mine kap"; walk_at "mine kap"; walk_at "mine kap"; walk_at "mine kap"; walk_at "mine kap"; walk_at "mine after"))))
local macro_rules | `(tactic| walk_at "call ref") => `(tactic| (k_here; focus (k_dflt (refine' krunU ?_ ?_ ?_ ?_; rotate_left 14; rotate_left; k_asm; rotate_right; walk_at "mine site"; walk_at "mine kap"; walk_at "mine after"))))
set_option maxHeartbeats 8000000 in
theorem law_tail {w : World} {pgm : Program} {loo : List Str} {mean : ExcName → Option Value} {mg mb : Str → Option Value} {qual : Str} {params : Arguments} {body : List Stmt} {scope : Scope} {dV kV doc pm cdv ct oc : Value} {name : Str} {an od : Option Addr} {osl : Array (Option Value)}
    (ho : (pre.heap_1 w.params).lookup 314 = some ⟨oc, od, .func (fnOf name qual params body scope dV kV doc pm an cdv ct), osl⟩)
    {ev : EV} {A₀ : Around} {base h₀ : Heap} {L fa : Addr} {ccd : Value} {m : Str → Option Value} {s : Shared} {Qf : Flow → Shared → Prop}
    {d l M dM S Kp W O Q : Addr} {h1 h2 : Int} {t1 t2 : Tok} {n c : Nat} {oD oL oS oK oW oQ : Obj} {vs : List Value} {news : Led} {D K : BD} {ss : List Str}
    {tail : List Stmt} (htail : tail = body.drop 2) (hdp : ev.dp ≤ 700) (hun : ev.un ≤ 8000) (B' : Below A₀ base ev.outer h₀) (X' : (pre.heap_1 w.params).In h₀) (T' : Top pgm loo mean mg mb h₀)
    (F' : Fr h₀ L s.heap (fun y => if y = Str.ofString "w" then some (Value.ref W) else if y = Str.ofString "deck" then some (Value.ref d) else if y = Str.ofString "modes" then some (Value.ref M) else m y))
    (N' : News h₀ L s.heap news) (hs : ∀ p ∈ ([(d, oD), (l, oL), (M, instObj 86 dM), (dM, modesD h1 t1 S h2 t2 Kp n), (S, oS), (Kp, oK), (W, oW), (O, PySem.W.listOf vs.toArray c), (Q, oQ)] : Led), p ∈ news)
    (hD : DeckIs w d l oD oL) (hS : BoolDict w oS D) (hK : BoolDict w oK K) (hW : WObj w oW O Q) (hQ : BoolDict w oQ K) (hO : StrsAre vs ss) (hI : Inv D ss K)
    (loS : (S == sysModules) = false) (loK : (Kp == sysModules) = false) (loW : (W == sysModules) = false) (loQ : (Q == sysModules) = false)
    (n1 : AP1 l [d]) (n2 : AP1 M [d, l]) (n3 : AP1 dM [d, l, M]) (n4 : AP1 S [d, l, M, dM]) (n5 : AP1 Kp [d, l, M, dM, S]) (n6 : AP1 W [d, l, M, dM, S, Kp]) (n7 : AP1 Q [d, l, M, dM, S, Kp, W]) (n8 : AP1 O [d, l, M, dM, S, Kp, W, Q])
    (hfin : ∀ h' tk' m', Fr h₀ L h' m' → Qf (.ret (.bool true)) { s with heap := h', toks := tk' }) :
    wpAny (model PySem.Challenge.rw_og0244_01.row.prog w) (kt qual scope fa ccd ev L) (execs tail (ke qual scope fa ccd L)) Qf (fun _ _ => False) s := by
  refine' fn_cases ho ?k6 ?_
  (case k6 => k_is)
  rintro rfl rfl rfl rfl
  simp only [List.drop_succ_cons, List.drop_zero] at htail
  subst htail
  clear ho
  replace N' := news_sub N' hs
  clear hs
  k_steps
  all_goals (try dsimp only)
  rename IsRange _ _ _ _ _ _ _ _ => hrq
  rename Fr _ _ _ _ => Fq2
  rename News _ _ _ _ => Nq2
  rename DeckIs w d l _ _ => hD2
  unfold Stop
  refine range_loop (fun _ m nx => LJ w d l M dM S Kp W Q h1 t1 h2 t2 n m nx) rfl Fq2 Nq2 hrq (small_one (by decide) (by decide) (by omega) (by omega)) (by rw [rangeSize_nat]; simp) (LJ.mk rfl rfl rfl hD2 hS hK hW hQ hO hI n8) ?_ ?_
  · rintro i t m₁ nx h tk I oI hi hJ hoI F2 N2 QT hT
    clear hD2 hD hS hK hW hQ hO hI n8 Fq2 Nq2 hrq
    refine hJ _ ?_
    clear hJ
    rintro oD' oL' oS' oK' oW' oQ' O' vs' c' D' K' ss' rfl k1 k2 k3 hD hS hK hW hQ hO hI n8
    rw [shape3 k1 k2 k3] at F2
    have apI := OffAll.ap hoI
    simp only [List.cons_append, List.nil_append] at N2
    dsimp only [List.map] at apI
    k_steps
    all_goals (try dsimp only)
    refine hT _ _ ?_
    rename DeckIs w d l _ _ => hDz
    rename WObj w _ _ _ => hWz
    rename StrsAre _ _ => hOz
    rename Inv _ _ _ => hIz
    rename Fr _ _ _ _ => Fz
    rename News _ _ _ _ => Nz
    (refine' TurnEnd.intro' _ Fz Nz ?zn ?zI ?zo (LJ.mk rfl rfl rfl hDz ?zS ?zK hWz ?zQ hOz hIz ?zA); (case zn => exact (by (repeat (first | exact sub_nil | (refine' sub_cons ?sa ?_; (case sa => k_mem)))))); (case zS => assumption); (case zK => assumption); (case zQ => assumption); (case zI => k_mem); (case zA => walk_at "mine kap"); (case zo => k_all))
  · intro m₁ nx h tk hJ F2 N2
    refine hJ _ ?_
    clear hJ
    rintro oD' oL' oS' oK' oW' oQ' O' vs' c' D' K' ss' rfl k1 k2 k3 hD' hS' hK' hW' hQ' hO' hI' n8'
    clear hD2 hD hS hK hW hQ hO hI n8 Fq2 Nq2 hrq
    rw [shape3' k1 k2 k3] at F2
    k_steps
    all_goals (try dsimp only)
    exact hfin _ _ _ (by k_asm)
end
example : Zz 0 := by (try walk1); exact trivial
end
section
example : Zz 0 := by (try walk1); exact trivial
example : Zz 0 := by (try walk1); exact trivial
section
theorem top.tw10005945817407372193 : True := trivial
theorem top.tw10006222313960134694 : True := trivial
theorem top.tw10083753850511284816 : True := trivial
theorem top.tw10090393231696489298 : True := trivial
theorem top.tw10101883266178500549 : True := trivial
theorem top.tw10404823597219466188 : True := trivial
theorem top.tw10448899703829047738 : True := trivial
theorem top.tw1047907039808853306 : True := trivial
theorem top.tw10567129059001840431 : True := trivial
theorem top.tw10617020205504526918 : True := trivial
theorem top.tw10648311167861321448 : True := trivial
theorem top.tw10773188271377071773 : True := trivial
theorem top.tw1088946173253831356 : True := trivial
theorem top.tw10915162052029792233 : True := trivial
theorem top.tw10936122117785486979 : True := trivial
theorem top.tw10956490626425055710 : True := trivial
theorem top.tw10996937224433265937 : True := trivial
theorem top.tw11012874149002130535 : True := trivial
theorem top.tw11133666699803404755 : True := trivial
theorem top.tw11279390925490393535 : True := trivial
theorem top.tw11334415319851112604 : True := trivial
theorem top.tw1139600151236580504 : True := trivial
theorem top.tw11430207588045935325 : True := trivial
theorem top.tw11459358961799972967 : True := trivial
theorem top.tw11466170419677230873 : True := trivial
theorem top.tw1149218181149386328 : True := trivial
theorem top.tw11546936639936008217 : True := trivial
theorem top.tw11858546649754279707 : True := trivial
theorem top.tw11922380849998532372 : True := trivial
theorem top.tw1195175773429642966 : True := trivial
theorem top.tw12012865196380796599 : True := trivial
theorem top.tw12166907935582030026 : True := trivial
theorem top.tw12341760752628655687 : True := trivial
theorem top.tw12342655685612074800 : True := trivial
theorem top.tw12372526006091541652 : True := trivial
theorem top.tw12385144161495827662 : True := trivial
theorem top.tw12425085872883035938 : True := trivial
theorem top.tw1245559373397905713 : True := trivial
theorem top.tw12483720753089274532 : True := trivial
theorem top.tw12535971307161669396 : True := trivial
theorem top.tw12540527436937284434 : True := trivial
theorem top.tw12622177474791663080 : True := trivial
theorem top.tw12643491718579748851 : True := trivial
theorem top.tw1275901062530889299 : True := trivial
theorem top.tw12787338502077490372 : True := trivial
theorem top.tw12819366960792805191 : True := trivial
theorem top.tw13091174067606910046 : True := trivial
theorem top.tw13120753694373217308 : True := trivial
theorem top.tw13160728816969591200 : True := trivial
theorem top.tw13177472732611162249 : True := trivial
theorem top.tw13264354339760550358 : True := trivial
theorem top.tw13303987763403120937 : True := trivial
theorem top.tw13345470168829271861 : True := trivial
theorem top.tw13369591340354186047 : True := trivial
theorem top.tw13370750898655102155 : True := trivial
theorem top.tw13889309363888878346 : True := trivial
theorem top.tw13889484949932952446 : True := trivial
theorem top.tw13896958669275611876 : True := trivial
theorem top.tw14142502885225118848 : True := trivial
theorem top.tw14168018189251442112 : True := trivial
theorem top.tw14263998999751124003 : True := trivial
theorem top.tw14349089067433371257 : True := trivial
theorem top.tw14371913498598963198 : True := trivial
theorem top.tw14372152842798730730 : True := trivial
theorem top.tw14390669486469195807 : True := trivial
theorem top.tw14459580976405569124 : True := trivial
theorem top.tw14502225709538309166 : True := trivial
theorem top.tw14597223018079223185 : True := trivial
theorem top.tw14789260269991461300 : True := trivial
theorem top.tw14796646475526232899 : True := trivial
theorem top.tw14823308797102314842 : True := trivial
theorem top.tw14826035006057030972 : True := trivial
theorem top.tw14851680436948445374 : True := trivial
theorem top.tw14861896470697024400 : True := trivial
theorem top.tw14917401599646851644 : True := trivial
theorem top.tw1492452104121835379 : True := trivial
theorem top.tw14987219478266130788 : True := trivial
theorem top.tw15058813355848621054 : True := trivial
theorem top.tw15088979973893423861 : True := trivial
theorem top.tw1516213087968936877 : True := trivial
theorem top.tw15169761463676818070 : True := trivial
theorem top.tw15299407806266782574 : True := trivial
theorem top.tw15362295582089109014 : True := trivial
theorem top.tw15503665604740900718 : True := trivial
theorem top.tw15569959144833144457 : True := trivial
theorem top.tw15646934709686841381 : True := trivial
theorem top.tw1585457916280141200 : True := trivial
theorem top.tw15860264024139754761 : True := trivial
theorem top.tw15878805988109762761 : True := trivial
theorem top.tw15985961358823992270 : True := trivial
theorem top.tw16123964013534891561 : True := trivial
theorem top.tw1617357707322924660 : True := trivial
theorem top.tw16174758807025615021 : True := trivial
theorem top.tw16196420915677631385 : True := trivial
theorem top.tw16325430554902658873 : True := trivial
theorem top.tw16352630495959832749 : True := trivial
theorem top.tw16420938139371093754 : True := trivial
theorem top.tw16541100652227675460 : True := trivial
theorem top.tw16542028095416433903 : True := trivial
theorem top.tw16580785732701462914 : True := trivial
theorem top.tw16759092144687519636 : True := trivial
theorem top.tw1676862907878916244 : True := trivial
theorem top.tw16782997733028217545 : True := trivial
theorem top.tw16795567611416646642 : True := trivial
theorem top.tw16885616592811714743 : True := trivial
theorem top.tw16900427199656544559 : True := trivial
theorem top.tw17046948494117081484 : True := trivial
theorem top.tw17177869089781658578 : True := trivial
theorem top.tw17244936779566465919 : True := trivial
theorem top.tw17315540178315561739 : True := trivial
theorem top.tw1732150942055357024 : True := trivial
theorem top.tw17323899518341599180 : True := trivial
theorem top.tw1736530178072539846 : True := trivial
theorem top.tw17428532607074087071 : True := trivial
theorem top.tw17469865338272021226 : True := trivial
theorem top.tw17470836177267949868 : True := trivial
theorem top.tw17486766287000646611 : True := trivial
theorem top.tw17492772389151264855 : True := trivial
theorem top.tw17555251805378815213 : True := trivial
theorem top.tw17565814175750979855 : True := trivial
theorem top.tw17810072253543177317 : True := trivial
theorem top.tw17886615442053742456 : True := trivial
theorem top.tw1789128720303423218 : True := trivial
theorem top.tw17912322529849362164 : True := trivial
theorem top.tw18008055252877512497 : True := trivial
theorem top.tw18034075008235765660 : True := trivial
theorem top.tw18063644159110109576 : True := trivial
theorem top.tw18064794426631996164 : True := trivial
theorem top.tw18085771088847121727 : True := trivial
theorem top.tw18086089286151905521 : True := trivial
theorem top.tw1814787853859245837 : True := trivial
theorem top.tw18164388396756303480 : True := trivial
theorem top.tw18186074749648716422 : True := trivial
theorem top.tw18371284783138465269 : True := trivial
theorem top.tw1869187583165140508 : True := trivial
theorem top.tw1886144042066472794 : True := trivial
theorem top.tw2007660962349395123 : True := trivial
theorem top.tw2057334267981633021 : True := trivial
theorem top.tw2126296398998916975 : True := trivial
theorem top.tw2145171640123136144 : True := trivial
theorem top.tw216529984938456764 : True := trivial
theorem top.tw2176578945544250808 : True := trivial
theorem top.tw2218668502564051296 : True := trivial
theorem top.tw2287823674025257028 : True := trivial
theorem top.tw2369445192022557226 : True := trivial
theorem top.tw2443449257678562572 : True := trivial
theorem top.tw2462062305354472974 : True := trivial
theorem top.tw2464713573024523455 : True := trivial
theorem top.tw2514443458684651071 : True := trivial
theorem top.tw2555065506035805374 : True := trivial
theorem top.tw2581206410525282061 : True := trivial
theorem top.tw2617719716777270872 : True := trivial
theorem top.tw2731995056826638727 : True := trivial
theorem top.tw2732273902793177162 : True := trivial
theorem top.tw2741389259953327712 : True := trivial
theorem top.tw2782073688633401757 : True := trivial
theorem top.tw2812155379371279736 : True := trivial
theorem top.tw2835187731363253809 : True := trivial
theorem top.tw2867133514656366558 : True := trivial
theorem top.tw2924597203103170677 : True := trivial
theorem top.tw2961162367911888002 : True := trivial
theorem top.tw2988451766255067171 : True := trivial
theorem top.tw3195968871104189447 : True := trivial
theorem top.tw3337584539547039419 : True := trivial
theorem top.tw339143206060000330 : True := trivial
theorem top.tw3422688185749166683 : True := trivial
theorem top.tw342308947776675178 : True := trivial
theorem top.tw352232786441526191 : True := trivial
theorem top.tw370947364307004932 : True := trivial
theorem top.tw3730354652608582461 : True := trivial
theorem top.tw375884986413716345 : True := trivial
theorem top.tw3776753064480771068 : True := trivial
theorem top.tw3855276242980373810 : True := trivial
theorem top.tw390997316461189296 : True := trivial
theorem top.tw3969286963782609292 : True := trivial
theorem top.tw4047667213573674445 : True := trivial
theorem top.tw4159251561096739476 : True := trivial
theorem top.tw4166218997396506358 : True := trivial
theorem top.tw4186445540838780016 : True := trivial
theorem top.tw4205137553216949640 : True := trivial
theorem top.tw4213018616267185653 : True := trivial
theorem top.tw4299629679881509495 : True := trivial
theorem top.tw4321519831107876412 : True := trivial
theorem top.tw4498253355057717688 : True := trivial
theorem top.tw453181688931711583 : True := trivial
theorem top.tw4551080515912023512 : True := trivial
theorem top.tw4571971715460732019 : True := trivial
theorem top.tw4655869559712951663 : True := trivial
theorem top.tw4656485037274611717 : True := trivial
theorem top.tw5088376156974544275 : True := trivial
theorem top.tw5118827330378232414 : True := trivial
theorem top.tw5155950481276406077 : True := trivial
theorem top.tw517144808224063464 : True := trivial
theorem top.tw5186299589460371103 : True := trivial
theorem top.tw5225153198818245361 : True := trivial
theorem top.tw5225916559131626549 : True := trivial
theorem top.tw5244899138074338376 : True := trivial
theorem top.tw5278709424875269971 : True := trivial
theorem top.tw5303079699428457377 : True := trivial
theorem top.tw5476889619067714990 : True := trivial
theorem top.tw5523086135645875356 : True := trivial
theorem top.tw5581607755468803823 : True := trivial
theorem top.tw5597187220613765494 : True := trivial
theorem top.tw575894324575664597 : True := trivial
theorem top.tw5766051744304087583 : True := trivial
theorem top.tw5868845118606482295 : True := trivial
theorem top.tw5889316905344633881 : True := trivial
theorem top.tw6187478851450931391 : True := trivial
theorem top.tw620129878449983639 : True := trivial
theorem top.tw6333448901615975916 : True := trivial
theorem top.tw6370870915552960936 : True := trivial
theorem top.tw6438537300738474071 : True := trivial
theorem top.tw649594095290182367 : True := trivial
theorem top.tw6520327441239513222 : True := trivial
theorem top.tw6597163274070088661 : True := trivial
theorem top.tw6664487174759623829 : True := trivial
theorem top.tw6694047246710070196 : True := trivial
theorem top.tw6749217079512962374 : True := trivial
theorem top.tw6761616313442571491 : True := trivial
theorem top.tw6812286434817487243 : True := trivial
theorem top.tw6859976401760118174 : True := trivial
theorem top.tw6885214360128481674 : True := trivial
theorem top.tw6898770573198911631 : True := trivial
theorem top.tw6906291655842520137 : True := trivial
theorem top.tw6919701780365589675 : True := trivial
theorem top.tw7008692893051332821 : True := trivial
theorem top.tw705360758644809490 : True := trivial
theorem top.tw708234853630380328 : True := trivial
theorem top.tw72247145696351765 : True := trivial
theorem top.tw728428047077509346 : True := trivial
theorem top.tw7297446738713254254 : True := trivial
theorem top.tw7379094236791367513 : True := trivial
theorem top.tw7414872774492366064 : True := trivial
theorem top.tw7429413206186439793 : True := trivial
theorem top.tw7444641836354208208 : True := trivial
theorem top.tw7458633546980236471 : True := trivial
theorem top.tw7527032243904285869 : True := trivial
theorem top.tw7673058066778466091 : True := trivial
theorem top.tw7743179893348639699 : True := trivial
theorem top.tw775762912060472103 : True := trivial
theorem top.tw7830913209206220567 : True := trivial
theorem top.tw7847650389618582240 : True := trivial
theorem top.tw788273225186049534 : True := trivial
theorem top.tw795583310449317561 : True := trivial
theorem top.tw8107780213005350392 : True := trivial
theorem top.tw8139039716903228087 : True := trivial
theorem top.tw814325599930780420 : True := trivial
theorem top.tw8143265674769528471 : True := trivial
theorem top.tw81815255157605957 : True := trivial
theorem top.tw8184561461823581802 : True := trivial
theorem top.tw8204474986945543665 : True := trivial
theorem top.tw8321918168302905379 : True := trivial
theorem top.tw8345894832289464959 : True := trivial
theorem top.tw8363718466572441477 : True := trivial
theorem top.tw8410488445778877200 : True := trivial
theorem top.tw8435561252592420358 : True := trivial
theorem top.tw8507776931139520737 : True := trivial
theorem top.tw8523463495250067690 : True := trivial
theorem top.tw8538268897159353584 : True := trivial
theorem top.tw8598144960395782539 : True := trivial
theorem top.tw860223938195835975 : True := trivial
theorem top.tw8640399195822439974 : True := trivial
theorem top.tw8645369167282567922 : True := trivial
theorem top.tw864819663365544661 : True := trivial
theorem top.tw8679839319945467846 : True := trivial
theorem top.tw8689318265317240412 : True := trivial
theorem top.tw8694864300669457046 : True := trivial
theorem top.tw8735323631387419056 : True := trivial
theorem top.tw877433047237710547 : True := trivial
theorem top.tw8810280945414196856 : True := trivial
theorem top.tw8813761850579938390 : True := trivial
theorem top.tw887695700811335699 : True := trivial
theorem top.tw8892184565913893157 : True := trivial
theorem top.tw9059672392935016618 : True := trivial
theorem top.tw9059832203979395877 : True := trivial
theorem top.tw9063741608606530840 : True := trivial
theorem top.tw908825868028484722 : True := trivial
theorem top.tw9108098604805947806 : True := trivial
theorem top.tw9229161468869434483 : True := trivial
theorem top.tw9259421805112917234 : True := trivial
theorem top.tw9305691244287143441 : True := trivial
theorem top.tw9335426496214029073 : True := trivial
theorem top.tw9378254376102152143 : True := trivial
theorem top.tw9382581127745807760 : True := trivial
theorem top.tw9503340733035011235 : True := trivial
theorem top.tw956942650209027819 : True := trivial
theorem top.tw9601329371697537090 : True := trivial
theorem top.tw9759319705405543751 : True := trivial
theorem top.tw9768079942903668216 : True := trivial
theorem top.tw9800703332001039478 : True := trivial
theorem top.tw987869383939708018 : True := trivial
theorem top.tw9961057766049560675 : True := trivial

local macro_rules | `(tactic| k_lt $h) => `(tactic| km_mul $h)
local macro_rules | `(tactic| walk_at "exec For Name Call cons nil") => `(tactic| walk_at "mine forR")
local macro_rules | `(tactic| walk_at "exec For Name Name cons nil") => `(tactic| ((with_reducible refine' gFO ?_); walk_at "mine for"))
local macro_rules | `(tactic| walk_at "eval Dict nil nil") => `(tactic| ((with_reducible refine' sD ?_)))
local macro_rules | `(tactic| walk_at "execs cons") => `(tactic| ((with_reducible refine' sR ?_)))
set_option Elab.async true in
set_option maxHeartbeats 8000000 in
theorem top : PySem.Challenge.rw_og0244_01.Holds := by
  w_on
  o_law
  k_head
  (case hw => w_witness2)
  w_strict (k_go0; (all_goals try k_fold))
  rename Fr _ _ _ _ => F0
  rename Frag.In _ _ => KX
  have X' : (pre.heap_1 _).In _ := KX
  clear KX
  dsimp only [Top.heap] at *
  k_steps
  all_goals (try dsimp only)
  (k_dflt (refine' ForSrc.first ?fhh ?fX ?fF ?fN ?fD ?_ ?_; (case fhh => exact rfl); (case fX => k_asm); (case fF => k_asm); (case fN => k_asm); (case fD => assumption); k_whole))
  · intro y t D9 o9 h9 tk9 I9 oI9 hD9 hz9 ho9 F9 N9 QT hT
    have ap9 := OffAll.ap ho9
    simp only [List.cons_append, List.nil_append] at N9
    dsimp only [List.map] at ap9
    k_steps
    all_goals (try dsimp only)
    (k_dflt (refine' hT _ _ <| TurnEnd.base _ ?teF ?teN ?tes ?teI ?teo ?tem ⟨_, rfl, ?teD⟩; (case teF => k_asm); (case teN => k_asm); (case tes => exact (by (repeat (first | exact sub_nil | (refine' sub_cons ?sa ?_; (case sa => k_mem)))))); (case teI => k_mem); (case teo => k_all); (case tem => exact fun y hy => if_neg hy); (case teD => assumption)))
  · intro u o9 h9 tk9 hD9 F9 N9
    k_steps
    all_goals (try dsimp only)
    unfold Stop
    refine' newDict_K ?tk1 ?tk2 ?tk3 ?_
    case tk1 => k_asm
    case tk2 => k_asm
    case tk3 => exact TopRead.nolimit (by k_asm)
    intro Q0 hQ0 oQ0 FQ0 NQ0 lQ0 loQ0 hsQ0 fsQ0 hiQ0 fiQ0
    k_lt lQ0
    k_steps
    all_goals (try dsimp only)
    unfold Stop
    rename Obj.IsDictOf _ _ (strPairs [(Value.str (Str.ofString "left") _, _), _]) => hdk
    rename Obj.IsDictOf _ _ (strPairs [(Value.str (Str.ofString "on") _, _), _]) => hdw
    refine' wpAny_mono (law_tail (ev := ⟨302, 7, some [], []⟩) (K := []) (D := firstD) (ss := firstOn) ?tho ?thtail (by decide) (by decide) ?tB ?tX ?tT ?tF ?tN ?ths ?thD ?thS ?thK ?thW ?thQ ?thO first_inv ?tloS ?tloK ?tloW ?tloQ ?tn1 ?tn2 ?tn3 ?tn4 ?tn5 ?tn6 ?tn7 ?tn8 ?tfin) (fun _ _ h => h) (fun _ _ e => False.elim e)
    (case tho => k_is)
    (case thtail => rfl)
    (case tX => k_asm)
    (case tT => k_asm)
    (case tB => k_asm)
    (case tF => k_asm)
    (case tN => k_asm)
    (case thD => exact deck_made hdk (by k_asm) (by k_asm) (by k_ne))
    (case thW => exact hdw)
    (case ths => exact (by (repeat (first | exact sub_nil | (refine' sub_cons ?sa ?_; (case sa => k_mem))))))
    (case thS => exact hD9)
    (case thQ => exact hsQ0)
    (case thK => assumption)
    (case thO => exact first_strs _ _ _ _ _)
    (case tloS => assumption)
    (case tloK => assumption)
    (case tloW => assumption)
    (case tloQ => assumption)
    (case tn1 => walk_at "mine kap")
    (case tn2 => walk_at "mine kap")
    (case tn3 => walk_at "mine kap")
    (case tn4 => walk_at "mine kap")
    (case tn5 => walk_at "mine kap")
    (case tn6 => walk_at "mine kap")
    (case tn7 => walk_at "mine kap")
    (case tn8 => walk_at "mine kap")
    (case tfin => intro hz tz mz Fz; (try dsimp only); k_steps)
end
example : Zz 0 := by (try walk1); exact trivial
end
end Mine
theorem PySem.Challenge.cw_og0244_01_holds : PySem.Challenge.rw_og0244_01.Holds :=
  Mine.top
