import PyProof.Rows.All
import Wide.All
import OpenK.AllK
import Wide.FinOn
import PySem.Challenge.RW_retroact_k35_whole_sagas_settle_once
import HandS.ForMost
import HandS.Deep
import HandS.More
import HandS.Exc
import HandS.TryOnly
import HandS.ExcOwn
import HandS.WordsExc
import HandS.Small
import HandS.Defaults
import HandS.MakeKwOnly
import HandS.Property
import HandS.FStr
import HandS.Zip
import HandS.Conv
import HandS.TupAny
import HandS.Flow
import KE.DataFind
import KE.SortData
import KE.OsSortAny
import HandS.Codes
set_option Elab.async false
set_option linter.all false
set_option maxRecDepth 100000
namespace Sg
open PySem PySem.Spec PyProof.Rows L2
/-! ### the text -/
def topS (i : Nat) : Stmt := PySem.Challenge.pw_retroact_k35_whole_sagas_settle_once.main.body.getD i (.Pass ⟨0, 0, 0, 0⟩)
abbrev s_Outside_init : Stmt := inClass (topS 7) 0
abbrev n_Outside_init : List Str := ["self", "calls", "losses"]
theorem sc_Outside_init : FnScope n_Outside_init ["self", "calls", "losses"] (defScope s_Outside_init) := ⟨rfl, rfl, rfl, by decide +kernel, rfl, by decide +kernel, by decide +kernel⟩
abbrev s_Outside_send : Stmt := inClass (topS 7) 1
abbrev n_Outside_send : List Str := ["self", "number", "deed", "word"]
theorem sc_Outside_send : FnScope n_Outside_send ["self", "number", "deed"] (defScope s_Outside_send) := ⟨rfl, rfl, rfl, by decide +kernel, rfl, by decide +kernel, by decide +kernel⟩
abbrev s_Outside_in_force : Stmt := inClass (topS 7) 2
abbrev n_Outside_in_force : List Str := ["self"]
theorem sc_Outside_in_force : FnScope n_Outside_in_force ["self"] (defScope s_Outside_in_force) := ⟨rfl, rfl, rfl, by decide +kernel, rfl, by decide +kernel, by decide +kernel⟩
abbrev s_Outside_done : Stmt := inClass (topS 7) 3
abbrev n_Outside_done : List Str := ["self"]
theorem sc_Outside_done : FnScope n_Outside_done ["self"] (defScope s_Outside_done) := ⟨rfl, rfl, rfl, by decide +kernel, rfl, by decide +kernel, by decide +kernel⟩
abbrev s_Saga_init : Stmt := inClass (topS 8) 0
abbrev n_Saga_init : List Str := ["self", "there", "here", "deeds", "text", "deed", "calls", "lines", "number"]
theorem sc_Saga_init : FnScope n_Saga_init ["self", "there", "here", "deeds", "text"] (defScope s_Saga_init) := ⟨rfl, rfl, rfl, by decide +kernel, rfl, by decide +kernel, by decide +kernel⟩
abbrev s_Saga_step : Stmt := inClass (topS 8) 1
abbrev n_Saga_step : List Str := ["self", "outside", "number"]
theorem sc_Saga_step : FnScope n_Saga_step ["self", "outside"] (defScope s_Saga_step) := ⟨rfl, rfl, rfl, by decide +kernel, rfl, by decide +kernel, by decide +kernel⟩
abbrev s_Saga_text : Stmt := inClass (topS 8) 2
abbrev n_Saga_text : List Str := ["self", "number"]
theorem sc_Saga_text : FnScope n_Saga_text ["self"] (defScope s_Saga_text) := ⟨rfl, rfl, rfl, by decide +kernel, rfl, by decide +kernel, by decide +kernel⟩
abbrev s_Saga_is_over : Stmt := inClass (topS 8) 3
abbrev n_Saga_is_over : List Str := ["self"]
theorem sc_Saga_is_over : FnScope n_Saga_is_over ["self"] (defScope s_Saga_is_over) := ⟨rfl, rfl, rfl, by decide +kernel, rfl, by decide +kernel, by decide +kernel⟩
abbrev s_is_price : Stmt := topS 11
abbrev n_is_price : List Str := ["number"]
theorem sc_is_price : FnScope n_is_price ["number"] (defScope s_is_price) := ⟨rfl, rfl, rfl, by decide +kernel, rfl, by decide +kernel, by decide +kernel⟩
abbrev s_Prices_init : Stmt := inClass (topS 12) 0
abbrev n_Prices_init : List Str := ["self", "effects", "name", "undo", "do", "change", "number"]
theorem sc_Prices_init : FnScope n_Prices_init ["self", "effects"] (defScope s_Prices_init) := ⟨rfl, rfl, rfl, by decide +kernel, rfl, by decide +kernel, by decide +kernel⟩
abbrev s_prices_of : Stmt := topS 13
abbrev n_prices_of : List Str := ["prices", "call"]
theorem sc_prices_of : FnScope n_prices_of ["prices", "call"] (defScope s_prices_of) := ⟨rfl, rfl, rfl, by decide +kernel, rfl, by decide +kernel, by decide +kernel⟩
abbrev s_undo_cost : Stmt := topS 14
abbrev n_undo_cost : List Str := ["prices", "call"]
theorem sc_undo_cost : FnScope n_undo_cost ["prices", "call"] (defScope s_undo_cost) := ⟨rfl, rfl, rfl, by decide +kernel, rfl, by decide +kernel, by decide +kernel⟩
abbrev s_do_cost : Stmt := topS 15
abbrev n_do_cost : List Str := ["prices", "call"]
theorem sc_do_cost : FnScope n_do_cost ["prices", "call"] (defScope s_do_cost) := ⟨rfl, rfl, rfl, by decide +kernel, rfl, by decide +kernel, by decide +kernel⟩
abbrev s_change_cost : Stmt := topS 16
abbrev n_change_cost : List Str := ["prices", "first", "second", "change", "base", "each", "a", "b"]
theorem sc_change_cost : FnScope n_change_cost ["prices", "first", "second"] (defScope s_change_cost) := ⟨rfl, rfl, rfl, by decide +kernel, rfl, by decide +kernel, by decide +kernel⟩
abbrev s_Costs_init : Stmt := inClass (topS 19) 0
abbrev n_Costs_init : List Str := ["self", "there", "here", "prices", "call", "second", "first"]
theorem sc_Costs_init : FnScope n_Costs_init ["self", "there", "here", "prices"] (defScope s_Costs_init) := ⟨rfl, rfl, rfl, by decide +kernel, rfl, by decide +kernel, by decide +kernel⟩
abbrev s_square : Stmt := topS 20
abbrev n_square : List Str := ["costs", "big", "rows", "undo", "row", "change", "_"]
theorem sc_square : FnScope n_square ["costs"] (defScope s_square) := ⟨rfl, rfl, rfl, by decide +kernel, rfl, by decide +kernel, by decide +kernel⟩
abbrev s_Assignment_init : Stmt := inClass (topS 21) 0
abbrev n_Assignment_init : List Str := ["self", "rows"]
theorem sc_Assignment_init : FnScope n_Assignment_init ["self", "rows"] (defScope s_Assignment_init) := ⟨rfl, rfl, rfl, by decide +kernel, rfl, by decide +kernel, by decide +kernel⟩
abbrev s_Assignment_slack : Stmt := inClass (topS 21) 1
abbrev n_Assignment_slack : List Str := ["self", "row", "column"]
theorem sc_Assignment_slack : FnScope n_Assignment_slack ["self", "row", "column"] (defScope s_Assignment_slack) := ⟨rfl, rfl, rfl, by decide +kernel, rfl, by decide +kernel, by decide +kernel⟩
abbrev s_Assignment_add : Stmt := inClass (topS 21) 2
abbrev n_Assignment_add : List Str := ["self", "row", "rows", "columns", "before", "best", "column", "other", "slack"]
theorem sc_Assignment_add : FnScope n_Assignment_add ["self", "row"] (defScope s_Assignment_add) := ⟨rfl, rfl, rfl, by decide +kernel, rfl, by decide +kernel, by decide +kernel⟩
abbrev s_Assignment_shift : Stmt := inClass (topS 21) 3
abbrev n_Assignment_shift : List Str := ["self", "rows", "columns", "slack", "row", "column"]
theorem sc_Assignment_shift : FnScope n_Assignment_shift ["self", "rows", "columns", "slack"] (defScope s_Assignment_shift) := ⟨rfl, rfl, rfl, by decide +kernel, rfl, by decide +kernel, by decide +kernel⟩
abbrev s_Assignment_turn : Stmt := inClass (topS 21) 4
abbrev n_Assignment_turn : List Str := ["self", "column", "before", "row", "other"]
theorem sc_Assignment_turn : FnScope n_Assignment_turn ["self", "column", "before"] (defScope s_Assignment_turn) := ⟨rfl, rfl, rfl, by decide +kernel, rfl, by decide +kernel, by decide +kernel⟩
abbrev s_Assignment_column_of : Stmt := inClass (topS 21) 5
abbrev n_Assignment_column_of : List Str := ["self", "row", "column", "assigned"]
theorem sc_Assignment_column_of : FnScope n_Assignment_column_of ["self", "row"] (defScope s_Assignment_column_of) := ⟨rfl, rfl, rfl, by decide +kernel, rfl, by decide +kernel, by decide +kernel⟩
abbrev s_made_paper : Stmt := topS 22
abbrev n_made_paper : List Str := ["assignment", "there", "here", "lefts", "rights", "more", "left", "right"]
theorem sc_made_paper : FnScope n_made_paper ["assignment", "there", "here"] (defScope s_made_paper) := ⟨rfl, rfl, rfl, by decide +kernel, rfl, by decide +kernel, by decide +kernel⟩
abbrev s_plan : Stmt := topS 23
abbrev n_plan : List Str := ["there", "here", "prices", "costs", "assignment", "row", "deeds", "i", "column", "j"]
theorem sc_plan : FnScope n_plan ["there", "here", "prices"] (defScope s_plan) := ⟨rfl, rfl, rfl, by decide +kernel, rfl, by decide +kernel, by decide +kernel⟩
abbrev s_law_mix : Stmt := topS 25
abbrev n_law_mix : List Str := ["_law_number", "_law_k"]
theorem sc_law_mix : FnScope n_law_mix ["_law_number", "_law_k"] (defScope s_law_mix) := ⟨rfl, rfl, rfl, by decide +kernel, rfl, by decide +kernel, by decide +kernel⟩
abbrev s_law_numbers : Stmt := topS 26
abbrev n_law_numbers : List Str := ["_law_script", "_law_count", "_law_row", "_law_base", "_law_cell", "_law_rest", "_law_k"]
theorem sc_law_numbers : FnScope n_law_numbers ["_law_script", "_law_count"] (defScope s_law_numbers) := ⟨rfl, rfl, rfl, by decide +kernel, rfl, by decide +kernel, by decide +kernel⟩
abbrev s_law_take : Stmt := topS 27
abbrev n_law_take : List Str := ["_law_row", "_law_bound"]
theorem sc_law_take : FnScope n_law_take ["_law_row", "_law_bound"] (defScope s_law_take) := ⟨rfl, rfl, rfl, by decide +kernel, rfl, by decide +kernel, by decide +kernel⟩
abbrev s_law_call : Stmt := topS 28
abbrev n_law_call : List Str := ["_law_row", "_law_keys", "_law_key", "_law_effect"]
theorem sc_law_call : FnScope n_law_call ["_law_row", "_law_keys"] (defScope s_law_call) := ⟨rfl, rfl, rfl, by decide +kernel, rfl, by decide +kernel, by decide +kernel⟩
abbrev s_law_calls : Stmt := topS 29
abbrev n_law_calls : List Str := ["_law_row", "_law_most", "_law_calls_here", "_law_k", "_law_call_here"]
theorem sc_law_calls : FnScope n_law_calls ["_law_row", "_law_most"] (defScope s_law_calls) := ⟨rfl, rfl, rfl, by decide +kernel, rfl, by decide +kernel, by decide +kernel⟩
abbrev s_law_price : Stmt := topS 30
abbrev n_law_price : List Str := ["_law_row", "_law_change_here"]
theorem sc_law_price : FnScope n_law_price ["_law_row"] (defScope s_law_price) := ⟨rfl, rfl, rfl, by decide +kernel, rfl, by decide +kernel, by decide +kernel⟩
abbrev s_law_prices : Stmt := topS 31
abbrev n_law_prices : List Str := ["_law_row"]
theorem sc_law_prices : FnScope n_law_prices ["_law_row"] (defScope s_law_prices) := ⟨rfl, rfl, rfl, by decide +kernel, rfl, by decide +kernel, by decide +kernel⟩
abbrev s_law_losses : Stmt := topS 33
abbrev n_law_losses : List Str := ["_law_row", "_law_k"]
theorem sc_law_losses : FnScope n_law_losses ["_law_row"] (defScope s_law_losses) := ⟨rfl, rfl, rfl, by decide +kernel, rfl, by decide +kernel, by decide +kernel⟩
abbrev s_law_due : Stmt := topS 34
abbrev n_law_due : List Str := ["_law_model", "_law_losses_here", "_law_word"]
theorem sc_law_due : FnScope n_law_due ["_law_model", "_law_losses_here"] (defScope s_law_due) := ⟨rfl, rfl, rfl, by decide +kernel, rfl, by decide +kernel, by decide +kernel⟩
abbrev s_law_lines : Stmt := topS 35
abbrev n_law_lines : List Str := ["_law_count", "_law_k"]
theorem sc_law_lines : FnScope n_law_lines ["_law_count"] (defScope s_law_lines) := ⟨rfl, rfl, rfl, by decide +kernel, rfl, by decide +kernel, by decide +kernel⟩
abbrev s_law_refused : Stmt := topS 36
abbrev n_law_refused : List Str := ["_law_there", "_law_here", "_law_deeds", "_law_text"]
theorem sc_law_refused : FnScope n_law_refused ["_law_there", "_law_here", "_law_deeds", "_law_text"] (defScope s_law_refused) := ⟨rfl, rfl, rfl, by decide +kernel, rfl, by decide +kernel, by decide +kernel⟩
abbrev s_law_cut : Stmt := topS 37
abbrev n_law_cut : List Str := ["_law_row", "_law_saga", "_law_model", "_law_text", "_law_kept", "_law_char"]
theorem sc_law_cut : FnScope n_law_cut ["_law_row", "_law_saga", "_law_model"] (defScope s_law_cut) := ⟨rfl, rfl, rfl, by decide +kernel, rfl, by decide +kernel, by decide +kernel⟩
abbrev s_law : Stmt := topS 38
abbrev n_law : List Str := ["_law_script", "_law_row", "_law_there", "_law_here", "_law_call_here", "_law_deeds", "_law_stay", "_law_losses_here", "_law_outside", "_law_saga", "_law_model", "_law_turn"]
theorem sc_law : FnScope n_law ["_law_script"] (defScope s_law) := ⟨rfl, rfl, rfl, by decide +kernel, rfl, by decide +kernel, by decide +kernel⟩
end Sg
namespace Sg
open PySem PySem.Spec PyProof.Rows L2
/-! ### what the top has written -/
structure Df (K : PySem.W.Frag) (mg : Str → Option Value) (x : Str) (st : Stmt) (ps : List Str) where
  f : Addr
  fd : FuncData
  F : Fun K x x st f fd
  g : mg x = some (.ref f)
  b : Binds K fd ps []
structure Md (K : PySem.W.Frag) (C : Addr) (m qual : Str) (st : Stmt) (ps : List Str) where
  f : Addr
  fd : FuncData
  F : Fun K m qual st f fd
  m : Meth K C m f
  b : Binds K fd ps []
structure In0 (K : PySem.W.Frag) (C : Addr) (qual : Str) (st : Stmt) (ps : List Str) where
  f : Addr
  fd : FuncData
  F : Fun K "__init__" qual st f fd
  mK : Mk K C f
  b : Binds K fd ps []
/-- an __init__ with one keyword-only parameter d (default v) -/
structure In1 (K : PySem.W.Frag) (C : Addr) (qual : Str) (st : Stmt) (n : Nat) (ps : List Str) (d : Str) (v : V) where
  f : Addr
  fd : FuncData
  F : FunD K "__init__" qual (defArgs st) (defBody st) (defScope st) [] [(d, v)] f fd
  mK : Mk K C f
  b : ∃ ds, Vals [v] ds ∧ Binds K fd ps ds
  kb : KBn K fd ps (n + 1) [d] (fun us ws => us ++ ws) (fun vs zs => vs ++ zs)
structure Pr (K : PySem.W.Frag) (C : Addr) (m qual : Str) (st : Stmt) (ps : List Str) where
  p : Addr
  f : Addr
  fd : FuncData
  F : Fun K m qual st f fd
  m : PropOf K C m p f
  b : Binds K fd ps []
def mkDf {K : PySem.W.Frag} {h : Heap} {mg : Str → Option Value} {x : Str} {st : Stmt} {ps : List Str} (X : K.In h) (G : h.Ns mainGlobals mg) {f : Addr} {od an : Option Addr} {sl : Array (Option Value)} {oc kV dc pm cd ct : Value}
    (a : PySem.W.nsIn K mainGlobals x = some (some (.ref f))) (l : K.lookup f = some ⟨oc, od, .func (PySem.W.fnOf x x (defArgs st) (defBody st) (defScope st) .none kV dc pm an cd ct), sl⟩) (c : PySem.W.codeIn K cd x = true) (k : PySem.W.keepIn K (.ref f) = true)
    (h : ∀ (kV doc pm : Value) (an : Option Addr) (cdv ct : Value) (us : List Value), us.length = ps.length → bindArgs (PySem.W.fnOf x x (defArgs st) (defBody st) (defScope st) .none kV doc pm an cdv ct) ⟨us, []⟩ = pure (ps.zip us)) : Df K mg x st ps :=
  ⟨f, _, fun_mk (st := st) l c k, PySem.W.mg_of X G a, (fun_mk (st := st) l c k).binds h⟩
def mkMd {K : PySem.W.Frag} {C : Addr} {x q : Str} {st : Stmt} {ps : List Str} {f : Addr} {od an : Option Addr} {sl : Array (Option Value)} {oc kV dc pm cd ct : Value}
    (a : PySem.W.findIn K (.ref C) x = some (some (.ref f))) (i : PySem.W.isFn K (.ref f) = true) (l : K.lookup f = some ⟨oc, od, .func (PySem.W.fnOf x q (defArgs st) (defBody st) (defScope st) .none kV dc pm an cd ct), sl⟩) (c : PySem.W.codeIn K cd q = true) (k : PySem.W.keepIn K (.ref f) = true)
    (h : ∀ (kV doc pm : Value) (an : Option Addr) (cdv ct : Value) (us : List Value), us.length = ps.length → bindArgs (PySem.W.fnOf x q (defArgs st) (defBody st) (defScope st) .none kV doc pm an cdv ct) ⟨us, []⟩ = pure (ps.zip us)) : Md K C x q st ps :=
  ⟨f, _, fun_mk (st := st) l c k, ⟨a, i, k⟩, (fun_mk (st := st) l c k).binds h⟩
def mkIn0 {K : PySem.W.Frag} {C : Addr} {q : Str} {st : Stmt} {ps : List Str} {f : Addr} {od an : Option Addr} {sl : Array (Option Value)} {oc kV dc pm cd ct : Value}
    (a : PySem.W.findIn K (.ref C) "__init__" = some (some (.ref f))) (i : PySem.W.isFn K (.ref f) = true) (l : K.lookup f = some ⟨oc, od, .func (PySem.W.fnOf "__init__" q (defArgs st) (defBody st) (defScope st) .none kV dc pm an cd ct), sl⟩) (c : PySem.W.codeIn K cd q = true) (k : PySem.W.keepIn K (.ref f) = true)
    (mk : PySem.W.makesIn K C = true) (kc : PySem.W.keepIn K (.ref C) = true)
    (h : ∀ (kV doc pm : Value) (an : Option Addr) (cdv ct : Value) (us : List Value), us.length = ps.length → bindArgs (PySem.W.fnOf "__init__" q (defArgs st) (defBody st) (defScope st) .none kV doc pm an cdv ct) ⟨us, []⟩ = pure (ps.zip us)) : In0 K C q st ps :=
  ⟨f, _, fun_mk (st := st) l c k, ⟨mk, a, i, kc⟩, (fun_mk (st := st) l c k).binds h⟩
def mkIn1 {K : PySem.W.Frag} {C : Addr} {q : Str} {st : Stmt} {n : Nat} {ps : List Str} {d : Str} {v : V} {u : Value} {f D : Addr} {od an : Option Addr} {sl : Array (Option Value)} {oc dc pm cd ct : Value}
    (a : PySem.W.findIn K (.ref C) "__init__" = some (some (.ref f))) (i : PySem.W.isFn K (.ref f) = true) (l : K.lookup f = some ⟨oc, od, .func (PySem.W.fnOf "__init__" q (defArgs st) (defBody st) (defScope st) .none (.ref D) dc pm an cd ct), sl⟩) (c : PySem.W.codeIn K cd q = true) (k : PySem.W.keepIn K (.ref f) = true)
    (mk : PySem.W.makesIn K C = true) (kc : PySem.W.keepIn K (.ref C) = true) (kd : PySem.W.nsIn K D d = some (some u)) (rv : RelV v u) (hn : n + 2 = ps.length)
    (h1 : ∀ (D : Addr) (doc pm : Value) (an : Option Addr) (cdv ct : Value) (us ks : List Value), us.length = n + 1 → ks.length = 1 →
      KwChain D (([d] : List Str).zip ks) (bindArgs (PySem.W.fnOf "__init__" q (defArgs st) (defBody st) (defScope st) .none (.ref D) doc pm an cdv ct) ⟨us, []⟩) (ps.zip (us ++ ks)))
    (h2 : ∀ (D : Addr) (doc pm : Value) (an : Option Addr) (cdv ct : Value) (us ws : List Value), us.length = n + 1 → ws.length = 1 →
      bindArgs (PySem.W.fnOf "__init__" q (defArgs st) (defBody st) (defScope st) .none (.ref D) doc pm an cdv ct) ⟨us, ([d] : List Str).zip ws⟩ = pure (ps.zip (us ++ ws))) : In1 K C q st n ps d v := by
  have F : FunD K "__init__" q (defArgs st) (defBody st) (defScope st) [] [(d, v)] f (PySem.W.fnOf "__init__" q (defArgs st) (defBody st) (defScope st) .none (.ref D) dc pm an cd ct) :=
    ⟨⟨oc, od, .none, .ref D, dc, pm, an, cd, ct, sl, rfl, l, c, .inl ⟨rfl, rfl⟩, .inr ⟨D, rfl, fun r hr => by
      have e : r = (d, v) := List.mem_singleton.mp hr
      subst e
      exact ⟨u, kd, rv⟩⟩⟩, k⟩
  refine ⟨f, _, F, ⟨mk, a, i, kc⟩, F.binds0 (n + 1) (by simp) (by simpa using hn) h1, ?_⟩
  obtain ⟨mv, hb⟩ := F.kbinds0 (n + 1) [d] [] (fun us _ ws => us ++ ws) (by simp) (by simp) (fun r _ r2 => Vals.append r r2) fun D doc pm an cdv ct us mv ws e1 e2 e3 => by
    have e : mv = [] := List.length_eq_zero_iff.mp e2
    subst e
    exact h2 D doc pm an cdv ct us ws e1 e3
  exact ⟨hb.to, fun r1 r2 => hb.rel r1 r2⟩
def mkPr {K : PySem.W.Frag} {C : Addr} {x q : Str} {st : Stmt} {ps : List Str} {p f : Addr} {od an : Option Addr} {sl : Array (Option Value)} {oc kV dc pm cd ct : Value} {rest : List Value}
    (a : PySem.W.findIn K (.ref C) x = some (some (.ref p))) (g : PySem.W.specialIn K (.ref p) "__get__" = some (some (.builtin "property.__get__"))) (t : PySem.W.takesIn K (.ref p) = some true) (r : PySem.W.recIn K p "property" = some (.ref f :: rest))
    (l : K.lookup f = some ⟨oc, od, .func (PySem.W.fnOf x q (defArgs st) (defBody st) (defScope st) .none kV dc pm an cd ct), sl⟩) (c : PySem.W.codeIn K cd q = true) (k : PySem.W.keepIn K (.ref f) = true)
    (h : ∀ (kV doc pm : Value) (an : Option Addr) (cdv ct : Value) (us : List Value), us.length = ps.length → bindArgs (PySem.W.fnOf x q (defArgs st) (defBody st) (defScope st) .none kV doc pm an cdv ct) ⟨us, []⟩ = pure (ps.zip us)) : Pr K C x q st ps :=
  ⟨p, f, _, fun_mk (st := st) l c k, ⟨a, g, t, rest, r⟩, (fun_mk (st := st) l c k).binds h⟩
theorem mkCls {K : PySem.W.Frag} {C : Addr} (pg : PySem.W.plainGet K C Str.empty = true) (hd : PySem.W.hasDictIn K C = true) (po : PySem.W.plainOver K C = true) (sa : PySem.W.findIn K (.ref C) "__setattr__" = some (some (.builtin "object.__setattr__"))) : Cls K C := ⟨pg, hd, po, sa⟩
/-- the own exception InvalidJournal -/
structure Ex0 (K : PySem.W.Frag) (mg : Str → Option Value) (C : Addr) : Prop where
  g : mg "InvalidJournal" = some (.ref C)
  x : PySem.W.excIn K C [.type "ValueError", .type "Exception", .type "BaseException", .type "object"] "ValueError.__new__" = true
  k : PySem.W.keepIn K (.ref C) = true
  b : PySem.W.subIn K (.ref C) (.type "BaseException") = some true
  t : PySem.W.typeIn K (.ref C) = some (.type "type")
  e : PySem.W.exmOne K (.ref C) (.ref C) = some true
structure Tx (K : PySem.W.Frag) (mg : Str → Option Value) where
  CO : Addr
  CS : Addr
  CP : Addr
  CC : Addr
  CA : Addr
  CJ : Addr
  gO : mg "Outside" = some (.ref CO)
  gS : mg "Saga" = some (.ref CS)
  gP : mg "Prices" = some (.ref CP)
  gC : mg "Costs" = some (.ref CC)
  gA : mg "Assignment" = some (.ref CA)
  J : Ex0 K mg CJ
  cO : Cls K CO
  cS : Cls K CS
  cP : Cls K CP
  cC : Cls K CC
  cA : Cls K CA
  nO_calls : NoAttr K CO "calls"
  nO_losses : NoAttr K CO "losses"
  nO_sent : NoAttr K CO "sent"
  nO_numbers : NoAttr K CO "numbers"
  nS_deeds : NoAttr K CS "deeds"
  nS_noted : NoAttr K CS "noted"
  nS_answered : NoAttr K CS "answered"
  nP_effects : NoAttr K CP "effects"
  nC_undos : NoAttr K CC "undos"
  nC_dos : NoAttr K CC "dos"
  nC_changes : NoAttr K CC "changes"
  nA_rows : NoAttr K CA "rows"
  nA_size : NoAttr K CA "size"
  nA_lefts : NoAttr K CA "lefts"
  nA_rights : NoAttr K CA "rights"
  nA_row_of : NoAttr K CA "row_of"
  vO : V
  O_init : In1 K CO "Outside.__init__" s_Outside_init 1 ["self", "calls", "losses"] "losses" vO
  O_send : Md K CO "send" "Outside.send" s_Outside_send ["self", "number", "deed"]
  O_in_force : Md K CO "in_force" "Outside.in_force" s_Outside_in_force ["self"]
  O_done : Md K CO "done" "Outside.done" s_Outside_done ["self"]
  S_init : In1 K CS "Saga.__init__" s_Saga_init 3 ["self", "there", "here", "deeds", "text"] "text" (.str "")
  S_step : Md K CS "step" "Saga.step" s_Saga_step ["self", "outside"]
  S_text : Md K CS "text" "Saga.text" s_Saga_text ["self"]
  S_is_over : Pr K CS "is_over" "Saga.is_over" s_Saga_is_over ["self"]
  P_init : In0 K CP "Prices.__init__" s_Prices_init ["self", "effects"]
  C_init : In0 K CC "Costs.__init__" s_Costs_init ["self", "there", "here", "prices"]
  A_init : In0 K CA "Assignment.__init__" s_Assignment_init ["self", "rows"]
  A_slack : Md K CA "slack" "Assignment.slack" s_Assignment_slack ["self", "row", "column"]
  A_add : Md K CA "add" "Assignment.add" s_Assignment_add ["self", "row"]
  A_shift : Md K CA "shift" "Assignment.shift" s_Assignment_shift ["self", "rows", "columns", "slack"]
  A_turn : Md K CA "turn" "Assignment.turn" s_Assignment_turn ["self", "column", "before"]
  A_column_of : Md K CA "column_of" "Assignment.column_of" s_Assignment_column_of ["self", "row"]
  is_price : Df K mg "is_price" s_is_price ["number"]
  prices_of : Df K mg "prices_of" s_prices_of ["prices", "call"]
  undo_cost : Df K mg "undo_cost" s_undo_cost ["prices", "call"]
  do_cost : Df K mg "do_cost" s_do_cost ["prices", "call"]
  change_cost : Df K mg "change_cost" s_change_cost ["prices", "first", "second"]
  square : Df K mg "square" s_square ["costs"]
  made_paper : Df K mg "made_paper" s_made_paper ["assignment", "there", "here"]
  plan : Df K mg "plan" s_plan ["there", "here", "prices"]
  law_mix : Df K mg "_law_mix" s_law_mix ["_law_number", "_law_k"]
  law_numbers : Df K mg "_law_numbers" s_law_numbers ["_law_script", "_law_count"]
  law_take : Df K mg "_law_take" s_law_take ["_law_row", "_law_bound"]
  law_call : Df K mg "_law_call" s_law_call ["_law_row", "_law_keys"]
  law_calls : Df K mg "_law_calls" s_law_calls ["_law_row", "_law_most"]
  law_price : Df K mg "_law_price" s_law_price ["_law_row"]
  law_prices : Df K mg "_law_prices" s_law_prices ["_law_row"]
  law_losses : Df K mg "_law_losses" s_law_losses ["_law_row"]
  law_due : Df K mg "_law_due" s_law_due ["_law_model", "_law_losses_here"]
  law_lines : Df K mg "_law_lines" s_law_lines ["_law_count"]
  law_refused : Df K mg "_law_refused" s_law_refused ["_law_there", "_law_here", "_law_deeds", "_law_text"]
  law_cut : Df K mg "_law_cut" s_law_cut ["_law_row", "_law_saga", "_law_model"]
  law : Df K mg "law" s_law ["_law_script"]
  law_b : ∀ (s : Shared) (u : Value), BindsTo s law.fd ⟨[u], []⟩ [("_law_script", u)]
  m_MOST_PRICE : ∃ t, mg "MOST_PRICE" = some (.int 1000000 t)
  m_MOST_CALLS : ∃ t, mg "MOST_CALLS" = some (.int 12 t)
  z_len : mg "len" = none
  z_range : mg "range" = none
  z_sorted : mg "sorted" = none
  z_sum : mg "sum" = none
  z_abs : mg "abs" = none
  z_zip : mg "zip" = none
  z_enumerate : mg "enumerate" = none
  z_max : mg "max" = none
  z_list : mg "list" = none
  z_tuple : mg "tuple" = none
  z_dict : mg "dict" = none
  z_int : mg "int" = none
  z_str : mg "str" = none
  z_all : mg "all" = none
/-- the addresses implicit, so that what is found fixes them -/
def mkTx {K : PySem.W.Frag} {mg : Str → Option Value} {CO : Addr} {CS : Addr} {CP : Addr} {CC : Addr} {CA : Addr} {CJ : Addr} {vO : V}
    (gO : mg "Outside" = some (.ref CO))
    (gS : mg "Saga" = some (.ref CS))
    (gP : mg "Prices" = some (.ref CP))
    (gC : mg "Costs" = some (.ref CC))
    (gA : mg "Assignment" = some (.ref CA))
    (J : Ex0 K mg CJ)
    (cO : Cls K CO)
    (cS : Cls K CS)
    (cP : Cls K CP)
    (cC : Cls K CC)
    (cA : Cls K CA)
    (nO_calls : NoAttr K CO "calls")
    (nO_losses : NoAttr K CO "losses")
    (nO_sent : NoAttr K CO "sent")
    (nO_numbers : NoAttr K CO "numbers")
    (nS_deeds : NoAttr K CS "deeds")
    (nS_noted : NoAttr K CS "noted")
    (nS_answered : NoAttr K CS "answered")
    (nP_effects : NoAttr K CP "effects")
    (nC_undos : NoAttr K CC "undos")
    (nC_dos : NoAttr K CC "dos")
    (nC_changes : NoAttr K CC "changes")
    (nA_rows : NoAttr K CA "rows")
    (nA_size : NoAttr K CA "size")
    (nA_lefts : NoAttr K CA "lefts")
    (nA_rights : NoAttr K CA "rights")
    (nA_row_of : NoAttr K CA "row_of")
    (O_init : In1 K CO "Outside.__init__" s_Outside_init 1 ["self", "calls", "losses"] "losses" vO)
    (O_send : Md K CO "send" "Outside.send" s_Outside_send ["self", "number", "deed"])
    (O_in_force : Md K CO "in_force" "Outside.in_force" s_Outside_in_force ["self"])
    (O_done : Md K CO "done" "Outside.done" s_Outside_done ["self"])
    (S_init : In1 K CS "Saga.__init__" s_Saga_init 3 ["self", "there", "here", "deeds", "text"] "text" (.str ""))
    (S_step : Md K CS "step" "Saga.step" s_Saga_step ["self", "outside"])
    (S_text : Md K CS "text" "Saga.text" s_Saga_text ["self"])
    (S_is_over : Pr K CS "is_over" "Saga.is_over" s_Saga_is_over ["self"])
    (P_init : In0 K CP "Prices.__init__" s_Prices_init ["self", "effects"])
    (C_init : In0 K CC "Costs.__init__" s_Costs_init ["self", "there", "here", "prices"])
    (A_init : In0 K CA "Assignment.__init__" s_Assignment_init ["self", "rows"])
    (A_slack : Md K CA "slack" "Assignment.slack" s_Assignment_slack ["self", "row", "column"])
    (A_add : Md K CA "add" "Assignment.add" s_Assignment_add ["self", "row"])
    (A_shift : Md K CA "shift" "Assignment.shift" s_Assignment_shift ["self", "rows", "columns", "slack"])
    (A_turn : Md K CA "turn" "Assignment.turn" s_Assignment_turn ["self", "column", "before"])
    (A_column_of : Md K CA "column_of" "Assignment.column_of" s_Assignment_column_of ["self", "row"])
    (is_price : Df K mg "is_price" s_is_price ["number"])
    (prices_of : Df K mg "prices_of" s_prices_of ["prices", "call"])
    (undo_cost : Df K mg "undo_cost" s_undo_cost ["prices", "call"])
    (do_cost : Df K mg "do_cost" s_do_cost ["prices", "call"])
    (change_cost : Df K mg "change_cost" s_change_cost ["prices", "first", "second"])
    (square : Df K mg "square" s_square ["costs"])
    (made_paper : Df K mg "made_paper" s_made_paper ["assignment", "there", "here"])
    (plan : Df K mg "plan" s_plan ["there", "here", "prices"])
    (law_mix : Df K mg "_law_mix" s_law_mix ["_law_number", "_law_k"])
    (law_numbers : Df K mg "_law_numbers" s_law_numbers ["_law_script", "_law_count"])
    (law_take : Df K mg "_law_take" s_law_take ["_law_row", "_law_bound"])
    (law_call : Df K mg "_law_call" s_law_call ["_law_row", "_law_keys"])
    (law_calls : Df K mg "_law_calls" s_law_calls ["_law_row", "_law_most"])
    (law_price : Df K mg "_law_price" s_law_price ["_law_row"])
    (law_prices : Df K mg "_law_prices" s_law_prices ["_law_row"])
    (law_losses : Df K mg "_law_losses" s_law_losses ["_law_row"])
    (law_due : Df K mg "_law_due" s_law_due ["_law_model", "_law_losses_here"])
    (law_lines : Df K mg "_law_lines" s_law_lines ["_law_count"])
    (law_refused : Df K mg "_law_refused" s_law_refused ["_law_there", "_law_here", "_law_deeds", "_law_text"])
    (law_cut : Df K mg "_law_cut" s_law_cut ["_law_row", "_law_saga", "_law_model"])
    (law : Df K mg "law" s_law ["_law_script"])
    (law_b : ∀ (s : Shared) (u : Value), BindsTo s law.fd ⟨[u], []⟩ [("_law_script", u)])
    (m_MOST_PRICE : ∃ t, mg "MOST_PRICE" = some (.int 1000000 t))
    (m_MOST_CALLS : ∃ t, mg "MOST_CALLS" = some (.int 12 t))
    (z_len : mg "len" = none)
    (z_range : mg "range" = none)
    (z_sorted : mg "sorted" = none)
    (z_sum : mg "sum" = none)
    (z_abs : mg "abs" = none)
    (z_zip : mg "zip" = none)
    (z_enumerate : mg "enumerate" = none)
    (z_max : mg "max" = none)
    (z_list : mg "list" = none)
    (z_tuple : mg "tuple" = none)
    (z_dict : mg "dict" = none)
    (z_int : mg "int" = none)
    (z_str : mg "str" = none)
    (z_all : mg "all" = none) : Tx K mg := ⟨CO, CS, CP, CC, CA, CJ, gO, gS, gP, gC, gA, J, cO, cS, cP, cC, cA, nO_calls, nO_losses, nO_sent, nO_numbers, nS_deeds, nS_noted, nS_answered, nP_effects, nC_undos, nC_dos, nC_changes, nA_rows, nA_size, nA_lefts, nA_rights, nA_row_of, vO, O_init, O_send, O_in_force, O_done, S_init, S_step, S_text, S_is_over, P_init, C_init, A_init, A_slack, A_add, A_shift, A_turn, A_column_of, is_price, prices_of, undo_cost, do_cost, change_cost, square, made_paper, plan, law_mix, law_numbers, law_take, law_call, law_calls, law_price, law_prices, law_losses, law_due, law_lines, law_refused, law_cut, law, law_b, m_MOST_PRICE, m_MOST_CALLS, z_len, z_range, z_sorted, z_sum, z_abs, z_zip, z_enumerate, z_max, z_list, z_tuple, z_dict, z_int, z_str, z_all⟩
theorem mkInt {mg : Str → Option Value} {x : Str} {n : Int} {t : Tok} (h : mg x = some (.int n t)) : ∃ t, mg x = some (.int n t) := ⟨t, h⟩
theorem refRel {a : Addr} : RelV (.ref a) (.ref a) := rfl
def mkIn1R {K : PySem.W.Frag} {C : Addr} {q : Str} {st : Stmt} {n : Nat} {ps : List Str} {d : Str} {f D z : Addr} {od an : Option Addr} {sl : Array (Option Value)} {oc dc pm cd ct : Value}
    (a : PySem.W.findIn K (.ref C) "__init__" = some (some (.ref f))) (i : PySem.W.isFn K (.ref f) = true) (l : K.lookup f = some ⟨oc, od, .func (PySem.W.fnOf "__init__" q (defArgs st) (defBody st) (defScope st) .none (.ref D) dc pm an cd ct), sl⟩) (c : PySem.W.codeIn K cd q = true) (k : PySem.W.keepIn K (.ref f) = true)
    (mk : PySem.W.makesIn K C = true) (kc : PySem.W.keepIn K (.ref C) = true) (kd : PySem.W.nsIn K D d = some (some (.ref z))) (hn : n + 2 = ps.length)
    (h1 : ∀ (D : Addr) (doc pm : Value) (an : Option Addr) (cdv ct : Value) (us ks : List Value), us.length = n + 1 → ks.length = 1 →
      KwChain D (([d] : List Str).zip ks) (bindArgs (PySem.W.fnOf "__init__" q (defArgs st) (defBody st) (defScope st) .none (.ref D) doc pm an cdv ct) ⟨us, []⟩) (ps.zip (us ++ ks)))
    (h2 : ∀ (D : Addr) (doc pm : Value) (an : Option Addr) (cdv ct : Value) (us ws : List Value), us.length = n + 1 → ws.length = 1 →
      bindArgs (PySem.W.fnOf "__init__" q (defArgs st) (defBody st) (defScope st) .none (.ref D) doc pm an cdv ct) ⟨us, ([d] : List Str).zip ws⟩ = pure (ps.zip (us ++ ws))) : In1 K C q st n ps d (.ref z) :=
  mkIn1 (v := .ref z) (u := .ref z) a i l c k mk kc kd rfl hn h1 h2
def mkIn1S {K : PySem.W.Frag} {C : Addr} {q : Str} {st : Stmt} {n : Nat} {ps : List Str} {d : Str} {f D : Addr} {x : Str} {tk : Tok} {od an : Option Addr} {sl : Array (Option Value)} {oc dc pm cd ct : Value}
    (a : PySem.W.findIn K (.ref C) "__init__" = some (some (.ref f))) (i : PySem.W.isFn K (.ref f) = true) (l : K.lookup f = some ⟨oc, od, .func (PySem.W.fnOf "__init__" q (defArgs st) (defBody st) (defScope st) .none (.ref D) dc pm an cd ct), sl⟩) (c : PySem.W.codeIn K cd q = true) (k : PySem.W.keepIn K (.ref f) = true)
    (mk : PySem.W.makesIn K C = true) (kc : PySem.W.keepIn K (.ref C) = true) (kd : PySem.W.nsIn K D d = some (some (.str x tk))) (hn : n + 2 = ps.length)
    (h1 : ∀ (D : Addr) (doc pm : Value) (an : Option Addr) (cdv ct : Value) (us ks : List Value), us.length = n + 1 → ks.length = 1 →
      KwChain D (([d] : List Str).zip ks) (bindArgs (PySem.W.fnOf "__init__" q (defArgs st) (defBody st) (defScope st) .none (.ref D) doc pm an cdv ct) ⟨us, []⟩) (ps.zip (us ++ ks)))
    (h2 : ∀ (D : Addr) (doc pm : Value) (an : Option Addr) (cdv ct : Value) (us ws : List Value), us.length = n + 1 → ws.length = 1 →
      bindArgs (PySem.W.fnOf "__init__" q (defArgs st) (defBody st) (defScope st) .none (.ref D) doc pm an cdv ct) ⟨us, ([d] : List Str).zip ws⟩ = pure (ps.zip (us ++ ws))) : In1 K C q st n ps d (.str x) :=
  mkIn1 (v := .str x) (u := .str x tk) a i l c k mk kc kd ⟨tk, rfl⟩ hn h1 h2
end Sg
namespace Sg
open PySem PySem.Spec PyProof.Rows L2
/-! ### heaps: what a step may change -/
def soft : HO → Bool
  | .tup _ => false
  | .frz _ _ => false
  | _ => true
structure Chg (S : List Addr) (H H' : Hp) : Prop where
  keep : ∀ b o, H b = some o → b ∉ S → H' b = some o
  tup : ∀ b xs, H b = some (.tup xs) → H' b = some (.tup xs)
  frz : ∀ b o u, H b = some (.frz o u) → H' b = some (.frz o u)
  there : ∀ b o, H b = some o → ∃ o', H' b = some o'
section
variable {S S' : List Addr} {H H1 H2 : Hp} {p b : Addr} {o u : HO} {K : PySem.W.Frag} {xs : List V}
theorem Chg.refl (S : List Addr) (H : Hp) : Chg S H H := ⟨fun _ _ h _ => h, fun _ _ h => h, fun _ _ _ h => h, fun _ o h => ⟨o, h⟩⟩
theorem Chg.trans (a : Chg S H H1) (c : Chg S H1 H2) : Chg S H H2 :=
  ⟨fun b o h n => c.keep b o (a.keep b o h n) n, fun b xs h => c.tup b xs (a.tup b xs h), fun b o u h => c.frz b o u (a.frz b o u h), fun b o h => let ⟨o1, h1⟩ := a.there b o h; c.there b o1 h1⟩
theorem Chg.mono (a : Chg S H H1) (h : ∀ b ∈ S, b ∈ S') : Chg S' H H1 := ⟨fun b o e n => a.keep b o e fun z => n (h b z), a.tup, a.frz, a.there⟩
theorem Chg.new (h : H p = none) : Chg S H (upd H p o) := by
  have k : ∀ b u, H b = some u → upd H p o b = some u := fun b u e => by rw [upd_ne (ne_of_none e h)]; exact e
  exact ⟨fun b u e _ => k b u e, fun b xs e => k b _ e, fun b v u e => k b _ e, fun b u e => ⟨u, k b u e⟩⟩
theorem Chg.put (h : H p = some u) (hu : soft u = true) (hs : p ∈ S) : Chg S H (upd H p o) := by
  have k : ∀ b v, H b = some v → soft v = false → upd H p o b = some v := fun b v e n => by
    rw [upd_ne]
    · exact e
    · rintro rfl
      rw [h] at e
      cases e
      rw [hu] at n
      cases n
  refine ⟨fun b v e n => ?_, fun b xs e => k b _ e rfl, fun b v w e => k b _ e rfl, fun b v e => ?_⟩
  · rw [upd_ne]
    · exact e
    · rintro rfl
      exact n hs
  · by_cases hb : b = p
    · exact ⟨o, by rw [hb, upd_same]⟩
    · exact ⟨v, by rw [upd_ne hb]; exact e⟩
theorem Chg.of_same (h : Same H H1) : Chg S H H1 := ⟨fun b o e _ => h b o e, fun b xs e => h b _ e, fun b o u e => h b _ e, fun b o e => ⟨o, h b o e⟩⟩
theorem Chg.drop (a : Chg (p :: S) H H1) (h : H p = none) : Chg S H H1 :=
  ⟨fun b o e n => a.keep b o e fun z => by
    rcases List.mem_cons.mp z with rfl | z
    · rw [h] at e; cases e
    · exact n z, a.tup, a.frz, a.there⟩
theorem Chg.mut (c : Chg S H H1) (h : H p = none) : Chg S H (upd H1 p o) := by
  have k : ∀ b u, H b = some u → upd H1 p o b = H1 b := fun b u e => upd_ne (ne_of_none e h)
  exact ⟨fun b u e n => (k b u e).trans (c.keep b u e n), fun b xs e => (k b _ e).trans (c.tup b xs e), fun b v u e => (k b _ e).trans (c.frz b v u e), fun b u e => by
    rw [k b u e]
    exact c.there b u e⟩
theorem Chg.free (a : Chg S H H1) (h : H1 b = none) : H b = none := by
  cases e : H b with
  | none => rfl
  | some o =>
    obtain ⟨o', e'⟩ := a.there b o e
    rw [h] at e'
    cases e'
theorem Chg.ne (a : Chg S H H1) (h : H1 b = none) (e : H p = some o) : p ≠ b := ne_of_none e (a.free h)
theorem Chg.sqT (a : Chg S H H1) (h : SqT K H p xs) : SqT K H1 p xs := by
  rcases h with (h | ⟨o, h⟩) | h
  · exact .inl (.inl (a.tup _ _ h))
  · exact .inl (.inr ⟨o, a.frz _ _ _ h⟩)
  · exact .inr h
theorem Chg.sqL (a : Chg S H H1) (h : SqL K H p xs) (n : p ∉ S) : SqL K H1 p xs := by
  rcases h with (h | ⟨o, h⟩) | h
  · exact .inl (.inl (a.keep _ _ h n))
  · exact .inl (.inr ⟨o, a.frz _ _ _ h⟩)
  · exact .inr h
end
/-! ### data -/
mutual
def noL : PyData → Bool
  | .list _ => false
  | .dict _ => false
  | .tuple ds => noLs ds
  | _ => true
def noLs : List PyData → Bool
  | [] => true
  | d :: ds => noL d && noLs ds
end
section
variable {S : List Addr} {H H1 : Hp} {K : PySem.W.Frag}
mutual
theorem Chg.dp (a : Chg S H H1) : ∀ (d : PyData) (v : V), noL d = true → Dp K H v d → Dp K H1 v d
  | .none, _, _, h => by cases h; exact .non
  | .bool b, _, _, h => by cases h; exact .bl b
  | .int i, _, _, h => by cases h; exact .int i
  | .str x, _, _, h => by cases h; exact .str x
  | .list ds, _, n, _ => by simp [noL] at n
  | .tuple ds, _, n, h => by
    cases h with
    | tup hs ha => exact .tup (a.sqT hs) (Chg.dps a ds _ (by simpa [noL] using n) ha)
  | .dict _, _, n, _ => by simp [noL] at n
theorem Chg.dps (a : Chg S H H1) : ∀ (ds : List PyData) (vs : List V), noLs ds = true → DpAll K H vs ds → DpAll K H1 vs ds
  | [], _, _, h => by cases h; exact .nil
  | d :: ds, _, n, h => by
    have n' : noL d = true ∧ noLs ds = true := by simpa [noLs] using n
    cases h with
    | cons h1 h2 => exact .cons (Chg.dp a d _ n'.1 h1) (Chg.dps a ds _ n'.2 h2)
end
theorem noLs_all {ds : List PyData} (h : ∀ d ∈ ds, noL d = true) : noLs ds = true := by
  induction ds with
  | nil => simp [noLs]
  | cons d ds ih =>
    have h1 := h d List.mem_cons_self
    have h2 := ih fun x hx => h x (List.mem_cons_of_mem _ hx)
    simp [noLs, h1, h2]
theorem noLs_ints (ns : List Int) : noLs (ns.map PyData.int) = true := noLs_all fun d hd => by
  obtain ⟨n, _, rfl⟩ := List.mem_map.mp hd
  simp [noL]
theorem dp_ints : ∀ (ns : List Int), DpAll K H (ns.map V.int) (ns.map PyData.int)
  | [] => .nil
  | n :: ns => .cons (.int n) (dp_ints ns)
theorem dp_strs : ∀ (ns : List Str), DpAll K H (ns.map V.str) (ns.map PyData.str)
  | [] => .nil
  | n :: ns => .cons (.str n) (dp_strs ns)
theorem ints_dp : ∀ {ns : List Int} {vs : List V}, DpAll K H vs (ns.map PyData.int) → vs = ns.map V.int
  | [], _, h => by cases h; rfl
  | n :: ns, _, h => by
    cases h with
    | cons h1 h2 =>
      cases h1
      rw [ints_dp h2]
      rfl
theorem dpa_length : ∀ {vs : List V} {ds : List PyData}, DpAll K H vs ds → vs.length = ds.length
  | _, _, .nil => rfl
  | _, _, .cons _ t => congrArg Nat.succ (dpa_length t)
theorem dpa_get : ∀ {vs : List V} {ds : List PyData} {i : Nat} {v : V}, DpAll K H vs ds → vs[i]? = some v → ∃ d, ds[i]? = some d ∧ Dp K H v d
  | _, _, _, _, .nil, e => by simp at e
  | _, _, 0, _, .cons h _, e => by
    simp at e
    subst e
    exact ⟨_, rfl, h⟩
  | _, _, i + 1, v, .cons _ t, e => by
    obtain ⟨d, h1, h2⟩ := dpa_get (i := i) (v := v) t (by simpa using e)
    exact ⟨d, by simpa using h1, h2⟩
theorem dpa_at : ∀ {vs : List V} {ds : List PyData} {i : Nat} {d : PyData}, DpAll K H vs ds → ds[i]? = some d → ∃ v, vs[i]? = some v ∧ Dp K H v d
  | _, _, _, _, .nil, e => by simp at e
  | _, _, 0, _, .cons h _, e => by
    simp at e
    subst e
    exact ⟨_, rfl, h⟩
  | _, _, i + 1, d, .cons _ t, e => by
    obtain ⟨v, h1, h2⟩ := dpa_at (i := i) (d := d) t (by simpa using e)
    exact ⟨v, by simpa using h1, h2⟩
theorem dpa_app : ∀ {vs ws : List V} {ds es : List PyData}, DpAll K H vs ds → DpAll K H ws es → DpAll K H (vs ++ ws) (ds ++ es)
  | _, _, _, _, .nil, h => h
  | _, _, _, _, .cons h t, h' => .cons h (dpa_app t h')
theorem dpa_snoc {vs : List V} {v : V} {ds : List PyData} {d : PyData} (h : DpAll K H vs ds) (h' : Dp K H v d) : DpAll K H (vs ++ [v]) (ds ++ [d]) := dpa_app h (.cons h' .nil)
theorem dpa_take : ∀ {vs : List V} {ds : List PyData} (n : Nat), DpAll K H vs ds → DpAll K H (vs.take n) (ds.take n)
  | _, _, 0, _ => .nil
  | _, _, _ + 1, .nil => .nil
  | _, _, n + 1, .cons h t => .cons h (dpa_take n t)
theorem dpa_erase : ∀ {vs : List V} {ds : List PyData} (i : Nat), DpAll K H vs ds → DpAll K H (vs.eraseIdx i) (ds.eraseIdx i)
  | _, _, _, .nil => .nil
  | _, _, 0, .cons _ t => t
  | _, _, i + 1, .cons h t => .cons h (dpa_erase i t)
theorem dpa_map {ι : Type} {f : ι → V} {g : ι → PyData} : ∀ {l : List ι}, (∀ x ∈ l, Dp K H (f x) (g x)) → DpAll K H (l.map f) (l.map g)
  | [], _ => .nil
  | x :: l, h => .cons (h x List.mem_cons_self) (dpa_map fun y hy => h y (List.mem_cons_of_mem _ hy))
end
/-! ### calls as data -/
inductive Ef where
  | pay | ship | tell
  deriving DecidableEq
def Ef.nm : Ef → Str
  | .pay => "pay"
  | .ship => "ship"
  | .tell => "tell"
theorem Ef.ok (e : Ef) : PyData.strOk e.nm = true := by cases e <;> decide +kernel
theorem Ef.inj {a b : Ef} (h : a.nm = b.nm) : a = b := by cases a <;> cases b <;> first | rfl | exact absurd h (by decide +kernel)
structure Cl where
  path : List Int
  num : Int
  eff : Ef
  args : List Int
  deriving DecidableEq
def encK (p : List Int) (n : Int) : PyData := .tuple [.tuple (p.map PyData.int), .int n]
def encC (c : Cl) : PyData := .tuple [encK c.path c.num, .str c.eff.nm, .tuple (c.args.map PyData.int)]
theorem noL_encK (p : List Int) (n : Int) : noL (encK p n) = true := by simp [encK, noL, noLs, noLs_ints]
theorem noL_encC (c : Cl) : noL (encC c) = true := by simp [encC, noL, noLs, noL_encK, noLs_ints]
theorem noLs_encC (l : List Cl) : noLs (l.map encC) = true := noLs_all fun d hd => by
  obtain ⟨c, _, rfl⟩ := List.mem_map.mp hd
  exact noL_encC c
theorem lay_ints : ∀ ns : List Int, PyData.canLayAll0 (ns.map PyData.int) = true
  | [] => by simp [PyData.canLayAll0]
  | n :: ns => by simp [PyData.canLayAll0, PyData.canLay0, lay_ints ns]
theorem dep_ints : ∀ ns : List Int, PyData.depthAll (ns.map PyData.int) = 0
  | [] => by simp [PyData.depthAll]
  | n :: ns => by simp [PyData.depthAll, PyData.depth, dep_ints ns]
theorem lay_strs : ∀ ns : List Str, (∀ x ∈ ns, PyData.strOk x = true) → PyData.canLayAll0 (ns.map PyData.str) = true
  | [], _ => by simp [PyData.canLayAll0]
  | n :: ns, h => by simp [PyData.canLayAll0, PyData.canLay0, h n List.mem_cons_self, lay_strs ns fun x hx => h x (List.mem_cons_of_mem _ hx)]
theorem dep_strs : ∀ ns : List Str, PyData.depthAll (ns.map PyData.str) = 0
  | [] => by simp [PyData.depthAll]
  | n :: ns => by simp [PyData.depthAll, PyData.depth, dep_strs ns]
theorem lay_encK (p : List Int) (n : Int) : (encK p n).canLay0 = true := by simp [encK, PyData.canLay0, PyData.canLayAll0, lay_ints]
theorem lay_encC (c : Cl) : (encC c).canLay0 = true := by simp [encC, PyData.canLay0, PyData.canLayAll0, lay_encK, lay_ints, c.eff.ok]
theorem dep_encK (p : List Int) (n : Int) : (encK p n).depth = 2 := by simp [encK, PyData.depth, PyData.depthAll, dep_ints]
theorem dep_encC (c : Cl) : (encC c).depth = 3 := by simp [encC, PyData.depth, PyData.depthAll, dep_encK, dep_ints]
theorem lay_all {ds : List PyData} (h : ∀ d ∈ ds, d.canLay0 = true) : PyData.canLayAll0 ds = true := by
  induction ds with
  | nil => simp [PyData.canLayAll0]
  | cons d ds ih =>
    have h1 := h d List.mem_cons_self
    have h2 := ih fun x hx => h x (List.mem_cons_of_mem _ hx)
    simp [PyData.canLayAll0, h1, h2]
theorem dep_all {ds : List PyData} {n : Nat} (h : ∀ d ∈ ds, d.depth ≤ n) : PyData.depthAll ds ≤ n := by
  induction ds with
  | nil => simp [PyData.depthAll]
  | cons d ds ih =>
    have h1 := h d List.mem_cons_self
    have h2 := ih fun x hx => h x (List.mem_cons_of_mem _ hx)
    simp only [PyData.depthAll]
    omega
theorem shaped_of {d : PyData} (h1 : d.canLay0 = true) (h2 : d.depth ≤ 64) : SeqAt.shaped d = true := by
  show (d.canLay0 && decide (d.depth ≤ 64)) = true
  rw [h1, decide_eq_true h2]
  rfl
theorem shaped_list {ds : List PyData} {n : Nat} (h1 : ∀ d ∈ ds, d.canLay0 = true) (h2 : ∀ d ∈ ds, d.depth ≤ n) (hn : n ≤ 63) : SeqAt.shaped (.list ds) = true := by
  refine shaped_of (by simp only [PyData.canLay0]; exact lay_all h1) ?_
  have := dep_all h2
  simp only [PyData.depth]
  omega
theorem shaped_encC (c : Cl) : SeqAt.shaped (encC c) = true := shaped_of (lay_encC c) (by rw [dep_encC]; decide)
theorem shaped_encK (p : List Int) (n : Int) : SeqAt.shaped (encK p n) = true := shaped_of (lay_encK p n) (by rw [dep_encK]; decide)
theorem shaped_encCs (l : List Cl) : SeqAt.shaped (.list (l.map encC)) = true := by
  refine shaped_list (n := 3) (fun d hd => ?_) (fun d hd => ?_) (by decide)
  · obtain ⟨c, _, rfl⟩ := List.mem_map.mp hd
    exact lay_encC c
  · obtain ⟨c, _, rfl⟩ := List.mem_map.mp hd
    rw [dep_encC]
    exact Nat.le_refl _
theorem shaped_ints (l : List Int) : SeqAt.shaped (.list (l.map PyData.int)) = true := shaped_of (by simp only [PyData.canLay0]; exact lay_ints l) (by simp only [PyData.depth, dep_ints]; decide)
theorem shaped_strs (l : List Str) (h : ∀ x ∈ l, PyData.strOk x = true) : SeqAt.shaped (.list (l.map PyData.str)) = true := shaped_of (by simp only [PyData.canLay0]; exact lay_strs l h) (by simp only [PyData.depth, dep_strs]; decide)
/-! eqv of them -/
theorem eqv_ints : ∀ (a b : List Int), PyData.eqvAll (a.map PyData.int) (b.map PyData.int) = decide (a = b)
  | [], [] => by simp [PyData.eqvAll]
  | [], _ :: _ => by simp [PyData.eqvAll]
  | _ :: _, [] => by simp [PyData.eqvAll]
  | x :: a, y :: b => by
    have ih := eqv_ints a b
    simp only [List.map_cons, PyData.eqvAll, PyData.eqv, ih]
    by_cases h : x = y <;> by_cases h' : a = b <;> simp [h, h']
theorem eqv_strs : ∀ (a b : List Str), PyData.eqvAll (a.map PyData.str) (b.map PyData.str) = decide (a = b)
  | [], [] => by simp [PyData.eqvAll]
  | [], _ :: _ => by simp [PyData.eqvAll]
  | _ :: _, [] => by simp [PyData.eqvAll]
  | x :: a, y :: b => by
    have ih := eqv_strs a b
    simp only [List.map_cons, PyData.eqvAll, PyData.eqv, ih]
    by_cases h : x = y <;> by_cases h' : a = b <;> simp [h, h']
theorem eqv_encK (p q : List Int) (n m : Int) : PyData.eqv (encK p n) (encK q m) = decide (p = q ∧ n = m) := by
  simp only [encK, PyData.eqv, PyData.eqvAll, eqv_ints]
  by_cases h : p = q <;> by_cases h' : n = m <;> simp [h, h']
theorem eqv_encC (a b : Cl) : PyData.eqv (encC a) (encC b) = decide (a = b) := by
  obtain ⟨p, n, e, g⟩ := a
  obtain ⟨p', n', e', g'⟩ := b
  have hk := eqv_encK p p' n n'
  simp only [encC, PyData.eqv, PyData.eqvAll, eqv_ints, hk, Cl.mk.injEq]
  have he : (e.nm == e'.nm) = decide (e = e') := by
    by_cases h : e = e'
    · simp [h]
    · rw [decide_eq_false h]
      exact beq_eq_false_iff_ne.mpr fun z => h (Ef.inj z)
  rw [he]
  by_cases h : p = p' <;> by_cases h' : n = n' <;> by_cases h2 : e = e' <;> by_cases h3 : g = g' <;> simp [h, h', h2, h3]
theorem any_encC (l : List Cl) (c : Cl) : ((l.map encC).any fun z => PyData.eqv z (encC c)) = decide (c ∈ l) := by
  induction l with
  | nil => simp
  | cons a l ih =>
    simp only [List.map_cons, List.any_cons, ih, eqv_encC, List.mem_cons]
    by_cases h : a = c
    · subst h; simp
    · have h' : c ≠ a := fun e => h e.symm
      simp [h, h']
/-! reading them off -/
section
variable {H : Hp} {K : PySem.W.Frag} {v : V}
theorem dpT_inv {ds : List PyData} (h : Dp K H v (.tuple ds)) : ∃ a xs, v = .ref a ∧ SqT K H a xs ∧ DpAll K H xs ds := by
  cases h with
  | tup hs ha => exact ⟨_, _, rfl, hs, ha⟩
theorem dpInts_inv {ns : List Int} (h : Dp K H v (.tuple (ns.map PyData.int))) : ∃ a, v = .ref a ∧ SqT K H a (ns.map V.int) := by
  obtain ⟨a, xs, rfl, hs, ha⟩ := dpT_inv h
  rw [ints_dp ha] at hs
  exact ⟨a, rfl, hs⟩
theorem dpC_inv {c : Cl} (h : Dp K H v (encC c)) : ∃ a k g, v = .ref a ∧ SqT K H a [k, .str c.eff.nm, .ref g] ∧ Dp K H k (encK c.path c.num) ∧ SqT K H g (c.args.map V.int) := by
  obtain ⟨a, xs, rfl, hs, ha⟩ := dpT_inv h
  cases ha with
  | cons h1 t =>
    cases t with
    | cons h2 t =>
      cases t with
      | cons h3 t =>
        cases t
        cases h2
        obtain ⟨g, rfl, hg⟩ := dpInts_inv h3
        exact ⟨a, _, g, rfl, hs, h1, hg⟩
theorem dpK_mk {p : List Int} {n : Int} {a b : Addr} (h1 : SqT K H a [.ref b, .int n]) (h2 : SqT K H b (p.map V.int)) : Dp K H (.ref a) (encK p n) := .tup h1 (.cons (.tup h2 (dp_ints p)) (.cons (.int n) .nil))
theorem dpC_mk {c : Cl} {a g : Addr} {k : V} (h1 : SqT K H a [k, .str c.eff.nm, .ref g]) (h2 : Dp K H k (encK c.path c.num)) (h3 : SqT K H g (c.args.map V.int)) : Dp K H (.ref a) (encC c) :=
  .tup h1 (.cons h2 (.cons (.str _) (.cons (.tup h3 (dp_ints _)) .nil)))
end
/-- a list that stands, of data without lists -/
def LstD (K : PySem.W.Frag) (H : Hp) (a : Addr) (ds : List PyData) : Prop := ∃ vs, H a = some (.lst vs) ∧ DpAll K H vs ds
section
variable {S : List Addr} {H H1 : Hp} {K : PySem.W.Frag} {a : Addr} {ds : List PyData}
theorem Chg.lstD (c : Chg S H H1) (h : LstD K H a ds) (n : a ∉ S) (hd : noLs ds = true) : LstD K H1 a ds := by
  obtain ⟨vs, h1, h2⟩ := h
  exact ⟨vs, c.keep a _ h1 n, c.dps ds vs hd h2⟩
theorem LstD.dp (h : LstD K H a ds) : Dp K H (.ref a) (.list ds) := by
  obtain ⟨vs, h1, h2⟩ := h
  exact .lst (SqL.of h1) h2
theorem LstD.there (h : LstD K H a ds) : ∃ vs, H a = some (.lst vs) ∧ vs.length = ds.length := by
  obtain ⟨vs, h1, h2⟩ := h
  exact ⟨vs, h1, dpa_length h2⟩
end
/-! ### rules -/
section
variable {X : Cx}
/-- xs[i], by values (for xs[i] op= e) -/
theorem get_list : PGet X (rIxL X.K) := by
  intro pins s σ H x y v u Q I rx ry h
  obtain ⟨p, xs, i, z, rfl, rfl, hq, he, q⟩ := h
  cases rx
  obtain ⟨t, rfl⟩ := ry
  obtain ⟨its, r, pl, hz⟩ := I.list hq
  obtain ⟨j, h1, h2, h3, h4, h5⟩ := atI_get he
  obtain ⟨w, ew, rw'⟩ := r.get h2
  have hl := r.length
  have hn := line63
  have fin : EP X pins σ Q w s := ⟨z, H, I, rw', q⟩
  by_cases h0 : 0 ≤ i
  · have hj : i.toNat = j := by
      rw [seqIndex_of h0 h5] at h1
      exact Option.some.inj h1
    exact wpAny_getItem_list pl.isList h0 (by omega) (by rw [hj]; simpa using ew) fin
  · have hj : (i + (its.toArray.size : Int)).toNat = j := by
      rw [seqIndex_neg (by omega) h4] at h1
      rw [List.size_toArray, ← hl]
      exact Option.some.inj h1
    exact wpAny_getItem_list_neg pl.isList (by omega) (by rw [List.size_toArray] <;> omega) (by omega) (by rw [hj]; simpa using ew) fin
/-- xs.remove(x), data at any depth, it is there -/
def rRemD (K : PySem.W.Frag) : V → List V → Hp → VK → Prop := fun x xs H Q => ∃ (l : Addr) (ys : List V) (y : V) (d : PyData) (ds : List PyData) (j : Nat), x = .ref l ∧ xs = [y] ∧ H l = some (.lst ys) ∧ DpAll K H ys ds ∧ Dp K H y d ∧
  SeqAt.shaped (.list ds) = true ∧ SeqAt.shaped d = true ∧ (∃ z, ds[j]? = some z ∧ PyData.eqv z d = true) ∧ (∀ (m : Nat) (z' : PyData), m < j → ds[m]? = some z' → PyData.eqv z' d = false) ∧ Q .non (upd H l (.lst (ys.eraseIdx j)))
theorem mt_removeD (hu : X.A.units + 65 < cLine) : MtM X "list.remove" (rRemD X.K) := by
  intro pins s σ H x xs v us Q I rx rxs h
  obtain ⟨l, ys, y, d, ds, j, rfl, rfl, hH, ha, hy, sl, sd, ⟨z, hz, hzj⟩, hno, q⟩ := h
  cases rx
  obtain ⟨uy, rfl, ry⟩ := rxs.one
  obtain ⟨bs, r1⟩ := Dp.reads I d y uy hy ry
  have hxs : PyData.canLayAll0 ds = true := SeqAt.canLay_of_shaped sl
  have hroom : X.A.units + 1 + min (PyData.depthAll ds) d.depth < cLine := room_in_shaped sd hu
  obtain ⟨zl, its, n, rv, hl, ho⟩ := I.lstM hH
  obtain ⟨as, h4⟩ := Dp.readsAll I ds _ its ha rv
  have hn : its.length = ds.length := SeqAt.ReadsAll.length ds its as h4
  have hmap : its.map (SeqAt.readOf s.heap) = ds := SeqAt.readsAll_map ds its as hxs h4
  obtain ⟨hjd, _⟩ := List.getElem?_eq_some_iff.mp hz
  have hjl : j < its.length := by omega
  have hj : j < its.toArray.size := by simpa using hjl
  have at_ : ∀ (m : Nat) (hm : m < its.toArray.size) (z' : PyData), ds[m]? = some z' → SeqAt.readOf s.heap its.toArray[m] = z' := by
    intro m hm z' hz'
    have hml : m < its.length := by simpa using hm
    rw [← hmap, List.getElem?_map, List.getElem?_eq_getElem hml] at hz'
    have e1 : SeqAt.readOf s.heap its[m] = z' := Option.some.inj (show some (SeqAt.readOf s.heap its[m]) = some z' from hz')
    simpa using e1
  refine call_meets PySem.F.slot_list_remove ⟨_, ho, rfl⟩ PySem.F.entry_list_remove (PySem.F.args_list_remove_2 _ _)
    (SeqAt.list_removeAt l its.toArray n none #[] uy (fun u => PyData.eqv (SeqAt.readOf s.heap u) d) j hj ?_ ?_ (by rw [List.size_toArray, ← hl]; exact zl)) ⟨ho, SeqAt.items_eqAt (vs := its.toArray) (show ReadsAll s.heap its.toArray.toList ds as from h4) r1 hxs (SeqAt.canLay_of_shaped sd) hroom, ?_⟩
  · show PyData.eqv (SeqAt.readOf s.heap its.toArray[j]) d = true
    rw [at_ j hj z hz]
    exact hzj
  · intro m hm hmj
    have hmd : m < ds.length := by omega
    have hz' : ds[m]? = some ds[m] := List.getElem?_eq_getElem hmd
    show PyData.eqv (SeqAt.readOf s.heap its.toArray[m]) d = false
    rw [at_ m hm _ hz']
    exact hno m _ hmj hz'
  · have rr := rv.eraseIdx j
    refine ⟨.non, _, I.lset (its' := its.eraseIdx j) (t' := s.toks) hH ho ?_ rr ?_, rfl, q⟩
    · show its.toArray.eraseIdxIfInBounds j = (its.eraseIdx j).toArray
      rw [List.eraseIdxIfInBounds_toArray]
    · exact Nat.le_trans (len_erase ys j) zl
/-- X(), X an own exception class without own __init__ -/
theorem pmk_own0 {C : Addr} {bmB : List Value} {B newId initId : String} {x : Str} {p pos : Pos} (F : ExcBaseFacts B newId initId bmB) (q : PySem.W.excIn X.K C bmB newId = true) (gC : X.mg x = some (.ref C)) (kC : PySem.W.keepIn X.K (.ref C) = true) (r : Raises X (.ref C)) (hg : Gl X x)
    (hdb : (x == ("__debug__" : Str)) = false := by decide) : PMk X (.Call (.Name x p) [] [] pos) (fun _ H Q => Q (.ref C) none H) := by
  intro pins s σ H Q I h
  refine wpAny_Call_Name_kw (ld_glob I hg gC ?_ hdb)
  refine PySem.W.callWith_K0 I.kIn kC ?_
  show wpAny _ _ (call (.ref C) []) _ _ _
  obtain ⟨bm, N, nm, qn, bs, hdct, sn, sub, ab, col, dd, k0, k1, k2, k3, k5, mN, hC, hN, hni, T⟩ := exc_obj I.kIn q
  refine wpAny_call_exc_subT F T hC hN hni (fun h' e hm => ?_) (by show 0 ≤ sizeLine; exact Nat.zero_le _)
  exact mk_of I hm r h (I.hok.gone hm.new)
end
end Sg
namespace Sg
open PySem PySem.Spec PyProof.Rows L2
/-! ### calls in ascending order -/
def cLe : Cl → Cl → Bool := PySem.W.dataLe false encC
abbrev tk := PySem.W.keyToks
abbrev tkA := PySem.W.keyToksAll
theorem tkA_ints : ∀ (a b : List Int) (r t : List (Int ⊕ List Nat)), tkA (a.map PyData.int) ++ r = tkA (b.map PyData.int) ++ t → a = b ∧ r = t
  | [], [], r, t, h => ⟨rfl, by simpa [tkA, PySem.W.keyToksAll] using h⟩
  | [], y :: b, r, t, h => by simp [tkA, PySem.W.keyToksAll] at h
  | x :: a, [], r, t, h => by simp [tkA, PySem.W.keyToksAll] at h
  | x :: a, y :: b, r, t, h => by
    have h' : x = y ∧ tkA (a.map PyData.int) ++ r = tkA (b.map PyData.int) ++ t := by
      simpa [tkA, PySem.W.keyToksAll, PySem.W.keyToks] using h
    obtain ⟨e1, e2⟩ := h'
    obtain ⟨e3, e4⟩ := tkA_ints a b r t e2
    exact ⟨by rw [e1, e3], e4⟩
theorem tk_inj {a b : Cl} (h : tk (encC a) = tk (encC b)) : a = b := by
  obtain ⟨p, n, e, g⟩ := a
  obtain ⟨p', n', e', g'⟩ := b
  have h' : tkA (p.map PyData.int) ++ ([Sum.inl 1, Sum.inl n, Sum.inl 0] ++ ([Sum.inl 1, Sum.inr e.nm.cps.toList] ++ (Sum.inl 1 :: (tkA (g.map PyData.int) ++ [Sum.inl 0])))) =
      tkA (p'.map PyData.int) ++ ([Sum.inl 1, Sum.inl n', Sum.inl 0] ++ ([Sum.inl 1, Sum.inr e'.nm.cps.toList] ++ (Sum.inl 1 :: (tkA (g'.map PyData.int) ++ [Sum.inl 0])))) := by
    simpa [tk, tkA, encC, encK, PySem.W.keyToksAll, PySem.W.keyToks] using h
  obtain ⟨e1, h2⟩ := tkA_ints p p' _ _ h'
  simp only [List.cons_append, List.nil_append, List.cons.injEq, Sum.inl.injEq, Sum.inr.injEq, true_and] at h2
  obtain ⟨e2, e3, h3⟩ := h2
  obtain ⟨e4, _⟩ := tkA_ints g g' _ _ h3
  have e5 : e = e' := Ef.inj (PySem.W.str_of_cps e3)
  rw [e1, e2, e4, e5]
theorem cLe_tot : PySem.W.TotalLe cLe := PySem.W.sortLe_total (PyProof.Rows.listOrd PyProof.Rows.itemOrd) false fun b => PySem.W.keyToks (encC b)
theorem cLe_anti (a b : Cl) (h1 : cLe a b = true) (h2 : cLe b a = true) : a = b := by
  refine tk_inj (PyProof.Rows.lex_total (O := PyProof.Rows.itemOrd) _ _ ?_ ?_)
  · have : (!PyProof.Rows.lexLt PyProof.Rows.itemOrd (tk (encC a)) (tk (encC b))) = true := h2
    simpa using this
  · have : (!PyProof.Rows.lexLt PyProof.Rows.itemOrd (tk (encC b)) (tk (encC a))) = true := h1
    simpa using this
theorem sort_perm {a b : List Cl} (h : a.Perm b) : a.mergeSort cLe = b.mergeSort cLe := by
  refine PySem.W.Srt.the_of_perm cLe (fun x y z => cLe_tot.trans x y z) (fun x y => ?_) cLe_anti ((List.mergeSort_perm a cLe).trans h) (PySem.W.sort_pairwise cLe_tot a)
  rcases cLe_tot.total x y with e | e <;> rw [e] <;> simp
def rSortC (K : PySem.W.Frag) : List V → Hp → VK → Prop := fun vs H Q => ∃ (a : Addr) (ys : List V) (cs : List Cl), vs = [.ref a] ∧ SqL K H a ys ∧ DpAll K H ys (cs.map encC) ∧
  ∀ p zs, H p = none → DpAll K H zs ((cs.mergeSort cLe).map encC) → Q (.ref p) (upd H p (.lst zs))
theorem alike_enc (a b : Cl) : PySem.W.alike (encC a) (encC b) = true := by
  have h1 := PySem.W.alike_ints a.path b.path
  have h2 := PySem.W.alike_ints a.args b.args
  simp [encC, encK, PySem.W.alike, PySem.W.alikeAll, h1, h2]
theorem each_of {K : PySem.W.Frag} {H : Hp} {X : Cx} {pins : List (Addr × Obj)} {σ : L2.St} {s : Shared} : ∀ {ys : List V} {us : List Value} {cs : List Cl}, Vals ys us → DpAll K H ys (cs.map encC) →
    PySem.W.EachIs (fun u c => ∃ y, RelV y u ∧ Dp K H y (encC c)) us cs
  | _, _, [], r, h => by
    have h' : DpAll K H _ [] := h
    cases h'
    cases r
    exact .nil
  | _, _, c :: cs, r, h => by
    have h' : DpAll K H _ (encC c :: cs.map encC) := h
    cases h' with
    | cons h1 h2 =>
      cases r with
      | cons r1 r2 => exact .cons ⟨_, r1, h1⟩ (each_of (X := X) (pins := pins) (σ := σ) (s := s) r2 h2)
theorem each_to {K : PySem.W.Frag} {H : Hp} : ∀ {us : List Value} {cs : List Cl}, PySem.W.EachIs (fun u c => ∃ y, RelV y u ∧ Dp K H y (encC c)) us cs → ∃ zs, Vals zs us ∧ DpAll K H zs (cs.map encC)
  | _, _, .nil => ⟨[], .nil, .nil⟩
  | _, _, .cons ⟨y, r, h⟩ t => by
    obtain ⟨zs, h1, h2⟩ := each_to t
    exact ⟨y :: zs, .cons r h1, .cons h h2⟩
section
variable {X : Cx}
theorem cr_sortC (hu : X.A.units + 6 < cLine) : CallR X (.builtin "sorted") (rSortC X.K) := by
  intro pins s σ H vs us Q I r h
  obtain ⟨a, ys, cs, rfl, hs, hd, q⟩ := h
  obtain ⟨its, rv, hl, hz⟩ := I.list hs
  rw [Vals.ref1 r]
  have e := each_of (X := X) (pins := pins) (σ := σ) (s := s) rv hd
  have hlen : ys.length = cs.length := by rw [dpa_length hd, List.length_map]
  refine PySem.W.sorted_data (enc := encC) hl.isList e (e.mono fun u c ⟨y, r1, h1⟩ => Dp.reads I (encC c) y u h1 r1) (PySem.W.AllAlike.of alike_enc) (PySem.W.Sortable.tuples fun c => ⟨_, _, rfl⟩) (by omega) (fun c _ => ?_) fun out ho eo => ?_
  · rw [dep_encC]
    omega
  · obtain ⟨zs, h1, h2⟩ := each_to eo
    obtain ⟨ep, he'⟩ := PyProof.Rows.sortedAll_at s.heap its out.toArray
    have hz2 : zs.length ≤ sizeLine := by
      rw [h1.length, ho]
      omega
    exact ⟨.ref _, upd H (s.heap.objs.size + 1) (.lst zs), I.laid (t' := s.toks) (fun _ _ => PyProof.Rows.sortedAll_old) (Nat.le_succ _) ⟨hz2, out, ep, h1, he'⟩, rfl, q _ _ (I.hok.fresh (Nat.le_succ _)) h2⟩
end
end Sg
namespace Sg
open PySem PySem.Spec PyProof.Rows L2
section
variable {P : Program} {w : World} {K : PySem.W.Frag} {mg : Str → Option Value} {base : Heap}
/-! ### draws -/
def spMix : Sp := fun vs H Q _ => ∃ n k : Int, vs = [.int n, .int k] ∧ ∀ i : Int, Q (.int i) H
theorem ok_law_mix (T : Tx K mg) : FnOk P w K mg base CX0 1 T.law_mix.f T.law_mix.fd ["_law_number", "_law_k"] spMix := by
  refine T.law_mix.F.ok sc_law_mix (fun vs H Q E h => ?_) (fun cdv A outer s H vs Q E hr h => ?_)
  · obtain ⟨n, k, rfl, _⟩ := h
    rfl
  · obtain ⟨n, k, rfl, q⟩ := h
    refine ⟨_, (pss_one (ps_ret (pe_op op_mod (pe_op op_mul (pe_op op_mod (pe_callTy call_int1 (by rfl) T.z_int (by decide +kernel) (pa_cons (pe_op op_mul (pe_op op_add (pe_op op_add (pe_op op_mod (pe_callTy call_int1 (by rfl) T.z_int (by decide +kernel) (pa_cons (pv 0) pa_nil)) pe_int) (pe_op op_mul pe_int (pv 1))) pe_int) pe_int) pa_nil)) pe_int) pe_int) pe_int))), ?_⟩
    refine ⟨_, rfl, .inl ⟨_, rfl, _, _, rfl, rfl, (by show (0 : Int) < 1000003; decide), _, rfl, _, _, rfl, rfl, .inl ⟨by decide, by decide⟩, _, _, rfl, rfl, _, _, rfl, rfl, _, _, rfl, rfl, .inr ⟨by decide, by decide⟩, ?_⟩⟩
    exact .inl ⟨_, rfl, _, _, rfl, rfl, (by show (0 : Int) < 1000033; decide), _, _, rfl, rfl, .inr ⟨by decide, by decide⟩, _, _, rfl, rfl, (by show (0 : Int) < 998244353; decide), q _⟩
theorem upd_self {H : Hp} {r : Addr} {o : HO} (h : H r = some o) : upd H r o = H := by
  funext b
  by_cases e : b = r
  · rw [e, upd_same, h]
  · rw [upd_ne e]
/-- a draw: some number below the bound, some rest of the row -/
def spTake : Sp := fun vs H Q _ => ∃ (r : Addr) (ns : List Int) (b : Int), vs = [.ref r, .int b] ∧ H r = some (.lst (ns.map V.int)) ∧ 0 < b ∧
  ∀ (H' : Hp) (ns' : List Int) (k : Int), Chg [r] H H' → H' r = some (.lst (ns'.map V.int)) → 0 ≤ k → k < b → Q (.int k) H'
theorem ok_law_take (T : Tx K mg) : FnOk P w K mg base CX0 1 T.law_take.f T.law_take.fd ["_law_row", "_law_bound"] spTake := by
  refine T.law_take.F.ok sc_law_take (fun vs H Q E h => ?_) (fun cdv A outer s H vs Q E hr h => ?_)
  · obtain ⟨r, ns, b, rfl, _⟩ := h
    rfl
  · obtain ⟨r, ns, b, rfl, hH, hb, q⟩ := h
    refine ⟨_, (pss_cons (ps_if (pt_not (pt_truth (pv 0) (by intro _; rfl)))
        (pss_one (ps_ret pe_int))
        pss_nil)
    (pss_one (ps_ret (pe_op op_mod (pe_callTy call_int1 (by rfl) T.z_int (by decide +kernel) (pa_cons (pe_bm0 PySem.F.plainAttrs_list PySem.F.slot_list_pop PySem.F.type_list_pop mt_pop (pv 0)) pa_nil)) (pv 1))))), ?_⟩
    refine ⟨_, rfl, _, .inl ⟨_, SqL.of hH, rfl⟩, ?_⟩
    cases ns with
    | nil => exact iteT (q H [] 0 (Chg.refl _ _) hH (Int.le_refl _) hb)
    | cons n ns =>
      refine iteF ?_
      have e : ((n :: ns).map V.int)[((n :: ns).map V.int).length - 1]? = some (V.int ((n :: ns).getLast (by simp))) := by
        rw [← List.getLast?_eq_getElem?, List.getLast?_map, List.getLast?_eq_getLast (by simp)]
        rfl
      refine ⟨_, rfl, .inl ⟨rfl, _, SqL.of hH⟩, _, _, _, rfl, rfl, hH, e, .inl ⟨_, rfl, _, rfl, _, _, rfl, rfl, hb, ?_⟩⟩
      refine q _ ((n :: ns).dropLast) _ (Chg.put hH rfl (by simp)) ?_ (Int.emod_nonneg _ (by omega)) (Int.emod_lt_of_pos _ hb)
      rw [upd_same, List.map_dropLast]
end
end Sg
namespace Sg
open PySem PySem.Spec PyProof.Rows L2
section
variable {P : Program} {w : World} {K : PySem.W.Frag} {mg : Str → Option Value} {base : Heap}
theorem cut_int {ns : List Int} {lo hi : Option Int} {i : Nat} {x : V} (h : (cutV (ns.map V.int) lo hi)[i]? = some x) : ∃ z, x = .int z := by
  have m := List.mem_of_getElem? h
  have m2 : x ∈ ns.map V.int := List.mem_of_mem_drop (List.mem_of_mem_take m)
  obtain ⟨z, _, rfl⟩ := List.mem_map.mp m2
  exact ⟨z, rfl⟩
theorem small {n : Nat} (h : n ≤ 100000) : n ≤ sizeLine := Nat.le_trans h (by decide)
theorem smallL {n : Nat} (h : n < 100000) : n < sizeLine := Nat.lt_of_lt_of_le h (by decide)
theorem map_snoc (rs : List Int) (z : Int) : rs.map V.int ++ [V.int z] = (rs ++ [z]).map V.int := by rw [List.map_append]; rfl
/-- the numbers of a script: a new list of some numbers -/
def spNumbers (K : PySem.W.Frag) : Sp := fun vs H Q _ => ∃ (a : Addr) (ns : List Int) (c : Nat), vs = [.ref a, .int c] ∧ SqL K H a (ns.map V.int) ∧ ns.length ≤ 63 ∧ c ≤ 1000 ∧
  ∀ (H' : Hp) (p : Addr) (rs : List Int), Chg [] H H' → H p = none → H' p = some (.lst (rs.map V.int)) → Q (.ref p) H'
theorem ok_law_numbers (T : Tx K mg) : FnOk P w K mg base CX0 2 T.law_numbers.f T.law_numbers.fd ["_law_script", "_law_count"] (spNumbers K) := by
  refine T.law_numbers.F.ok sc_law_numbers (fun vs H Q E h => ?_) (fun cdv A outer s H vs Q E hr h => ?_)
  · obtain ⟨a, ns, c, rfl, _⟩ := h
    rfl
  · obtain ⟨a, ns, cn, rfl, hS, hl, hc, q⟩ := h
    refine ⟨_, (pss_cons (ps_set (i := 2) sc_law_numbers.nd rfl (by first | exact Or.inl rfl | exact Or.inr rfl) (pe_lst pa_nil))
    (pss_cons (ps_set (i := 3) sc_law_numbers.nd rfl (by first | exact Or.inl rfl | exact Or.inr rfl) pe_int)
    (pss_cons (ps_for PassesOwn.never rfl (pi_list (pe_slice sl_list (pv 0) po_none (po_some pe_int))) (pg_name (i := 4) sc_law_numbers.nd rfl (by first | exact Or.inl rfl | exact Or.inr rfl))
        (pss_cons (ps_set (i := 3) sc_law_numbers.nd rfl (by first | exact Or.inl rfl | exact Or.inr rfl) (pe_op op_add (pv 3) (pv 4)))
        (pss_one (ps_if (pt_cmpR op_ge (pv 4) pe_int (nomark _))
            (pss_cons (ps_set (i := 5) sc_law_numbers.nd rfl (by first | exact Or.inl rfl | exact Or.inr rfl) (pv 4))
            (pss_one (ps_for PassesOwn.never rfl (pi_range1 rfl T.z_range (pa_cons pe_int pa_nil)) (pg_name (i := 6) sc_law_numbers.nd rfl (by first | exact Or.inl rfl | exact Or.inr rfl))
                (pss_cons (ps_expr (pe_bm PySem.F.plainAttrs_list PySem.F.slot_list_append PySem.F.type_list_append mt_append (pv 2) (pa_cons (pe_op op_mod (pe_callTy call_int1 (by rfl) T.z_int (by decide +kernel) (pa_cons (pv 5) pa_nil)) pe_int) pa_nil)))
                (pss_cons (ps_set (i := 5) sc_law_numbers.nd rfl (by first | exact Or.inl rfl | exact Or.inr rfl) (pe_op op_fdiv (pv 5) pe_int))
                (pss_one (ps_if (pt_cmpR op_eq (pv 5) pe_int (nomark _))
                    (pss_one ps_break)
                    pss_nil)))))))
            (pss_one (ps_expr (pe_bm PySem.F.plainAttrs_list PySem.F.slot_list_append PySem.F.type_list_append mt_append (pv 2) (pa_cons (pe_call (ok_law_mix T) (hr.mono (by decide)) (by rfl) T.law_mix.g T.law_mix.F.kp T.law_mix.b .nil pass0 (pa_cons (pe_call (ok_law_mix T) (hr.mono (by decide)) (by rfl) T.law_mix.g T.law_mix.F.kp T.law_mix.b .nil pass0 (pa_cons (pv 4) (pa_cons pe_int pa_nil))) (pa_cons pe_int pa_nil))) pa_nil))))))))
    (pss_cons (ps_for PassesOwn.never rfl (pi_range1 rfl T.z_range (pa_cons (pv 1) pa_nil)) (pg_name (i := 6) sc_law_numbers.nd rfl (by first | exact Or.inl rfl | exact Or.inr rfl))
        (pss_one (ps_expr (pe_bm PySem.F.plainAttrs_list PySem.F.slot_list_append PySem.F.type_list_append mt_append (pv 2) (pa_cons (pe_call (ok_law_mix T) (hr.mono (by decide)) (by rfl) T.law_mix.g T.law_mix.F.kp T.law_mix.b .nil pass0 (pa_cons (pe_call (ok_law_mix T) (hr.mono (by decide)) (by rfl) T.law_mix.g T.law_mix.F.kp T.law_mix.b .nil pass0 (pa_cons (pe_op op_add (pv 3) (pe_op op_mul pe_int (pv 6))) (pa_cons (pe_op op_add pe_int (pv 6)) pa_nil))) (pa_cons pe_int pa_nil))) pa_nil)))))
    (pss_cons (ps_expr (pe_bm0 PySem.F.plainAttrs_list PySem.F.slot_list_reverse PySem.F.type_list_reverse mt_reverse (pv 2)))
    (pss_one (ps_ret (pv 2)))))))), ?_⟩
    refine ⟨Nat.zero_le _, fun o no => ?_⟩
    -- the slice
    have c0 : Chg [] H (upd H o (.lst [])) := Chg.new no
    refine ⟨_, rfl, 63, rfl, a, _, rfl, c0.sqL hS (by simp), fun c nc => ?_⟩
    have nco : c ≠ o := fun e => by
      rw [e, upd_same] at nc
      cases nc
    have nc' : H c = none := c0.free nc
    generalize hcut : cutV (ns.map V.int) none (some 63) = cut
    have hcl : cut.length ≤ 63 := by
      rw [← hcut]
      refine Nat.le_trans (cutV_length _ _ _) ?_
      rw [List.length_map]
      exact hl
    refine ⟨c, rfl, ⟨_, SqL.of upd_same⟩, for_list (K := K) (a := c) (xs := cut) (fun i σ H3 => ∃ (rs : List Int) (b : Int) (x4 x5 x6 : Option V), σ = [some (.ref a), some (.int cn), some (.ref o), some (.int b), x4, x5, x6] ∧ Chg [] H H3 ∧ H3 o = some (.lst (rs.map V.int)) ∧ rs.length ≤ 60 * i ∧ H3 c = some (.lst cut))
      ⟨[], 0, none, none, none, rfl, (c0.mut nc'), by rw [upd_ne nco.symm, upd_same]; rfl, Nat.zero_le _, upd_same⟩ (fun i σ H3 _ ⟨_, _, _, _, _, _, _, _, _, h⟩ => SqL.of h) ?_ ?_⟩
    · rintro i x σ H3 hi ⟨rs, b, x4, x5, x6, rfl, c3, ho, hlr, hcc⟩
      have hil : i < cut.length := (List.getElem?_eq_some_iff.mp hi).1
      obtain ⟨z, rfl⟩ : ∃ z, x = .int z := by
        rw [← hcut] at hi
        exact cut_int hi
      refine ⟨_, rfl, _, rfl, _, _, rfl, rfl, ?_⟩
      refine ⟨_, rfl, _, _, rfl, rfl, _, rfl, ite2 (fun _ => ?_) (fun _ => ?_)⟩
      · -- sixty rests
        refine ⟨_, rfl, 60, rfl, by decide, by decide, for_range (n := 60) (fun j σ H4 => ∃ (rs : List Int) (x5 : Int) (x6 : Option V), σ = [some (.ref a), some (.int cn), some (.ref o), some (.int (b + z)), some (.int z), some (.int x5), x6] ∧ Chg [] H H4 ∧ H4 o = some (.lst (rs.map V.int)) ∧ rs.length ≤ 60 * i + j ∧ H4 c = some (.lst cut))
          ⟨rs, z, x6, rfl, c3, ho, hlr, hcc⟩ ?_ ?_⟩
        · rintro j σ H4 hj ⟨rs4, x5', x6', rfl, c4, ho4, hl4, hc4⟩
          refine ⟨_, rfl, .inl ⟨rfl, _, SqL.of ho4⟩, _, rfl, .inl ⟨_, rfl, _, _, rfl, rfl, (by show (0 : Int) < 840; decide), _, _, _, rfl, rfl, ho4, ?_, ?_⟩⟩
          · rw [List.length_map]
            exact smallL (by omega)
          · refine ⟨_, rfl, _, _, rfl, rfl, ⟨by decide, by decide⟩, _, rfl, rfl, _, rfl, ite2 (fun _ => ?_) (fun _ => ?_)⟩
            · refine ⟨rs4 ++ [x5' % 840], b + z, _, _, _, rfl, c4.mut no, by rw [upd_same, map_snoc], ?_, by rw [upd_ne nco]; exact hc4⟩
              rw [List.length_append, List.length_singleton]
              omega
            · refine ⟨rs4 ++ [x5' % 840], _, _, rfl, c4.mut no, by rw [upd_same, map_snoc], ?_, by rw [upd_ne nco]; exact hc4⟩
              rw [List.length_append, List.length_singleton]
              omega
        · rintro σ H4 ⟨rs4, x5', x6', rfl, c4, ho4, hl4, hc4⟩
          exact ⟨rs4, b + z, _, _, _, rfl, c4, ho4, by omega, hc4⟩
      · refine ⟨_, rfl, .inl ⟨rfl, _, SqL.of ho⟩, _, rfl, _, _, rfl, fun i1 => ⟨_, _, rfl, fun i2 => ⟨_, _, _, rfl, rfl, ho, ?_, ?_⟩⟩⟩
        · rw [List.length_map]
          exact smallL (by omega)
        · refine ⟨rs ++ [i2], b + z, _, _, _, rfl, c3.mut no, by rw [upd_same, map_snoc], ?_, by rw [upd_ne nco]; exact hcc⟩
          rw [List.length_append, List.length_singleton]
          omega
    · rintro σ H3 ⟨rs, b, x4, x5, x6, rfl, c3, ho, hlr, hcc⟩
      refine ⟨_, rfl, _, rfl, by omega, by omega, for_range (n := cn) (fun j σ H4 => ∃ (rs : List Int) (x6 : Option V), σ = [some (.ref a), some (.int cn), some (.ref o), some (.int b), x4, x5, x6] ∧ Chg [] H H4 ∧ H4 o = some (.lst (rs.map V.int)) ∧ rs.length ≤ 60 * 63 + j)
        ⟨rs, x6, rfl, c3, ho, by omega⟩ ?_ ?_⟩
      · rintro j σ H4 hj ⟨rs4, x6', rfl, c4, ho4, hl4⟩
        refine ⟨_, rfl, .inl ⟨rfl, _, SqL.of ho4⟩, _, rfl, _, rfl, _, _, rfl, rfl, .inl ⟨by decide, by decide⟩, _, _, rfl, rfl, _, rfl, _, _, rfl, rfl, _, _, rfl, fun i1 => ⟨_, _, rfl, fun i2 => ⟨_, _, _, rfl, rfl, ho4, ?_, ?_⟩⟩⟩
        · rw [List.length_map]
          exact smallL (by omega)
        · refine ⟨rs4 ++ [i2], _, rfl, c4.mut no, by rw [upd_same, map_snoc], ?_⟩
          rw [List.length_append, List.length_singleton]
          omega
      · rintro σ H4 ⟨rs4, x6', rfl, c4, ho4, hl4⟩
        refine ⟨_, rfl, .inl ⟨rfl, _, SqL.of ho4⟩, _, _, rfl, rfl, ho4, _, rfl, ?_⟩
        exact q _ o rs4.reverse (c4.mut no) no (by rw [upd_same, List.map_reverse])
end
end Sg
namespace Sg
open PySem PySem.Spec PyProof.Rows L2
section
variable {P : Program} {w : World} {K : PySem.W.Frag} {mg : Str → Option Value} {base : Heap}
theorem hu65_of {A : Around} {k : Nat} (hr : Room k A) : A.units + 65 < cLine := by
  have := hr.un
  omega
theorem tup2 {H : Hp} {v w : V} : SqT K (upd H a (.tup [v, w])) a [v, w] := SqT.of upd_same
/-! ### a call drawn -/
def spCall (K : PySem.W.Frag) : Sp := fun vs H Q _ => ∃ (r l : Addr) (ns : List Int) (ks : List (List Int × Int)), vs = [.ref r, .ref l] ∧ H r = some (.lst (ns.map V.int)) ∧ r ≠ l ∧ LstD K H l (ks.map fun k => encK k.1 k.2) ∧ ks.length ≤ 100 ∧
  ∀ (H' : Hp) (v : V) (c : Cl) (ns' : List Int), Chg [r] H H' → H' r = some (.lst (ns'.map V.int)) → Dp K H' v (encC c) → c.args.length ≤ 2 → Q v H'
theorem noLs_encKs (ks : List (List Int × Int)) : noLs (ks.map fun k => encK k.1 k.2) = true := noLs_all fun d hd => by
  obtain ⟨c, _, rfl⟩ := List.mem_map.mp hd
  exact noL_encK _ _
theorem shaped_encKs (ks : List (List Int × Int)) : SeqAt.shaped (.list (ks.map fun k => encK k.1 k.2)) = true := by
  refine shaped_list (n := 2) (fun d hd => ?_) (fun d hd => ?_) (by decide)
  · obtain ⟨c, _, rfl⟩ := List.mem_map.mp hd
    exact lay_encK _ _
  · obtain ⟨c, _, rfl⟩ := List.mem_map.mp hd
    rw [dep_encK]
    exact Nat.le_refl _
theorem ok_law_call (T : Tx K mg) : FnOk P w K mg base CX0 2 T.law_call.f T.law_call.fd ["_law_row", "_law_keys"] (spCall K) := by
  refine T.law_call.F.ok sc_law_call (fun vs H Q E h => ?_) (fun cdv A outer s H vs Q E hr h => ?_)
  · obtain ⟨r, l, ns, ks, rfl, _⟩ := h
    rfl
  · obtain ⟨r, l, ns, ks, rfl, hR, hrl, hL, hks, q⟩ := h
    have hu65 := hu65_of hr
    refine ⟨_, (pss_cons (ps_set (i := 2) sc_law_call.nd rfl (by first | exact Or.inl rfl | exact Or.inr rfl) (pe_tup (pa_cons (pe_tup pa_nil) (pa_cons (pe_call (ok_law_take T) (hr.mono (by decide)) (by rfl) T.law_take.g T.law_take.F.kp T.law_take.b .nil pass0 (pa_cons (pv 0) (pa_cons pe_int pa_nil))) pa_nil))))
    (C8.pss_cut (ps_if (pt_cmpR op_eq (pe_call (ok_law_take T) (hr.mono (by decide)) (by rfl) T.law_take.g T.law_take.F.kp T.law_take.b .nil pass0 (pa_cons (pv 0) (pa_cons pe_int pa_nil))) pe_int (nomark _))
        (pss_one (ps_set (i := 2) sc_law_call.nd rfl (by first | exact Or.inl rfl | exact Or.inr rfl) (pe_tup (pa_cons (pe_tup (pa_cons (pe_call (ok_law_take T) (hr.mono (by decide)) (by rfl) T.law_take.g T.law_take.F.kp T.law_take.b .nil pass0 (pa_cons (pv 0) (pa_cons pe_int pa_nil))) pa_nil)) (pa_cons (pe_call (ok_law_take T) (hr.mono (by decide)) (by rfl) T.law_take.g T.law_take.F.kp T.law_take.b .nil pass0 (pa_cons (pv 0) (pa_cons pe_int pa_nil))) pa_nil)))))
        pss_nil)
    (C8.pss_cut (ps_if (pt_cmpR (op_inD hu65) (pv 2) (pv 1) (by rfl))
        (pss_one (ps_set (i := 2) sc_law_call.nd rfl (by first | exact Or.inl rfl | exact Or.inr rfl) (pe_tup (pa_cons (pe_tup (pa_cons pe_int (pa_cons (pe_callB call_len_seq (by rfl) T.z_len PySem.boot_len (pa_cons (pv 1) pa_nil)) pa_nil))) (pa_cons (pe_op op_add pe_int (pe_callB call_len_seq (by rfl) T.z_len PySem.boot_len (pa_cons (pv 1) pa_nil))) pa_nil)))))
        pss_nil)
    (pss_cons (ps_set (i := 3) sc_law_call.nd rfl (by first | exact Or.inl rfl | exact Or.inr rfl) (pe_ix ix_list (pe_lst (pa_cons pe_str (pa_cons pe_str (pa_cons pe_str pa_nil)))) (pe_call (ok_law_take T) (hr.mono (by decide)) (by rfl) T.law_take.g T.law_take.F.kp T.law_take.b .nil pass0 (pa_cons (pv 0) (pa_cons pe_int pa_nil))) (fun _ _ => rfl)))
    (pss_cons (ps_if (pt_cmpR op_eq (pv 3) pe_str (nomark _))
        (pss_one (ps_ret (pe_tup (pa_cons (pv 2) (pa_cons (pv 3) (pa_cons (pe_tup pa_nil) pa_nil))))))
        pss_nil)
    (pss_cons (ps_if (pt_cmpR op_eq (pv 3) pe_str (nomark _))
        (pss_one (ps_ret (pe_tup (pa_cons (pv 2) (pa_cons (pv 3) (pa_cons (pe_tup (pa_cons (pe_op op_sub (pe_call (ok_law_take T) (hr.mono (by decide)) (by rfl) T.law_take.g T.law_take.F.kp T.law_take.b .nil pass0 (pa_cons (pv 0) (pa_cons pe_int pa_nil))) pe_int) pa_nil)) pa_nil))))))
        pss_nil)
    (pss_one (ps_ret (pe_tup (pa_cons (pv 2) (pa_cons (pv 3) (pa_cons (pe_tup (pa_cons (pe_call (ok_law_take T) (hr.mono (by decide)) (by rfl) T.law_take.g T.law_take.F.kp T.law_take.b .nil pass0 (pa_cons (pv 0) (pa_cons pe_int pa_nil))) (pa_cons (pe_call (ok_law_take T) (hr.mono (by decide)) (by rfl) T.law_take.g T.law_take.F.kp T.law_take.b .nil pass0 (pa_cons (pv 0) (pa_cons pe_int pa_nil))) pa_nil))) pa_nil)))))))))))), ?_⟩
    -- key = ((), take)
    refine ⟨Nat.zero_le _, fun e ne => ?_⟩
    have c0 : Chg [r] H (upd H e (.tup [])) := Chg.new ne
    refine ⟨_, rfl, r, ns, 9, rfl, by rw [upd_ne (ne_of_none hR ne)]; exact hR, by decide, fun H1 ns1 k c1 hR1 _ _ => ⟨(by show 2 ≤ sizeLine; decide), fun p np => ?_⟩⟩
    have c2 : Chg [r] H (upd H1 p (.tup [.ref e, .int k])) := (c0.trans c1).trans (Chg.new np)
    have d2 : Dp K (upd H1 p (.tup [.ref e, .int k])) (.ref p) (encK [] k) := dpK_mk (SqT.of upd_same) (SqT.of (by rw [upd_ne (c1.ne np upd_same)]; exact c1.tup _ _ upd_same))
    have hR2 : upd H1 p (.tup [.ref e, .int k]) r = some (.lst (ns1.map V.int)) := by rw [upd_ne (ne_of_none hR1 np)]; exact hR1
    refine ⟨fun σ H2 => ∃ (v : V) (ns2 : List Int) (pa : List Int) (n : Int) (x3 : Option V), σ = [some (.ref r), some (.ref l), some v, x3] ∧ Chg [r] H H2 ∧ H2 r = some (.lst (ns2.map V.int)) ∧ Dp K H2 v (encK pa n), ?_, ?_⟩
    · -- if take == 0: key = ((take,), take)
      refine ⟨_, rfl, r, ns1, 3, rfl, hR2, by decide, fun H3 ns3 k3 c3 hR3 _ _ => ⟨rfl, _, rfl, ite2 (fun _ => ?_) (fun _ => ?_)⟩⟩
      · refine ⟨_, rfl, r, ns3, 2, rfl, hR3, by decide, fun H4 ns4 k4 c4 hR4 _ _ => ⟨(by show 1 ≤ sizeLine; decide), fun t nt => ?_⟩⟩
        have c5 : Chg [r] H (upd H4 t (.tup [.int k4])) := ((c2.trans c3).trans c4).trans (Chg.new nt)
        refine ⟨_, rfl, r, ns4, 4, rfl, by rw [upd_ne (ne_of_none hR4 nt)]; exact hR4, by decide, fun H5 ns5 k5 c6 hR5 _ _ => ⟨(by show 2 ≤ sizeLine; decide), fun u nu => ?_⟩⟩
        refine ⟨.ref u, ns5, [k4], k5, none, rfl, (c5.trans c6).trans (Chg.new nu), by rw [upd_ne (ne_of_none hR5 nu)]; exact hR5, dpK_mk (SqT.of upd_same) (SqT.of ?_)⟩
        rw [upd_ne (c6.ne nu upd_same)]
        exact c6.tup _ _ upd_same
      · exact ⟨.ref p, ns3, [], k, none, rfl, c2.trans c3, hR3, c3.dp _ _ (noL_encK _ _) d2⟩
    · rintro σ H3 ⟨v, ns3, pa, n, x3, rfl, c3, hR3, d3⟩
      have hL3 := c3.lstD hL (by simpa using hrl.symm) (noLs_encKs ks)
      refine ⟨fun σ H4 => ∃ (v : V) (pa : List Int) (n : Int) (x3 : Option V), σ = [some (.ref r), some (.ref l), some v, x3] ∧ Chg [r] H H4 ∧ H4 r = some (.lst (ns3.map V.int)) ∧ Dp K H4 v (encK pa n), ?_, ?_⟩
      · refine ⟨_, rfl, _, rfl, _, _, d3, hL3.dp, shaped_encK _ _, shaped_encKs ks, _, rfl, ite2 (fun _ => ?_) (fun _ => ?_)⟩
        · obtain ⟨vs, hv, hvl⟩ := hL3.there
          refine ⟨_, rfl, l, vs, rfl, .inl (SqL.of hv), (by show 2 ≤ sizeLine; decide), fun t nt => ?_⟩
          have c4 : Chg [r] H (upd H3 t (.tup [.int 1, .int vs.length])) := c3.trans (Chg.new nt)
          have hv4 : upd H3 t (.tup [.int 1, .int vs.length]) l = some (.lst vs) := by rw [upd_ne (ne_of_none hv nt)]; exact hv
          refine ⟨_, rfl, l, vs, rfl, .inl (SqL.of hv4), _, _, rfl, rfl, (by show 2 ≤ sizeLine; decide), fun u nu => ?_⟩
          refine ⟨.ref u, [1, vs.length], 50 + vs.length, x3, rfl, c4.trans (Chg.new nu), ?_, dpK_mk (SqT.of upd_same) (SqT.of ?_)⟩
          · have h1 := ne_of_none (c4.keep r _ hR |> fun _ => (show upd H3 t (.tup [.int 1, .int vs.length]) r = some (.lst (ns3.map V.int)) by rw [upd_ne (ne_of_none hR3 nt)]; exact hR3)) nu
            rw [upd_ne h1, upd_ne (ne_of_none hR3 nt)]
            exact hR3
          · rw [upd_ne (ne_of_none upd_same nu), upd_same]
            rfl
        · exact ⟨v, pa, n, x3, rfl, c3, hR3, d3⟩
      · rintro σ H4 ⟨v, pa, n, x3, rfl, c4, hR4, d4⟩
        -- the effect
        refine ⟨(by show 3 ≤ sizeLine; decide), fun o no => ?_⟩
        have c5 : Chg [r] H4 (upd H4 o (.lst [.str "pay", .str "ship", .str "tell"])) := Chg.new no
        refine ⟨_, rfl, r, ns3, 3, rfl, by rw [upd_ne (ne_of_none hR4 no)]; exact hR4, by decide, fun H5 ns5 k5 c6 hR5 k50 k53 => ?_⟩
        have ho5 : H5 o = some (.lst [.str "pay", .str "ship", .str "tell"]) := c6.keep o _ upd_same (by simpa using (ne_of_none hR4 no).symm)
        have c7 := (c4.trans c5).trans c6
        have d7 : Dp K H5 v (encK pa n) := c6.dp _ _ (noL_encK _ _) (c5.dp _ _ (noL_encK _ _) d4)
        obtain ⟨ef, hef⟩ : ∃ e : Ef, ([.str "pay", .str "ship", .str "tell"] : List V)[k5.toNat]? = some (.str e.nm) ∧ True := by
          have h : k5.toNat = 0 ∨ k5.toNat = 1 ∨ k5.toNat = 2 := by omega
          rcases h with h | h | h <;> rw [h]
          · exact ⟨.pay, rfl, trivial⟩
          · exact ⟨.ship, rfl, trivial⟩
          · exact ⟨.tell, rfl, trivial⟩
        have ek : k5 = (k5.toNat : Int) := by omega
        refine ⟨o, _, k5, .str ef.nm, rfl, rfl, SqL.of ho5, by rw [ek]; exact atI_nat hef.1, ?_⟩
        refine ⟨_, rfl, rfl, _, rfl, ite2 (fun _ => ?_) (fun _ => ?_)⟩
        · refine ⟨_, rfl, _, rfl, Nat.zero_le _, fun t nt => ⟨(by show 3 ≤ sizeLine; decide), fun u nu => ?_⟩⟩
          have c8 : Chg [r] H5 (upd H5 t (.tup [])) := Chg.new nt
          have c9 : Chg [r] (upd H5 t (.tup [])) (upd (upd H5 t (.tup [])) u (.tup [v, .str ef.nm, .ref t])) := Chg.new nu
          have nR := c8.trans c9
          refine q _ (.ref u) ⟨pa, n, ef, []⟩ ns5 (c7.trans nR) ?_ (dpC_mk (SqT.of upd_same) (nR.dp _ _ (noL_encK _ _) d7) (SqT.of (by rw [upd_ne (ne_of_none upd_same nu), upd_same]; rfl))) (by show 0 ≤ 2; decide)
          have h1 : upd H5 t (.tup []) r = some (.lst (ns5.map V.int)) := by rw [upd_ne (ne_of_none hR5 nt)]; exact hR5
          rw [upd_ne (ne_of_none h1 nu)]
          exact h1
        · refine ⟨_, rfl, rfl, _, rfl, ite2 (fun _ => ?_) (fun _ => ?_)⟩
          · refine ⟨_, rfl, _, rfl, _, rfl, r, ns5, 9, rfl, hR5, by decide, fun H6 ns6 k6 c8 hR6 _ _ => ⟨_, _, rfl, rfl, (by show 1 ≤ sizeLine; decide), fun t nt => ⟨(by show 3 ≤ sizeLine; decide), fun u nu => ?_⟩⟩⟩
            have c9 : Chg [r] H6 (upd H6 t (.tup [.int (k6 - 2)])) := Chg.new nt
            have c10 : Chg [r] (upd H6 t (.tup [.int (k6 - 2)])) (upd (upd H6 t (.tup [.int (k6 - 2)])) u (.tup [v, .str ef.nm, .ref t])) := Chg.new nu
            have nR := (c8.trans c9).trans c10
            refine q _ (.ref u) ⟨pa, n, ef, [k6 - 2]⟩ ns6 (c7.trans nR) ?_ (dpC_mk (SqT.of upd_same) (nR.dp _ _ (noL_encK _ _) d7) (SqT.of (by rw [upd_ne (ne_of_none upd_same nu), upd_same]; rfl))) (by show 1 ≤ 2; decide)
            have h1 : upd H6 t (.tup [.int (k6 - 2)]) r = some (.lst (ns6.map V.int)) := by rw [upd_ne (ne_of_none hR6 nt)]; exact hR6
            rw [upd_ne (ne_of_none h1 nu)]
            exact h1
          · refine ⟨_, rfl, _, rfl, _, rfl, r, ns5, 4, rfl, hR5, by decide, fun H6 ns6 k6 c8 hR6 _ _ => ⟨_, rfl, r, ns6, 6, rfl, hR6, by decide, fun H7 ns7 k7 c9 hR7 _ _ => ⟨(by show 2 ≤ sizeLine; decide), fun t nt => ⟨(by show 3 ≤ sizeLine; decide), fun u nu => ?_⟩⟩⟩⟩
            have c10 : Chg [r] H7 (upd H7 t (.tup [.int k6, .int k7])) := Chg.new nt
            have c11 : Chg [r] (upd H7 t (.tup [.int k6, .int k7])) (upd (upd H7 t (.tup [.int k6, .int k7])) u (.tup [v, .str ef.nm, .ref t])) := Chg.new nu
            have nR := ((c8.trans c9).trans c10).trans c11
            refine q _ (.ref u) ⟨pa, n, ef, [k6, k7]⟩ ns7 (c7.trans nR) ?_ (dpC_mk (SqT.of upd_same) (nR.dp _ _ (noL_encK _ _) d7) (SqT.of (by rw [upd_ne (ne_of_none upd_same nu), upd_same]; rfl))) (by show 2 ≤ 2; decide)
            have h1 : upd H7 t (.tup [.int k6, .int k7]) r = some (.lst (ns7.map V.int)) := by rw [upd_ne (ne_of_none hR7 nt)]; exact hR7
            rw [upd_ne (ne_of_none h1 nu)]
            exact h1
end
end Sg
namespace Sg
open PySem PySem.Spec PyProof.Rows L2
section
variable {P : Program} {w : World} {K : PySem.W.Frag} {mg : Str → Option Value} {base : Heap}
theorem Chg.same {S : List Addr} {H H1 H2 : Hp} (a : Chg S H H1) (b : Same H1 H2) : Chg S H H2 := a.trans (Chg.of_same b)
theorem same_new {H : Hp} {p : Addr} {o : HO} (h : H p = none) : Same H (upd H p o) := fun b u e => by rw [upd_ne (ne_of_none e h)]; exact e
theorem same_mut {H H' : Hp} {p : Addr} {o : HO} (s : Same H H') (h : H p = none) : Same H (upd H' p o) := fun b u e => by rw [upd_ne (ne_of_none e h)]; exact s b u e
/-- some calls drawn, at most four -/
def spCalls (K : PySem.W.Frag) : Sp := fun vs H Q _ => ∃ (r : Addr) (ns : List Int), vs = [.ref r, .int 4] ∧ H r = some (.lst (ns.map V.int)) ∧
  ∀ (H' : Hp) (p : Addr) (cs : List Cl) (ns' : List Int), Chg [r] H H' → H p = none → H' r = some (.lst (ns'.map V.int)) → LstD K H' p (cs.map encC) → cs.length ≤ 4 → (∀ c ∈ cs, c.args.length ≤ 2) → Q (.ref p) H'
theorem ok_law_calls (T : Tx K mg) : FnOk P w K mg base CX0 3 T.law_calls.f T.law_calls.fd ["_law_row", "_law_most"] (spCalls K) := by
  refine T.law_calls.F.ok sc_law_calls (fun vs H Q E h => ?_) (fun cdv A outer s H vs Q E hr h => ?_)
  · obtain ⟨r, ns, rfl, _⟩ := h
    rfl
  · obtain ⟨r, ns, rfl, hR, q⟩ := h
    refine ⟨_, (pss_cons (ps_set (i := 2) sc_law_calls.nd rfl (by first | exact Or.inl rfl | exact Or.inr rfl) (pe_lst pa_nil))
    (pss_cons (ps_for PassesOwn.never rfl (pi_range1 rfl T.z_range (pa_cons (pe_call (ok_law_take T) (hr.mono (by decide)) (by rfl) T.law_take.g T.law_take.F.kp T.law_take.b .nil pass0 (pa_cons (pv 0) (pa_cons (pe_op op_add (pv 1) pe_int) pa_nil))) pa_nil)) (pg_name (i := 3) sc_law_calls.nd rfl (by first | exact Or.inl rfl | exact Or.inr rfl))
        (pss_one (ps_expr (pe_bm PySem.F.plainAttrs_list PySem.F.slot_list_append PySem.F.type_list_append mt_append (pv 2) (pa_cons (pe_call (ok_law_call T) (hr.mono (by decide)) (by rfl) T.law_call.g T.law_call.F.kp T.law_call.b .nil pass0 (pa_cons (pv 0) (pa_cons (pe_lc (own := [("_law_call_here", 4)]) (g := gName 4) (tt := tYes) rfl sc_law_calls.nd (pi_list (pv 2)) (blkOk_by (own := [("_law_call_here", 4)]) (N := n_law_calls) (sc := defScope s_law_calls) (by decide +kernel)) (fun _ _ _ _ _ => pg_name (i := 4) sc_law_calls.nd rfl (by first | exact Or.inl rfl | exact Or.inr rfl)) (fun _ _ _ _ _ => pts_nil) (fun _ _ _ _ _ => (pe_ix (r := rIxT K) ix_tup (pv 4) pe_int (fun _ _ => rfl)))) pa_nil))) pa_nil)))))
    (pss_one (ps_ret (pv 2))))), ?_⟩
    refine ⟨Nat.zero_le _, fun p np => ?_⟩
    have c0 : Chg [r] H (upd H p (.lst [])) := Chg.new np
    refine ⟨_, rfl, _, rfl, _, _, rfl, rfl, r, ns, 5, rfl, by rw [upd_ne (ne_of_none hR np)]; exact hR, by decide, fun H1 ns1 k c1 hR1 k0 k5 => ?_⟩
    have hp1 : H1 p = some (.lst []) := c1.keep p _ upd_same (by simpa using (ne_of_none hR np).symm)
    have hrp : r ≠ p := ne_of_none hR np
    refine ⟨k, rfl, by omega, by omega, for_range (n := k.toNat) (fun i σ H3 => ∃ (cs : List Cl) (ns3 : List Int) (x3 x4 : Option V), σ = [some (.ref r), some (.int 4), some (.ref p), x3, x4] ∧ Chg [r] H H3 ∧ H3 r = some (.lst (ns3.map V.int)) ∧ LstD K H3 p (cs.map encC) ∧ cs.length = i ∧ ∀ c ∈ cs, c.args.length ≤ 2)
      ⟨[], ns1, none, none, rfl, c0.trans c1, hR1, ⟨[], hp1, .nil⟩, rfl, fun c hc => by cases hc⟩ ?_ ?_⟩
    · rintro i σ H3 hi ⟨cs, ns3, x3, x4, rfl, c3, hR3, ⟨vs, hp3, hd3⟩, hlen, harg⟩
      have hvl : vs.length = i := by rw [dpa_length hd3, List.length_map, hlen]
      refine ⟨_, rfl, .inl ⟨rfl, _, SqL.of hp3⟩, _, rfl, _, rfl, p, rfl, ⟨_, SqL.of hp3⟩, fun D nD => ?_⟩
      refine lc_list (K := K) (a := p) (xs := vs) (fun j H4 => Same H3 H4 ∧ LstD K H4 D ((cs.take j).map fun c => encK c.path c.num)) ⟨same_new nD, ⟨[], upd_same, .nil⟩⟩ (fun j H4 _ h => SqL.of (h.1 p _ hp3)) ?_ ?_
      · rintro j x H4 hj ⟨s4, kv, hD4, hk4⟩
        refine ⟨rfl, ?_⟩
        obtain ⟨d, hd, hx⟩ := dpa_get hd3 hj
        rw [List.getElem?_map] at hd
        obtain ⟨c, hc, rfl⟩ := Option.map_eq_some_iff.mp hd
        obtain ⟨a, k, g, rfl, hT, hK, hG⟩ := dpC_inv ((Chg.of_same (S := []) s4).dp _ _ (noL_encC c) hx)
        have hjl : j < vs.length := (List.getElem?_eq_some_iff.mp hj).1
        refine ⟨_, rfl, a, _, 0, k, rfl, rfl, hT, atI_nat (j := 0) rfl, kv, hD4, ?_, ?_⟩
        · rw [dpa_length hk4, List.length_map, List.length_take]
          exact smallL (by omega)
        · refine ⟨same_mut s4 nD, kv ++ [k], upd_same, ?_⟩
          have cc : Chg [D] H4 (upd H4 D (.lst (kv ++ [k]))) := Chg.put hD4 rfl (by simp)
          rw [List.take_add_one, hc, List.map_append]
          exact dpa_snoc (cc.dps _ _ (noLs_all (by
            intro d hd
            obtain ⟨c', _, rfl⟩ := List.mem_map.mp hd
            exact noL_encK _ _)) hk4) (cc.dp _ _ (noL_encK _ _) hK)
      · rintro H4 ⟨s4, hL4⟩
        have et : cs.take vs.length = cs := List.take_of_length_le (by omega)
        rw [et] at hL4
        have hrD : r ≠ D := ne_of_none hR3 nD
        refine ⟨r, D, ns3, cs.map fun c => (c.path, c.num), rfl, s4 r _ hR3, hrD, by rw [List.map_map]; exact hL4, by rw [List.length_map]; omega, fun H5 v c ns5 c5 hR5 d5 ha5 => ?_⟩
        have hp5 : H5 p = some (.lst vs) := c5.keep p _ (s4 p _ hp3) (by simpa using hrp.symm)
        refine ⟨p, vs, v, rfl, rfl, hp5, smallL (by omega), ?_⟩
        have cc : Chg [p] H5 (upd H5 p (.lst (vs ++ [v]))) := Chg.put hp5 rfl (by simp)
        refine ⟨cs ++ [c], ns5, _, _, rfl, ((c3.same s4).trans c5).mut np, by rw [upd_ne hrp]; exact hR5, ⟨vs ++ [v], upd_same, ?_⟩, by rw [List.length_append, List.length_singleton, hlen], fun c' hc' => by
          rcases List.mem_append.mp hc' with h' | h'
          · exact harg c' h'
          · rw [List.mem_singleton.mp h']; exact ha5⟩
        rw [List.map_append]
        exact dpa_snoc (cc.dps _ _ (noLs_encC _) (c5.dps _ _ (noLs_encC _) ((Chg.of_same (S := []) s4).dps _ _ (noLs_encC _) hd3))) (cc.dp _ _ (noL_encC c) d5)
    · rintro σ H3 ⟨cs, ns3, x3, x4, rfl, c3, hR3, hL3, hlen, harg⟩
      exact ⟨_, rfl, q H3 p cs ns3 c3 np hR3 hL3 (by omega) harg⟩
/-! ### prices drawn -/
structure Pc where
  un : Int
  dn : Int
  ch : Option (Int × Int)
def Pc.ok (p : Pc) : Prop := 0 ≤ p.un ∧ p.un < 9 ∧ 0 ≤ p.dn ∧ p.dn < 9 ∧ ∀ b, p.ch = some b → 0 ≤ b.1 ∧ b.1 < 9 ∧ 0 ≤ b.2 ∧ b.2 < 9
def encO : Option (Int × Int) → PyData
  | none => .none
  | some b => .tuple [.int b.1, .int b.2]
def encP (p : Pc) : PyData := .tuple [.int p.un, .int p.dn, encO p.ch]
theorem noL_encO (o : Option (Int × Int)) : noL (encO o) = true := by
  cases o <;> simp [encO, noL, noLs]
theorem noL_encP (p : Pc) : noL (encP p) = true := by simp [encP, noL, noLs, noL_encO]
def spPrice (K : PySem.W.Frag) : Sp := fun vs H Q _ => ∃ (r : Addr) (ns : List Int), vs = [.ref r] ∧ H r = some (.lst (ns.map V.int)) ∧
  ∀ (H' : Hp) (v : V) (p : Pc) (ns' : List Int), Chg [r] H H' → H' r = some (.lst (ns'.map V.int)) → Dp K H' v (encP p) → p.ok → Q v H'
theorem ok_law_price (T : Tx K mg) : FnOk P w K mg base CX0 2 T.law_price.f T.law_price.fd ["_law_row"] (spPrice K) := by
  refine T.law_price.F.ok sc_law_price (fun vs H Q E h => ?_) (fun cdv A outer s H vs Q E hr h => ?_)
  · obtain ⟨r, ns, rfl, _⟩ := h
    rfl
  · obtain ⟨r, ns, rfl, hR, q⟩ := h
    refine ⟨_, (pss_cons (ps_set (i := 1) sc_law_price.nd rfl (by first | exact Or.inl rfl | exact Or.inr rfl) pe_non)
    (C8.pss_cut (ps_if (pt_cmpR op_gt (pe_call (ok_law_take T) (hr.mono (by decide)) (by rfl) T.law_take.g T.law_take.F.kp T.law_take.b .nil pass0 (pa_cons (pv 0) (pa_cons pe_int pa_nil))) pe_int (nomark _))
        (pss_one (ps_set (i := 1) sc_law_price.nd rfl (by first | exact Or.inl rfl | exact Or.inr rfl) (pe_tup (pa_cons (pe_call (ok_law_take T) (hr.mono (by decide)) (by rfl) T.law_take.g T.law_take.F.kp T.law_take.b .nil pass0 (pa_cons (pv 0) (pa_cons pe_int pa_nil))) (pa_cons (pe_call (ok_law_take T) (hr.mono (by decide)) (by rfl) T.law_take.g T.law_take.F.kp T.law_take.b .nil pass0 (pa_cons (pv 0) (pa_cons pe_int pa_nil))) pa_nil)))))
        pss_nil)
    (pss_one (ps_ret (pe_tup (pa_cons (pe_call (ok_law_take T) (hr.mono (by decide)) (by rfl) T.law_take.g T.law_take.F.kp T.law_take.b .nil pass0 (pa_cons (pv 0) (pa_cons pe_int pa_nil))) (pa_cons (pe_call (ok_law_take T) (hr.mono (by decide)) (by rfl) T.law_take.g T.law_take.F.kp T.law_take.b .nil pass0 (pa_cons (pv 0) (pa_cons pe_int pa_nil))) (pa_cons (pv 1) pa_nil)))))))), ?_⟩
    refine ⟨fun σ H2 => ∃ (v : V) (o : Option (Int × Int)) (ns2 : List Int), σ = [some (.ref r), some v] ∧ Chg [r] H H2 ∧ H2 r = some (.lst (ns2.map V.int)) ∧ Dp K H2 v (encO o) ∧ (∀ b, o = some b → 0 ≤ b.1 ∧ b.1 < 9 ∧ 0 ≤ b.2 ∧ b.2 < 9), ?_, ?_⟩
    · refine ⟨_, rfl, r, ns, 4, rfl, hR, by decide, fun H1 ns1 k1 c1 hR1 _ _ => ⟨_, _, rfl, rfl, _, rfl, ite2 (fun _ => ?_) (fun _ => ?_)⟩⟩
      · refine ⟨_, rfl, r, ns1, 4, rfl, hR1, by decide, fun H2 ns2 k2 c2 hR2 _ _ => ⟨_, rfl, r, ns2, 3, rfl, hR2, by decide, fun H3 ns3 k3 c3 hR3 _ _ => ⟨(by show 2 ≤ sizeLine; decide), fun t nt => ?_⟩⟩⟩
        refine ⟨.ref t, some (k2, k3), ns3, rfl, ((c1.trans c2).trans c3).trans (Chg.new nt), by rw [upd_ne (ne_of_none hR3 nt)]; exact hR3, .tup (SqT.of upd_same) (.cons (.int _) (.cons (.int _) .nil)), fun b hb => ?_⟩
        cases hb
        exact ⟨by assumption, by show k2 < 9; omega, by assumption, by show k3 < 9; omega⟩
      · exact ⟨.non, none, ns1, rfl, c1, hR1, .non, fun b hb => by cases hb⟩
    · rintro σ H2 ⟨v, o, ns2, rfl, c2, hR2, d2, ho⟩
      refine ⟨_, rfl, r, ns2, 9, rfl, hR2, by decide, fun H3 ns3 k3 c3 hR3 a1 a2 => ⟨_, rfl, r, ns3, 9, rfl, hR3, by decide, fun H4 ns4 k4 c4 hR4 b1 b2 => ⟨_, rfl, (by show 3 ≤ sizeLine; decide), fun t nt => ?_⟩⟩⟩
      have cc := (c3.trans c4).trans (Chg.new (o := .tup [.int k3, .int k4, v]) nt)
      exact q _ (.ref t) ⟨k3, k4, o⟩ ns4 (c2.trans cc) (by rw [upd_ne (ne_of_none hR4 nt)]; exact hR4) (.tup (SqT.of upd_same) (.cons (.int _) (.cons (.int _) (.cons (cc.dp _ _ (noL_encO o) d2) .nil)))) ⟨a1, a2, b1, b2, ho⟩
/-- a price list at p: the prices of the three effects -/
def PrD (K : PySem.W.Frag) (H : Hp) (p : Addr) (f : Ef → Pc) : Prop := ∃ v1 v2 v3, H p = some (.dK [(.inr "pay", v1), (.inr "ship", v2), (.inr "tell", v3)]) ∧ Dp K H v1 (encP (f .pay)) ∧ Dp K H v2 (encP (f .ship)) ∧ Dp K H v3 (encP (f .tell)) ∧ ∀ e, (f e).ok
theorem Chg.prD {S : List Addr} {H H1 : Hp} {p : Addr} {f : Ef → Pc} (c : Chg S H H1) (h : PrD K H p f) (n : p ∉ S) : PrD K H1 p f := by
  obtain ⟨v1, v2, v3, h1, h2, h3, h4, h5⟩ := h
  exact ⟨v1, v2, v3, c.keep p _ h1 n, c.dp _ _ (noL_encP _) h2, c.dp _ _ (noL_encP _) h3, c.dp _ _ (noL_encP _) h4, h5⟩
def spPrices (K : PySem.W.Frag) : Sp := fun vs H Q _ => ∃ (r : Addr) (ns : List Int), vs = [.ref r] ∧ H r = some (.lst (ns.map V.int)) ∧
  ∀ (H' : Hp) (p : Addr) (f : Ef → Pc) (ns' : List Int), Chg [r] H H' → H p = none → H' r = some (.lst (ns'.map V.int)) → PrD K H' p f → Q (.ref p) H'
theorem ok_law_prices (T : Tx K mg) : FnOk P w K mg base CX0 3 T.law_prices.f T.law_prices.fd ["_law_row"] (spPrices K) := by
  refine T.law_prices.F.ok sc_law_prices (fun vs H Q E h => ?_) (fun cdv A outer s H vs Q E hr h => ?_)
  · obtain ⟨r, ns, rfl, _⟩ := h
    rfl
  · obtain ⟨r, ns, rfl, hR, q⟩ := h
    refine ⟨_, (pss_one (ps_ret (pe_disp (pps_cons pe_str (pe_call (ok_law_price T) (hr.mono (by decide)) (by rfl) T.law_price.g T.law_price.F.kp T.law_price.b .nil pass0 (pa_cons (pv 0) pa_nil)) (pps_cons pe_str (pe_call (ok_law_price T) (hr.mono (by decide)) (by rfl) T.law_price.g T.law_price.F.kp T.law_price.b .nil pass0 (pa_cons (pv 0) pa_nil)) (pps_cons pe_str (pe_call (ok_law_price T) (hr.mono (by decide)) (by rfl) T.law_price.g T.law_price.F.kp T.law_price.b .nil pass0 (pa_cons (pv 0) pa_nil)) pps_nil))) (by rfl) (by rfl) (fun z => by cases z) (by decide)))), ?_⟩
    intro p np
    have c0 : Chg [r] H (upd H p (.dK [])) := Chg.new np
    have hrp : r ≠ p := ne_of_none hR np
    refine ⟨_, rfl, r, ns, rfl, by rw [upd_ne hrp]; exact hR, fun H1 v1 p1 ns1 c1 hR1 d1 o1 => ⟨_, rfl, r, ns1, rfl, hR1, fun H2 v2 p2 ns2 c2 hR2 d2 o2 => ⟨_, rfl, r, ns2, rfl, hR2, fun H3 v3 p3 ns3 c3 hR3 d3 o3 => ?_⟩⟩⟩
    have hp3 : H3 p = some (.dK []) := ((c1.trans c2).trans c3).keep p _ upd_same (by simpa using hrp.symm)
    refine ⟨hp3, [(.inr "pay", v1), (.inr "ship", v2), (.inr "tell", v3)], rfl, (by show 3 ≤ 15; decide), ?_⟩
    have cc : Chg [p] H3 (upd H3 p (.dK (mergeK [] [(.inr "pay", v1), (.inr "ship", v2), (.inr "tell", v3)]))) := Chg.put hp3 rfl (by simp)
    refine q _ p (fun e => match e with | .pay => p1 | .ship => p2 | .tell => p3) ns3 ((((c0.trans c1).trans c2).trans c3).mut np) np (by rw [upd_ne hrp]; exact hR3) ⟨v1, v2, v3, ?_, ?_, ?_, ?_, ?_⟩
    · rw [upd_same]
      rfl
    · exact cc.dp _ _ (noL_encP _) (c3.dp _ _ (noL_encP _) (c2.dp _ _ (noL_encP _) d1))
    · exact cc.dp _ _ (noL_encP _) (c3.dp _ _ (noL_encP _) d2)
    · exact cc.dp _ _ (noL_encP _) d3
    · intro e
      cases e
      · exact o1
      · exact o2
      · exact o3
end
end Sg
namespace Sg
open PySem PySem.Spec PyProof.Rows L2
/-! ### the journal's texts -/
abbrev cl (x : Str) : List Nat := x.cps.toList
def headT (k : Nat) : Str := ("done " : Str) ++ toString (k : Int)
def lineT (k : Nat) : Str := headT k ++ "\n"
def linesT (n : Nat) : Str := Txt.join "" ((List.range n).map lineT)
def parse (x : Str) : List Str := (Txt.split x "\n").dropLast
def nl (x : Str) : Nat := ((cl x).filter fun c => decide (c = 10)).length
def cutT (x : Str) (t : Nat) : Str := cutS x none (some (t : Int))
def jn (segs : List (List Nat)) : List Nat := (segs.map (· ++ [10])).flatten
theorem jn_cons (s : List Nat) (ss : List (List Nat)) : jn (s :: ss) = s ++ 10 :: jn ss := by simp [jn]
theorem lines_jn : ∀ n, n < 10 → cl (linesT n) = jn ((List.range n).map fun k => cl (headT k)) := by decide +kernel
theorem head_no : ∀ k, k < 10 → 10 ∉ cl (headT k) := by decide +kernel
theorem head_len : ∀ k, k < 10 → (headT k).length = 6 := by decide +kernel
theorem line_len : ∀ k, k < 10 → (lineT k).length = 7 := by decide +kernel
theorem lines_len : ∀ n, n < 10 → (linesT n).length = 7 * n := by decide +kernel
theorem head_ok : ∀ k, k < 10 → PyData.strOk (headT k) = true := by decide +kernel
theorem pre10 (c : Nat) (r : List Nat) : TL.pre [10] (c :: r) = decide (c = 10) := by
  show ([c] == [10]) = _
  by_cases h : c = 10
  · subst h; rfl
  · rw [decide_eq_false h]
    simpa using h
theorem spl_seg : ∀ (s acc r : List Nat), 10 ∉ s → TL.spl [10] 0 acc (s ++ 10 :: r) = (acc ++ s) :: TL.spl [10] 0 [] r
  | [], acc, r, _ => by
    rw [List.nil_append, TL.spl_hit (by rw [pre10]; rfl), List.append_nil]
    rfl
  | c :: s, acc, r, h => by
    have h1 : c ≠ 10 := fun e => h (by rw [e]; exact List.mem_cons_self)
    rw [List.cons_append, TL.spl_miss (by rw [pre10, decide_eq_false h1]), spl_seg s (acc ++ [c]) r fun m => h (List.mem_cons_of_mem _ m), List.append_assoc]
    rfl
theorem spl_end : ∀ (s acc : List Nat), 10 ∉ s → TL.spl [10] 0 acc s = [acc ++ s]
  | [], acc, _ => by rw [TL.spl_nil, List.append_nil]
  | c :: s, acc, h => by
    have h1 : c ≠ 10 := fun e => h (by rw [e]; exact List.mem_cons_self)
    rw [TL.spl_miss (by rw [pre10, decide_eq_false h1]), spl_end s (acc ++ [c]) fun m => h (List.mem_cons_of_mem _ m), List.append_assoc]
    rfl
theorem spl_jn : ∀ (segs : List (List Nat)) (p : List Nat), (∀ s ∈ segs, 10 ∉ s) → 10 ∉ p → TL.spl [10] 0 [] (jn segs ++ p) = segs ++ [p]
  | [], p, _, hp => by
    show TL.spl [10] 0 [] ([] ++ p) = _
    rw [List.nil_append, spl_end p [] hp]
    rfl
  | s :: ss, p, h, hp => by
    rw [jn_cons, List.append_assoc, List.cons_append, spl_seg s [] _ (h s List.mem_cons_self), spl_jn ss p (fun x hx => h x (List.mem_cons_of_mem _ hx)) hp]
    rfl
theorem take_jn : ∀ (segs : List (List Nat)) (t : Nat), (∀ s ∈ segs, 10 ∉ s) → ∃ m p, m ≤ segs.length ∧ (jn segs).take t = jn (segs.take m) ++ p ∧ 10 ∉ p
  | [], t, _ => ⟨0, [], Nat.le_refl _, by simp [jn], by simp⟩
  | s :: ss, t, h => by
    by_cases ht : t ≤ s.length
    · refine ⟨0, s.take t, Nat.zero_le _, ?_, fun m => h s List.mem_cons_self (List.mem_of_mem_take m)⟩
      rw [jn_cons, List.take_append_of_le_length ht]
      rfl
    · obtain ⟨m, p, h1, h2, h3⟩ := take_jn ss (t - s.length - 1) fun x hx => h x (List.mem_cons_of_mem _ hx)
      refine ⟨m + 1, p, Nat.succ_le_succ h1, ?_, h3⟩
      have e : t = s.length + ((t - s.length - 1) + 1) := by omega
      rw [jn_cons, List.take_succ_cons, jn_cons]
      rw [e, List.take_length_add_append, List.take_succ_cons, h2]
      simp
theorem count_jn : ∀ (segs : List (List Nat)) (p : List Nat), (∀ s ∈ segs, 10 ∉ s) → 10 ∉ p → ((jn segs ++ p).filter fun c => decide (c = 10)).length = segs.length
  | [], p, _, hp => by
    show (([] ++ p).filter _).length = 0
    rw [List.nil_append, List.filter_eq_nil_iff.mpr]
    · rfl
    · intro c hc
      simp only [decide_eq_true_eq]
      intro e
      exact hp (e ▸ hc)
  | s :: ss, p, h, hp => by
    have ih := count_jn ss p (fun x hx => h x (List.mem_cons_of_mem _ hx)) hp
    have hs : (s.filter fun c => decide (c = 10)) = [] := List.filter_eq_nil_iff.mpr fun c hc => by
      simp only [decide_eq_true_eq]
      intro e
      exact h s List.mem_cons_self (e ▸ hc)
    rw [jn_cons, List.append_assoc, List.cons_append, List.filter_append, hs, List.nil_append, List.filter_cons_of_pos (by decide), List.length_cons, ih]
    rfl
theorem parse_cl {x : Str} {segs : List (List Nat)} {p : List Nat} (h : cl x = jn segs ++ p) (hs : ∀ s ∈ segs, 10 ∉ s) (hp : 10 ∉ p) : (parse x).map TL.tl = segs := by
  have e := TL.split_spl x "\n" (by decide +kernel) (by
    rw [show Builtin.Str.strKind ("\n" : Str) = 1 by decide +kernel]
    unfold Builtin.Str.strKind
    split
    · omega
    · split <;> omega)
  have e2 : TL.tl ("\n" : Str) = [10] := by decide +kernel
  rw [e2, show TL.tl x = cl x from rfl, h, spl_jn segs p hs hp] at e
  unfold parse
  rw [List.map_dropLast, e, List.dropLast_concat]
theorem heads_no (n : Nat) (hn : n < 10) : ∀ s ∈ (List.range n).map (fun k => cl (headT k)), 10 ∉ s := by
  intro s hs
  obtain ⟨k, hk, rfl⟩ := List.mem_map.mp hs
  have := List.mem_range.mp hk
  exact head_no k (by omega)
theorem parse_lines {n : Nat} (hn : n < 10) : parse (linesT n) = (List.range n).map headT := by
  refine TL.map_tl_inj ?_
  rw [parse_cl (p := []) (by rw [lines_jn n hn, List.append_nil]) (heads_no n hn) (by simp), List.map_map]
  rfl
theorem cut_cl (x : Str) (t : Nat) : cl (cutT x t) = (cl x).take t := by
  show ((x.cps.toList.drop (HT.sIx x.length 0 none)).take (HT.sIx x.length x.length (some (t : Int)) - HT.sIx x.length 0 none)) = _
  rw [HT.sIx_none, HT.sIx_nat, List.drop_zero, Nat.sub_zero]
  have e : x.length = x.cps.toList.length := by simp [Str.length]
  rw [e]
  by_cases h : t ≤ x.cps.toList.length
  · rw [Nat.min_eq_left h]
  · rw [Nat.min_eq_right (Nat.le_of_not_le h), List.take_of_length_le (Nat.le_refl _), List.take_of_length_le (Nat.le_of_not_le h)]
theorem cut_lines {n t : Nat} (hn : n < 10) : nl (cutT (linesT n) t) ≤ n ∧ parse (cutT (linesT n) t) = (List.range (nl (cutT (linesT n) t))).map headT := by
  obtain ⟨m, p, h1, h2, h3⟩ := take_jn _ t (heads_no n hn)
  rw [List.length_map, List.length_range] at h1
  have hc : cl (cutT (linesT n) t) = jn (((List.range n).map fun k => cl (headT k)).take m) ++ p := by rw [cut_cl, lines_jn n hn, h2]
  have hno : ∀ s ∈ ((List.range n).map fun k => cl (headT k)).take m, 10 ∉ s := fun s hs => heads_no n hn s (List.mem_of_mem_take hs)
  have hnl : nl (cutT (linesT n) t) = m := by
    unfold nl
    rw [hc, count_jn _ _ hno h3, List.length_take, List.length_map, List.length_range]
    omega
  rw [hnl]
  refine ⟨h1, TL.map_tl_inj ?_⟩
  rw [parse_cl hc hno h3, ← List.map_take, List.take_range, Nat.min_eq_left h1, List.map_map]
  rfl
theorem parse_don : parse "don" = [] := by decide +kernel
theorem parse_done1 : parse "done 1\n" = [headT 1] := by decide +kernel
theorem cut_len (x : Str) (t : Nat) : (cutT x t).length ≤ x.length := cutS_length _ _ _
/-! what the first lines of a text may be -/
theorem head_inj : ∀ a, a < 10 → ∀ b, b < 10 → headT a = headT b → a = b := by decide +kernel
end Sg
namespace Sg
open PySem PySem.Spec PyProof.Rows L2
/-! ### attributes by name -/
theorem lk_hit {f : Str} {v : V} {r : List (Str × V)} : ((f, v) :: r).lookup f = some v := by simp [List.lookup]
theorem lk_miss {f g : Str} {v : V} {r : List (Str × V)} (h : (f == g) = false) : ((g, v) :: r).lookup f = r.lookup f := by simp [List.lookup, h]
theorem pf_hit {f : Str} {v x : V} {r : List (Str × V)} : putF f v ((f, x) :: r) = (f, v) :: r := by simp [putF]
theorem pf_miss {f g : Str} {v x : V} {r : List (Str × V)} (h : (g == f) = false) : putF f v ((g, x) :: r) = (g, x) :: putF f v r := by
  have h' : ¬ g = f := fun e => by rw [e] at h; simp at h
  simp [putF, h']
/-- a saga's attributes -/
def sF (e : Addr) (n : Int) (a : Bool) : List (Str × V) := [("deeds", .ref e), ("noted", .int n), ("answered", .bl a)]
theorem sF_deeds (e : Addr) (n : Int) (a : Bool) : (sF e n a).lookup ("deeds" : Str) = some (.ref e) := lk_hit
theorem sF_noted (e : Addr) (n : Int) (a : Bool) : (sF e n a).lookup ("noted" : Str) = some (.int n) := (lk_miss (by decide +kernel)).trans lk_hit
theorem sF_answered (e : Addr) (n : Int) (a : Bool) : (sF e n a).lookup ("answered" : Str) = some (.bl a) := (lk_miss (by decide +kernel)).trans ((lk_miss (by decide +kernel)).trans lk_hit)
theorem sF_putN (e : Addr) (n m : Int) (a : Bool) : putF "noted" (.int m) (sF e n a) = sF e m a := (pf_miss (by decide +kernel)).trans (congrArg _ pf_hit)
theorem sF_putA (e : Addr) (n : Int) (a b : Bool) : putF "answered" (.bl b) (sF e n a) = sF e n b := (pf_miss (by decide +kernel)).trans (congrArg _ ((pf_miss (by decide +kernel)).trans (congrArg _ pf_hit)))
theorem sF_mk (e : Addr) (n : Int) (a : Bool) : putF "answered" (.bl a) (putF "noted" (.int n) (putF "deeds" (.ref e) [])) = sF e n a := by
  show putF "answered" (.bl a) (putF "noted" (.int n) [("deeds", .ref e)]) = _
  rw [pf_miss (by decide +kernel)]
  show putF "answered" (.bl a) [("deeds", .ref e), ("noted", .int n)] = _
  rw [pf_miss (by decide +kernel), pf_miss (by decide +kernel)]
  rfl
theorem sF_no (m : Str) (e : Addr) (n : Int) (a : Bool) (h1 : (m == ("deeds" : Str)) = false) (h2 : (m == ("noted" : Str)) = false) (h3 : (m == ("answered" : Str)) = false) : (sF e n a).lookup m = none :=
  (lk_miss h1).trans ((lk_miss h2).trans ((lk_miss h3).trans rfl))
/-- an outside's -/
def oF (c l : Addr) (s : Int) (n : Addr) : List (Str × V) := [("calls", .ref c), ("losses", .ref l), ("sent", .int s), ("numbers", .ref n)]
theorem oF_calls (c l : Addr) (s : Int) (n : Addr) : (oF c l s n).lookup ("calls" : Str) = some (.ref c) := lk_hit
theorem oF_losses (c l : Addr) (s : Int) (n : Addr) : (oF c l s n).lookup ("losses" : Str) = some (.ref l) := (lk_miss (by decide +kernel)).trans lk_hit
theorem oF_sent (c l : Addr) (s : Int) (n : Addr) : (oF c l s n).lookup ("sent" : Str) = some (.int s) := (lk_miss (by decide +kernel)).trans ((lk_miss (by decide +kernel)).trans lk_hit)
theorem oF_numbers (c l : Addr) (s : Int) (n : Addr) : (oF c l s n).lookup ("numbers" : Str) = some (.ref n) := (lk_miss (by decide +kernel)).trans ((lk_miss (by decide +kernel)).trans ((lk_miss (by decide +kernel)).trans lk_hit))
theorem oF_putS (c l : Addr) (s t : Int) (n : Addr) : putF "sent" (.int t) (oF c l s n) = oF c l t n := (pf_miss (by decide +kernel)).trans (congrArg _ ((pf_miss (by decide +kernel)).trans (congrArg _ pf_hit)))
theorem oF_mk (c l : Addr) (s : Int) (n : Addr) : putF "numbers" (.ref n) (putF "sent" (.int s) (putF "losses" (.ref l) (putF "calls" (.ref c) []))) = oF c l s n := by
  show putF "numbers" (.ref n) (putF "sent" (.int s) (putF "losses" (.ref l) [("calls", .ref c)])) = _
  rw [pf_miss (by decide +kernel)]
  show putF "numbers" (.ref n) (putF "sent" (.int s) [("calls", .ref c), ("losses", .ref l)]) = _
  rw [pf_miss (by decide +kernel), pf_miss (by decide +kernel)]
  show putF "numbers" (.ref n) [("calls", .ref c), ("losses", .ref l), ("sent", .int s)] = _
  rw [pf_miss (by decide +kernel), pf_miss (by decide +kernel), pf_miss (by decide +kernel)]
  rfl
theorem oF_no (m : Str) (c l : Addr) (s : Int) (n : Addr) (h1 : (m == ("calls" : Str)) = false) (h2 : (m == ("losses" : Str)) = false) (h3 : (m == ("sent" : Str)) = false) (h4 : (m == ("numbers" : Str)) = false) : (oF c l s n).lookup m = none :=
  (lk_miss h1).trans ((lk_miss h2).trans ((lk_miss h3).trans ((lk_miss h4).trans rfl)))
/-! ### small facts of numbers and texts -/
theorem log_small : ∀ i : Nat, i < 10 → ((i : Int).natAbs).log2 < 1920 := by decide
theorem txt_small1 : ∀ i : Nat, i < 10 → (headT i).length ≤ 100 := fun i h => by rw [head_len i h]; decide
theorem emp (x : Str) : (Str.empty ++ x : Str) = x := by
  refine Str.ext' ?_
  show (Str.empty ++ x).cps = x.cps
  rw [Str.cps_append]
  show #[] ++ x.cps = x.cps
  simp
theorem sum_lines : ∀ n, n < 10 → (((List.range n).map lineT).map (·.length)).sum + ((List.range n).map lineT).length * ("" : Str).length ≤ 16777216 := by decide +kernel
inductive Lo where
  | no | there | back
  deriving DecidableEq
def Lo.nm : Lo → Str
  | .no => "no"
  | .there => "there"
  | .back => "back"
section
variable {P : Program} {w : World} {K : PySem.W.Frag} {mg : Str → Option Value} {base : Heap}
/-! ### losses drawn -/
def spLosses (K : PySem.W.Frag) : Sp := fun vs H Q _ => ∃ (r : Addr) (ns : List Int), vs = [.ref r] ∧ H r = some (.lst (ns.map V.int)) ∧
  ∀ (H' : Hp) (p : Addr) (ls : List Lo) (ns' : List Int), Chg [r] H H' → H p = none → H' r = some (.lst (ns'.map V.int)) → H' p = some (.lst (ls.map fun l => V.str l.nm)) → ls.length ≤ 19 → Q (.ref p) H'
theorem ok_law_losses (T : Tx K mg) : FnOk P w K mg base CX0 2 T.law_losses.f T.law_losses.fd ["_law_row"] (spLosses K) := by
  refine T.law_losses.F.ok sc_law_losses (fun vs H Q E h => ?_) (fun cdv A outer s H vs Q E hr h => ?_)
  · obtain ⟨r, ns, rfl, _⟩ := h
    rfl
  · obtain ⟨r, ns, rfl, hR, q⟩ := h
    refine ⟨_, (pss_one (ps_ret (pe_lc (own := [("_law_k", 1)]) (g := gName 1) (tt := tYes) rfl sc_law_losses.nd (pi_range1 rfl T.z_range (pa_cons (pe_call (ok_law_take T) (hr.mono (by decide)) (by rfl) T.law_take.g T.law_take.F.kp T.law_take.b .nil pass0 (pa_cons (pv 0) (pa_cons pe_int pa_nil))) pa_nil)) (blkOk_by (own := [("_law_k", 1)]) (N := n_law_losses) (sc := defScope s_law_losses) (by decide +kernel)) (fun _ _ _ _ _ => pg_name (i := 1) sc_law_losses.nd rfl (by first | exact Or.inl rfl | exact Or.inr rfl)) (fun _ _ _ _ _ => pts_nil) (fun _ _ _ _ _ => (pe_ix (r := rIxL K) ix_list (pe_lst (pa_cons pe_str (pa_cons pe_str (pa_cons pe_str pa_nil)))) (pe_call (ok_law_take T) (hr.mono (by decide)) (by rfl) T.law_take.g T.law_take.F.kp T.law_take.b .nil pass0 (pa_cons (pv 0) (pa_cons pe_int pa_nil))) (fun _ _ => rfl)))))), ?_⟩
    refine ⟨_, rfl, r, ns, 20, rfl, hR, by decide, fun H1 ns1 k c1 hR1 k0 k20 => ⟨k, rfl, by omega, by omega, fun D nD => ?_⟩⟩
    have hrD : r ≠ D := ne_of_none hR1 nD
    have nD0 : H D = none := c1.free nD
    refine lc_range (lo := 0) (n := k.toNat) (fun j H4 => ∃ (ls : List Lo) (ns4 : List Int), Chg [r] H H4 ∧ H4 r = some (.lst (ns4.map V.int)) ∧ H4 D = some (.lst (ls.map fun l => V.str l.nm)) ∧ ls.length = j)
      ⟨[], ns1, c1.mut nD0, by rw [upd_ne hrD]; exact hR1, upd_same, rfl⟩ ?_ ?_
    · rintro j H4 hj ⟨ls, ns4, c4, hR4, hD4, hl4⟩
      refine ⟨rfl, ?_⟩
      refine ⟨(by show 3 ≤ sizeLine; decide), fun o no => ?_⟩
      have ho : (upd H4 o (.lst [.str "no", .str "there", .str "back"])) r = some (.lst (ns4.map V.int)) := by rw [upd_ne (ne_of_none hR4 no)]; exact hR4
      refine ⟨_, rfl, r, ns4, 3, rfl, ho, by decide, fun H5 ns5 k5 c5 hR5 k50 k53 => ?_⟩
      have ho5 : H5 o = some (.lst [.str "no", .str "there", .str "back"]) := c5.keep o _ upd_same (by simpa using (ne_of_none hR4 no).symm)
      have hD5 : H5 D = some (.lst (ls.map fun l => V.str l.nm)) := c5.keep D _ (by rw [upd_ne (ne_of_none hD4 no)]; exact hD4) (by simpa using hrD.symm)
      obtain ⟨lo, hlo⟩ : ∃ l : Lo, ([.str "no", .str "there", .str "back"] : List V)[k5.toNat]? = some (.str l.nm) := by
        have h : k5.toNat = 0 ∨ k5.toNat = 1 ∨ k5.toNat = 2 := by omega
        rcases h with h | h | h <;> rw [h]
        · exact ⟨.no, rfl⟩
        · exact ⟨.there, rfl⟩
        · exact ⟨.back, rfl⟩
      have ek : k5 = (k5.toNat : Int) := by omega
      refine ⟨o, _, k5, .str lo.nm, rfl, rfl, SqL.of ho5, by rw [ek]; exact atI_nat hlo, _, hD5, ?_, ?_⟩
      · rw [List.length_map]
        exact smallL (by omega)
      · refine ⟨ls ++ [lo], ns5, ((c4.trans (Chg.new no)).trans c5).mut nD0, by rw [upd_ne hrD]; exact hR5, by rw [upd_same, List.map_append]; rfl, by rw [List.length_append, List.length_singleton, hl4]⟩
    · rintro H4 ⟨ls, ns4, c4, hR4, hD4, hl4⟩
      exact q H4 D ls ns4 c4 nD0 hR4 hD4 (by omega)
/-! ### lines -/
def spLines : Sp := fun vs H Q _ => ∃ n : Nat, vs = [.int n] ∧ n < 10 ∧ ∀ H', Same H H' → Q (.str (linesT n)) H'
theorem ok_law_lines (T : Tx K mg) : FnOk P w K mg base CX0 1 T.law_lines.f T.law_lines.fd ["_law_count"] spLines := by
  refine T.law_lines.F.ok sc_law_lines (fun vs H Q E h => ?_) (fun cdv A outer s H vs Q E hr h => ?_)
  · obtain ⟨n, rfl, _⟩ := h
    rfl
  · obtain ⟨n, rfl, hn, q⟩ := h
    refine ⟨_, (pss_one (ps_ret (pe_join pe_str (pe_lc (own := [("_law_k", 1)]) (g := gName 1) (tt := tYes) rfl sc_law_lines.nd (pi_range1 rfl T.z_range (pa_cons (pv 0) pa_nil)) (blkOk_by (own := [("_law_k", 1)]) (N := n_law_lines) (sc := defScope s_law_lines) (by decide +kernel)) (fun _ _ _ _ _ => pg_name (i := 1) sc_law_lines.nd rfl (by first | exact Or.inl rfl | exact Or.inr rfl)) (fun _ _ _ _ _ => pts_nil) (fun _ _ _ _ _ => (pe_op op_add_str (pe_op op_add_str pe_str (pe_callTy call_str_int (by rfl) T.z_str (by decide +kernel) (pa_cons (pv 1) pa_nil))) pe_str)))))), ?_⟩
    refine ⟨⟨_, rfl⟩, _, rfl, _, rfl, by omega, by omega, fun D nD => ?_⟩
    refine lc_range (lo := 0) (n := n) (fun j H4 => Same H H4 ∧ H4 D = some (.lst (((List.range j).map lineT).map V.str))) ⟨same_new nD, upd_same⟩ ?_ ?_
    · rintro j H4 hj ⟨s4, hD4⟩
      have hj10 : j < 10 := by omega
      have ej : (0 : Int) + (j : Int) = (j : Int) := Int.zero_add _
      refine ⟨rfl, ?_⟩
      refine ⟨_, rfl, _, rfl, by rw [ej]; exact log_small j hj10, _, _, rfl, rfl, ?_, _, _, rfl, rfl, ?_, _, hD4, ?_, same_mut s4 nD, ?_⟩
      · rw [ej]
        have := txt_small1 j hj10
        unfold headT at this
        rw [Str.length_append] at this
        exact small (by omega)
      · rw [ej]
        have := line_len j hj10
        unfold lineT headT at this
        rw [Str.length_append] at this
        exact small (by omega)
      · rw [List.length_map, List.length_map, List.length_range]
        exact smallL (by omega)
      · rw [upd_same, ej, List.range_succ, List.map_append, List.map_append]
        rfl
    · rintro H4 ⟨s4, hD4⟩
      refine ⟨_, D, (List.range n).map lineT, rfl, rfl, .inl (SqL.of hD4), sum_lines n hn, q H4 s4⟩
/-! ### a saga's text -/
def spText (C : Addr) : Sp := fun vs H Q _ => ∃ (s dx e : Addr) (n : Nat) (a : Bool), vs = [.ref s] ∧ H s = some (.ins C dx (sF e n a)) ∧ n < 10 ∧ ∀ H', Same H H' → Q (.str (linesT n)) H'
theorem ok_S_text (T : Tx K mg) : FnOk P w K mg base CX0 1 T.S_text.f T.S_text.fd ["self"] (spText T.CS) := by
  refine T.S_text.F.ok sc_Saga_text (fun vs H Q E h => ?_) (fun cdv A outer s H vs Q E hr h => ?_)
  · obtain ⟨o, dx, e, n, a, rfl, _⟩ := h
    rfl
  · obtain ⟨o, dx, e, n, a, rfl, hO, hn, q⟩ := h
    refine ⟨_, (pss_one (ps_ret (pe_join pe_str (pe_lc (own := [("number", 1)]) (g := gName 1) (tt := tYes) rfl sc_Saga_text.nd (pi_range1 rfl T.z_range (pa_cons (pe_fld (pv 0) rfl) pa_nil)) (blkOk_by (own := [("number", 1)]) (N := n_Saga_text) (sc := defScope s_Saga_text) (by decide +kernel)) (fun _ _ _ _ _ => pg_name (i := 1) sc_Saga_text.nd rfl (by first | exact Or.inl rfl | exact Or.inr rfl)) (fun _ _ _ _ _ => pts_nil) (fun _ _ _ _ _ => (pe_joined (.cons pe_str (.cons (pe_fmt (pv 1)) (.cons pe_str .nil))))))))), ?_⟩
    refine ⟨⟨_, rfl⟩, _, rfl, o, T.CS, dx, _, _, rfl, hO, T.cS, T.nS_noted, sF_noted _ _ _, _, rfl, by omega, by omega, fun D nD => ?_⟩
    refine lc_range (lo := 0) (n := n) (te := fun σ H Q => tJs [tC (.str "done "), tFmt (tVar 1), tC (.str "\n")] Str.empty σ H fun out H1 => Q (.str out) H1) (fun j H4 => Same H H4 ∧ H4 D = some (.lst (((List.range j).map lineT).map V.str))) ⟨same_new nD, upd_same⟩ ?_ ?_
    · rintro j H4 hj ⟨s4, hD4⟩
      have hj10 : j < 10 := by omega
      have ej : (0 : Int) + (j : Int) = (j : Int) := Int.zero_add _
      refine ⟨rfl, ?_⟩
      refine ⟨_, rfl, ?_, _, rfl, .inr ⟨_, rfl, by rw [ej]; exact log_small j hj10, _, rfl, ?_, _, rfl, ?_, _, hD4, ?_, same_mut s4 nD, ?_⟩⟩
      · rw [emp]
        exact small (by decide +kernel)
      · rw [emp, ej]
        exact small (Nat.le_trans (txt_small1 j hj10) (by decide))
      · rw [emp, ej]
        exact small (show (lineT j).length ≤ 100000 by rw [line_len j hj10]; decide)
      · rw [List.length_map, List.length_map, List.length_range]
        exact smallL (by omega)
      · rw [upd_same, emp, ej, List.range_succ, List.map_append, List.map_append]
        rfl
    · rintro H4 ⟨s4, hD4⟩
      refine ⟨_, D, (List.range n).map lineT, rfl, rfl, .inl (SqL.of hD4), sum_lines n hn, q H4 s4⟩
end
end Sg
namespace Sg
open PySem PySem.Spec PyProof.Rows L2
/-! ### deeds -/
inductive SD where
  | undo (c : Cl)
  | dn (c : Cl)
  | change (c d : Cl)
inductive De where
  | undo (i : Nat)
  | dn (j : Nat)
  | change (i j : Nat)
def encSD : SD → PyData
  | .undo c => .tuple [.str "undo", encC c]
  | .dn c => .tuple [.str "do", encC c]
  | .change c d => .tuple [.str "change", encC c, encC d]
def encDe : De → PyData
  | .undo i => .tuple [.str "undo", .int i]
  | .dn j => .tuple [.str "do", .int j]
  | .change i j => .tuple [.str "change", .int i, .int j]
theorem noL_encSD (d : SD) : noL (encSD d) = true := by cases d <;> simp [encSD, noL, noLs, noL_encC]
theorem noL_encDe (d : De) : noL (encDe d) = true := by cases d <;> simp [encDe, noL, noLs]
theorem noLs_map {ι : Type} {f : ι → PyData} (h : ∀ x, noL (f x) = true) (l : List ι) : noLs (l.map f) = true := noLs_all fun d hd => by
  obtain ⟨c, _, rfl⟩ := List.mem_map.mp hd
  exact h c
theorem lay_encDe (d : De) : (encDe d).canLay0 = true := by
  have h1 : PyData.strOk "undo" = true := by decide +kernel
  have h2 : PyData.strOk "do" = true := by decide +kernel
  have h3 : PyData.strOk "change" = true := by decide +kernel
  cases d <;> simp [encDe, PyData.canLay0, PyData.canLayAll0, h1, h2, h3]
theorem dep_encDe (d : De) : (encDe d).depth = 1 := by cases d <;> simp [encDe, PyData.depth, PyData.depthAll]
theorem shaped_encDes (l : List De) : SeqAt.shaped (.list (l.map encDe)) = true := by
  refine shaped_list (n := 1) (fun d hd => ?_) (fun d hd => ?_) (by decide)
  · obtain ⟨c, _, rfl⟩ := List.mem_map.mp hd
    exact lay_encDe c
  · obtain ⟨c, _, rfl⟩ := List.mem_map.mp hd
    rw [dep_encDe]
    exact Nat.le_refl _
def SD.act : SD → List Cl → List Cl
  | .undo c, cs => cs.erase c
  | .dn c, cs => cs ++ [c]
  | .change c d, cs => cs.erase c ++ [d]
def SD.can : SD → List Cl → Prop
  | .undo c, cs => c ∈ cs
  | .dn _, _ => True
  | .change c _, cs => c ∈ cs
def actAll : List SD → List Cl → List Cl
  | [], cs => cs
  | d :: ds, cs => actAll ds (d.act cs)
def CanAll : List SD → List Cl → Prop
  | [], _ => True
  | d :: ds, cs => d.can cs ∧ CanAll ds (d.act cs)
theorem canAll_at : ∀ (ds : List SD) (cs : List Cl) (i : Nat) (d : SD), CanAll ds cs → ds[i]? = some d → d.can (actAll (ds.take i) cs)
  | [], _, _, _, _, e => by simp at e
  | a :: ds, cs, 0, d, h, e => by
    simp at e
    subst e
    exact h.1
  | a :: ds, cs, i + 1, d, h, e => by
    rw [List.take_succ_cons]
    exact canAll_at ds (a.act cs) i d h.2 (by simpa using e)
theorem actAll_snoc : ∀ (ds : List SD) (cs : List Cl) (d : SD), actAll (ds ++ [d]) cs = d.act (actAll ds cs)
  | [], _, _ => rfl
  | a :: ds, cs, d => actAll_snoc ds (a.act cs) d
theorem actAll_next {ds : List SD} {i : Nat} {d : SD} (cs : List Cl) (h : ds[i]? = some d) : actAll (ds.take (i + 1)) cs = d.act (actAll (ds.take i) cs) := by
  rw [List.take_add_one, h]
  exact actAll_snoc _ _ _
theorem act_len (d : SD) (cs : List Cl) : (d.act cs).length ≤ cs.length + 1 := by
  cases d with
  | undo c => exact Nat.le_trans List.length_erase_le (Nat.le_succ _)
  | dn c =>
    show (cs ++ [c]).length ≤ _
    rw [List.length_append]
    exact Nat.le_refl _
  | change c e =>
    show (cs.erase c ++ [e]).length ≤ _
    rw [List.length_append, List.length_singleton]
    exact Nat.succ_le_succ List.length_erase_le
theorem actAll_len : ∀ (ds : List SD) (cs : List Cl), (actAll ds cs).length ≤ cs.length + ds.length
  | [], _ => Nat.le_refl _
  | d :: ds, cs => by
    have h1 := actAll_len ds (d.act cs)
    have h2 := act_len d cs
    show (actAll ds (d.act cs)).length ≤ _
    rw [List.length_cons]
    omega
/-! ### from indexes to calls -/
def cAt (l : List Cl) (i : Nat) : Cl := l[i]?.getD ⟨[], 0, .pay, []⟩
def De.sd (t h : List Cl) : De → SD
  | .undo i => .undo (cAt t i)
  | .dn j => .dn (cAt h j)
  | .change i j => .change (cAt t i) (cAt h j)
def De.ok (n m : Nat) : De → Prop
  | .undo i => i < n
  | .dn j => j < m
  | .change i j => i < n ∧ j < m
def lefts : List De → List Nat
  | [] => []
  | .undo i :: ds => i :: lefts ds
  | .dn _ :: ds => lefts ds
  | .change i _ :: ds => i :: lefts ds
def rights : List De → List Nat
  | [] => []
  | .undo _ :: ds => rights ds
  | .dn j :: ds => j :: rights ds
  | .change _ j :: ds => j :: rights ds
/-- a plan of n calls there and m here -/
structure PlanOk (n m : Nat) (ds : List De) : Prop where
  l : (lefts ds).Perm (List.range n)
  r : (rights ds).Perm (List.range m)
  len : ds.length ≤ n + m
theorem ok_lr : ∀ {ds : List De} {n m : Nat}, (∀ i ∈ lefts ds, i < n) → (∀ j ∈ rights ds, j < m) → ∀ d ∈ ds, d.ok n m
  | [], _, _, _, _, d, h => by cases h
  | .undo i :: ds, n, m, hl, hr, d, h => by
    rcases List.mem_cons.mp h with rfl | h
    · exact hl i List.mem_cons_self
    · exact ok_lr (ds := ds) (fun x hx => hl x (List.mem_cons_of_mem _ hx)) hr d h
  | .dn j :: ds, n, m, hl, hr, d, h => by
    rcases List.mem_cons.mp h with rfl | h
    · exact hr j List.mem_cons_self
    · exact ok_lr (ds := ds) hl (fun x hx => hr x (List.mem_cons_of_mem _ hx)) d h
  | .change i j :: ds, n, m, hl, hr, d, h => by
    rcases List.mem_cons.mp h with rfl | h
    · exact ⟨hl i List.mem_cons_self, hr j List.mem_cons_self⟩
    · exact ok_lr (ds := ds) (fun x hx => hl x (List.mem_cons_of_mem _ hx)) (fun x hx => hr x (List.mem_cons_of_mem _ hx)) d h
theorem PlanOk.ok {n m : Nat} {ds : List De} (p : PlanOk n m ds) : ∀ d ∈ ds, d.ok n m :=
  ok_lr (fun i hi => List.mem_range.mp (p.l.mem_iff.mp hi)) fun j hj => List.mem_range.mp (p.r.mem_iff.mp hj)
theorem carry (t h : List Cl) : ∀ (ds : List De) (cs rest : List Cl), cs.Perm ((lefts ds).map (cAt t) ++ rest) →
    CanAll (ds.map (De.sd t h)) cs ∧ (actAll (ds.map (De.sd t h)) cs).Perm ((rights ds).map (cAt h) ++ rest)
  | [], cs, rest, p => ⟨trivial, p⟩
  | .undo i :: ds, cs, rest, p => by
    have p' : cs.Perm (cAt t i :: ((lefts ds).map (cAt t) ++ rest)) := p
    have hm : cAt t i ∈ cs := p'.mem_iff.mpr List.mem_cons_self
    have pe : (cs.erase (cAt t i)).Perm ((lefts ds).map (cAt t) ++ rest) := by
      have := p'.erase (cAt t i)
      rwa [List.erase_cons_head] at this
    obtain ⟨h1, h2⟩ := carry t h ds _ rest pe
    exact ⟨⟨hm, h1⟩, h2⟩
  | .dn j :: ds, cs, rest, p => by
    have p' : (cs ++ [cAt h j]).Perm ((lefts ds).map (cAt t) ++ (cAt h j :: rest)) := by
      refine ((p.append_right [cAt h j])).trans ?_
      show ((lefts ds).map (cAt t) ++ rest ++ [cAt h j]).Perm _
      rw [List.append_assoc]
      exact List.Perm.append_left _ (List.perm_append_singleton _ _)
    obtain ⟨h1, h2⟩ := carry t h ds _ _ p'
    refine ⟨⟨trivial, h1⟩, h2.trans ?_⟩
    show ((rights ds).map (cAt h) ++ cAt h j :: rest).Perm (cAt h j :: ((rights ds).map (cAt h) ++ rest))
    exact List.perm_middle
  | .change i j :: ds, cs, rest, p => by
    have p' : cs.Perm (cAt t i :: ((lefts ds).map (cAt t) ++ rest)) := p
    have hm : cAt t i ∈ cs := p'.mem_iff.mpr List.mem_cons_self
    have pe : (cs.erase (cAt t i)).Perm ((lefts ds).map (cAt t) ++ rest) := by
      have := p'.erase (cAt t i)
      rwa [List.erase_cons_head] at this
    have p2 : (cs.erase (cAt t i) ++ [cAt h j]).Perm ((lefts ds).map (cAt t) ++ (cAt h j :: rest)) := by
      refine ((pe.append_right [cAt h j])).trans ?_
      rw [List.append_assoc]
      exact List.Perm.append_left _ (List.perm_append_singleton _ _)
    obtain ⟨h1, h2⟩ := carry t h ds _ _ p2
    refine ⟨⟨hm, h1⟩, h2.trans ?_⟩
    show ((rights ds).map (cAt h) ++ cAt h j :: rest).Perm (cAt h j :: ((rights ds).map (cAt h) ++ rest))
    exact List.perm_middle
theorem map_cAt (l : List Cl) : (List.range l.length).map (cAt l) = l := by
  refine List.ext_getElem? fun i => ?_
  rw [List.getElem?_map]
  by_cases h : i < l.length
  · rw [List.getElem?_range h]
    show some (cAt l i) = _
    unfold cAt
    rw [List.getElem?_eq_getElem h]
    rfl
  · rw [List.getElem?_eq_none (by rw [List.length_range]; omega), List.getElem?_eq_none (by omega)]
    rfl
/-- a plan carried out -/
theorem carried {t h : List Cl} {ds : List De} (p : PlanOk t.length h.length ds) (stay : List Cl) : CanAll (ds.map (De.sd t h)) (t ++ stay) ∧ (actAll (ds.map (De.sd t h)) (t ++ stay)).Perm (h ++ stay) := by
  have e1 : (t ++ stay).Perm ((lefts ds).map (cAt t) ++ stay) := by
    have := (p.l.map (cAt t)).symm
    rw [map_cAt] at this
    exact this.append_right stay
  obtain ⟨h1, h2⟩ := carry t h ds _ stay e1
  refine ⟨h1, h2.trans ?_⟩
  have := p.r.map (cAt h)
  rw [map_cAt] at this
  exact this.append_right stay
/-! ### the course of a saga -/
inductive Told where
  | over
  | noted (n : Nat)
  | sent (n : Nat) (b : Bool)
def encT : Told → PyData
  | .over => .tuple [.str "over"]
  | .noted n => .tuple [.str "noted", .int n]
  | .sent n b => .tuple [.str "sent", .int n, .bool b]
theorem noL_encT (t : Told) : noL (encT t) = true := by cases t <;> simp [encT, noL, noLs]
theorem shaped_encT (t : Told) : SeqAt.shaped (encT t) = true := by
  have h1 : PyData.strOk "over" = true := by decide +kernel
  have h2 : PyData.strOk "noted" = true := by decide +kernel
  have h3 : PyData.strOk "sent" = true := by decide +kernel
  cases t
  · exact shaped_of (by simp [encT, PyData.canLay0, PyData.canLayAll0, h1]) (by simp [encT, PyData.depth, PyData.depthAll])
  · exact shaped_of (by simp [encT, PyData.canLay0, PyData.canLayAll0, h2]) (by simp [encT, PyData.depth, PyData.depthAll])
  · exact shaped_of (by simp [encT, PyData.canLay0, PyData.canLayAll0, h3]) (by simp [encT, PyData.depth, PyData.depthAll])
theorem eqv_encT (t : Told) : PyData.eqv (encT t) (encT t) = true := by cases t <;> simp [encT, PyData.eqv, PyData.eqvAll]
/-- the word for the sending s -/
def word (ls : List Lo) (s : Nat) : Lo := ls[s]?.getD .no
structure Ws where
  N : Nat
  A : Bool
  s : Nat
  D : Nat
def doneB (ls : List Lo) (w : Ws) : Bool := decide (word ls w.s ≠ .there) && decide (w.N = w.D)
def stepT (n : Nat) (ls : List Lo) (w : Ws) : Told := if w.N = n then .over else if w.A = true then .noted w.N else .sent w.N (decide (word ls w.s = .no))
def stepW (n : Nat) (ls : List Lo) (w : Ws) : Ws :=
  if w.N = n then w else if w.A = true then { w with N := w.N + 1, A := false } else ⟨w.N, decide (word ls w.s = .no), w.s + 1, if doneB ls w = true then w.D + 1 else w.D⟩
structure Good (n : Nat) (w : Ws) : Prop where
  nd : w.N ≤ w.D
  dn : w.D ≤ n
  a : w.A = true → w.N < w.D
theorem good_step {n : Nat} {ls : List Lo} {w : Ws} (g : Good n w) : Good n (stepW n ls w) := by
  obtain ⟨N, A, s, D⟩ := w
  obtain ⟨h1, h2, h3⟩ := g
  have h1 : N ≤ D := h1
  have h2 : D ≤ n := h2
  have h3 : A = true → N < D := h3
  unfold stepW
  by_cases e : N = n
  · rw [if_pos e]
    exact ⟨h1, h2, h3⟩
  · rw [if_neg e]
    by_cases ea : A = true
    · rw [if_pos ea]
      exact ⟨h3 ea, h2, fun h => by cases h⟩
    · rw [if_neg ea]
      by_cases ed : doneB ls ⟨N, A, s, D⟩ = true
      · rw [if_pos ed]
        have e2 : N = D := by
          unfold doneB at ed
          simp only [Bool.and_eq_true, decide_eq_true_eq] at ed
          exact ed.2
        refine ⟨?_, ?_, fun _ => ?_⟩
        · show N ≤ D + 1
          omega
        · show D + 1 ≤ n
          omega
        · show N < D + 1
          omega
      · rw [if_neg ed]
        refine ⟨h1, h2, fun h => ?_⟩
        have hw : word ls s = .no := of_decide_eq_true h
        show N < D
        rcases Nat.lt_or_eq_of_le h1 with z | z
        · exact z
        · exact absurd (show doneB ls ⟨N, A, s, D⟩ = true by
            unfold doneB
            rw [decide_eq_true (show word ls s ≠ .there by rw [hw]; intro q; cases q), decide_eq_true z]
            rfl) ed
/-- what is left to do, at most -/
def left (n : Nat) (ls : List Lo) (w : Ws) : Nat := 2 * (n - w.N) + (ls.length - w.s) - (if w.A = true then 1 else 0)
theorem left_step {n : Nat} {ls : List Lo} {w : Ws} (g : Good n w) (h : w.N ≠ n) : left n ls (stepW n ls w) < left n ls w := by
  obtain ⟨N, A, s, D⟩ := w
  obtain ⟨h1, h2, h3⟩ := g
  have h1 : N ≤ D := h1
  have h2 : D ≤ n := h2
  have h3 : A = true → N < D := h3
  have h : N ≠ n := h
  unfold stepW
  rw [if_neg (show ¬ N = n from h)]
  by_cases ea : A = true
  · rw [if_pos ea]
    subst ea
    show 2 * (n - (N + 1)) + (ls.length - s) - 0 < 2 * (n - N) + (ls.length - s) - 1
    omega
  · rw [if_neg ea]
    have ea' : A = false := by simpa using ea
    subst ea'
    by_cases hw : word ls s = .no
    · show 2 * (n - N) + (ls.length - (s + 1)) - (if decide (word ls s = .no) = true then 1 else 0) < 2 * (n - N) + (ls.length - s) - 0
      rw [decide_eq_true hw]
      simp only [if_true]
      omega
    · have hs : s < ls.length := by
        rcases Nat.lt_or_ge s ls.length with z | z
        · exact z
        · refine absurd ?_ hw
          unfold word
          rw [List.getElem?_eq_none z]
          rfl
      show 2 * (n - N) + (ls.length - (s + 1)) - (if decide (word ls s = .no) = true then 1 else 0) < 2 * (n - N) + (ls.length - s) - 0
      rw [decide_eq_false hw]
      simp only [Bool.false_eq_true, if_false]
      omega
/-- the first place of one -/
theorem first_at {α : Type} [DecidableEq α] : ∀ {l : List α} {a : α}, a ∈ l → ∃ j, l[j]? = some a ∧ (∀ i, i < j → l[i]? ≠ some a) ∧ l.eraseIdx j = l.erase a
  | [], a, h => absurd h (by simp)
  | b :: r, a, h => by
    by_cases e : b = a
    · subst e
      exact ⟨0, rfl, fun i hi => absurd hi (Nat.not_lt_zero _), by rw [List.erase_cons_head]; rfl⟩
    · have hr : a ∈ r := by
        rcases List.mem_cons.mp h with z | z
        · exact absurd z.symm e
        · exact z
      obtain ⟨j, h1, h2, h3⟩ := first_at hr
      refine ⟨j + 1, h1, fun i hi => ?_, ?_⟩
      · cases i with
        | zero =>
          intro z
          exact e (Option.some.inj z)
        | succ i => exact h2 i (Nat.lt_of_succ_lt_succ hi)
      · rw [List.erase_cons_tail (by rw [beq_iff_eq]; exact e), ← h3]
        rfl
end Sg
namespace Sg
open PySem PySem.Spec PyProof.Rows L2
theorem iteP {c A B : Prop} [Decidable c] (h : c) (x : A) : if c then A else B := by rw [if_pos h]; exact x
theorem iteN {c A B : Prop} [Decidable c] (h : ¬ c) (x : B) : if c then A else B := by rw [if_neg h]; exact x
abbrev rgV (D : Nat) : List V := (List.range D).map fun k => V.int (k : Nat)
theorem rgV_flat (D : Nat) : (rgV D).all flatV = true := by
  rw [List.all_map, List.all_eq_true]
  intro x _
  rfl
theorem rgV_snoc (D : Nat) : rgV D ++ [V.int (D : Nat)] = rgV (D + 1) := by
  show (List.range D).map _ ++ _ = (List.range (D + 1)).map _
  rw [List.range_succ, List.map_append]
  rfl
theorem inV_rg (k D : Nat) : inV (.int (k : Nat)) (rgV D) = decide (k < D) := by
  unfold inV
  by_cases h : k < D
  · rw [decide_eq_true h, List.any_eq_true]
    exact ⟨V.int (k : Nat), List.mem_map.mpr ⟨k, List.mem_range.mpr h, rfl⟩, by show ((k : Int) == (k : Int)) = true; simp⟩
  · rw [decide_eq_false h, List.any_eq_false]
    intro x hx
    obtain ⟨j, hj, rfl⟩ := List.mem_map.mp hx
    have := List.mem_range.mp hj
    show ¬ ((j : Int) == (k : Int)) = true
    rw [beq_iff_eq]
    omega
theorem rem_at {K : PySem.W.Frag} {H : Hp} {vs : List V} {cs : List Cl} {c : Cl} (h : DpAll K H vs (cs.map encC)) (hm : c ∈ cs) :
    ∃ j, (∃ z, (cs.map encC)[j]? = some z ∧ PyData.eqv z (encC c) = true) ∧ (∀ (m : Nat) (z' : PyData), m < j → (cs.map encC)[m]? = some z' → PyData.eqv z' (encC c) = false) ∧ DpAll K H (vs.eraseIdx j) ((cs.erase c).map encC) := by
  obtain ⟨j, h1, h2, h3⟩ := first_at hm
  refine ⟨j, ⟨encC c, by rw [List.getElem?_map, h1]; rfl, by rw [eqv_encC]; simp⟩, fun m z' hm' hz => ?_, ?_⟩
  · rw [List.getElem?_map] at hz
    obtain ⟨b, hb, rfl⟩ := Option.map_eq_some_iff.mp hz
    rw [eqv_encC]
    refine decide_eq_false fun e => ?_
    rw [e] at hb
    exact h2 m hm' hb
  · have := dpa_erase j h
    rw [← h3]
    have e : (cs.map encC).eraseIdx j = (cs.eraseIdx j).map encC := by
      clear h1 h2 h3 h this
      induction cs generalizing j with
      | nil => rfl
      | cons a r ih =>
        cases j with
        | zero => rfl
        | succ j =>
          show encC a :: (r.map encC).eraseIdx j = encC a :: (r.eraseIdx j).map encC
          by_cases hr : c ∈ r
          · rw [ih hr]
          · have ee : ∀ (l : List Cl) (j : Nat), (l.map encC).eraseIdx j = (l.eraseIdx j).map encC := by
              intro l
              induction l with
              | nil => intro j; rfl
              | cons a r ih =>
                intro j
                cases j with
                | zero => rfl
                | succ j =>
                  show encC a :: (r.map encC).eraseIdx j = encC a :: (r.eraseIdx j).map encC
                  rw [ih]
            rw [ee]
    rw [← e]
    exact this
structure OutAt (K : PySem.W.Frag) (CO : Addr) (H : Hp) (o dx c l n : Addr) (cs : List Cl) (ls : List Lo) (s D : Nat) : Prop where
  hO : H o = some (.ins CO dx (oF c l (s : Nat) n))
  hC : LstD K H c (cs.map encC)
  hL : H l = some (.lst (ls.map fun x => V.str x.nm))
  hN : H n = some (.lst (rgV D))
  cl : c ≠ l
  cn : c ≠ n
  ln : l ≠ n
theorem OutAt.oc {K : PySem.W.Frag} {CO : Addr} {H : Hp} {o dx c l n : Addr} {cs : List Cl} {ls : List Lo} {s D : Nat} (h : OutAt K CO H o dx c l n cs ls s D) : o ≠ c ∧ o ≠ l ∧ o ≠ n := by
  obtain ⟨vs, hc, _⟩ := h.hC
  exact ⟨ne_of h.hO hc (by intro z; cases z), ne_of h.hO h.hL (by intro z; cases z), ne_of h.hO h.hN (by intro z; cases z)⟩
theorem Chg.outAt {S : List Addr} {K : PySem.W.Frag} {CO : Addr} {H H1 : Hp} {o dx c l n : Addr} {cs : List Cl} {ls : List Lo} {s D : Nat} (g : Chg S H H1) (h : OutAt K CO H o dx c l n cs ls s D) (ho : o ∉ S) (hc : c ∉ S) (hl : l ∉ S) (hn : n ∉ S) :
    OutAt K CO H1 o dx c l n cs ls s D := ⟨g.keep o _ h.hO ho, g.lstD h.hC hc (noLs_encC _), g.keep l _ h.hL hl, g.keep n _ h.hN hn, h.cl, h.cn, h.ln⟩
section
variable {P : Program} {w : World} {K : PySem.W.Frag} {mg : Str → Option Value} {base : Heap}
/-! ### an outside made -/
def spOInit (K : PySem.W.Frag) (CO : Addr) : Sp := fun vs H Q _ => ∃ (o dx a b : Addr) (cs : List Cl) (ls : List Lo), vs = [.ref o, .ref a, .ref b] ∧ H o = some (.ins CO dx []) ∧ LstD K H a (cs.map encC) ∧ H b = some (.lst (ls.map fun x => V.str x.nm)) ∧
  ∀ (H' : Hp) (c l n : Addr), Chg [o] H H' → OutAt K CO H' o dx c l n cs ls 0 0 → H c = none → H l = none → H n = none → Q .non H'
theorem ok_O_init (T : Tx K mg) : FnOk P w K mg base CX0 1 T.O_init.f T.O_init.fd ["self", "calls", "losses"] (spOInit K T.CO) := by
  refine T.O_init.F.ok sc_Outside_init (fun vs H Q E h => ?_) (fun cdv A outer s H vs Q E hr h => ?_)
  · obtain ⟨o, dx, a, b, cs, ls, rfl, _⟩ := h
    rfl
  · obtain ⟨o, dx, a, b, cs, ls, rfl, hO, hA, hB, q⟩ := h
    refine ⟨_, PSs.nox (pss_cons (ps_fld (pv 0) (pe_callTy call_list_of (by rfl) T.z_list (by decide +kernel) (pa_cons (pv 1) pa_nil)) rfl)
    (pss_cons (ps_fld (pv 0) (pe_callTy call_list_of (by rfl) T.z_list (by decide +kernel) (pa_cons (pv 2) pa_nil)) rfl)
    (pss_cons (ps_fld (pv 0) pe_int rfl)
    (pss_one (ps_fld (pv 0) (pe_lst pa_nil) rfl))))), ?_⟩
    obtain ⟨av, hA1, hA2⟩ := hA
    have hoa : o ≠ a := ne_of hO hA1 (by intro z; cases z)
    have hob : o ≠ b := ne_of hO hB (by intro z; cases z)
    refine ⟨_, rfl, a, av, rfl, .inl (SqL.of hA1), fun c nc => ?_⟩
    have hO1 : (upd H c (.lst av)) o = some (.ins T.CO dx []) := by rw [upd_ne (ne_of_none hO nc)]; exact hO
    refine ⟨_, rfl, o, T.CO, dx, [], rfl, hO1, T.cO, T.nO_calls, (by show 0 < 1000; decide), ?_⟩
    have hB2 : (upd (upd H c (.lst av)) o (.ins T.CO dx (putF "calls" (.ref c) []))) b = some (.lst (ls.map fun x => V.str x.nm)) := by
      rw [upd_ne hob.symm, upd_ne (ne_of_none hB nc)]
      exact hB
    refine ⟨_, rfl, b, _, rfl, .inl (SqL.of hB2), fun l nl => ?_⟩
    have nol : o ≠ l := ne_of_none upd_same nl
    have ncl : c ≠ l := ne_of_none (show (upd (upd H c (.lst av)) o (.ins T.CO dx (putF "calls" (.ref c) []))) c = some (.lst av) by rw [upd_ne (ne_of_none hO nc).symm, upd_same]) nl
    refine ⟨_, rfl, o, T.CO, dx, _, rfl, by rw [upd_ne nol, upd_same], T.cO, T.nO_losses, (by show 1 < 1000; decide), ?_⟩
    refine ⟨_, rfl, o, T.CO, dx, _, rfl, upd_same, T.cO, T.nO_sent, (by show 2 < 1000; decide), ?_⟩
    refine ⟨Nat.zero_le _, fun n nn => ?_⟩
    have non : o ≠ n := ne_of_none upd_same nn
    refine ⟨_, rfl, o, T.CO, dx, _, rfl, by rw [upd_ne non, upd_same], T.cO, T.nO_numbers, (by show 3 < 1000; decide), ?_⟩
    have nc0 : c ≠ o := (ne_of_none hO nc).symm
    have hl1 : ∀ x, (upd (upd (upd (upd (upd H c (.lst av)) o (.ins T.CO dx (putF "calls" (.ref c) []))) l (.lst (ls.map fun x => V.str x.nm))) o x) n (.lst [])) n = some (.lst []) := fun x => upd_same
    have hnl : l ≠ n := by
      rintro rfl
      rw [upd_ne nol.symm, upd_ne nol.symm, upd_same] at nn
      cases nn
    have hnc : c ≠ n := by
      rintro rfl
      rw [upd_ne nc0, upd_ne nc0, upd_ne ncl, upd_ne nc0, upd_same] at nn
      cases nn
    have nl0 : H l = none := by
      rw [upd_ne nol.symm, upd_ne ncl.symm] at nl
      exact nl
    have nn0 : H n = none := by
      rw [upd_ne non.symm, upd_ne non.symm, upd_ne hnl.symm, upd_ne non.symm, upd_ne hnc.symm] at nn
      exact nn
    have g : Chg [o] H (upd (upd (upd (upd (upd (upd (upd H c (.lst av)) o (.ins T.CO dx (putF "calls" (.ref c) []))) l (.lst (ls.map fun x => V.str x.nm))) o (.ins T.CO dx (putF "losses" (.ref l) (putF "calls" (.ref c) [])))) o (.ins T.CO dx (putF "sent" (.int 0) (putF "losses" (.ref l) (putF "calls" (.ref c) []))))) n (.lst [])) o (.ins T.CO dx (putF "numbers" (.ref n) (putF "sent" (.int 0) (putF "losses" (.ref l) (putF "calls" (.ref c) [])))))) := by
      have g1 : Chg [o] H (upd H c (.lst av)) := Chg.new nc
      have g2 : Chg [o] (upd H c (.lst av)) _ := Chg.put (o := .ins T.CO dx (putF "calls" (.ref c) [])) hO1 rfl (by simp)
      have g3 := (g1.trans g2).trans (Chg.new (o := .lst (ls.map fun x => V.str x.nm)) nl)
      have g4 := g3.trans (Chg.put (p := o) (o := .ins T.CO dx (putF "losses" (.ref l) (putF "calls" (.ref c) []))) (by rw [upd_ne nol, upd_same]) rfl (by simp))
      have g5 := g4.trans (Chg.put (p := o) (o := .ins T.CO dx (putF "sent" (.int 0) (putF "losses" (.ref l) (putF "calls" (.ref c) [])))) upd_same rfl (by simp))
      have g6 := g5.trans (Chg.new (o := .lst []) nn)
      exact g6.trans (Chg.put (p := o) (by rw [upd_ne non, upd_same]) rfl (by simp))
    refine q _ c l n g ⟨?_, ⟨av, ?_, g.dps _ _ (noLs_encC _) hA2⟩, ?_, ?_, ncl, hnc, hnl⟩ nc nl0 nn0
    · rw [upd_same, oF_mk]
      rfl
    · rw [upd_ne nc0, upd_ne hnc, upd_ne nc0, upd_ne nc0, upd_ne ncl, upd_ne nc0, upd_same]
    · rw [upd_ne nol.symm, upd_ne hnl, upd_ne nol.symm, upd_ne nol.symm, upd_same]
    · rw [upd_ne non.symm, upd_same]
      rfl
end
end Sg
namespace Sg
open PySem PySem.Spec PyProof.Rows L2
theorem lo_there (x : Lo) (h : (!decide (V.str x.nm = V.str "there")) = true) : x ≠ .there := by
  cases x with
  | there => exact absurd h (by decide +kernel)
  | no => intro z; cases z
  | back => intro z; cases z
theorem lo_there' (x : Lo) (h : ¬ (!decide (V.str x.nm = V.str "there")) = true) : x = .there := by
  cases x with
  | there => rfl
  | no => exact absurd (by decide +kernel) h
  | back => exact absurd (by decide +kernel) h
theorem lo_no (x : Lo) : decide (V.str x.nm = V.str "no") = decide (x = .no) := by cases x <;> decide +kernel
section
variable {P : Program} {w : World} {K : PySem.W.Frag} {mg : Str → Option Value} {base : Heap}
def spSend (K : PySem.W.Frag) (CO : Addr) : Sp := fun vs H Q _ => ∃ (o dx c l n : Addr) (v : V) (cs : List Cl) (ls : List Lo) (s D k : Nat) (sd : SD), vs = [.ref o, .int (k : Nat), v] ∧ OutAt K CO H o dx c l n cs ls s D ∧ Dp K H v (encSD sd) ∧ k ≤ D ∧ (k = D → sd.can cs) ∧ cs.length ≤ 100 ∧ D ≤ 100 ∧
  ∀ (H' : Hp) (cs' : List Cl) (D' : Nat), Chg [o, c, n] H H' → OutAt K CO H' o dx c l n cs' ls (s + 1) D' → ((word ls s ≠ .there ∧ k = D) ∧ D' = D + 1 ∧ cs' = sd.act cs ∨ ¬ (word ls s ≠ .there ∧ k = D) ∧ D' = D ∧ cs' = cs) → Q (.bl (decide (word ls s = .no))) H'
theorem ok_O_send (T : Tx K mg) : FnOk P w K mg base CX0 1 T.O_send.f T.O_send.fd ["self", "number", "deed"] (spSend K T.CO) := by
  refine T.O_send.F.ok sc_Outside_send (fun vs H Q E h => ?_) (fun cdv A outer s H vs Q E hr h => ?_)
  · obtain ⟨o, dx, c, l, n, v, cs, ls, s, D, k, sd, rfl, _⟩ := h
    rfl
  · obtain ⟨o, dx, c, l, n, v, cs, ls, s, D, k, sd, rfl, hA, hV, hk, hcan, hcl, hDl, q⟩ := h
    have hu65 := hu65_of hr
    refine ⟨_, (pss_cons (ps_set (i := 3) sc_Outside_send.nd rfl (by first | exact Or.inl rfl | exact Or.inr rfl) pe_str)
    (C8.pss_cut (ps_if (pt_cmpR op_lt (pe_fld (pv 0) rfl) (pe_callB call_len_seq (by rfl) T.z_len PySem.boot_len (pa_cons (pe_fld (pv 0) rfl) pa_nil)) (nomark _))
        (pss_one (ps_set (i := 3) sc_Outside_send.nd rfl (by first | exact Or.inl rfl | exact Or.inr rfl) (pe_ix ix_list (pe_fld (pv 0) rfl) (pe_fld (pv 0) rfl) (fun _ _ => rfl))))
        pss_nil)
    (pss_cons (ps_fldaug (pv 0) pe_int in_add)
    (C8.pss_cut (ps_if (pw_and (pt_cmpR op_ne (pv 3) pe_str (nomark _)) (pw_and1 (pt_cmpR op_notIn_seq (pv 1) (pe_fld (pv 0) rfl) (by rfl)))).pt
        (pss_cons (ps_expr (pe_bm PySem.F.plainAttrs_list PySem.F.slot_list_append PySem.F.type_list_append mt_append (pe_fld (pv 0) rfl) (pa_cons (pv 1) pa_nil)))
        (pss_cons (ps_if (pt_cmpR op_in_seq (pe_ix ix_tup (pv 2) pe_int (fun _ _ => rfl)) (pe_tup (pa_cons pe_str (pa_cons pe_str pa_nil))) (by rfl))
            (pss_one (ps_expr (pe_bm PySem.F.plainAttrs_list PySem.F.slot_list_remove PySem.F.type_list_remove (mt_removeD hu65) (pe_fld (pv 0) rfl) (pa_cons (pe_ix ix_tup (pv 2) pe_int (fun _ _ => rfl)) pa_nil))))
            pss_nil)
        (pss_one (ps_if (pt_cmpR op_in_seq (pe_ix ix_tup (pv 2) pe_int (fun _ _ => rfl)) (pe_tup (pa_cons pe_str (pa_cons pe_str pa_nil))) (by rfl))
            (pss_one (ps_expr (pe_bm PySem.F.plainAttrs_list PySem.F.slot_list_append PySem.F.type_list_append mt_append (pe_fld (pv 0) rfl) (pa_cons (pe_ix ix_tup (pv 2) (pe_op op_sub (pe_callB call_len_seq (by rfl) T.z_len PySem.boot_len (pa_cons (pv 2) pa_nil)) pe_int) (fun _ _ => rfl)) pa_nil))))
            pss_nil))))
        pss_nil)
    (pss_one (ps_ret (pe_cmpR op_eq (pv 3) pe_str (nomark _)))))))), ?_⟩
    -- word
    refine ⟨fun σ H1 => σ = [some (.ref o), some (.int (k : Nat)), some v, some (.str (word ls s).nm)] ∧ H1 = H, ?_, ?_⟩
    · refine ⟨_, rfl, o, T.CO, dx, _, _, rfl, hA.hO, T.cO, T.nO_sent, oF_sent _ _ _ _, _, rfl, o, T.CO, dx, _, _, rfl, hA.hO, T.cO, T.nO_losses, oF_losses _ _ _ _, l, _, rfl, .inl (SqL.of hA.hL), _, _, rfl, rfl, _, rfl, ite2 (fun e => ?_) (fun e => ?_)⟩
      · have e' := of_decide_eq_true e
        rw [List.length_map] at e'
        have hs : s < ls.length := by omega
        have hw : (ls.map fun x => V.str x.nm)[s]? = some (.str (word ls s).nm) := by
          rw [List.getElem?_map, List.getElem?_eq_getElem hs]
          unfold word
          rw [List.getElem?_eq_getElem hs]
          rfl
        refine ⟨_, rfl, o, T.CO, dx, _, _, rfl, hA.hO, T.cO, T.nO_losses, oF_losses _ _ _ _, _, rfl, o, T.CO, dx, _, _, rfl, hA.hO, T.cO, T.nO_sent, oF_sent _ _ _ _, l, _, _, _, rfl, rfl, SqL.of hA.hL, atI_nat hw, rfl, rfl⟩
      · have e' : ¬ ((s : Int) < ((ls.map fun x => V.str x.nm).length : Int)) := fun z => e (decide_eq_true z)
        rw [List.length_map] at e'
        have hw : word ls s = .no := by
          unfold word
          rw [List.getElem?_eq_none (by omega)]
          rfl
        rw [hw]
        exact ⟨rfl, rfl⟩
    · rintro σ H1 ⟨rfl, rfl⟩
      obtain ⟨hoc, hol, hon⟩ := hA.oc
      -- self.sent += 1
      refine ⟨_, rfl, o, T.CO, dx, _, _, rfl, hA.hO, T.cO, T.nO_sent, oF_sent _ _ _ _, _, _, rfl, rfl, dx, _, hA.hO, (by show 4 < 1000; decide), ?_⟩
      rw [oF_putS]
      have g1 : Chg [o, c, n] H1 (upd H1 o (.ins T.CO dx (oF c l ((s : Int) + 1) n))) := Chg.put hA.hO rfl (by simp)
      have hO1 : (upd H1 o (.ins T.CO dx (oF c l ((s : Int) + 1) n))) o = some (.ins T.CO dx (oF c l ((s + 1 : Nat) : Int) n)) := by
        rw [upd_same]
        rfl
      have hL1 : (upd H1 o (.ins T.CO dx (oF c l ((s : Int) + 1) n))) l = some (.lst (ls.map fun x => V.str x.nm)) := by
        rw [upd_ne hol.symm]
        exact hA.hL
      have hN1 : (upd H1 o (.ins T.CO dx (oF c l ((s : Int) + 1) n))) n = some (.lst (rgV D)) := by
        rw [upd_ne hon.symm]
        exact hA.hN
      obtain ⟨cv, hc0, hcd⟩ := hA.hC
      have hC1 : (upd H1 o (.ins T.CO dx (oF c l ((s : Int) + 1) n))) c = some (.lst cv) := by
        rw [upd_ne hoc.symm]
        exact hc0
      have hD1 := g1.dps _ _ (noLs_encC _) hcd
      have hV1 := g1.dp _ _ (noL_encSD _) hV
      generalize upd H1 o (.ins T.CO dx (oF c l ((s : Int) + 1) n)) = Ha at g1 hO1 hL1 hN1 hC1 hD1 hV1
      refine ⟨fun σ H2 => ∃ (cs' : List Cl) (D' : Nat), σ = [some (.ref o), some (.int (k : Nat)), some v, some (.str (word ls s).nm)] ∧ Chg [o, c, n] H1 H2 ∧ OutAt K T.CO H2 o dx c l n cs' ls (s + 1) D' ∧ ((word ls s ≠ .there ∧ k = D) ∧ D' = D + 1 ∧ cs' = sd.act cs ∨ ¬ (word ls s ≠ .there ∧ k = D) ∧ D' = D ∧ cs' = cs), ?_, ?_⟩
      · have same : ¬ (word ls s ≠ .there ∧ k = D) → ∃ (cs' : List Cl) (D' : Nat), ([some (.ref o), some (.int (k : Nat)), some v, some (.str (word ls s).nm)] : List (Option V)) = [some (.ref o), some (.int (k : Nat)), some v, some (.str (word ls s).nm)] ∧ Chg [o, c, n] H1 Ha ∧ OutAt K T.CO Ha o dx c l n cs' ls (s + 1) D' ∧ ((word ls s ≠ .there ∧ k = D) ∧ D' = D + 1 ∧ cs' = sd.act cs ∨ ¬ (word ls s ≠ .there ∧ k = D) ∧ D' = D ∧ cs' = cs) := fun z =>
          ⟨cs, D, rfl, g1, ⟨hO1, ⟨cv, hC1, hD1⟩, hL1, hN1, hA.cl, hA.cn, hA.ln⟩, .inr ⟨z, rfl, rfl⟩⟩
        refine ⟨_, rfl, rfl, _, rfl, ite2 (fun e1 => ?_) (fun e1 => iteF (same fun z => z.1 (lo_there' _ e1)))⟩
        refine ⟨_, rfl, _, rfl, o, T.CO, dx, _, _, rfl, hO1, T.cO, T.nO_numbers, oF_numbers _ _ _ _, n, _, rfl, .inl (SqL.of hN1), rfl, rgV_flat D, _, rfl, ite2 (fun e2 => ?_) (fun e2 => same fun z => e2 ?_)⟩
        · have e2' : (!inV (.int (k : Nat)) (rgV D)) = true := e2
          rw [inV_rg] at e2'
          have hkD : k = D := by
            have : ¬ k < D := by simpa using e2'
            omega
          have hw := lo_there _ e1
          -- numbers.append
          refine ⟨_, rfl, o, T.CO, dx, _, _, rfl, hO1, T.cO, T.nO_numbers, oF_numbers _ _ _ _, .inl ⟨rfl, _, SqL.of hN1⟩, _, rfl, n, _, _, rfl, rfl, hN1, ?_, ?_⟩
          · rw [List.length_map, List.length_range]
            exact smallL (by omega)
          have g2 : Chg [o, c, n] Ha (upd Ha n (.lst (rgV D ++ [.int (k : Nat)]))) := Chg.put hN1 rfl (by simp)
          have hO2 : (upd Ha n (.lst (rgV D ++ [.int (k : Nat)]))) o = some (.ins T.CO dx (oF c l ((s + 1 : Nat) : Int) n)) := by rw [upd_ne hon]; exact hO1
          have hL2 : (upd Ha n (.lst (rgV D ++ [.int (k : Nat)]))) l = some (.lst (ls.map fun x => V.str x.nm)) := by rw [upd_ne hA.ln]; exact hL1
          have hN2 : (upd Ha n (.lst (rgV D ++ [.int (k : Nat)]))) n = some (.lst (rgV (D + 1))) := by rw [upd_same, hkD, rgV_snoc]
          have hC2 : (upd Ha n (.lst (rgV D ++ [.int (k : Nat)]))) c = some (.lst cv) := by rw [upd_ne hA.cn]; exact hC1
          have hD2 := g2.dps _ _ (noLs_encC _) hD1
          have hV2 := g2.dp _ _ (noL_encSD _) hV1
          have g12 := g1.trans g2
          generalize upd Ha n (.lst (rgV D ++ [.int (k : Nat)])) = Hb at g2 hO2 hL2 hN2 hC2 hD2 hV2 g12
          have fin : ∀ (H5 : Hp) (cv5 : List V), Chg [o, c, n] Hb H5 → H5 o = some (.ins T.CO dx (oF c l ((s + 1 : Nat) : Int) n)) → H5 l = some (.lst (ls.map fun x => V.str x.nm)) → H5 n = some (.lst (rgV (D + 1))) → H5 c = some (.lst cv5) → DpAll K H5 cv5 ((sd.act cs).map encC) →
              ∃ (cs' : List Cl) (D' : Nat), ([some (.ref o), some (.int (k : Nat)), some v, some (.str (word ls s).nm)] : List (Option V)) = [some (.ref o), some (.int (k : Nat)), some v, some (.str (word ls s).nm)] ∧ Chg [o, c, n] H1 H5 ∧ OutAt K T.CO H5 o dx c l n cs' ls (s + 1) D' ∧ ((word ls s ≠ .there ∧ k = D) ∧ D' = D + 1 ∧ cs' = sd.act cs ∨ ¬ (word ls s ≠ .there ∧ k = D) ∧ D' = D ∧ cs' = cs) :=
            fun H5 cv5 g5 a1 a2 a3 a4 a5 => ⟨sd.act cs, D + 1, rfl, g12.trans g5, ⟨a1, ⟨cv5, a4, a5⟩, a2, a3, hA.cl, hA.cn, hA.ln⟩, .inl ⟨⟨hw, hkD⟩, rfl, rfl⟩⟩
          have hcan' := hcan hkD
          cases sd with
          | undo x =>
            obtain ⟨a, xs, rfl, hT, hxs⟩ := dpT_inv hV2
            cases hxs with
            | cons h1 t1 =>
              cases h1
              cases t1 with
              | cons h2 t2 =>
                cases t2
                rename_i xv
                refine ⟨_, rfl, a, _, 0, _, rfl, rfl, hT, atI_nat (j := 0) rfl, (by show 2 ≤ sizeLine; decide), fun p np => ⟨p, _, rfl, .inr (SqT.of upd_same), rfl, rfl, _, rfl, iteP (by decide +kernel) ?_⟩⟩
                have g3 : Chg [o, c, n] Hb (upd Hb p (.tup [.str "undo", .str "change"])) := Chg.new np
                have k3 : ∀ b u, Hb b = some u → (upd Hb p (.tup [.str "undo", .str "change"])) b = some u := fun b u e => by rw [upd_ne (ne_of_none e np)]; exact e
                have hX3 := g3.dp _ _ (noL_encC x) h2
                have hD3 := g3.dps _ _ (noLs_encC _) hD2
                obtain ⟨j, hz, hno, her⟩ := rem_at hD3 (show x ∈ cs from hcan')
                refine ⟨_, rfl, o, T.CO, dx, _, _, rfl, k3 _ _ hO2, T.cO, T.nO_calls, oF_calls _ _ _ _, .inl ⟨rfl, _, SqL.of (k3 _ _ hC2)⟩, _, rfl, a, _, 1, _, rfl, rfl, g3.sqT hT, atI_nat (j := 1) rfl, c, cv, xv, encC x, cs.map encC, j, rfl, rfl, k3 _ _ hC2, hD3, hX3, shaped_encCs cs, shaped_encC x, hz, hno, ?_⟩
                have g4 : Chg [o, c, n] (upd Hb p (.tup [.str "undo", .str "change"])) (upd (upd Hb p (.tup [.str "undo", .str "change"])) c (.lst (cv.eraseIdx j))) := Chg.put (k3 _ _ hC2) rfl (by simp)
                have hT4 := g4.sqT (g3.sqT hT)
                refine ⟨_, rfl, a, _, 0, _, rfl, rfl, hT4, atI_nat (j := 0) rfl, (by show 2 ≤ sizeLine; decide), fun p2 np2 => ⟨p2, _, rfl, .inr (SqT.of upd_same), rfl, rfl, _, rfl, iteN (by decide +kernel) ?_⟩⟩
                have g5 : Chg [o, c, n] _ (upd (upd (upd Hb p (.tup [.str "undo", .str "change"])) c (.lst (cv.eraseIdx j))) p2 (.tup [.str "do", .str "change"])) := Chg.new np2
                have k5 : ∀ b u, b ≠ c → Hb b = some u → (upd (upd (upd Hb p (.tup [.str "undo", .str "change"])) c (.lst (cv.eraseIdx j))) p2 (.tup [.str "do", .str "change"])) b = some u := fun b u nb e => by
                  have e1 := k3 b u e
                  have e2 : (upd (upd Hb p (.tup [.str "undo", .str "change"])) c (.lst (cv.eraseIdx j))) b = some u := by rw [upd_ne nb]; exact e1
                  rw [upd_ne (ne_of_none e2 np2)]
                  exact e2
                refine fin _ (cv.eraseIdx j) ((g3.trans g4).trans g5) (k5 _ _ hoc hO2) (k5 _ _ hA.cl.symm hL2) (k5 _ _ hA.cn.symm hN2) (by rw [upd_ne (ne_of_none upd_same np2), upd_same]) ((g4.trans g5).dps _ _ (noLs_encC _) her)
          | dn x =>
            obtain ⟨a, xs, rfl, hT, hxs⟩ := dpT_inv hV2
            cases hxs with
            | cons h1 t1 =>
              cases h1
              cases t1 with
              | cons h2 t2 =>
                cases t2
                rename_i xv
                refine ⟨_, rfl, a, _, 0, _, rfl, rfl, hT, atI_nat (j := 0) rfl, (by show 2 ≤ sizeLine; decide), fun p np => ⟨p, _, rfl, .inr (SqT.of upd_same), rfl, rfl, _, rfl, iteN (by decide +kernel) ?_⟩⟩
                have g3 : Chg [o, c, n] Hb (upd Hb p (.tup [.str "undo", .str "change"])) := Chg.new np
                have k3 : ∀ b u, Hb b = some u → (upd Hb p (.tup [.str "undo", .str "change"])) b = some u := fun b u e => by rw [upd_ne (ne_of_none e np)]; exact e
                have hT3 := g3.sqT hT
                refine ⟨_, rfl, a, _, 0, _, rfl, rfl, hT3, atI_nat (j := 0) rfl, (by show 2 ≤ sizeLine; decide), fun p2 np2 => ⟨p2, _, rfl, .inr (SqT.of upd_same), rfl, rfl, _, rfl, iteP (by decide +kernel) ?_⟩⟩
                have g4 : Chg [o, c, n] _ (upd (upd Hb p (.tup [.str "undo", .str "change"])) p2 (.tup [.str "do", .str "change"])) := Chg.new np2
                have k4 : ∀ b u, Hb b = some u → (upd (upd Hb p (.tup [.str "undo", .str "change"])) p2 (.tup [.str "do", .str "change"])) b = some u := fun b u e => by rw [upd_ne (ne_of_none (k3 b u e) np2)]; exact k3 b u e
                have hT4 := g4.sqT hT3
                refine ⟨_, rfl, o, T.CO, dx, _, _, rfl, k4 _ _ hO2, T.cO, T.nO_calls, oF_calls _ _ _ _, .inl ⟨rfl, _, SqL.of (k4 _ _ hC2)⟩, _, rfl, _, rfl, a, _, rfl, .inr hT4, _, _, rfl, rfl, a, _, _, _, rfl, rfl, hT4, atI_nat (j := 1) rfl, c, cv, xv, rfl, rfl, k4 _ _ hC2, ?_, ?_⟩
                · rw [dpa_length hD2, List.length_map]
                  exact smallL (by omega)
                have g5 : Chg [o, c, n] _ (upd (upd (upd Hb p (.tup [.str "undo", .str "change"])) p2 (.tup [.str "do", .str "change"])) c (.lst (cv ++ [xv]))) := Chg.put (k4 _ _ hC2) rfl (by simp)
                refine fin _ (cv ++ [xv]) ((g3.trans g4).trans g5) (by rw [upd_ne hoc]; exact k4 _ _ hO2) (by rw [upd_ne hA.cl.symm]; exact k4 _ _ hL2) (by rw [upd_ne hA.cn.symm]; exact k4 _ _ hN2) upd_same ?_
                show DpAll K _ _ ((cs ++ [x]).map encC)
                rw [List.map_append]
                exact dpa_snoc (((g3.trans g4).trans g5).dps _ _ (noLs_encC _) hD2) (((g3.trans g4).trans g5).dp _ _ (noL_encC x) h2)
          | change x y =>
            obtain ⟨a, xs, rfl, hT, hxs⟩ := dpT_inv hV2
            cases hxs with
            | cons h1 t1 =>
              cases h1
              cases t1 with
              | cons h2 t2 =>
                cases t2 with
                | cons h3 t3 =>
                cases t3
                rename_i xv yv
                refine ⟨_, rfl, a, _, 0, _, rfl, rfl, hT, atI_nat (j := 0) rfl, (by show 2 ≤ sizeLine; decide), fun p np => ⟨p, _, rfl, .inr (SqT.of upd_same), rfl, rfl, _, rfl, iteP (by decide +kernel) ?_⟩⟩
                have g3 : Chg [o, c, n] Hb (upd Hb p (.tup [.str "undo", .str "change"])) := Chg.new np
                have k3 : ∀ b u, Hb b = some u → (upd Hb p (.tup [.str "undo", .str "change"])) b = some u := fun b u e => by rw [upd_ne (ne_of_none e np)]; exact e
                have hX3 := g3.dp _ _ (noL_encC x) h2
                have hD3 := g3.dps _ _ (noLs_encC _) hD2
                obtain ⟨j, hz, hno, her⟩ := rem_at hD3 (show x ∈ cs from hcan')
                refine ⟨_, rfl, o, T.CO, dx, _, _, rfl, k3 _ _ hO2, T.cO, T.nO_calls, oF_calls _ _ _ _, .inl ⟨rfl, _, SqL.of (k3 _ _ hC2)⟩, _, rfl, a, _, 1, _, rfl, rfl, g3.sqT hT, atI_nat (j := 1) rfl, c, cv, xv, encC x, cs.map encC, j, rfl, rfl, k3 _ _ hC2, hD3, hX3, shaped_encCs cs, shaped_encC x, hz, hno, ?_⟩
                have g4 : Chg [o, c, n] (upd Hb p (.tup [.str "undo", .str "change"])) (upd (upd Hb p (.tup [.str "undo", .str "change"])) c (.lst (cv.eraseIdx j))) := Chg.put (k3 _ _ hC2) rfl (by simp)
                have hT4 := g4.sqT (g3.sqT hT)
                refine ⟨_, rfl, a, _, 0, _, rfl, rfl, hT4, atI_nat (j := 0) rfl, (by show 2 ≤ sizeLine; decide), fun p2 np2 => ⟨p2, _, rfl, .inr (SqT.of upd_same), rfl, rfl, _, rfl, iteP (by decide +kernel) ?_⟩⟩
                have g5 : Chg [o, c, n] _ (upd (upd (upd Hb p (.tup [.str "undo", .str "change"])) c (.lst (cv.eraseIdx j))) p2 (.tup [.str "do", .str "change"])) := Chg.new np2
                have k5 : ∀ b u, b ≠ c → Hb b = some u → (upd (upd (upd Hb p (.tup [.str "undo", .str "change"])) c (.lst (cv.eraseIdx j))) p2 (.tup [.str "do", .str "change"])) b = some u := fun b u nb e => by
                  have e1 := k3 b u e
                  have e2 : (upd (upd Hb p (.tup [.str "undo", .str "change"])) c (.lst (cv.eraseIdx j))) b = some u := by rw [upd_ne nb]; exact e1
                  rw [upd_ne (ne_of_none e2 np2)]
                  exact e2
                have hT5 := g5.sqT hT4
                have hC5 : (upd (upd (upd Hb p (.tup [.str "undo", .str "change"])) c (.lst (cv.eraseIdx j))) p2 (.tup [.str "do", .str "change"])) c = some (.lst (cv.eraseIdx j)) := by rw [upd_ne (ne_of_none upd_same np2), upd_same]
                refine ⟨_, rfl, o, T.CO, dx, _, _, rfl, k5 _ _ hoc hO2, T.cO, T.nO_calls, oF_calls _ _ _ _, .inl ⟨rfl, _, SqL.of hC5⟩, _, rfl, _, rfl, a, _, rfl, .inr hT5, _, _, rfl, rfl, a, _, _, _, rfl, rfl, hT5, atI_nat (j := 2) rfl, c, cv.eraseIdx j, yv, rfl, rfl, hC5, ?_, ?_⟩
                · have h1 := len_erase cv j
                  have h2 := dpa_length hD2
                  rw [List.length_map] at h2
                  exact smallL (by omega)
                have g6 : Chg [o, c, n] _ (upd (upd (upd (upd Hb p (.tup [.str "undo", .str "change"])) c (.lst (cv.eraseIdx j))) p2 (.tup [.str "do", .str "change"])) c (.lst (cv.eraseIdx j ++ [yv]))) := Chg.put hC5 rfl (by simp)
                refine fin _ (cv.eraseIdx j ++ [yv]) (((g3.trans g4).trans g5).trans g6) (by rw [upd_ne hoc]; exact k5 _ _ hoc hO2) (by rw [upd_ne hA.cl.symm]; exact k5 _ _ hA.cl.symm hL2) (by rw [upd_ne hA.cn.symm]; exact k5 _ _ hA.cn.symm hN2) upd_same ?_
                show DpAll K _ _ ((cs.erase x ++ [y]).map encC)
                rw [List.map_append]
                exact dpa_snoc (((g4.trans g5).trans g6).dps _ _ (noLs_encC _) her) ((((g3.trans g4).trans g5).trans g6).dp _ _ (noL_encC y) h3)
        · show (!inV (.int (k : Nat)) (rgV D)) = true
          rw [inV_rg, decide_eq_false (by omega : ¬ k < D)]
          rfl
      · rintro σ H2 ⟨cs', D', rfl, g2, hA2, hd⟩
        refine ⟨_, rfl, rfl, ?_⟩
        rw [lo_no]
        exact q H2 cs' D' g2 hA2 hd
/-! ### the calls in force, the numbers done -/
def spForce (K : PySem.W.Frag) (CO : Addr) : Sp := fun vs H Q _ => ∃ (o dx c l n : Addr) (cs : List Cl) (ls : List Lo) (s D : Nat), vs = [.ref o] ∧ OutAt K CO H o dx c l n cs ls s D ∧
  ∀ (H' : Hp) (p : Addr), Same H H' → H p = none → LstD K H' p ((cs.mergeSort cLe).map encC) → Q (.ref p) H'
theorem ok_O_in_force (T : Tx K mg) : FnOk P w K mg base CX0 1 T.O_in_force.f T.O_in_force.fd ["self"] (spForce K T.CO) := by
  refine T.O_in_force.F.ok sc_Outside_in_force (fun vs H Q E h => ?_) (fun cdv A outer s H vs Q E hr h => ?_)
  · obtain ⟨o, dx, c, l, n, cs, ls, s, D, rfl, _⟩ := h
    rfl
  · obtain ⟨o, dx, c, l, n, cs, ls, s, D, rfl, hA, q⟩ := h
    have hu6 : A.units + 3 + 6 < cLine := by
      have := hr.un
      show A.units + 3 + 6 < cLine
      have e : (A.deeper (envOfC "Outside.in_force" (defScope s_Outside_in_force) 0 T.O_in_force.f cdv)).units = A.units + 3 := rfl
      change A.units + 3 + 16 * 0 + 200 < cLine at this
      omega
    refine ⟨_, (pss_one (ps_ret (pe_callB (cr_sortC hu6) (by rfl) T.z_sorted (by decide +kernel) (pa_cons (pe_fld (pv 0) rfl) pa_nil)))), ?_⟩
    obtain ⟨cv, hc, hd⟩ := hA.hC
    refine ⟨_, rfl, o, T.CO, dx, _, _, rfl, hA.hO, T.cO, T.nO_calls, oF_calls _ _ _ _, c, cv, cs, rfl, SqL.of hc, hd, fun p zs np hz => ?_⟩
    exact q _ p (same_new np) np ⟨zs, upd_same, (Chg.new (S := []) np).dps _ _ (noLs_encC _) hz⟩
def spDone (K : PySem.W.Frag) (CO : Addr) : Sp := fun vs H Q _ => ∃ (o dx c l n : Addr) (cs : List Cl) (ls : List Lo) (s D : Nat), vs = [.ref o] ∧ OutAt K CO H o dx c l n cs ls s D ∧
  ∀ (H' : Hp) (p : Addr), Same H H' → H p = none → H' p = some (.lst (rgV D)) → Q (.ref p) H'
theorem ok_O_done (T : Tx K mg) : FnOk P w K mg base CX0 1 T.O_done.f T.O_done.fd ["self"] (spDone K T.CO) := by
  refine T.O_done.F.ok sc_Outside_done (fun vs H Q E h => ?_) (fun cdv A outer s H vs Q E hr h => ?_)
  · obtain ⟨o, dx, c, l, n, cs, ls, s, D, rfl, _⟩ := h
    rfl
  · obtain ⟨o, dx, c, l, n, cs, ls, s, D, rfl, hA, q⟩ := h
    refine ⟨_, (pss_one (ps_ret (pe_callTy call_list_of (by rfl) T.z_list (by decide +kernel) (pa_cons (pe_fld (pv 0) rfl) pa_nil)))), ?_⟩
    refine ⟨_, rfl, o, T.CO, dx, _, _, rfl, hA.hO, T.cO, T.nO_numbers, oF_numbers _ _ _ _, n, _, rfl, .inl (SqL.of hA.hN), fun p np => ?_⟩
    exact q _ p (same_new np) np upd_same
end
end Sg
namespace Sg
open PySem PySem.Spec PyProof.Rows L2
structure SagaAt (K : PySem.W.Frag) (CS : Addr) (H : Hp) (sg dx e : Addr) (sds : List SD) (N : Nat) (A : Bool) : Prop where
  hS : H sg = some (.ins CS dx (sF e (N : Nat) A))
  hE : LstD K H e (sds.map encSD)
theorem Chg.sagaAt {S : List Addr} {K : PySem.W.Frag} {CS : Addr} {H H1 : Hp} {sg dx e : Addr} {sds : List SD} {N : Nat} {A : Bool} (g : Chg S H H1) (h : SagaAt K CS H sg dx e sds N A) (h1 : sg ∉ S) (h2 : e ∉ S) : SagaAt K CS H1 sg dx e sds N A :=
  ⟨g.keep sg _ h.hS h1, g.lstD h.hE h2 (noLs_map noL_encSD _)⟩
section
variable {P : Program} {w : World} {K : PySem.W.Frag} {mg : Str → Option Value} {base : Heap}
def spOver (CS : Addr) : Sp := fun vs H Q _ => ∃ (sg dx e : Addr) (N : Int) (A : Bool) (ys : List V), vs = [.ref sg] ∧ H sg = some (.ins CS dx (sF e N A)) ∧ H e = some (.lst ys) ∧ Q (.bl (decide (V.int N = V.int ys.length))) H
theorem ok_S_is_over (T : Tx K mg) : FnOk P w K mg base CX0 1 T.S_is_over.f T.S_is_over.fd ["self"] (spOver T.CS) := by
  refine T.S_is_over.F.ok sc_Saga_is_over (fun vs H Q E h => ?_) (fun cdv A outer s H vs Q E hr h => ?_)
  · obtain ⟨sg, dx, e, N, A, ys, rfl, _⟩ := h
    rfl
  · obtain ⟨sg, dx, e, N, A, ys, rfl, hS, hE, q⟩ := h
    refine ⟨_, (pss_one (ps_ret (pe_cmpR op_eq (pe_fld (pv 0) rfl) (pe_callB call_len_seq (by rfl) T.z_len PySem.boot_len (pa_cons (pe_fld (pv 0) rfl) pa_nil)) (nomark _)))), ?_⟩
    exact ⟨_, rfl, sg, T.CS, dx, _, _, rfl, hS, T.cS, T.nS_noted, sF_noted _ _ _, _, rfl, sg, T.CS, dx, _, _, rfl, hS, T.cS, T.nS_deeds, sF_deeds _ _ _, e, ys, rfl, .inl (SqL.of hE), rfl, q⟩
def spStep (K : PySem.W.Frag) (CO CS : Addr) : Sp := fun vs H Q _ => ∃ (sg dxs e o dx c l n : Addr) (sds : List SD) (cs0 : List Cl) (ls : List Lo) (w : Ws), vs = [.ref sg, .ref o] ∧ SagaAt K CS H sg dxs e sds w.N w.A ∧
  OutAt K CO H o dx c l n (actAll (sds.take w.D) cs0) ls w.s w.D ∧ Good sds.length w ∧ CanAll sds cs0 ∧ sds.length ≤ 8 ∧ cs0.length ≤ 8 ∧ sg ≠ o ∧ e ≠ c ∧ e ≠ n ∧
  ∀ (H' : Hp) (v : V), Chg [sg, o, c, n] H H' → SagaAt K CS H' sg dxs e sds (stepW sds.length ls w).N (stepW sds.length ls w).A →
    OutAt K CO H' o dx c l n (actAll (sds.take (stepW sds.length ls w).D) cs0) ls (stepW sds.length ls w).s (stepW sds.length ls w).D → Dp K H' v (encT (stepT sds.length ls w)) → Q v H'
theorem ok_S_step (T : Tx K mg) : FnOk P w K mg base CX0 3 T.S_step.f T.S_step.fd ["self", "outside"] (spStep K T.CO T.CS) := by
  refine T.S_step.F.ok sc_Saga_step (fun vs H Q E h => ?_) (fun cdv A outer s H vs Q E hr h => ?_)
  · obtain ⟨sg, dxs, e, o, dx, c, l, n, sds, cs0, ls, w, rfl, _⟩ := h
    rfl
  · obtain ⟨sg, dxs, e, o, dx, c, l, n, sds, cs0, ls, ⟨N, A, s, D⟩, rfl, hSg, hOut, good, can, hsl, hcl, nso, nec, nen, q⟩ := h
    have hSg : SagaAt K T.CS H sg dxs e sds N A := hSg
    have hOut : OutAt K T.CO H o dx c l n (actAll (sds.take D) cs0) ls s D := hOut
    have hND : N ≤ D := good.nd
    have hDn : D ≤ sds.length := good.dn
    refine ⟨_, (pss_cons (ps_set (i := 2) sc_Saga_step.nd rfl (by first | exact Or.inl rfl | exact Or.inr rfl) (pe_fld (pv 0) rfl))
    (pss_cons (ps_if (pt_val (pe_prop (pv 0) T.cS T.S_is_over.m (ok_S_is_over T) (hr.mono (by decide)) T.S_is_over.b .nil pass0 rfl))
        (pss_one (ps_ret (pe_tup (pa_cons pe_str pa_nil))))
        pss_nil)
    (pss_cons (ps_if (pt_val (pe_fld (pv 0) rfl))
        (pss_cons (ps_fldaug (pv 0) pe_int in_add)
        (pss_cons (ps_fld (pv 0) pe_bl rfl)
        (pss_one (ps_ret (pe_tup (pa_cons pe_str (pa_cons (pv 2) pa_nil)))))))
        pss_nil)
    (pss_cons (ps_fld (pv 0) (pe_meth (pv 1) T.cO T.O_send.m (ok_O_send T) (hr.mono (by decide)) T.O_send.b .nil pass0 (pa_cons (pv 2) (pa_cons (pe_ix ix_list (pe_fld (pv 0) rfl) (pv 2) (fun _ _ => rfl)) pa_nil))) rfl)
    (pss_one (ps_ret (pe_tup (pa_cons pe_str (pa_cons (pv 2) (pa_cons (pe_fld (pv 0) rfl) pa_nil)))))))))), ?_⟩
    obtain ⟨ev, he, hed⟩ := hSg.hE
    have hel : ev.length = sds.length := by rw [dpa_length hed, List.length_map]
    have nse : sg ≠ e := ne_of hSg.hS he (by intro z; cases z)
    refine ⟨_, rfl, sg, T.CS, dxs, _, _, rfl, hSg.hS, T.cS, T.nS_noted, sF_noted _ _ _, ?_⟩
    refine ⟨_, rfl, sg, dxs, _, rfl, hSg.hS, sg, dxs, e, _, A, ev, rfl, hSg.hS, he, _, rfl, ite2 (fun e1 => ?_) (fun e1 => ?_)⟩
    · -- over
      have e1' : (N : Int) = (ev.length : Int) := V.int.inj (of_decide_eq_true e1)
      have eN : N = sds.length := by omega
      refine ⟨(by show 1 ≤ sizeLine; decide), fun p np => ?_⟩
      have g : Chg [sg, o, c, n] H (upd H p (.tup [.str "over"])) := Chg.new np
      have g0 : Chg [] H (upd H p (.tup [.str "over"])) := Chg.new np
      have ew : stepW sds.length ls ⟨N, A, s, D⟩ = ⟨N, A, s, D⟩ := if_pos eN
      have et : stepT sds.length ls ⟨N, A, s, D⟩ = .over := if_pos eN
      rw [ew, et] at q
      exact q _ _ g (g0.sagaAt hSg (by simp) (by simp)) (g0.outAt hOut (by simp) (by simp) (by simp) (by simp)) (.tup (SqT.of upd_same) (.cons (.str _) .nil))
    · have eN : N ≠ sds.length := fun z => e1 (decide_eq_true (by rw [hel, ← z]))
      refine ⟨_, rfl, sg, T.CS, dxs, _, _, rfl, hSg.hS, T.cS, T.nS_answered, sF_answered _ _ _, _, rfl, ite2 (fun e2 => ?_) (fun e2 => ?_)⟩
      · -- noted
        subst e2
        refine ⟨_, rfl, sg, T.CS, dxs, _, _, rfl, hSg.hS, T.cS, T.nS_noted, sF_noted _ _ _, _, _, rfl, rfl, dxs, _, hSg.hS, (by show 3 < 1000; decide), ?_⟩
        rw [sF_putN]
        refine ⟨_, rfl, sg, T.CS, dxs, _, rfl, upd_same, T.cS, T.nS_answered, (by show 3 < 1000; decide), ?_⟩
        rw [sF_putA, upd_upd]
        refine ⟨_, rfl, (by show 2 ≤ sizeLine; decide), fun p np => ?_⟩
        have g1 : Chg [sg] H (upd H sg (.ins T.CS dxs (sF e ((N : Int) + 1) false))) := Chg.put hSg.hS rfl (by simp)
        have g2 : Chg [sg] (upd H sg (.ins T.CS dxs (sF e ((N : Int) + 1) false))) (upd (upd H sg (.ins T.CS dxs (sF e ((N : Int) + 1) false))) p (.tup [.str "noted", .int (N : Nat)])) := Chg.new np
        have g := g1.trans g2
        have ew : stepW sds.length ls ⟨N, true, s, D⟩ = ⟨N + 1, false, s, D⟩ := (if_neg eN).trans (if_pos rfl)
        have et : stepT sds.length ls ⟨N, true, s, D⟩ = .noted N := (if_neg eN).trans (if_pos rfl)
        rw [ew, et] at q
        obtain ⟨h1, h2, h3⟩ := hOut.oc
        obtain ⟨cv, hcv, _⟩ := hOut.hC
        refine q _ _ (g.mono (by intro b hb; simp at hb; simp [hb])) ⟨?_, g.lstD hSg.hE (by simpa using nse.symm) (noLs_map noL_encSD _)⟩ (g.outAt hOut (by simpa using nso.symm) ?_ ?_ ?_) (.tup (SqT.of upd_same) (.cons (.str _) (.cons (.int _) .nil)))
        · rw [upd_ne (ne_of_none upd_same np), upd_same]
          rfl
        · simpa using (ne_of hSg.hS hcv (by intro z; cases z)).symm
        · simpa using (ne_of hSg.hS hOut.hL (by intro z; cases z)).symm
        · simpa using (ne_of hSg.hS hOut.hN (by intro z; cases z)).symm
      · -- sent
        have eA : A = false := by simpa using e2
        subst eA
        have hNl : N < sds.length := by omega
        have hsd : sds[N]? = some sds[N] := List.getElem?_eq_getElem hNl
        obtain ⟨dv, hdv, hdd⟩ := dpa_at hed (show (sds.map encSD)[N]? = some (encSD sds[N]) by rw [List.getElem?_map, hsd]; rfl)
        have hlen := actAll_len (sds.take D) cs0
        have htl : (sds.take D).length ≤ 8 := Nat.le_trans (by rw [List.length_take]; exact Nat.min_le_right _ _) hsl
        obtain ⟨h1, h2, h3⟩ := hOut.oc
        obtain ⟨cv, hcv, _⟩ := hOut.hC
        have nsc : sg ≠ c := ne_of hSg.hS hcv (by intro z; cases z)
        have nsl : sg ≠ l := ne_of hSg.hS hOut.hL (by intro z; cases z)
        have nsn : sg ≠ n := ne_of hSg.hS hOut.hN (by intro z; cases z)
        have noe : o ≠ e := ne_of hOut.hO he (by intro z; cases z)
        refine ⟨_, rfl, o, dx, _, rfl, hOut.hO, oF_no _ _ _ _ _ (by decide +kernel) (by decide +kernel) (by decide +kernel) (by decide +kernel), _, rfl, _, rfl, sg, T.CS, dxs, _, _, rfl, hSg.hS, T.cS, T.nS_deeds, sF_deeds _ _ _, _, rfl, e, ev, _, dv, rfl, rfl, SqL.of he, atI_nat hdv,
          o, dx, c, l, n, dv, actAll (sds.take D) cs0, ls, s, D, N, sds[N], rfl, hOut, hdd, hND, fun z => ?_, by omega, by omega, fun H1 cs1 D1 g1 hO1 hd1 => ?_⟩
        · have := canAll_at sds cs0 N sds[N] can hsd
          rw [← z]
          exact this
        · have hS1 : H1 sg = some (.ins T.CS dxs (sF e (N : Nat) false)) := g1.keep sg _ hSg.hS (by simp [nso, nsc, nsn])
          refine ⟨_, rfl, sg, T.CS, dxs, _, rfl, hS1, T.cS, T.nS_answered, (by show 3 < 1000; decide), ?_⟩
          rw [sF_putA]
          refine ⟨_, rfl, _, rfl, sg, T.CS, dxs, _, _, rfl, upd_same, T.cS, T.nS_answered, sF_answered _ _ _, (by show 3 ≤ sizeLine; decide), fun p np => ?_⟩
          have g2 : Chg [sg] H1 (upd H1 sg (.ins T.CS dxs (sF e (N : Nat) (decide (word ls s = .no))))) := Chg.put hS1 rfl (by simp)
          have g3 : Chg [sg] (upd H1 sg (.ins T.CS dxs (sF e (N : Nat) (decide (word ls s = .no))))) (upd (upd H1 sg (.ins T.CS dxs (sF e (N : Nat) (decide (word ls s = .no))))) p (.tup [.str "sent", .int (N : Nat), .bl (decide (word ls s = .no))])) := Chg.new np
          have g23 := g2.trans g3
          have eA0 : ¬ (false = true) := Bool.false_ne_true
          have ew : stepW sds.length ls ⟨N, false, s, D⟩ = ⟨N, decide (word ls s = .no), s + 1, if doneB ls ⟨N, false, s, D⟩ = true then D + 1 else D⟩ := (if_neg eN).trans (if_neg eA0)
          have et : stepT sds.length ls ⟨N, false, s, D⟩ = .sent N (decide (word ls s = .no)) := (if_neg eN).trans (if_neg eA0)
          rw [ew, et] at q
          have hDD : D1 = (if doneB ls ⟨N, false, s, D⟩ = true then D + 1 else D) ∧ cs1 = actAll (sds.take (if doneB ls ⟨N, false, s, D⟩ = true then D + 1 else D)) cs0 := by
            have eb : doneB ls ⟨N, false, s, D⟩ = true ↔ (word ls s ≠ .there ∧ N = D) := by
              unfold doneB
              simp
            rcases hd1 with ⟨z, z1, z2⟩ | ⟨z, z1, z2⟩
            · rw [if_pos (eb.mpr z)]
              refine ⟨z1, ?_⟩
              have hsD : sds[D]? = some sds[N] := by rw [← z.2]; exact hsd
              rw [z2, actAll_next cs0 hsD]
            · rw [if_neg fun y => z (eb.mp y)]
              exact ⟨z1, z2⟩
          obtain ⟨eD, eC⟩ := hDD
          rw [eC, eD] at hO1
          refine q _ _ ((g1.mono fun b hb => List.mem_cons_of_mem _ hb).trans (g23.mono (by intro b hb; simp at hb; simp [hb]))) ⟨?_, ?_⟩ (g23.outAt hO1 ?_ ?_ ?_ ?_) (.tup (SqT.of upd_same) (.cons (.str _) (.cons (.int _) (.cons (.bl _) .nil))))
          · rw [upd_ne (ne_of_none upd_same np), upd_same]
          · exact g23.lstD (g1.lstD hSg.hE (by simp [noe.symm, nec, nen]) (noLs_map noL_encSD _)) (by simpa using nse.symm) (noLs_map noL_encSD _)
          · simpa using nso.symm
          · simpa using nsc.symm
          · simpa using nsl.symm
          · simpa using nsn.symm
end
end Sg
namespace Sg
open PySem PySem.Spec PyProof.Rows L2
theorem cut_last (xs : List V) : cutV xs none (some (-1)) = xs.dropLast := by
  unfold cutV
  rw [HT.sIx_none, List.drop_zero, Nat.sub_zero, List.dropLast_eq_take]
  have e : HT.sIx xs.length xs.length (some (-1)) = xs.length - 1 := by
    unfold HT.sIx
    simp only
    rw [if_pos (by decide)]
    omega
  rw [e]
def SD.kind : SD → Str
  | .undo _ => "undo"
  | .dn _ => "do"
  | .change _ _ => "change"
def SD.calls : SD → List Cl
  | .undo c => [c]
  | .dn c => [c]
  | .change c d => [c, d]
theorem encSD_eq (d : SD) : encSD d = .tuple (.str d.kind :: d.calls.map encC) := by cases d <;> rfl
theorem at_cAt {l : List Cl} {i : Nat} (h : i < l.length) : (l.map encC)[i]? = some (encC (cAt l i)) := by
  rw [List.getElem?_map, List.getElem?_eq_getElem h]
  unfold cAt
  rw [List.getElem?_eq_getElem h]
  rfl
theorem eqv_heads (a b : List Nat) (ha : ∀ k ∈ a, k < 10) (hb : ∀ k ∈ b, k < 10) : PyData.eqv (.list ((a.map headT).map PyData.str)) (.list ((b.map headT).map PyData.str)) = decide (a = b) := by
  simp only [PyData.eqv]
  rw [eqv_strs]
  by_cases h : a = b
  · rw [h]
    simp
  · rw [decide_eq_false h]
    refine decide_eq_false fun e => h ?_
    clear h
    induction a generalizing b with
    | nil =>
      cases b with
      | nil => rfl
      | cons y b => simp at e
    | cons x a ih =>
      cases b with
      | nil => simp at e
      | cons y b =>
        simp only [List.map_cons, List.cons.injEq] at e
        have e1 := head_inj x (ha x List.mem_cons_self) y (hb y List.mem_cons_self) e.1
        rw [e1, ih b (fun k hk => ha k (List.mem_cons_of_mem _ hk)) (fun k hk => hb k (List.mem_cons_of_mem _ hk)) e.2]
theorem shaped_heads (a : List Nat) (ha : ∀ k ∈ a, k < 10) : SeqAt.shaped (.list ((a.map headT).map PyData.str)) = true := shaped_strs _ fun x hx => by
  obtain ⟨k, hk, rfl⟩ := List.mem_map.mp hx
  exact head_ok k (ha k hk)
section
variable {P : Program} {w : World} {K : PySem.W.Frag} {mg : Str → Option Value} {base : Heap}
def spSInit (K : PySem.W.Frag) (CS CJ : Addr) : Sp := fun vs H Q E => ∃ (sg dx t h d : Addr) (x : Str) (tc hc : List Cl) (ds : List De) (ks : List Nat), vs = [.ref sg, .ref t, .ref h, .ref d, .str x] ∧ H sg = some (.ins CS dx []) ∧
  LstD K H t (tc.map encC) ∧ LstD K H h (hc.map encC) ∧ LstD K H d (ds.map encDe) ∧ (∀ de ∈ ds, de.ok tc.length hc.length) ∧ ds.length ≤ 8 ∧ x.length ≤ 1000 ∧ parse x = ks.map headT ∧ (∀ k ∈ ks, k < 10) ∧ ks.length < 10 ∧
  (ks.length ≤ ds.length ∧ ks = List.range ks.length → ∀ (H' : Hp) (e : Addr), Chg [sg] H H' → H e = none → SagaAt K CS H' sg dx e (ds.map (De.sd tc hc)) ks.length false → Q .non H') ∧
  (¬ (ks.length ≤ ds.length ∧ ks = List.range ks.length) → ∀ H' : Hp, Chg [sg] H H' → E (.ref CJ) none H')
theorem ok_S_init (T : Tx K mg) : FnOk P w K mg base (L2.CX P w) 2 T.S_init.f T.S_init.fd ["self", "there", "here", "deeds", "text"] (spSInit K T.CS T.CJ) := by
  refine T.S_init.F.ok sc_Saga_init (fun vs H Q E h => ?_) (fun cdv A outer s H vs Q E hr h => ?_)
  · obtain ⟨sg, dx, t, h, d, x, tc, hc, ds, ks, rfl, _⟩ := h
    rfl
  · obtain ⟨sg, dx, t, h, d, x, tc, hc, ds, ks, rfl, hS, hT, hH, hD, hok, hdl, hxl, hp, hk10, hkl, qa, qr⟩ := h
    have hu64 := hr.units
    refine ⟨_, (pss_cons (ps_fld (pv 0) (pe_lst pa_nil) rfl)
    (pss_cons (ps_for (passes_of rfl) rfl (pi_list (pv 3)) (pg_name (i := 5) sc_Saga_init.nd rfl (by first | exact Or.inl rfl | exact Or.inr rfl))
        (pss_cons (ps_set (i := 6) sc_Saga_init.nd rfl (by first | exact Or.inl rfl | exact Or.inr rfl) (pe_ifExp (pt_cmpR op_in_seq (pe_ix ix_tup (pv 5) pe_int (fun _ _ => rfl)) (pe_tup (pa_cons pe_str (pa_cons pe_str pa_nil))) (by rfl)) (pe_lst (pa_cons (pe_ix ix_list (pv 1) (pe_ix ix_tup (pv 5) pe_int (fun _ _ => rfl)) (fun _ _ => rfl)) pa_nil)) (pe_lst pa_nil)))
        (C8.pss_cut (ps_if (pt_cmpR op_in_seq (pe_ix ix_tup (pv 5) pe_int (fun _ _ => rfl)) (pe_tup (pa_cons pe_str (pa_cons pe_str pa_nil))) (by rfl))
            (pss_one (ps_expr (pe_bm PySem.F.plainAttrs_list PySem.F.slot_list_append PySem.F.type_list_append mt_append (pv 6) (pa_cons (pe_ix ix_list (pv 2) (pe_ix ix_tup (pv 5) (pe_op op_sub (pe_callB call_len_seq (by rfl) T.z_len PySem.boot_len (pa_cons (pv 5) pa_nil)) pe_int) (fun _ _ => rfl)) (fun _ _ => rfl)) pa_nil))))
            pss_nil)
        (pss_one (ps_expr (pe_bm PySem.F.plainAttrs_list PySem.F.slot_list_append PySem.F.type_list_append mt_append (pe_fld (pv 0) rfl) (pa_cons (pe_op op_catT (pe_tup (pa_cons (pe_ix ix_tup (pv 5) pe_int (fun _ _ => rfl)) pa_nil)) (pe_callTy call_tuple_of (by rfl) T.z_tuple (by decide +kernel) (pa_cons (pv 6) pa_nil))) pa_nil)))))))
    (pss_cons (ps_set (i := 7) sc_Saga_init.nd rfl (by first | exact Or.inl rfl | exact Or.inr rfl) (pe_slice sl_list (pe_split (pv 4) pe_str) po_none (po_some (pe_un un_neg pe_int))))
    (pss_cons (ps_if (pw_or (pt_cmpR op_gt (pe_callB call_len_seq (by rfl) T.z_len PySem.boot_len (pa_cons (pv 7) pa_nil)) (pe_callB call_len_seq (by rfl) T.z_len PySem.boot_len (pa_cons (pv 3) pa_nil)) (nomark _)) (pw_or1 (pt_cmpR (op_neD hu64) (pv 7) (pe_lc (own := [("number", 8)]) (g := gName 8) (tt := tYes) rfl sc_Saga_init.nd (pi_range1 (by rfl) T.z_range (pa_cons (pe_callB call_len_seq (by rfl) T.z_len PySem.boot_len (pa_cons (pv 7) pa_nil)) pa_nil)) (blkOk_by (own := [("number", 8)]) (N := n_Saga_init) (sc := defScope s_Saga_init) (by decide +kernel)) (fun _ _ _ _ _ => pg_name (i := 8) sc_Saga_init.nd rfl (by first | exact Or.inl rfl | exact Or.inr rfl)) (fun _ _ _ _ _ => pts_nil) (fun _ _ _ _ _ => (pe_joined (.cons pe_str (.cons (pe_fmt (pv 8)) .nil))))) (nomark _)))).pt
        (pss_one (ps_raise rfl (takes_of rfl rfl rfl rfl) (pmk_own0 PySem.F.excBase_ValueError T.J.x T.J.g T.J.k (raises_own T.J.b T.J.t) (by rfl))))
        pss_nil)
    (pss_cons (ps_fld (pv 0) (pe_callB call_len_seq (by rfl) T.z_len PySem.boot_len (pa_cons (pv 7) pa_nil)) rfl)
    (pss_one (ps_fld (pv 0) pe_bl rfl))))))), ?_⟩
    obtain ⟨tv, ht, htd⟩ := hT
    obtain ⟨hv, hh, hhd⟩ := hH
    obtain ⟨dv, hd, hdd⟩ := hD
    have nst : sg ≠ t := ne_of hS ht (by intro z; cases z)
    have nsh : sg ≠ h := ne_of hS hh (by intro z; cases z)
    have nsd : sg ≠ d := ne_of hS hd (by intro z; cases z)
    have hdvl : dv.length = ds.length := by rw [dpa_length hdd, List.length_map]
    -- self.deeds = []
    refine ⟨Nat.zero_le _, fun e ne => ?_⟩
    have nse : sg ≠ e := ne_of_none hS ne
    refine ⟨_, rfl, sg, T.CS, dx, [], rfl, by rw [upd_ne nse]; exact hS, T.cS, T.nS_deeds, (by show 0 < 1000; decide), ?_⟩
    have g0 : Chg [sg] H (upd (upd H e (.lst [])) sg (.ins T.CS dx (putF "deeds" (.ref e) []))) := (Chg.new ne).trans (Chg.put (by rw [upd_ne nse]; exact hS) rfl (by simp))
    -- the loop
    refine ⟨_, rfl, d, rfl, ⟨_, SqL.of (g0.keep d _ hd (by simpa using nsd.symm))⟩, for_list (K := K) (a := d) (xs := dv) (fun i σ H3 => ∃ x5 x6 : Option V, σ = [some (.ref sg), some (.ref t), some (.ref h), some (.ref d), some (.str x), x5, x6, none, none] ∧ Chg [sg] H H3 ∧ H3 sg = some (.ins T.CS dx [("deeds", .ref e)]) ∧ LstD K H3 e (((ds.take i).map (De.sd tc hc)).map encSD))
      ⟨none, none, rfl, g0, upd_same, [], by rw [upd_ne nse.symm, upd_same], .nil⟩ (fun i σ H3 _ ⟨_, _, _, g, _⟩ => SqL.of (g.keep d _ hd (by simpa using nsd.symm))) ?_ ?_⟩
    · rintro i y σ H3 hi ⟨x5, x6, rfl, g3, hS3, ev, he3, hed3⟩
      have hil : i < ds.length := by
        have := (List.getElem?_eq_some_iff.mp hi).1
        omega
      obtain ⟨dd, hdd2, hy⟩ := dpa_get hdd hi
      rw [List.getElem?_map, List.getElem?_eq_getElem hil] at hdd2
      obtain rfl : encDe ds[i] = dd := Option.some.inj hdd2
      have hy3 := g3.dp _ _ (noL_encDe _) hy
      have ht3 : H3 t = some (.lst tv) := g3.keep t _ ht (by simpa using nst.symm)
      have hh3 : H3 h = some (.lst hv) := g3.keep h _ hh (by simpa using nsh.symm)
      have htd3 := g3.dps _ _ (noLs_encC _) htd
      have hhd3 := g3.dps _ _ (noLs_encC _) hhd
      have hoki := hok ds[i] (List.getElem_mem hil)
      have hnext : (ds.take (i + 1)).map (De.sd tc hc) = (ds.take i).map (De.sd tc hc) ++ [De.sd tc hc ds[i]] := by
        rw [List.take_add_one, List.getElem?_eq_getElem hil, List.map_append]
        rfl
      rw [hnext]
      have evl : ev.length ≤ 8 := by
        rw [dpa_length hed3, List.length_map, List.length_map, List.length_take]
        exact Nat.le_trans (Nat.min_le_right _ _) hdl
      generalize ds[i] = de at hy3 hoki
      -- the tail: self.deeds.append((deed[0],) + tuple(calls))
      have mid : ∀ (H4 : Hp) (a6 a5 : Addr) (ys rs : List V), y = .ref a5 → Same H3 H4 → H3 a6 = none → H4 a6 = some (.lst ys) → DpAll K H4 ys (((De.sd tc hc de).calls).map encC) → SqT K H3 a5 (.str (De.sd tc hc de).kind :: rs) → ys.length ≤ 2 → ys ≠ [] →
          ∃ (a6 a5 : Addr) (ys rs : List V), ([some (.ref sg), some (.ref t), some (.ref h), some (.ref d), some (.str x), some y, some (.ref a6), none, none] : List (Option V)) = [some (.ref sg), some (.ref t), some (.ref h), some (.ref d), some (.str x), some y, some (.ref a6), none, none] ∧ y = .ref a5 ∧ Same H3 H4 ∧ H4 a6 = some (.lst ys) ∧ DpAll K H4 ys (((De.sd tc hc de).calls).map encC) ∧ SqT K H4 a5 (.str (De.sd tc hc de).kind :: rs) ∧ ys.length ≤ 2 ∧ ys ≠ [] :=
        fun H4 a6 a5 ys rs e1 s4 n6 h6 d6 q5 l6 z6 => ⟨a6, a5, ys, rs, rfl, e1, s4, h6, d6, (Chg.of_same (S := []) s4).sqT q5, l6, z6⟩
      have strs2 : ∀ (p : Addr) (H5 : Hp), H5 p = none → (upd H5 p (.tup [.str "undo", .str "change"])) p = some (.tup [.str "undo", .str "change"]) := fun p H5 _ => upd_same
      cases de with
      | undo i0 =>
        have hi0 : i0 < tc.length := hoki
        obtain ⟨a, xs, rfl, hTu, hxs⟩ := dpT_inv hy3
        cases hxs with
        | cons h1 t1 =>
          cases h1
          cases t1 with
          | cons h2 t2 =>
            cases h2
            cases t2
            obtain ⟨cv, hcv, hcd⟩ := dpa_at htd3 (at_cAt hi0)
            refine ⟨_, rfl, a, _, 0, _, rfl, rfl, hTu, atI_nat (j := 0) rfl, (by show 2 ≤ sizeLine; decide), fun p np => ⟨p, _, rfl, .inr (SqT.of upd_same), rfl, rfl, _, rfl, iteP (by decide +kernel) ?_⟩⟩
            have s1 : Same H3 (upd H3 p (.tup [.str "undo", .str "change"])) := same_new np
            refine ⟨_, rfl, _, rfl, a, _, 1, _, rfl, rfl, s1.seq (K := K) (a := a) (xs := []) |> fun _ => (Chg.of_same (S := []) s1).sqT hTu, atI_nat (j := 1) rfl, t, tv, _, cv, rfl, rfl, SqL.of (s1 _ _ ht3), atI_nat hcv, (by show 1 ≤ sizeLine; decide), fun q nq => ?_⟩
            have s2 : Same H3 (upd (upd H3 p (.tup [.str "undo", .str "change"])) q (.lst [cv])) := s1.trans (same_new nq)
            have nq0 : H3 q = none := s1.free nq
            refine ⟨fun σ H4 => ∃ (a6 a5 : Addr) (ys rs : List V), σ = [some (.ref sg), some (.ref t), some (.ref h), some (.ref d), some (.str x), some (.ref a), some (.ref a6), none, none] ∧ V.ref a = .ref a5 ∧ Same H3 H4 ∧ H4 a6 = some (.lst ys) ∧ DpAll K H4 ys (((De.sd tc hc (.undo i0)).calls).map encC) ∧ SqT K H4 a5 (.str (De.sd tc hc (.undo i0)).kind :: rs) ∧ ys.length ≤ 2 ∧ ys ≠ [], ?_, ?_⟩
            · refine ⟨_, rfl, a, _, 0, _, rfl, rfl, (Chg.of_same (S := []) s2).sqT hTu, atI_nat (j := 0) rfl, (by show 2 ≤ sizeLine; decide), fun p2 np2 => ⟨p2, _, rfl, .inr (SqT.of upd_same), rfl, rfl, _, rfl, iteN (by decide +kernel) ?_⟩⟩
              have s3 := s2.trans (same_new (o := .tup [.str "do", .str "change"]) np2)
              exact ⟨q, a, [cv], _, rfl, rfl, s3, by rw [upd_ne (ne_of_none upd_same np2), upd_same], .cons ((Chg.of_same (S := []) s3).dp _ _ (noL_encC _) hcd) .nil, (Chg.of_same (S := []) s3).sqT hTu, (by decide : 1 ≤ 2), by simp⟩
            · rintro σ H4 ⟨a6, a5, ys, rs, rfl, e5, s4, h6, d6, q5, l6, z6⟩
              cases e5
              refine ⟨_, rfl, sg, T.CS, dx, _, _, rfl, s4 _ _ hS3, T.cS, T.nS_deeds, lk_hit, .inl ⟨rfl, _, SqL.of (s4 _ _ he3)⟩, _, rfl, a, _, 0, _, rfl, rfl, q5, atI_nat (j := 0) rfl, (by show 1 ≤ sizeLine; decide), fun u nu => ?_⟩
              have s5 := s4.trans (same_new (o := .tup [.str (De.sd tc hc (.undo i0)).kind]) nu)
              refine ⟨_, rfl, a6, ys, rfl, .inl ⟨SqL.of (by rw [upd_ne (ne_of_none h6 nu)]; exact h6), fun v nv => ?_⟩⟩
              have s6 := s5.trans (same_new (o := .tup ys) nv)
              refine ⟨u, v, _, ys, rfl, rfl, SqT.of (by rw [upd_ne (ne_of_none upd_same nv), upd_same]), SqT.of upd_same, by simp, small (by show 1 + ys.length ≤ 100000; omega), fun z => absurd z z6, fun _ z nz => ?_⟩
              have s7 := s6.trans (same_new (o := .tup ([.str (De.sd tc hc (.undo i0)).kind] ++ ys)) nz)
              refine ⟨e, ev, _, rfl, rfl, s7 _ _ he3, smallL (by omega), ?_⟩
              have gg : Chg [e] _ (upd (upd (upd (upd H4 u (.tup [.str (De.sd tc hc (.undo i0)).kind])) v (.tup ys)) z (.tup ([.str (De.sd tc hc (.undo i0)).kind] ++ ys))) e (.lst (ev ++ [.ref z]))) := Chg.put (s7 _ _ he3) rfl (by simp)
              refine ⟨_, _, rfl, (g3.same s7).mut ne, by rw [upd_ne nse]; exact s7 _ _ hS3, ev ++ [.ref z], upd_same, ?_⟩
              rw [List.map_append]
              refine dpa_snoc (gg.dps _ _ (noLs_map noL_encSD _) ((Chg.of_same (S := []) s7).dps _ _ (noLs_map noL_encSD _) hed3)) ?_
              rw [encSD_eq]
              refine .tup (gg.sqT (SqT.of upd_same)) (.cons (.str _) ?_)
              exact gg.dps _ _ (noLs_encC _) ((Chg.of_same (S := []) (((same_new nu).trans (same_new nv)).trans (same_new nz))).dps _ _ (noLs_encC _) d6)
      | dn j0 =>
        have hj0 : j0 < hc.length := hoki
        obtain ⟨a, xs, rfl, hTu, hxs⟩ := dpT_inv hy3
        cases hxs with
        | cons h1 t1 =>
          cases h1
          cases t1 with
          | cons h2 t2 =>
            cases h2
            cases t2
            obtain ⟨cv, hcv, hcd⟩ := dpa_at hhd3 (at_cAt hj0)
            refine ⟨_, rfl, a, _, 0, _, rfl, rfl, hTu, atI_nat (j := 0) rfl, (by show 2 ≤ sizeLine; decide), fun p np => ⟨p, _, rfl, .inr (SqT.of upd_same), rfl, rfl, _, rfl, iteN (by decide +kernel) ?_⟩⟩
            have s1 : Same H3 (upd H3 p (.tup [.str "undo", .str "change"])) := same_new np
            refine ⟨Nat.zero_le _, fun q nq => ?_⟩
            have s2 : Same H3 (upd (upd H3 p (.tup [.str "undo", .str "change"])) q (.lst [])) := s1.trans (same_new nq)
            have nq0 : H3 q = none := s1.free nq
            refine ⟨fun σ H4 => ∃ (a6 a5 : Addr) (ys rs : List V), σ = [some (.ref sg), some (.ref t), some (.ref h), some (.ref d), some (.str x), some (.ref a), some (.ref a6), none, none] ∧ V.ref a = .ref a5 ∧ Same H3 H4 ∧ H4 a6 = some (.lst ys) ∧ DpAll K H4 ys (((De.sd tc hc (.dn j0)).calls).map encC) ∧ SqT K H4 a5 (.str (De.sd tc hc (.dn j0)).kind :: rs) ∧ ys.length ≤ 2 ∧ ys ≠ [], ?_, ?_⟩
            · refine ⟨_, rfl, a, _, 0, _, rfl, rfl, (Chg.of_same (S := []) s2).sqT hTu, atI_nat (j := 0) rfl, (by show 2 ≤ sizeLine; decide), fun p2 np2 => ⟨p2, _, rfl, .inr (SqT.of upd_same), rfl, rfl, _, rfl, iteP (by decide +kernel) ?_⟩⟩
              have s3 := s2.trans (same_new (o := .tup [.str "do", .str "change"]) np2)
              have hq3 : (upd (upd (upd H3 p (.tup [.str "undo", .str "change"])) q (.lst [])) p2 (.tup [.str "do", .str "change"])) q = some (.lst []) := by rw [upd_ne (ne_of_none upd_same np2), upd_same]
              refine ⟨_, rfl, .inl ⟨rfl, _, SqL.of hq3⟩, _, rfl, _, rfl, _, rfl, a, _, rfl, .inr ((Chg.of_same (S := []) s3).sqT hTu), _, _, rfl, rfl, a, _, _, _, rfl, rfl, (Chg.of_same (S := []) s3).sqT hTu, atI_nat (j := 1) rfl, h, hv, _, cv, rfl, rfl, SqL.of (s3 _ _ hh3), atI_nat hcv, q, [], cv, rfl, rfl, hq3, smallL (by decide), ?_⟩
              have s4 := same_mut (o := .lst ([] ++ [cv])) s3 nq0
              exact ⟨q, a, [cv], _, rfl, rfl, s4, upd_same, .cons ((Chg.of_same (S := []) s4).dp _ _ (noL_encC _) hcd) .nil, (Chg.of_same (S := []) s4).sqT hTu, (by decide : 1 ≤ 2), by simp⟩
            · rintro σ H4 ⟨a6, a5, ys, rs, rfl, e5, s4, h6, d6, q5, l6, z6⟩
              cases e5
              refine ⟨_, rfl, sg, T.CS, dx, _, _, rfl, s4 _ _ hS3, T.cS, T.nS_deeds, lk_hit, .inl ⟨rfl, _, SqL.of (s4 _ _ he3)⟩, _, rfl, a, _, 0, _, rfl, rfl, q5, atI_nat (j := 0) rfl, (by show 1 ≤ sizeLine; decide), fun u nu => ?_⟩
              have s5 := s4.trans (same_new (o := .tup [.str (De.sd tc hc (.dn j0)).kind]) nu)
              refine ⟨_, rfl, a6, ys, rfl, .inl ⟨SqL.of (by rw [upd_ne (ne_of_none h6 nu)]; exact h6), fun v nv => ?_⟩⟩
              have s6 := s5.trans (same_new (o := .tup ys) nv)
              refine ⟨u, v, _, ys, rfl, rfl, SqT.of (by rw [upd_ne (ne_of_none upd_same nv), upd_same]), SqT.of upd_same, by simp, small (by show 1 + ys.length ≤ 100000; omega), fun z => absurd z z6, fun _ z nz => ?_⟩
              have s7 := s6.trans (same_new (o := .tup ([.str (De.sd tc hc (.dn j0)).kind] ++ ys)) nz)
              refine ⟨e, ev, _, rfl, rfl, s7 _ _ he3, smallL (by omega), ?_⟩
              have gg : Chg [e] _ (upd (upd (upd (upd H4 u (.tup [.str (De.sd tc hc (.dn j0)).kind])) v (.tup ys)) z (.tup ([.str (De.sd tc hc (.dn j0)).kind] ++ ys))) e (.lst (ev ++ [.ref z]))) := Chg.put (s7 _ _ he3) rfl (by simp)
              refine ⟨_, _, rfl, (g3.same s7).mut ne, by rw [upd_ne nse]; exact s7 _ _ hS3, ev ++ [.ref z], upd_same, ?_⟩
              rw [List.map_append]
              refine dpa_snoc (gg.dps _ _ (noLs_map noL_encSD _) ((Chg.of_same (S := []) s7).dps _ _ (noLs_map noL_encSD _) hed3)) ?_
              rw [encSD_eq]
              refine .tup (gg.sqT (SqT.of upd_same)) (.cons (.str _) ?_)
              exact gg.dps _ _ (noLs_encC _) ((Chg.of_same (S := []) (((same_new nu).trans (same_new nv)).trans (same_new nz))).dps _ _ (noLs_encC _) d6)
      | change i0 j0 =>
        have hi0 : i0 < tc.length := hoki.1
        have hj0 : j0 < hc.length := hoki.2
        obtain ⟨a, xs, rfl, hTu, hxs⟩ := dpT_inv hy3
        cases hxs with
        | cons h1 t1 =>
          cases h1
          cases t1 with
          | cons h2 t2 =>
            cases h2
            cases t2 with
            | cons h3 t3 =>
            cases h3
            cases t3
            obtain ⟨cv, hcv, hcd⟩ := dpa_at htd3 (at_cAt hi0)
            obtain ⟨ev2, hev2, hed2⟩ := dpa_at hhd3 (at_cAt hj0)
            refine ⟨_, rfl, a, _, 0, _, rfl, rfl, hTu, atI_nat (j := 0) rfl, (by show 2 ≤ sizeLine; decide), fun p np => ⟨p, _, rfl, .inr (SqT.of upd_same), rfl, rfl, _, rfl, iteP (by decide +kernel) ?_⟩⟩
            have s1 : Same H3 (upd H3 p (.tup [.str "undo", .str "change"])) := same_new np
            refine ⟨_, rfl, _, rfl, a, _, 1, _, rfl, rfl, (Chg.of_same (S := []) s1).sqT hTu, atI_nat (j := 1) rfl, t, tv, _, cv, rfl, rfl, SqL.of (s1 _ _ ht3), atI_nat hcv, (by show 1 ≤ sizeLine; decide), fun q nq => ?_⟩
            have s2 : Same H3 (upd (upd H3 p (.tup [.str "undo", .str "change"])) q (.lst [cv])) := s1.trans (same_new nq)
            have nq0 : H3 q = none := s1.free nq
            refine ⟨fun σ H4 => ∃ (a6 a5 : Addr) (ys rs : List V), σ = [some (.ref sg), some (.ref t), some (.ref h), some (.ref d), some (.str x), some (.ref a), some (.ref a6), none, none] ∧ V.ref a = .ref a5 ∧ Same H3 H4 ∧ H4 a6 = some (.lst ys) ∧ DpAll K H4 ys (((De.sd tc hc (.change i0 j0)).calls).map encC) ∧ SqT K H4 a5 (.str (De.sd tc hc (.change i0 j0)).kind :: rs) ∧ ys.length ≤ 2 ∧ ys ≠ [], ?_, ?_⟩
            · refine ⟨_, rfl, a, _, 0, _, rfl, rfl, (Chg.of_same (S := []) s2).sqT hTu, atI_nat (j := 0) rfl, (by show 2 ≤ sizeLine; decide), fun p2 np2 => ⟨p2, _, rfl, .inr (SqT.of upd_same), rfl, rfl, _, rfl, iteP (by decide +kernel) ?_⟩⟩
              have s3 := s2.trans (same_new (o := .tup [.str "do", .str "change"]) np2)
              have hq3 : (upd (upd (upd H3 p (.tup [.str "undo", .str "change"])) q (.lst [cv])) p2 (.tup [.str "do", .str "change"])) q = some (.lst [cv]) := by rw [upd_ne (ne_of_none upd_same np2), upd_same]
              refine ⟨_, rfl, .inl ⟨rfl, _, SqL.of hq3⟩, _, rfl, _, rfl, _, rfl, a, _, rfl, .inr ((Chg.of_same (S := []) s3).sqT hTu), _, _, rfl, rfl, a, _, _, _, rfl, rfl, (Chg.of_same (S := []) s3).sqT hTu, atI_nat (j := 2) rfl, h, hv, _, ev2, rfl, rfl, SqL.of (s3 _ _ hh3), atI_nat hev2, q, [cv], ev2, rfl, rfl, hq3, smallL (by show 1 < 100000; decide), ?_⟩
              have s4 := same_mut (o := .lst ([cv] ++ [ev2])) s3 nq0
              exact ⟨q, a, [cv, ev2], _, rfl, rfl, s4, upd_same, .cons ((Chg.of_same (S := []) s4).dp _ _ (noL_encC _) hcd) (.cons ((Chg.of_same (S := []) s4).dp _ _ (noL_encC _) hed2) .nil), (Chg.of_same (S := []) s4).sqT hTu, (by decide : 2 ≤ 2), by simp⟩
            · rintro σ H4 ⟨a6, a5, ys, rs, rfl, e5, s4, h6, d6, q5, l6, z6⟩
              cases e5
              refine ⟨_, rfl, sg, T.CS, dx, _, _, rfl, s4 _ _ hS3, T.cS, T.nS_deeds, lk_hit, .inl ⟨rfl, _, SqL.of (s4 _ _ he3)⟩, _, rfl, a, _, 0, _, rfl, rfl, q5, atI_nat (j := 0) rfl, (by show 1 ≤ sizeLine; decide), fun u nu => ?_⟩
              have s5 := s4.trans (same_new (o := .tup [.str (De.sd tc hc (.change i0 j0)).kind]) nu)
              refine ⟨_, rfl, a6, ys, rfl, .inl ⟨SqL.of (by rw [upd_ne (ne_of_none h6 nu)]; exact h6), fun v nv => ?_⟩⟩
              have s6 := s5.trans (same_new (o := .tup ys) nv)
              refine ⟨u, v, _, ys, rfl, rfl, SqT.of (by rw [upd_ne (ne_of_none upd_same nv), upd_same]), SqT.of upd_same, by simp, small (by show 1 + ys.length ≤ 100000; omega), fun z => absurd z z6, fun _ z nz => ?_⟩
              have s7 := s6.trans (same_new (o := .tup ([.str (De.sd tc hc (.change i0 j0)).kind] ++ ys)) nz)
              refine ⟨e, ev, _, rfl, rfl, s7 _ _ he3, smallL (by omega), ?_⟩
              have gg : Chg [e] _ (upd (upd (upd (upd H4 u (.tup [.str (De.sd tc hc (.change i0 j0)).kind])) v (.tup ys)) z (.tup ([.str (De.sd tc hc (.change i0 j0)).kind] ++ ys))) e (.lst (ev ++ [.ref z]))) := Chg.put (s7 _ _ he3) rfl (by simp)
              refine ⟨_, _, rfl, (g3.same s7).mut ne, by rw [upd_ne nse]; exact s7 _ _ hS3, ev ++ [.ref z], upd_same, ?_⟩
              rw [List.map_append]
              refine dpa_snoc (gg.dps _ _ (noLs_map noL_encSD _) ((Chg.of_same (S := []) s7).dps _ _ (noLs_map noL_encSD _) hed3)) ?_
              rw [encSD_eq]
              refine .tup (gg.sqT (SqT.of upd_same)) (.cons (.str _) ?_)
              exact gg.dps _ _ (noLs_encC _) ((Chg.of_same (S := []) (((same_new nu).trans (same_new nv)).trans (same_new nz))).dps _ _ (noLs_encC _) d6)
    · rintro σ H3 ⟨x5, x6, rfl, g3, hS3, hE3⟩
      rw [hdvl, List.take_of_length_le (Nat.le_refl _)] at hE3
      -- lines
      refine ⟨_, rfl, ⟨_, rfl⟩, _, _, rfl, rfl, by decide +kernel, small (by omega), fun p np => ?_⟩
      refine ⟨1, rfl, _, rfl, p, _, rfl, SqL.of upd_same, fun q nq => ?_⟩
      have s1 := (same_new (o := .lst ((Txt.split x "\n").map V.str)) np).trans (same_new (o := .lst (cutV ((Txt.split x "\n").map V.str) none (some (-1)))) nq)
      have hq : (upd (upd H3 p (.lst ((Txt.split x "\n").map V.str))) q (.lst (cutV ((Txt.split x "\n").map V.str) none (some (-1))))) q = some (.lst ((ks.map headT).map V.str)) := by
        rw [upd_same, cut_last, ← List.map_dropLast]
        show some (HO.lst ((parse x).map V.str)) = _
        rw [hp]
      have g4 := g3.same s1
      have hS4 := s1 _ _ hS3
      have hE4 := (Chg.of_same (S := []) s1).lstD hE3 (by simp) (noLs_map noL_encSD _)
      have hd4 : (upd (upd H3 p (.lst ((Txt.split x "\n").map V.str))) q (.lst (cutV ((Txt.split x "\n").map V.str) none (some (-1))))) d = some (.lst dv) := g4.keep d _ hd (by simpa using nsd.symm)
      generalize upd (upd H3 p (.lst ((Txt.split x "\n").map V.str))) q (.lst (cutV ((Txt.split x "\n").map V.str) none (some (-1)))) = H4 at s1 hq g4 hS4 hE4 hd4
      refine ⟨_, rfl, q, _, rfl, .inl (SqL.of hq), _, rfl, d, dv, rfl, .inl (SqL.of hd4), _, _, rfl, rfl, _, rfl, ite2 (fun e1 => ?_) (fun e1 => ?_)⟩
      · -- too many
        have e1' := of_decide_eq_true e1
        rw [List.length_map, List.length_map] at e1'
        exact iteT (qr (fun z => by omega) H4 g4)
      · have e1' : ks.length ≤ ds.length := by
          have : ¬ ((dv.length : Int) < (((ks.map headT).map V.str).length : Int)) := fun z => e1 (decide_eq_true z)
          rw [List.length_map, List.length_map] at this
          omega
        refine ⟨_, rfl, _, rfl, q, _, rfl, .inl (SqL.of hq), _, rfl, by rw [List.length_map, List.length_map]; omega, by rw [List.length_map, List.length_map]; omega, fun D nD => ?_⟩
        have hlen : ((((ks.map headT).map V.str).length : Int)).toNat = ks.length := by
          rw [List.length_map, List.length_map]
          rfl
        rw [hlen]
        refine lc_range (lo := 0) (n := ks.length) (te := fun σ H Q => tJs [tC (.str "done "), tFmt (tVar 8)] Str.empty σ H fun out H1 => Q (.str out) H1) (fun j H5 => Same H4 H5 ∧ H5 D = some (.lst (((List.range j).map headT).map V.str))) ⟨same_new nD, upd_same⟩ ?_ ?_
        · rintro j H5 hj ⟨s5, hD5⟩
          have hj10 : j < 10 := by omega
          have ej : (0 : Int) + (j : Int) = (j : Int) := Int.zero_add _
          refine ⟨rfl, ?_⟩
          refine ⟨_, rfl, ?_, _, rfl, .inr ⟨_, rfl, by rw [ej]; exact log_small j hj10, _, rfl, ?_, _, hD5, ?_, same_mut s5 nD, ?_⟩⟩
          · rw [emp]
            exact small (by decide +kernel)
          · rw [emp, ej]
            exact small (Nat.le_trans (txt_small1 j hj10) (by decide))
          · rw [List.length_map, List.length_map, List.length_range]
            exact smallL (by omega)
          · rw [upd_same, emp, ej, List.range_succ, List.map_append, List.map_append]
            rfl
        · rintro H5 ⟨s5, hD5⟩
          have hrg : ∀ k ∈ List.range ks.length, k < 10 := fun k hk => by
            have := List.mem_range.mp hk
            omega
          refine ⟨.list ((ks.map headT).map PyData.str), .list (((List.range ks.length).map headT).map PyData.str), .lst (SqL.of (s5 _ _ hq)) (dp_strs _), .lst (SqL.of hD5) (dp_strs _), shaped_heads ks hk10, shaped_heads _ hrg, _, rfl, ?_⟩
          rw [eqv_heads ks _ hk10 hrg]
          refine ite2 (fun e2 => ?_) (fun e2 => ?_)
          · have e2' : ¬ ks = List.range ks.length := by simpa using e2
            exact qr (fun z => e2' z.2) H5 (g4.same s5)
          · have e2' : ks = List.range ks.length := by simpa using e2
            -- noted, answered
            refine ⟨_, rfl, q, _, rfl, .inl (SqL.of (s5 _ _ hq)), _, rfl, sg, T.CS, dx, _, rfl, s5 _ _ hS4, T.cS, T.nS_noted, (by show 1 < 1000; decide), ?_⟩
            refine ⟨_, rfl, sg, T.CS, dx, _, rfl, upd_same, T.cS, T.nS_answered, (by show 2 < 1000; decide), ?_⟩
            have g6 : Chg [sg] H5 (upd H5 sg (.ins T.CS dx (putF "noted" (.int ((((ks.map headT).map V.str).length : Nat) : Int)) [("deeds", .ref e)]))) := Chg.put (s5 _ _ hS4) rfl (by simp)
            have g7 := g6.trans (Chg.put (p := sg) (o := .ins T.CS dx (putF "answered" (.bl false) (putF "noted" (.int ((((ks.map headT).map V.str).length : Nat) : Int)) [("deeds", .ref e)]))) upd_same rfl (by simp))
            refine qa ⟨e1', e2'⟩ _ e ((g4.same s5).trans g7) ne ⟨?_, g7.lstD ((Chg.of_same (S := []) s5).lstD hE4 (by simp) (noLs_map noL_encSD _)) (by simpa using nse.symm) (noLs_map noL_encSD _)⟩
            rw [upd_same, List.length_map, List.length_map]
            have := sF_mk e ((ks.length : Nat) : Int) false
            exact congrArg (fun l => some (HO.ins T.CS dx l)) this
end
end Sg
namespace Sg
open PySem PySem.Spec PyProof.Rows L2
/-- a block over two tuples side by side, up to the end of the shorter -/
theorem lc_zipM {K : PySem.W.Frag} {a b : Addr} {xs ys : List V} {g : TG} {tt : TT} {te : TE} {vs : List Nat} {σ : L2.St} {H1 : Hp} {D : Addr} {Qd : Hp → Prop} (Pv : Nat → Hp → Prop) (h0 : Pv 0 (upd H1 D (.lst []))) (hl : ∀ i H, Pv i H → SqT K H a xs ∧ SqT K H b ys)
    (hs : ∀ (i : Nat) (x y : V) (T : Addr) (H : Hp), xs[i]? = some x → ys[i]? = some y → Pv i H → H T = none → g (.ref T) (wipe σ vs) (upd H T (.tup [x, y])) fun σ2 H2 => wipe σ2 vs = wipe σ vs ∧ tt σ2 H2 fun b H3 =>
      if b = true then te σ2 H3 fun y H4 => ∃ acc, H4 D = some (.lst acc) ∧ acc.length < sizeLine ∧ Pv (i + 1) (upd H4 D (.lst (acc ++ [y]))) else Pv (i + 1) H3) (hd : ∀ i H, Pv i H → Qd H) :
    ∃ W : Nat → Nat → Hp → Prop, (∃ m, W 0 m (upd H1 D (.lst []))) ∧ ∀ i m H, W i m H →
      ((RZ.ItzT K a b).stop i H ∧ Qd H) ∨ ((RZ.ItzT K a b).go i H ∧ ∃ Nx : Hp → Prop, (∀ H', Nx H' → ∃ m', m' < m ∧ W (i + 1) m' H') ∧ ∀ x H', (RZ.ItzT K a b).yld i H x H' → g x (wipe σ vs) H' fun σ2 H2 => wipe σ2 vs = wipe σ vs ∧ tt σ2 H2 fun b H3 =>
        if b = true then te σ2 H3 fun y H4 => ∃ acc, H4 D = some (.lst acc) ∧ acc.length < sizeLine ∧ Nx (upd H4 D (.lst (acc ++ [y]))) else Nx H3) := by
  refine ⟨fun i m H => m = xs.length - i ∧ Pv i H, ⟨xs.length, by simp, h0⟩, ?_⟩
  rintro i m H ⟨rfl, p⟩
  obtain ⟨qx, qy⟩ := hl i H p
  by_cases hlt : i < xs.length
  · by_cases hlt2 : i < ys.length
    · refine .inr ⟨⟨xs, ys, _, _, qx, qy, List.getElem?_eq_getElem hlt, List.getElem?_eq_getElem hlt2⟩, Pv (i + 1), fun H' p' => ⟨xs.length - (i + 1), by omega, rfl, p'⟩, fun v H' y => ?_⟩
      obtain ⟨T, x', y', rfl, hT, rfl, f1, f2⟩ := y
      exact hs i x' y' T H (f1 xs qx) (f2 ys qy) p hT
    · exact .inl ⟨⟨xs, ys, qx, qy, Or.inr (by omega)⟩, hd i H p⟩
  · exact .inl ⟨⟨xs, ys, qx, qy, Or.inl (by omega)⟩, hd i H p⟩
section
variable {P : Program} {w : World} {K : PySem.W.Frag} {mg : Str → Option Value} {base : Heap}
def spIsPrice : Sp := fun vs H Q _ => ∃ n : Int, vs = [.int n] ∧ 0 ≤ n ∧ n ≤ 1000000 ∧ Q (.bl true) H
theorem ok_is_price (T : Tx K mg) : FnOk P w K mg base CX0 1 T.is_price.f T.is_price.fd ["number"] spIsPrice := by
  refine T.is_price.F.ok sc_is_price (fun vs H Q E h => ?_) (fun cdv A outer s H vs Q E hr h => ?_)
  · obtain ⟨n, rfl, _⟩ := h
    rfl
  · obtain ⟨n, rfl, h0, h1, q⟩ := h
    obtain ⟨tk, hm⟩ := T.m_MOST_PRICE
    refine ⟨_, (pss_one (ps_ret (pe_chain op_le op_le pe_int (pv 0) (pe_glob (v := .int 1000000) (by rfl) hm ⟨_, rfl⟩)))), ?_⟩
    refine ⟨_, rfl, _, _, rfl, rfl, _, rfl, ?_⟩
    rw [decide_eq_true h0]
    refine iteT ⟨_, _, rfl, rfl, ?_⟩
    show Q (.bl (decide (n ≤ 1000000))) H
    rw [decide_eq_true h1]
    exact q
theorem PrD.get {H : Hp} {p : Addr} {f : Ef → Pc} (h : PrD K H p f) (e : Ef) : ∃ v, DGet H p (.str e.nm) (some v) ∧ Dp K H v (encP (f e)) ∧ (f e).ok := by
  obtain ⟨v1, v2, v3, h1, h2, h3, h4, h5⟩ := h
  cases e with
  | pay => exact ⟨v1, .inl ⟨_, .inr "pay", .inl h1, rfl, by rfl⟩, h2, h5 _⟩
  | ship => exact ⟨v2, .inl ⟨_, .inr "ship", .inl h1, rfl, by rfl⟩, h3, h5 _⟩
  | tell => exact ⟨v3, .inl ⟨_, .inr "tell", .inl h1, rfl, by rfl⟩, h4, h5 _⟩
/-- a price list object -/
structure PrAt (K : PySem.W.Frag) (C : Addr) (H : Hp) (q dx p : Addr) (f : Ef → Pc) : Prop where
  ob : H q = some (.ins C dx [("effects", .ref p)])
  pr : PrD K H p f
theorem Chg.prAt {S : List Addr} {H H1 : Hp} {C q dx p : Addr} {f : Ef → Pc} (c : Chg S H H1) (h : PrAt K C H q dx p f) (n : q ∉ S) (n' : p ∉ S) : PrAt K C H1 q dx p f := ⟨c.keep q _ h.ob n, c.prD h.pr n'⟩
theorem encP_inv {H : Hp} {v : V} {p : Pc} (h : Dp K H v (encP p)) : ∃ a x, v = .ref a ∧ SqT K H a [.int p.un, .int p.dn, x] ∧ (x = .non ∧ p.ch = none ∨ ∃ b t, p.ch = some b ∧ x = .ref t ∧ SqT K H t [.int b.1, .int b.2]) := by
  obtain ⟨a, xs, rfl, hs, ha⟩ := dpT_inv h
  cases ha with
  | cons h1 t =>
    cases h1
    cases t with
    | cons h2 t =>
      cases h2
      cases t with
      | cons h3 t =>
        cases t
        obtain ⟨un, dn, ch⟩ := p
        cases ch with
        | none =>
          cases h3
          exact ⟨a, .non, rfl, hs, .inl ⟨rfl, rfl⟩⟩
        | some b =>
          obtain ⟨t, ys, rfl, ht, hy⟩ := dpT_inv h3
          cases hy with
          | cons g1 r =>
            cases g1
            cases r with
            | cons g2 r =>
              cases g2
              cases r
              exact ⟨a, .ref t, rfl, hs, .inr ⟨b, t, rfl, rfl, ht⟩⟩
theorem price_ok {p : Pc} (h : p.ok) : (0 ≤ p.un ∧ p.un ≤ 1000000) ∧ (0 ≤ p.dn ∧ p.dn ≤ 1000000) ∧ ∀ b, p.ch = some b → (0 ≤ b.1 ∧ b.1 ≤ 1000000) ∧ 0 ≤ b.2 ∧ b.2 ≤ 1000000 := by
  obtain ⟨a, b, c, d, e⟩ := h
  refine ⟨⟨a, by omega⟩, ⟨c, by omega⟩, fun z hz => ?_⟩
  have := e z hz
  exact ⟨⟨this.1, by omega⟩, this.2.2.1, by omega⟩
def spPInit (K : PySem.W.Frag) (C : Addr) : Sp := fun vs H Q _ => ∃ (s dx p : Addr) (f : Ef → Pc), vs = [.ref s, .ref p] ∧ H s = some (.ins C dx []) ∧ PrD K H p f ∧
  ∀ (H' : Hp) (p' : Addr), Chg [s] H H' → H p' = none → PrAt K C H' s dx p' f → Q .non H'
theorem ok_P_init (T : Tx K mg) : FnOk P w K mg base CX0 2 T.P_init.f T.P_init.fd ["self", "effects"] (spPInit K T.CP) := by
  refine T.P_init.F.ok sc_Prices_init (fun vs H Q E h => ?_) (fun cdv A outer s H vs Q E hr h => ?_)
  · obtain ⟨s, dx, p, f, rfl, _⟩ := h
    rfl
  · obtain ⟨o, dx, p, f, rfl, hO, hP, q⟩ := h
    have hu65 := hu65_of hr
    have hu := Nat.lt_of_le_of_lt (Nat.add_le_add_left (by decide : 1 ≤ 65) _) hu65
    refine ⟨_, (pss_cons (ps_for PassesOwn.never rfl (pi_list (pe_callB (call_sortedD rfl) (by rfl) T.z_sorted (by decide +kernel) (pa_cons (pv 1) pa_nil))) (pg_name (i := 2) sc_Prices_init.nd rfl (by first | exact Or.inl rfl | exact Or.inr rfl))
        (pss_cons (ps_asg (pe_dget hu (pv 1) (pv 2) (fun _ _ => rfl)) (pg_tup rfl (pgs_cons (pg_name (i := 3) sc_Prices_init.nd rfl (by first | exact Or.inl rfl | exact Or.inr rfl)) (pgs_cons (pg_name (i := 4) sc_Prices_init.nd rfl (by first | exact Or.inl rfl | exact Or.inr rfl)) (pgs_cons (pg_name (i := 5) sc_Prices_init.nd rfl (by first | exact Or.inl rfl | exact Or.inr rfl)) pgs_nil)))))
        (pss_cons (ps_if (pw_or (pt_not (pt_val (pe_call (ok_is_price T) (hr.mono (by decide)) (by rfl) T.is_price.g T.is_price.F.kp T.is_price.b .nil pass0 (pa_cons (pv 3) pa_nil)))) (pw_or1 (pt_not (pt_val (pe_call (ok_is_price T) (hr.mono (by decide)) (by rfl) T.is_price.g T.is_price.F.kp T.is_price.b .nil pass0 (pa_cons (pv 4) pa_nil)))))).pt
            (pss_one ps_never)
            pss_nil)
        (pss_one (ps_if (pw_and (pt_cmpR op_notN (pv 5) pe_non (nomark _)) (pw_and1 (pt_not (pt_val (pe_callB (cr_all rfl) (by rfl) T.z_all (by decide +kernel) (pa_cons (pe_lc (own := [("number", 6)]) (g := gName 6) (tt := tYes) rfl sc_Prices_init.nd (pi_tup (pv 5)) (blkOk_by (own := [("number", 6)]) (N := n_Prices_init) (sc := defScope s_Prices_init) (by decide +kernel)) (fun _ _ _ _ _ => pg_name (i := 6) sc_Prices_init.nd rfl (by first | exact Or.inl rfl | exact Or.inr rfl)) (fun _ _ _ _ _ => pts_nil) (fun _ _ _ _ _ => (pe_call (ok_is_price T) (hr.mono (by decide)) (by rfl) T.is_price.g T.is_price.F.kp T.is_price.b .nil pass0 (pa_cons (pv 6) pa_nil)))) pa_nil)))))).pt
            (pss_one ps_never)
            pss_nil)))))
    (pss_one (ps_fld (pv 0) (pe_callTy call_dictD (by rfl) T.z_dict (by decide +kernel) (pa_cons (pv 1) pa_nil)) rfl))), ?_⟩
    obtain ⟨v1, v2, v3, hp, _⟩ := id hP
    refine ⟨_, rfl, p, _, ["pay", "ship", "tell"], rfl, .inl hp, rfl, (by decide), fun ys l perm srt nl => ⟨l, rfl, ⟨_, SqL.of upd_same⟩, for_list (K := K) (a := l) (xs := ys.map V.str) (fun i σ H3 => ∃ x2 x3 x4 x5 : Option V, σ = [some (.ref o), some (.ref p), x2, x3, x4, x5, none] ∧ Same (upd H l (.lst (ys.map V.str))) H3)
      ⟨none, none, none, none, rfl, Same.refl _⟩ (fun i σ H3 _ ⟨_, _, _, _, _, s3⟩ => SqL.of (s3 _ _ upd_same)) ?_ ?_⟩⟩
    · rintro i x σ H3 hi ⟨x2, x3, x4, x5, rfl, s3⟩
      rw [List.getElem?_map] at hi
      obtain ⟨nm, hn, rfl⟩ := Option.map_eq_some_iff.mp hi
      obtain ⟨e, rfl⟩ : ∃ e : Ef, nm = e.nm := by
        have hm := perm.mem_iff.mp (List.mem_of_getElem? hn)
        simp only [List.mem_cons, List.not_mem_nil, or_false] at hm
        rcases hm with rfl | rfl | rfl
        · exact ⟨.pay, rfl⟩
        · exact ⟨.ship, rfl⟩
        · exact ⟨.tell, rfl⟩
      have s4 : Same H H3 := (same_new nl).trans s3
      obtain ⟨v, hg, hd, hok⟩ := ((Chg.of_same (S := []) s4).prD hP (by simp)).get e
      obtain ⟨a, x, rfl, hT, hx⟩ := encP_inv hd
      obtain ⟨k1, k2, k3⟩ := price_ok hok
      refine ⟨_, rfl, _, rfl, p, _, rfl, hg, a, _, rfl, hT, rfl, _, _, rfl, _, _, rfl, _, _, rfl, rfl, ?_⟩
      refine ⟨_, rfl, _, rfl, k1.1, k1.2, _, rfl, iteF ⟨_, rfl, _, rfl, k2.1, k2.2, _, rfl, iteF ?_⟩⟩
      rcases hx with ⟨rfl, _⟩ | ⟨b, t, hb, rfl, hT2⟩
      · refine ⟨_, rfl, rfl, _, rfl, iteF ?_⟩
        exact iteF ⟨_, _, _, _, rfl, s3⟩
      · obtain ⟨k4, k5⟩ := k3 b hb
        refine ⟨_, rfl, rfl, _, rfl, iteT ?_⟩
        refine ⟨_, rfl, t, rfl, ⟨_, hT2⟩, fun D nD => ?_⟩
        have hT2' := hT2
        refine lc_tup (K := K) (a := t) (xs := [.int b.1, .int b.2]) (fun j H4 => Same H3 H4 ∧ H4 D = some (.lst ((List.replicate j true).map V.bl))) ⟨same_new nD, upd_same⟩ (fun j H4 _ h => (Chg.of_same (S := []) h.1).sqT hT2) ?_ ?_
        · rintro j y H4 hj ⟨s5, hD4⟩
          refine ⟨rfl, ?_⟩
          have hy : ∃ n : Int, y = .int n ∧ 0 ≤ n ∧ n ≤ 1000000 := by
            match j, hj with
            | 0, hj => exact ⟨b.1, (Option.some.inj hj).symm, k4.1, k4.2⟩
            | 1, hj => exact ⟨b.2, (Option.some.inj hj).symm, k5.1, k5.2⟩
            | j + 2, hj => simp at hj
          obtain ⟨n, rfl, n0, n1⟩ := hy
          have jl : j < 2 := (List.getElem?_eq_some_iff.mp hj).1
          refine ⟨_, rfl, n, rfl, n0, n1, _, hD4, ?_, same_mut s5 nD, ?_⟩
          · rw [List.length_map, List.length_replicate]
            exact smallL (by omega)
          · rw [upd_same, List.replicate_succ', List.map_append]
            rfl
        · rintro H4 ⟨s5, hD4⟩
          refine ⟨D, [true, true], rfl, SqL.of hD4, true, rfl, iteF ?_⟩
          exact ⟨_, _, _, _, rfl, s3.trans s5⟩
    · rintro σ H3 ⟨x2, x3, x4, x5, rfl, s3⟩
      have s4 : Same H H3 := (same_new nl).trans s3
      refine ⟨_, rfl, p, _, rfl, .inl (s4 _ _ hp), fun p' np' => ?_⟩
      have nop : o ≠ p' := ne_of_none (s4 _ _ hO) np'
      have hO' : (upd H3 p' (.dK [(.inr "pay", v1), (.inr "ship", v2), (.inr "tell", v3)])) o = some (.ins T.CP dx []) := by rw [upd_ne nop]; exact s4 _ _ hO
      refine ⟨_, rfl, o, T.CP, dx, [], rfl, hO', T.cP, T.nP_effects, (by show 0 < 1000; decide), ?_⟩
      have c1 : Chg [o] H (upd H3 p' (.dK [(.inr "pay", v1), (.inr "ship", v2), (.inr "tell", v3)])) := (Chg.of_same s4).trans (Chg.new np')
      have c2 : Chg [o] H (upd (upd H3 p' (.dK [(.inr "pay", v1), (.inr "ship", v2), (.inr "tell", v3)])) o (.ins T.CP dx (putF "effects" (.ref p') []))) := c1.trans (Chg.put hO' rfl (by simp))
      obtain ⟨w1, w2, w3, e1, d1, d2, d3, ok⟩ := hP
      rw [hp] at e1
      cases e1
      refine q _ p' c2 (s4.free np') ⟨upd_same, v1, v2, v3, ?_, c2.dp _ _ (noL_encP _) d1, c2.dp _ _ (noL_encP _) d2, c2.dp _ _ (noL_encP _) d3, ok⟩
      rw [upd_ne nop.symm, upd_same]
/-! ### what a deed costs -/
def spPricesOf (K : PySem.W.Frag) (C : Addr) : Sp := fun vs H Q _ => ∃ (o dx p : Addr) (f : Ef → Pc) (v : V) (c : Cl), vs = [.ref o, v] ∧ PrAt K C H o dx p f ∧ Dp K H v (encC c) ∧ ∀ u, Dp K H u (encP (f c.eff)) → Q u H
theorem ok_prices_of (T : Tx K mg) : FnOk P w K mg base CX0 1 T.prices_of.f T.prices_of.fd ["prices", "call"] (spPricesOf K T.CP) := by
  refine T.prices_of.F.ok sc_prices_of (fun vs H Q E h => ?_) (fun cdv A outer s H vs Q E hr h => ?_)
  · obtain ⟨o, dx, p, f, v, c, rfl, _⟩ := h
    rfl
  · obtain ⟨o, dx, p, f, v, c, rfl, hO, hv, q⟩ := h
    have hu65 := hu65_of hr
    have hu := Nat.lt_of_le_of_lt (Nat.add_le_add_left (by decide : 1 ≤ 65) _) hu65
    refine ⟨_, (pss_cons (ps_if (pt_cmp (pc_dnotin hu (pe_ix ix_tup (pv 1) pe_int (fun _ _ => rfl)) (pe_fld (pv 0) rfl)))
        (pss_one ps_never)
        pss_nil)
    (pss_one (ps_ret (pe_dget hu (pe_fld (pv 0) rfl) (pe_ix ix_tup (pv 1) pe_int (fun _ _ => rfl)) (fun _ _ => rfl))))), ?_⟩
    obtain ⟨a, k, g, rfl, hT, hK, hG⟩ := dpC_inv hv
    obtain ⟨u, hg, hd, _⟩ := hO.pr.get c.eff
    refine ⟨_, rfl, a, _, 1, _, rfl, rfl, hT, atI_nat (j := 1) rfl, _, rfl, o, T.CP, dx, _, _, rfl, hO.ob, T.cP, T.nP_effects, lk_hit, p, _, rfl, hg, _, rfl, iteF ?_⟩
    exact ⟨_, rfl, o, T.CP, dx, _, _, rfl, hO.ob, T.cP, T.nP_effects, lk_hit, _, rfl, a, _, 1, _, rfl, rfl, hT, atI_nat (j := 1) rfl, p, _, rfl, hg, q u hd⟩
def spUndoCost (K : PySem.W.Frag) (C : Addr) : Sp := fun vs H Q _ => ∃ (o dx p : Addr) (f : Ef → Pc) (v : V) (c : Cl), vs = [.ref o, v] ∧ PrAt K C H o dx p f ∧ Dp K H v (encC c) ∧ ∀ i : Int, Q (.int i) H
theorem ok_undo_cost (T : Tx K mg) : FnOk P w K mg base CX0 2 T.undo_cost.f T.undo_cost.fd ["prices", "call"] (spUndoCost K T.CP) := by
  refine T.undo_cost.F.ok sc_undo_cost (fun vs H Q E h => ?_) (fun cdv A outer s H vs Q E hr h => ?_)
  · obtain ⟨o, dx, p, f, v, c, rfl, _⟩ := h
    rfl
  · obtain ⟨o, dx, p, f, v, c, rfl, hO, hv, q⟩ := h
    refine ⟨_, (pss_one (ps_ret (pe_ix ix_tup (pe_call (ok_prices_of T) (hr.mono (by decide)) (by rfl) T.prices_of.g T.prices_of.F.kp T.prices_of.b .nil pass0 (pa_cons (pv 0) (pa_cons (pv 1) pa_nil))) pe_int (fun _ _ => rfl)))), ?_⟩
    refine ⟨_, rfl, _, rfl, o, dx, p, f, v, c, rfl, hO, hv, fun u hu => ?_⟩
    obtain ⟨a, x, rfl, hT, _⟩ := encP_inv hu
    exact ⟨a, _, 0, _, rfl, rfl, hT, atI_nat (j := 0) rfl, q _⟩
theorem ok_do_cost (T : Tx K mg) : FnOk P w K mg base CX0 2 T.do_cost.f T.do_cost.fd ["prices", "call"] (spUndoCost K T.CP) := by
  refine T.do_cost.F.ok sc_do_cost (fun vs H Q E h => ?_) (fun cdv A outer s H vs Q E hr h => ?_)
  · obtain ⟨o, dx, p, f, v, c, rfl, _⟩ := h
    rfl
  · obtain ⟨o, dx, p, f, v, c, rfl, hO, hv, q⟩ := h
    refine ⟨_, (pss_one (ps_ret (pe_ix ix_tup (pe_call (ok_prices_of T) (hr.mono (by decide)) (by rfl) T.prices_of.g T.prices_of.F.kp T.prices_of.b .nil pass0 (pa_cons (pv 0) (pa_cons (pv 1) pa_nil))) pe_int (fun _ _ => rfl)))), ?_⟩
    refine ⟨_, rfl, _, rfl, o, dx, p, f, v, c, rfl, hO, hv, fun u hu => ?_⟩
    obtain ⟨a, x, rfl, hT, _⟩ := encP_inv hu
    exact ⟨a, _, 1, _, rfl, rfl, hT, atI_nat (j := 1) rfl, q _⟩
/-- an int or nothing -/
def oV : Option Int → V
  | none => .non
  | some i => .int i
def spChangeCost (K : PySem.W.Frag) (C : Addr) : Sp := fun vs H Q _ => ∃ (o dx p : Addr) (f : Ef → Pc) (v v' : V) (c c' : Cl), vs = [.ref o, v, v'] ∧ PrAt K C H o dx p f ∧ Dp K H v (encC c) ∧ Dp K H v' (encC c') ∧ c.args.length < 1000 ∧
  ∀ (H' : Hp) (i : Option Int), Same H H' → Q (oV i) H'
theorem ok_change_cost (T : Tx K mg) : FnOk P w K mg base CX0 2 T.change_cost.f T.change_cost.fd ["prices", "first", "second"] (spChangeCost K T.CP) := by
  refine T.change_cost.F.ok sc_change_cost (fun vs H Q E h => ?_) (fun cdv A outer s H vs Q E hr h => ?_)
  · obtain ⟨o, dx, p, f, v, v', c, c', rfl, _⟩ := h
    rfl
  · obtain ⟨o, dx, p, f, v, v', c, c', rfl, hO, hv, hv', hal, q⟩ := h
    refine ⟨_, (pss_cons (ps_set (i := 3) sc_change_cost.nd rfl (by first | exact Or.inl rfl | exact Or.inr rfl) (pe_ix ix_tup (pe_call (ok_prices_of T) (hr.mono (by decide)) (by rfl) T.prices_of.g T.prices_of.F.kp T.prices_of.b .nil pass0 (pa_cons (pv 0) (pa_cons (pv 1) pa_nil))) pe_int (fun _ _ => rfl)))
    (pss_cons (ps_expr (pe_call (ok_prices_of T) (hr.mono (by decide)) (by rfl) T.prices_of.g T.prices_of.F.kp T.prices_of.b .nil pass0 (pa_cons (pv 0) (pa_cons (pv 2) pa_nil))))
    (pss_cons (ps_if (pw_or (pt_cmpR op_ne (pe_ix ix_tup (pv 1) pe_int (fun _ _ => rfl)) (pe_ix ix_tup (pv 2) pe_int (fun _ _ => rfl)) (nomark _)) (pw_or1 (pt_cmpR op_isN (pv 3) pe_non (nomark _)))).pt
        (pss_one (ps_ret pe_non))
        pss_nil)
    (pss_cons (ps_asg (pv 3) (pg_tup rfl (pgs_cons (pg_name (i := 4) sc_change_cost.nd rfl (by first | exact Or.inl rfl | exact Or.inr rfl)) (pgs_cons (pg_name (i := 5) sc_change_cost.nd rfl (by first | exact Or.inl rfl | exact Or.inr rfl)) pgs_nil))))
    (pss_one (ps_ret (pe_op op_add (pv 4) (pe_op op_mul (pv 5) (pe_callB (cr_sum rfl) (by rfl) T.z_sum (by decide +kernel) (pa_cons (pe_lc (own := [("a", 6), ("b", 7)]) (g := gTup K 2 (gCons (gName 6) (gCons (gName 7) gNil))) (tt := tYes) rfl sc_change_cost.nd (RZ.pi_zipA (by rfl) T.z_zip (pa_cons (pe_ix ix_tup (pv 1) pe_int (fun _ _ => rfl)) (pa_cons (pe_ix ix_tup (pv 2) pe_int (fun _ _ => rfl)) pa_nil))) (blkOk_by (own := [("a", 6), ("b", 7)]) (N := n_change_cost) (sc := defScope s_change_cost) (by decide +kernel)) (fun _ _ _ _ _ => pg_tup rfl (pgs_cons (pg_name (i := 6) sc_change_cost.nd rfl (by first | exact Or.inl rfl | exact Or.inr rfl)) (pgs_cons (pg_name (i := 7) sc_change_cost.nd rfl (by first | exact Or.inl rfl | exact Or.inr rfl)) pgs_nil))) (fun _ _ _ _ _ => pts_nil) (fun _ _ _ _ _ => (pe_callB call_abs (by rfl) T.z_abs (by decide +kernel) (pa_cons (pe_op op_sub (pv 6) (pv 7)) pa_nil)))) pa_nil)))))))))), ?_⟩
    refine ⟨_, rfl, _, rfl, o, dx, p, f, v, c, rfl, hO, hv, fun u hu => ?_⟩
    obtain ⟨a, x, rfl, hT, hx⟩ := encP_inv hu
    refine ⟨a, _, 2, _, rfl, rfl, hT, atI_nat (j := 2) rfl, ?_⟩
    refine ⟨_, rfl, _, rfl, o, dx, p, f, v', c', rfl, hO, hv', fun u' hu' => ?_⟩
    obtain ⟨b, k, g, rfl, hT1, hK1, hG1⟩ := dpC_inv hv
    obtain ⟨b', k', g', rfl, hT2, hK2, hG2⟩ := dpC_inv hv'
    refine ⟨_, rfl, b, _, 1, _, rfl, rfl, hT1, atI_nat (j := 1) rfl, _, rfl, b', _, 1, _, rfl, rfl, hT2, atI_nat (j := 1) rfl, rfl, _, rfl, ite2 (fun _ => iteT (q H none (Same.refl _))) (fun _ => ?_)⟩
    rcases hx with ⟨rfl, _⟩ | ⟨z, t, hb, rfl, hT3⟩
    · exact ⟨_, rfl, rfl, _, rfl, iteT (q H none (Same.refl _))⟩
    · refine ⟨_, rfl, rfl, _, rfl, iteF ?_⟩
      refine ⟨_, rfl, t, _, rfl, hT3, rfl, _, _, rfl, _, _, rfl, rfl, ?_⟩
      refine ⟨_, rfl, _, rfl, ?_⟩
      refine ⟨_, rfl, b, _, 2, _, rfl, rfl, hT1, atI_nat (j := 2) rfl, _, rfl, b', _, 2, _, rfl, rfl, hT2, atI_nat (j := 2) rfl, g, g', _, _, rfl, .inr ⟨hG1, hG2, fun D nD => ?_⟩⟩
      refine lc_zipM (K := K) (fun j H4 => Same H H4 ∧ ∃ ns : List Int, ns.length = j ∧ H4 D = some (.lst (ns.map V.int))) ⟨same_new nD, [], rfl, upd_same⟩ (fun j H4 h => ⟨(Chg.of_same (S := []) h.1).sqT hG1, (Chg.of_same (S := []) h.1).sqT hG2⟩) ?_ ?_
      · rintro j x y t2 H4 hx hy ⟨s4, ns, hl, hD4⟩ n2
        have hjl := (List.getElem?_eq_some_iff.mp hx).1
        rw [List.length_map] at hjl
        rw [List.getElem?_map] at hx hy
        obtain ⟨xi, _, rfl⟩ := Option.map_eq_some_iff.mp hx
        obtain ⟨yi, _, rfl⟩ := Option.map_eq_some_iff.mp hy
        refine ⟨t2, _, rfl, SqT.of upd_same, rfl, _, _, rfl, _, _, rfl, rfl, rfl, ?_⟩
        refine ⟨_, rfl, _, rfl, _, _, rfl, rfl, _, rfl, _, by rw [upd_ne (ne_of_none hD4 n2)]; exact hD4, ?_, same_mut (s4.trans (same_new n2)) nD, ns ++ [if xi - yi < 0 then -(xi - yi) else xi - yi], ?_, ?_⟩
        · rw [List.length_map]
          exact smallL (by omega)
        · rw [List.length_append, hl]
          rfl
        · rw [upd_same, List.map_append]
          rfl
      · rintro j H4 ⟨s4, ns, hl, hD4⟩
        obtain ⟨_, _, _, hok⟩ := hO.pr.get c.eff
        have hz := hok.2.2.2.2 z hb
        exact ⟨D, ns, rfl, SqL.of hD4, _, _, rfl, rfl, Or.inl ⟨by omega, by omega⟩, _, _, rfl, rfl, by exact q H4 (some _) s4⟩
end
end Sg
namespace Sg
open PySem PySem.Spec PyProof.Rows L2
def lcScope : Stmt → Scope
  | .Assign _ (.ListComp _ _ sc _) _ => sc
  | st => defScope st
abbrev sc_C2 : Scope := relS (lcScope (((defBody s_Costs_init)[2]?).getD (topS 0))) (defScope s_Costs_init)
/-! attributes of the costs -/
def cF (u d c : Addr) : List (Str × V) := [("undos", .ref u), ("dos", .ref d), ("changes", .ref c)]
theorem cF_undos (u d c : Addr) : (cF u d c).lookup ("undos" : Str) = some (.ref u) := lk_hit
theorem cF_dos (u d c : Addr) : (cF u d c).lookup ("dos" : Str) = some (.ref d) := (lk_miss (by decide +kernel)).trans lk_hit
theorem cF_changes (u d c : Addr) : (cF u d c).lookup ("changes" : Str) = some (.ref c) := (lk_miss (by decide +kernel)).trans ((lk_miss (by decide +kernel)).trans lk_hit)
theorem cF_mk (u d c : Addr) : putF "changes" (.ref c) (putF "dos" (.ref d) (putF "undos" (.ref u) [])) = cF u d c := by
  show putF "changes" (.ref c) (putF "dos" (.ref d) [("undos", .ref u)]) = _
  rw [pf_miss (by decide +kernel)]
  show putF "changes" (.ref c) [("undos", .ref u), ("dos", .ref d)] = _
  rw [pf_miss (by decide +kernel), pf_miss (by decide +kernel)]
  rfl
/-- lists of lists -/
def RowsAt (H : Hp) (as : List Addr) (f : Option Int → V) (n : Nat) : Prop := ∀ a ∈ as, ∃ os : List (Option Int), H a = some (.lst (os.map f)) ∧ os.length = n
theorem RowsAt.keep {H H' : Hp} {as : List Addr} {f : Option Int → V} {n : Nat} (h : RowsAt H as f n) (k : ∀ a ∈ as, ∀ o, H a = some o → H' a = some o) : RowsAt H' as f n := fun a ha => by
  obtain ⟨os, h1, h2⟩ := h a ha
  exact ⟨os, k a ha _ h1, h2⟩
structure CostAt (C : Addr) (H : Hp) (s dx u d c : Addr) (us dl : List Int) (as : List Addr) : Prop where
  hC : H s = some (.ins C dx (cF u d c))
  hU : H u = some (.lst (us.map V.int))
  hD : H d = some (.lst (dl.map V.int))
  hR : H c = some (.lst (as.map V.ref))
  rows : RowsAt H as oV dl.length
  len : as.length = us.length
section
variable {P : Program} {w : World} {K : PySem.W.Frag} {mg : Str → Option Value} {base : Heap}
def spCInit (K : PySem.W.Frag) (C CP : Addr) : Sp := fun vs H Q _ => ∃ (s dx t h q dq p : Addr) (f : Ef → Pc) (tc hc : List Cl), vs = [.ref s, .ref t, .ref h, .ref q] ∧ H s = some (.ins C dx []) ∧ LstD K H t (tc.map encC) ∧ LstD K H h (hc.map encC) ∧ PrAt K CP H q dq p f ∧ tc.length ≤ 4 ∧ hc.length ≤ 4 ∧ (∀ c ∈ tc, c.args.length ≤ 2) ∧
  ∀ (H' : Hp) (u d c : Addr) (us dl : List Int) (as : List Addr), Chg [s] H H' → CostAt C H' s dx u d c us dl as → us.length = tc.length → dl.length = hc.length → Q .non H'
theorem ok_C_init (T : Tx K mg) : FnOk P w K mg base CX0 3 T.C_init.f T.C_init.fd ["self", "there", "here", "prices"] (spCInit K T.CC T.CP) := by
  refine T.C_init.F.ok sc_Costs_init (fun vs H Q E h => ?_) (fun cdv A outer s H vs Q E hr h => ?_)
  · obtain ⟨s, dx, t, h, q, dq, p, f, tc, hc, rfl, _⟩ := h
    rfl
  · obtain ⟨o, dx, t, h, q, dq, p, f, tc, hc, rfl, hO, hT, hH, hP, htl, hhl, hta, qq⟩ := h
    refine ⟨_, (pss_cons (ps_fld (pv 0) (pe_lc (own := [("call", 4)]) (g := gName 4) (tt := tYes) rfl sc_Costs_init.nd (pi_list (pv 1)) (blkOk_by (own := [("call", 4)]) (N := n_Costs_init) (sc := defScope s_Costs_init) (by decide +kernel)) (fun _ _ _ _ _ => pg_name (i := 4) sc_Costs_init.nd rfl (by first | exact Or.inl rfl | exact Or.inr rfl)) (fun _ _ _ _ _ => pts_nil) (fun _ _ _ _ _ => (pe_call (ok_undo_cost T) (hr.mono (by decide)) (by rfl) T.undo_cost.g T.undo_cost.F.kp T.undo_cost.b .nil pass0 (pa_cons (pv 3) (pa_cons (pv 4) pa_nil))))) rfl)
    (pss_cons (ps_fld (pv 0) (pe_lc (own := [("call", 4)]) (g := gName 4) (tt := tYes) rfl sc_Costs_init.nd (pi_list (pv 2)) (blkOk_by (own := [("call", 4)]) (N := n_Costs_init) (sc := defScope s_Costs_init) (by decide +kernel)) (fun _ _ _ _ _ => pg_name (i := 4) sc_Costs_init.nd rfl (by first | exact Or.inl rfl | exact Or.inr rfl)) (fun _ _ _ _ _ => pts_nil) (fun _ _ _ _ _ => (pe_call (ok_do_cost T) (hr.mono (by decide)) (by rfl) T.do_cost.g T.do_cost.F.kp T.do_cost.b .nil pass0 (pa_cons (pv 3) (pa_cons (pv 4) pa_nil))))) rfl)
    (pss_one (ps_fld (pv 0) (pe_lc (own := [("first", 6)]) (g := gName 6) (tt := tYes) (te := tLc (iList K (tVar 2)) (gName 5) tYes (tCall (spChangeCost K T.CP) [] (fun _ _ _ => False) (tCons (tVar 3) (tCons (tVar 6) (tCons (tVar 5) tNil)))) [5]) rfl sc_Costs_init.nd (pi_list (pv 1)) (blkOk_by (own := [("first", 6)]) (N := n_Costs_init) (sc := defScope s_Costs_init) (by decide +kernel)) (fun _ _ _ _ _ => pg_name (i := 6) sc_Costs_init.nd rfl (by first | exact Or.inl rfl | exact Or.inr rfl)) (fun _ _ _ _ _ => pts_nil) (fun _ _ _ _ _ => (pe_lc (own := [("second", 5)]) (g := gName 5) (tt := tYes) rfl sc_Costs_init.nd (pi_list (pv 2)) (blkOk_by (own := [("second", 5)]) (N := n_Costs_init) (sc := sc_C2) (by decide +kernel)) (fun _ _ _ _ _ => pg_name (i := 5) sc_Costs_init.nd rfl (by first | exact Or.inl rfl | exact Or.inr rfl)) (fun _ _ _ _ _ => pts_nil) (fun _ _ _ _ _ => (pe_call (ok_change_cost T) (hr.mono (by decide)) (by rfl) T.change_cost.g T.change_cost.F.kp T.change_cost.b .nil pass0 (pa_cons (pv 3) (pa_cons (pv 6) (pa_cons (pv 5) pa_nil)))))))) rfl)))), ?_⟩
    obtain ⟨tv, ht, htd⟩ := hT
    obtain ⟨hv, hh, hhd⟩ := hH
    have nht : o ≠ t := ne_of hO ht (by intro z; cases z)
    have nhh : o ≠ h := ne_of hO hh (by intro z; cases z)
    have tvl : tv.length = tc.length := by rw [dpa_length htd, List.length_map]
    have hvl : hv.length = hc.length := by rw [dpa_length hhd, List.length_map]
    obtain ⟨_, _, _, hpk, _⟩ := id hP.pr
    have nop : o ≠ p := ne_of hO hpk (by intro z; cases z)
    -- undos
    refine ⟨_, rfl, t, rfl, ⟨_, SqL.of ht⟩, fun D1 n1 => ?_⟩
    refine lc_list (K := K) (a := t) (xs := tv) (fun j H4 => Same H H4 ∧ ∃ ns : List Int, ns.length = j ∧ H4 D1 = some (.lst (ns.map V.int))) ⟨same_new n1, [], rfl, upd_same⟩ (fun j H4 _ h => SqL.of (h.1 _ _ ht)) ?_ ?_
    · rintro j x H4 hj ⟨s4, ns, hl, hD4⟩
      refine ⟨rfl, ?_⟩
      obtain ⟨d, hd, hx⟩ := dpa_get htd hj
      rw [List.getElem?_map] at hd
      obtain ⟨c, hc', rfl⟩ := Option.map_eq_some_iff.mp hd
      have jl := (List.getElem?_eq_some_iff.mp hj).1
      refine ⟨_, rfl, _, rfl, q, dq, p, f, x, c, rfl, (Chg.of_same (S := []) s4).prAt hP (by simp) (by simp), (Chg.of_same (S := []) s4).dp _ _ (noL_encC _) hx, fun i => ⟨_, hD4, ?_, same_mut s4 n1, ns ++ [i], ?_, ?_⟩⟩
      · rw [List.length_map]
        exact smallL (by omega)
      · rw [List.length_append, hl]
        rfl
      · rw [upd_same, List.map_append]
        rfl
    rintro H1 ⟨s1, us, hul, hD1⟩
    have hO1 := s1 _ _ hO
    refine ⟨_, rfl, o, T.CC, dx, [], rfl, hO1, T.cC, T.nC_undos, (by show 0 < 1000; decide), ?_⟩
    have nO1 : o ≠ D1 := ne_of_none hO n1
    have c2 : Chg [o] H (upd H1 o (.ins T.CC dx (putF "undos" (.ref D1) []))) := (Chg.of_same s1).trans (Chg.put hO1 rfl (by simp))
    have hD2 : upd H1 o (.ins T.CC dx (putF "undos" (.ref D1) [])) D1 = some (.lst (us.map V.int)) := by rw [upd_ne nO1.symm]; exact hD1
    have hO2 : upd H1 o (.ins T.CC dx (putF "undos" (.ref D1) [])) o = some (.ins T.CC dx (putF "undos" (.ref D1) [])) := upd_same
    generalize upd H1 o (.ins T.CC dx (putF "undos" (.ref D1) [])) = H2 at c2 hD2 hO2
    have hh2 : H2 h = some (.lst hv) := c2.keep h _ hh (by simpa using nhh.symm)
    have hhd2 := c2.dps _ _ (noLs_encC _) hhd
    have hP2 := c2.prAt hP (by simpa using (ne_of hO hP.ob (by intro z; injection z with _ _ z; cases z)).symm) (by simpa using nop.symm)
    -- dos
    refine ⟨_, rfl, h, rfl, ⟨_, SqL.of hh2⟩, fun D2 n2 => ?_⟩
    refine lc_list (K := K) (a := h) (xs := hv) (fun j H4 => Same H2 H4 ∧ ∃ ns : List Int, ns.length = j ∧ H4 D2 = some (.lst (ns.map V.int))) ⟨same_new n2, [], rfl, upd_same⟩ (fun j H4 _ h => SqL.of (h.1 _ _ hh2)) ?_ ?_
    · rintro j x H4 hj ⟨s4, ns, hl, hD4⟩
      refine ⟨rfl, ?_⟩
      obtain ⟨d, hd, hx⟩ := dpa_get hhd2 hj
      rw [List.getElem?_map] at hd
      obtain ⟨c, hc', rfl⟩ := Option.map_eq_some_iff.mp hd
      have jl := (List.getElem?_eq_some_iff.mp hj).1
      refine ⟨_, rfl, _, rfl, q, dq, p, f, x, c, rfl, (Chg.of_same (S := []) s4).prAt hP2 (by simp) (by simp), (Chg.of_same (S := []) s4).dp _ _ (noL_encC _) hx, fun i => ⟨_, hD4, ?_, same_mut s4 n2, ns ++ [i], ?_, ?_⟩⟩
      · rw [List.length_map]
        exact smallL (by omega)
      · rw [List.length_append, hl]
        rfl
      · rw [upd_same, List.map_append]
        rfl
    rintro H3 ⟨s3, dl, hdl, hD3⟩
    have hO3 := s3 _ _ hO2
    refine ⟨_, rfl, o, T.CC, dx, _, rfl, hO3, T.cC, T.nC_dos, (by show 1 < 1000; decide), ?_⟩
    have nO2 : o ≠ D2 := ne_of_none hO2 n2
    have c4 : Chg [o] H (upd H3 o (.ins T.CC dx (putF "dos" (.ref D2) (putF "undos" (.ref D1) [])))) := (c2.same s3).trans (Chg.put hO3 rfl (by simp))
    have hU4 : upd H3 o (.ins T.CC dx (putF "dos" (.ref D2) (putF "undos" (.ref D1) []))) D1 = some (.lst (us.map V.int)) := by rw [upd_ne nO1.symm]; exact s3 _ _ hD2
    have hV4 : upd H3 o (.ins T.CC dx (putF "dos" (.ref D2) (putF "undos" (.ref D1) []))) D2 = some (.lst (dl.map V.int)) := by rw [upd_ne nO2.symm]; exact hD3
    have hO4 : upd H3 o (.ins T.CC dx (putF "dos" (.ref D2) (putF "undos" (.ref D1) []))) o = some (.ins T.CC dx (putF "dos" (.ref D2) (putF "undos" (.ref D1) []))) := upd_same
    generalize upd H3 o (.ins T.CC dx (putF "dos" (.ref D2) (putF "undos" (.ref D1) []))) = H4 at c4 hU4 hV4 hO4
    have ht4 : H4 t = some (.lst tv) := c4.keep t _ ht (by simpa using nht.symm)
    have htd4 := c4.dps _ _ (noLs_encC _) htd
    have hh4 : H4 h = some (.lst hv) := c4.keep h _ hh (by simpa using nhh.symm)
    have hhd4 := c4.dps _ _ (noLs_encC _) hhd
    have hP4 := c4.prAt hP (by simpa using (ne_of hO hP.ob (by intro z; injection z with _ _ z; cases z)).symm) (by simpa using nop.symm)
    -- changes
    refine ⟨_, rfl, t, rfl, ⟨_, SqL.of ht4⟩, fun D3 n3 => ?_⟩
    refine lc_list (K := K) (a := t) (xs := tv) (fun j H5 => Same H4 H5 ∧ ∃ as : List Addr, as.length = j ∧ H5 D3 = some (.lst (as.map V.ref)) ∧ RowsAt H5 as oV hc.length ∧ D3 ∉ as) ⟨same_new n3, [], rfl, upd_same, (fun a ha => by cases ha), by simp⟩ (fun j H4 _ h => SqL.of (h.1 _ _ ht4)) ?_ ?_
    · rintro j x H5 hj ⟨s5, as, hl, hD5, hR5, hn5⟩
      refine ⟨rfl, ?_⟩
      obtain ⟨d, hd, hx⟩ := dpa_get htd4 hj
      rw [List.getElem?_map] at hd
      obtain ⟨c, hc', rfl⟩ := Option.map_eq_some_iff.mp hd
      have jl := (List.getElem?_eq_some_iff.mp hj).1
      have hca := hta c (List.mem_of_getElem? hc')
      refine ⟨_, rfl, h, rfl, ⟨_, SqL.of (s5 _ _ hh4)⟩, fun a na => ?_⟩
      have nDa : D3 ≠ a := ne_of_none hD5 na
      refine lc_list (K := K) (a := h) (xs := hv) (fun i H6 => Same H5 H6 ∧ ∃ os : List (Option Int), os.length = i ∧ H6 a = some (.lst (os.map oV))) ⟨same_new na, [], rfl, upd_same⟩ (fun i H6 _ g => SqL.of (g.1 _ _ (s5 _ _ hh4))) ?_ ?_
      · rintro i y H6 hi ⟨s6, os, hol, ha6⟩
        refine ⟨rfl, ?_⟩
        obtain ⟨d', hd', hy⟩ := dpa_get hhd4 hi
        rw [List.getElem?_map] at hd'
        obtain ⟨c', hc'', rfl⟩ := Option.map_eq_some_iff.mp hd'
        have il := (List.getElem?_eq_some_iff.mp hi).1
        have s46 := s5.trans s6
        refine ⟨_, rfl, _, rfl, _, rfl, q, dq, p, f, x, y, c, c', rfl, (Chg.of_same (S := []) s46).prAt hP4 (by simp) (by simp), (Chg.of_same (S := []) s46).dp _ _ (noL_encC _) hx, (Chg.of_same (S := []) s46).dp _ _ (noL_encC _) hy, by omega, fun H7 r s7 => ⟨_, s7 _ _ ha6, ?_, same_mut (s6.trans s7) na, os ++ [r], ?_, ?_⟩⟩
        · rw [List.length_map]
          exact smallL (by omega)
        · rw [List.length_append, hol]
          rfl
        · rw [upd_same, List.map_append]
          rfl
      · rintro H6 ⟨s6, os, hol, ha6⟩
        have hD6 := s6 _ _ hD5
        refine ⟨_, hD6, ?_, same_mut (s5.trans s6) n3, as ++ [a], ?_, ?_, ?_, ?_⟩
        · rw [List.length_map]
          exact smallL (by omega)
        · rw [List.length_append, hl]
          rfl
        · rw [upd_same, List.map_append]
          rfl
        · intro b hb
          rcases List.mem_append.mp hb with hb | hb
          · obtain ⟨os', h1, h2⟩ := hR5 b hb
            refine ⟨os', ?_, h2⟩
            rw [upd_ne (by rintro rfl; exact hn5 hb)]
            exact s6 _ _ h1
          · rw [List.mem_singleton.mp hb]
            exact ⟨os, by rw [upd_ne nDa.symm]; exact ha6, by rw [hol, hvl]⟩
        · intro z
          rcases List.mem_append.mp z with z | z
          · exact hn5 z
          · exact nDa (List.mem_singleton.mp z)
    rintro H5 ⟨s5, as, hal, hD5, hR5, _⟩
    have hO5 := s5 _ _ hO4
    refine ⟨_, rfl, o, T.CC, dx, _, rfl, hO5, T.cC, T.nC_changes, (by show 2 < 1000; decide), ?_⟩
    have nO3 : o ≠ D3 := ne_of_none hO4 n3
    have ep := cF_mk D1 D2 D3
    have hk : Chg [o] H5 (upd H5 o (.ins T.CC dx (putF "changes" (.ref D3) (putF "dos" (.ref D2) (putF "undos" (.ref D1) []))))) := Chg.put hO5 rfl (by simp)
    refine qq _ D1 D2 D3 us dl as ((c4.same s5).trans hk) ⟨?_, ?_, ?_, ?_, ?_, ?_⟩ (by omega) (by omega)
    · rw [upd_same]
      exact congrArg (fun l => some (HO.ins T.CC dx l)) ep
    · rw [upd_ne nO1.symm]
      exact s5 _ _ hU4
    · rw [upd_ne nO2.symm]
      exact s5 _ _ hV4
    · rw [upd_ne nO3.symm]
      exact hD5
    · have e : dl.length = hc.length := by omega
      rw [e]
      refine hR5.keep fun a ha u hu => hk.keep a u hu ?_
      obtain ⟨os, h1, _⟩ := hR5 a ha
      simpa using (ne_of hO5 h1 (by intro z; cases z)).symm
    · omega
end
end Sg
namespace Sg
open PySem PySem.Spec PyProof.Rows L2
theorem rep1 (v : V) : ∀ n, (List.replicate n [v]).flatten = List.replicate n v
  | 0 => rfl
  | n + 1 => by
    rw [List.replicate_succ, List.flatten_cons, rep1 v n]
    rfl
/-- lists of lists of ints -/
def IRows (H : Hp) (as : List Addr) (n : Nat) : Prop := ∀ a ∈ as, ∃ os : List Int, H a = some (.lst (os.map V.int)) ∧ os.length = n
theorem IRows.keep {H H' : Hp} {as : List Addr} {n : Nat} (h : IRows H as n) (k : ∀ a ∈ as, ∀ o, H a = some o → H' a = some o) : IRows H' as n := fun a ha => by
  obtain ⟨os, h1, h2⟩ := h a ha
  exact ⟨os, k a ha _ h1, h2⟩
theorem IRows.snoc {H : Hp} {as : List Addr} {n : Nat} {c r : Addr} {o : HO} {os : List Int} (h : IRows H as n) (hc : H c = some (.lst (os.map V.int))) (hl : os.length = n) (hr : r ∉ as) (hrc : c ≠ r) : IRows (upd H r o) (as ++ [c]) n := by
  intro b hb
  rcases List.mem_append.mp hb with hb | hb
  · obtain ⟨os', h1, h2⟩ := h b hb
    exact ⟨os', by rw [upd_ne (by rintro rfl; exact hr hb)]; exact h1, h2⟩
  · rw [List.mem_singleton.mp hb]
    exact ⟨os, by rw [upd_ne hrc]; exact hc, hl⟩
theorem not_snoc {r c : Addr} {as : List Addr} (h : r ∉ as) (n : r ≠ c) : r ∉ as ++ [c] := fun z => by
  rcases List.mem_append.mp z with z | z
  · exact h z
  · exact n (List.mem_singleton.mp z)
section
variable {P : Program} {w : World} {K : PySem.W.Frag} {mg : Str → Option Value} {base : Heap}
def spSquare (C : Addr) : Sp := fun vs H Q _ => ∃ (s dx u d c : Addr) (us dl : List Int) (as : List Addr), vs = [.ref s] ∧ CostAt C H s dx u d c us dl as ∧ us.length ≤ 4 ∧ dl.length ≤ 4 ∧
  ∀ (H' : Hp) (r : Addr) (bs : List Addr), Same H H' → H r = none → H' r = some (.lst (bs.map V.ref)) → bs.length = us.length + dl.length → IRows H' bs (us.length + dl.length) → Q (.ref r) H'
theorem ok_square (T : Tx K mg) : FnOk P w K mg base CX0 1 T.square.f T.square.fd ["costs"] (spSquare T.CC) := by
  refine T.square.F.ok sc_square (fun vs H Q E h => ?_) (fun cdv A outer s H vs Q E hr h => ?_)
  · obtain ⟨s, dx, u, d, c, us, dl, as, rfl, _⟩ := h
    rfl
  · obtain ⟨o, dx, u, d, c, us, dl, as, rfl, hA, hul, hdl, q⟩ := h
    refine ⟨_, (pss_cons (ps_set (i := 1) sc_square.nd rfl (by first | exact Or.inl rfl | exact Or.inr rfl) (pe_op op_add (pe_op op_add pe_int (pe_callB (cr_sum rfl) (by rfl) T.z_sum (by decide +kernel) (pa_cons (pe_fld (pv 0) rfl) pa_nil))) (pe_callB (cr_sum rfl) (by rfl) T.z_sum (by decide +kernel) (pa_cons (pe_fld (pv 0) rfl) pa_nil))))
    (pss_cons (ps_set (i := 2) sc_square.nd rfl (by first | exact Or.inl rfl | exact Or.inr rfl) (pe_lst pa_nil))
    (pss_cons (ps_for PassesOwn.never rfl (pi_zip (by rfl) T.z_zip (pa_cons (pe_fld (pv 0) rfl) (pa_cons (pe_fld (pv 0) rfl) pa_nil))) (pg_tup rfl (pgs_cons (pg_name (i := 3) sc_square.nd rfl (by first | exact Or.inl rfl | exact Or.inr rfl)) (pgs_cons (pg_name (i := 4) sc_square.nd rfl (by first | exact Or.inl rfl | exact Or.inr rfl)) pgs_nil)))
        (pss_one (ps_expr (pe_bm PySem.F.plainAttrs_list PySem.F.slot_list_append PySem.F.type_list_append mt_append (pv 2) (pa_cons (pe_op op_cat (pe_lc (own := [("change", 5)]) (g := gName 5) (tt := tYes) rfl sc_square.nd (pi_list (pv 4)) (blkOk_by (own := [("change", 5)]) (N := n_square) (sc := defScope s_square) (by decide +kernel)) (fun _ _ _ _ _ => pg_name (i := 5) sc_square.nd rfl (by first | exact Or.inl rfl | exact Or.inr rfl)) (fun _ _ _ _ _ => pts_nil) (fun _ _ _ _ _ => (pe_ifExp (pt_cmpR op_isN (pv 5) pe_non (nomark _)) (pv 1) (pv 5)))) (pe_op op_rep (pe_lst (pa_cons (pv 3) pa_nil)) (pe_callB call_len_seq (by rfl) T.z_len PySem.boot_len (pa_cons (pe_fld (pv 0) rfl) pa_nil)))) pa_nil)))))
    (pss_cons (ps_for PassesOwn.never rfl (pi_list (pe_fld (pv 0) rfl)) (pg_name (i := 6) sc_square.nd rfl (by first | exact Or.inl rfl | exact Or.inr rfl))
        (pss_one (ps_expr (pe_bm PySem.F.plainAttrs_list PySem.F.slot_list_append PySem.F.type_list_append mt_append (pv 2) (pa_cons (pe_op op_cat (pe_callTy call_list_of (by rfl) T.z_list (by decide +kernel) (pa_cons (pe_fld (pv 0) rfl) pa_nil)) (pe_op op_rep (pe_lst (pa_cons pe_int pa_nil)) (pe_callB call_len_seq (by rfl) T.z_len PySem.boot_len (pa_cons (pe_fld (pv 0) rfl) pa_nil)))) pa_nil)))))
    (pss_one (ps_ret (pv 2))))))), ?_⟩
    have fU : ∀ H1, Same H H1 → H1 u = some (.lst (us.map V.int)) := fun H1 s1 => s1 _ _ hA.hU
    refine ⟨_, rfl, o, T.CC, dx, _, _, rfl, hA.hC, T.cC, T.nC_undos, cF_undos _ _ _, u, us, rfl, SqL.of hA.hU, _, _, rfl, rfl, _, rfl, o, T.CC, dx, _, _, rfl, hA.hC, T.cC, T.nC_dos, cF_dos _ _ _, d, dl, rfl, SqL.of hA.hD, _, _, rfl, rfl, ?_⟩
    refine ⟨Nat.zero_le _, fun r nr => ?_⟩
    have s0 : Same H (upd H r (.lst [])) := same_new nr
    refine ⟨_, rfl, o, T.CC, dx, _, _, rfl, s0 _ _ hA.hC, T.cC, T.nC_undos, cF_undos _ _ _, _, rfl, o, T.CC, dx, _, _, rfl, s0 _ _ hA.hC, T.cC, T.nC_changes, cF_changes _ _ _, u, c, us.map V.int, as.map V.ref, rfl, SqL.of (s0 _ _ hA.hU), SqL.of (s0 _ _ hA.hR), ?_⟩
    refine RZ.for_zipL (K := K) (by rw [List.length_map, List.length_map, hA.len]) (fun i σ H3 => ∃ x3 x4 : Option V, σ = [some (.ref o), some (.int (1 + us.sum + dl.sum)), some (.ref r), x3, x4, none, none] ∧ Same H H3 ∧ ∃ bs : List Addr, bs.length = i ∧ H3 r = some (.lst (bs.map V.ref)) ∧ IRows H3 bs (us.length + dl.length) ∧ r ∉ bs)
      ⟨none, none, rfl, s0, [], rfl, upd_same, (fun a ha => by cases ha), by simp⟩ (fun i σ H3 ⟨_, _, _, s3, _⟩ => ⟨SqL.of (s3 _ _ hA.hU), SqL.of (s3 _ _ hA.hR)⟩) ?_ ?_
    · rintro i x y t σ H3 hx hy ⟨x3, x4, rfl, s3, bs, hbl, hr3, hR3, hn3⟩ nt
      have il := (List.getElem?_eq_some_iff.mp hx).1
      rw [List.length_map] at il
      rw [List.getElem?_map] at hx hy
      obtain ⟨xi, _, rfl⟩ := Option.map_eq_some_iff.mp hx
      obtain ⟨ai, hai, rfl⟩ := Option.map_eq_some_iff.mp hy
      obtain ⟨os, hos, hol⟩ := hA.rows ai (List.mem_of_getElem? hai)
      refine ⟨t, _, rfl, SqT.of upd_same, rfl, _, _, rfl, _, _, rfl, rfl, ?_⟩
      have s4 : Same H3 (upd H3 t (.tup [.int xi, .ref ai])) := same_new nt
      generalize upd H3 t (.tup [.int xi, .ref ai]) = H4 at s4
      have nr4 : r ≠ t := ne_of_none hr3 nt
      refine ⟨_, rfl, .inl ⟨rfl, _, SqL.of (s4 _ _ hr3)⟩, ?_⟩
      have hos4 := s4 _ _ (s3 _ _ hos)
      refine ⟨_, rfl, ai, rfl, ⟨_, SqL.of hos4⟩, fun D nD => ?_⟩
      refine lc_list (K := K) (a := ai) (xs := os.map oV) (fun j H5 => Same H4 H5 ∧ ∃ ns : List Int, ns.length = j ∧ H5 D = some (.lst (ns.map V.int))) ⟨same_new nD, [], rfl, upd_same⟩ (fun j H5 _ g => SqL.of (g.1 _ _ hos4)) ?_ ?_
      · rintro j y H5 hj ⟨s5, ns, hl, hD5⟩
        refine ⟨rfl, ?_⟩
        have jl := (List.getElem?_eq_some_iff.mp hj).1
        rw [List.length_map] at jl
        rw [List.getElem?_map] at hj
        obtain ⟨oi, _, rfl⟩ := Option.map_eq_some_iff.mp hj
        have fin : ∀ v : Int, ∃ acc, H5 D = some (.lst acc) ∧ acc.length < sizeLine ∧ (Same H4 (upd H5 D (.lst (acc ++ [.int v]))) ∧ ∃ ns : List Int, ns.length = j + 1 ∧ upd H5 D (.lst (acc ++ [.int v])) D = some (.lst (ns.map V.int))) := fun v => by
          refine ⟨_, hD5, ?_, same_mut s5 nD, ns ++ [v], ?_, ?_⟩
          · rw [List.length_map]
            exact smallL (by omega)
          · rw [List.length_append, hl]
            rfl
          · rw [upd_same, List.map_append]
            rfl
        cases oi with
        | none => exact ⟨_, rfl, rfl, _, rfl, iteT ⟨_, rfl, fin _⟩⟩
        | some v => exact ⟨_, rfl, rfl, _, rfl, iteF ⟨_, rfl, fin v⟩⟩
      · rintro H5 ⟨s5, ns, hl, hD5⟩
        rw [List.length_map] at hl
        refine ⟨_, rfl, (by show 1 ≤ sizeLine; decide), fun l nl => ?_⟩
        have s6 : Same H5 (upd H5 l (.lst [.int xi])) := same_new nl
        have hl6 : upd H5 l (.lst [.int xi]) l = some (.lst [.int xi]) := upd_same
        generalize upd H5 l (.lst [.int xi]) = H6 at s6 hl6
        have s36 := (s4.trans s5).trans s6
        have s06 := s3.trans s36
        refine ⟨_, rfl, o, T.CC, dx, _, _, rfl, s06 _ _ hA.hC, T.cC, T.nC_undos, cF_undos _ _ _, u, _, rfl, .inl (SqL.of (fU H6 s06)), l, _, _, rfl, rfl, hl6, by rw [List.length_map]; omega, by rw [List.length_map]; omega, ?_, fun m nm => ?_⟩
        · rw [List.length_map]
          show 1 * us.length ≤ sizeLine
          exact small (by omega)
        have em : (((us.map V.int).length : Int)).toNat = us.length := by rw [List.length_map]; rfl
        rw [em, rep1]
        have s7 : Same H6 (upd H6 m (.lst (List.replicate us.length (.int xi)))) := same_new nm
        have hm7 : upd H6 m (.lst (List.replicate us.length (.int xi))) m = some (.lst (List.replicate us.length (.int xi))) := upd_same
        generalize upd H6 m (.lst (List.replicate us.length (.int xi))) = H7 at s7 hm7
        refine ⟨D, m, _, _, rfl, rfl, s7 _ _ (s6 _ _ hD5), hm7, ?_, fun e ne => ?_⟩
        · rw [List.length_map, List.length_replicate]
          exact small (by omega)
        have s8 : Same H7 (upd H7 e (.lst (ns.map V.int ++ List.replicate us.length (.int xi)))) := same_new ne
        have he8 : upd H7 e (.lst (ns.map V.int ++ List.replicate us.length (.int xi))) e = some (.lst ((ns ++ List.replicate us.length xi).map V.int)) := by
          rw [upd_same, List.map_append, List.map_replicate]
        have ner : r ≠ e := ne_of_none (s7 _ _ (s36 _ _ hr3)) ne
        generalize upd H7 e (.lst (ns.map V.int ++ List.replicate us.length (.int xi))) = H8 at s8 he8
        have s38 := (s36.trans s7).trans s8
        refine ⟨r, _, _, rfl, rfl, s38 _ _ hr3, ?_, ?_⟩
        · rw [List.length_map]
          exact smallL (by omega)
        · refine ⟨_, _, rfl, same_mut (s3.trans s38) nr, bs ++ [e], ?_, ?_, ?_, not_snoc hn3 ner⟩
          · rw [List.length_append, hbl]
            rfl
          · rw [upd_same, List.map_append]
            rfl
          · refine (hR3.keep fun a ha o ho => s38 _ _ ho).snoc he8 ?_ hn3 ner.symm
            rw [List.length_append, List.length_replicate]
            omega
    · rintro σ H3 ⟨x3, x4, rfl, s3, bs, hbl, hr3, hR3, hn3⟩
      rw [List.length_map] at hbl
      have hd3 := s3 _ _ hA.hD
      refine ⟨_, rfl, o, T.CC, dx, _, _, rfl, s3 _ _ hA.hC, T.cC, T.nC_dos, cF_dos _ _ _, d, rfl, ⟨_, SqL.of hd3⟩, ?_⟩
      refine for_list (K := K) (a := d) (xs := dl.map V.int) (fun i σ H4 => ∃ x6 : Option V, σ = [some (.ref o), some (.int (1 + us.sum + dl.sum)), some (.ref r), x3, x4, none, x6] ∧ Same H H4 ∧ ∃ bs : List Addr, bs.length = us.length + i ∧ H4 r = some (.lst (bs.map V.ref)) ∧ IRows H4 bs (us.length + dl.length) ∧ r ∉ bs)
        ⟨none, rfl, s3, bs, hbl, hr3, hR3, hn3⟩ (fun i σ H4 _ ⟨_, _, s4, _⟩ => SqL.of (s4 _ _ hA.hD)) ?_ ?_
      · rintro i x σ H4 hi ⟨x6, rfl, s4, cs, hcl, hr4, hR4, hn4⟩
        have il := (List.getElem?_eq_some_iff.mp hi).1
        rw [List.length_map] at il
        refine ⟨_, rfl, .inl ⟨rfl, _, SqL.of hr4⟩, ?_⟩
        refine ⟨_, rfl, o, T.CC, dx, _, _, rfl, s4 _ _ hA.hC, T.cC, T.nC_dos, cF_dos _ _ _, d, _, rfl, .inl (SqL.of (s4 _ _ hA.hD)), fun D nD => ?_⟩
        have s5 : Same H4 (upd H4 D (.lst (dl.map V.int))) := same_new nD
        have hD5 : upd H4 D (.lst (dl.map V.int)) D = some (.lst (dl.map V.int)) := upd_same
        generalize upd H4 D (.lst (dl.map V.int)) = H5 at s5 hD5
        refine ⟨(by show 1 ≤ sizeLine; decide), fun l nl => ?_⟩
        have s6 : Same H5 (upd H5 l (.lst [.int 0])) := same_new nl
        have hl6 : upd H5 l (.lst [.int 0]) l = some (.lst [.int 0]) := upd_same
        generalize upd H5 l (.lst [.int 0]) = H6 at s6 hl6
        have s46 := s5.trans s6
        have s06 := s4.trans s46
        refine ⟨_, rfl, o, T.CC, dx, _, _, rfl, s06 _ _ hA.hC, T.cC, T.nC_undos, cF_undos _ _ _, u, _, rfl, .inl (SqL.of (fU H6 s06)), l, _, _, rfl, rfl, hl6, by rw [List.length_map]; omega, by rw [List.length_map]; omega, ?_, fun m nm => ?_⟩
        · rw [List.length_map]
          show 1 * us.length ≤ sizeLine
          exact small (by omega)
        have em : (((us.map V.int).length : Int)).toNat = us.length := by rw [List.length_map]; rfl
        rw [em, rep1]
        have s7 : Same H6 (upd H6 m (.lst (List.replicate us.length (.int 0)))) := same_new nm
        have hm7 : upd H6 m (.lst (List.replicate us.length (.int 0))) m = some (.lst (List.replicate us.length (.int 0))) := upd_same
        generalize upd H6 m (.lst (List.replicate us.length (.int 0))) = H7 at s7 hm7
        refine ⟨D, m, _, _, rfl, rfl, s7 _ _ (s6 _ _ hD5), hm7, ?_, fun e ne => ?_⟩
        · rw [List.length_map, List.length_replicate]
          exact small (by omega)
        have s8 : Same H7 (upd H7 e (.lst (dl.map V.int ++ List.replicate us.length (.int 0)))) := same_new ne
        have he8 : upd H7 e (.lst (dl.map V.int ++ List.replicate us.length (.int 0))) e = some (.lst ((dl ++ List.replicate us.length 0).map V.int)) := by
          rw [upd_same, List.map_append, List.map_replicate]
        have ner : r ≠ e := ne_of_none (s7 _ _ (s46 _ _ hr4)) ne
        generalize upd H7 e (.lst (dl.map V.int ++ List.replicate us.length (.int 0))) = H8 at s8 he8
        have s48 := (s46.trans s7).trans s8
        refine ⟨r, _, _, rfl, rfl, s48 _ _ hr4, ?_, ?_⟩
        · rw [List.length_map]
          exact smallL (by omega)
        · refine ⟨_, rfl, same_mut (s4.trans s48) nr, cs ++ [e], ?_, ?_, ?_, not_snoc hn4 ner⟩
          · rw [List.length_append, hcl]
            rfl
          · rw [upd_same, List.map_append]
            rfl
          · refine (hR4.keep fun a ha o ho => s48 _ _ ho).snoc he8 ?_ hn4 ner.symm
            rw [List.length_append, List.length_replicate]
            omega
      · rintro σ H4 ⟨x6, rfl, s4, cs, hcl, hr4, hR4, _⟩
        rw [List.length_map] at hcl
        exact ⟨_, rfl, q H4 r cs s4 nr hr4 hcl hR4⟩
end
end Sg
namespace Sg
open PySem PySem.Spec PyProof.Rows L2
/-! ### rows on columns -/
structure Full (os : List (Option Nat)) (row : Nat) : Prop where
  ex : ∀ r, r < row → ∃ c : Nat, os[c]? = some (some r)
  lt : ∀ (c r : Nat), os[c]? = some (some r) → r < row
  inj : ∀ (c c' r : Nat), os[c]? = some (some r) → os[c']? = some (some r) → c = c'
structure Hole (os : List (Option Nat)) (d row : Nat) : Prop where
  ex : ∀ r, r < row → ∃ c : Nat, c ≠ d ∧ os[c]? = some (some r)
  lt : ∀ (c r : Nat), c ≠ d → os[c]? = some (some r) → r < row
  inj : ∀ (c c' r : Nat), c ≠ d → c' ≠ d → os[c]? = some (some r) → os[c']? = some (some r) → c = c'
theorem set_hit {α : Type} {os : List α} {d : Nat} {x : α} (h : d < os.length) : (os.set d x)[d]? = some x := by
  rw [List.getElem?_set, if_pos rfl, if_pos h]
theorem set_miss {α : Type} {os : List α} {d c : Nat} {x : α} (h : c ≠ d) : (os.set d x)[c]? = os[c]? := by
  rw [List.getElem?_set, if_neg (Ne.symm h)]
section
variable {os : List (Option Nat)} {d d' row r n i : Nat} {cs rw : List Nat} {kvs : List (Key × V)}
theorem Full.hole (h : Full os row) (hd : os[d]? = some none) : Hole os d row := by
  refine ⟨fun r hr => ?_, fun c r _ e => h.lt c r e, fun c c' r _ _ e e' => h.inj c c' r e e'⟩
  obtain ⟨c, hc⟩ := h.ex r hr
  refine ⟨c, ?_, hc⟩
  rintro rfl
  rw [hd] at hc
  cases hc
theorem Hole.fill (h : Hole os d row) (hd : d < os.length) : Full (os.set d (some row)) (row + 1) := by
  refine ⟨fun r hr => ?_, fun c r e => ?_, fun c c' r e e' => ?_⟩
  · by_cases hr' : r = row
    · subst hr'
      exact ⟨d, set_hit hd⟩
    · obtain ⟨c, hc, e⟩ := h.ex r (by omega)
      exact ⟨c, by rw [set_miss hc]; exact e⟩
  · by_cases hc : c = d
    · subst hc
      rw [set_hit hd] at e
      cases e
      omega
    · rw [set_miss hc] at e
      have := h.lt c r hc e
      omega
  · by_cases hc : c = d
    · by_cases hc' : c' = d
      · rw [hc, hc']
      · subst hc
        rw [set_hit hd] at e
        cases e
        rw [set_miss hc'] at e'
        exact absurd (h.lt c' row hc' e') (Nat.lt_irrefl _)
    · by_cases hc' : c' = d
      · subst hc'
        rw [set_hit hd] at e'
        cases e'
        rw [set_miss hc] at e
        exact absurd (h.lt c row hc e) (Nat.lt_irrefl _)
      · rw [set_miss hc] at e
        rw [set_miss hc'] at e'
        exact h.inj c c' r hc hc' e e'
theorem Hole.move (h : Hole os d row) (hd : d < os.length) (hn : d' ≠ d) (e : os[d']? = some (some r)) : Hole (os.set d (some r)) d' row := by
  have hr := h.lt d' r hn e
  refine ⟨fun q hq => ?_, fun c q hc e' => ?_, fun c c' q hc hc' e1 e2 => ?_⟩
  · by_cases hqr : q = r
    · subst hqr
      exact ⟨d, hn.symm, set_hit hd⟩
    · obtain ⟨c, hc, ec⟩ := h.ex q hq
      refine ⟨c, ?_, by rw [set_miss hc]; exact ec⟩
      rintro rfl
      rw [e] at ec
      cases ec
      exact hqr rfl
  · by_cases hcd : c = d
    · subst hcd
      rw [set_hit hd] at e'
      cases e'
      exact hr
    · rw [set_miss hcd] at e'
      exact h.lt c q hcd e'
  · by_cases h1 : c = d
    · by_cases h2 : c' = d
      · rw [h1, h2]
      · subst h1
        rw [set_hit hd] at e1
        cases e1
        rw [set_miss h2] at e2
        exact absurd (h.inj c' d' r h2 hn e2 e) hc'
    · by_cases h2 : c' = d
      · subst h2
        rw [set_hit hd] at e2
        cases e2
        rw [set_miss h1] at e1
        exact absurd (h.inj c d' r h1 hn e1 e) hc
      · rw [set_miss h1] at e1
        rw [set_miss h2] at e2
        exact h.inj c c' q h1 h2 e1 e2
theorem nd_at {l : List Nat} (h : l.Nodup) : ∀ {a b x : Nat}, l[a]? = some x → l[b]? = some x → a = b := by
  have key : ∀ {a b x : Nat}, a < b → l[a]? = some x → l[b]? = some x → False := by
    intro a b x hab ha hb
    obtain ⟨h1, e1⟩ := List.getElem?_eq_some_iff.mp ha
    obtain ⟨h2, e2⟩ := List.getElem?_eq_some_iff.mp hb
    exact List.pairwise_iff_getElem.mp h a b h1 h2 hab (e1.trans e2.symm)
  intro a b x ha hb
  rcases Nat.lt_trichotomy a b with h' | h' | h'
  · exact (key h' ha hb).elim
  · exact h'
  · exact (key h' hb ha).elim
theorem nd_le : ∀ (n : Nat) (l : List Nat), l.Nodup → (∀ x ∈ l, x < n) → l.length ≤ n
  | 0, [], _, _ => Nat.le_refl _
  | 0, x :: l, _, h => absurd (h x List.mem_cons_self) (Nat.not_lt_zero _)
  | n + 1, l, hn, h => by
    have h1 := nd_le n (l.erase n) (hn.sublist List.erase_sublist) fun x hx => by
      have h2 := h x (List.mem_of_mem_erase hx)
      have h3 : x ≠ n := by
        rintro rfl
        exact hn.not_mem_erase hx
      omega
    by_cases hm : n ∈ l
    · have := List.length_erase_of_mem hm
      have := List.length_pos_of_mem hm
      omega
    · rw [List.erase_of_not_mem hm] at h1
      omega
theorem Full.free (h : Full os row) (hl : row < os.length) : ∃ c : Nat, os[c]? = some none := by
  refine Classical.byContradiction fun no => ?_
  have all : ∀ c, c < os.length → ∃ r, os[c]? = some (some r) := fun c hc => by
    cases e : os[c] with
    | none => exact absurd ⟨c, by rw [List.getElem?_eq_getElem hc, e]⟩ no
    | some r => exact ⟨r, by rw [List.getElem?_eq_getElem hc, e]⟩
  let f : Nat → Nat := fun c => match os[c]? with
    | some (some r) => r
    | _ => 0
  have hf : ∀ c, c < os.length → os[c]? = some (some (f c)) := fun c hc => by
    obtain ⟨r, e⟩ := all c hc
    have : f c = r := by
      show (match os[c]? with
        | some (some r) => r
        | _ => 0) = r
      rw [e]
    rw [this, e]
  have nd : ((List.range os.length).map f).Nodup := by
    refine List.pairwise_map.mpr (List.Pairwise.imp_of_mem (R := fun a b => a ≠ b) (fun {a b} ha hb hab e => hab ?_) List.nodup_range)
    have ea := hf a (List.mem_range.mp ha)
    have eb := hf b (List.mem_range.mp hb)
    rw [e] at ea
    exact h.inj a b _ ea eb
  have := nd_le row _ nd fun x hx => by
    obtain ⟨c, hc, rfl⟩ := List.mem_map.mp hx
    exact h.lt c _ (hf c (List.mem_range.mp hc))
  rw [List.length_map, List.length_range] at this
  omega
/-! ### the way back along a tree of columns -/
structure Way (n row : Nat) (cs rw : List Nat) (kvs : List (Key × V)) : Prop where
  lt : ∀ c ∈ cs, c < n
  nd : cs.Nodup
  rnd : rw.Nodup
  r0 : rw[0]? = some row
  bef : ∀ (t c : Nat), cs[t]? = some c → ∃ b r : Nat, b ≤ t ∧ rw[b]? = some r ∧ valV kvs (.inl (c : Int)) = some (.int r)
structure Path (os : List (Option Nat)) (row : Nat) (cs rw : List Nat) (i : Nat) : Prop where
  hole : ∀ d, cs[i]? = some d → Hole os d row
  hat : ∀ t c, t ≤ i → cs[t]? = some c → os[c]? = some (rw[t + 1]?)
theorem Path.step (W : Way os.length row cs rw kvs) (p : Path os row cs rw i) (hi : cs[i]? = some d) : ∃ r : Nat, valV kvs (.inl (d : Int)) = some (.int r) ∧
    ((r = row ∧ (∀ c : Nat, os[c]? ≠ some (some row)) ∧ Full (os.set d (some row)) (row + 1)) ∨
      ∃ t d', t < i ∧ cs[t]? = some d' ∧ os[d']? = some (some r) ∧ (∀ c : Nat, os[c]? = some (some r) → c = d') ∧ Path (os.set d (some r)) row cs rw t) := by
  obtain ⟨b, r, hb, hr, hv⟩ := W.bef i d hi
  have hdl : d < os.length := W.lt d (List.mem_of_getElem? hi)
  have ho := p.hole d hi
  have hd := p.hat i d (Nat.le_refl _) hi
  have dno : ∀ c, os[c]? = some (some r) → c ≠ d := by
    rintro c hc rfl
    rw [hd] at hc
    have e := W.rnd |> fun nd => nd_at nd (Option.some.inj hc) hr
    omega
  refine ⟨r, hv, ?_⟩
  cases b with
  | zero =>
    have e : r = row := by
      rw [W.r0] at hr
      exact (Option.some.inj hr).symm
    subst e
    refine .inl ⟨rfl, fun c hc => ?_, ho.fill hdl⟩
    exact absurd (ho.lt c r (dno c hc) hc) (Nat.lt_irrefl _)
  | succ t =>
    have hil : i < cs.length := (List.getElem?_eq_some_iff.mp hi).1
    have htl : t < cs.length := by omega
    have ht : cs[t]? = some cs[t] := List.getElem?_eq_getElem htl
    have e1 := p.hat t _ (by omega) ht
    rw [hr] at e1
    have hn := dno _ e1
    refine .inr ⟨t, _, by omega, ht, e1, fun c hc => ho.inj c _ r (dno c hc) hn hc e1, fun d' hd' => ?_, fun t' c ht' hc => ?_⟩
    · rw [ht] at hd'
      cases hd'
      exact ho.move hdl hn e1
    · have hne : c ≠ d := by
        rintro rfl
        have := nd_at W.nd hc hi
        omega
      rw [set_miss hne]
      exact p.hat t' c (by omega) hc
/-! ### the tree, grown -/
structure Tree (os : List (Option Nat)) (row : Nat) (cs rw : List Nat) (kvs : List (Key × V)) : Prop where
  full : Full os row
  len : rw.length = cs.length + 1
  lt : ∀ c ∈ cs, c < os.length
  nd : cs.Nodup
  rnd : rw.Nodup
  r0 : rw[0]? = some row
  hat : ∀ t c, cs[t]? = some c → os[c]? = some (rw[t + 1]?)
  rlt : ∀ r ∈ rw, r ≤ row
  bef : ∀ (t c : Nat), cs[t]? = some c → ∃ b r : Nat, b ≤ t ∧ rw[b]? = some r ∧ valV kvs (.inl (c : Int)) = some (.int r)
theorem Tree.new (h : Full os row) : Tree os row [] [row] [] := by
  refine ⟨h, rfl, ?_, List.nodup_nil, List.nodup_cons.mpr ⟨by simp, List.nodup_nil⟩, rfl, ?_, ?_, ?_⟩
  · intro c hc
    cases hc
  · intro t c e
    simp at e
  · intro r hr
    rw [List.mem_singleton.mp hr]
    exact Nat.le_refl _
  · intro t c e
    simp at e
theorem snoc_at {l : List Nat} {x t c : Nat} (h : (l ++ [x])[t]? = some c) : (t < l.length ∧ l[t]? = some c) ∨ (t = l.length ∧ c = x) := by
  by_cases ht : t < l.length
  · rw [List.getElem?_append_left ht] at h
    exact .inl ⟨ht, h⟩
  · rw [List.getElem?_append_right (by omega)] at h
    have hl := (List.getElem?_eq_some_iff.mp h).1
    rw [List.length_singleton] at hl
    have e : t = l.length := by omega
    subst e
    rw [Nat.sub_self] at h
    exact .inr ⟨rfl, (Option.some.inj h).symm⟩
theorem bef_put {oth : Nat} (T : Tree os row cs rw kvs) (hc : d ∉ cs) (ho : oth ∈ rw) : ∀ (t c : Nat), (cs ++ [d])[t]? = some c → ∃ b r : Nat, b ≤ t ∧ rw[b]? = some r ∧ valV (putK kvs (.inl (d : Int)) (.int oth)) (.inl (c : Int)) = some (.int r) := by
  intro t c h
  rw [valV_put]
  rcases snoc_at h with ⟨_, h⟩ | ⟨rfl, rfl⟩
  · have hne : ¬ (Sum.inl (c : Int) : Key) = .inl (d : Int) := fun e => hc (by
      have : c = d := by
        have := Sum.inl.inj e
        omega
      rw [← this]
      exact List.mem_of_getElem? h)
    rw [if_neg hne]
    exact T.bef t c h
  · rw [if_pos rfl]
    obtain ⟨b, hb⟩ := List.mem_iff_getElem?.mp ho
    have := (List.getElem?_eq_some_iff.mp hb).1
    have := T.len
    exact ⟨b, oth, by omega, hb, rfl⟩
theorem nd_snoc {l : List Nat} {x : Nat} (h : l.Nodup) (hx : x ∉ l) : (l ++ [x]).Nodup := by
  refine List.nodup_append.mpr ⟨h, List.nodup_cons.mpr ⟨by simp, List.nodup_nil⟩, fun a ha b hb e => hx ?_⟩
  rw [← List.mem_singleton.mp hb, ← e]
  exact ha
theorem Tree.grow {oth : Nat} (T : Tree os row cs rw kvs) (hc : d ∉ cs) (hd : d < os.length) (ho : oth ∈ rw) (e : os[d]? = some (some r)) : Tree os row (cs ++ [d]) (rw ++ [r]) (putK kvs (.inl (d : Int)) (.int oth)) := by
  have hrl := T.full.lt d r e
  have hlen := T.len
  refine ⟨T.full, by rw [List.length_append, List.length_append, hlen]; rfl, fun c hc' => ?_, nd_snoc T.nd hc, nd_snoc T.rnd fun hr => ?_, ?_, fun t c h => ?_, fun q hq => ?_, fun t c h => ?_⟩
  · rcases List.mem_append.mp hc' with h | h
    · exact T.lt c h
    · rw [List.mem_singleton.mp h]; exact hd
  · obtain ⟨b, hb⟩ := List.mem_iff_getElem?.mp hr
    cases b with
    | zero =>
      rw [T.r0] at hb
      cases hb
      exact Nat.lt_irrefl _ hrl
    | succ t =>
      have htl : t < cs.length := by
        have := (List.getElem?_eq_some_iff.mp hb).1
        omega
      have h1 := T.hat t cs[t] (List.getElem?_eq_getElem htl)
      rw [hb] at h1
      have := T.full.inj _ _ r e h1
      exact hc (this ▸ List.getElem_mem htl)
  · rw [List.getElem?_append_left (by omega)]
    exact T.r0
  · rcases snoc_at h with ⟨ht, h⟩ | ⟨rfl, rfl⟩
    · rw [List.getElem?_append_left (by omega)]
      exact T.hat t c h
    · rw [List.getElem?_append_right (by omega), hlen, Nat.sub_self]
      exact e
  · rcases List.mem_append.mp hq with h | h
    · exact T.rlt q h
    · rw [List.mem_singleton.mp h]; omega
  · obtain ⟨b, q, h1, h2, h3⟩ := bef_put T hc ho t c h
    refine ⟨b, q, h1, ?_, h3⟩
    rw [List.getElem?_append_left (List.getElem?_eq_some_iff.mp h2).1]
    exact h2
theorem Tree.way {oth : Nat} (T : Tree os row cs rw kvs) (hc : d ∉ cs) (hd : d < os.length) (ho : oth ∈ rw) (e : os[d]? = some none) : Way os.length row (cs ++ [d]) rw (putK kvs (.inl (d : Int)) (.int oth)) ∧ Path os row (cs ++ [d]) rw cs.length := by
  refine ⟨⟨fun c hc' => ?_, nd_snoc T.nd hc, T.rnd, T.r0, bef_put T hc ho⟩, fun c h => ?_, fun t c ht h => ?_⟩
  · rcases List.mem_append.mp hc' with h | h
    · exact T.lt c h
    · rw [List.mem_singleton.mp h]; exact hd
  · rcases snoc_at h with ⟨ht, _⟩ | ⟨_, rfl⟩
    · exact absurd ht (Nat.lt_irrefl _)
    · exact T.full.hole e
  · rcases snoc_at h with ⟨ht, h⟩ | ⟨rfl, rfl⟩
    · exact T.hat t c h
    · rw [e, List.getElem?_eq_none (by rw [T.len]; exact Nat.le_refl _)]
theorem Tree.small (T : Tree os row cs rw kvs) : cs.length ≤ os.length := nd_le _ _ T.nd T.lt
/-- a free column is not in the tree -/
theorem Tree.out (T : Tree os row cs rw kvs) (hr : row < os.length) : ∃ c, c < os.length ∧ c ∉ cs := by
  obtain ⟨c, hc⟩ := T.full.free hr
  refine ⟨c, (List.getElem?_eq_some_iff.mp hc).1, fun hm => ?_⟩
  obtain ⟨t, ht⟩ := List.mem_iff_getElem?.mp hm
  have h1 := T.hat t c ht
  have h2 : t < cs.length := (List.getElem?_eq_some_iff.mp ht).1
  rw [hc, List.getElem?_eq_getElem (by have := T.len; omega)] at h1
  cases h1
end
end Sg
namespace Sg
open PySem PySem.Spec PyProof.Rows L2
def nV : Option Nat → V
  | none => .non
  | some r => .int (r : Nat)
/-! attributes of an assignment -/
def aF (r : Addr) (n : Nat) (l t o : Addr) : List (Str × V) := [("rows", .ref r), ("size", .int (n : Nat)), ("lefts", .ref l), ("rights", .ref t), ("row_of", .ref o)]
section
variable {r l t o : Addr} {n : Nat} {a b c d v : V}
theorem aF_rows : (aF r n l t o).lookup ("rows" : Str) = some (.ref r) := lk_hit
theorem aF_size : (aF r n l t o).lookup ("size" : Str) = some (.int (n : Nat)) := (lk_miss (by decide +kernel)).trans lk_hit
theorem aF_lefts : (aF r n l t o).lookup ("lefts" : Str) = some (.ref l) := (lk_miss (by decide +kernel)).trans ((lk_miss (by decide +kernel)).trans lk_hit)
theorem aF_rights : (aF r n l t o).lookup ("rights" : Str) = some (.ref t) := (lk_miss (by decide +kernel)).trans ((lk_miss (by decide +kernel)).trans ((lk_miss (by decide +kernel)).trans lk_hit))
theorem aF_row_of : (aF r n l t o).lookup ("row_of" : Str) = some (.ref o) := (lk_miss (by decide +kernel)).trans ((lk_miss (by decide +kernel)).trans ((lk_miss (by decide +kernel)).trans ((lk_miss (by decide +kernel)).trans lk_hit)))
theorem aP2 : putF "size" v [("rows", a)] = ([("rows", a), ("size", v)] : List (Str × V)) := by
  rw [pf_miss (by decide +kernel)]
  rfl
theorem aP3 : putF "lefts" v [("rows", a), ("size", b)] = ([("rows", a), ("size", b), ("lefts", v)] : List (Str × V)) := by
  rw [pf_miss (by decide +kernel), pf_miss (by decide +kernel)]
  rfl
theorem aP4 : putF "rights" v [("rows", a), ("size", b), ("lefts", c)] = ([("rows", a), ("size", b), ("lefts", c), ("rights", v)] : List (Str × V)) := by
  rw [pf_miss (by decide +kernel), pf_miss (by decide +kernel), pf_miss (by decide +kernel)]
  rfl
theorem aP5 : putF "row_of" v [("rows", a), ("size", b), ("lefts", c), ("rights", d)] = ([("rows", a), ("size", b), ("lefts", c), ("rights", d), ("row_of", v)] : List (Str × V)) := by
  rw [pf_miss (by decide +kernel), pf_miss (by decide +kernel), pf_miss (by decide +kernel), pf_miss (by decide +kernel)]
  rfl
theorem aS (w : List (Str × V)) : (("rows", a) :: ("size", b) :: w : List (Str × V)).lookup ("size" : Str) = some b := (lk_miss (by decide +kernel)).trans lk_hit
end
structure Am where
  s : Addr
  dx : Addr
  rs : Addr
  lf : Addr
  rt : Addr
  ro : Addr
  as : List Addr
  n : Nat
structure Apart (m : Am) : Prop where
  lt : m.lf ≠ m.rt
  lo : m.lf ≠ m.ro
  to : m.rt ≠ m.ro
  sl : m.rs ≠ m.lf
  st : m.rs ≠ m.rt
  so : m.rs ≠ m.ro
  al : m.lf ∉ m.as
  at' : m.rt ∉ m.as
  ao : m.ro ∉ m.as
structure AsAt (C : Addr) (H : Hp) (m : Am) (ls rl : List Int) (os : List (Option Nat)) : Prop where
  hA : H m.s = some (.ins C m.dx (aF m.rs m.n m.lf m.rt m.ro))
  hR : H m.rs = some (.lst (m.as.map V.ref))
  hL : H m.lf = some (.lst (ls.map V.int))
  hT : H m.rt = some (.lst (rl.map V.int))
  hO : H m.ro = some (.lst (os.map nV))
  rows : IRows H m.as m.n
  al : m.as.length = m.n
  ll : ls.length = m.n
  tl : rl.length = m.n
  ol : os.length = m.n
  ap : Apart m
/-- an address of none of the parts -/
structure Aw (m : Am) (p : Addr) : Prop where
  s : m.s ≠ p
  rs : m.rs ≠ p
  lf : m.lf ≠ p
  rt : m.rt ≠ p
  ro : m.ro ≠ p
  as : p ∉ m.as
section
variable {C : Addr} {H H' : Hp} {m : Am} {ls rl : List Int} {os : List (Option Nat)} {p : Addr} {o : HO}
theorem AsAt.aw (h : AsAt C H m ls rl os) (n : H p = none) : Aw m p := by
  refine ⟨ne_of_none h.hA n, ne_of_none h.hR n, ne_of_none h.hL n, ne_of_none h.hT n, ne_of_none h.hO n, fun z => ?_⟩
  obtain ⟨os', e, _⟩ := h.rows p z
  rw [n] at e
  cases e
theorem AsAt.same (h : AsAt C H m ls rl os) (s : Same H H') : AsAt C H' m ls rl os :=
  ⟨s _ _ h.hA, s _ _ h.hR, s _ _ h.hL, s _ _ h.hT, s _ _ h.hO, h.rows.keep fun a _ o e => s _ _ e, h.al, h.ll, h.tl, h.ol, h.ap⟩
theorem AsAt.upd (h : AsAt C H m ls rl os) (w : Aw m p) : AsAt C (upd H p o) m ls rl os :=
  ⟨by rw [upd_ne w.s]; exact h.hA, by rw [upd_ne w.rs]; exact h.hR, by rw [upd_ne w.lf]; exact h.hL, by rw [upd_ne w.rt]; exact h.hT, by rw [upd_ne w.ro]; exact h.hO, h.rows.keep fun a ha o e => by
    rw [upd_ne (by rintro rfl; exact w.as ha)]; exact e, h.al, h.ll, h.tl, h.ol, h.ap⟩
theorem AsAt.putL {ls' : List Int} (h : AsAt C H m ls rl os) (e : ls'.length = m.n) : AsAt C (L2.upd H m.lf (.lst (ls'.map V.int))) m ls' rl os :=
  ⟨by rw [upd_ne (ne_of h.hA h.hL (by intro z; cases z))]; exact h.hA, by rw [upd_ne h.ap.sl]; exact h.hR, upd_same, by rw [upd_ne h.ap.lt.symm]; exact h.hT, by rw [upd_ne h.ap.lo.symm]; exact h.hO, h.rows.keep fun a ha o e => by
    rw [upd_ne (by rintro rfl; exact h.ap.al ha)]; exact e, h.al, e, h.tl, h.ol, h.ap⟩
theorem AsAt.putT {rl' : List Int} (h : AsAt C H m ls rl os) (e : rl'.length = m.n) : AsAt C (L2.upd H m.rt (.lst (rl'.map V.int))) m ls rl' os :=
  ⟨by rw [upd_ne (ne_of h.hA h.hT (by intro z; cases z))]; exact h.hA, by rw [upd_ne h.ap.st]; exact h.hR, by rw [upd_ne h.ap.lt]; exact h.hL, upd_same, by rw [upd_ne h.ap.to.symm]; exact h.hO, h.rows.keep fun a ha o e => by
    rw [upd_ne (by rintro rfl; exact h.ap.at' ha)]; exact e, h.al, h.ll, e, h.ol, h.ap⟩
theorem AsAt.putO {os' : List (Option Nat)} (h : AsAt C H m ls rl os) (e : os'.length = m.n) : AsAt C (L2.upd H m.ro (.lst (os'.map nV))) m ls rl os' :=
  ⟨by rw [upd_ne (ne_of h.hA h.hO (by intro z; cases z))]; exact h.hA, by rw [upd_ne h.ap.so]; exact h.hR, by rw [upd_ne h.ap.lo]; exact h.hL, by rw [upd_ne h.ap.to]; exact h.hT, upd_same, h.rows.keep fun a ha o e => by
    rw [upd_ne (by rintro rfl; exact h.ap.ao ha)]; exact e, h.al, h.ll, h.tl, e, h.ap⟩
end
theorem ixN_at {n j : Nat} (hj : j < n) : ixN n (j : Int) = some j := by
  unfold ixN
  rw [if_pos (by omega), if_pos (by omega)]
  simp
theorem map_set_ {α β : Type} (f : α → β) : ∀ (l : List α) (i : Nat) (x : α), (l.map f).set i (f x) = (l.set i x).map f
  | [], _, _ => rfl
  | a :: l, 0, x => rfl
  | a :: l, i + 1, x => by
    rw [List.set_cons_succ, List.map_cons, List.map_cons, List.set_cons_succ, map_set_ f l i x]
section
variable {P : Program} {w : World} {K : PySem.W.Frag} {mg : Str → Option Value} {base : Heap}
def spAInit (C : Addr) : Sp := fun vs H Q _ => ∃ (s dx rs : Addr) (as : List Addr) (n : Nat), vs = [.ref s, .ref rs] ∧ H s = some (.ins C dx []) ∧ H rs = some (.lst (as.map V.ref)) ∧ IRows H as n ∧ as.length = n ∧ n ≤ 8 ∧
  ∀ (H' : Hp) (m : Am) (ls rl : List Int), Chg [s] H H' → m.s = s → m.n = n → H m.lf = none → H m.rt = none → H m.ro = none → AsAt C H' m ls rl (List.replicate n none) → Q .non H'
theorem ok_A_init (T : Tx K mg) : FnOk P w K mg base CX0 1 T.A_init.f T.A_init.fd ["self", "rows"] (spAInit T.CA) := by
  refine T.A_init.F.ok sc_Assignment_init (fun vs H Q E h => ?_) (fun cdv A outer s H vs Q E hr h => ?_)
  · obtain ⟨s, dx, rs, as, n, rfl, _⟩ := h
    rfl
  · obtain ⟨o, dx, rs, as, n, rfl, hO, hR, hI, hal, hn, q⟩ := h
    refine ⟨_, (pss_cons (ps_fld (pv 0) (pv 1) rfl)
    (pss_cons (ps_fld (pv 0) (pe_callB call_len_seq (by rfl) T.z_len PySem.boot_len (pa_cons (pv 1) pa_nil)) rfl)
    (pss_cons (ps_fld (pv 0) (pe_op op_rep (pe_lst (pa_cons pe_int pa_nil)) (pe_fld (pv 0) rfl)) rfl)
    (pss_cons (ps_fld (pv 0) (pe_op op_rep (pe_lst (pa_cons pe_int pa_nil)) (pe_fld (pv 0) rfl)) rfl)
    (pss_one (ps_fld (pv 0) (pe_op op_rep (pe_lst (pa_cons pe_non pa_nil)) (pe_fld (pv 0) rfl)) rfl)))))), ?_⟩
    have nor : o ≠ rs := ne_of hO hR (by intro z; cases z)
    have nas : o ∉ as := fun z => by
      obtain ⟨os, e, _⟩ := hI o z
      rw [hO] at e
      cases e
    refine ⟨_, rfl, _, rfl, o, T.CA, dx, [], rfl, hO, T.cA, T.nA_rows, (by show 0 < 1000; decide), ?_⟩
    have c1 : Chg [o] H (upd H o (.ins T.CA dx (putF "rows" (.ref rs) []))) := Chg.put hO rfl (by simp)
    have h1 : upd H o (.ins T.CA dx (putF "rows" (.ref rs) [])) o = some (.ins T.CA dx [("rows", .ref rs)]) := upd_same
    generalize upd H o (.ins T.CA dx (putF "rows" (.ref rs) [])) = H1 at c1 h1
    refine ⟨_, rfl, rs, _, rfl, .inl (SqL.of (c1.keep rs _ hR (by simpa using nor.symm))), _, rfl, o, T.CA, dx, _, rfl, h1, T.cA, T.nA_size, (by show 1 < 1000; decide), ?_⟩
    rw [List.length_map, hal]
    have c2 := c1.trans (Chg.put (o := .ins T.CA dx (putF "size" (.int (n : Nat)) [("rows", .ref rs)])) h1 rfl (by simp))
    have h2 : upd H1 o (.ins T.CA dx (putF "size" (.int (n : Nat)) [("rows", .ref rs)])) o = some (.ins T.CA dx [("rows", .ref rs), ("size", .int (n : Nat))]) := by rw [upd_same, aP2]
    generalize upd H1 o (.ins T.CA dx (putF "size" (.int (n : Nat)) [("rows", .ref rs)])) = H2 at c2 h2
    -- lefts
    refine ⟨(by show 1 ≤ sizeLine; decide), fun l nl => ?_⟩
    have s3 : Same H2 (upd H2 l (.lst [.int 0])) := same_new nl
    have hl3 : upd H2 l (.lst [.int 0]) l = some (.lst [.int 0]) := upd_same
    generalize upd H2 l (.lst [.int 0]) = H3 at s3 hl3
    refine ⟨_, rfl, o, T.CA, dx, _, _, rfl, s3 _ _ h2, T.cA, T.nA_size, aS _, l, _, _, rfl, rfl, hl3, by omega, by omega, small (by show 1 * n ≤ 100000; omega), fun lf nf => ?_⟩
    have en : ((n : Nat) : Int).toNat = n := rfl
    rw [en, rep1]
    have s4 : Same H3 (upd H3 lf (.lst (List.replicate n (.int 0)))) := same_new nf
    have hf4 : upd H3 lf (.lst (List.replicate n (.int 0))) lf = some (.lst ((List.replicate n (0 : Int)).map V.int)) := by rw [upd_same, List.map_replicate]
    generalize upd H3 lf (.lst (List.replicate n (.int 0))) = H4 at s4 hf4
    have h4 := s4 _ _ (s3 _ _ h2)
    refine ⟨_, rfl, o, T.CA, dx, _, rfl, h4, T.cA, T.nA_lefts, (by show 2 < 1000; decide), ?_⟩
    have nof : o ≠ lf := ne_of_none (s3 _ _ h2) nf
    have c5 := ((c2.same s3).same s4).trans (Chg.put (o := .ins T.CA dx (putF "lefts" (.ref lf) [("rows", .ref rs), ("size", .int (n : Nat))])) h4 rfl (by simp))
    have h5 : upd H4 o (.ins T.CA dx (putF "lefts" (.ref lf) [("rows", .ref rs), ("size", .int (n : Nat))])) o = some (.ins T.CA dx [("rows", .ref rs), ("size", .int (n : Nat)), ("lefts", .ref lf)]) := by rw [upd_same, aP3]
    have hf5 : upd H4 o (.ins T.CA dx (putF "lefts" (.ref lf) [("rows", .ref rs), ("size", .int (n : Nat))])) lf = some (.lst ((List.replicate n (0 : Int)).map V.int)) := by rw [upd_ne nof.symm]; exact hf4
    generalize upd H4 o (.ins T.CA dx (putF "lefts" (.ref lf) [("rows", .ref rs), ("size", .int (n : Nat))])) = H5 at c5 h5 hf5
    have nrf : rs ≠ lf := (c2.same s3).ne nf hR
    have naf : lf ∉ as := fun z => by
      obtain ⟨os, e, _⟩ := hI lf z
      exact absurd rfl ((c2.same s3).ne nf e)
    -- rights
    refine ⟨(by show 1 ≤ sizeLine; decide), fun l6 nl6 => ?_⟩
    have s6 : Same H5 (upd H5 l6 (.lst [.int 0])) := same_new nl6
    have hl6 : upd H5 l6 (.lst [.int 0]) l6 = some (.lst [.int 0]) := upd_same
    generalize upd H5 l6 (.lst [.int 0]) = H6 at s6 hl6
    refine ⟨_, rfl, o, T.CA, dx, _, _, rfl, s6 _ _ h5, T.cA, T.nA_size, aS _, l6, _, _, rfl, rfl, hl6, by omega, by omega, small (by show 1 * n ≤ 100000; omega), fun rt nt => ?_⟩
    rw [en, rep1]
    have s7 : Same H6 (upd H6 rt (.lst (List.replicate n (.int 0)))) := same_new nt
    have ht7 : upd H6 rt (.lst (List.replicate n (.int 0))) rt = some (.lst ((List.replicate n (0 : Int)).map V.int)) := by rw [upd_same, List.map_replicate]
    generalize upd H6 rt (.lst (List.replicate n (.int 0))) = H7 at s7 ht7
    have h7 := s7 _ _ (s6 _ _ h5)
    have hf7 := s7 _ _ (s6 _ _ hf5)
    have nft : lf ≠ rt := ne_of_none (s6 _ _ hf5) nt
    have nrt : rs ≠ rt := (c5.same s6).ne nt hR
    have nat' : rt ∉ as := fun z => by
      obtain ⟨os, e, _⟩ := hI rt z
      exact absurd rfl ((c5.same s6).ne nt e)
    have c7 := (c5.same s6).same s7
    have nof7 : o ≠ rt := ne_of_none (s6 _ _ h5) nt
    refine ⟨_, rfl, o, T.CA, dx, _, rfl, h7, T.cA, T.nA_rights, (by show 3 < 1000; decide), ?_⟩
    have c8 := c7.trans (Chg.put (o := .ins T.CA dx (putF "rights" (.ref rt) [("rows", .ref rs), ("size", .int (n : Nat)), ("lefts", .ref lf)])) h7 rfl (by simp))
    have h8 : upd H7 o (.ins T.CA dx (putF "rights" (.ref rt) [("rows", .ref rs), ("size", .int (n : Nat)), ("lefts", .ref lf)])) o = some (.ins T.CA dx [("rows", .ref rs), ("size", .int (n : Nat)), ("lefts", .ref lf), ("rights", .ref rt)]) := by rw [upd_same, aP4]
    have hf8 : upd H7 o (.ins T.CA dx (putF "rights" (.ref rt) [("rows", .ref rs), ("size", .int (n : Nat)), ("lefts", .ref lf)])) lf = some (.lst ((List.replicate n (0 : Int)).map V.int)) := by rw [upd_ne nof.symm]; exact hf7
    have ht8 : upd H7 o (.ins T.CA dx (putF "rights" (.ref rt) [("rows", .ref rs), ("size", .int (n : Nat)), ("lefts", .ref lf)])) rt = some (.lst ((List.replicate n (0 : Int)).map V.int)) := by rw [upd_ne nof7.symm]; exact ht7
    generalize upd H7 o (.ins T.CA dx (putF "rights" (.ref rt) [("rows", .ref rs), ("size", .int (n : Nat)), ("lefts", .ref lf)])) = H8 at c8 h8 hf8 ht8
    -- row_of
    refine ⟨(by show 1 ≤ sizeLine; decide), fun l9 nl9 => ?_⟩
    have s9 : Same H8 (upd H8 l9 (.lst [.non])) := same_new nl9
    have hl9 : upd H8 l9 (.lst [.non]) l9 = some (.lst [.non]) := upd_same
    generalize upd H8 l9 (.lst [.non]) = H9 at s9 hl9
    refine ⟨_, rfl, o, T.CA, dx, _, _, rfl, s9 _ _ h8, T.cA, T.nA_size, aS _, l9, _, _, rfl, rfl, hl9, by omega, by omega, small (by show 1 * n ≤ 100000; omega), fun ro no => ?_⟩
    rw [en, rep1]
    have s10 : Same H9 (upd H9 ro (.lst (List.replicate n .non))) := same_new no
    have ho10 : upd H9 ro (.lst (List.replicate n .non)) ro = some (.lst ((List.replicate n (none : Option Nat)).map nV)) := by rw [upd_same, List.map_replicate]; rfl
    generalize upd H9 ro (.lst (List.replicate n .non)) = H10 at s10 ho10
    have s810 := s9.trans s10
    have nfo : lf ≠ ro := ne_of_none (s9 _ _ hf8) no
    have nto : rt ≠ ro := ne_of_none (s9 _ _ ht8) no
    have nro : rs ≠ ro := (c8.same s9).ne no hR
    have nao : ro ∉ as := fun z => by
      obtain ⟨os, e, _⟩ := hI ro z
      exact absurd rfl ((c8.same s9).ne no e)
    have noo : o ≠ ro := ne_of_none (s9 _ _ h8) no
    have h10 := s810 _ _ h8
    refine ⟨_, rfl, o, T.CA, dx, _, rfl, h10, T.cA, T.nA_row_of, (by show 4 < 1000; decide), ?_⟩
    have c11 := (c8.same s810).trans (Chg.put (o := .ins T.CA dx (putF "row_of" (.ref ro) [("rows", .ref rs), ("size", .int (n : Nat)), ("lefts", .ref lf), ("rights", .ref rt)])) h10 rfl (by simp))
    refine q _ ⟨o, dx, rs, lf, rt, ro, as, n⟩ (List.replicate n 0) (List.replicate n 0) c11 rfl rfl ((c2.same s3).free nf) ((c5.same s6).free nt) ((c8.same s9).free no) ⟨?_, ?_, ?_, ?_, ?_, ?_, hal, List.length_replicate, List.length_replicate, List.length_replicate, ⟨nft, nfo, nto, nrf, nrt, nro, naf, nat', nao⟩⟩
    · rw [upd_same, aP5]
      rfl
    · exact c11.keep rs _ hR (by simpa using nor.symm)
    · rw [upd_ne nof.symm]
      exact s810 _ _ hf8
    · rw [upd_ne nof7.symm]
      exact s810 _ _ ht8
    · rw [upd_ne noo.symm]
      exact ho10
    · exact hI.keep fun a ha u e => c11.keep a u e (by
        have : a ≠ o := by rintro rfl; exact nas ha
        simpa using this)
/-! ### slack -/
def spSlack (C : Addr) : Sp := fun vs H Q _ => ∃ (m : Am) (ls rl : List Int) (os : List (Option Nat)) (r c : Nat), vs = [.ref m.s, .int (r : Nat), .int (c : Nat)] ∧ AsAt C H m ls rl os ∧ r < m.n ∧ c < m.n ∧ ∀ i : Int, Q (.int i) H
theorem int_at {l : List Int} {i : Nat} (h : i < l.length) : (l.map V.int)[i]? = some (.int l[i]) := by
  rw [List.getElem?_map, List.getElem?_eq_getElem h]
  rfl
theorem ok_A_slack (T : Tx K mg) : FnOk P w K mg base CX0 1 T.A_slack.f T.A_slack.fd ["self", "row", "column"] (spSlack T.CA) := by
  refine T.A_slack.F.ok sc_Assignment_slack (fun vs H Q E h => ?_) (fun cdv A outer s H vs Q E hr h => ?_)
  · obtain ⟨m, ls, rl, os, r, c, rfl, _⟩ := h
    rfl
  · obtain ⟨m, ls, rl, os, r, c, rfl, hA, hrn, hcn, q⟩ := h
    refine ⟨_, (pss_one (ps_ret (pe_op op_sub (pe_op op_sub (pe_ix ix_list (pe_ix ix_list (pe_fld (pv 0) rfl) (pv 1) (fun _ _ => rfl)) (pv 2) (fun _ _ => rfl)) (pe_ix ix_list (pe_fld (pv 0) rfl) (pv 1) (fun _ _ => rfl))) (pe_ix ix_list (pe_fld (pv 0) rfl) (pv 2) (fun _ _ => rfl))))), ?_⟩
    have hra : r < m.as.length := by rw [hA.al]; exact hrn
    have h1 : (m.as.map V.ref)[r]? = some (.ref m.as[r]) := by
      rw [List.getElem?_map, List.getElem?_eq_getElem hra]
      rfl
    obtain ⟨xs, hx, hxl⟩ := hA.rows m.as[r] (List.getElem_mem hra)
    have hcx : c < xs.length := by omega
    have hrl : r < ls.length := by rw [hA.ll]; exact hrn
    have hcr : c < rl.length := by rw [hA.tl]; exact hcn
    refine ⟨_, rfl, m.s, T.CA, m.dx, _, _, rfl, hA.hA, T.cA, T.nA_rows, aF_rows, _, rfl, m.rs, _, _, _, rfl, rfl, SqL.of hA.hR, atI_nat h1, _, rfl, _, _, _, _, rfl, rfl, SqL.of hx, atI_nat (int_at hcx), ?_⟩
    refine ⟨_, rfl, m.s, T.CA, m.dx, _, _, rfl, hA.hA, T.cA, T.nA_lefts, aF_lefts, _, rfl, m.lf, _, _, _, rfl, rfl, SqL.of hA.hL, atI_nat (int_at hrl), _, _, rfl, rfl, ?_⟩
    exact ⟨_, rfl, m.s, T.CA, m.dx, _, _, rfl, hA.hA, T.cA, T.nA_rights, aF_rights, _, rfl, m.rt, _, _, _, rfl, rfl, SqL.of hA.hT, atI_nat (int_at hcr), _, _, rfl, rfl, q _⟩
/-! ### shift -/
def spShift (C : Addr) : Sp := fun vs H Q _ => ∃ (m : Am) (ls rl : List Int) (os : List (Option Nat)) (pr pc : Addr) (rw cs : List Nat) (z : Int), vs = [.ref m.s, .ref pr, .ref pc, .int z] ∧ AsAt C H m ls rl os ∧ H pr = some (.lst (rw.map fun x => V.int (x : Nat))) ∧ H pc = some (.lst (cs.map fun x => V.int (x : Nat))) ∧ Aw m pr ∧ Aw m pc ∧ (∀ r ∈ rw, r < m.n) ∧ (∀ c ∈ cs, c < m.n) ∧
  ∀ (H' : Hp) (ls' rl' : List Int), Chg [m.lf, m.rt] H H' → AsAt C H' m ls' rl' os → Q .non H'
theorem ok_A_shift (T : Tx K mg) : FnOk P w K mg base CX0 1 T.A_shift.f T.A_shift.fd ["self", "rows", "columns", "slack"] (spShift T.CA) := by
  refine T.A_shift.F.ok sc_Assignment_shift (fun vs H Q E h => ?_) (fun cdv A outer s H vs Q E hr h => ?_)
  · obtain ⟨m, ls, rl, os, pr, pc, rw, cs, z, rfl, _⟩ := h
    rfl
  · obtain ⟨m, ls, rl, os, pr, pc, rw', cs, z, rfl, hA, hpr, hpc, wr, wc, hrw, hcs, q⟩ := h
    refine ⟨_, (pss_cons (ps_for PassesOwn.never rfl (pi_list (pv 1)) (pg_name (i := 4) sc_Assignment_shift.nd rfl (by first | exact Or.inl rfl | exact Or.inr rfl))
        (pss_one (ps_augS (pe_fld (pv 0) rfl) (pv 4) get_list (pv 3) ip_add set_list)))
    (pss_one (ps_for PassesOwn.never rfl (pi_list (pv 2)) (pg_name (i := 5) sc_Assignment_shift.nd rfl (by first | exact Or.inl rfl | exact Or.inr rfl))
        (pss_one (ps_augS (pe_fld (pv 0) rfl) (pv 5) get_list (pv 3) ip_sub set_list))))), ?_⟩
    refine ⟨_, rfl, pr, rfl, ⟨_, SqL.of hpr⟩, for_list (K := K) (a := pr) (xs := rw'.map fun x => V.int (x : Nat)) (fun i σ H3 => ∃ (x4 : Option V) (ls' : List Int), σ = [some (.ref m.s), some (.ref pr), some (.ref pc), some (.int z), x4, none] ∧ Chg [m.lf, m.rt] H H3 ∧ AsAt T.CA H3 m ls' rl os ∧ H3 pr = some (.lst (rw'.map fun x => V.int (x : Nat))))
      ⟨none, ls, rfl, Chg.refl _ _, hA, hpr⟩ (fun i σ H3 _ ⟨_, _, _, _, _, h⟩ => SqL.of h) ?_ ?_⟩
    · rintro i x σ H3 hi ⟨x4, ls', rfl, c3, hA3, hp3⟩
      rw [List.getElem?_map] at hi
      obtain ⟨r, hr', rfl⟩ := Option.map_eq_some_iff.mp hi
      have hrn := hrw r (List.mem_of_getElem? hr')
      have hrl : r < ls'.length := by rw [hA3.ll]; exact hrn
      refine ⟨_, rfl, m.s, T.CA, m.dx, _, _, rfl, hA3.hA, T.cA, T.nA_lefts, aF_lefts, _, rfl, m.lf, _, _, _, rfl, rfl, SqL.of hA3.hL, atI_nat (int_at hrl), _, rfl, _, _, rfl, rfl, m.lf, _, _, r, rfl, rfl, hA3.hL, ixN_at (by rw [List.length_map]; exact hrl), ?_⟩
      rw [map_set_]
      exact ⟨_, _, rfl, c3.trans (Chg.put hA3.hL rfl (by simp)), hA3.putL (by rw [List.length_set]; exact hA3.ll), by rw [upd_ne wr.lf.symm]; exact hp3⟩
    · rintro σ H3 ⟨x4, ls', rfl, c3, hA3, _⟩
      have hc3 : H3 pc = some (.lst (cs.map fun x => V.int (x : Nat))) := c3.keep pc _ hpc (by simpa using ⟨wc.lf.symm, wc.rt.symm⟩)
      refine ⟨_, rfl, pc, rfl, ⟨_, SqL.of hc3⟩, for_list (K := K) (a := pc) (xs := cs.map fun x => V.int (x : Nat)) (fun i σ H4 => ∃ (x5 : Option V) (rl' : List Int), σ = [some (.ref m.s), some (.ref pr), some (.ref pc), some (.int z), x4, x5] ∧ Chg [m.lf, m.rt] H H4 ∧ AsAt T.CA H4 m ls' rl' os ∧ H4 pc = some (.lst (cs.map fun x => V.int (x : Nat))))
        ⟨none, rl, rfl, c3, hA3, hc3⟩ (fun i σ H3 _ ⟨_, _, _, _, _, h⟩ => SqL.of h) ?_ ?_⟩
      · rintro i x σ H4 hi ⟨x5, rl', rfl, c4, hA4, hp4⟩
        rw [List.getElem?_map] at hi
        obtain ⟨c, hc', rfl⟩ := Option.map_eq_some_iff.mp hi
        have hcn := hcs c (List.mem_of_getElem? hc')
        have hcl : c < rl'.length := by rw [hA4.tl]; exact hcn
        refine ⟨_, rfl, m.s, T.CA, m.dx, _, _, rfl, hA4.hA, T.cA, T.nA_rights, aF_rights, _, rfl, m.rt, _, _, _, rfl, rfl, SqL.of hA4.hT, atI_nat (int_at hcl), _, rfl, _, _, rfl, rfl, m.rt, _, _, c, rfl, rfl, hA4.hT, ixN_at (by rw [List.length_map]; exact hcl), ?_⟩
        rw [map_set_]
        exact ⟨_, _, rfl, c4.trans (Chg.put hA4.hT rfl (by simp)), hA4.putT (by rw [List.length_set]; exact hA4.tl), by rw [upd_ne wc.rt.symm]; exact hp4⟩
      · rintro σ H4 ⟨x5, rl', rfl, c4, hA4, _⟩
        exact q H4 ls' rl' c4 hA4
/-! ### column_of -/
def spColumn (C : Addr) : Sp := fun vs H Q _ => ∃ (m : Am) (ls rl : List Int) (os : List (Option Nat)) (r : Nat), vs = [.ref m.s, .int (r : Nat)] ∧ AsAt C H m ls rl os ∧
  ∀ H', Same H H' → (∀ c : Nat, os[c]? = some (some r) → Q (.int (c : Nat)) H') ∧ ((∀ c : Nat, os[c]? ≠ some (some r)) → Q .non H')
theorem ok_A_column_of (T : Tx K mg) : FnOk P w K mg base CX0 1 T.A_column_of.f T.A_column_of.fd ["self", "row"] (spColumn T.CA) := by
  refine T.A_column_of.F.ok sc_Assignment_column_of (fun vs H Q E h => ?_) (fun cdv A outer s H vs Q E hr h => ?_)
  · obtain ⟨m, ls, rl, os, r, rfl, _⟩ := h
    rfl
  · obtain ⟨m, ls, rl, os, r, rfl, hA, q⟩ := h
    refine ⟨_, (pss_cons (ps_for PassesOwn.never rfl (pi_enum (by rfl) T.z_enumerate (pa_cons (pe_fld (pv 0) rfl) pa_nil)) (pg_tup rfl (pgs_cons (pg_name (i := 2) sc_Assignment_column_of.nd rfl (by first | exact Or.inl rfl | exact Or.inr rfl)) (pgs_cons (pg_name (i := 3) sc_Assignment_column_of.nd rfl (by first | exact Or.inl rfl | exact Or.inr rfl)) pgs_nil)))
        (pss_one (ps_if (pt_cmpR op_eq (pv 3) (pv 1) (nomark _))
            (pss_one (ps_ret (pv 2)))
            pss_nil)))
    (pss_one (ps_ret pe_non))), ?_⟩
    refine ⟨_, rfl, m.s, T.CA, m.dx, _, _, rfl, hA.hA, T.cA, T.nA_row_of, aF_row_of, m.ro, _, rfl, SqL.of hA.hO, ?_⟩
    refine ⟨fun i k σ H3 => k = os.length - i ∧ ∃ x2 x3 : Option V, σ = [some (.ref m.s), some (.int (r : Nat)), x2, x3] ∧ Same H H3 ∧ (∀ c : Nat, c < i → os[c]? ≠ some (some r)), ⟨os.length, by simp, none, none, rfl, Same.refl _, fun c hc => absurd hc (Nat.not_lt_zero _)⟩, ?_⟩
    rintro i k σ H3 ⟨rfl, x2, x3, rfl, s3, hno⟩
    have hO3 := s3 _ _ hA.hO
    by_cases hlt : i < os.length
    · refine .inr ⟨⟨_, nV os[i], SqL.of hO3, by rw [List.getElem?_map, List.getElem?_eq_getElem hlt]; rfl⟩, fun σ' H' => ∃ x2 x3 : Option V, σ' = [some (.ref m.s), some (.int (r : Nat)), x2, x3] ∧ Same H H' ∧ (∀ c : Nat, c < i + 1 → os[c]? ≠ some (some r)), fun σ' H' p' => ⟨os.length - (i + 1), by omega, rfl, p'⟩, fun v H' y => ?_⟩
      obtain ⟨t, x, rfl, nt, rfl, hx⟩ := y
      have hx' := hx _ (SqL.of hO3)
      rw [List.getElem?_map, List.getElem?_eq_getElem hlt] at hx'
      cases hx'
      have s4 := s3.trans (same_new (o := .tup [.int (i : Nat), nV os[i]]) nt)
      refine ⟨t, _, rfl, SqT.of upd_same, rfl, _, _, rfl, _, _, rfl, rfl, ?_⟩
      cases hoi : os[i] with
      | none =>
        refine ⟨_, rfl, _, rfl, rfl, _, rfl, iteN (fun e => by have := of_decide_eq_true e; cases this) ?_⟩
        refine ⟨_, _, rfl, by rw [hoi] at s4; exact s4, fun c hc => ?_⟩
        by_cases hci : c = i
        · subst hci
          rw [List.getElem?_eq_getElem hlt, hoi]
          intro z
          cases z
        · exact hno c (by omega)
      | some q' =>
        refine ⟨_, rfl, _, rfl, rfl, _, rfl, ite2 (fun e => ?_) (fun e => ?_)⟩
        · have e' : q' = r := by
            have := of_decide_eq_true e
            have := V.int.inj this
            omega
          subst e'
          refine ⟨_, rfl, ?_⟩
          rw [hoi] at s4
          exact (q _ s4).1 i (by rw [List.getElem?_eq_getElem hlt, hoi])
        · refine ⟨_, _, rfl, by rw [hoi] at s4; exact s4, fun c hc => ?_⟩
          by_cases hci : c = i
          · subst hci
            rw [List.getElem?_eq_getElem hlt, hoi]
            intro z
            cases z
            exact e (decide_eq_true rfl)
          · exact hno c (by omega)
    · refine .inl ⟨⟨_, SqL.of hO3, by rw [List.length_map]; omega⟩, ?_⟩
      refine (q H3 s3).2 fun c hc => ?_
      exact hno c (by
        have := (List.getElem?_eq_some_iff.mp hc).1
        omega) hc
end
end Sg
namespace Sg
open PySem PySem.Spec PyProof.Rows L2
theorem aF_no (x : Str) (r l t o : Addr) (n : Nat) (h1 : (x == ("rows" : Str)) = false) (h2 : (x == ("size" : Str)) = false) (h3 : (x == ("lefts" : Str)) = false) (h4 : (x == ("rights" : Str)) = false) (h5 : (x == ("row_of" : Str)) = false) : (aF r n l t o).lookup x = none :=
  (lk_miss h1).trans ((lk_miss h2).trans ((lk_miss h3).trans ((lk_miss h4).trans ((lk_miss h5).trans rfl))))
abbrev nI (l : List Nat) : List V := l.map fun x => V.int (x : Nat)
theorem nI_flat (l : List Nat) : (nI l).all flatV = true := by
  rw [List.all_map, List.all_eq_true]
  intro x _
  rfl
theorem inV_nI (k : Nat) (l : List Nat) : inV (.int (k : Nat)) (nI l) = decide (k ∈ l) := by
  unfold inV
  by_cases h : k ∈ l
  · rw [decide_eq_true h, List.any_eq_true]
    exact ⟨V.int (k : Nat), List.mem_map.mpr ⟨k, h, rfl⟩, by show ((k : Int) == (k : Int)) = true; simp⟩
  · rw [decide_eq_false h, List.any_eq_false]
    intro x hx
    obtain ⟨j, hj, rfl⟩ := List.mem_map.mp hx
    show ¬ ((j : Int) == (k : Int)) = true
    rw [beq_iff_eq]
    intro e
    have : j = k := by omega
    exact h (this ▸ hj)
theorem putK_le (c : List (Key × V)) (k : Key) (x : V) : (putK c k x).length ≤ c.length + 1 := by
  unfold putK
  split
  · rw [List.length_map]
    exact Nat.le_succ _
  · rw [List.length_append]
    exact Nat.le_refl _
theorem os_at {os : List (Option Nat)} {i : Nat} {x : Option Nat} (h : os[i]? = some x) : (os.map nV)[i]? = some (nV x) := by
  rw [List.getElem?_map, h]
  rfl
section
variable {P : Program} {w : World} {K : PySem.W.Frag} {mg : Str → Option Value} {base : Heap}
/-! ### turn -/
def spTurn (C : Addr) : Sp := fun vs H Q _ => ∃ (m : Am) (ls rl : List Int) (os : List (Option Nat)) (bd : Addr) (kvs : List (Key × V)) (row c i : Nat) (cs rw : List Nat), vs = [.ref m.s, .int (c : Nat), .ref bd] ∧ AsAt C H m ls rl os ∧ H bd = some (.dK kvs) ∧ cs[i]? = some c ∧ Way m.n row cs rw kvs ∧ Path os row cs rw i ∧
  ∀ (H' : Hp) (os' : List (Option Nat)), Chg [m.ro] H H' → AsAt C H' m ls rl os' → Full os' (row + 1) → Q .non H'
theorem ok_A_turn (T : Tx K mg) : FnOk P w K mg base CX0 2 T.A_turn.f T.A_turn.fd ["self", "column", "before"] (spTurn T.CA) := by
  refine T.A_turn.F.ok sc_Assignment_turn (fun vs H Q E h => ?_) (fun cdv A outer s H vs Q E hr h => ?_)
  · obtain ⟨m, ls, rl, os, bd, kvs, row, c, i, cs, rw, rfl, _⟩ := h
    rfl
  · obtain ⟨m, ls, rl, os, bd, kvs, row, c, i, cs, rw', rfl, hA, hB, hci, W, p, q⟩ := h
    have hu65 := hu65_of hr
    have hu := Nat.lt_of_le_of_lt (Nat.add_le_add_left (by decide : 1 ≤ 65) _) hu65
    refine ⟨_, (pss_one (ps_while PassesOwn.never (pt_cmpR op_notN (pv 1) pe_non (nomark _))
        (pss_cons (ps_set (i := 3) sc_Assignment_turn.nd rfl (by first | exact Or.inl rfl | exact Or.inr rfl) (pe_dget hu (pv 2) (pv 1) (fun _ _ => rfl)))
        (pss_cons (ps_set (i := 4) sc_Assignment_turn.nd rfl (by first | exact Or.inl rfl | exact Or.inr rfl) (pe_meth (pv 0) T.cA T.A_column_of.m (ok_A_column_of T) (hr.mono (by decide)) T.A_column_of.b .nil pass0 (pa_cons (pv 3) pa_nil)))
        (pss_cons (ps_asg (pv 3) (pg_sub (pe_fld (pv 0) rfl) (pv 1) set_list))
        (pss_one (ps_set (i := 1) sc_Assignment_turn.nd rfl (by first | exact Or.inl rfl | exact Or.inr rfl) (pv 4)))))))), ?_⟩
    have nbo : bd ≠ m.ro := ne_of hB hA.hO (by intro z; cases z)
    refine ⟨fun k σ H3 => ∃ (x3 x4 : Option V) (os3 : List (Option Nat)), Chg [m.ro] H H3 ∧ AsAt T.CA H3 m ls rl os3 ∧ H3 bd = some (.dK kvs) ∧
      ((σ = [some (.ref m.s), some .non, some (.ref bd), x3, x4] ∧ Full os3 (row + 1)) ∨ ∃ i d : Nat, k = i + 1 ∧ σ = [some (.ref m.s), some (.int (d : Nat)), some (.ref bd), x3, x4] ∧ cs[i]? = some d ∧ Path os3 row cs rw' i),
      ⟨i + 1, none, none, os, Chg.refl _ _, hA, hB, .inr ⟨i, c, rfl, rfl, hci, p⟩⟩, ?_⟩
    rintro k σ H3 ⟨x3, x4, os3, c3, hA3, hB3, ⟨rfl, hF⟩ | ⟨i, d, rfl, rfl, hd, p3⟩⟩
    · exact ⟨_, rfl, rfl, _, rfl, iteN (by decide +kernel) (q H3 os3 c3 hA3 hF)⟩
    · have W3 : Way os3.length row cs rw' kvs := by rw [hA3.ol]; exact W
      obtain ⟨r, hv, hs⟩ := p3.step W3 hd
      have hdl : d < os3.length := W3.lt d (List.mem_of_getElem? hd)
      refine ⟨_, rfl, rfl, _, rfl, iteP (by
        have : ¬ (V.int (d : Nat) = V.non) := fun z => by cases z
        rw [decide_eq_false this]
        rfl) ?_⟩
      refine ⟨fun σ' H' => ∃ k' : Nat, k' < i + 1 ∧ ∃ (x3 x4 : Option V) (os3 : List (Option Nat)), Chg [m.ro] H H' ∧ AsAt T.CA H' m ls rl os3 ∧ H' bd = some (.dK kvs) ∧
        ((σ' = [some (.ref m.s), some .non, some (.ref bd), x3, x4] ∧ Full os3 (row + 1)) ∨ ∃ i d : Nat, k' = i + 1 ∧ σ' = [some (.ref m.s), some (.int (d : Nat)), some (.ref bd), x3, x4] ∧ cs[i]? = some d ∧ Path os3 row cs rw' i), fun σ' H' h => h, ?_⟩
      refine ⟨_, rfl, _, rfl, bd, _, rfl, .inl ⟨kvs, .inl (d : Int), .inl hB3, rfl, hv.symm⟩, ?_⟩
      refine ⟨_, rfl, m.s, m.dx, _, rfl, hA3.hA, aF_no _ _ _ _ _ _ (by decide +kernel) (by decide +kernel) (by decide +kernel) (by decide +kernel) (by decide +kernel), _, rfl, m, ls, rl, os3, r, rfl, hA3, fun H4 s4 => ⟨fun c' hc' => ?_, fun hno => ?_⟩⟩
      · have hA4 := hA3.same s4
        rcases hs with ⟨rfl, hno, _⟩ | ⟨t, d', hti, hd', e1, hun, p'⟩
        · exact absurd hc' (hno c')
        · have ec := hun c' hc'
          subst ec
          refine ⟨_, rfl, _, rfl, m.s, T.CA, m.dx, _, _, rfl, hA4.hA, T.cA, T.nA_row_of, aF_row_of, _, rfl, m.ro, _, _, d, rfl, rfl, hA4.hO, ixN_at (by rw [List.length_map]; exact hdl), ?_⟩
          have em : (os3.map nV).set d (.int (r : Nat)) = (os3.set d (some r)).map nV := map_set_ nV os3 d (some r)
          rw [em]
          have cc : Chg [m.ro] H4 (upd H4 m.ro (.lst ((os3.set d (some r)).map nV))) := Chg.put hA4.hO rfl (by simp)
          exact ⟨_, rfl, t + 1, by omega, _, _, os3.set d (some r), (c3.same s4).trans cc, hA4.putO (by rw [List.length_set]; exact hA3.ol), by rw [upd_ne nbo]; exact s4 _ _ hB3, .inr ⟨t, c', rfl, rfl, hd', p'⟩⟩
      · have hA4 := hA3.same s4
        rcases hs with ⟨rfl, _, hF⟩ | ⟨t, d', hti, hd', e1, hun, p'⟩
        · refine ⟨_, rfl, _, rfl, m.s, T.CA, m.dx, _, _, rfl, hA4.hA, T.cA, T.nA_row_of, aF_row_of, _, rfl, m.ro, _, _, d, rfl, rfl, hA4.hO, ixN_at (by rw [List.length_map]; exact hdl), ?_⟩
          have em : (os3.map nV).set d (.int (r : Nat)) = (os3.set d (some r)).map nV := map_set_ nV os3 d (some r)
          rw [em]
          have cc : Chg [m.ro] H4 (upd H4 m.ro (.lst ((os3.set d (some r)).map nV))) := Chg.put hA4.hO rfl (by simp)
          exact ⟨_, rfl, 0, by omega, _, _, os3.set d (some r), (c3.same s4).trans cc, hA4.putO (by rw [List.length_set]; exact hA3.ol), by rw [upd_ne nbo]; exact s4 _ _ hB3, .inl ⟨rfl, hF⟩⟩
        · exact absurd e1 (hno d')
/-! ### add -/
def Best (H : Hp) (m : Am) (cs rw : List Nat) (b : V) : Prop := ∃ (a : Addr) (z : Int) (c r : Nat), b = .ref a ∧ H a = some (.tup [.int z, .int (c : Nat), .int (r : Nat)]) ∧ c ∉ cs ∧ c < m.n ∧ r ∈ rw
theorem Best.same {H H' : Hp} {m : Am} {cs rw : List Nat} {b : V} (h : Best H m cs rw b) (s : Same H H') : Best H' m cs rw b := by
  obtain ⟨a, z, c, r, e, h1, h2, h3, h4⟩ := h
  exact ⟨a, z, c, r, e, s _ _ h1, h2, h3, h4⟩
def spAdd (C : Addr) : Sp := fun vs H Q _ => ∃ (m : Am) (ls rl : List Int) (os : List (Option Nat)) (row : Nat), vs = [.ref m.s, .int (row : Nat)] ∧ AsAt C H m ls rl os ∧ Full os row ∧ row < m.n ∧ m.n ≤ 8 ∧
  ∀ (H' : Hp) (ls' rl' : List Int) (os' : List (Option Nat)), Chg [m.lf, m.rt, m.ro] H H' → AsAt C H' m ls' rl' os' → Full os' (row + 1) → Q .non H'
theorem ok_A_add (T : Tx K mg) : FnOk P w K mg base CX0 3 T.A_add.f T.A_add.fd ["self", "row"] (spAdd T.CA) := by
  refine T.A_add.F.ok sc_Assignment_add (fun vs H Q E h => ?_) (fun cdv A outer s H vs Q E hr h => ?_)
  · obtain ⟨m, ls, rl, os, row, rfl, _⟩ := h
    rfl
  · obtain ⟨m, ls, rl, os, row, rfl, hA, hF, hrow, hn8, q⟩ := h
    have hu65 := hu65_of hr
    have hu := Nat.lt_of_le_of_lt (Nat.add_le_add_left (by decide : 1 ≤ 65) _) hu65
    refine ⟨_, (pss_cons (ps_set (i := 2) sc_Assignment_add.nd rfl (by first | exact Or.inl rfl | exact Or.inr rfl) (pe_lst (pa_cons (pv 1) pa_nil)))
    (pss_cons (ps_set (i := 3) sc_Assignment_add.nd rfl (by first | exact Or.inl rfl | exact Or.inr rfl) (pe_lst pa_nil))
    (pss_cons (ps_set (i := 4) sc_Assignment_add.nd rfl (by first | exact Or.inl rfl | exact Or.inr rfl) pe_dnewK)
    (pss_one (ps_while PassesOwn.never (pt_val pe_bl)
        (pss_cons (ps_set (i := 5) sc_Assignment_add.nd rfl (by first | exact Or.inl rfl | exact Or.inr rfl) pe_non)
        (pss_cons (ps_for PassesOwn.never rfl (pi_range1 (by rfl) T.z_range (pa_cons (pe_fld (pv 0) rfl) pa_nil)) (pg_name (i := 6) sc_Assignment_add.nd rfl (by first | exact Or.inl rfl | exact Or.inr rfl))
            (pss_one (ps_if (pt_cmpR op_notIn_seq (pv 6) (pv 3) (by rfl))
                (pss_one (ps_for PassesOwn.never rfl (pi_list (pv 2)) (pg_name (i := 7) sc_Assignment_add.nd rfl (by first | exact Or.inl rfl | exact Or.inr rfl))
                    (pss_cons (ps_set (i := 8) sc_Assignment_add.nd rfl (by first | exact Or.inl rfl | exact Or.inr rfl) (pe_meth (pv 0) T.cA T.A_slack.m (ok_A_slack T) (hr.mono (by decide)) T.A_slack.b .nil pass0 (pa_cons (pv 7) (pa_cons (pv 6) pa_nil))))
                    (pss_one (ps_if (pw_or (pt_cmpR op_isN (pv 5) pe_non (nomark _)) (pw_or1 (pt_cmpR op_lt (pv 8) (pe_ix ix_tup (pv 5) pe_int (fun _ _ => rfl)) (nomark _)))).pt
                        (pss_one (ps_set (i := 5) sc_Assignment_add.nd rfl (by first | exact Or.inl rfl | exact Or.inr rfl) (pe_tup (pa_cons (pv 8) (pa_cons (pv 6) (pa_cons (pv 7) pa_nil))))))
                        pss_nil)))))
                pss_nil)))
        (pss_cons (ps_asg (pv 5) (pg_tup rfl (pgs_cons (pg_name (i := 8) sc_Assignment_add.nd rfl (by first | exact Or.inl rfl | exact Or.inr rfl)) (pgs_cons (pg_name (i := 6) sc_Assignment_add.nd rfl (by first | exact Or.inl rfl | exact Or.inr rfl)) (pgs_cons (pg_name (i := 7) sc_Assignment_add.nd rfl (by first | exact Or.inl rfl | exact Or.inr rfl)) pgs_nil)))))
        (pss_cons (ps_expr (pe_meth (pv 0) T.cA T.A_shift.m (ok_A_shift T) (hr.mono (by decide)) T.A_shift.b .nil pass0 (pa_cons (pv 2) (pa_cons (pv 3) (pa_cons (pv 8) pa_nil)))))
        (pss_cons (ps_dput hu (pv 4) (pv 6) (pv 7) rfl)
        (pss_cons (ps_if (pt_cmpR op_isN (pe_ix ix_list (pe_fld (pv 0) rfl) (pv 6) (fun _ _ => rfl)) pe_non (nomark _))
            (pss_cons (ps_expr (pe_meth (pv 0) T.cA T.A_turn.m (ok_A_turn T) (hr.mono (by decide)) T.A_turn.b .nil pass0 (pa_cons (pv 6) (pa_cons (pv 4) pa_nil))))
            (pss_one ps_retN))
            pss_nil)
        (pss_cons (ps_expr (pe_bm PySem.F.plainAttrs_list PySem.F.slot_list_append PySem.F.type_list_append mt_append (pv 3) (pa_cons (pv 6) pa_nil)))
        (pss_one (ps_expr (pe_bm PySem.F.plainAttrs_list PySem.F.slot_list_append PySem.F.type_list_append mt_append (pv 2) (pa_cons (pe_ix ix_list (pe_fld (pv 0) rfl) (pv 6) (fun _ _ => rfl)) pa_nil)))))))))))))))), ?_⟩
    refine ⟨_, rfl, (by show 1 ≤ sizeLine; decide), fun pr npr => ⟨Nat.zero_le _, fun pc npc => fun bd nbd => ?_⟩⟩
    have s1 : Same H (upd H pr (.lst [.int (row : Nat)])) := same_new npr
    have hpr1 : upd H pr (.lst [.int (row : Nat)]) pr = some (.lst [.int (row : Nat)]) := upd_same
    generalize upd H pr (.lst [.int (row : Nat)]) = H1 at s1 hpr1 npc nbd
    have s2 : Same H1 (upd H1 pc (.lst [])) := same_new npc
    have hpc2 : upd H1 pc (.lst []) pc = some (.lst []) := upd_same
    generalize upd H1 pc (.lst []) = H2 at s2 hpc2 nbd
    have s3 : Same H2 (upd H2 bd (.dK [])) := same_new nbd
    have hbd3 : upd H2 bd (.dK []) bd = some (.dK []) := upd_same
    generalize upd H2 bd (.dK []) = H3 at s3 hbd3
    have npcH : H pc = none := s1.free npc
    have nbdH : H bd = none := (s1.trans s2).free nbd
    have wr := hA.aw npr
    have wc := hA.aw npcH
    have wb := hA.aw nbdH
    have nrc : pr ≠ pc := ne_of_none hpr1 npc
    have nrb : pr ≠ bd := ne_of_none (s2 _ _ hpr1) nbd
    have ncb : pc ≠ bd := ne_of_none hpc2 nbd
    have s03 := (s1.trans s2).trans s3
    refine ⟨fun k σ H4 => ∃ (x5 x6 x7 x8 : Option V) (cs rw : List Nat) (kvs : List (Key × V)) (ls' rl' : List Int), σ = [some (.ref m.s), some (.int (row : Nat)), some (.ref pr), some (.ref pc), some (.ref bd), x5, x6, x7, x8] ∧ k = m.n + 1 - cs.length ∧ Chg [m.lf, m.rt, m.ro] H H4 ∧ AsAt T.CA H4 m ls' rl' os ∧
      H4 pr = some (.lst (nI rw)) ∧ H4 pc = some (.lst (nI cs)) ∧ H4 bd = some (.dK kvs) ∧ kvs.length ≤ cs.length ∧ Tree os row cs rw kvs,
      ⟨m.n + 1, none, none, none, none, [], [row], [], ls, rl, rfl, rfl, Chg.of_same s03, hA.same s03, s3 _ _ (s2 _ _ hpr1), s3 _ _ hpc2, hbd3, Nat.le_refl _, Tree.new hF⟩, ?_⟩
    rintro k σ H4 ⟨x5, x6, x7, x8, cs, rw', kvs, ls4, rl4, rfl, rfl, c4, hA4, hr4, hc4, hb4, hkl, TR⟩
    have hcsn : cs.length ≤ m.n := by have := TR.small; rw [hA4.ol] at this; exact this
    have hrwl := TR.len
    have hrwn : ∀ r ∈ rw', r < m.n := fun r h => Nat.lt_of_le_of_lt (TR.rlt r h) hrow
    have hcn : ∀ c ∈ cs, c < m.n := fun c h => by have := TR.lt c h; rw [hA4.ol] at this; exact this
    refine ⟨_, rfl, iteT ?_⟩
    refine ⟨fun σ' H' => ∃ k' : Nat, k' < m.n + 1 - cs.length ∧ ∃ (x5 x6 x7 x8 : Option V) (cs rw : List Nat) (kvs : List (Key × V)) (ls' rl' : List Int), σ' = [some (.ref m.s), some (.int (row : Nat)), some (.ref pr), some (.ref pc), some (.ref bd), x5, x6, x7, x8] ∧ k' = m.n + 1 - cs.length ∧ Chg [m.lf, m.rt, m.ro] H H' ∧ AsAt T.CA H' m ls' rl' os ∧
      H' pr = some (.lst (nI rw)) ∧ H' pc = some (.lst (nI cs)) ∧ H' bd = some (.dK kvs) ∧ kvs.length ≤ cs.length ∧ Tree os row cs rw kvs, fun σ' H' h => h, ?_⟩
    refine ⟨_, rfl, m.s, T.CA, m.dx, _, _, rfl, hA4.hA, T.cA, T.nA_size, aF_size, _, rfl, by omega, by omega, ?_⟩
    have en : ((m.n : Nat) : Int).toNat = m.n := rfl
    rw [en]
    refine for_range (n := m.n) (fun j σ H5 => ∃ (x6 x7 x8 : Option V) (b : V), σ = [some (.ref m.s), some (.int (row : Nat)), some (.ref pr), some (.ref pc), some (.ref bd), some b, x6, x7, x8] ∧ Same H4 H5 ∧ ((b = .non ∧ ∀ c, c < j → c ∈ cs) ∨ Best H5 m cs rw' b))
      ⟨x6, x7, x8, .non, rfl, Same.refl _, .inl ⟨rfl, fun c hc => absurd hc (Nat.not_lt_zero _)⟩⟩ ?_ ?_
    · rintro j σ H5 hj ⟨x6, x7, x8, b, rfl, s5, hb⟩
      have ej : (0 : Int) + (j : Int) = (j : Int) := Int.zero_add _
      rw [ej]
      refine ⟨_, rfl, _, rfl, pc, _, rfl, .inl (SqL.of (s5 _ _ hc4)), rfl, nI_flat cs, _, rfl, ?_⟩
      rw [inV_nI]
      refine ite2 (fun e => ?_) (fun e => ?_)
      · have hjc : j ∉ cs := by simpa using e
        refine ⟨_, rfl, pr, rfl, ⟨_, SqL.of (s5 _ _ hr4)⟩, for_list (K := K) (a := pr) (xs := nI rw') (fun i σ H6 => ∃ (x7 x8 : Option V) (b : V), σ = [some (.ref m.s), some (.int (row : Nat)), some (.ref pr), some (.ref pc), some (.ref bd), some b, some (.int (j : Nat)), x7, x8] ∧ Same H4 H6 ∧ ((b = .non ∧ i = 0) ∨ Best H6 m cs rw' b))
          ⟨x7, x8, b, rfl, s5, hb.imp (fun h => ⟨h.1, rfl⟩) id⟩ (fun i σ H6 _ ⟨_, _, _, _, s6, _⟩ => SqL.of (s6 _ _ hr4)) ?_ ?_⟩
        · rintro i x σ H6 hi ⟨x7, x8, b, rfl, s6, hb6⟩
          rw [List.getElem?_map] at hi
          obtain ⟨r, hri, rfl⟩ := Option.map_eq_some_iff.mp hi
          have hrm := List.mem_of_getElem? hri
          have hA6 := hA4.same s6
          refine ⟨_, rfl, m.s, m.dx, _, rfl, hA6.hA, aF_no _ _ _ _ _ _ (by decide +kernel) (by decide +kernel) (by decide +kernel) (by decide +kernel) (by decide +kernel), _, rfl, _, rfl, m, ls4, rl4, os, r, j, rfl, hA6, hrwn r hrm, hj, fun z => ?_⟩
          rcases hb6 with ⟨rfl, _⟩ | hb6
          · refine ⟨_, rfl, rfl, _, rfl, iteT (iteT ⟨_, rfl, _, rfl, _, rfl, (by show 3 ≤ sizeLine; decide), fun t nt => ?_⟩)⟩
            exact ⟨_, _, _, rfl, s6.trans (same_new nt), .inr ⟨t, z, j, r, rfl, upd_same, hjc, hj, hrm⟩⟩
          · obtain ⟨a, z', c', r', rfl, ha, h1, h2, h3⟩ := id hb6
            refine ⟨_, rfl, rfl, _, rfl, iteF ⟨_, rfl, _, rfl, a, _, 0, _, rfl, rfl, SqT.of ha, atI_nat (j := 0) rfl, _, _, rfl, rfl, _, rfl, ite2 (fun _ => ⟨_, rfl, _, rfl, _, rfl, (by show 3 ≤ sizeLine; decide), fun t nt => ?_⟩) (fun _ => ?_)⟩⟩
            · exact ⟨_, _, _, rfl, s6.trans (same_new nt), .inr ⟨t, z, j, r, rfl, upd_same, hjc, hj, hrm⟩⟩
            · exact ⟨_, _, _, rfl, s6, .inr hb6⟩
        · rintro σ H6 ⟨x7, x8, b, rfl, s6, ⟨_, e0⟩ | hb6⟩
          · rw [List.length_map] at e0
            omega
          · exact ⟨_, _, _, _, rfl, s6, .inr hb6⟩
      · have hjc : j ∈ cs := by simpa using e
        refine ⟨_, _, _, _, rfl, s5, hb.imp (fun h => ⟨h.1, fun c hc => ?_⟩) id⟩
        by_cases hcj : c = j
        · rw [hcj]; exact hjc
        · exact h.2 c (by omega)
    · rintro σ H5 ⟨x6, x7, x8, b, rfl, s5, ⟨_, hall⟩ | hb⟩
      · obtain ⟨c, hc, hcn⟩ := TR.out (by rw [hA4.ol]; exact hrow)
        exact absurd (hall c (by rw [hA4.ol] at hc; exact hc)) hcn
      · obtain ⟨a, z, c, r, rfl, ha, h1, h2, h3⟩ := hb
        refine ⟨_, rfl, a, _, rfl, SqT.of ha, rfl, _, _, rfl, _, _, rfl, _, _, rfl, rfl, ?_⟩
        have hA5 := hA4.same s5
        refine ⟨_, rfl, m.s, m.dx, _, rfl, hA5.hA, aF_no _ _ _ _ _ _ (by decide +kernel) (by decide +kernel) (by decide +kernel) (by decide +kernel) (by decide +kernel), _, rfl, _, rfl, _, rfl, m, ls4, rl4, os, pr, pc, rw', cs, z, rfl, hA5, s5 _ _ hr4, s5 _ _ hc4, wr, wc, hrwn, hcn, fun H6 ls6 rl6 c6 hA6 => ?_⟩
        have hr6 : H6 pr = some (.lst (nI rw')) := c6.keep pr _ (s5 _ _ hr4) (by simpa using ⟨wr.lf.symm, wr.rt.symm⟩)
        have hc6 : H6 pc = some (.lst (nI cs)) := c6.keep pc _ (s5 _ _ hc4) (by simpa using ⟨wc.lf.symm, wc.rt.symm⟩)
        have hb6 : H6 bd = some (.dK kvs) := c6.keep bd _ (s5 _ _ hb4) (by simpa using ⟨wb.lf.symm, wb.rt.symm⟩)
        have cc6 : Chg [m.lf, m.rt, m.ro] H H6 := (c4.same s5).trans (c6.mono (by intro b hb; simp at hb; rcases hb with rfl | rfl <;> simp))
        refine ⟨_, rfl, _, rfl, _, rfl, bd, _, rfl, .inl ⟨kvs, .inl (c : Int), hb6, rfl, smallL (by omega), rfl⟩, ?_⟩
        have cc7 : Chg [m.lf, m.rt, m.ro] H (upd H6 bd (.dK (putK kvs (.inl (c : Int)) (.int (r : Nat))))) := cc6.mut nbdH
        have hA7 : AsAt T.CA (upd H6 bd (.dK (putK kvs (.inl (c : Int)) (.int (r : Nat))))) m ls6 rl6 os := hA6.upd wb
        have hb7 : upd H6 bd (.dK (putK kvs (.inl (c : Int)) (.int (r : Nat)))) bd = some (.dK (putK kvs (.inl (c : Int)) (.int (r : Nat)))) := upd_same
        have hr7 : upd H6 bd (.dK (putK kvs (.inl (c : Int)) (.int (r : Nat)))) pr = some (.lst (nI rw')) := by rw [upd_ne nrb]; exact hr6
        have hc7 : upd H6 bd (.dK (putK kvs (.inl (c : Int)) (.int (r : Nat)))) pc = some (.lst (nI cs)) := by rw [upd_ne ncb]; exact hc6
        generalize upd H6 bd (.dK (putK kvs (.inl (c : Int)) (.int (r : Nat)))) = H7 at cc7 hA7 hb7 hr7 hc7
        have hcl : c < os.length := by rw [hA4.ol]; exact h2
        have hoc : os[c]? = some os[c] := List.getElem?_eq_getElem hcl
        refine ⟨_, rfl, m.s, T.CA, m.dx, _, _, rfl, hA7.hA, T.cA, T.nA_row_of, aF_row_of, _, rfl, m.ro, _, _, _, rfl, rfl, SqL.of hA7.hO, atI_nat (os_at hoc), rfl, _, rfl, ?_⟩
        cases hv : os[c] with
        | none =>
          rw [hv] at hoc
          obtain ⟨W, p⟩ := TR.way h1 hcl h3 hoc
          refine iteP (by decide +kernel) ?_
          refine ⟨_, rfl, m.s, m.dx, _, rfl, hA7.hA, aF_no _ _ _ _ _ _ (by decide +kernel) (by decide +kernel) (by decide +kernel) (by decide +kernel) (by decide +kernel), _, rfl, _, rfl, m, ls6, rl6, os, bd, _, row, c, cs.length, cs ++ [c], rw', rfl, hA7, hb7, ?_, by rw [← hA4.ol]; exact W, p, fun H8 os' c8 hA8 hF8 => ?_⟩
          · rw [List.getElem?_append_right (Nat.le_refl _), Nat.sub_self]
            rfl
          · exact q H8 ls6 rl6 os' (cc7.trans (c8.mono (by intro b hb; simp at hb; rcases hb with rfl; simp))) hA8 hF8
        | some r' =>
          rw [hv] at hoc
          refine iteN (fun e => by have := of_decide_eq_true e; cases this) ?_
          refine ⟨_, rfl, .inl ⟨rfl, _, SqL.of hc7⟩, _, rfl, pc, _, _, rfl, rfl, hc7, smallL (by rw [List.length_map]; omega), ?_⟩
          have ec : nI cs ++ [V.int (c : Nat)] = nI (cs ++ [c]) := by
            show cs.map _ ++ _ = (cs ++ [c]).map _
            rw [List.map_append]
            rfl
          rw [ec]
          have cc8 : Chg [m.lf, m.rt, m.ro] H (upd H7 pc (.lst (nI (cs ++ [c])))) := cc7.mut npcH
          have hA8 : AsAt T.CA (upd H7 pc (.lst (nI (cs ++ [c])))) m ls6 rl6 os := hA7.upd wc
          have hc8 : upd H7 pc (.lst (nI (cs ++ [c]))) pc = some (.lst (nI (cs ++ [c]))) := upd_same
          have hr8 : upd H7 pc (.lst (nI (cs ++ [c]))) pr = some (.lst (nI rw')) := by rw [upd_ne nrc]; exact hr7
          have hb8 : upd H7 pc (.lst (nI (cs ++ [c]))) bd = some (.dK (putK kvs (.inl (c : Int)) (.int (r : Nat)))) := by rw [upd_ne ncb.symm]; exact hb7
          generalize upd H7 pc (.lst (nI (cs ++ [c]))) = H8 at cc8 hA8 hc8 hr8 hb8
          refine ⟨_, rfl, .inl ⟨rfl, _, SqL.of hr8⟩, _, rfl, m.s, T.CA, m.dx, _, _, rfl, hA8.hA, T.cA, T.nA_row_of, aF_row_of, _, rfl, m.ro, _, _, _, rfl, rfl, SqL.of hA8.hO, atI_nat (os_at hoc), pr, _, _, rfl, rfl, hr8, smallL (by rw [List.length_map]; omega), ?_⟩
          have er : nI rw' ++ [nV (some r')] = nI (rw' ++ [r']) := by
            show rw'.map _ ++ _ = (rw' ++ [r']).map _
            rw [List.map_append]
            rfl
          rw [er]
          have hle := putK_le kvs (.inl (c : Int)) (.int (r : Nat))
          have hcs1 : (cs ++ [c]).length = cs.length + 1 := by rw [List.length_append]; rfl
          refine ⟨m.n + 1 - (cs ++ [c]).length, by omega, _, _, _, _, cs ++ [c], rw' ++ [r'], _, ls6, rl6, rfl, rfl, cc8.mut npr, hA8.upd wr, upd_same, by rw [upd_ne nrc.symm]; exact hc8, by rw [upd_ne nrb.symm]; exact hb8, by omega, TR.grow h1 hcl h3 hoc⟩
end
end Sg
namespace Sg
open PySem PySem.Spec PyProof.Rows L2
theorem cut_map (l : List Int) (a b : Option Int) : ∃ k : List Int, cutV (l.map V.int) a b = k.map V.int ∧ k.length = (cutV (l.map V.int) a b).length := by
  refine ⟨(l.drop (HT.sIx (l.map V.int).length 0 a)).take (HT.sIx (l.map V.int).length (l.map V.int).length b - HT.sIx (l.map V.int).length 0 a), ?_, ?_⟩
  · unfold cutV
    rw [← List.map_drop, ← List.map_take]
  · unfold cutV
    rw [← List.map_drop, ← List.map_take]
    rw [List.length_map (f := V.int)]
    simp
theorem cut_tail (l : List Int) (k : Nat) (h : k ≤ l.length) : (cutV (l.map V.int) (some (k : Int)) none).length = l.length - k := by
  unfold cutV
  rw [HT.sIx_none, HT.sIx_nat, List.length_map, List.length_take, List.length_drop, List.length_map, Nat.min_eq_left h]
  omega
/-! ### a full board -/
theorem full_new (n : Nat) : Full (List.replicate n none) 0 := by
  refine ⟨fun r hr => absurd hr (Nat.not_lt_zero _), fun c r e => ?_, fun c c' r e => ?_⟩
  · rw [List.getElem?_replicate] at e
    split at e <;> cases e
  · rw [List.getElem?_replicate] at e
    split at e <;> cases e
theorem Full.all {os : List (Option Nat)} (h : Full os os.length) : ∀ j, j < os.length → ∃ r : Nat, os[j]? = some (some r) := by
  intro j hj
  refine Classical.byContradiction fun no => ?_
  have hj0 : os[j]? = some none := by
    rw [List.getElem?_eq_getElem hj]
    cases e : os[j] with
    | none => rfl
    | some r => exact absurd ⟨r, by rw [List.getElem?_eq_getElem hj, e]⟩ no
  let f : Nat → Nat := fun r => if g : r < os.length then Classical.choose (h.ex r g) else 0
  have hf : ∀ r, r < os.length → os[f r]? = some (some r) := fun r g => by
    show os[if g : r < os.length then Classical.choose (h.ex r g) else 0]? = _
    rw [dif_pos g]
    exact Classical.choose_spec (h.ex r g)
  have nd : ((List.range os.length).map f).Nodup := by
    refine List.pairwise_map.mpr (List.Pairwise.imp_of_mem (R := fun a b => a ≠ b) (fun {a b} ha hb hab e => hab ?_) List.nodup_range)
    have ea := hf a (List.mem_range.mp ha)
    have eb := hf b (List.mem_range.mp hb)
    rw [e, eb] at ea
    cases ea
    rfl
  have hjn : j ∉ (List.range os.length).map f := fun z => by
    obtain ⟨r, hr, e⟩ := List.mem_map.mp z
    have := hf r (List.mem_range.mp hr)
    rw [e, hj0] at this
    cases this
  have := nd_le os.length (j :: (List.range os.length).map f) (List.nodup_cons.mpr ⟨hjn, nd⟩) fun x hx => by
    rcases List.mem_cons.mp hx with rfl | hx
    · exact hj
    · obtain ⟨r, hr, rfl⟩ := List.mem_map.mp hx
      exact (List.getElem?_eq_some_iff.mp (hf r (List.mem_range.mp hr))).1
  rw [List.length_cons, List.length_map, List.length_range] at this
  omega
theorem perm_of {l m : List Nat} (hl : l.Nodup) (hm : m.Nodup) (h : ∀ x, x ∈ l ↔ x ∈ m) : l.Perm m := by
  refine List.perm_iff_count.mpr fun a => ?_
  by_cases ha : a ∈ l
  · rw [hl.count, hm.count, if_pos ha, if_pos ((h a).mp ha)]
  · rw [List.count_eq_zero.mpr ha, List.count_eq_zero.mpr fun z => ha ((h a).mpr z)]
/-! ### deeds drawn up from the board -/
theorem lefts_app : ∀ (a b : List De), lefts (a ++ b) = lefts a ++ lefts b
  | [], _ => rfl
  | .undo i :: a, b => congrArg (i :: ·) (lefts_app a b)
  | .dn _ :: a, b => lefts_app a b
  | .change i _ :: a, b => congrArg (i :: ·) (lefts_app a b)
theorem rights_app : ∀ (a b : List De), rights (a ++ b) = rights a ++ rights b
  | [], _ => rfl
  | .undo _ :: a, b => rights_app a b
  | .dn j :: a, b => congrArg (j :: ·) (rights_app a b)
  | .change _ j :: a, b => congrArg (j :: ·) (rights_app a b)
/-- behind i calls there and j calls here -/
structure Drawn (os : List (Option Nat)) (n m i j : Nat) (ds : List De) : Prop where
  l : lefts ds = List.range i
  nd : (rights ds).Nodup
  r : ∀ x, x ∈ rights ds ↔ x < m ∧ ∃ r : Nat, os[x]? = some (some r) ∧ (r < i ∨ (n ≤ r ∧ x < j))
  len : ds.length ≤ i + j
theorem Drawn.new (os : List (Option Nat)) (n m : Nat) : Drawn os n m 0 0 [] := by
  refine ⟨rfl, List.nodup_nil, fun x => ⟨fun h => (by cases h), fun h => ?_⟩, Nat.le_refl _⟩
  obtain ⟨_, r, _, h | ⟨_, h⟩⟩ := h <;> exact absurd h (Nat.not_lt_zero _)
section
variable {os : List (Option Nat)} {n m i j k c r : Nat} {ds : List De}
theorem Drawn.change (h : Drawn os n m i 0 ds) (F : Full os k) (e : os[c]? = some (some i)) (hc : c < m) : Drawn os n m (i + 1) 0 (ds ++ [.change i c]) := by
  have hno : c ∉ rights ds := fun z => by
    obtain ⟨_, r, hr, h' | ⟨_, h'⟩⟩ := (h.r c).mp z
    · rw [e] at hr
      cases hr
      exact Nat.lt_irrefl _ h'
    · exact absurd h' (Nat.not_lt_zero _)
  refine ⟨by rw [lefts_app, h.l, List.range_succ]; rfl, ?_, fun x => ?_, ?_⟩
  · rw [rights_app]
    exact nd_snoc h.nd hno
  · rw [rights_app, List.mem_append, h.r x]
    constructor
    · rintro (⟨h1, r, h2, h3 | ⟨_, h3⟩⟩ | h1)
      · exact ⟨h1, r, h2, .inl (by omega)⟩
      · exact absurd h3 (Nat.not_lt_zero _)
      · rw [show x = c from List.mem_singleton.mp h1]
        exact ⟨hc, i, e, .inl (Nat.lt_succ_self _)⟩
    · rintro ⟨h1, r, h2, h3 | ⟨_, h3⟩⟩
      · by_cases hri : r = i
        · subst hri
          exact .inr (List.mem_singleton.mpr (F.inj x c r h2 e))
        · exact .inl ⟨h1, r, h2, .inl (by omega)⟩
      · exact absurd h3 (Nat.not_lt_zero _)
  · have := h.len
    rw [List.length_append, List.length_singleton]
    omega
theorem Drawn.undo (h : Drawn os n m i 0 ds) (F : Full os k) (e : os[c]? = some (some i)) (hc : ¬ c < m) : Drawn os n m (i + 1) 0 (ds ++ [.undo i]) := by
  refine ⟨by rw [lefts_app, h.l, List.range_succ]; rfl, ?_, fun x => ?_, ?_⟩
  · rw [rights_app]
    show (rights ds ++ []).Nodup
    rw [List.append_nil]
    exact h.nd
  · rw [rights_app]
    show x ∈ rights ds ++ [] ↔ _
    rw [List.append_nil, h.r x]
    constructor
    · rintro ⟨h1, r, h2, h3 | ⟨_, h3⟩⟩
      · exact ⟨h1, r, h2, .inl (by omega)⟩
      · exact absurd h3 (Nat.not_lt_zero _)
    · rintro ⟨h1, r, h2, h3 | ⟨_, h3⟩⟩
      · by_cases hri : r = i
        · subst hri
          rw [F.inj x c r h2 e] at h1
          exact absurd h1 hc
        · exact ⟨h1, r, h2, .inl (by omega)⟩
      · exact absurd h3 (Nat.not_lt_zero _)
  · have := h.len
    rw [List.length_append, List.length_singleton]
    omega
theorem Drawn.dn (h : Drawn os n m n j ds) (e : os[j]? = some (some r)) (hr : n ≤ r) (hj : j < m) : Drawn os n m n (j + 1) (ds ++ [.dn j]) := by
  have hno : j ∉ rights ds := fun z => by
    obtain ⟨_, r', hr', h' | ⟨_, h'⟩⟩ := (h.r j).mp z
    · rw [e] at hr'
      cases hr'
      omega
    · exact Nat.lt_irrefl _ h'
  refine ⟨?_, ?_, fun x => ?_, ?_⟩
  · rw [lefts_app, h.l]
    show List.range n ++ [] = _
    rw [List.append_nil]
  · rw [rights_app]
    exact nd_snoc h.nd hno
  · rw [rights_app, List.mem_append, h.r x]
    constructor
    · rintro (⟨h1, r', h2, h3 | ⟨h3, h4⟩⟩ | h1)
      · exact ⟨h1, r', h2, .inl h3⟩
      · exact ⟨h1, r', h2, .inr ⟨h3, by omega⟩⟩
      · rw [show x = j from List.mem_singleton.mp h1]
        exact ⟨hj, r, e, .inr ⟨hr, Nat.lt_succ_self _⟩⟩
    · rintro ⟨h1, r', h2, h3 | ⟨h3, h4⟩⟩
      · exact .inl ⟨h1, r', h2, .inl h3⟩
      · by_cases hxj : x = j
        · exact .inr (List.mem_singleton.mpr hxj)
        · exact .inl ⟨h1, r', h2, .inr ⟨h3, by omega⟩⟩
  · have := h.len
    rw [List.length_append, List.length_singleton]
    omega
theorem Drawn.skip (h : Drawn os n m n j ds) (e : os[j]? = some (some r)) (hr : ¬ n ≤ r) : Drawn os n m n (j + 1) ds := by
  refine ⟨h.l, h.nd, fun x => ?_, by have := h.len; omega⟩
  rw [h.r x]
  constructor
  · rintro ⟨h1, r', h2, h3 | ⟨h3, h4⟩⟩
    · exact ⟨h1, r', h2, .inl h3⟩
    · exact ⟨h1, r', h2, .inr ⟨h3, by omega⟩⟩
  · rintro ⟨h1, r', h2, h3 | ⟨h3, h4⟩⟩
    · exact ⟨h1, r', h2, .inl h3⟩
    · by_cases hxj : x = j
      · subst hxj
        rw [e] at h2
        cases h2
        exact absurd h3 hr
      · exact ⟨h1, r', h2, .inr ⟨h3, by omega⟩⟩
theorem Drawn.plan (h : Drawn os n m n m ds) (F : Full os os.length) (hm : m ≤ os.length) : PlanOk n m ds := by
  refine ⟨by rw [h.l], perm_of h.nd List.nodup_range fun x => ?_, h.len⟩
  rw [h.r x, List.mem_range]
  refine ⟨fun z => z.1, fun z => ⟨z, ?_⟩⟩
  obtain ⟨r, hr⟩ := F.all x (by omega)
  refine ⟨r, hr, ?_⟩
  by_cases hrn : r < n
  · exact .inl hrn
  · exact .inr ⟨by omega, z⟩
end
section
variable {P : Program} {w : World} {K : PySem.W.Frag} {mg : Str → Option Value} {base : Heap}
def spPaper (C : Addr) : Sp := fun vs H Q _ => ∃ (m : Am) (ls rl : List Int) (os : List (Option Nat)) (a b : Nat), vs = [.ref m.s, .int (a : Nat), .int (b : Nat)] ∧ AsAt C H m ls rl os ∧ a + b = m.n ∧ m.n ≤ 8 ∧ ∀ (H' : Hp) (v : V), Same H H' → Q v H'
theorem ok_made_paper (T : Tx K mg) : FnOk P w K mg base CX0 1 T.made_paper.f T.made_paper.fd ["assignment", "there", "here"] (spPaper T.CA) := by
  refine T.made_paper.F.ok sc_made_paper (fun vs H Q E h => ?_) (fun cdv A outer s H vs Q E hr h => ?_)
  · obtain ⟨m, ls, rl, os, a, b, rfl, _⟩ := h
    rfl
  · obtain ⟨m, ls, rl, os, a, b, rfl, hA, hab, hn8, q⟩ := h
    refine ⟨_, (pss_cons (ps_set (i := 3) sc_made_paper.nd rfl (by first | exact Or.inl rfl | exact Or.inr rfl) (pe_slice sl_list (pe_fld (pv 0) rfl) po_none (po_some (pv 1))))
    (pss_cons (ps_set (i := 4) sc_made_paper.nd rfl (by first | exact Or.inl rfl | exact Or.inr rfl) (pe_slice sl_list (pe_fld (pv 0) rfl) po_none (po_some (pv 2))))
    (C8.pss_cut (ps_if (pt_cmpR op_gt (pv 1) pe_int (nomark _))
        (pss_cons (ps_set (i := 5) sc_made_paper.nd rfl (by first | exact Or.inl rfl | exact Or.inr rfl) (pe_callB (cr_max rfl) (by rfl) T.z_max (by decide +kernel) (pa_cons (pe_slice sl_list (pe_fld (pv 0) rfl) (po_some (pv 2)) po_none) pa_nil)))
        (pss_one (ps_setLc (i := 3) (own := [("left", 6)]) (g := gName 6) (tt := tYes) rfl sc_made_paper.nd rfl rfl (sw_true rfl rfl rfl (by decide +kernel)) (pi_list (pv 3)) (blkOk_by (own := [("left", 6)]) (N := n_made_paper) (sc := defScope s_made_paper) (by decide +kernel)) (fun _ _ _ _ _ => pg_name (i := 6) sc_made_paper.nd rfl (by first | exact Or.inl rfl | exact Or.inr rfl)) (fun _ _ _ _ _ => pts_nil) (fun _ _ _ _ _ => (pe_op op_add (pv 6) (pv 5))))))
        pss_nil)
    (C8.pss_cut (ps_if (pt_cmpR op_gt (pv 2) pe_int (nomark _))
        (pss_cons (ps_set (i := 5) sc_made_paper.nd rfl (by first | exact Or.inl rfl | exact Or.inr rfl) (pe_callB (cr_max rfl) (by rfl) T.z_max (by decide +kernel) (pa_cons (pe_slice sl_list (pe_fld (pv 0) rfl) (po_some (pv 1)) po_none) pa_nil)))
        (pss_one (ps_setLc (i := 4) (own := [("right", 7)]) (g := gName 7) (tt := tYes) rfl sc_made_paper.nd rfl rfl (sw_true rfl rfl rfl (by decide +kernel)) (pi_list (pv 4)) (blkOk_by (own := [("right", 7)]) (N := n_made_paper) (sc := defScope s_made_paper) (by decide +kernel)) (fun _ _ _ _ _ => pg_name (i := 7) sc_made_paper.nd rfl (by first | exact Or.inl rfl | exact Or.inr rfl)) (fun _ _ _ _ _ => pts_nil) (fun _ _ _ _ _ => (pe_op op_add (pv 7) (pv 5))))))
        pss_nil)
    (pss_one (ps_ret (pe_tup (pa_cons (pv 3) (pa_cons (pv 4) pa_nil))))))))), ?_⟩
    obtain ⟨l1, e1, k1⟩ := cut_map ls none (some (a : Int))
    obtain ⟨l2, e2, k2⟩ := cut_map rl none (some (b : Int))
    have g1 : l1.length ≤ 8 := by
      have := cutV_length (ls.map V.int) none (some (a : Int))
      rw [List.length_map, hA.ll] at this
      omega
    have g2 : l2.length ≤ 8 := by
      have := cutV_length (rl.map V.int) none (some (b : Int))
      rw [List.length_map, hA.tl] at this
      omega
    refine ⟨_, rfl, m.s, T.CA, m.dx, _, _, rfl, hA.hA, T.cA, T.nA_lefts, aF_lefts, _, rfl, _, rfl, m.lf, _, rfl, SqL.of hA.hL, fun p np => ?_⟩
    rw [e1]
    have s1 : Same H (upd H p (.lst (l1.map V.int))) := same_new np
    have hp1 : upd H p (.lst (l1.map V.int)) p = some (.lst (l1.map V.int)) := upd_same
    generalize upd H p (.lst (l1.map V.int)) = H1 at s1 hp1
    have hA1 := hA.same s1
    refine ⟨_, rfl, m.s, T.CA, m.dx, _, _, rfl, hA1.hA, T.cA, T.nA_rights, aF_rights, _, rfl, _, rfl, m.rt, _, rfl, SqL.of hA1.hT, fun r nr => ?_⟩
    rw [e2]
    have s2 : Same H1 (upd H1 r (.lst (l2.map V.int))) := same_new nr
    have hr2 : upd H1 r (.lst (l2.map V.int)) r = some (.lst (l2.map V.int)) := upd_same
    generalize upd H1 r (.lst (l2.map V.int)) = H2 at s2 hr2
    have hA2 := hA1.same s2
    have s02 := s1.trans s2
    refine ⟨fun σ H3 => ∃ (p : Addr) (x5 : Option V), σ = [some (.ref m.s), some (.int (a : Nat)), some (.int (b : Nat)), some (.ref p), some (.ref r), x5, none, none] ∧ Same H H3 ∧ H3 r = some (.lst (l2.map V.int)), ?_, ?_⟩
    · refine ⟨_, rfl, _, _, rfl, rfl, _, rfl, ite2 (fun e => ?_) (fun e => ⟨p, none, rfl, s02, hr2⟩)⟩
      have e' : (0 : Int) < (a : Int) := of_decide_eq_true e
      obtain ⟨l3, e3, k3⟩ := cut_map rl (some (b : Int)) none
      have hl3 : 0 < l3.length := by
        rw [k3, cut_tail rl b (by rw [hA.tl]; omega), hA.tl]
        omega
      refine ⟨_, rfl, m.s, T.CA, m.dx, _, _, rfl, hA2.hA, T.cA, T.nA_rights, aF_rights, _, rfl, _, rfl, m.rt, _, rfl, SqL.of hA2.hT, fun u nu => ?_⟩
      rw [e3]
      have s3 : Same H2 (upd H2 u (.lst (l3.map V.int))) := same_new nu
      have hu3 : upd H2 u (.lst (l3.map V.int)) u = some (.lst (l3.map V.int)) := upd_same
      generalize upd H2 u (.lst (l3.map V.int)) = H3 at s3 hu3
      refine ⟨u, l3, rfl, SqL.of hu3, hl3, fun z _ _ => ?_⟩
      have hp3 := s3 _ _ (s2 _ _ hp1)
      refine ⟨_, rfl, p, rfl, ⟨_, SqL.of hp3⟩, fun D nD => ?_⟩
      refine lc_list (K := K) (a := p) (xs := l1.map V.int) (fun j H4 => Same H3 H4 ∧ ∃ ns : List Int, ns.length = j ∧ H4 D = some (.lst (ns.map V.int))) ⟨same_new nD, [], rfl, upd_same⟩ (fun j H4 _ g => SqL.of (g.1 _ _ hp3)) ?_ ?_
      · rintro j x H4 hj ⟨s4, ns, hl, hD4⟩
        refine ⟨rfl, ?_⟩
        have jl := (List.getElem?_eq_some_iff.mp hj).1
        rw [List.length_map] at jl
        rw [List.getElem?_map] at hj
        obtain ⟨xi, _, rfl⟩ := Option.map_eq_some_iff.mp hj
        refine ⟨_, rfl, _, rfl, _, _, rfl, rfl, _, hD4, ?_, same_mut s4 nD, ns ++ [xi + z], ?_, ?_⟩
        · rw [List.length_map]
          exact smallL (by omega)
        · rw [List.length_append, hl]
          rfl
        · rw [upd_same, List.map_append]
          rfl
      · rintro H4 ⟨s4, ns, hl, hD4⟩
        exact ⟨D, _, rfl, (s02.trans s3).trans s4, s4 _ _ (s3 _ _ hr2)⟩
    · rintro σ H3 ⟨p, x5, rfl, s3, hr3⟩
      have hA3 := hA.same s3
      refine ⟨fun σ H4 => ∃ (p r : Addr) (x5 : Option V), σ = [some (.ref m.s), some (.int (a : Nat)), some (.int (b : Nat)), some (.ref p), some (.ref r), x5, none, none] ∧ Same H H4, ?_, ?_⟩
      · refine ⟨_, rfl, _, _, rfl, rfl, _, rfl, ite2 (fun e => ?_) (fun e => ⟨p, r, _, rfl, s3⟩)⟩
        have e' : (0 : Int) < (b : Int) := of_decide_eq_true e
        obtain ⟨l3, e3, k3⟩ := cut_map ls (some (a : Int)) none
        have hl3 : 0 < l3.length := by
          rw [k3, cut_tail ls a (by rw [hA.ll]; omega), hA.ll]
          omega
        refine ⟨_, rfl, m.s, T.CA, m.dx, _, _, rfl, hA3.hA, T.cA, T.nA_lefts, aF_lefts, _, rfl, _, rfl, m.lf, _, rfl, SqL.of hA3.hL, fun u nu => ?_⟩
        rw [e3]
        have s4 : Same H3 (upd H3 u (.lst (l3.map V.int))) := same_new nu
        have hu4 : upd H3 u (.lst (l3.map V.int)) u = some (.lst (l3.map V.int)) := upd_same
        generalize upd H3 u (.lst (l3.map V.int)) = H4 at s4 hu4
        refine ⟨u, l3, rfl, SqL.of hu4, hl3, fun z _ _ => ?_⟩
        have hr4 := s4 _ _ hr3
        refine ⟨_, rfl, r, rfl, ⟨_, SqL.of hr4⟩, fun D nD => ?_⟩
        refine lc_list (K := K) (a := r) (xs := l2.map V.int) (fun j H5 => Same H4 H5 ∧ ∃ ns : List Int, ns.length = j ∧ H5 D = some (.lst (ns.map V.int))) ⟨same_new nD, [], rfl, upd_same⟩ (fun j H4 _ g => SqL.of (g.1 _ _ hr4)) ?_ ?_
        · rintro j x H5 hj ⟨s5, ns, hl, hD5⟩
          refine ⟨rfl, ?_⟩
          have jl := (List.getElem?_eq_some_iff.mp hj).1
          rw [List.length_map] at jl
          rw [List.getElem?_map] at hj
          obtain ⟨xi, _, rfl⟩ := Option.map_eq_some_iff.mp hj
          refine ⟨_, rfl, _, rfl, _, _, rfl, rfl, _, hD5, ?_, same_mut s5 nD, ns ++ [xi + z], ?_, ?_⟩
          · rw [List.length_map]
            exact smallL (by omega)
          · rw [List.length_append, hl]
            rfl
          · rw [upd_same, List.map_append]
            rfl
        · rintro H5 ⟨s5, ns, hl, hD5⟩
          exact ⟨p, D, _, rfl, (s3.trans s4).trans s5⟩
      · rintro σ H4 ⟨p, r, x5, rfl, s4⟩
        exact ⟨_, rfl, _, rfl, (by show 2 ≤ sizeLine; decide), fun t nt => q _ _ (s4.trans (same_new nt))⟩
/-! ### plan -/
def spPlan (K : PySem.W.Frag) (CP : Addr) : Sp := fun vs H Q _ => ∃ (t h o dx p : Addr) (f : Ef → Pc) (tc hc : List Cl), vs = [.ref t, .ref h, .ref o] ∧ LstD K H t (tc.map encC) ∧ LstD K H h (hc.map encC) ∧ PrAt K CP H o dx p f ∧ tc.length ≤ 4 ∧ hc.length ≤ 4 ∧ (∀ c ∈ tc, c.args.length ≤ 2) ∧
  ∀ (H' : Hp) (u d : Addr) (v : V) (ds : List De), Chg [] H H' → H' u = some (.tup [.ref d, v]) → H d = none → LstD K H' d (ds.map encDe) → PlanOk tc.length hc.length ds → Q (.ref u) H'
theorem ok_plan (T : Tx K mg) : FnOk P w K mg base CX0 5 T.plan.f T.plan.fd ["there", "here", "prices"] (spPlan K T.CP) := by
  refine T.plan.F.ok sc_plan (fun vs H Q E h => ?_) (fun cdv A outer s H vs Q E hr h => ?_)
  · obtain ⟨t, h, o, dx, p, f, tc, hc, rfl, _⟩ := h
    rfl
  · obtain ⟨t, h, o, dx, p, f, tc, hc, rfl, hT, hH, hP, htl, hhl, hta, q⟩ := h
    obtain ⟨tk, hmc⟩ := T.m_MOST_CALLS
    refine ⟨_, (pss_cons (ps_set (i := 3) sc_plan.nd rfl (by first | exact Or.inl rfl | exact Or.inr rfl) (pe_make T.C_init.mK (ok_C_init T) (hr.mono (by decide)) (by rfl) T.gC T.C_init.b .nil pass0 (pa_cons (pv 0) (pa_cons (pv 1) (pa_cons (pv 2) pa_nil)))))
    (pss_cons (ps_if (pw_or (pt_cmpR op_gt (pe_callB call_len_seq (by rfl) T.z_len PySem.boot_len (pa_cons (pv 0) pa_nil)) (pe_glob (v := .int 12) (by rfl) hmc ⟨_, rfl⟩) (nomark _)) (pw_or1 (pt_cmpR op_gt (pe_callB call_len_seq (by rfl) T.z_len PySem.boot_len (pa_cons (pv 1) pa_nil)) (pe_glob (v := .int 12) (by rfl) hmc ⟨_, rfl⟩) (nomark _)))).pt
        (pss_one ps_never)
        pss_nil)
    (pss_cons (ps_set (i := 4) sc_plan.nd rfl (by first | exact Or.inl rfl | exact Or.inr rfl) (pe_make T.A_init.mK (ok_A_init T) (hr.mono (by decide)) (by rfl) T.gA T.A_init.b .nil pass0 (pa_cons (pe_call (ok_square T) (hr.mono (by decide)) (by rfl) T.square.g T.square.F.kp T.square.b .nil pass0 (pa_cons (pv 3) pa_nil)) pa_nil)))
    (pss_cons (ps_for PassesOwn.never rfl (pi_range1 (by rfl) T.z_range (pa_cons (pe_fld (pv 4) rfl) pa_nil)) (pg_name (i := 5) sc_plan.nd rfl (by first | exact Or.inl rfl | exact Or.inr rfl))
        (pss_one (ps_expr (pe_meth (pv 4) T.cA T.A_add.m (ok_A_add T) (hr.mono (by decide)) T.A_add.b .nil pass0 (pa_cons (pv 5) pa_nil)))))
    (pss_cons (ps_set (i := 6) sc_plan.nd rfl (by first | exact Or.inl rfl | exact Or.inr rfl) (pe_lst pa_nil))
    (pss_cons (ps_for PassesOwn.never rfl (pi_range1 (by rfl) T.z_range (pa_cons (pe_callB call_len_seq (by rfl) T.z_len PySem.boot_len (pa_cons (pv 0) pa_nil)) pa_nil)) (pg_name (i := 7) sc_plan.nd rfl (by first | exact Or.inl rfl | exact Or.inr rfl))
        (pss_cons (ps_set (i := 8) sc_plan.nd rfl (by first | exact Or.inl rfl | exact Or.inr rfl) (pe_meth (pv 4) T.cA T.A_column_of.m (ok_A_column_of T) (hr.mono (by decide)) T.A_column_of.b .nil pass0 (pa_cons (pv 7) pa_nil)))
        (pss_one (ps_expr (pe_bm PySem.F.plainAttrs_list PySem.F.slot_list_append PySem.F.type_list_append mt_append (pv 6) (pa_cons (pe_ifExp (pt_cmpR op_lt (pv 8) (pe_callB call_len_seq (by rfl) T.z_len PySem.boot_len (pa_cons (pv 1) pa_nil)) (nomark _)) (pe_tup (pa_cons pe_str (pa_cons (pv 7) (pa_cons (pv 8) pa_nil)))) (pe_tup (pa_cons pe_str (pa_cons (pv 7) pa_nil)))) pa_nil))))))
    (pss_cons (ps_for PassesOwn.never rfl (pi_range1 (by rfl) T.z_range (pa_cons (pe_callB call_len_seq (by rfl) T.z_len PySem.boot_len (pa_cons (pv 1) pa_nil)) pa_nil)) (pg_name (i := 9) sc_plan.nd rfl (by first | exact Or.inl rfl | exact Or.inr rfl))
        (pss_one (ps_if (pt_cmpR op_ge (pe_ix ix_list (pe_fld (pv 4) rfl) (pv 9) (fun _ _ => rfl)) (pe_callB call_len_seq (by rfl) T.z_len PySem.boot_len (pa_cons (pv 0) pa_nil)) (nomark _))
            (pss_one (ps_expr (pe_bm PySem.F.plainAttrs_list PySem.F.slot_list_append PySem.F.type_list_append mt_append (pv 6) (pa_cons (pe_tup (pa_cons pe_str (pa_cons (pv 9) pa_nil))) pa_nil))))
            pss_nil)))
    (pss_one (ps_ret (pe_tup (pa_cons (pv 6) (pa_cons (pe_call (ok_made_paper T) (hr.mono (by decide)) (by rfl) T.made_paper.g T.made_paper.F.kp T.made_paper.b .nil pass0 (pa_cons (pv 4) (pa_cons (pe_callB call_len_seq (by rfl) T.z_len PySem.boot_len (pa_cons (pv 0) pa_nil)) (pa_cons (pe_callB call_len_seq (by rfl) T.z_len PySem.boot_len (pa_cons (pv 1) pa_nil)) pa_nil)))) pa_nil)))))))))))), ?_⟩
    obtain ⟨tv, ht, htd⟩ := id hT
    obtain ⟨hv, hh, hhd⟩ := id hH
    have tvl : tv.length = tc.length := by rw [dpa_length htd, List.length_map]
    have hvl : hv.length = hc.length := by rw [dpa_length hhd, List.length_map]
    -- costs
    refine ⟨_, rfl, _, rfl, _, rfl, fun x dx1 hx hdx hne => ?_⟩
    have hx' : upd H dx1 (.own x) x = none := by rw [upd_ne (Ne.symm hne)]; exact hx
    have s1 : Same H (upd (upd H dx1 (.own x)) x (.ins T.CC dx1 [])) := (same_new hdx).trans (same_new hx')
    have hx1 : upd (upd H dx1 (.own x)) x (.ins T.CC dx1 []) x = some (.ins T.CC dx1 []) := upd_same
    generalize upd (upd H dx1 (.own x)) x (.ins T.CC dx1 []) = H1 at s1 hx1
    have cs1 : Chg [] H H1 := Chg.of_same s1
    refine ⟨x, dx1, t, h, o, dx, p, f, tc, hc, rfl, hx1, cs1.lstD hT (by simp) (noLs_encC _), cs1.lstD hH (by simp) (noLs_encC _), cs1.prAt hP (by simp) (by simp), htl, hhl, hta, fun H2 u d c us dl as c2 hC eu ed => ⟨rfl, ?_⟩⟩
    have c02 : Chg [] H H2 := Chg.drop ((cs1.mono (by simp)).trans c2) hx
    have ht2 : H2 t = some (.lst tv) := c02.keep t _ ht (by simp)
    have hh2 : H2 h = some (.lst hv) := c02.keep h _ hh (by simp)
    refine ⟨_, rfl, t, _, rfl, .inl (SqL.of ht2), _, _, rfl, rfl, _, rfl, ite2 (fun e => ?_) (fun _ => ?_)⟩
    · have := of_decide_eq_true e
      omega
    refine ⟨_, rfl, h, _, rfl, .inl (SqL.of hh2), _, _, rfl, rfl, _, rfl, ite2 (fun e => ?_) (fun _ => ?_)⟩
    · have := of_decide_eq_true e
      omega
    -- assignment
    refine ⟨_, rfl, x, dx1, u, d, c, us, dl, as, rfl, hC, by omega, by omega, fun H3 r bs s3 nr hr3 hbl hI => ?_⟩
    have c03 := c02.same s3
    refine fun x4 dx4 hx4 hdx4 hne4 => ?_
    have hx4' : upd H3 dx4 (.own x4) x4 = none := by rw [upd_ne (Ne.symm hne4)]; exact hx4
    have s4 : Same H3 (upd (upd H3 dx4 (.own x4)) x4 (.ins T.CA dx4 [])) := (same_new hdx4).trans (same_new hx4')
    have hx4i : upd (upd H3 dx4 (.own x4)) x4 (.ins T.CA dx4 []) x4 = some (.ins T.CA dx4 []) := upd_same
    generalize upd (upd H3 dx4 (.own x4)) x4 (.ins T.CA dx4 []) = H4 at s4 hx4i
    have c04 := c03.same s4
    refine ⟨x4, dx4, r, bs, us.length + dl.length, rfl, hx4i, s4 _ _ hr3, hI.keep fun a _ o e => s4 _ _ e, hbl, by omega, fun H5 m ls rl c5 hms hmn f1 f2 f3 hA5 => ⟨rfl, ?_⟩⟩
    subst hms
    have c05 : Chg [] H H5 := Chg.drop ((c04.mono (by simp)).trans c5) (c03.free hx4)
    have g1 := c04.free f1
    have g2 := c04.free f2
    have g3 := c04.free f3
    have hmn' : m.n = tc.length + hc.length := by omega
    refine ⟨_, rfl, m.s, T.CA, m.dx, _, _, rfl, hA5.hA, T.cA, T.nA_size, aF_size, _, rfl, by omega, by omega, ?_⟩
    have en : ((m.n : Nat) : Int).toNat = m.n := rfl
    rw [en]
    refine for_range (n := m.n) (fun j σ H6 => ∃ (x5 : Option V) (ls rl : List Int) (os : List (Option Nat)), σ = [some (.ref t), some (.ref h), some (.ref o), some (.ref x), some (.ref m.s), x5, none, none, none, none] ∧ Chg [] H H6 ∧ AsAt T.CA H6 m ls rl os ∧ Full os j)
      ⟨none, ls, rl, _, rfl, c05, hA5, full_new _⟩ ?_ ?_
    · rintro j σ H6 hj ⟨x5, ls6, rl6, os6, rfl, c6, hA6, hF6⟩
      have ej : (0 : Int) + (j : Int) = (j : Int) := Int.zero_add _
      rw [ej]
      refine ⟨_, rfl, m.s, m.dx, _, rfl, hA6.hA, aF_no _ _ _ _ _ _ (by decide +kernel) (by decide +kernel) (by decide +kernel) (by decide +kernel) (by decide +kernel), _, rfl, m, ls6, rl6, os6, j, rfl, hA6, hF6, hj, by omega, fun H7 ls7 rl7 os7 c7 hA7 hF7 => ?_⟩
      exact ⟨_, ls7, rl7, os7, rfl, (((c6.mono (by simp)).trans c7).drop g1 |>.drop g2 |>.drop g3), hA7, hF7⟩
    rintro σ H6 ⟨x5, ls6, rl6, os, rfl, c6, hA6, hF6⟩
    have hol : os.length = m.n := hA6.ol
    -- deeds
    refine ⟨Nat.zero_le _, fun dd nd => ?_⟩
    have s7 : Same H6 (upd H6 dd (.lst [])) := same_new nd
    have hd7 : upd H6 dd (.lst []) dd = some (.lst []) := upd_same
    have wd := hA6.aw nd
    generalize upd H6 dd (.lst []) = H7 at s7 hd7
    have nddH : H dd = none := c6.free nd
    have c07 := c6.same s7
    refine ⟨_, rfl, t, _, rfl, .inl (SqL.of (c07.keep t _ ht (by simp))), _, rfl, by omega, by omega, ?_⟩
    have et : ((tv.length : Nat) : Int).toNat = tc.length := tvl
    rw [et]
    refine for_range (n := tc.length) (fun i σ H8 => ∃ (x7 x8 : Option V) (ds : List De), σ = [some (.ref t), some (.ref h), some (.ref o), some (.ref x), some (.ref m.s), x5, some (.ref dd), x7, x8, none] ∧ Chg [] H H8 ∧ AsAt T.CA H8 m ls6 rl6 os ∧ LstD K H8 dd (ds.map encDe) ∧ Drawn os tc.length hc.length i 0 ds)
      ⟨none, none, [], rfl, c07, hA6.same s7, ⟨[], hd7, .nil⟩, Drawn.new _ _ _⟩ ?_ ?_
    · rintro i σ H8 hi ⟨x7, x8, ds, rfl, c8, hA8, ⟨dv, hdv, hdd⟩, hD8⟩
      have ej : (0 : Int) + (i : Int) = (i : Int) := Int.zero_add _
      rw [ej]
      have hdvl : dv.length ≤ 8 := by
        rw [dpa_length hdd, List.length_map]
        have := hD8.len
        omega
      refine ⟨_, rfl, m.s, m.dx, _, rfl, hA8.hA, aF_no _ _ _ _ _ _ (by decide +kernel) (by decide +kernel) (by decide +kernel) (by decide +kernel) (by decide +kernel), _, rfl, m, ls6, rl6, os, i, rfl, hA8, fun H9 s9 => ⟨fun c hc' => ?_, fun hno => ?_⟩⟩
      · have hdv9 := s9 _ _ hdv
        have hdd9 := (Chg.of_same (S := []) s9).dps _ _ (noLs_map noL_encDe _) hdd
        have c9 := c8.same s9
        have hh9 : H9 h = some (.lst hv) := c9.keep h _ hh (by simp)
        refine ⟨_, rfl, .inl ⟨rfl, _, SqL.of hdv9⟩, _, rfl, _, rfl, h, _, rfl, .inl (SqL.of hh9), _, _, rfl, rfl, _, rfl, ite2 (fun e => ?_) (fun e => ?_)⟩
        · have e' : (c : Int) < (hv.length : Int) := of_decide_eq_true e
          refine ⟨_, rfl, _, rfl, (by show 3 ≤ sizeLine; decide), fun tp ntp => ?_⟩
          have s10 : Same H9 (upd H9 tp (.tup [.str "change", .int (i : Nat), .int (c : Nat)])) := same_new ntp
          have ht10 : upd H9 tp (.tup [.str "change", .int (i : Nat), .int (c : Nat)]) tp = some (.tup [.str "change", .int (i : Nat), .int (c : Nat)]) := upd_same
          generalize upd H9 tp (.tup [.str "change", .int (i : Nat), .int (c : Nat)]) = H10 at s10 ht10
          have hdv10 := s10 _ _ hdv9
          refine ⟨dd, dv, _, rfl, rfl, hdv10, smallL (by omega), ?_⟩
          have cc : Chg [dd] H10 (upd H10 dd (.lst (dv ++ [.ref tp]))) := Chg.put hdv10 rfl (by simp)
          refine ⟨_, _, ds ++ [.change i c], rfl, (c9.same s10).mut nddH, (hA8.same (s9.trans s10)).upd wd, ⟨_, upd_same, ?_⟩, hD8.change hF6 hc' (by omega)⟩
          rw [List.map_append]
          exact dpa_snoc (cc.dps _ _ (noLs_map noL_encDe _) ((Chg.of_same (S := []) s10).dps _ _ (noLs_map noL_encDe _) hdd9)) (.tup (cc.sqT (SqT.of ht10)) (.cons (.str _) (.cons (.int _) (.cons (.int _) .nil))))
        · have e' : ¬ ((c : Int) < (hv.length : Int)) := fun z => e (decide_eq_true z)
          refine ⟨_, rfl, (by show 2 ≤ sizeLine; decide), fun tp ntp => ?_⟩
          have s10 : Same H9 (upd H9 tp (.tup [.str "undo", .int (i : Nat)])) := same_new ntp
          have ht10 : upd H9 tp (.tup [.str "undo", .int (i : Nat)]) tp = some (.tup [.str "undo", .int (i : Nat)]) := upd_same
          generalize upd H9 tp (.tup [.str "undo", .int (i : Nat)]) = H10 at s10 ht10
          have hdv10 := s10 _ _ hdv9
          refine ⟨dd, dv, _, rfl, rfl, hdv10, smallL (by omega), ?_⟩
          have cc : Chg [dd] H10 (upd H10 dd (.lst (dv ++ [.ref tp]))) := Chg.put hdv10 rfl (by simp)
          refine ⟨_, _, ds ++ [.undo i], rfl, (c9.same s10).mut nddH, (hA8.same (s9.trans s10)).upd wd, ⟨_, upd_same, ?_⟩, hD8.undo hF6 hc' (by omega)⟩
          rw [List.map_append]
          exact dpa_snoc (cc.dps _ _ (noLs_map noL_encDe _) ((Chg.of_same (S := []) s10).dps _ _ (noLs_map noL_encDe _) hdd9)) (.tup (cc.sqT (SqT.of ht10)) (.cons (.str _) (.cons (.int _) .nil)))
      · obtain ⟨c, hc'⟩ := hF6.ex i (by omega)
        exact absurd hc' (hno c)
    rintro σ H8 ⟨x7, x8, ds, rfl, c8, hA8, hL8, hD8⟩
    refine ⟨_, rfl, h, _, rfl, .inl (SqL.of (c8.keep h _ hh (by simp))), _, rfl, by omega, by omega, ?_⟩
    have eh : ((hv.length : Nat) : Int).toNat = hc.length := hvl
    rw [eh]
    refine for_range (n := hc.length) (fun j σ H9 => ∃ (x9 : Option V) (ds : List De), σ = [some (.ref t), some (.ref h), some (.ref o), some (.ref x), some (.ref m.s), x5, some (.ref dd), x7, x8, x9] ∧ Chg [] H H9 ∧ AsAt T.CA H9 m ls6 rl6 os ∧ LstD K H9 dd (ds.map encDe) ∧ Drawn os tc.length hc.length tc.length j ds)
      ⟨none, ds, rfl, c8, hA8, hL8, hD8⟩ ?_ ?_
    · rintro j σ H9 hj ⟨x9, ds9, rfl, c9, hA9, ⟨dv, hdv, hdd⟩, hD9⟩
      have ej : (0 : Int) + (j : Int) = (j : Int) := Int.zero_add _
      rw [ej]
      have hdvl : dv.length ≤ 8 := by
        rw [dpa_length hdd, List.length_map]
        have := hD9.len
        omega
      obtain ⟨r', hr'⟩ := (show Full os os.length by rw [hol]; exact hF6).all j (by omega)
      refine ⟨_, rfl, m.s, T.CA, m.dx, _, _, rfl, hA9.hA, T.cA, T.nA_row_of, aF_row_of, _, rfl, m.ro, _, _, _, rfl, rfl, SqL.of hA9.hO, atI_nat (os_at hr'), _, rfl, t, _, rfl, .inl (SqL.of (c9.keep t _ ht (by simp))), _, _, rfl, rfl, _, rfl, ite2 (fun e => ?_) (fun e => ?_)⟩
      · have e' : (tv.length : Int) ≤ (r' : Int) := of_decide_eq_true e
        refine ⟨_, rfl, .inl ⟨rfl, _, SqL.of hdv⟩, _, rfl, (by show 2 ≤ sizeLine; decide), fun tp ntp => ?_⟩
        have s10 : Same H9 (upd H9 tp (.tup [.str "do", .int (j : Nat)])) := same_new ntp
        have ht10 : upd H9 tp (.tup [.str "do", .int (j : Nat)]) tp = some (.tup [.str "do", .int (j : Nat)]) := upd_same
        generalize upd H9 tp (.tup [.str "do", .int (j : Nat)]) = H10 at s10 ht10
        have hdv10 := s10 _ _ hdv
        refine ⟨dd, dv, _, rfl, rfl, hdv10, smallL (by omega), ?_⟩
        have cc : Chg [dd] H10 (upd H10 dd (.lst (dv ++ [.ref tp]))) := Chg.put hdv10 rfl (by simp)
        refine ⟨_, ds9 ++ [.dn j], rfl, (c9.same s10).mut nddH, (hA9.same s10).upd wd, ⟨_, upd_same, ?_⟩, hD9.dn hr' (by omega) hj⟩
        rw [List.map_append]
        exact dpa_snoc (cc.dps _ _ (noLs_map noL_encDe _) ((Chg.of_same (S := []) s10).dps _ _ (noLs_map noL_encDe _) hdd)) (.tup (cc.sqT (SqT.of ht10)) (.cons (.str _) (.cons (.int _) .nil)))
      · have e' : ¬ ((tv.length : Int) ≤ (r' : Int)) := fun z => e (decide_eq_true z)
        exact ⟨_, ds9, rfl, c9, hA9, ⟨dv, hdv, hdd⟩, hD9.skip hr' (by omega)⟩
    rintro σ H9 ⟨x9, ds9, rfl, c9, hA9, hL9, hD9⟩
    refine ⟨_, rfl, _, rfl, _, rfl, t, _, rfl, .inl (SqL.of (c9.keep t _ ht (by simp))), _, rfl, h, _, rfl, .inl (SqL.of (c9.keep h _ hh (by simp))), m, ls6, rl6, os, tv.length, hv.length, rfl, hA9, by omega, by omega, fun H10 v s10 => ⟨(by show 2 ≤ sizeLine; decide), fun tp ntp => ?_⟩⟩
    have c11 : Chg [] H (upd H10 tp (.tup [.ref dd, v])) := (c9.same s10).trans (Chg.new ntp)
    have k11 : Chg [] H9 (upd H10 tp (.tup [.ref dd, v])) := (Chg.of_same s10).trans (Chg.new ntp)
    exact q _ tp dd v ds9 c11 upd_same nddH (k11.lstD hL9 (by simp) (noLs_map noL_encDe _)) (hD9.plan (by rw [hol]; exact hF6) (by omega))
end
end Sg
namespace Sg
open PySem PySem.Spec PyProof.Rows L2
/-! ### the model kept beside -/
def mK (N : Nat) (A : Bool) (s : Nat) (dl : Addr) (n : Nat) : List (Key × V) := [(.inr "noted", .int (N : Nat)), (.inr "answered", .bl A), (.inr "sent", .int (s : Nat)), (.inr "done", .ref dl), (.inr "count", .int (n : Nat))]
section
variable {N s n M : Nat} {A B : Bool} {dl : Addr} {H : Hp} {p : Addr}
theorem mK_noted : valV (mK N A s dl n) (.inr "noted") = some (.int (N : Nat)) := by rfl
theorem mK_answered : valV (mK N A s dl n) (.inr "answered") = some (.bl A) := by rfl
theorem mK_sent : valV (mK N A s dl n) (.inr "sent") = some (.int (s : Nat)) := by rfl
theorem mK_done : valV (mK N A s dl n) (.inr "done") = some (.ref dl) := by rfl
theorem mK_count : valV (mK N A s dl n) (.inr "count") = some (.int (n : Nat)) := by rfl
theorem mK_putN : putK (mK N A s dl n) (.inr "noted") (.int (M : Nat)) = mK M A s dl n := by rfl
theorem mK_putA : putK (mK N A s dl n) (.inr "answered") (.bl B) = mK N B s dl n := by rfl
theorem mK_putS : putK (mK N A s dl n) (.inr "sent") (.int (M : Nat)) = mK N A M dl n := by rfl
theorem gN (h : H p = some (.dK (mK N A s dl n))) : DGet H p (.str "noted") (some (.int (N : Nat))) := .inl ⟨_, .inr "noted", .inl h, rfl, mK_noted.symm⟩
theorem gA' (h : H p = some (.dK (mK N A s dl n))) : DGet H p (.str "answered") (some (.bl A)) := .inl ⟨_, .inr "answered", .inl h, rfl, mK_answered.symm⟩
theorem gS' (h : H p = some (.dK (mK N A s dl n))) : DGet H p (.str "sent") (some (.int (s : Nat))) := .inl ⟨_, .inr "sent", .inl h, rfl, mK_sent.symm⟩
theorem gD (h : H p = some (.dK (mK N A s dl n))) : DGet H p (.str "done") (some (.ref dl)) := .inl ⟨_, .inr "done", .inl h, rfl, mK_done.symm⟩
theorem gC' (h : H p = some (.dK (mK N A s dl n))) : DGet H p (.str "count") (some (.int (n : Nat))) := .inl ⟨_, .inr "count", .inl h, rfl, mK_count.symm⟩
theorem five : (mK N A s dl n).length < sizeLine := by show 5 < sizeLine; decide
theorem uN (h : H p = some (.dK (mK N A s dl n))) : DPut H p (.str "noted") (.int (M : Nat)) (upd H p (.dK (mK M A s dl n))) := .inl ⟨_, .inr "noted", h, rfl, five, by rw [mK_putN]⟩
theorem uA (h : H p = some (.dK (mK N A s dl n))) : DPut H p (.str "answered") (.bl B) (upd H p (.dK (mK N B s dl n))) := .inl ⟨_, .inr "answered", h, rfl, five, by rw [mK_putA]⟩
theorem uS (h : H p = some (.dK (mK N A s dl n))) : DPut H p (.str "sent") (.int (M : Nat)) (upd H p (.dK (mK N A M dl n))) := .inl ⟨_, .inr "sent", h, rfl, five, by rw [mK_putS]⟩
end
structure ModelAt (H : Hp) (md dl : Addr) (n : Nat) (w : Ws) : Prop where
  hM : H md = some (.dK (mK w.N w.A w.s dl n))
  hD : H dl = some (.lst (rgV w.D))
theorem Chg.modelAt {S : List Addr} {H H1 : Hp} {md dl : Addr} {n : Nat} {w : Ws} (g : Chg S H H1) (h : ModelAt H md dl n w) (h1 : md ∉ S) (h2 : dl ∉ S) : ModelAt H1 md dl n w := ⟨g.keep md _ h.hM h1, g.keep dl _ h.hD h2⟩
theorem ModelAt.ne {H : Hp} {md dl : Addr} {n : Nat} {w : Ws} (h : ModelAt H md dl n w) : md ≠ dl := ne_of h.hM h.hD (by intro z; cases z)
/-- a block over the signs of a text -/
theorem lc_strM {x : Str} {g : TG} {tt : TT} {te : TE} {vs : List Nat} {σ : L2.St} {H1 : Hp} {D : Addr} {Qd : Hp → Prop} (Pv : Nat → Hp → Prop) (h0 : Pv 0 (upd H1 D (.lst [])))
    (hs : ∀ (i c : Nat) (H : Hp), (cl x)[i]? = some c → Pv i H → g (.str ⟨#[c]⟩) (wipe σ vs) H fun σ2 H2 => wipe σ2 vs = wipe σ vs ∧ tt σ2 H2 fun b H3 =>
      if b = true then te σ2 H3 fun y H4 => ∃ acc, H4 D = some (.lst acc) ∧ acc.length < sizeLine ∧ Pv (i + 1) (upd H4 D (.lst (acc ++ [y]))) else Pv (i + 1) H3) (hd : ∀ H, Pv (cl x).length H → Qd H) :
    ∃ W : Nat → Nat → Hp → Prop, (∃ m, W 0 m (upd H1 D (.lst []))) ∧ ∀ i m H, W i m H →
      ((Its x).stop i H ∧ Qd H) ∨ ((Its x).go i H ∧ ∃ Nx : Hp → Prop, (∀ H', Nx H' → ∃ m', m' < m ∧ W (i + 1) m' H') ∧ ∀ v H', (Its x).yld i H v H' → g v (wipe σ vs) H' fun σ2 H2 => wipe σ2 vs = wipe σ vs ∧ tt σ2 H2 fun b H3 =>
        if b = true then te σ2 H3 fun y H4 => ∃ acc, H4 D = some (.lst acc) ∧ acc.length < sizeLine ∧ Nx (upd H4 D (.lst (acc ++ [y]))) else Nx H3) := by
  have hl : (cl x).length = x.cps.size := Array.length_toList
  refine ⟨fun i m H => m = x.cps.size - i ∧ i ≤ x.cps.size ∧ Pv i H, ⟨_, rfl, Nat.zero_le _, h0⟩, ?_⟩
  rintro i m H ⟨rfl, hi, p⟩
  by_cases hlt : i < x.cps.size
  · refine .inr ⟨hlt, Pv (i + 1), fun H' p' => ⟨x.cps.size - (i + 1), by omega, rfl, hlt, p'⟩, fun v H' y => ?_⟩
    obtain ⟨rfl, c, hc, rfl⟩ := y
    exact hs i c _ (by rw [← hc]; exact Array.getElem?_toList) p
  · exact .inl ⟨Nat.le_of_not_lt hlt, hd H (by rw [hl, ← Nat.le_antisymm hi (Nat.le_of_not_lt hlt)]; exact p)⟩
theorem nl_at (x : Str) {i c : Nat} (h : (cl x)[i]? = some c) : (((cl x).take (i + 1)).filter fun c => decide (c = 10)).length = (((cl x).take i).filter fun c => decide (c = 10)).length + (if c = 10 then 1 else 0) := by
  rw [List.take_add_one, h, List.filter_append, List.length_append]
  by_cases e : c = 10
  · rw [if_pos e]
    subst e
    rfl
  · rw [if_neg e]
    show _ + ([c].filter fun c => decide (c = 10)).length = _
    rw [List.filter_cons_of_neg (by simpa using e)]
    rfl
theorem sign10 {c : Nat} : (V.str ⟨#[c]⟩ = V.str "\n") ↔ c = 10 := by
  constructor
  · intro h
    have h1 : (⟨#[c]⟩ : Str) = "\n" := V.str.inj h
    have h2 : (⟨#[c]⟩ : Str).cps.toList = ("\n" : Str).cps.toList := by rw [h1]
    have h3 : ("\n" : Str).cps.toList = [10] := by decide +kernel
    rw [h3] at h2
    exact (List.cons.inj h2).1
  · rintro rfl
    have : (⟨#[10]⟩ : Str) = "\n" := by decide +kernel
    rw [this]
section
variable {P : Program} {w : World} {K : PySem.W.Frag} {mg : Str → Option Value} {base : Heap}
def spDue (K : PySem.W.Frag) : Sp := fun vs H Q _ => ∃ (md lo dl : Addr) (ls : List Lo) (n : Nat) (w : Ws), vs = [.ref md, .ref lo] ∧ ModelAt H md dl n w ∧ H lo = some (.lst (ls.map fun x => V.str x.nm)) ∧ lo ≠ dl ∧ w.N ≤ w.D ∧ w.D ≤ 100 ∧
  ∀ (H' : Hp) (v : V), Chg [md, dl] H H' → ModelAt H' md dl n (stepW n ls w) → Dp K H' v (encT (stepT n ls w)) → Q v H'
theorem ok_law_due (T : Tx K mg) : FnOk P w K mg base CX0 1 T.law_due.f T.law_due.fd ["_law_model", "_law_losses_here"] (spDue K) := by
  refine T.law_due.F.ok sc_law_due (fun vs H Q E h => ?_) (fun cdv A outer s H vs Q E hr h => ?_)
  · obtain ⟨md, lo, dl, ls, n, w, rfl, _⟩ := h
    rfl
  · obtain ⟨md, lo, dl, ls, n, ⟨N, A, s, D⟩, rfl, ⟨hM, hD⟩, hL, hld, hND, hD100, q⟩ := h
    have hM : H md = some (.dK (mK N A s dl n)) := hM
    have hD : H dl = some (.lst (rgV D)) := hD
    have hND : N ≤ D := hND
    have hD100 : D ≤ 100 := hD100
    have hu65 := hu65_of hr
    have hu := Nat.lt_of_le_of_lt (Nat.add_le_add_left (by decide : 1 ≤ 65) _) hu65
    refine ⟨_, (pss_cons (ps_if (pt_cmpR op_eq (pe_dget hu (pv 0) pe_str (fun _ _ => rfl)) (pe_dget hu (pv 0) pe_str (fun _ _ => rfl)) (nomark _))
        (pss_one (ps_ret (pe_tup (pa_cons pe_str pa_nil))))
        pss_nil)
    (pss_cons (ps_if (pt_val (pe_dget hu (pv 0) pe_str (fun _ _ => rfl)))
        (pss_cons (ps_dput hu (pv 0) pe_str (pe_op op_add (pe_dget hu (pv 0) pe_str (fun _ _ => rfl)) pe_int) rfl)
        (pss_cons (ps_dput hu (pv 0) pe_str pe_bl rfl)
        (pss_one (ps_ret (pe_tup (pa_cons pe_str (pa_cons (pe_op op_sub (pe_dget hu (pv 0) pe_str (fun _ _ => rfl)) pe_int) pa_nil)))))))
        pss_nil)
    (pss_cons (ps_set (i := 2) sc_law_due.nd rfl (by first | exact Or.inl rfl | exact Or.inr rfl) pe_str)
    (C8.pss_cut (ps_if (pt_cmpR op_lt (pe_dget hu (pv 0) pe_str (fun _ _ => rfl)) (pe_callB call_len_seq (by rfl) T.z_len PySem.boot_len (pa_cons (pv 1) pa_nil)) (nomark _))
        (pss_one (ps_set (i := 2) sc_law_due.nd rfl (by first | exact Or.inl rfl | exact Or.inr rfl) (pe_ix ix_list (pv 1) (pe_dget hu (pv 0) pe_str (fun _ _ => rfl)) (fun _ _ => rfl))))
        pss_nil)
    (pss_cons (ps_dput hu (pv 0) pe_str (pe_op op_add (pe_dget hu (pv 0) pe_str (fun _ _ => rfl)) pe_int) rfl)
    (C8.pss_cut (ps_if (pw_and (pt_cmpR op_ne (pv 2) pe_str (nomark _)) (pw_and1 (pt_cmpR op_notIn_seq (pe_dget hu (pv 0) pe_str (fun _ _ => rfl)) (pe_dget hu (pv 0) pe_str (fun _ _ => rfl)) (by rfl)))).pt
        (pss_one (ps_expr (pe_bm PySem.F.plainAttrs_list PySem.F.slot_list_append PySem.F.type_list_append mt_append (pe_dget hu (pv 0) pe_str (fun _ _ => rfl)) (pa_cons (pe_dget hu (pv 0) pe_str (fun _ _ => rfl)) pa_nil))))
        pss_nil)
    (pss_cons (ps_dput hu (pv 0) pe_str (pe_cmpR op_eq (pv 2) pe_str (nomark _)) rfl)
    (pss_one (ps_ret (pe_tup (pa_cons pe_str (pa_cons (pe_dget hu (pv 0) pe_str (fun _ _ => rfl)) (pa_cons (pe_dget hu (pv 0) pe_str (fun _ _ => rfl)) pa_nil))))))))))))), ?_⟩
    have nmd : md ≠ dl := ne_of hM hD (by intro z; cases z)
    have nml : md ≠ lo := ne_of hM hL (by intro z; cases z)
    refine ⟨_, rfl, md, _, rfl, gN hM, _, rfl, md, _, rfl, gC' hM, rfl, _, rfl, ite2 (fun e1 => ?_) (fun e1 => ?_)⟩
    · have eN : N = n := by
        have := V.int.inj (of_decide_eq_true e1)
        omega
      refine ⟨(by show 1 ≤ sizeLine; decide), fun p np => ?_⟩
      have g0 : Chg [] H (upd H p (.tup [.str "over"])) := Chg.new np
      have ew : stepW n ls ⟨N, A, s, D⟩ = ⟨N, A, s, D⟩ := if_pos eN
      have et : stepT n ls ⟨N, A, s, D⟩ = .over := if_pos eN
      rw [ew, et] at q
      exact q _ _ (g0.mono (by simp)) (g0.modelAt (w := ⟨N, A, s, D⟩) ⟨hM, hD⟩ (by simp) (by simp)) (.tup (SqT.of upd_same) (.cons (.str _) .nil))
    · have eN : N ≠ n := fun z => e1 (decide_eq_true (by rw [z]))
      refine ⟨_, rfl, md, _, rfl, gA' hM, _, rfl, ite2 (fun e2 => ?_) (fun e2 => ?_)⟩
      · subst e2
        have ew : stepW n ls ⟨N, true, s, D⟩ = ⟨N + 1, false, s, D⟩ := (if_neg eN).trans (if_pos rfl)
        have et : stepT n ls ⟨N, true, s, D⟩ = .noted N := (if_neg eN).trans (if_pos rfl)
        rw [ew, et] at q
        have c1 : Chg [md, dl] H (upd H md (.dK (mK (N + 1) true s dl n))) := Chg.put hM rfl (by simp)
        have h1 : upd H md (.dK (mK (N + 1) true s dl n)) md = some (.dK (mK (N + 1) true s dl n)) := upd_same
        have d1 : upd H md (.dK (mK (N + 1) true s dl n)) dl = some (.lst (rgV D)) := by rw [upd_ne nmd.symm]; exact hD
        refine ⟨_, rfl, md, _, rfl, gN hM, _, _, rfl, rfl, _, rfl, md, _, rfl, uN (M := N + 1) hM, ?_⟩
        generalize upd H md (.dK (mK (N + 1) true s dl n)) = H1 at c1 h1 d1
        have c2 := c1.trans (Chg.put (o := .dK (mK (N + 1) false s dl n)) h1 rfl (by simp))
        have h2 : upd H1 md (.dK (mK (N + 1) false s dl n)) md = some (.dK (mK (N + 1) false s dl n)) := upd_same
        have d2 : upd H1 md (.dK (mK (N + 1) false s dl n)) dl = some (.lst (rgV D)) := by rw [upd_ne nmd.symm]; exact d1
        refine ⟨_, rfl, md, _, rfl, uA h1, ?_⟩
        generalize upd H1 md (.dK (mK (N + 1) false s dl n)) = H2 at c2 h2 d2
        refine ⟨_, rfl, md, _, rfl, gN h2, _, _, rfl, rfl, (by show 2 ≤ sizeLine; decide), fun p np => ?_⟩
        have ev : (((N + 1 : Nat) : Int) - 1) = (N : Int) := by omega
        show Q (.ref p) (upd H2 p (.tup [.str "noted", .int (((N + 1 : Nat) : Int) - 1)]))
        rw [ev]
        have g0 : Chg [] H2 (upd H2 p (.tup [.str "noted", .int (N : Nat)])) := Chg.new np
        exact q _ _ (c2.trans (g0.mono (by simp))) (g0.modelAt (w := ⟨N + 1, false, s, D⟩) ⟨h2, d2⟩ (by simp) (by simp)) (.tup (SqT.of upd_same) (.cons (.str _) (.cons (.int _) .nil)))
      · have eA : A = false := by simpa using e2
        subst eA
        have et : stepT n ls ⟨N, false, s, D⟩ = .sent N (decide (word ls s = .no)) := (if_neg eN).trans (if_neg (by simp))
        have ew : stepW n ls ⟨N, false, s, D⟩ = ⟨N, decide (word ls s = .no), s + 1, if doneB ls ⟨N, false, s, D⟩ = true then D + 1 else D⟩ := (if_neg eN).trans (if_neg (by simp))
        rw [ew, et] at q
        -- word
        refine ⟨fun σ H1 => σ = [some (.ref md), some (.ref lo), some (.str (word ls s).nm)] ∧ H1 = H, ?_, ?_⟩
        · refine ⟨_, rfl, md, _, rfl, gS' hM, _, rfl, lo, _, rfl, .inl (SqL.of hL), _, _, rfl, rfl, _, rfl, ite2 (fun e => ?_) (fun e => ?_)⟩
          · have e' := of_decide_eq_true e
            rw [List.length_map] at e'
            have hs : s < ls.length := by omega
            have hw : (ls.map fun x => V.str x.nm)[s]? = some (.str (word ls s).nm) := by
              rw [List.getElem?_map, List.getElem?_eq_getElem hs]
              unfold word
              rw [List.getElem?_eq_getElem hs]
              rfl
            exact ⟨_, rfl, _, rfl, md, _, rfl, gS' hM, lo, _, _, _, rfl, rfl, SqL.of hL, atI_nat hw, rfl, rfl⟩
          · have e' : ¬ ((s : Int) < ((ls.map fun x => V.str x.nm).length : Int)) := fun z => e (decide_eq_true z)
            rw [List.length_map] at e'
            have hw : word ls s = .no := by
              unfold word
              rw [List.getElem?_eq_none (by omega)]
              rfl
            rw [hw]
            exact ⟨rfl, rfl⟩
        · rintro σ H1 ⟨rfl, rfl⟩
          have c1 : Chg [md, dl] H1 (upd H1 md (.dK (mK N false (s + 1) dl n))) := Chg.put hM rfl (by simp)
          have h1 : upd H1 md (.dK (mK N false (s + 1) dl n)) md = some (.dK (mK N false (s + 1) dl n)) := upd_same
          have d1 : upd H1 md (.dK (mK N false (s + 1) dl n)) dl = some (.lst (rgV D)) := by rw [upd_ne nmd.symm]; exact hD
          refine ⟨_, rfl, md, _, rfl, gS' hM, _, _, rfl, rfl, _, rfl, md, _, rfl, uS (M := s + 1) hM, ?_⟩
          generalize upd H1 md (.dK (mK N false (s + 1) dl n)) = H2 at c1 h1 d1
          refine ⟨fun σ H3 => σ = [some (.ref md), some (.ref lo), some (.str (word ls s).nm)] ∧ Chg [md, dl] H1 H3 ∧ H3 md = some (.dK (mK N false (s + 1) dl n)) ∧ H3 dl = some (.lst (rgV (if doneB ls ⟨N, false, s, D⟩ = true then D + 1 else D))), ?_, ?_⟩
          · refine ⟨_, rfl, rfl, _, rfl, ite2 (fun e3 => ?_) (fun e3 => ?_)⟩
            · have hw := lo_there _ e3
              refine ⟨_, rfl, md, _, rfl, gN h1, _, rfl, md, _, rfl, gD h1, dl, _, rfl, .inl (SqL.of d1), rfl, rgV_flat D, _, rfl, ?_⟩
              rw [inV_rg]
              refine ite2 (fun e4 => ?_) (fun e4 => ?_)
              · have e4' : ¬ N < D := by simpa using e4
                have eD : N = D := by omega
                have hb : doneB ls ⟨N, false, s, D⟩ = true := by
                  unfold doneB
                  rw [decide_eq_true (show word ls (Ws.s ⟨N, false, s, D⟩) ≠ .there from hw), decide_eq_true (show Ws.N ⟨N, false, s, D⟩ = Ws.D ⟨N, false, s, D⟩ from eD)]
                  rfl
                refine ⟨_, rfl, md, _, rfl, gD h1, .inl ⟨rfl, _, SqL.of d1⟩, _, rfl, md, _, rfl, gN h1, dl, _, _, rfl, rfl, d1, smallL (by rw [List.length_map, List.length_range]; omega), ?_⟩
                rw [if_pos hb, eD, rgV_snoc]
                exact ⟨rfl, c1.trans (Chg.put d1 rfl (by simp)), by rw [upd_ne nmd, ← eD]; exact h1, upd_same⟩
              · have e4' : N < D := by simpa using e4
                have hb : ¬ doneB ls ⟨N, false, s, D⟩ = true := by
                  unfold doneB
                  rw [decide_eq_false (show ¬ Ws.N ⟨N, false, s, D⟩ = Ws.D ⟨N, false, s, D⟩ from fun z => absurd (show N = D from z) (by omega)), Bool.and_false]
                  simp
                rw [if_neg hb]
                exact ⟨rfl, c1, h1, d1⟩
            · have hw := lo_there' _ e3
              have hb : ¬ doneB ls ⟨N, false, s, D⟩ = true := by
                unfold doneB
                rw [decide_eq_false (show ¬ (word ls (Ws.s ⟨N, false, s, D⟩) ≠ .there) from fun z => z hw), Bool.false_and]
                simp
              rw [if_neg hb]
              exact iteF ⟨rfl, c1, h1, d1⟩
          · rintro σ H3 ⟨rfl, c3, h3, d3⟩
            refine ⟨_, rfl, rfl, _, rfl, md, _, rfl, uA h3, ?_⟩
            rw [lo_no]
            have c4 := c3.trans (Chg.put (o := .dK (mK N (decide (word ls s = .no)) (s + 1) dl n)) h3 rfl (by simp))
            have h4 : upd H3 md (.dK (mK N (decide (word ls s = .no)) (s + 1) dl n)) md = some (.dK (mK N (decide (word ls s = .no)) (s + 1) dl n)) := upd_same
            have d4 : upd H3 md (.dK (mK N (decide (word ls s = .no)) (s + 1) dl n)) dl = some (.lst (rgV (if doneB ls ⟨N, false, s, D⟩ = true then D + 1 else D))) := by rw [upd_ne nmd.symm]; exact d3
            generalize upd H3 md (.dK (mK N (decide (word ls s = .no)) (s + 1) dl n)) = H4 at c4 h4 d4
            refine ⟨_, rfl, md, _, rfl, gN h4, _, rfl, md, _, rfl, gA' h4, (by show 3 ≤ sizeLine; decide), fun p np => ?_⟩
            have g0 : Chg [] H4 (upd H4 p (.tup [.str "sent", .int (N : Nat), .bl (decide (word ls s = .no))])) := Chg.new np
            exact q _ _ (c4.trans (g0.mono (by simp))) (g0.modelAt (w := ⟨N, decide (word ls s = .no), s + 1, _⟩) ⟨h4, d4⟩ (by simp) (by simp)) (.tup (SqT.of upd_same) (.cons (.str _) (.cons (.int _) (.cons (.bl _) .nil))))
/-! ### a journal cut short -/
def spCut (CS : Addr) : Sp := fun vs H Q _ => ∃ (r sg dxs e md dl : Addr) (ns : List Int) (N n : Nat) (A : Bool) (w : Ws), vs = [.ref r, .ref sg, .ref md] ∧ H r = some (.lst (ns.map V.int)) ∧ H sg = some (.ins CS dxs (sF e (N : Nat) A)) ∧ N < 10 ∧ H md = some (.dK (mK w.N w.A w.s dl n)) ∧
  ∀ (H' : Hp) (ns' : List Int) (t : Nat), Chg [r, md] H H' → H' r = some (.lst (ns'.map V.int)) → H' md = some (.dK (mK (nl (cutT (linesT N) t)) false w.s dl n)) → Q (.str (cutT (linesT N) t)) H'
theorem ok_law_cut (T : Tx K mg) : FnOk P w K mg base CX0 2 T.law_cut.f T.law_cut.fd ["_law_row", "_law_saga", "_law_model"] (spCut T.CS) := by
  refine T.law_cut.F.ok sc_law_cut (fun vs H Q E h => ?_) (fun cdv A outer s H vs Q E hr h => ?_)
  · obtain ⟨r, sg, dxs, e, md, dl, ns, N, n, A, w, rfl, _⟩ := h
    rfl
  · obtain ⟨r, sg, dxs, e, md, dl, ns, N, n, Ab, ⟨N', A', s', D'⟩, rfl, hR, hS, hN, hM, q⟩ := h
    have hM : H md = some (.dK (mK N' A' s' dl n)) := hM
    have hu65 := hu65_of hr
    have hu := Nat.lt_of_le_of_lt (Nat.add_le_add_left (by decide : 1 ≤ 65) _) hu65
    refine ⟨_, (pss_cons (ps_set (i := 3) sc_law_cut.nd rfl (by first | exact Or.inl rfl | exact Or.inr rfl) (pe_meth0 (pv 1) T.cS T.S_text.m (ok_S_text T) (hr.mono (by decide)) T.S_text.b .nil pass0))
    (pss_cons (ps_set (i := 4) sc_law_cut.nd rfl (by first | exact Or.inl rfl | exact Or.inr rfl) (pe_slice sl_str (pv 3) po_none (po_some (pe_call (ok_law_take T) (hr.mono (by decide)) (by rfl) T.law_take.g T.law_take.F.kp T.law_take.b .nil pass0 (pa_cons (pv 0) (pa_cons (pe_op op_add (pe_callB call_len_str (by rfl) T.z_len PySem.boot_len (pa_cons (pv 3) pa_nil)) pe_int) pa_nil))))))
    (pss_cons (ps_dput hu (pv 2) pe_str (pe_callB call_len_seq (by rfl) T.z_len PySem.boot_len (pa_cons (pe_lc (own := [("_law_char", 5)]) (g := gName 5) (tt := tTest (tOp rEq (tVar 5) (tC (.str "\n")))) rfl sc_law_cut.nd (pi_str (pv 4)) (blkOk_by (own := [("_law_char", 5)]) (N := n_law_cut) (sc := defScope s_law_cut) (by decide +kernel)) (fun _ _ _ _ _ => pg_name (i := 5) sc_law_cut.nd rfl (by first | exact Or.inl rfl | exact Or.inr rfl)) (fun _ _ _ _ _ => (pts_one (pt_cmpR op_eq (pv 5) pe_str (nomark _)))) (fun _ _ _ _ _ => (pv 5))) pa_nil)) rfl)
    (pss_cons (ps_dput hu (pv 2) pe_str pe_bl rfl)
    (pss_one (ps_ret (pv 4))))))), ?_⟩
    have hll := lines_len N hN
    refine ⟨_, rfl, sg, dxs, _, rfl, hS, sF_no _ _ _ _ (by decide +kernel) (by decide +kernel) (by decide +kernel), sg, dxs, e, N, Ab, rfl, hS, hN, fun H1 s1 => ?_⟩
    have hR1 := s1 _ _ hR
    have nrm : r ≠ md := ne_of hR hM (by intro z; cases z)
    refine ⟨_, rfl, _, rfl, _, rfl, _, rfl, small (by omega), _, _, rfl, rfl, r, ns, _, rfl, hR1, by omega, fun H2 ns2 k c2 hR2 k0 kb => ⟨k, rfl, _, rfl, small (by omega), ?_⟩⟩
    have ek : k = (k.toNat : Int) := by omega
    rw [ek]
    have hM2 : H2 md = some (.dK (mK N' A' s' dl n)) := c2.keep md _ (s1 _ _ hM) (by simpa using nrm.symm)
    have hxl := cut_len (linesT N) k.toNat
    refine ⟨_, rfl, _, rfl, fun D nD => ?_⟩
    refine lc_strM (x := cutT (linesT N) k.toNat) (fun j H3 => Same H2 H3 ∧ ∃ ys : List V, ys.length = (((cl (cutT (linesT N) k.toNat)).take j).filter fun c => decide (c = 10)).length ∧ H3 D = some (.lst ys)) ⟨same_new nD, [], rfl, upd_same⟩ ?_ ?_
    · rintro i c H3 hc ⟨s3, ys, hl, hD3⟩
      refine ⟨rfl, _, rfl, rfl, _, rfl, ite2 (fun e1 => ?_) (fun e1 => ?_)⟩
      · have ec : c = 10 := sign10.mp (of_decide_eq_true e1)
        refine ⟨_, rfl, ys, hD3, ?_, same_mut s3 nD, ys ++ [_], ?_, upd_same⟩
        · have h1 : (((cl (cutT (linesT N) k.toNat)).take i).filter fun c => decide (c = 10)).length ≤ ((cl (cutT (linesT N) k.toNat)).take i).length := List.length_filter_le _ _
          have h2 : ((cl (cutT (linesT N) k.toNat)).take i).length ≤ (cl (cutT (linesT N) k.toNat)).length := by rw [List.length_take]; exact Nat.min_le_right _ _
          have h3 : (cl (cutT (linesT N) k.toNat)).length = (cutT (linesT N) k.toNat).length := by simp [Str.length]
          exact smallL (by omega)
        · rw [nl_at _ hc, if_pos ec, List.length_append, hl]
          rfl
      · have ec : ¬ c = 10 := fun z => e1 (decide_eq_true (sign10.mpr z))
        exact ⟨s3, ys, by rw [nl_at _ hc, if_neg ec, hl]; rfl, hD3⟩
    · rintro H3 ⟨s3, ys, hl, hD3⟩
      rw [List.take_of_length_le (Nat.le_refl _)] at hl
      have el : ys.length = nl (cutT (linesT N) k.toNat) := hl
      have hM3 := s3 _ _ hM2
      refine ⟨D, ys, rfl, .inl (SqL.of hD3), _, rfl, md, _, rfl, uN hM3, ?_⟩
      rw [el]
      have c4 : Chg [r, md] H3 (upd H3 md (.dK (mK (nl (cutT (linesT N) k.toNat)) A' s' dl n))) := Chg.put hM3 rfl (by simp)
      have h4 : upd H3 md (.dK (mK (nl (cutT (linesT N) k.toNat)) A' s' dl n)) md = some (.dK (mK (nl (cutT (linesT N) k.toNat)) A' s' dl n)) := upd_same
      have r4 : upd H3 md (.dK (mK (nl (cutT (linesT N) k.toNat)) A' s' dl n)) r = some (.lst (ns2.map V.int)) := by rw [upd_ne nrm]; exact s3 _ _ hR2
      generalize upd H3 md (.dK (mK (nl (cutT (linesT N) k.toNat)) A' s' dl n)) = H4 at c4 h4 r4
      refine ⟨_, rfl, md, _, rfl, uA h4, _, rfl, ?_⟩
      refine q _ ns2 k.toNat ((((Chg.of_same s1).trans (c2.mono (by simp))).same s3).trans (c4.trans (Chg.put h4 rfl (by simp)))) ?_ upd_same
      rw [upd_ne nrm]
      exact r4
/-! ### refused or not -/
def spRefused (K : PySem.W.Frag) : Sp := fun vs H Q _ => ∃ (t h d : Addr) (x : Str) (tc hc : List Cl) (ds : List De) (ks : List Nat), vs = [.ref t, .ref h, .ref d, .str x] ∧ LstD K H t (tc.map encC) ∧ LstD K H h (hc.map encC) ∧ LstD K H d (ds.map encDe) ∧ (∀ de ∈ ds, de.ok tc.length hc.length) ∧ ds.length ≤ 8 ∧ x.length ≤ 1000 ∧ parse x = ks.map headT ∧ (∀ k ∈ ks, k < 10) ∧ ks.length < 10 ∧
  ∀ H' : Hp, Chg [] H H' → Q (.bl (!decide (ks.length ≤ ds.length ∧ ks = List.range ks.length))) H'
theorem ok_law_refused (T : Tx K mg) : FnOk P w K mg base CX0 5 T.law_refused.f T.law_refused.fd ["_law_there", "_law_here", "_law_deeds", "_law_text"] (spRefused K) := by
  refine T.law_refused.F.ok sc_law_refused (fun vs H Q E h => ?_) (fun cdv A outer s H vs Q E hr h => ?_)
  · obtain ⟨t, h, d, x, tc, hc, ds, ks, rfl, _⟩ := h
    rfl
  · obtain ⟨t, h, d, x, tc, hc, ds, ks, rfl, hT, hH, hD, hok, hdl, hxl, hp, hk10, hkl, q⟩ := h
    refine ⟨_, pss_cons (ps_try_only (tb := fun W => tDrop (tMakeK T.CS 3 1 (spSInit K T.CS T.CJ) (fun vs zs => vs ++ zs) (fun cls d H => ∀ σ, W cls d σ H) (tCons (tVar 0) (tCons (tVar 1) (tCons (tVar 2) tNil))) (tCons (tVar 3) tNil))) (ts := fun _ _ _ => tRet (tC (.bl true))) (Wout := fun _ _ _ _ => False) rfl rfl ⟨rfl, by decide, Or.inl T.J.g⟩ takes0
      (fun W pn xe tk _ => pss_one (ps_expr (pe_makeK T.S_init.mK (ok_S_init T) (hr.mono (by decide)) (by rfl) T.gS T.S_init.kb (passes_call tk fun cls d σ H h => h σ) (pa_cons (pv 0) (pa_cons (pv 1) (pa_cons (pv 2) pa_nil))) (pk_cons (pv 3) pk_nil))))
      (fun _ _ _ _ _ _ _ => pss_one (ps_ret pe_bl)))
    (pss_one (ps_ret pe_bl)), ?_⟩
    refine ⟨_, rfl, _, rfl, _, rfl, _, rfl, rfl, rfl, fun sg dx hsg hdx hne => ?_⟩
    have hsg' : upd H dx (.own sg) sg = none := by rw [upd_ne (Ne.symm hne)]; exact hsg
    have s1 : Same H (upd (upd H dx (.own sg)) sg (.ins T.CS dx [])) := (same_new hdx).trans (same_new hsg')
    have hi1 : upd (upd H dx (.own sg)) sg (.ins T.CS dx []) sg = some (.ins T.CS dx []) := upd_same
    generalize upd (upd H dx (.own sg)) sg (.ins T.CS dx []) = H1 at s1 hi1
    have c1 : Chg [] H H1 := Chg.of_same s1
    refine ⟨sg, dx, t, h, d, x, tc, hc, ds, ks, rfl, hi1, c1.lstD hT (by simp) (noLs_encC _), c1.lstD hH (by simp) (noLs_encC _), c1.lstD hD (by simp) (noLs_map noL_encDe _), hok, hdl, hxl, hp, hk10, hkl, fun e1 H2 e c2 _ _ => ⟨rfl, ?_⟩, fun e1 H2 c2 σ => ⟨true, T.J.e, fun _ a na => ?_, fun z => by cases z⟩⟩
    · rw [decide_eq_true e1] at q
      exact q H2 (((c1.mono (by simp)).trans c2).drop hsg)
    · rw [decide_eq_false e1] at q
      exact q H2 (((c1.mono (by simp)).trans c2).drop hsg)
end
end Sg
namespace Sg
open PySem PySem.Spec PyProof.Rows L2
theorem passF {X : Cx} : Passes (L2.CX X.prog X.w) X (fun _ _ _ => False) := passes_call (W := fun _ _ _ _ => False) takes0 (fun _ _ _ _ h => h)
/-! ### numbers in a row, as data -/
def rgP (D : Nat) : List PyData := ((List.range D).map fun k => ((k : Nat) : Int)).map PyData.int
theorem dp_rg (K : PySem.W.Frag) (H : Hp) (D : Nat) : DpAll K H (rgV D) (rgP D) := by
  have e : rgV D = ((List.range D).map fun k => ((k : Nat) : Int)).map V.int := by
    rw [List.map_map]
    rfl
  rw [e]
  exact dp_ints _
theorem shaped_rg (D : Nat) : SeqAt.shaped (.list (rgP D)) = true := shaped_ints _
theorem eqv_rg (D : Nat) : PyData.eqv (.list (rgP D)) (.list (rgP D)) = true := by
  simp only [PyData.eqv]
  unfold rgP
  rw [eqv_ints]
  simp
theorem kit_rg (D : Nat) : L2.rgV 0 (D : Int) = rgV D := by
  unfold L2.rgV
  show (List.range ((D : Int) - 0).toNat).map _ = (List.range D).map _
  have e : ((D : Int) - 0).toNat = D := by omega
  rw [e]
  refine List.map_congr_left fun i _ => ?_
  rw [Int.zero_add]
theorem rg_ok {D : Nat} (h : D ≤ 100) : RgOk 0 (D : Int) := RgOk.of_le (by decide) (by omega) (by decide) (by omega)
theorem eqv_calls (l : List Cl) : PyData.eqv (.list (l.map encC)) (.list (l.map encC)) = true := by
  simp only [PyData.eqv]
  induction l with
  | nil => simp [PyData.eqvAll]
  | cons a l ih =>
    simp only [List.map_cons, PyData.eqvAll, eqv_encC, ih]
    simp
/-! ### where everything lies -/
structure Ad where
  r : Addr
  t : Addr
  h : Addr
  d : Addr
  lo : Addr
  st : Addr
  o : Addr
  dxo : Addr
  c : Addr
  l : Addr
  nn : Addr
  md : Addr
  dl : Addr
abbrev Ad.all (a : Ad) : List Addr := [a.r, a.t, a.h, a.d, a.st, a.lo, a.o, a.c, a.l, a.nn, a.md, a.dl]
structure BaseAt (K : PySem.W.Frag) (H : Hp) (a : Ad) (tc hc sy : List Cl) (ds : List De) (ls : List Lo) (ns : List Int) : Prop where
  hr : H a.r = some (.lst (ns.map V.int))
  ht : LstD K H a.t (tc.map encC)
  hh : LstD K H a.h (hc.map encC)
  hd : LstD K H a.d (ds.map encDe)
  hl : H a.lo = some (.lst (ls.map fun x => V.str x.nm))
  hs : LstD K H a.st (sy.map encC)
section
variable {K : PySem.W.Frag} {CO CS : Addr} {H H' : Hp} {a : Ad} {tc hc sy cs : List Cl} {ds : List De} {sds : List SD} {ls : List Lo} {ns ns' : List Int} {sg dxs e : Addr} {w w' : Ws} {S : List Addr} {n N s D : Nat} {A : Bool}
theorem Chg.baseAt (g : Chg S H H') (b : BaseAt K H a tc hc sy ds ls ns) (h : ∀ x ∈ [a.t, a.h, a.d, a.st, a.lo], x ∉ S) (hr : H' a.r = some (.lst (ns'.map V.int))) : BaseAt K H' a tc hc sy ds ls ns' :=
  ⟨hr, g.lstD b.ht (h _ (by simp)) (noLs_encC _), g.lstD b.hh (h _ (by simp)) (noLs_encC _), g.lstD b.hd (h _ (by simp)) (noLs_map noL_encDe _), g.keep _ _ b.hl (h _ (by simp)), g.lstD b.hs (h _ (by simp)) (noLs_encC _)⟩
/-- the parts apart -/
structure Sep (a : Ad) : Prop where
  rb : a.r ∉ [a.t, a.h, a.d, a.st, a.lo]
  rx : a.r ∉ [a.o, a.c, a.l, a.nn, a.md, a.dl]
  bx : ∀ x ∈ [a.t, a.h, a.d, a.st, a.lo], x ∉ [a.o, a.c, a.l, a.nn, a.md, a.dl]
  om : ∀ x ∈ [a.o, a.c, a.l, a.nn], x ∉ [a.md, a.dl]
theorem sep_of (h : a.all.Nodup) : Sep a := by
  have h' : List.Pairwise (fun x y => x ≠ y) ([a.r] ++ ([a.t, a.h, a.d, a.st, a.lo] ++ ([a.o, a.c, a.l, a.nn] ++ [a.md, a.dl]))) := h
  rw [List.pairwise_append, List.pairwise_append, List.pairwise_append] at h'
  obtain ⟨_, ⟨_, ⟨_, _, h3⟩, h2⟩, h1⟩ := h'
  refine ⟨fun z => h1 a.r (by simp) a.r (List.mem_append.mpr (.inl z)) rfl, fun z => h1 a.r (by simp) a.r (List.mem_append.mpr (.inr z)) rfl, fun x hx z => h2 x hx x z rfl, fun x hx z => h3 x hx x z rfl⟩
/-- a saga's two parts, apart from all that -/
structure Apt (a : Ad) (sg e : Addr) : Prop where
  s : sg ∉ a.all
  e : e ∉ a.all
structure LawAt (K : PySem.W.Frag) (CO CS : Addr) (H : Hp) (a : Ad) (tc hc sy : List Cl) (ds : List De) (ls : List Lo) (ns : List Int) (sg dxs e : Addr) (w : Ws) : Prop where
  b : BaseAt K H a tc hc sy ds ls ns
  s : SagaAt K CS H sg dxs e (ds.map (De.sd tc hc)) w.N w.A
  o : OutAt K CO H a.o a.dxo a.c a.l a.nn (actAll ((ds.map (De.sd tc hc)).take w.D) (tc ++ sy)) ls w.s w.D
  m : ModelAt H a.md a.dl ds.length w
  g : Good ds.length w
  x : Apt a sg e
theorem mem_b {x : Addr} (h : x ∈ [a.t, a.h, a.d, a.st, a.lo]) : x ∈ a.all := by
  simp only [List.mem_cons, List.not_mem_nil, or_false] at h ⊢
  rcases h with h | h | h | h | h <;> simp [h]
/-- [r]: a draw -/
theorem LawAt.draw (L : LawAt K CO CS H a tc hc sy ds ls ns sg dxs e w) (p : Sep a) (g : Chg [a.r] H H') (hr : H' a.r = some (.lst (ns'.map V.int))) : LawAt K CO CS H' a tc hc sy ds ls ns' sg dxs e w := by
  have h1 := p.rb
  have h2 := p.rx
  simp only [List.mem_cons, List.not_mem_nil, or_false, not_or] at h1 h2
  refine ⟨g.baseAt L.b (fun x hx z => p.rb (List.mem_singleton.mp z ▸ hx)) hr, g.sagaAt L.s ?_ ?_, g.outAt L.o ?_ ?_ ?_ ?_, g.modelAt L.m ?_ ?_, L.g, L.x⟩
  · intro z
    exact L.x.s (by rw [List.mem_singleton.mp z]; simp)
  · intro z
    exact L.x.e (by rw [List.mem_singleton.mp z]; simp)
  · simpa using fun z => h2.1 (Eq.symm z)
  · simpa using fun z => h2.2.1 (Eq.symm z)
  · simpa using fun z => h2.2.2.1 (Eq.symm z)
  · simpa using fun z => h2.2.2.2.1 (Eq.symm z)
  · simpa using fun z => h2.2.2.2.2.1 (Eq.symm z)
  · simpa using fun z => h2.2.2.2.2.2 (Eq.symm z)
/-- nothing of it -/
theorem LawAt.same (L : LawAt K CO CS H a tc hc sy ds ls ns sg dxs e w) (g : Chg [] H H') : LawAt K CO CS H' a tc hc sy ds ls ns sg dxs e w :=
  ⟨g.baseAt L.b (by simp) (g.keep _ _ L.b.hr (by simp)), g.sagaAt L.s (by simp) (by simp), g.outAt L.o (by simp) (by simp) (by simp) (by simp), g.modelAt L.m (by simp) (by simp), L.g, L.x⟩
theorem BaseAt.there (b : BaseAt K H a tc hc sy ds ls ns) (o : OutAt K CO H a.o a.dxo a.c a.l a.nn cs ls s D) (m1 : ∃ u, H a.md = some u) (m2 : ∃ u, H a.dl = some u) : ∀ x ∈ a.all, ∃ u, H x = some u := by
  intro x hx
  simp only [List.mem_cons, List.not_mem_nil, or_false] at hx
  rcases hx with rfl | rfl | rfl | rfl | rfl | rfl | rfl | rfl | rfl | rfl | rfl | rfl
  · exact ⟨_, b.hr⟩
  · obtain ⟨v, h, _⟩ := b.ht; exact ⟨_, h⟩
  · obtain ⟨v, h, _⟩ := b.hh; exact ⟨_, h⟩
  · obtain ⟨v, h, _⟩ := b.hd; exact ⟨_, h⟩
  · obtain ⟨v, h, _⟩ := b.hs; exact ⟨_, h⟩
  · exact ⟨_, b.hl⟩
  · exact ⟨_, o.hO⟩
  · obtain ⟨v, h, _⟩ := o.hC; exact ⟨_, h⟩
  · exact ⟨_, o.hL⟩
  · exact ⟨_, o.hN⟩
  · exact m1
  · exact m2
/-- a step of the saga: [sg, o, c, nn] -/
theorem LawAt.stepped (L : LawAt K CO CS H a tc hc sy ds ls ns sg dxs e w) (p : Sep a) (g : Chg [sg, a.o, a.c, a.nn] H H') : BaseAt K H' a tc hc sy ds ls ns ∧ ModelAt H' a.md a.dl ds.length w := by
  have h1 := p.rx
  have h2 := L.x.s
  simp only [List.mem_cons, List.not_mem_nil, or_false, not_or] at h1 h2
  refine ⟨g.baseAt L.b (fun x hx z => ?_) (g.keep _ _ L.b.hr fun z => ?_), g.modelAt L.m (fun z => ?_) (fun z => ?_)⟩
  · have h3 := p.bx x hx
    simp only [List.mem_cons, List.not_mem_nil, or_false, not_or] at h3 z
    rcases z with rfl | z | z | z
    · exact L.x.s (mem_b hx)
    · exact h3.1 z
    · exact h3.2.1 z
    · exact h3.2.2.2.1 z
  · simp only [List.mem_cons, List.not_mem_nil, or_false] at z
    rcases z with z | z | z | z
    · exact h2.1 z.symm
    · exact h1.1 z
    · exact h1.2.1 z
    · exact h1.2.2.2.1 z
  · simp only [List.mem_cons, List.not_mem_nil, or_false] at z
    rcases z with z | z | z | z
    · exact L.x.s (by rw [← z]; simp)
    · exact p.om a.o (by simp) (by rw [← z]; simp)
    · exact p.om a.c (by simp) (by rw [← z]; simp)
    · exact p.om a.nn (by simp) (by rw [← z]; simp)
  · simp only [List.mem_cons, List.not_mem_nil, or_false] at z
    rcases z with z | z | z | z
    · exact L.x.s (by rw [← z]; simp)
    · exact p.om a.o (by simp) (by rw [← z]; simp)
    · exact p.om a.c (by simp) (by rw [← z]; simp)
    · exact p.om a.nn (by simp) (by rw [← z]; simp)
theorem step_keeps (b : BaseAt K H a tc hc sy ds ls ns) (p : Sep a) (x : Apt a sg e) (g : Chg [sg, a.o, a.c, a.nn] H H') : BaseAt K H' a tc hc sy ds ls ns := by
  have h1 := p.rx
  have h2 := x.s
  simp only [List.mem_cons, List.not_mem_nil, or_false, not_or] at h1 h2
  refine g.baseAt b (fun y hy z => ?_) (g.keep _ _ b.hr fun z => ?_)
  · have h3 := p.bx y hy
    simp only [List.mem_cons, List.not_mem_nil, or_false, not_or] at h3 z
    rcases z with rfl | z | z | z
    · exact x.s (mem_b hy)
    · exact h3.1 z
    · exact h3.2.1 z
    · exact h3.2.2.2.1 z
  · simp only [List.mem_cons, List.not_mem_nil, or_false] at z
    rcases z with z | z | z | z
    · exact h2.1 z.symm
    · exact h1.1 z
    · exact h1.2.1 z
    · exact h1.2.2.2.1 z
theorem BaseAt.same (b : BaseAt K H a tc hc sy ds ls ns) (g : Chg [] H H') : BaseAt K H' a tc hc sy ds ls ns := g.baseAt b (by simp) (g.keep _ _ b.hr (by simp))
theorem OutAt.same {c l nn o dx : Addr} (b : OutAt K CO H o dx c l nn cs ls n D) (g : Chg [] H H') : OutAt K CO H' o dx c l nn cs ls n D := g.outAt b (by simp) (by simp) (by simp) (by simp)
theorem SagaAt.same (b : SagaAt K CS H sg dxs e sds N A) (g : Chg [] H H') : SagaAt K CS H' sg dxs e sds N A := g.sagaAt b (by simp) (by simp)
theorem rg_len (D : Nat) : (rgV D).length = D := by rw [List.length_map, List.length_range]
/-- a step of the model: [md, dl] -/
theorem due_keeps (b : BaseAt K H a tc hc sy ds ls ns) (s : SagaAt K CS H sg dxs e sds N A) (o : OutAt K CO H a.o a.dxo a.c a.l a.nn cs ls n D) (p : Sep a) (x : Apt a sg e) (g : Chg [a.md, a.dl] H H') :
    BaseAt K H' a tc hc sy ds ls ns ∧ SagaAt K CS H' sg dxs e sds N A ∧ OutAt K CO H' a.o a.dxo a.c a.l a.nn cs ls n D := by
  have h1 := p.rx
  have h2 := x.s
  have h3 := x.e
  simp only [List.mem_cons, List.not_mem_nil, or_false, not_or] at h1 h2 h3
  refine ⟨g.baseAt b (fun y hy z => ?_) (g.keep _ _ b.hr fun z => ?_), g.sagaAt s (fun z => ?_) (fun z => ?_), g.outAt o (p.om _ (by simp)) (p.om _ (by simp)) (p.om _ (by simp)) (p.om _ (by simp))⟩
  · have h4 := p.bx y hy
    simp only [List.mem_cons, List.not_mem_nil, or_false, not_or] at h4 z
    rcases z with z | z
    · exact h4.2.2.2.2.1 z
    · exact h4.2.2.2.2.2 z
  · simp only [List.mem_cons, List.not_mem_nil, or_false] at z
    rcases z with z | z
    · exact h1.2.2.2.2.1 z
    · exact h1.2.2.2.2.2 z
  · refine x.s ?_
    simp only [List.mem_cons, List.not_mem_nil, or_false] at z ⊢
    rcases z with z | z <;> simp [z]
  · refine x.e ?_
    simp only [List.mem_cons, List.not_mem_nil, or_false] at z ⊢
    rcases z with z | z <;> simp [z]
/-- a journal cut: [r, md] -/
theorem cut_keeps (L : LawAt K CO CS H a tc hc sy ds ls ns sg dxs e w) (p : Sep a) (g : Chg [a.r, a.md] H H') (hr : H' a.r = some (.lst (ns'.map V.int))) :
    BaseAt K H' a tc hc sy ds ls ns' ∧ OutAt K CO H' a.o a.dxo a.c a.l a.nn (actAll ((ds.map (De.sd tc hc)).take w.D) (tc ++ sy)) ls w.s w.D ∧ H' a.dl = some (.lst (rgV w.D)) := by
  have h1 := p.rb
  have h2 := p.rx
  simp only [List.mem_cons, List.not_mem_nil, or_false, not_or] at h1 h2
  have ho : ∀ y ∈ [a.o, a.c, a.l, a.nn], y ∉ [a.r, a.md] := fun y hy z => by
    simp only [List.mem_cons, List.not_mem_nil, or_false] at z
    rcases z with z | z
    · refine p.rx ?_
      rw [← z]
      simp only [List.mem_cons, List.not_mem_nil, or_false] at hy ⊢
      rcases hy with hy | hy | hy | hy <;> simp [hy]
    · exact p.om y hy (by rw [z]; simp)
  refine ⟨g.baseAt L.b (fun y hy z => ?_) hr, g.outAt L.o (ho _ (by simp)) (ho _ (by simp)) (ho _ (by simp)) (ho _ (by simp)), g.keep _ _ L.m.hD fun z => ?_⟩
  · simp only [List.mem_cons, List.not_mem_nil, or_false] at z
    rcases z with z | z
    · exact p.rb (z ▸ hy)
    · exact p.bx y hy (by rw [z]; simp)
  · simp only [List.mem_cons, List.not_mem_nil, or_false] at z
    rcases z with z | z
    · exact h2.2.2.2.2.2 z.symm
    · exact L.m.ne z.symm
/-! ### the addresses, as they come -/
structure Al (H : Hp) (L : List Addr) : Prop where
  nd : L.Nodup
  th : ∀ x ∈ L, ∃ u, H x = some u
theorem Al.nil (H : Hp) : Al H [] := ⟨List.nodup_nil, fun x hx => by cases hx⟩
theorem Al.chg {L : List Addr} (h : Al H L) (g : Chg S H H') : Al H' L := ⟨h.nd, fun x hx => by
  obtain ⟨u, e⟩ := h.th x hx
  exact g.there x u e⟩
theorem Al.out {L : List Addr} (h : Al H L) {p : Addr} (n : H p = none) : p ∉ L := fun z => by
  obtain ⟨u, e⟩ := h.th p z
  rw [n] at e
  cases e
theorem Al.add {L : List Addr} (h : Al H L) {p : Addr} {u : HO} (n : p ∉ L) (e : H p = some u) : Al H (p :: L) := ⟨List.nodup_cons.mpr ⟨n, h.nd⟩, fun x hx => by
  rcases List.mem_cons.mp hx with rfl | hx
  · exact ⟨u, e⟩
  · exact h.th x hx⟩
theorem LstD.some {d : List PyData} {p : Addr} (h : LstD K H p d) : ∃ u, H p = .some u := by
  obtain ⟨v, e, _⟩ := h
  exact ⟨_, e⟩
theorem away (h : ∀ x ∈ a.all, ∃ u, H x = some u) {p : Addr} (n : H p = none) : p ∉ a.all := fun z => by
  obtain ⟨u, e⟩ := h p z
  rw [n] at e
  cases e
end
end Sg
namespace Sg
open PySem PySem.Spec PyProof.Rows L2
section
variable {P : Program} {w : World} {K : PySem.W.Frag} {mg : Str → Option Value} {base : Heap}
def lvl : Nat := 12
def spLaw (K : PySem.W.Frag) : Sp := fun vs H Q _ => ∃ (a : Addr) (ns : List Int), vs = [.ref a] ∧ SqL K H a (ns.map V.int) ∧ ns.length ≤ 63 ∧ ∀ H', Q (.bl true) H'
set_option maxHeartbeats 0 in
theorem ok_law (T : Tx K mg) : FnOk P w K mg base CX0 lvl T.law.f T.law.fd ["_law_script"] (spLaw K) := by
  refine T.law.F.ok sc_law (fun vs H Q E h => ?_) (fun cdv A outer s H vs Q E hr h => ?_)
  · obtain ⟨a, ns, rfl, _⟩ := h
    rfl
  · obtain ⟨a, ns, rfl, hS, hns, q⟩ := h
    have hu65 := hu65_of hr
    have hu64 := Nat.lt_of_le_of_lt (Nat.add_le_add_left (by decide : 64 ≤ 65) _) hu65
    have hu := Nat.lt_of_le_of_lt (Nat.add_le_add_left (by decide : 1 ≤ 65) _) hu65
    have hu6 := Nat.lt_of_le_of_lt (Nat.add_le_add_left (by decide : 6 ≤ 65) _) hu65
    obtain ⟨sdv, svals, sbind⟩ := T.S_init.b
    refine ⟨_, (pss_cons (ps_set (i := 1) sc_law.nd rfl (by first | exact Or.inl rfl | exact Or.inr rfl) (pe_call (ok_law_numbers T) (hr.mono (by decide)) (by rfl) T.law_numbers.g T.law_numbers.F.kp T.law_numbers.b .nil pass0 (pa_cons (pv 0) (pa_cons pe_int pa_nil))))
      (pss_cons (ps_set (i := 2) sc_law.nd rfl (by first | exact Or.inl rfl | exact Or.inr rfl) (pe_call (ok_law_calls T) (hr.mono (by decide)) (by rfl) T.law_calls.g T.law_calls.F.kp T.law_calls.b .nil pass0 (pa_cons (pv 1) (pa_cons pe_int pa_nil))))
      (pss_cons (ps_setLc (i := 3) (own := [("_law_call_here", 4)]) (g := gName 4) (tt := tTest (tOp (rNotInD K) (tVar 4) (tVar 2))) rfl sc_law.nd rfl rfl (sw_true rfl rfl rfl (by decide +kernel)) (pi_list (pe_call (ok_law_calls T) (hr.mono (by decide)) (by rfl) T.law_calls.g T.law_calls.F.kp T.law_calls.b .nil pass0 (pa_cons (pv 1) (pa_cons pe_int pa_nil)))) (blkOk_by (own := [("_law_call_here", 4)]) (N := n_law) (sc := defScope s_law) (by decide +kernel)) (fun _ _ _ _ _ => pg_name (i := 4) sc_law.nd rfl (by first | exact Or.inl rfl | exact Or.inr rfl)) (fun _ _ _ _ _ => (pts_one (pt_cmpR (op_notInD hu65) (pv 4) (pv 2) (by rfl)))) (fun _ _ _ _ _ => (pv 4)))
      (pss_cons (ps_set (i := 5) sc_law.nd rfl (by first | exact Or.inl rfl | exact Or.inr rfl) (pe_ix ix_tup (pe_call (ok_plan T) (hr.mono (by decide)) (by rfl) T.plan.g T.plan.F.kp T.plan.b .nil pass0 (pa_cons (pv 2) (pa_cons (pv 3) (pa_cons (pe_make T.P_init.mK (ok_P_init T) (hr.mono (by decide)) (by rfl) T.gP T.P_init.b .nil pass0 (pa_cons (pe_call (ok_law_prices T) (hr.mono (by decide)) (by rfl) T.law_prices.g T.law_prices.F.kp T.law_prices.b .nil pass0 (pa_cons (pv 1) pa_nil)) pa_nil)) pa_nil)))) pe_int (fun _ _ => rfl)))
      (pss_cons (ps_set (i := 6) sc_law.nd rfl (by first | exact Or.inl rfl | exact Or.inr rfl) (pe_slice sl_list (pe_lst (pa_cons (pe_tup (pa_cons (pe_tup (pa_cons (pe_tup (pa_cons pe_int (pa_cons pe_int pa_nil))) (pa_cons pe_int pa_nil))) (pa_cons pe_str (pa_cons (pe_tup pa_nil) pa_nil)))) pa_nil)) po_none (po_some (pe_call (ok_law_take T) (hr.mono (by decide)) (by rfl) T.law_take.g T.law_take.F.kp T.law_take.b .nil pass0 (pa_cons (pv 1) (pa_cons pe_int pa_nil))))))
      (pss_cons (ps_set (i := 7) sc_law.nd rfl (by first | exact Or.inl rfl | exact Or.inr rfl) (pe_call (ok_law_losses T) (hr.mono (by decide)) (by rfl) T.law_losses.g T.law_losses.F.kp T.law_losses.b .nil pass0 (pa_cons (pv 1) pa_nil)))
      (pss_cons (ps_set (i := 8) sc_law.nd rfl (by first | exact Or.inl rfl | exact Or.inr rfl) (pe_makeK T.O_init.mK (ok_O_init T) (hr.mono (by decide)) (by rfl) T.gO T.O_init.kb pass0 (pa_cons (pe_op op_cat (pv 2) (pv 6)) pa_nil) (pk_cons (pv 7) pk_nil)))
      (pss_cons (ps_set (i := 9) sc_law.nd rfl (by first | exact Or.inl rfl | exact Or.inr rfl) (pe_make T.S_init.mK (ok_S_init T) (hr.mono (by decide)) (by rfl) T.gS sbind svals passF (pa_cons (pv 2) (pa_cons (pv 3) (pa_cons (pe_callTy call_list_of (by rfl) T.z_list (by decide +kernel) (pa_cons (pv 5) pa_nil)) pa_nil)))))
      (pss_cons (ps_set (i := 10) sc_law.nd rfl (by first | exact Or.inl rfl | exact Or.inr rfl) (pe_disp (pps_cons pe_str pe_int (pps_cons pe_str pe_bl (pps_cons pe_str pe_int (pps_cons pe_str (pe_lst pa_nil) (pps_cons pe_str (pe_callB call_len_seq (by rfl) T.z_len PySem.boot_len (pa_cons (pv 5) pa_nil)) pps_nil))))) (by rfl) (by rfl) (fun z => by cases z) (by decide)))
      (pss_cons (ps_for PassesOwn.never rfl (pi_range1 (by rfl) T.z_range (pa_cons (pe_call (ok_law_take T) (hr.mono (by decide)) (by rfl) T.law_take.g T.law_take.F.kp T.law_take.b .nil pass0 (pa_cons (pv 1) (pa_cons pe_int pa_nil))) pa_nil)) (pg_name (i := 11) sc_law.nd rfl (by first | exact Or.inl rfl | exact Or.inr rfl))
          (C8.pss_cut (ps_if (pt_cmpR op_eq (pe_call (ok_law_take T) (hr.mono (by decide)) (by rfl) T.law_take.g T.law_take.F.kp T.law_take.b .nil pass0 (pa_cons (pv 1) (pa_cons pe_int pa_nil))) pe_int (nomark _))
              (pss_one (ps_set (i := 9) sc_law.nd rfl (by first | exact Or.inl rfl | exact Or.inr rfl) (pe_makeK T.S_init.mK (ok_S_init T) (hr.mono (by decide)) (by rfl) T.gS T.S_init.kb passF (pa_cons (pv 2) (pa_cons (pv 3) (pa_cons (pe_callTy call_list_of (by rfl) T.z_list (by decide +kernel) (pa_cons (pv 5) pa_nil)) pa_nil))) (pk_cons (pe_call (ok_law_cut T) (hr.mono (by decide)) (by rfl) T.law_cut.g T.law_cut.F.kp T.law_cut.b .nil pass0 (pa_cons (pv 1) (pa_cons (pv 9) (pa_cons (pv 10) pa_nil)))) pk_nil))))
              pss_nil)
          (pss_cons (ps_if (pw_or (pt_cmpR (op_neD hu64) (pe_meth (pv 9) T.cS T.S_step.m (ok_S_step T) (hr.mono (by decide)) T.S_step.b .nil pass0 (pa_cons (pv 8) pa_nil)) (pe_call (ok_law_due T) (hr.mono (by decide)) (by rfl) T.law_due.g T.law_due.F.kp T.law_due.b .nil pass0 (pa_cons (pv 10) (pa_cons (pv 7) pa_nil))) (nomark _)) (pw_or1 (pt_cmpR (op_neD hu64) (pe_meth0 (pv 8) T.cO T.O_done.m (ok_O_done T) (hr.mono (by decide)) T.O_done.b .nil pass0) (pe_dget hu (pv 10) pe_str (fun _ _ => rfl)) (nomark _)))).pt
              (pss_one (ps_ret pe_bl))
              pss_nil)
          (pss_cons (ps_if (pw_or (pt_cmpR op_ne (pe_meth0 (pv 9) T.cS T.S_text.m (ok_S_text T) (hr.mono (by decide)) T.S_text.b .nil pass0) (pe_call (ok_law_lines T) (hr.mono (by decide)) (by rfl) T.law_lines.g T.law_lines.F.kp T.law_lines.b .nil pass0 (pa_cons (pe_dget hu (pv 10) pe_str (fun _ _ => rfl)) pa_nil)) (nomark _)) (pw_or1 (pt_cmpR op_ne (pe_prop (pv 9) T.cS T.S_is_over.m (ok_S_is_over T) (hr.mono (by decide)) T.S_is_over.b .nil pass0 rfl) (pe_cmpR op_eq (pe_dget hu (pv 10) pe_str (fun _ _ => rfl)) (pe_callB call_len_seq (by rfl) T.z_len PySem.boot_len (pa_cons (pv 5) pa_nil)) (nomark _)) (nomark _)))).pt
              (pss_one (ps_ret pe_bl))
              pss_nil)
          (pss_one (ps_if (pt_cmpR (op_neD hu64) (pe_dget hu (pv 10) pe_str (fun _ _ => rfl)) (pe_listRg rfl (by rfl) T.z_list (prg_1 (by rfl) T.z_range (pe_callB call_len_seq (by rfl) T.z_len PySem.boot_len (pa_cons (pe_dget hu (pv 10) pe_str (fun _ _ => rfl)) pa_nil)))) (nomark _))
              (pss_one (ps_ret pe_bl))
              pss_nil))))))
      (pss_cons (ps_for PassesOwn.never rfl (pi_range1 (by rfl) T.z_range (pa_cons pe_int pa_nil)) (pg_name (i := 11) sc_law.nd rfl (by first | exact Or.inl rfl | exact Or.inr rfl))
          (pss_one (ps_expr (pe_meth (pv 9) T.cS T.S_step.m (ok_S_step T) (hr.mono (by decide)) T.S_step.b .nil pass0 (pa_cons (pv 8) pa_nil)))))
      (pss_cons (ps_if (pw_or (pt_not (pt_val (pe_prop (pv 9) T.cS T.S_is_over.m (ok_S_is_over T) (hr.mono (by decide)) T.S_is_over.b .nil pass0 rfl))) (pw_or (pt_cmpR (op_neD hu64) (pe_meth0 (pv 8) T.cO T.O_done.m (ok_O_done T) (hr.mono (by decide)) T.O_done.b .nil pass0) (pe_listRg rfl (by rfl) T.z_list (prg_1 (by rfl) T.z_range (pe_callB call_len_seq (by rfl) T.z_len PySem.boot_len (pa_cons (pv 5) pa_nil)))) (nomark _)) (pw_or1 (pt_cmpR (op_neD hu64) (pe_meth (pv 9) T.cS T.S_step.m (ok_S_step T) (hr.mono (by decide)) T.S_step.b .nil pass0 (pa_cons (pv 8) pa_nil)) (pe_tup (pa_cons pe_str pa_nil)) (nomark _))))).pt
          (pss_one (ps_ret pe_bl))
          pss_nil)
      (pss_cons (ps_if (pw_or (pt_cmpR (op_neD hu64) (pe_meth0 (pv 8) T.cO T.O_in_force.m (ok_O_in_force T) (hr.mono (by decide)) T.O_in_force.b .nil pass0) (pe_callB (cr_sortC hu6) (by rfl) T.z_sorted (by decide +kernel) (pa_cons (pe_op op_cat (pv 3) (pv 6)) pa_nil)) (nomark _)) (pw_or1 (pt_cmpR op_ne (pe_meth0 (pv 9) T.cS T.S_text.m (ok_S_text T) (hr.mono (by decide)) T.S_text.b .nil pass0) (pe_call (ok_law_lines T) (hr.mono (by decide)) (by rfl) T.law_lines.g T.law_lines.F.kp T.law_lines.b .nil pass0 (pa_cons (pe_callB call_len_seq (by rfl) T.z_len PySem.boot_len (pa_cons (pv 5) pa_nil)) pa_nil)) (nomark _)))).pt
          (pss_one (ps_ret pe_bl))
          pss_nil)
      (pss_cons (ps_if (pw_or (pt_not (pt_val (pe_call (ok_law_refused T) (hr.mono (by decide)) (by rfl) T.law_refused.g T.law_refused.F.kp T.law_refused.b .nil pass0 (pa_cons (pv 2) (pa_cons (pv 3) (pa_cons (pv 5) (pa_cons (pe_call (ok_law_lines T) (hr.mono (by decide)) (by rfl) T.law_lines.g T.law_lines.F.kp T.law_lines.b .nil pass0 (pa_cons (pe_op op_add (pe_callB call_len_seq (by rfl) T.z_len PySem.boot_len (pa_cons (pv 5) pa_nil)) pe_int) pa_nil)) pa_nil))))))) (pw_or1 (pt_not (pt_val (pe_call (ok_law_refused T) (hr.mono (by decide)) (by rfl) T.law_refused.g T.law_refused.F.kp T.law_refused.b .nil pass0 (pa_cons (pv 2) (pa_cons (pv 3) (pa_cons (pv 5) (pa_cons pe_str pa_nil))))))))).pt
          (pss_one (ps_ret pe_bl))
          pss_nil)
      (C8.pss_cut (ps_if (pw_and (pt_cmpR (op_neD hu64) (pv 5) (pe_lst pa_nil) (nomark _)) (pw_and1 (pt_val (pe_call (ok_law_refused T) (hr.mono (by decide)) (by rfl) T.law_refused.g T.law_refused.F.kp T.law_refused.b .nil pass0 (pa_cons (pv 2) (pa_cons (pv 3) (pa_cons (pv 5) (pa_cons pe_str pa_nil)))))))).pt
          (pss_one (ps_ret pe_bl))
          pss_nil)
      (pss_one (ps_ret (pe_not (pe_call (ok_law_refused T) (hr.mono (by decide)) (by rfl) T.law_refused.g T.law_refused.F.kp T.law_refused.b .nil pass0 (pa_cons (pv 2) (pa_cons (pv 3) (pa_cons (pv 5) (pa_cons (pe_call (ok_law_lines T) (hr.mono (by decide)) (by rfl) T.law_lines.g T.law_lines.F.kp T.law_lines.b .nil pass0 (pa_cons (pe_callB call_len_seq (by rfl) T.z_len PySem.boot_len (pa_cons (pv 5) pa_nil)) pa_nil)) pa_nil))))))))))))))))))))))), ?_⟩
    -- the row of numbers
    refine ⟨_, rfl, a, ns, 140, rfl, hS, hns, by decide, fun H1 r rs c1 nr hr1 => ?_⟩
    have al1 : Al H1 [r] := (Al.nil H1).add (by simp) hr1
    -- the calls there
    refine ⟨_, rfl, r, rs, rfl, hr1, fun H2 t tc ns2 c2 nt hr2 ht2 htl hta => ?_⟩
    obtain ⟨tu, htu⟩ := ht2.some
    have al2 : Al H2 [t, r] := (al1.chg c2).add (al1.out nt) htu
    have nrt : r ≠ t := ne_of_none hr1 nt
    -- the calls here
    refine ⟨_, rfl, r, ns2, rfl, hr2, fun H3 h0 cs0 ns3 c3 nh0 hr3 hh0 hcl0 _ => ?_⟩
    obtain ⟨hv0, hhv0, hhd0⟩ := hh0
    have ht3 : LstD K H3 t (tc.map encC) := c3.lstD ht2 (by simpa using nrt.symm) (noLs_encC _)
    have al3 : Al H3 [t, r] := al2.chg c3
    refine ⟨h0, rfl, ⟨_, SqL.of hhv0⟩, fun h nh => ?_⟩
    refine lc_list (K := K) (a := h0) (xs := hv0) (fun j H4 => Same H3 H4 ∧ LstD K H4 h (((cs0.take j).filter fun c => decide (c ∉ tc)).map encC)) ⟨same_new nh, [], upd_same, .nil⟩ (fun j H4 _ g => SqL.of (g.1 _ _ hhv0)) ?_ ?_
    · rintro j x H4 hj ⟨s4, hv, hhv, hhd⟩
      obtain ⟨dd, hdd, hx⟩ := dpa_get hhd0 hj
      rw [List.getElem?_map] at hdd
      obtain ⟨c, hc', rfl⟩ := Option.map_eq_some_iff.mp hdd
      have ht4 : LstD K H4 t (tc.map encC) := (Chg.of_same (S := []) s4).lstD ht3 (by simp) (noLs_encC _)
      refine ⟨rfl, _, rfl, _, rfl, encC c, tc.map encC, (Chg.of_same (S := []) s4).dp _ _ (noL_encC _) hx, ht4.dp, shaped_encC c, shaped_encCs tc, _, rfl, ?_⟩
      rw [any_encC]
      have enext : (cs0.take (j + 1)).filter (fun c => decide (c ∉ tc)) = (cs0.take j).filter (fun c => decide (c ∉ tc)) ++ (if c ∉ tc then [c] else []) := by
        rw [List.take_add_one, hc', List.filter_append]
        congr 1
        show [c].filter _ = _
        by_cases hm : c ∉ tc
        · rw [List.filter_cons_of_pos (by simpa using hm), if_pos hm]
          rfl
        · rw [List.filter_cons_of_neg (by simpa using hm), if_neg hm]
          rfl
      rw [enext]
      refine ite2 (fun e => ?_) (fun e => ?_)
      · have hm : c ∉ tc := by simpa using e
        rw [if_pos hm, List.map_append]
        have hvl : hv.length ≤ 4 := by
          rw [dpa_length hhd, List.length_map]
          have h1 := List.length_filter_le (fun c => decide (c ∉ tc)) (cs0.take j)
          have h2 : (cs0.take j).length ≤ cs0.length := by rw [List.length_take]; exact Nat.min_le_right _ _
          omega
        have g : Chg [h] H4 (upd H4 h (.lst (hv ++ [x]))) := Chg.put hhv rfl (by simp)
        exact ⟨_, rfl, hv, hhv, smallL (by omega), same_mut s4 nh, _, upd_same, dpa_snoc (g.dps _ _ (noLs_encC _) hhd) (g.dp _ _ (noL_encC _) ((Chg.of_same (S := []) s4).dp _ _ (noL_encC _) hx))⟩
      · have hm : ¬ c ∉ tc := by simpa using e
        rw [if_neg hm, List.append_nil]
        exact ⟨s4, hv, hhv, hhd⟩
    rintro H4 ⟨s4, hh4⟩
    have hv0l : hv0.length = cs0.length := by rw [dpa_length hhd0, List.length_map]
    rw [hv0l, List.take_of_length_le (Nat.le_refl _)] at hh4
    have hcl : (cs0.filter fun c => decide (c ∉ tc)).length ≤ 4 := Nat.le_trans (List.length_filter_le _ _) hcl0
    generalize (cs0.filter fun c => decide (c ∉ tc)) = hc at hh4 hcl
    have ht4 : LstD K H4 t (tc.map encC) := (Chg.of_same (S := []) s4).lstD ht3 (by simp) (noLs_encC _)
    have hr4 := s4 _ _ hr3
    obtain ⟨hu, hhu⟩ := hh4.some
    have al4 : Al H4 [h, t, r] := (al3.chg (Chg.of_same (S := []) s4)).add (al3.out nh) hhu
    have nrh : r ≠ h := ne_of_none hr3 nh
    -- the plan
    refine ⟨_, rfl, _, rfl, _, rfl, r, ns3, rfl, hr4, fun H5 p f ns5 c5 np hr5 hPr => fun x dx hx hdx hne => ?_⟩
    have hx' : upd H5 dx (.own x) x = none := by rw [upd_ne (Ne.symm hne)]; exact hx
    have s6 : Same H5 (upd (upd H5 dx (.own x)) x (.ins T.CP dx [])) := (same_new hdx).trans (same_new hx')
    have hx6 : upd (upd H5 dx (.own x)) x (.ins T.CP dx []) x = some (.ins T.CP dx []) := upd_same
    generalize upd (upd H5 dx (.own x)) x (.ins T.CP dx []) = H6 at s6 hx6
    refine ⟨x, dx, p, f, rfl, hx6, (Chg.of_same (S := []) s6).prD hPr (by simp), fun H7 p' c7 np' hPA => ⟨rfl, ?_⟩⟩
    have c57 : Chg [] H5 H7 := Chg.drop ((Chg.of_same (S := [x]) s6).trans c7) hx
    have c47 : Chg [r] H4 H7 := c5.trans (c57.mono (by simp))
    have ht7 := c47.lstD ht4 (by simpa using nrt.symm) (noLs_encC _)
    have hh7 := c47.lstD hh4 (by simpa using nrh.symm) (noLs_encC _)
    have hr7 := c57.keep r _ hr5 (by simp)
    have al7 := al4.chg c47
    refine ⟨t, h, x, dx, p', f, tc, hc, rfl, ht7, hh7, hPA, htl, hcl, hta, fun H8 u d v ds c8 hu8 nd8 hd8 hPl => ?_⟩
    have ht8 := c8.lstD ht7 (by simp) (noLs_encC _)
    have hh8 := c8.lstD hh7 (by simp) (noLs_encC _)
    have hr8 := c8.keep r _ hr7 (by simp)
    obtain ⟨du, hdu⟩ := hd8.some
    have al8 : Al H8 [d, h, t, r] := (al7.chg c8).add (al7.out nd8) hdu
    have nrd : r ≠ d := ne_of_none hr7 nd8
    have hdl : ds.length ≤ 8 := by have := hPl.len; omega
    refine ⟨u, _, 0, _, rfl, rfl, SqT.of hu8, atI_nat (j := 0) rfl, ?_⟩
    -- what stays
    refine ⟨(by show 2 ≤ sizeLine; decide), fun q1 nq1 => ⟨(by show 2 ≤ sizeLine; decide), fun q2 nq2 => ⟨Nat.zero_le _, fun q3 nq3 => ⟨(by show 3 ≤ sizeLine; decide), fun q4 nq4 => ⟨(by show 1 ≤ sizeLine; decide), fun q5 nq5 => ?_⟩⟩⟩⟩⟩
    have s9 : Same H8 (upd (upd (upd (upd (upd H8 q1 (.tup [.int 7, .int 7])) q2 (.tup [.ref q1, .int 7])) q3 (.tup [])) q4 (.tup [.ref q2, .str "tell", .ref q3])) q5 (.lst [.ref q4])) :=
      ((((same_new nq1).trans (same_new nq2)).trans (same_new nq3)).trans (same_new nq4)).trans (same_new nq5)
    have hq5 : upd (upd (upd (upd (upd H8 q1 (.tup [.int 7, .int 7])) q2 (.tup [.ref q1, .int 7])) q3 (.tup [])) q4 (.tup [.ref q2, .str "tell", .ref q3])) q5 (.lst [.ref q4]) q5 = some (.lst [.ref q4]) := upd_same
    have nrq : r ≠ q5 := ne_of_none hr8 (((((same_new nq1).trans (same_new nq2)).trans (same_new nq3)).trans (same_new nq4)).free nq5)
    have dq4 : Dp K (upd (upd (upd (upd (upd H8 q1 (.tup [.int 7, .int 7])) q2 (.tup [.ref q1, .int 7])) q3 (.tup [])) q4 (.tup [.ref q2, .str "tell", .ref q3])) q5 (.lst [.ref q4])) (.ref q4) (encC ⟨[7, 7], 7, .tell, []⟩) := by
      have g5 := same_new (o := .lst [.ref q4]) nq5
      have g4 := (same_new (o := .tup [.ref q2, .str "tell", .ref q3]) nq4).trans g5
      have g3 := (same_new (o := .tup []) nq3).trans g4
      have g2 := (same_new (o := .tup [.ref q1, .int 7]) nq2).trans g3
      exact dpC_mk (SqT.of (g5 _ _ upd_same)) (dpK_mk (SqT.of (g3 _ _ upd_same)) (SqT.of (g2 _ _ upd_same))) (SqT.of (g4 _ _ upd_same))
    generalize upd (upd (upd (upd (upd H8 q1 (.tup [.int 7, .int 7])) q2 (.tup [.ref q1, .int 7])) q3 (.tup [])) q4 (.tup [.ref q2, .str "tell", .ref q3])) q5 (.lst [.ref q4]) = H9 at s9 hq5 dq4
    have hr9 := s9 _ _ hr8
    refine ⟨_, rfl, r, ns5, 2, rfl, hr9, by decide, fun H10 ns10 k c10 hr10 k0 k2 => ⟨k, rfl, q5, _, rfl, SqL.of (c10.keep q5 _ hq5 (by simpa using nrq.symm)), fun st nst => ?_⟩⟩
    have g10 : Chg [r] H8 H10 := (Chg.of_same s9).trans c10
    have dq10 := c10.dp _ _ (noL_encC _) dq4
    obtain ⟨sy, syl, hsy⟩ : ∃ sy : List Cl, sy.length ≤ 1 ∧ LstD K (upd H10 st (.lst (cutV [.ref q4] none (some k)))) st (sy.map encC) := by
      have hk : k = 0 ∨ k = 1 := by omega
      have gg : Chg [] H10 (upd H10 st (.lst (cutV [.ref q4] none (some k)))) := Chg.new nst
      rcases hk with rfl | rfl
      · exact ⟨[], Nat.zero_le _, _, upd_same, .nil⟩
      · exact ⟨[⟨[7, 7], 7, .tell, []⟩], Nat.le_refl _, _, upd_same, .cons (gg.dp _ _ (noL_encC _) dq10) .nil⟩
    have g11 : Chg [r] H8 (upd H10 st (.lst (cutV [.ref q4] none (some k)))) := g10.trans (Chg.new nst)
    have nrs : r ≠ st := ne_of_none hr10 nst
    have hr11 : upd H10 st (.lst (cutV [.ref q4] none (some k))) r = some (.lst (ns10.map V.int)) := by rw [upd_ne nrs]; exact hr10
    obtain ⟨su, hsu⟩ := hsy.some
    have al11 : Al (upd H10 st (.lst (cutV [.ref q4] none (some k)))) [st, d, h, t, r] := (al8.chg g11).add ((al8.chg g10).out nst) hsu
    generalize upd H10 st (.lst (cutV [.ref q4] none (some k))) = H11 at hsy g11 hr11 hsu al11
    -- the losses
    refine ⟨_, rfl, r, ns10, rfl, hr11, fun H12 lo ls ns12 c12 nlo hr12 hlo12 hll => ?_⟩
    have g12 := g11.trans c12
    have ht12 := g12.lstD ht8 (by simpa using nrt.symm) (noLs_encC _)
    have hh12 := g12.lstD hh8 (by simpa using nrh.symm) (noLs_encC _)
    have hd12 := g12.lstD hd8 (by simpa using nrd.symm) (noLs_map noL_encDe _)
    have hs12 := c12.lstD hsy (by simpa using nrs.symm) (noLs_encC _)
    have al12 : Al H12 [lo, st, d, h, t, r] := (al11.chg c12).add (al11.out nlo) hlo12
    -- the outside
    obtain ⟨tv, htv, htd⟩ := id ht12
    obtain ⟨sv, hsv, hsd⟩ := id hs12
    have tvl : tv.length = tc.length := by rw [dpa_length htd, List.length_map]
    have svl : sv.length = sy.length := by rw [dpa_length hsd, List.length_map]
    refine ⟨_, rfl, _, rfl, t, st, tv, sv, rfl, rfl, htv, hsv, small (by omega), fun ct nct => ?_⟩
    have s13 : Same H12 (upd H12 ct (.lst (tv ++ sv))) := same_new nct
    have hct : LstD K (upd H12 ct (.lst (tv ++ sv))) ct ((tc ++ sy).map encC) := by
      refine ⟨_, upd_same, ?_⟩
      rw [List.map_append]
      exact (Chg.of_same (S := []) s13).dps _ _ (by rw [← List.map_append]; exact noLs_encC _) (dpa_app htd hsd)
    generalize upd H12 ct (.lst (tv ++ sv)) = H13 at s13 hct
    refine ⟨_, rfl, rfl, rfl, fun o dxo ho hdxo hneo => ?_⟩
    have ho' : upd H13 dxo (.own o) o = none := by rw [upd_ne (Ne.symm hneo)]; exact ho
    have s14 : Same H13 (upd (upd H13 dxo (.own o)) o (.ins T.CO dxo [])) := (same_new hdxo).trans (same_new ho')
    have ho14 : upd (upd H13 dxo (.own o)) o (.ins T.CO dxo []) o = some (.ins T.CO dxo []) := upd_same
    generalize upd (upd H13 dxo (.own o)) o (.ins T.CO dxo []) = H14 at s14 ho14
    have s1214 := s13.trans s14
    have al13 := al12.chg (Chg.of_same (S := []) s13)
    have al14 : Al H14 [o, lo, st, d, h, t, r] := (al13.chg (Chg.of_same (S := []) s14)).add (al13.out ho) ho14
    refine ⟨o, dxo, ct, lo, tc ++ sy, ls, rfl, ho14, (Chg.of_same (S := []) s14).lstD hct (by simp) (noLs_encC _), s1214 _ _ hlo12, fun H15 c l nn c15 hOut nc nl0 nn' => ⟨rfl, ?_⟩⟩
    have g15 : Chg [] H12 H15 := Chg.drop ((Chg.of_same (S := [o]) s1214).trans c15) (s13.free ho)
    have al15 := al14.chg c15
    obtain ⟨cu, hcu⟩ := hOut.hC.some
    have al15c : Al H15 [c, o, lo, st, d, h, t, r] := al15.add (al14.out nc) hcu
    have al15l : Al H15 [l, c, o, lo, st, d, h, t, r] := al15c.add (fun z => by
      rcases List.mem_cons.mp z with z | z
      · exact hOut.cl z.symm
      · exact al14.out nl0 z) hOut.hL
    have al15n : Al H15 [nn, l, c, o, lo, st, d, h, t, r] := al15l.add (fun z => by
      rcases List.mem_cons.mp z with z | z
      · exact hOut.ln z.symm
      · rcases List.mem_cons.mp z with z | z
        · exact hOut.cn z.symm
        · exact al14.out nn' z) hOut.hN
    have ht15 := g15.lstD ht12 (by simp) (noLs_encC _)
    have hh15 := g15.lstD hh12 (by simp) (noLs_encC _)
    have hd15 := g15.lstD hd12 (by simp) (noLs_map noL_encDe _)
    have hs15 := g15.lstD hs12 (by simp) (noLs_encC _)
    have hr15 := g15.keep r _ hr12 (by simp)
    have hlo15 := g15.keep lo _ hlo12 (by simp)
    -- the saga
    obtain ⟨dv, hdv, hdd⟩ := id hd15
    refine ⟨_, rfl, _, rfl, _, rfl, d, dv, rfl, .inl (SqL.of hdv), fun d2 nd2 => ?_⟩
    have s16 : Same H15 (upd H15 d2 (.lst dv)) := same_new nd2
    have hd2 : LstD K (upd H15 d2 (.lst dv)) d2 (ds.map encDe) := ⟨_, upd_same, (Chg.of_same (S := []) s16).dps _ _ (noLs_map noL_encDe _) hdd⟩
    generalize upd H15 d2 (.lst dv) = H16 at s16 hd2
    refine fun sg dxs hsg hdxs hnes => ?_
    have hsg' : upd H16 dxs (.own sg) sg = none := by rw [upd_ne (Ne.symm hnes)]; exact hsg
    have s17 : Same H16 (upd (upd H16 dxs (.own sg)) sg (.ins T.CS dxs [])) := (same_new hdxs).trans (same_new hsg')
    have hsg17 : upd (upd H16 dxs (.own sg)) sg (.ins T.CS dxs []) sg = some (.ins T.CS dxs []) := upd_same
    generalize upd (upd H16 dxs (.own sg)) sg (.ins T.CS dxs []) = H17 at s17 hsg17
    have s1517 := s16.trans s17
    have al16 := al15n.chg (Chg.of_same (S := []) s16)
    have al17 : Al H17 [sg, nn, l, c, o, lo, st, d, h, t, r] := (al16.chg (Chg.of_same (S := []) s17)).add (al16.out hsg) hsg17
    have k17 : Chg [] H15 H17 := Chg.of_same s1517
    refine ⟨sg, dxs, t, h, d2, "", tc, hc, ds, [], rfl, hsg17, k17.lstD ht15 (by simp) (noLs_encC _), k17.lstD hh15 (by simp) (noLs_encC _), (Chg.of_same (S := []) s17).lstD hd2 (by simp) (noLs_map noL_encDe _), hPl.ok, hdl, by decide +kernel, by decide +kernel, (fun k hk => by cases hk), by decide, fun _ H18 e c18 ne hSg => ⟨rfl, ?_⟩, fun z => absurd ⟨Nat.zero_le _, rfl⟩ z⟩
    obtain ⟨eu, heu⟩ := hSg.hE.some
    have al18 : Al H18 [e, sg, nn, l, c, o, lo, st, d, h, t, r] := (al17.chg c18).add (al17.out ne) heu
    have g18 : Chg [] H15 H18 := Chg.drop ((Chg.of_same (S := [sg]) s1517).trans c18) (s16.free hsg)
    -- the model
    refine fun md nmd => ⟨Nat.zero_le _, fun dl ndl => ?_⟩
    have s19 : Same H18 (upd H18 md (.dK [])) := same_new nmd
    have hmd19 : upd H18 md (.dK []) md = some (.dK []) := upd_same
    have al19 : Al (upd H18 md (.dK [])) [md, e, sg, nn, l, c, o, lo, st, d, h, t, r] := (al18.chg (Chg.of_same (S := []) s19)).add (al18.out nmd) upd_same
    generalize upd H18 md (.dK []) = H19 at s19 hmd19 al19 ndl
    have s20 : Same H19 (upd H19 dl (.lst [])) := same_new ndl
    have hdl20 : upd H19 dl (.lst []) dl = some (.lst []) := upd_same
    have al20 : Al (upd H19 dl (.lst [])) [dl, md, e, sg, nn, l, c, o, lo, st, d, h, t, r] := (al19.chg (Chg.of_same (S := []) s20)).add (al19.out ndl) upd_same
    generalize upd H19 dl (.lst []) = H20 at s20 hdl20 al20
    have g20 : Chg [] H15 H20 := (g18.same s19).same s20
    have hd20 := g20.keep d _ hdv (by simp)
    refine ⟨_, rfl, d, dv, rfl, .inl (SqL.of hd20), s20 _ _ hmd19, [(.inr "noted", .int 0), (.inr "answered", .bl false), (.inr "sent", .int 0), (.inr "done", .ref dl), (.inr "count", .int (dv.length : Nat))], rfl, (by show 5 ≤ 15; decide), ?_⟩
    have em : mergeK [] [(.inr "noted", .int 0), (.inr "answered", .bl false), (.inr "sent", .int 0), (.inr "done", .ref dl), (.inr "count", .int (dv.length : Nat))] = mK 0 false 0 dl dv.length := by rfl
    rw [em]
    have dvl : dv.length = ds.length := by rw [dpa_length hdd, List.length_map]
    rw [dvl]
    have g21 : Chg [md] H20 (upd H20 md (.dK (mK 0 false 0 dl ds.length))) := Chg.put (s20 _ _ hmd19) rfl (by simp)
    have hm21 : upd H20 md (.dK (mK 0 false 0 dl ds.length)) md = some (.dK (mK 0 false 0 dl ds.length)) := upd_same
    generalize upd H20 md (.dK (mK 0 false 0 dl ds.length)) = H21 at g21 hm21
    have g1521 : Chg [md] H15 H21 := (g20.mono (by simp)).trans g21
    have nd := al20.nd
    obtain ⟨n1, nd⟩ := List.nodup_cons.mp nd
    obtain ⟨n2, nd⟩ := List.nodup_cons.mp nd
    obtain ⟨n3, nd⟩ := List.nodup_cons.mp nd
    obtain ⟨n4, nd⟩ := List.nodup_cons.mp nd
    have hall : (Ad.all ⟨r, t, h, d, lo, st, o, dxo, c, l, nn, md, dl⟩).Nodup := by
      show ([dl, md, nn, l, c, o, lo, st, d, h, t, r].reverse).Nodup
      refine (List.reverse_perm _).nodup_iff.mpr ?_
      refine List.nodup_cons.mpr ⟨fun z => n1 ?_, List.nodup_cons.mpr ⟨fun z => n2 ?_, nd⟩⟩
      · rcases List.mem_cons.mp z with z | z
        · rw [z]; simp
        · exact List.mem_cons_of_mem _ (List.mem_cons_of_mem _ (List.mem_cons_of_mem _ z))
      · exact List.mem_cons_of_mem _ (List.mem_cons_of_mem _ z)
    have hapt : Apt ⟨r, t, h, d, lo, st, o, dxo, c, l, nn, md, dl⟩ sg e := by
      constructor
      · intro z
        have z' : sg ∈ [dl, md, nn, l, c, o, lo, st, d, h, t, r] := List.mem_reverse.mp z
        rcases List.mem_cons.mp z' with z | z
        · exact n1 (by rw [← z]; simp)
        · rcases List.mem_cons.mp z with z | z
          · exact n2 (by rw [← z]; simp)
          · exact n4 z
      · intro z
        have z' : e ∈ [dl, md, nn, l, c, o, lo, st, d, h, t, r] := List.mem_reverse.mp z
        rcases List.mem_cons.mp z' with z | z
        · exact n1 (by rw [← z]; simp)
        · rcases List.mem_cons.mp z with z | z
          · exact n2 (by rw [← z]; simp)
          · exact n3 (List.mem_cons_of_mem _ z)
    have hsep := sep_of hall
    have hmdx : ∀ x ∈ [e, sg, nn, l, c, o, lo, st, d, h, t, r], x ∉ [md] := fun x hx z => n2 (List.mem_singleton.mp z ▸ hx)
    have L0 : LawAt K T.CO T.CS H21 ⟨r, t, h, d, lo, st, o, dxo, c, l, nn, md, dl⟩ tc hc sy ds ls ns12 sg dxs e ⟨0, false, 0, 0⟩ := by
      refine ⟨⟨?_, ?_, ?_, ?_, ?_, ?_⟩, ?_, ?_, ⟨hm21, ?_⟩, ⟨Nat.le_refl _, Nat.zero_le _, fun z => by cases z⟩, hapt⟩
      · exact g1521.keep r _ hr15 (hmdx r (by simp))
      · exact g1521.lstD ht15 (hmdx t (by simp)) (noLs_encC _)
      · exact g1521.lstD hh15 (hmdx h (by simp)) (noLs_encC _)
      · exact g1521.lstD hd15 (hmdx d (by simp)) (noLs_map noL_encDe _)
      · exact g1521.keep lo _ hlo15 (hmdx lo (by simp))
      · exact g1521.lstD hs15 (hmdx st (by simp)) (noLs_encC _)
      · exact (((Chg.of_same (S := [md]) s19).same s20).trans g21).sagaAt hSg (hmdx sg (by simp)) (hmdx e (by simp))
      · exact g1521.outAt hOut (hmdx o (by simp)) (hmdx c (by simp)) (hmdx l (by simp)) (hmdx nn (by simp))
      · exact g21.keep dl _ hdl20 (by
          intro z
          exact n1 (by rw [List.mem_singleton.mp z]; simp))
    have en : (ds.map (De.sd tc hc)).length = ds.length := by rw [List.length_map]
    obtain ⟨hcan, hcarry⟩ := carried hPl sy
    have hcs0 : (tc ++ sy).length ≤ 8 := by rw [List.length_append]; omega
    -- sixty turns
    refine ⟨_, rfl, r, ns12, 61, rfl, L0.b.hr, by decide, fun H22 ns22 k c22 hr22 k0 k61 => ⟨k, rfl, by omega, by omega, ?_⟩⟩
    have L1 := L0.draw hsep c22 hr22
    refine for_range (n := k.toNat) (fun i σ H3 => ∃ (sg dxs e : Addr) (ns : List Int) (w : Ws) (x11 : Option V), σ = [some (.ref a), some (.ref r), some (.ref t), some (.ref h), none, some (.ref d), some (.ref st), some (.ref lo), some (.ref o), some (.ref sg), some (.ref md), x11] ∧ LawAt K T.CO T.CS H3 ⟨r, t, h, d, lo, st, o, dxo, c, l, nn, md, dl⟩ tc hc sy ds ls ns sg dxs e w)
      ⟨sg, dxs, e, ns22, _, none, rfl, L1⟩ ?_ ?_
    · rintro i σ H3 hi ⟨sg, dxs, e, ns3, w, x11, rfl, L3⟩
      refine ⟨fun σ H4 => ∃ (sg dxs e : Addr) (ns : List Int) (w : Ws), σ = [some (.ref a), some (.ref r), some (.ref t), some (.ref h), none, some (.ref d), some (.ref st), some (.ref lo), some (.ref o), some (.ref sg), some (.ref md), some (.int (0 + (i : Nat)))] ∧ LawAt K T.CO T.CS H4 ⟨r, t, h, d, lo, st, o, dxo, c, l, nn, md, dl⟩ tc hc sy ds ls ns sg dxs e w, ?_, ?_⟩
      · refine ⟨_, rfl, r, ns3, 9, rfl, L3.b.hr, by decide, fun H4 ns4 k4 c4 hr4 _ _ => ⟨rfl, _, rfl, ite2 (fun _ => ?_) (fun _ => ⟨sg, dxs, e, ns4, w, rfl, L3.draw hsep c4 hr4⟩)⟩⟩
        have L4 := L3.draw hsep c4 hr4
        obtain ⟨dv, hdv, hdd⟩ := id L4.b.hd
        refine ⟨_, rfl, _, rfl, _, rfl, d, dv, rfl, .inl (SqL.of hdv), fun d2 nd2 => ?_⟩
        have s5 : Same H4 (upd H4 d2 (.lst dv)) := same_new nd2
        have hd2 : LstD K (upd H4 d2 (.lst dv)) d2 (ds.map encDe) := ⟨_, upd_same, (Chg.of_same (S := []) s5).dps _ _ (noLs_map noL_encDe _) hdd⟩
        have L5 := L4.same (Chg.of_same s5)
        have n2r : d2 ≠ r := (ne_of_none L4.b.hr nd2).symm
        have n2m : d2 ≠ md := (ne_of_none L4.m.hM nd2).symm
        generalize upd H4 d2 (.lst dv) = H5 at s5 hd2 L5
        have hNn : w.N ≤ ds.length := Nat.le_trans L5.g.nd L5.g.dn
        refine ⟨_, rfl, _, rfl, _, rfl, r, sg, dxs, e, md, dl, ns4, w.N, ds.length, w.A, w, rfl, L5.b.hr, L5.s.hS, by omega, L5.m.hM, fun H6 ns6 tt c6 hr6 hm6 => ⟨rfl, rfl, fun sg2 dx2 hsg2 hdx2 hne2 => ?_⟩⟩
        obtain ⟨hcn, hcp⟩ := cut_lines (n := w.N) (t := tt) (by omega)
        have hcl' := Nat.le_trans (cut_len (linesT w.N) tt) (Nat.le_of_eq (lines_len w.N (by omega)))
        obtain ⟨b6, o6, dl6⟩ := cut_keeps L5 hsep c6 hr6
        have hd6 : LstD K H6 d2 (ds.map encDe) := c6.lstD hd2 (by simpa using ⟨n2r, n2m⟩) (noLs_map noL_encDe _)
        have hsg2' : upd H6 dx2 (.own sg2) sg2 = none := by rw [upd_ne (Ne.symm hne2)]; exact hsg2
        have s7 : Same H6 (upd (upd H6 dx2 (.own sg2)) sg2 (.ins T.CS dx2 [])) := (same_new hdx2).trans (same_new hsg2')
        have hsg7 : upd (upd H6 dx2 (.own sg2)) sg2 (.ins T.CS dx2 []) sg2 = some (.ins T.CS dx2 []) := upd_same
        generalize upd (upd H6 dx2 (.own sg2)) sg2 (.ins T.CS dx2 []) = H7 at s7 hsg7
        have k7 : Chg [] H6 H7 := Chg.of_same s7
        have b7 := b6.same k7
        refine ⟨sg2, dx2, t, h, d2, cutT (linesT w.N) tt, tc, hc, ds, List.range (nl (cutT (linesT w.N) tt)), rfl, hsg7, b7.ht, b7.hh, k7.lstD hd6 (by simp) (noLs_map noL_encDe _), hPl.ok, hdl, by omega, hcp, (fun k hk => by have := List.mem_range.mp hk; omega), by rw [List.length_range]; omega,
          fun _ H8 e2 c8 ne2 hSg2 => ⟨rfl, ?_⟩, fun z => absurd ⟨by rw [List.length_range]; omega, by rw [List.length_range]⟩ z⟩
        rw [List.length_range] at hSg2
        have g68 : Chg [] H6 H8 := Chg.drop ((Chg.of_same (S := [sg2]) s7).trans c8) hsg2
        have th := b6.there o6 ⟨_, hm6⟩ ⟨_, dl6⟩
        exact ⟨sg2, dx2, e2, ns6, ⟨nl (cutT (linesT w.N) tt), false, w.s, w.D⟩, rfl, ⟨b6.same g68, hSg2, o6.same g68, ⟨g68.keep _ _ hm6 (by simp), g68.keep _ _ dl6 (by simp)⟩, ⟨Nat.le_trans hcn L5.g.nd, L5.g.dn, fun z => by cases z⟩, ⟨away th hsg2, away th (s7.free ne2)⟩⟩⟩
      · rintro σ H4 ⟨sg, dxs, e, ns4, w, rfl, L4⟩
        have hDn := L4.g.dn
        refine ⟨_, rfl, sg, dxs, _, rfl, L4.s.hS, sF_no _ _ _ _ (by decide +kernel) (by decide +kernel) (by decide +kernel), _, rfl, sg, dxs, e, o, dxo, c, l, nn, ds.map (De.sd tc hc), tc ++ sy, ls, w, rfl, L4.s, L4.o, by rw [en]; exact L4.g, hcan, by rw [en]; exact hdl, hcs0, (fun z => L4.x.s (by rw [z]; simp)), (fun z => L4.x.e (by rw [z]; simp)), (fun z => L4.x.e (by rw [z]; simp)), fun H5 v c5 S5 O5 d5 => ?_⟩
        rw [en] at S5 O5 d5
        obtain ⟨b5, m5⟩ := L4.stepped hsep c5
        refine ⟨_, rfl, _, rfl, md, lo, dl, ls, ds.length, w, rfl, m5, b5.hl, (fun z => hsep.bx lo (by simp) (by rw [z]; simp)), L4.g.nd, by omega, fun H6 v2 c6 M6 d6 => ?_⟩
        obtain ⟨b6, s6, o6⟩ := due_keeps b5 S5 O5 hsep L4.x c6
        refine ⟨encT (stepT ds.length ls w), encT (stepT ds.length ls w), c6.dp _ _ (noL_encT _) d5, d6, shaped_encT _, shaped_encT _, _, rfl, ?_⟩
        rw [eqv_encT]
        refine iteF ?_
        have L6 : LawAt K T.CO T.CS H6 ⟨r, t, h, d, lo, st, o, dxo, c, l, nn, md, dl⟩ tc hc sy ds ls ns4 sg dxs e (stepW ds.length ls w) := ⟨b6, s6, o6, M6, good_step L4.g, L4.x⟩
        generalize stepW ds.length ls w = w' at L6
        clear d5 d6 M6 s6 o6 b6 m5 b5 S5 O5 c5 c6 L4 hDn
        have hDn := L6.g.dn
        have hNd := L6.g.nd
        refine ⟨_, rfl, o, dxo, _, rfl, L6.o.hO, oF_no _ _ _ _ _ (by decide +kernel) (by decide +kernel) (by decide +kernel) (by decide +kernel), o, dxo, c, l, nn, _, ls, _, _, rfl, L6.o, fun H7 p7 s7 np7 hp7 => ?_⟩
        have L7 := L6.same (Chg.of_same s7)
        refine ⟨_, rfl, md, _, rfl, gD L7.m.hM, .list (rgP w'.D), .list (rgP w'.D), .lst (SqL.of hp7) (dp_rg _ _ _), .lst (SqL.of L7.m.hD) (dp_rg _ _ _), shaped_rg _, shaped_rg _, _, rfl, ?_⟩
        rw [eqv_rg]
        refine iteF ?_
        -- texts
        refine ⟨_, rfl, sg, dxs, _, rfl, L7.s.hS, sF_no _ _ _ _ (by decide +kernel) (by decide +kernel) (by decide +kernel), sg, dxs, e, w'.N, w'.A, rfl, L7.s.hS, by omega, fun H8 s8 => ?_⟩
        have L8 := L7.same (Chg.of_same s8)
        refine ⟨_, rfl, md, _, rfl, gN L8.m.hM, w'.N, rfl, by omega, fun H9 s9 => ⟨rfl, _, rfl, iteN (by simp) ?_⟩⟩
        have L9 := L8.same (Chg.of_same s9)
        obtain ⟨ev, hev, hed⟩ := id L9.s.hE
        obtain ⟨dv, hdv, hdd⟩ := id L9.b.hd
        have evl : ev.length = ds.length := by rw [dpa_length hed, List.length_map, List.length_map]
        have dvl : dv.length = ds.length := by rw [dpa_length hdd, List.length_map]
        refine ⟨_, rfl, sg, dxs, _, rfl, L9.s.hS, sg, dxs, e, _, w'.A, ev, rfl, L9.s.hS, hev, _, rfl, md, _, rfl, gN L9.m.hM, _, rfl, d, dv, rfl, .inl (SqL.of hdv), rfl, rfl, _, rfl, iteN (by rw [evl, dvl]; simp) ?_⟩
        -- done in order
        refine ⟨_, rfl, md, _, rfl, gD L9.m.hM, _, rfl, md, _, rfl, gD L9.m.hM, dl, _, rfl, .inl (SqL.of L9.m.hD), _, rfl, by rw [rg_len]; exact rg_ok (by omega), fun p np => ?_⟩
        refine ⟨.list (rgP w'.D), .list (rgP w'.D), .lst (SqL.of (same_new np _ _ L9.m.hD)) (dp_rg _ _ _), .lst (SqL.of upd_same) (by rw [rg_len, kit_rg]; exact dp_rg _ _ _), shaped_rg _, shaped_rg _, _, rfl, ?_⟩
        rw [eqv_rg]
        exact iteF ⟨sg, dxs, e, ns4, w', _, rfl, L9.same (Chg.new np)⟩
    rintro σ H3 ⟨sg, dxs, e, ns3, w, x11, rfl, L3⟩
    -- a hundred steps
    have hl0 : left ds.length ls w + 0 ≤ 35 := by
      unfold left
      split <;> omega
    refine ⟨_, rfl, by decide, by decide, ?_⟩
    refine for_range (n := 100) (fun i σ H4 => ∃ (w : Ws) (x11 : Option V), σ = [some (.ref a), some (.ref r), some (.ref t), some (.ref h), none, some (.ref d), some (.ref st), some (.ref lo), some (.ref o), some (.ref sg), some (.ref md), x11] ∧ BaseAt K H4 ⟨r, t, h, d, lo, st, o, dxo, c, l, nn, md, dl⟩ tc hc sy ds ls ns3 ∧ SagaAt K T.CS H4 sg dxs e (ds.map (De.sd tc hc)) w.N w.A ∧
        OutAt K T.CO H4 o dxo c l nn (actAll ((ds.map (De.sd tc hc)).take w.D) (tc ++ sy)) ls w.s w.D ∧ Good ds.length w ∧ (w.N = ds.length ∨ left ds.length ls w + i ≤ 35))
      ⟨w, x11, rfl, L3.b, L3.s, L3.o, L3.g, .inr hl0⟩ ?_ ?_
    · rintro i σ H4 hi ⟨w, x11, rfl, b4, S4, O4, g4, hw⟩
      refine ⟨_, rfl, sg, dxs, _, rfl, S4.hS, sF_no _ _ _ _ (by decide +kernel) (by decide +kernel) (by decide +kernel), _, rfl, sg, dxs, e, o, dxo, c, l, nn, ds.map (De.sd tc hc), tc ++ sy, ls, w, rfl, S4, O4, by rw [en]; exact g4, hcan, by rw [en]; exact hdl, hcs0, (fun z => L3.x.s (by rw [z]; simp)), (fun z => L3.x.e (by rw [z]; simp)), (fun z => L3.x.e (by rw [z]; simp)), fun H5 v c5 S5 O5 d5 => ?_⟩
      rw [en] at S5 O5
      refine ⟨_, _, rfl, step_keeps b4 hsep L3.x c5, S5, O5, good_step g4, ?_⟩
      by_cases hN : w.N = ds.length
      · have ew : stepW ds.length ls w = w := if_pos hN
        rw [ew]
        exact .inl hN
      · rcases hw with hw | hw
        · exact absurd hw hN
        · have := left_step (ls := ls) g4 hN
          exact .inr (by omega)
    rintro σ H4 ⟨⟨N, A', s', D⟩, x12, rfl, b4, S4, O4, g4, hw⟩
    have hN : N = ds.length := by
      rcases hw with hw | hw
      · exact hw
      · omega
    have hD : D = ds.length := by
      have h1 : N ≤ D := g4.nd
      have h2 : D ≤ ds.length := g4.dn
      omega
    subst hN
    subst hD
    have S4 : SagaAt K T.CS H4 sg dxs e (ds.map (De.sd tc hc)) ds.length A' := S4
    have O4 : OutAt K T.CO H4 o dxo c l nn (actAll ((ds.map (De.sd tc hc)).take ds.length) (tc ++ sy)) ls s' ds.length := O4
    obtain ⟨ev, hev, hed⟩ := id S4.hE
    have evl : ev.length = ds.length := by rw [dpa_length hed, List.length_map, List.length_map]
    -- over, all done, nothing more
    refine ⟨_, rfl, sg, dxs, _, rfl, S4.hS, sg, dxs, e, _, A', ev, rfl, S4.hS, hev, _, rfl, iteN (by rw [evl]; simp) ?_⟩
    refine ⟨_, rfl, o, dxo, _, rfl, O4.hO, oF_no _ _ _ _ _ (by decide +kernel) (by decide +kernel) (by decide +kernel) (by decide +kernel), o, dxo, c, l, nn, _, ls, _, _, rfl, O4, fun H5 p5 s5 np5 hp5 => ?_⟩
    have k5 : Chg [] H4 H5 := Chg.of_same s5
    have b5 := b4.same k5
    have S5 := S4.same k5
    have O5 := O4.same k5
    obtain ⟨dv, hdv, hdd⟩ := id b5.hd
    have dvl : dv.length = ds.length := by rw [dpa_length hdd, List.length_map]
    refine ⟨_, rfl, d, dv, rfl, .inl (SqL.of hdv), _, rfl, by rw [dvl]; exact rg_ok (by omega), fun p6 np6 => ?_⟩
    refine ⟨.list (rgP ds.length), .list (rgP ds.length), .lst (SqL.of (same_new np6 _ _ hp5)) (dp_rg _ _ _), .lst (SqL.of upd_same) (by rw [dvl, kit_rg]; exact dp_rg _ _ _), shaped_rg _, shaped_rg _, _, rfl, ?_⟩
    rw [eqv_rg]
    refine iteF ?_
    have k6 : Chg [] H5 (upd H5 p6 (.lst (L2.rgV 0 (dv.length : Nat)))) := Chg.new np6
    have b6 := b5.same k6
    have S6 := S5.same k6
    have O6 := O5.same k6
    generalize upd H5 p6 (.lst (L2.rgV 0 (dv.length : Nat))) = H6 at b6 S6 O6
    refine ⟨_, rfl, sg, dxs, _, rfl, S6.hS, sF_no _ _ _ _ (by decide +kernel) (by decide +kernel) (by decide +kernel), _, rfl, sg, dxs, e, o, dxo, c, l, nn, ds.map (De.sd tc hc), tc ++ sy, ls, ⟨ds.length, A', s', ds.length⟩, rfl, S6, O6, by rw [en]; exact g4, hcan, by rw [en]; exact hdl, hcs0, (fun z => L3.x.s (by rw [z]; simp)), (fun z => L3.x.e (by rw [z]; simp)), (fun z => L3.x.e (by rw [z]; simp)), fun H7 v7 c7 S7 O7 d7 => ?_⟩
    rw [en] at S7 O7 d7
    have ew : stepW ds.length ls ⟨ds.length, A', s', ds.length⟩ = ⟨ds.length, A', s', ds.length⟩ := if_pos rfl
    have et : stepT ds.length ls ⟨ds.length, A', s', ds.length⟩ = .over := if_pos rfl
    rw [ew] at S7 O7
    rw [et] at d7
    have b7 := step_keeps b6 hsep L3.x c7
    have S7 : SagaAt K T.CS H7 sg dxs e (ds.map (De.sd tc hc)) ds.length A' := S7
    have O7 : OutAt K T.CO H7 o dxo c l nn (actAll ((ds.map (De.sd tc hc)).take ds.length) (tc ++ sy)) ls s' ds.length := O7
    refine ⟨(by show 1 ≤ sizeLine; decide), fun p8 np8 => ?_⟩
    have k8 : Chg [] H7 (upd H7 p8 (.tup [.str "over"])) := Chg.new np8
    refine ⟨encT .over, encT .over, k8.dp _ _ (noL_encT _) d7, .tup (SqT.of upd_same) (.cons (.str _) .nil), shaped_encT _, shaped_encT _, _, rfl, ?_⟩
    rw [eqv_encT]
    refine iteF ?_
    have b8 := b7.same k8
    have S8 := S7.same k8
    have O8 := O7.same k8
    generalize upd H7 p8 (.tup [.str "over"]) = H8 at b8 S8 O8
    clear k8 d7 O7 S7 b7 c7 O6 S6 b6
    -- what is in force
    refine ⟨_, rfl, o, dxo, _, rfl, O8.hO, oF_no _ _ _ _ _ (by decide +kernel) (by decide +kernel) (by decide +kernel) (by decide +kernel), o, dxo, c, l, nn, _, ls, _, _, rfl, O8, fun H9 p9 s9 np9 hp9 => ?_⟩
    have k9 : Chg [] H8 H9 := Chg.of_same s9
    have b9 := b8.same k9
    have S9 := S8.same k9
    obtain ⟨hv, hhv, hhd⟩ := id b9.hh
    obtain ⟨sv, hsv, hsd⟩ := id b9.hs
    have hvl : hv.length = hc.length := by rw [dpa_length hhd, List.length_map]
    have svl : sv.length = sy.length := by rw [dpa_length hsd, List.length_map]
    refine ⟨_, rfl, _, rfl, h, st, hv, sv, rfl, rfl, hhv, hsv, small (by omega), fun ct nct => ?_⟩
    have k10 : Chg [] H9 (upd H9 ct (.lst (hv ++ sv))) := Chg.new nct
    refine ⟨ct, hv ++ sv, hc ++ sy, rfl, SqL.of upd_same, by rw [List.map_append]; exact k10.dps _ _ (by rw [← List.map_append]; exact noLs_encC _) (dpa_app hhd hsd), fun p11 zs np11 hz => ?_⟩
    have k11 : Chg [] (upd H9 ct (.lst (hv ++ sv))) (upd (upd H9 ct (.lst (hv ++ sv))) p11 (.lst zs)) := Chg.new np11
    have k911 := k10.trans k11
    have etake : (ds.map (De.sd tc hc)).take ds.length = ds.map (De.sd tc hc) := List.take_of_length_le (by rw [en]; exact Nat.le_refl _)
    rw [etake, sort_perm hcarry] at hp9
    refine ⟨.list (((hc ++ sy).mergeSort cLe).map encC), .list (((hc ++ sy).mergeSort cLe).map encC), (k911.lstD hp9 (by simp) (noLs_encC _)).dp, .lst (SqL.of upd_same) (k11.dps _ _ (noLs_encC _) hz), shaped_encCs _, shaped_encCs _, _, rfl, ?_⟩
    rw [eqv_calls]
    refine iteF ?_
    have b11 := b9.same k911
    have S11 := S9.same k911
    generalize upd (upd H9 ct (.lst (hv ++ sv))) p11 (.lst zs) = H11 at b11 S11
    -- the journal
    refine ⟨_, rfl, sg, dxs, _, rfl, S11.hS, sF_no _ _ _ _ (by decide +kernel) (by decide +kernel) (by decide +kernel), sg, dxs, e, ds.length, A', rfl, S11.hS, by omega, fun H12 s12 => ?_⟩
    have b12 := b11.same (Chg.of_same s12)
    obtain ⟨dv2, hdv2, hdd2⟩ := id b12.hd
    have dvl2 : dv2.length = ds.length := by rw [dpa_length hdd2, List.length_map]
    refine ⟨_, rfl, d, dv2, rfl, .inl (SqL.of hdv2), ds.length, by rw [dvl2]; rfl, by omega, fun H13 s13 => ⟨rfl, _, rfl, iteN (by simp) ?_⟩⟩
    have b13 := b12.same (Chg.of_same s13)
    -- refusals
    have hle := lines_len (ds.length + 1) (by omega)
    have hln := lines_len ds.length (by omega)
    refine ⟨_, rfl, _, rfl, _, rfl, _, rfl, d, dv2, rfl, .inl (SqL.of (s13 _ _ hdv2)), _, _, rfl, rfl, ds.length + 1, by rw [dvl2]; rfl, by omega, fun H14 s14 => ?_⟩
    have b14 := b13.same (Chg.of_same s14)
    refine ⟨t, h, d, linesT (ds.length + 1), tc, hc, ds, List.range (ds.length + 1), rfl, b14.ht, b14.hh, b14.hd, hPl.ok, hdl, by omega, parse_lines (by omega), (fun k hk => by have := List.mem_range.mp hk; omega), by rw [List.length_range]; omega, fun H15 g15 => ?_⟩
    have f1 : ¬ ((List.range (ds.length + 1)).length ≤ ds.length ∧ List.range (ds.length + 1) = List.range (List.range (ds.length + 1)).length) := fun z => by
      have := z.1
      rw [List.length_range] at this
      omega
    rw [decide_eq_false f1]
    refine ⟨_, rfl, iteF ?_⟩
    have b15 := b14.same g15
    refine ⟨_, rfl, _, rfl, _, rfl, t, h, d, "done 1\n", tc, hc, ds, [1], rfl, b15.ht, b15.hh, b15.hd, hPl.ok, hdl, by decide +kernel, by rw [parse_done1]; rfl, (fun k hk => by rw [List.mem_singleton.mp hk]; decide), by decide, fun H16 g16 => ?_⟩
    have f2 : ¬ (([1] : List Nat).length ≤ ds.length ∧ ([1] : List Nat) = List.range ([1] : List Nat).length) := fun z => by
      have := z.2
      revert this
      decide
    rw [decide_eq_false f2]
    refine ⟨_, rfl, iteF ?_⟩
    have b16 := b15.same g16
    refine ⟨fun σ H17 => σ = [some (.ref a), some (.ref r), some (.ref t), some (.ref h), none, some (.ref d), some (.ref st), some (.ref lo), some (.ref o), some (.ref sg), some (.ref md), x12] ∧ BaseAt K H17 ⟨r, t, h, d, lo, st, o, dxo, c, l, nn, md, dl⟩ tc hc sy ds ls ns3, ?_, ?_⟩
    · refine ⟨_, rfl, Nat.zero_le _, fun p17 np17 => ?_⟩
      have k17 : Chg [] H16 (upd H16 p17 (.lst [])) := Chg.new np17
      have b17 := b16.same k17
      refine ⟨.list (ds.map encDe), .list [], b17.hd.dp, .lst (SqL.of upd_same) .nil, shaped_encDes _, by rfl, _, rfl, ite2 (fun _ => ?_) (fun _ => iteF ⟨rfl, b17⟩)⟩
      refine ⟨_, rfl, _, rfl, _, rfl, t, h, d, "don", tc, hc, ds, [], rfl, b17.ht, b17.hh, b17.hd, hPl.ok, hdl, by decide +kernel, by rw [parse_don]; rfl, (fun k hk => by cases hk), by decide, fun H18 g18 => ?_⟩
      have f3 : (([] : List Nat).length ≤ ds.length ∧ ([] : List Nat) = List.range ([] : List Nat).length) := ⟨Nat.zero_le _, rfl⟩
      rw [decide_eq_true f3]
      exact ⟨_, rfl, iteF ⟨rfl, b17.same g18⟩⟩
    · rintro σ H17 ⟨rfl, b17⟩
      obtain ⟨dv3, hdv3, hdd3⟩ := id b17.hd
      have dvl3 : dv3.length = ds.length := by rw [dpa_length hdd3, List.length_map]
      refine ⟨_, rfl, _, rfl, _, rfl, _, rfl, d, dv3, rfl, .inl (SqL.of hdv3), ds.length, by rw [dvl3]; rfl, by omega, fun H18 s18 => ?_⟩
      have b18 := b17.same (Chg.of_same s18)
      refine ⟨t, h, d, linesT ds.length, tc, hc, ds, List.range ds.length, rfl, b18.ht, b18.hh, b18.hd, hPl.ok, hdl, by omega, parse_lines (by omega), (fun k hk => by have := List.mem_range.mp hk; omega), by rw [List.length_range]; omega, fun H19 g19 => ?_⟩
      have f4 : ((List.range ds.length).length ≤ ds.length ∧ List.range ds.length = List.range (List.range ds.length).length) := ⟨by rw [List.length_range]; exact Nat.le_refl _, by rw [List.length_range]⟩
      rw [decide_eq_true f4]
      exact ⟨_, rfl, q H19⟩
end
end Sg
namespace Sg
open PySem PySem.Spec PyProof.Rows L2
theorem law_asks {K : PySem.W.Frag} {H : Hp} {a : Addr} {ns : List Int} (hl : ns.length ≤ 63) (hS : SqL K H a (ns.map V.int)) : spLaw K [.ref a] H (fun v _ => v = .bl true) fun _ _ _ => False := ⟨a, ns, rfl, hS, hl, fun _ => rfl⟩
theorem exm_own {K : PySem.W.Frag} {S : Addr} (h1 : PySem.W.subIn K (.ref S) (.type "BaseException") = some true) (h2 : PySem.W.isClsIn K S = true) (h3 : PySem.W.typeIn K (.ref S) = some (.type "type")) (h4 : PySem.W.subIn K (.ref S) (.ref S) = some true) :
    PySem.W.exmOne K (.ref S) (.ref S) = some true := by
  have e1 : (PySem.W.subIn K (.ref S) (.type "BaseException") == some true) = true := by rw [h1] <;> rfl
  have e2 : ((PySem.W.clsIn K S).isSome && PySem.W.typeIn K (.ref S) == some (.type "type")) = true := by
    have h2' : (PySem.W.clsIn K S).isSome = true := h2
    rw [h2', h3] <;> rfl
  show (if (PySem.W.subIn K (.ref S) (.type "BaseException") == some true) = true then (if ((PySem.W.clsIn K S).isSome && PySem.W.typeIn K (.ref S) == some (.type "type")) = true then PySem.W.subIn K (.ref S) (.ref S) else none) else none) = some true
  rw [if_pos e1, if_pos e2]
  exact h4
theorem law_end {P : Program} {w : World} {K : PySem.W.Frag} {mg : Str → Option Value} {fa : Addr} (T : Tx K mg) (hmg : mg "law" = some (.ref fa)) :
    ∃ fd : FuncData, (∀ (s : Shared) (u : Value), BindsTo s fd ⟨[u], []⟩ [("_law_script", u)]) ∧ ∀ base : Heap, K.In base → base.Ns mainGlobals mg → FnOk P w K mg base CX0 lvl fa fd ["_law_script"] (spLaw K) := by
  have e := hmg.symm.trans T.law.g
  cases e
  exact ⟨T.law.fd, T.law_b, fun base _ _ => ok_law T⟩
end Sg
open PySem PySem.W PyProof.Rows L2
set_option maxRecDepth 100000 in
set_option maxHeartbeats 0 in
theorem PySem.Challenge.cw_retroact_k35_whole_sagas_settle_once_holds : PySem.Challenge.rw_retroact_k35_whole_sagas_settle_once.Holds := by
  w_on; o_law; k_head; (case hw => w_witness2)
  k_fill
  refine L2.walk_of (l := PySem.Challenge.rw_retroact_k35_whole_sagas_settle_once) (n := 63) (k := Sg.lvl) (x := "_law_script") (CX := fun _ => L2.CX0) (sp := fun w => Sg.spLaw _) rfl (by decide) rfl ⟨rfl, by decide, by decide⟩ (fun w h Y => PySem.W.kIn_of Y) ?F (fun _ _ a ns hl _ hS => Sg.law_asks hl hS) (fun _ _ _ _ _ h => h)
  case F =>
    intro w mg fa h KX G hmg
    refine Sg.law_end ?T hmg
    clear hmg
    refine' Sg.mkTx (PySem.W.mg_of KX G ?aCO) (PySem.W.mg_of KX G ?aCS) (PySem.W.mg_of KX G ?aCP) (PySem.W.mg_of KX G ?aCC) (PySem.W.mg_of KX G ?aCA) (?J) (?cO) (?cS) (?cP) (?cC) (?cA) (?nO_calls) (?nO_losses) (?nO_sent) (?nO_numbers) (?nS_deeds) (?nS_noted) (?nS_answered) (?nP_effects) (?nC_undos) (?nC_dos) (?nC_changes) (?nA_rows) (?nA_size) (?nA_lefts) (?nA_rights) (?nA_row_of) (?O_init) (?O_send) (?O_in_force) (?O_done) (?S_init) (?S_step) (?S_text) (?S_is_over) (?P_init) (?C_init) (?A_init) (?A_slack) (?A_add) (?A_shift) (?A_turn) (?A_column_of) (?is_price) (?prices_of) (?undo_cost) (?do_cost) (?change_cost) (?square) (?made_paper) (?plan) (?law_mix) (?law_numbers) (?law_take) (?law_call) (?law_calls) (?law_price) (?law_prices) (?law_losses) (?law_due) (?law_lines) (?law_refused) (?law_cut) (?law) (fun s u => ?law_b) (?m_MOST_PRICE) (?m_MOST_CALLS) (?z_len) (?z_range) (?z_sorted) (?z_sum) (?z_abs) (?z_zip) (?z_enumerate) (?z_max) (?z_list) (?z_tuple) (?z_dict) (?z_int) (?z_str) (?z_all)
    (case aCO => k_is)
    (case aCS => k_is)
    (case aCP => k_is)
    (case aCC => k_is)
    (case aCA => k_is)
    (case J =>
      refine' ⟨PySem.W.mg_of KX G ?aCJ, ?x, ?k, ?b, ?t, Sg.exm_own ?b2 ?i2 ?t2 ?s2⟩
      (case aCJ => k_is); (case x => first | k_exc | k_is); (case k => k_is); (case b => k_is); (case t => k_is); (case b2 => k_is); (case i2 => k_is); (case t2 => k_is); (case s2 => first | rfl | k_is))
    (case cO =>
      refine' Sg.mkCls ?a ?b ?c ?d
      (case a => k_is); (case b => k_is); (case c => k_is); (case d => k_is))
    (case cS =>
      refine' Sg.mkCls ?a ?b ?c ?d
      (case a => k_is); (case b => k_is); (case c => k_is); (case d => k_is))
    (case cP =>
      refine' Sg.mkCls ?a ?b ?c ?d
      (case a => k_is); (case b => k_is); (case c => k_is); (case d => k_is))
    (case cC =>
      refine' Sg.mkCls ?a ?b ?c ?d
      (case a => k_is); (case b => k_is); (case c => k_is); (case d => k_is))
    (case cA =>
      refine' Sg.mkCls ?a ?b ?c ?d
      (case a => k_is); (case b => k_is); (case c => k_is); (case d => k_is))
    (case nO_calls =>
      show PySem.W.findIn _ _ _ = _
      k_is)
    (case nO_losses =>
      show PySem.W.findIn _ _ _ = _
      k_is)
    (case nO_sent =>
      show PySem.W.findIn _ _ _ = _
      k_is)
    (case nO_numbers =>
      show PySem.W.findIn _ _ _ = _
      k_is)
    (case nS_deeds =>
      show PySem.W.findIn _ _ _ = _
      k_is)
    (case nS_noted =>
      show PySem.W.findIn _ _ _ = _
      k_is)
    (case nS_answered =>
      show PySem.W.findIn _ _ _ = _
      k_is)
    (case nP_effects =>
      show PySem.W.findIn _ _ _ = _
      k_is)
    (case nC_undos =>
      show PySem.W.findIn _ _ _ = _
      k_is)
    (case nC_dos =>
      show PySem.W.findIn _ _ _ = _
      k_is)
    (case nC_changes =>
      show PySem.W.findIn _ _ _ = _
      k_is)
    (case nA_rows =>
      show PySem.W.findIn _ _ _ = _
      k_is)
    (case nA_size =>
      show PySem.W.findIn _ _ _ = _
      k_is)
    (case nA_lefts =>
      show PySem.W.findIn _ _ _ = _
      k_is)
    (case nA_rights =>
      show PySem.W.findIn _ _ _ = _
      k_is)
    (case nA_row_of =>
      show PySem.W.findIn _ _ _ = _
      k_is)
    (case O_init =>
      refine' Sg.mkIn1R ?a ?i ?l ?c ?k ?mk ?kc ?kd rfl (fun D _ _ _ _ _ us ks h1 h2 => match us, ks, h1, h2 with | [_, _], [_], _, _ => ⟨_, _, _, _, _, _, rfl, rfl, rfl⟩) (fun D _ _ _ _ _ us ws h1 h2 => match us, ws, h1, h2 with | [_, _], [_], _, _ => rfl)
      (case a => k_is); (case i => k_is); (case l => k_is); (case c => k_is); (case k => k_is); (case mk => k_is); (case kc => k_is); (case kd => k_is))
    (case O_send =>
      refine' Sg.mkMd ?a ?i ?l ?c ?k (fun _ _ _ _ _ _ us hl => match us, hl with | [_, _, _], _ => rfl)
      (case a => k_is); (case i => k_is); (case l => k_is); (case c => k_is); (case k => k_is))
    (case O_in_force =>
      refine' Sg.mkMd ?a ?i ?l ?c ?k (fun _ _ _ _ _ _ us hl => match us, hl with | [_], _ => rfl)
      (case a => k_is); (case i => k_is); (case l => k_is); (case c => k_is); (case k => k_is))
    (case O_done =>
      refine' Sg.mkMd ?a ?i ?l ?c ?k (fun _ _ _ _ _ _ us hl => match us, hl with | [_], _ => rfl)
      (case a => k_is); (case i => k_is); (case l => k_is); (case c => k_is); (case k => k_is))
    (case S_init =>
      refine' Sg.mkIn1S ?a ?i ?l ?c ?k ?mk ?kc ?kd rfl (fun D _ _ _ _ _ us ks h1 h2 => match us, ks, h1, h2 with | [_, _, _, _], [_], _, _ => ⟨_, _, _, _, _, _, rfl, rfl, rfl⟩) (fun D _ _ _ _ _ us ws h1 h2 => match us, ws, h1, h2 with | [_, _, _, _], [_], _, _ => rfl)
      (case a => k_is); (case i => k_is); (case l => k_is); (case c => k_is); (case k => k_is); (case mk => k_is); (case kc => k_is); (case kd => k_is))
    (case S_step =>
      refine' Sg.mkMd ?a ?i ?l ?c ?k (fun _ _ _ _ _ _ us hl => match us, hl with | [_, _], _ => rfl)
      (case a => k_is); (case i => k_is); (case l => k_is); (case c => k_is); (case k => k_is))
    (case S_text =>
      refine' Sg.mkMd ?a ?i ?l ?c ?k (fun _ _ _ _ _ _ us hl => match us, hl with | [_], _ => rfl)
      (case a => k_is); (case i => k_is); (case l => k_is); (case c => k_is); (case k => k_is))
    (case S_is_over =>
      refine' Sg.mkPr ?a ?g ?t ?r ?l ?c ?k (fun _ _ _ _ _ _ us hl => match us, hl with | [_], _ => rfl)
      (case a => k_is); (case g => k_is); (case t => k_is); (case r => k_is); (case l => k_is); (case c => k_is); (case k => k_is))
    (case P_init =>
      refine' Sg.mkIn0 ?a ?i ?l ?c ?k ?mk ?kc (fun _ _ _ _ _ _ us hl => match us, hl with | [_, _], _ => rfl)
      (case a => k_is); (case i => k_is); (case l => k_is); (case c => k_is); (case k => k_is); (case mk => k_is); (case kc => k_is))
    (case C_init =>
      refine' Sg.mkIn0 ?a ?i ?l ?c ?k ?mk ?kc (fun _ _ _ _ _ _ us hl => match us, hl with | [_, _, _, _], _ => rfl)
      (case a => k_is); (case i => k_is); (case l => k_is); (case c => k_is); (case k => k_is); (case mk => k_is); (case kc => k_is))
    (case A_init =>
      refine' Sg.mkIn0 ?a ?i ?l ?c ?k ?mk ?kc (fun _ _ _ _ _ _ us hl => match us, hl with | [_, _], _ => rfl)
      (case a => k_is); (case i => k_is); (case l => k_is); (case c => k_is); (case k => k_is); (case mk => k_is); (case kc => k_is))
    (case A_slack =>
      refine' Sg.mkMd ?a ?i ?l ?c ?k (fun _ _ _ _ _ _ us hl => match us, hl with | [_, _, _], _ => rfl)
      (case a => k_is); (case i => k_is); (case l => k_is); (case c => k_is); (case k => k_is))
    (case A_add =>
      refine' Sg.mkMd ?a ?i ?l ?c ?k (fun _ _ _ _ _ _ us hl => match us, hl with | [_, _], _ => rfl)
      (case a => k_is); (case i => k_is); (case l => k_is); (case c => k_is); (case k => k_is))
    (case A_shift =>
      refine' Sg.mkMd ?a ?i ?l ?c ?k (fun _ _ _ _ _ _ us hl => match us, hl with | [_, _, _, _], _ => rfl)
      (case a => k_is); (case i => k_is); (case l => k_is); (case c => k_is); (case k => k_is))
    (case A_turn =>
      refine' Sg.mkMd ?a ?i ?l ?c ?k (fun _ _ _ _ _ _ us hl => match us, hl with | [_, _, _], _ => rfl)
      (case a => k_is); (case i => k_is); (case l => k_is); (case c => k_is); (case k => k_is))
    (case A_column_of =>
      refine' Sg.mkMd ?a ?i ?l ?c ?k (fun _ _ _ _ _ _ us hl => match us, hl with | [_, _], _ => rfl)
      (case a => k_is); (case i => k_is); (case l => k_is); (case c => k_is); (case k => k_is))
    (case is_price =>
      refine' Sg.mkDf KX G ?a ?l ?c ?k (fun _ _ _ _ _ _ us hl => match us, hl with | [_], _ => rfl)
      (case a => k_is); (case l => k_is); (case c => k_is); (case k => k_is))
    (case prices_of =>
      refine' Sg.mkDf KX G ?a ?l ?c ?k (fun _ _ _ _ _ _ us hl => match us, hl with | [_, _], _ => rfl)
      (case a => k_is); (case l => k_is); (case c => k_is); (case k => k_is))
    (case undo_cost =>
      refine' Sg.mkDf KX G ?a ?l ?c ?k (fun _ _ _ _ _ _ us hl => match us, hl with | [_, _], _ => rfl)
      (case a => k_is); (case l => k_is); (case c => k_is); (case k => k_is))
    (case do_cost =>
      refine' Sg.mkDf KX G ?a ?l ?c ?k (fun _ _ _ _ _ _ us hl => match us, hl with | [_, _], _ => rfl)
      (case a => k_is); (case l => k_is); (case c => k_is); (case k => k_is))
    (case change_cost =>
      refine' Sg.mkDf KX G ?a ?l ?c ?k (fun _ _ _ _ _ _ us hl => match us, hl with | [_, _, _], _ => rfl)
      (case a => k_is); (case l => k_is); (case c => k_is); (case k => k_is))
    (case square =>
      refine' Sg.mkDf KX G ?a ?l ?c ?k (fun _ _ _ _ _ _ us hl => match us, hl with | [_], _ => rfl)
      (case a => k_is); (case l => k_is); (case c => k_is); (case k => k_is))
    (case made_paper =>
      refine' Sg.mkDf KX G ?a ?l ?c ?k (fun _ _ _ _ _ _ us hl => match us, hl with | [_, _, _], _ => rfl)
      (case a => k_is); (case l => k_is); (case c => k_is); (case k => k_is))
    (case plan =>
      refine' Sg.mkDf KX G ?a ?l ?c ?k (fun _ _ _ _ _ _ us hl => match us, hl with | [_, _, _], _ => rfl)
      (case a => k_is); (case l => k_is); (case c => k_is); (case k => k_is))
    (case law_mix =>
      refine' Sg.mkDf KX G ?a ?l ?c ?k (fun _ _ _ _ _ _ us hl => match us, hl with | [_, _], _ => rfl)
      (case a => k_is); (case l => k_is); (case c => k_is); (case k => k_is))
    (case law_numbers =>
      refine' Sg.mkDf KX G ?a ?l ?c ?k (fun _ _ _ _ _ _ us hl => match us, hl with | [_, _], _ => rfl)
      (case a => k_is); (case l => k_is); (case c => k_is); (case k => k_is))
    (case law_take =>
      refine' Sg.mkDf KX G ?a ?l ?c ?k (fun _ _ _ _ _ _ us hl => match us, hl with | [_, _], _ => rfl)
      (case a => k_is); (case l => k_is); (case c => k_is); (case k => k_is))
    (case law_call =>
      refine' Sg.mkDf KX G ?a ?l ?c ?k (fun _ _ _ _ _ _ us hl => match us, hl with | [_, _], _ => rfl)
      (case a => k_is); (case l => k_is); (case c => k_is); (case k => k_is))
    (case law_calls =>
      refine' Sg.mkDf KX G ?a ?l ?c ?k (fun _ _ _ _ _ _ us hl => match us, hl with | [_, _], _ => rfl)
      (case a => k_is); (case l => k_is); (case c => k_is); (case k => k_is))
    (case law_price =>
      refine' Sg.mkDf KX G ?a ?l ?c ?k (fun _ _ _ _ _ _ us hl => match us, hl with | [_], _ => rfl)
      (case a => k_is); (case l => k_is); (case c => k_is); (case k => k_is))
    (case law_prices =>
      refine' Sg.mkDf KX G ?a ?l ?c ?k (fun _ _ _ _ _ _ us hl => match us, hl with | [_], _ => rfl)
      (case a => k_is); (case l => k_is); (case c => k_is); (case k => k_is))
    (case law_losses =>
      refine' Sg.mkDf KX G ?a ?l ?c ?k (fun _ _ _ _ _ _ us hl => match us, hl with | [_], _ => rfl)
      (case a => k_is); (case l => k_is); (case c => k_is); (case k => k_is))
    (case law_due =>
      refine' Sg.mkDf KX G ?a ?l ?c ?k (fun _ _ _ _ _ _ us hl => match us, hl with | [_, _], _ => rfl)
      (case a => k_is); (case l => k_is); (case c => k_is); (case k => k_is))
    (case law_lines =>
      refine' Sg.mkDf KX G ?a ?l ?c ?k (fun _ _ _ _ _ _ us hl => match us, hl with | [_], _ => rfl)
      (case a => k_is); (case l => k_is); (case c => k_is); (case k => k_is))
    (case law_refused =>
      refine' Sg.mkDf KX G ?a ?l ?c ?k (fun _ _ _ _ _ _ us hl => match us, hl with | [_, _, _, _], _ => rfl)
      (case a => k_is); (case l => k_is); (case c => k_is); (case k => k_is))
    (case law_cut =>
      refine' Sg.mkDf KX G ?a ?l ?c ?k (fun _ _ _ _ _ _ us hl => match us, hl with | [_, _, _], _ => rfl)
      (case a => k_is); (case l => k_is); (case c => k_is); (case k => k_is))
    (case law =>
      refine' Sg.mkDf KX G ?a ?l ?c ?k (fun _ _ _ _ _ _ us hl => match us, hl with | [_], _ => rfl)
      (case a => k_is); (case l => k_is); (case c => k_is); (case k => k_is))
    (case m_MOST_PRICE =>
      refine' Sg.mkInt (PySem.W.mg_of KX G ?a)
      (case a => k_is))
    (case m_MOST_CALLS =>
      refine' Sg.mkInt (PySem.W.mg_of KX G ?a)
      (case a => k_is))
    (case z_len =>
      refine' PySem.W.mg_none_of KX G ?a
      (case a => k_is))
    (case z_range =>
      refine' PySem.W.mg_none_of KX G ?a
      (case a => k_is))
    (case z_sorted =>
      refine' PySem.W.mg_none_of KX G ?a
      (case a => k_is))
    (case z_sum =>
      refine' PySem.W.mg_none_of KX G ?a
      (case a => k_is))
    (case z_abs =>
      refine' PySem.W.mg_none_of KX G ?a
      (case a => k_is))
    (case z_zip =>
      refine' PySem.W.mg_none_of KX G ?a
      (case a => k_is))
    (case z_enumerate =>
      refine' PySem.W.mg_none_of KX G ?a
      (case a => k_is))
    (case z_max =>
      refine' PySem.W.mg_none_of KX G ?a
      (case a => k_is))
    (case z_list =>
      refine' PySem.W.mg_none_of KX G ?a
      (case a => k_is))
    (case z_tuple =>
      refine' PySem.W.mg_none_of KX G ?a
      (case a => k_is))
    (case z_dict =>
      refine' PySem.W.mg_none_of KX G ?a
      (case a => k_is))
    (case z_int =>
      refine' PySem.W.mg_none_of KX G ?a
      (case a => k_is))
    (case z_str =>
      refine' PySem.W.mg_none_of KX G ?a
      (case a => k_is))
    (case z_all =>
      refine' PySem.W.mg_none_of KX G ?a
      (case a => k_is))
    (case law_b => exact .of_eq rfl)
