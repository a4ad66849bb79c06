import PyProof.Rows.All
import Wide.All
import OpenK.AllK
import Wide.FinOn
import HandS.ForMost
import HandS.Evl
import HandS.IsInst
import HandS.TupAny
import HandS.TupLen
import HandS.Conv
import HandS.Deep
import HandS.DictTup
import HandS.ListItems
import HandS.Walk
import HandS.Flow
import HandS.Wide
import KE.KDictItemsList
import PySem.Challenge.RW_guessroom_k58_whole_say_hunt
set_option Elab.async false
set_option linter.all false
section
set_option maxRecDepth 100000
set_option maxHeartbeats 4000000
namespace Gr
open PySem L2
def top (i : Nat) : Stmt := PySem.Challenge.pw_guessroom_k58_whole_say_hunt.main.body.getD i (.Pass ⟨0, 0, 0, 0⟩)
abbrev s_is_word : Stmt := top 8
theorem sc_is_word : FnScope ["letters", "word", "letter"] ["letters", "word"] (defScope s_is_word) := ⟨rfl, rfl, rfl, by decide +kernel, rfl, by decide +kernel, by decide +kernel⟩
abbrev s_look_at : Stmt := top 11
theorem sc_look_at : FnScope ["letters", "word", "mark"] ["letters", "word", "mark"] (defScope s_look_at) := ⟨rfl, rfl, rfl, by decide +kernel, rfl, by decide +kernel, by decide +kernel⟩
abbrev s_Book_init : Stmt := inClass (top 12) 0
theorem sc_Book_init : FnScope ["self", "letters"] ["self", "letters"] (defScope s_Book_init) := ⟨rfl, rfl, rfl, by decide +kernel, rfl, by decide +kernel, by decide +kernel⟩
abbrev s_Book_put : Stmt := inClass (top 12) 1
theorem sc_Book_put : FnScope ["self", "word", "mark", "kept"] ["self", "word", "mark"] (defScope s_Book_put) := ⟨rfl, rfl, rfl, by decide +kernel, rfl, by decide +kernel, by decide +kernel⟩
abbrev s_Book_told : Stmt := inClass (top 12) 2
theorem sc_Book_told : FnScope ["self", "word"] ["self", "word"] (defScope s_Book_told) := ⟨rfl, rfl, rfl, by decide +kernel, rfl, by decide +kernel, by decide +kernel⟩
abbrev s_Book_heard : Stmt := inClass (top 12) 3
theorem sc_Book_heard : FnScope ["self", "word", "mark"] ["self"] (defScope s_Book_heard) := ⟨rfl, rfl, rfl, by decide +kernel, rfl, by decide +kernel, by decide +kernel⟩
abbrev s_rows_of : Stmt := top 14
theorem sc_rows_of : FnScope ["letters", "access", "rows", "word", "letter", "longer"] ["letters", "access"] (defScope s_rows_of) := ⟨rfl, rfl, rfl, by decide +kernel, rfl, by decide +kernel, by decide +kernel⟩
abbrev s_gap : Stmt := top 15
theorem sc_gap : FnScope ["book", "letters", "access", "ends", "row", "end"] ["book", "letters", "access", "ends"] (defScope s_gap) := ⟨rfl, rfl, rfl, by decide +kernel, rfl, by decide +kernel, by decide +kernel⟩
abbrev s_marks_of : Stmt := top 16
theorem sc_marks_of : FnScope ["book", "word", "ends", "end"] ["book", "word", "ends"] (defScope s_marks_of) := ⟨rfl, rfl, rfl, by decide +kernel, rfl, by decide +kernel, by decide +kernel⟩
abbrev s_place_like : Stmt := top 17
theorem sc_place_like : FnScope ["book", "access", "ends", "marks", "k"] ["book", "access", "ends", "marks"] (defScope s_place_like) := ⟨rfl, rfl, rfl, by decide +kernel, rfl, by decide +kernel, by decide +kernel⟩
abbrev s_stranger : Stmt := top 18
theorem sc_stranger : FnScope ["book", "letters", "access", "ends", "row"] ["book", "letters", "access", "ends"] (defScope s_stranger) := ⟨rfl, rfl, rfl, by decide +kernel, rfl, by decide +kernel, by decide +kernel⟩
abbrev s_numbered : Stmt := top 20
theorem sc_numbered : FnScope ["keys", "known", "row", "key"] ["keys"] (defScope s_numbered) := ⟨rfl, rfl, rfl, by decide +kernel, rfl, by decide +kernel, by decide +kernel⟩
abbrev s_sorted_out : Stmt := top 21
theorem sc_sorted_out : FnScope ["house", "words", "columns", "classes", "at", "letter", "column", "row", "finer", "room"] ["house"] (defScope s_sorted_out) := ⟨rfl, rfl, rfl, by decide +kernel, rfl, by decide +kernel, by decide +kernel⟩
abbrev s_reached : Stmt := top 23
theorem sc_reached : FnScope ["house", "row", "at", "room", "behind"] ["house"] (defScope s_reached) := ⟨rfl, rfl, rfl, by decide +kernel, rfl, by decide +kernel, by decide +kernel⟩
abbrev s_homes : Stmt := top 25
theorem sc_homes : FnScope ["house", "classes", "number", "row", "mark", "room"] ["house"] (defScope s_homes) := ⟨rfl, rfl, rfl, by decide +kernel, rfl, by decide +kernel, by decide +kernel⟩
abbrev s_least : Stmt := top 26
theorem sc_least : FnScope ["house", "home", "marks", "ways", "room", "behind"] ["house"] (defScope s_least) := ⟨rfl, rfl, rfl, by decide +kernel, rfl, by decide +kernel, by decide +kernel⟩
abbrev s_said : Stmt := top 28
theorem sc_said : FnScope ["house", "word", "room", "told", "letter"] ["house", "word"] (defScope s_said) := ⟨rfl, rfl, rfl, by decide +kernel, rfl, by decide +kernel, by decide +kernel⟩
abbrev s_last_said : Stmt := top 29
theorem sc_last_said : FnScope ["house", "word", "told"] ["house", "word"] (defScope s_last_said) := ⟨rfl, rfl, rfl, by decide +kernel, rfl, by decide +kernel, by decide +kernel⟩
abbrev s_marked_rows : Stmt := top 30
theorem sc_marked_rows : FnScope ["house", "codes", "marks", "row"] ["house", "codes"] (defScope s_marked_rows) := ⟨rfl, rfl, rfl, by decide +kernel, rfl, by decide +kernel, by decide +kernel⟩
abbrev s_says_least : Stmt := top 31
theorem sc_says_least : FnScope ["house", "codes", "small", "rows", "code"] ["house"] (defScope s_says_least) := ⟨rfl, rfl, rfl, by decide +kernel, rfl, by decide +kernel, by decide +kernel⟩
abbrev s_row_places : Stmt := top 34
theorem sc_row_places : FnScope ["book", "access", "ends", "words", "rows", "word"] ["book", "access", "ends", "words"] (defScope s_row_places) := ⟨rfl, rfl, rfl, by decide +kernel, rfl, by decide +kernel, by decide +kernel⟩
abbrev s_says_guess : Stmt := top 35
theorem sc_says_guess : FnScope ["book", "letters", "access", "ends", "says", "ways", "word", "longer", "letter", "ahead"] ["book", "letters", "access", "ends"] (defScope s_says_guess) := ⟨rfl, rfl, rfl, by decide +kernel, rfl, by decide +kernel, by decide +kernel⟩
abbrev s_room_reached : Stmt := top 36
theorem sc_room_reached : FnScope ["house", "word", "room", "letter"] ["house", "word"] (defScope s_room_reached) := ⟨rfl, rfl, rfl, by decide +kernel, rfl, by decide +kernel, by decide +kernel⟩
abbrev s_SayAsker_init : Stmt := inClass (top 37) 0
theorem sc_SayAsker_init : FnScope ["self", "letters", "most", "letter"] ["self", "letters", "most"] (defScope s_SayAsker_init) := ⟨rfl, rfl, rfl, by decide +kernel, rfl, by decide +kernel, by decide +kernel⟩
abbrev s_SayAsker_wants : Stmt := inClass (top 37) 1
theorem sc_SayAsker_wants : FnScope ["self"] ["self"] (defScope s_SayAsker_wants) := ⟨rfl, rfl, rfl, by decide +kernel, rfl, by decide +kernel, by decide +kernel⟩
abbrev s_SayAsker_access : Stmt := inClass (top 37) 2
theorem sc_SayAsker_access : FnScope ["self"] ["self"] (defScope s_SayAsker_access) := ⟨rfl, rfl, rfl, by decide +kernel, rfl, by decide +kernel, by decide +kernel⟩
abbrev s_SayAsker_tellers : Stmt := inClass (top 37) 3
theorem sc_SayAsker_tellers : FnScope ["self"] ["self"] (defScope s_SayAsker_tellers) := ⟨rfl, rfl, rfl, by decide +kernel, rfl, by decide +kernel, by decide +kernel⟩
abbrev s_SayAsker_heard : Stmt := inClass (top 37) 4
theorem sc_SayAsker_heard : FnScope ["self"] ["self"] (defScope s_SayAsker_heard) := ⟨rfl, rfl, rfl, by decide +kernel, rfl, by decide +kernel, by decide +kernel⟩
abbrev s_SayAsker_hear : Stmt := inClass (top 37) 5
theorem sc_SayAsker_hear : FnScope ["self", "mark"] ["self", "mark"] (defScope s_SayAsker_hear) := ⟨rfl, rfl, rfl, by decide +kernel, rfl, by decide +kernel, by decide +kernel⟩
abbrev s_SayAsker_agree : Stmt := inClass (top 37) 6
theorem sc_SayAsker_agree : FnScope ["self"] ["self"] (defScope s_SayAsker_agree) := ⟨rfl, rfl, rfl, by decide +kernel, rfl, by decide +kernel, by decide +kernel⟩
abbrev s_SayAsker_differ : Stmt := inClass (top 37) 7
theorem sc_SayAsker_differ : FnScope ["self", "word", "mark"] ["self", "word", "mark"] (defScope s_SayAsker_differ) := ⟨rfl, rfl, rfl, by decide +kernel, rfl, by decide +kernel, by decide +kernel⟩
abbrev s_SayAsker_settle : Stmt := inClass (top 37) 8
theorem sc_SayAsker_settle : FnScope ["self"] ["self"] (defScope s_SayAsker_settle) := ⟨rfl, rfl, rfl, by decide +kernel, rfl, by decide +kernel, by decide +kernel⟩
abbrev s_SayAsker_one_step : Stmt := inClass (top 37) 9
theorem sc_SayAsker_one_step : FnScope ["self", "word", "house", "told"] ["self"] (defScope s_SayAsker_one_step) := ⟨rfl, rfl, rfl, by decide +kernel, rfl, by decide +kernel, by decide +kernel⟩
abbrev s_SayAsker_take_in : Stmt := inClass (top 37) 10
theorem sc_SayAsker_take_in : FnScope ["self", "word"] ["self", "word"] (defScope s_SayAsker_take_in) := ⟨rfl, rfl, rfl, by decide +kernel, rfl, by decide +kernel, by decide +kernel⟩
abbrev s_SayAsker_hunt_step : Stmt := inClass (top 37) 11
theorem sc_SayAsker_hunt_step : FnScope ["self", "house", "word", "low", "high", "half", "asked", "mark"] ["self"] (defScope s_SayAsker_hunt_step) := ⟨rfl, rfl, rfl, by decide +kernel, rfl, by decide +kernel, by decide +kernel⟩
abbrev s_law_cell : Stmt := top 39
theorem sc_law_cell : FnScope ["script", "k"] ["script", "k"] (defScope s_law_cell) := ⟨rfl, rfl, rfl, by decide +kernel, rfl, by decide +kernel, by decide +kernel⟩
abbrev s_law_whole : Stmt := top 40
theorem sc_law_whole : FnScope ["found"] ["found"] (defScope s_law_whole) := ⟨rfl, rfl, rfl, by decide +kernel, rfl, by decide +kernel, by decide +kernel⟩
abbrev s_law_big : Stmt := top 41
theorem sc_law_big : FnScope ["script", "k", "many"] ["script", "k"] (defScope s_law_big) := ⟨rfl, rfl, rfl, by decide +kernel, rfl, by decide +kernel, by decide +kernel⟩
abbrev s_law_mark : Stmt := top 42
theorem sc_law_mark : FnScope ["cell"] ["cell"] (defScope s_law_mark) := ⟨rfl, rfl, rfl, by decide +kernel, rfl, by decide +kernel, by decide +kernel⟩
abbrev s_law_says : Stmt := top 43
theorem sc_law_says : FnScope ["script", "at", "letters", "rooms", "says", "ways", "room", "base", "k"] ["script", "at", "letters", "rooms"] (defScope s_law_says) := ⟨rfl, rfl, rfl, by decide +kernel, rfl, by decide +kernel, by decide +kernel⟩
abbrev s_law_rows_are : Stmt := top 44
theorem sc_law_rows_are : FnScope ["found", "due", "k", "c"] ["found", "due"] (defScope s_law_rows_are) := ⟨rfl, rfl, rfl, by decide +kernel, rfl, by decide +kernel, by decide +kernel⟩
abbrev s_law_house_is : Stmt := top 45
theorem sc_law_house_is : FnScope ["found", "due"] ["found", "due"] (defScope s_law_house_is) := ⟨rfl, rfl, rfl, by decide +kernel, rfl, by decide +kernel, by decide +kernel⟩
abbrev s_law_talk : Stmt := top 46
theorem sc_law_talk : FnScope ["house", "word", "room", "told", "letter"] ["house", "word"] (defScope s_law_talk) := ⟨rfl, rfl, rfl, by decide +kernel, rfl, by decide +kernel, by decide +kernel⟩
abbrev s_law_is_word : Stmt := top 47
theorem sc_law_is_word : FnScope ["found", "letters", "letter"] ["found", "letters"] (defScope s_law_is_word) := ⟨rfl, rfl, rfl, by decide +kernel, rfl, by decide +kernel, by decide +kernel⟩
abbrev s_law_pairs : Stmt := top 48
theorem sc_law_pairs : FnScope ["one", "two", "couples", "words", "k", "letter", "pair"] ["one", "two"] (defScope s_law_pairs) := ⟨rfl, rfl, rfl, by decide +kernel, rfl, by decide +kernel, by decide +kernel⟩
abbrev s_law_unlike_words : Stmt := top 49
theorem sc_law_unlike_words : FnScope ["one", "two", "found", "spot", "letter"] ["one", "two"] (defScope s_law_unlike_words) := ⟨rfl, rfl, rfl, by decide +kernel, rfl, by decide +kernel, by decide +kernel⟩
abbrev s_law_words_good : Stmt := top 50
theorem sc_law_words_good : FnScope ["words", "letters", "k"] ["words", "letters"] (defScope s_law_words_good) := ⟨rfl, rfl, rfl, by decide +kernel, rfl, by decide +kernel, by decide +kernel⟩
abbrev s_law_access_good : Stmt := top 51
theorem sc_law_access_good : FnScope ["access", "letters", "k"] ["access", "letters"] (defScope s_law_access_good) := ⟨rfl, rfl, rfl, by decide +kernel, rfl, by decide +kernel, by decide +kernel⟩
abbrev s_law_ends_good : Stmt := top 52
theorem sc_law_ends_good : FnScope ["ends", "letters", "letter"] ["ends", "letters"] (defScope s_law_ends_good) := ⟨rfl, rfl, rfl, by decide +kernel, rfl, by decide +kernel, by decide +kernel⟩
abbrev s_law_marks : Stmt := top 53
theorem sc_law_marks : FnScope ["told", "word", "ends", "end"] ["told", "word", "ends"] (defScope s_law_marks) := ⟨rfl, rfl, rfl, by decide +kernel, rfl, by decide +kernel, by decide +kernel⟩
abbrev s_law_due_guess : Stmt := top 54
theorem sc_law_due_guess : FnScope ["letters", "access", "ends", "told", "rows", "word", "says", "ways", "k", "row", "letter", "marks"] ["letters", "access", "ends", "told"] (defScope s_law_due_guess) := ⟨rfl, rfl, rfl, by decide +kernel, rfl, by decide +kernel, by decide +kernel⟩
abbrev s_law_guess_good : Stmt := top 55
theorem sc_law_guess_good : FnScope ["house", "letters", "asker", "told", "access", "ends", "due", "word", "mark"] ["house", "letters", "asker", "told"] (defScope s_law_guess_good) := ⟨rfl, rfl, rfl, by decide +kernel, rfl, by decide +kernel, by decide +kernel⟩
abbrev s_law_grows : Stmt := top 56
theorem sc_law_grows : FnScope ["kept", "asker", "strictly", "access", "ends"] ["kept", "asker", "strictly"] (defScope s_law_grows) := ⟨rfl, rfl, rfl, by decide +kernel, rfl, by decide +kernel, by decide +kernel⟩
abbrev s_law_wish_good : Stmt := top 57
theorem sc_law_wish_good : FnScope ["wish", "letters", "told"] ["wish", "letters", "told"] (defScope s_law_wish_good) := ⟨rfl, rfl, rfl, by decide +kernel, rfl, by decide +kernel, by decide +kernel⟩
abbrev s_law_end_good : Stmt := top 58
theorem sc_law_end_good : FnScope ["asker", "letters", "most", "asked", "told", "access", "ends", "wish", "rows", "word", "k", "many"] ["asker", "letters", "most", "asked", "told"] (defScope s_law_end_good) := ⟨rfl, rfl, rfl, by decide +kernel, rfl, by decide +kernel, by decide +kernel⟩
abbrev s_law_objection : Stmt := top 59
theorem sc_law_objection : FnScope ["hidden", "house", "script", "at", "times", "cell", "step", "size", "word", "k", "found"] ["hidden", "house", "script", "at", "times"] (defScope s_law_objection) := ⟨rfl, rfl, rfl, by decide +kernel, rfl, by decide +kernel, by decide +kernel⟩
abbrev s_law_shown : Stmt := top 60
theorem sc_law_shown : FnScope ["asker", "hidden", "script", "at", "state", "told", "house", "word"] ["asker", "hidden", "script", "at", "state", "told"] (defScope s_law_shown) := ⟨rfl, rfl, rfl, by decide +kernel, rfl, by decide +kernel, by decide +kernel⟩
abbrev s_law_hunt : Stmt := top 61
theorem sc_law_hunt : FnScope ["asker", "hidden", "script", "at", "state", "most", "told", "asked", "turn", "wish"] ["asker", "hidden", "script", "at", "state", "most"] (defScope s_law_hunt) := ⟨rfl, rfl, rfl, by decide +kernel, rfl, by decide +kernel, by decide +kernel⟩
abbrev s_law : Stmt := top 62
theorem sc_law : FnScope ["script", "letters", "rooms", "hidden", "most", "asker", "state", "wish", "least_rooms", "word", "k"] ["script"] (defScope s_law) := ⟨rfl, rfl, rfl, by decide +kernel, rfl, by decide +kernel, by decide +kernel⟩
end Gr
end
section
set_option maxRecDepth 100000
set_option maxHeartbeats 4000000
namespace Gr
open PySem L2 PySem.Spec PyProof.Rows
section
variable {P : Program} {w : World} {K : PySem.W.Frag} {mg : Str → Option Value} {base : Heap}
/-- a def of the text stands behind the top under its name -/
def Tf (K : PySem.W.Frag) (mg : Str → Option Value) (x : Str) (st : Stmt) (ps : List Str) : Prop :=
  ∃ f fd, Fun K x x st f fd ∧ mg x = some (.ref f) ∧ Binds K fd ps []
/-- a method of the class at C -/
def Tm (K : PySem.W.Frag) (C : Addr) (x qual : Str) (st : Stmt) (ps : List Str) : Prop :=
  ∃ f fd, Fun K x qual st f fd ∧ Meth K C x f ∧ Binds K fd ps []
theorem tf_mk {h : Heap} {x : Str} {st : Stmt} {ps : List Str} {f : Addr} {oc : Value} {od an : Option Addr} {osl : Array (Option Value)} {kV doc pm cdv ct : Value} (X : K.In h) (G : h.Ns mainGlobals mg)
    (hb : ∀ (kV doc pm : Value) (an : Option Addr) (cdv ct : Value) (us : List Value), us.length = ps.length → bindArgs (PySem.W.fnOf x x (defArgs st) (defBody st) (defScope st) .none kV doc pm an cdv ct) ⟨us, []⟩ = pure (ps.zip us))
    (a : PySem.W.nsIn K mainGlobals x = some (some (.ref f))) (l : K.lookup f = some ⟨oc, od, .func (PySem.W.fnOf x x (defArgs st) (defBody st) (defScope st) .none kV doc pm an cdv ct), osl⟩)
    (c : PySem.W.codeIn K cdv x = true) (k : PySem.W.keepIn K (.ref f) = true) : Tf K mg x st ps :=
  ⟨f, _, fun_mk l c k, PySem.W.mg_of X G a, (fun_mk l c k).binds hb⟩
theorem tm_mk {C : Addr} {x qual : Str} {st : Stmt} {ps : List Str} {f : Addr} {oc : Value} {od an : Option Addr} {osl : Array (Option Value)} {kV doc pm cdv ct : Value}
    (hb : ∀ (kV doc pm : Value) (an : Option Addr) (cdv ct : Value) (us : List Value), us.length = ps.length → bindArgs (PySem.W.fnOf x qual (defArgs st) (defBody st) (defScope st) .none kV doc pm an cdv ct) ⟨us, []⟩ = pure (ps.zip us))
    (a : PySem.W.findIn K (.ref C) x = some (some (.ref f))) (i : PySem.W.isFn K (.ref f) = true) (l : K.lookup f = some ⟨oc, od, .func (PySem.W.fnOf x qual (defArgs st) (defBody st) (defScope st) .none kV doc pm an cdv ct), osl⟩)
    (c : PySem.W.codeIn K cdv qual = true) (k : PySem.W.keepIn K (.ref f) = true) : Tm K C x qual st ps :=
  ⟨f, _, fun_mk l c k, ⟨a, i, k⟩, (fun_mk l c k).binds hb⟩
/-- a def that keeps its promise, called by its name -/
def Df (P : Program) (w : World) (K : PySem.W.Frag) (mg : Str → Option Value) (base : Heap) (k : Nat) (x : Str) (ps : List Str) (sp : Sp) : Prop :=
  ∃ f fd, FnOk P w K mg base CX0 k f fd ps sp ∧ mg x = some (.ref f) ∧ PySem.W.keepIn K (.ref f) = true ∧ Binds K fd ps []
/-- a method of C that keeps its promise -/
def Dm (P : Program) (w : World) (K : PySem.W.Frag) (mg : Str → Option Value) (base : Heap) (C : Addr) (k : Nat) (x : Str) (ps : List Str) (sp : Sp) : Prop :=
  ∃ f fd, FnOk P w K mg base CX0 k f fd ps sp ∧ Meth K C x f ∧ Binds K fd ps []
theorem Tf.ok {x : Str} {st : Stmt} {N ps : List Str} {k : Nat} {sp : Sp} (T : Tf K mg x st ps) (S : FnScope N ps (defScope st)) (len : ∀ vs H Q E, sp vs H Q E → vs.length = ps.length)
    (hbody : ∀ (f : Addr) (cdv : Value) (A : Around) (outer : List Env) (s : Shared) (H : Hp) (vs : List V) (Q : VK) (E : XK), Room k (A.deeper (envOfC x (defScope st) s.heap.objs.size f cdv)) → sp vs H Q E →
      ∃ t, PSs (cxOf CX0 P w K mg base N x (defScope st) f cdv A outer s H E).nox (defBody st) t ∧ t { nx := fun _ H' => Q .non H', rt := Q } (start N vs) H) : Df P w K mg base (k + 1) x ps sp := by
  obtain ⟨f, fd, F, m, b⟩ := T
  exact ⟨f, fd, F.ok S len (fun cdv A outer s H vs Q E hr h => hbody f cdv A outer s H vs Q E hr h), m, F.kp, b⟩
theorem Tm.ok {C : Addr} {x qual : Str} {st : Stmt} {N ps : List Str} {k : Nat} {sp : Sp} (T : Tm K C x qual st ps) (S : FnScope N ps (defScope st)) (len : ∀ vs H Q E, sp vs H Q E → vs.length = ps.length)
    (hbody : ∀ (f : Addr) (cdv : Value) (A : Around) (outer : List Env) (s : Shared) (H : Hp) (vs : List V) (Q : VK) (E : XK), Room k (A.deeper (envOfC qual (defScope st) s.heap.objs.size f cdv)) → sp vs H Q E →
      ∃ t, PSs (cxOf CX0 P w K mg base N qual (defScope st) f cdv A outer s H E).nox (defBody st) t ∧ t { nx := fun _ H' => Q .non H', rt := Q } (start N vs) H) : Dm P w K mg base C (k + 1) x ps sp := by
  obtain ⟨f, fd, F, m, b⟩ := T
  exact ⟨f, fd, F.ok S len (fun cdv A outer s H vs Q E hr h => hbody f cdv A outer s H vs Q E hr h), m, b⟩
theorem Df.mono {x : Str} {ps : List Str} {j k : Nat} {sp : Sp} (D : Df P w K mg base j x ps sp) (h : j ≤ k) : Df P w K mg base k x ps sp := by
  obtain ⟨f, fd, F, m, kp, b⟩ := D
  exact ⟨f, fd, F.mono h, m, kp, b⟩
theorem Dm.mono {C : Addr} {x : Str} {ps : List Str} {j k : Nat} {sp : Sp} (D : Dm P w K mg base C j x ps sp) (h : j ≤ k) : Dm P w K mg base C k x ps sp := by
  obtain ⟨f, fd, F, m, b⟩ := D
  exact ⟨f, fd, F.mono h, m, b⟩
end
section
variable {X : Cx}
theorem pcall {k : Nat} {x : Str} {ps : List Str} {sp : Sp} {e : Expr} {es : List Expr} {t : TA} {p pos : Pos} (D : Df X.prog X.w X.K X.mg X.base k x ps sp) (hr : Room k X.A) (hg : Gl X x) (ha : PA X (e :: es) t)
    (hdb : (x == ("__debug__" : Str)) = false := by decide) (he : starEach (e :: es) X.env = (false, eval e X.env) :: starEach es X.env := by rfl) (hpl : (backTo pos (starEach es X.env)).any (·.1) = false := by rfl) :
    PE X (.Call (.Name x p) (e :: es) [] pos) (tCall sp [] E0 t) := by
  obtain ⟨f, fd, F, m, kp, b⟩ := D
  exact pe_call F hr hg m kp b .nil pass0 ha hdb he hpl
theorem pmeth {C : Addr} {k : Nat} {m : Str} {ps : List Str} {sp : Sp} {o e : Expr} {es : List Expr} {ta : TE} {t : TA} {apos pos : Pos} {pl : Sem Bool} (he : PE X o ta) (c : Cls X.K C) (D : Dm X.prog X.w X.K X.mg X.base C k m ps sp) (hr : Room k X.A) (ha : PA X (e :: es) t)
    (hst : starEach (e :: es) X.env = (false, eval e X.env) :: starEach es X.env := by rfl) (hpl : (backTo pos (starEach es X.env)).any (·.1) = false := by rfl)
    (ht : eval (.Call (.Attribute o m apos) (e :: es) [] pos) X.env = (do
      let ov ← eval o X.env
      standAt apos.atName
      let (f, first) ← holding [ov] (getMethod ov m pl)
      callWith pos f first (backTo pos (starEach (e :: es) X.env)) (backToKw pos (keywordEach [] X.env))) := by rfl) :
    PE X (.Call (.Attribute o m apos) (e :: es) [] pos) (tMeth C m sp [] E0 ta t) := by
  obtain ⟨f, fd, F, mm, b⟩ := D
  exact pe_meth he c mm F hr b .nil pass0 ha hst hpl ht
theorem pmeth0 {C : Addr} {k : Nat} {m : Str} {ps : List Str} {sp : Sp} {o : Expr} {ta : TE} {apos pos : Pos} {pl : Sem Bool} (he : PE X o ta) (c : Cls X.K C) (D : Dm X.prog X.w X.K X.mg X.base C k m ps sp) (hr : Room k X.A)
    (ht : eval (.Call (.Attribute o m apos) [] [] pos) X.env = (do
      let ov ← eval o X.env
      standAt apos.atName
      let (f, first) ← holding [ov] (getMethod ov m pl)
      callWith pos f first (backTo pos (starEach [] X.env)) (backToKw pos (keywordEach [] X.env))) := by rfl) :
    PE X (.Call (.Attribute o m apos) [] [] pos) (tMeth C m sp [] E0 ta tNil) := by
  obtain ⟨f, fd, F, mm, b⟩ := D
  exact pe_meth0 he c mm F hr b .nil pass0 ht
theorem pe_bmK {K : PySem.W.Frag} {T id : String} {name : Str} {r : V → List V → Hp → VK → Prop} {o e : Expr} {es : List Expr} {to : TE} {t : TA} {apos cpos : Pos} (hK : X.K = K) (pa : PlainAttrs T) (slot : Slot T name id) (hty : typeOf (.builtin id) = pure (.type "method_descriptor")) (hm : MtR X id r) (ho : PE X o to) (ha : PA X (e :: es) t)
    (hbase : attributeBase o name X.env (eval o X.env) = eval o X.env := by rfl)
    (hfew : ((backTo cpos (starEach (e :: es) X.env)).all (fun x => !x.1) && (backToKw cpos (keywordEach [] X.env)).all (fun x => x.1.isSome)
      && decide ((e :: es).length + ([] : List Keyword).length + (if ([] : List Keyword).isEmpty then 0 else 1) < 30)) = true := by rfl)
    (hline : (apos.endLine == cpos.line) = true := by rfl) (hs : starEach (e :: es) X.env = (false, eval e X.env) :: starEach es X.env := by rfl) (hplain : (backTo cpos (starEach es X.env)).any (·.1) = false := by rfl) :
    PE X (.Call (.Attribute o name apos) (e :: es) [] cpos) (tBM K T r to t) := by
  subst hK
  exact pe_bm pa slot hty hm ho ha hbase hfew hline hs hplain
theorem pg_tupK {K : PySem.W.Frag} {es : List Expr} {k : Nat} {t : TGs} {n : Nat} {pos : Pos} (hK : X.K = K) (hc : X.calm = true) (h : PGs X es t)
    (hn : (assignEach es X.env).length = n := by rfl) (hst : (assignEach es X.env).findIdx? (·.1) = none := by rfl) : PG X (.Tuple es k pos) (gTup K n t) := by
  subst hK
  exact pg_tup hc h hn hst
end
end Gr
end
section
set_option maxHeartbeats 1000000
/-! The plain mathematics: words, houses that say, tables, the hunt. No program in sight. -/
namespace Gr
abbrev Word := List Nat
/-! ### counting -/
theorem nd_mem_of_len {α : Type} [DecidableEq α] {l m : List α} (hl : l.Nodup) (hs : ∀ x ∈ l, x ∈ m) (hlen : m.length ≤ l.length) : ∀ x ∈ m, x ∈ l := by
  intro x hx
  by_cases h : x ∈ l
  · exact h
  · exfalso
    have h1 : (x :: l).Nodup := List.nodup_cons.mpr ⟨h, hl⟩
    have h2 : (x :: l) ⊆ m := fun y hy => by
      rcases List.mem_cons.mp hy with e | e
      · rw [e]; exact hx
      · exact hs y e
    have h3 := List.Nodup.length_le_of_subset h1 h2
    rw [List.length_cons] at h3
    omega
theorem nd_le_range {l : List Nat} {n : Nat} (hl : l.Nodup) (hs : ∀ x ∈ l, x < n) : l.length ≤ n := by
  have h := List.Nodup.length_le_of_subset hl (fun x hx => List.mem_range.mpr (hs x hx))
  rw [List.length_range] at h
  exact h
/-! ### houses that say -/
structure House where
  says : List (List Int)
  ways : List (List Nat)
def stp (g : House) (r a : Nat) : Nat := (g.ways.getD r []).getD a 0
def out (g : House) (r a : Nat) : Int := (g.says.getD r []).getD a 0
def run (g : House) : Nat → Word → Nat
  | r, [] => r
  | r, a :: w => run g (stp g r a) w
def talk (g : House) : Nat → Word → List Int
  | _, [] => []
  | r, a :: w => out g r a :: talk g (stp g r a) w
def ans (g : House) (r : Nat) (w : Word) : Int := (talk g r w).getLastD 0
def Lets (L : Nat) (w : Word) : Prop := ∀ a ∈ w, a < L
theorem Lets.nil {L : Nat} : Lets L [] := fun _ h => nomatch h
theorem Lets.app {L : Nat} {u v : Word} (h : Lets L u) (k : Lets L v) : Lets L (u ++ v) := fun a m => by
  rcases List.mem_append.mp m with q | q
  · exact h a q
  · exact k a q
theorem Lets.one {L a : Nat} (h : a < L) : Lets L [a] := fun b m => by
  rw [List.mem_singleton.mp m]; exact h
theorem Lets.take {L : Nat} {u : Word} (h : Lets L u) (n : Nat) : Lets L (u.take n) := fun a m => h a (List.mem_of_mem_take m)
theorem Lets.drop {L : Nat} {u : Word} (h : Lets L u) (n : Nat) : Lets L (u.drop n) := fun a m => h a (List.mem_of_mem_drop m)
theorem run_app (g : House) : ∀ (u v : Word) (r : Nat), run g r (u ++ v) = run g (run g r u) v
  | [], _, _ => rfl
  | a :: u, v, r => run_app g u v (stp g r a)
theorem talk_app (g : House) : ∀ (u v : Word) (r : Nat), talk g r (u ++ v) = talk g r u ++ talk g (run g r u) v
  | [], _, _ => rfl
  | a :: u, v, r => by
    show out g r a :: talk g (stp g r a) (u ++ v) = out g r a :: (talk g (stp g r a) u ++ talk g (run g (stp g r a) u) v)
    rw [talk_app g u v]
theorem talk_len (g : House) : ∀ (u : Word) (r : Nat), (talk g r u).length = u.length
  | [], _ => rfl
  | a :: u, r => by
    show (talk g (stp g r a) u).length + 1 = u.length + 1
    rw [talk_len g u]
theorem getLastD_app {α : Type} {x : α} : ∀ (u v : List α), v ≠ [] → (u ++ v).getLastD x = v.getLastD x := by
  intro u v hv
  rw [List.getLastD_eq_getLast?, List.getLastD_eq_getLast?, List.getLast?_append, List.getLast?_eq_some_getLast hv]
  rfl
theorem ans_app (g : House) (u v : Word) (r : Nat) (hv : v ≠ []) : ans g r (u ++ v) = ans g (run g r u) v := by
  unfold ans
  rw [talk_app, getLastD_app]
  intro e
  have h := talk_len g v (run g r u)
  rw [e] at h
  exact hv (List.length_eq_zero_iff.mp h.symm)
theorem ans_one (g : House) (r a : Nat) : ans g r [a] = out g r a := rfl
theorem ans_snoc (g : House) (u : Word) (a r : Nat) : ans g r (u ++ [a]) = out g (run g r u) a := by
  rw [ans_app g u [a] r (by simp), ans_one]
structure Ok (L : Nat) (g : House) : Prop where
  pos : 0 < g.ways.length
  sl : g.says.length = g.ways.length
  sr : ∀ row ∈ g.says, row.length = L
  wr : ∀ row ∈ g.ways, row.length = L ∧ ∀ x ∈ row, x < g.ways.length
theorem getD_mem {α : Type} {l : List α} {i : Nat} {d : α} (h : i < l.length) : l.getD i d ∈ l := by
  rw [List.getD_eq_getElem?_getD, List.getElem?_eq_getElem h]
  exact List.getElem_mem h
theorem Ok.stp_lt {L : Nat} {g : House} (h : Ok L g) {r a : Nat} (hr : r < g.ways.length) (ha : a < L) : stp g r a < g.ways.length := by
  obtain ⟨e, k⟩ := h.wr _ (getD_mem (d := []) hr)
  exact k _ (getD_mem (by rw [e]; exact ha))
theorem Ok.run_lt {L : Nat} {g : House} (h : Ok L g) : ∀ (w : Word) {r : Nat}, r < g.ways.length → Lets L w → run g r w < g.ways.length
  | [], _, hr, _ => hr
  | a :: w, _, hr, hw => h.run_lt w (h.stp_lt hr (hw a List.mem_cons_self)) fun b hb => hw b (List.mem_cons_of_mem _ hb)
/-! ### tables -/
/-- what the hidden one tells behind u with each telling word -/
def rowH (hid : Word → Int) (la : List Word) (u : Word) : List Int := la.map fun e => hid (u ++ e)
def guess (hid : Word → Int) (L : Nat) (fi la : List Word) : House :=
  ⟨fi.map fun u => (List.range L).map fun a => hid (u ++ [a]), fi.map fun u => (List.range L).map fun a => (fi.map (rowH hid la)).idxOf (rowH hid la (u ++ [a]))⟩
def IsRow (L : Nat) (fi : List Word) (r : Word) : Prop := r ∈ fi ∨ ∃ u ∈ fi, ∃ a, a < L ∧ r = u ++ [a]
def Strange (hid : Word → Int) (L : Nat) (fi la : List Word) : Prop := ∃ r, IsRow L fi r ∧ ∀ u ∈ fi, rowH hid la r ≠ rowH hid la u
/-- telling words beyond the letters -/
abbrev hun (L : Nat) (la : List Word) : Nat := la.length - L
structure Tab (L most : Nat) (hid : Word → Int) (fi la : List Word) : Prop where
  l1 : 1 ≤ L
  l6 : L ≤ 6
  m1 : 1 ≤ most
  m4 : most ≤ 4
  fi0 : fi[0]? = some []
  fiP : ∀ (k : Nat) (w : Word), fi[k]? = some w → (k = 0 ∧ w = []) ∨ ∃ (j : Nat) (u : Word) (a : Nat), j < k ∧ fi[j]? = some u ∧ a < L ∧ w = u ++ [a]
  fiD : ∀ (i j : Nat) (u v : Word), fi[i]? = some u → fi[j]? = some v → rowH hid la u = rowH hid la v → i = j
  fiL : fi.length ≤ most
  laT : la.take L = (List.range L).map fun a => [a]
  laO : ∀ e ∈ la, e ≠ [] ∧ Lets L e ∧ e.length ≤ 116 + 4 * hun L la
  laN : la.Nodup
  laL : L ≤ la.length
section
variable {L most : Nat} {hid : Word → Int} {fi la : List Word}
theorem Tab.fiN (T : Tab L most hid fi la) : fi.Nodup := by
  rw [List.nodup_iff_pairwise_ne, List.pairwise_iff_getElem]
  intro i j hi hj hij e
  have := T.fiD i j fi[i] fi[j] (List.getElem?_eq_getElem hi) (List.getElem?_eq_getElem hj) (by rw [e])
  omega
theorem Tab.pos (T : Tab L most hid fi la) : 0 < fi.length := (List.getElem?_eq_some_iff.mp T.fi0).1
theorem Tab.fiLen (T : Tab L most hid fi la) : ∀ (k : Nat) (w : Word), fi[k]? = some w → w.length ≤ k ∧ Lets L w := by
  intro k
  induction k using Nat.strongRecOn with
  | _ k ih =>
    intro w h
    rcases T.fiP k w h with ⟨_, rfl⟩ | ⟨j, u, a, hj, hu, ha, rfl⟩
    · exact ⟨Nat.zero_le _, Lets.nil⟩
    · obtain ⟨h1, h2⟩ := ih j hj u hu
      refine ⟨?_, h2.app (Lets.one ha)⟩
      rw [List.length_append, List.length_singleton]
      omega
theorem Tab.fiMem (T : Tab L most hid fi la) {w : Word} (h : w ∈ fi) : w.length ≤ 3 ∧ Lets L w := by
  obtain ⟨k, hk, rfl⟩ := List.mem_iff_getElem.mp h
  obtain ⟨h1, h2⟩ := T.fiLen k fi[k] (List.getElem?_eq_getElem hk)
  have := T.fiL
  have := T.m4
  exact ⟨by omega, h2⟩
theorem Tab.nil_mem (T : Tab L most hid fi la) : [] ∈ fi := List.mem_of_getElem? T.fi0
theorem Tab.row (T : Tab L most hid fi la) {r : Word} (h : IsRow L fi r) : r.length ≤ 4 ∧ Lets L r := by
  rcases h with h | ⟨u, hu, a, ha, rfl⟩
  · obtain ⟨h1, h2⟩ := T.fiMem h
    exact ⟨by omega, h2⟩
  · obtain ⟨h1, h2⟩ := T.fiMem hu
    refine ⟨?_, h2.app (Lets.one ha)⟩
    rw [List.length_append, List.length_singleton]
    omega
theorem Tab.let_mem (T : Tab L most hid fi la) {a : Nat} (ha : a < L) : [a] ∈ la := by
  have h : [a] ∈ la.take L := by
    rw [T.laT]
    exact List.mem_map.mpr ⟨a, List.mem_range.mpr ha, rfl⟩
  exact List.mem_of_mem_take h
theorem guess_says_len : (guess hid L fi la).says.length = fi.length := List.length_map _
theorem guess_ways_len : (guess hid L fi la).ways.length = fi.length := List.length_map _
theorem map_getD {α β : Type} (f : α → β) {l : List α} {i : Nat} {x : α} {d : β} (h : l[i]? = some x) : (l.map f).getD i d = f x := by
  rw [List.getD_eq_getElem?_getD, List.getElem?_map, h]
  rfl
theorem guess_out {i a : Nat} {u : Word} (h : fi[i]? = some u) (ha : a < L) : out (guess hid L fi la) i a = hid (u ++ [a]) := by
  show ((fi.map _).getD i []).getD a 0 = _
  rw [map_getD _ h, map_getD (fun a => hid (u ++ [a])) (x := a)]
  rw [List.getElem?_range ha]
theorem guess_stp {i a : Nat} {u : Word} (h : fi[i]? = some u) (ha : a < L) : stp (guess hid L fi la) i a = (fi.map (rowH hid la)).idxOf (rowH hid la (u ++ [a])) := by
  show ((fi.map _).getD i []).getD a 0 = _
  rw [map_getD _ h, map_getD (fun a => (fi.map (rowH hid la)).idxOf (rowH hid la (u ++ [a]))) (x := a)]
  rw [List.getElem?_range ha]
theorem closed_row (hc : ¬ Strange hid L fi la) {r : Word} (h : IsRow L fi r) : ∃ v ∈ fi, rowH hid la r = rowH hid la v :=
  Classical.byContradiction fun n => hc ⟨r, h, fun u hu e => n ⟨u, hu, e⟩⟩
/-- where a letter leads in the guess -/
theorem guess_way (hc : ¬ Strange hid L fi la) {i a : Nat} {u : Word} (h : fi[i]? = some u) (ha : a < L) :
    ∃ v, fi[stp (guess hid L fi la) i a]? = some v ∧ rowH hid la (u ++ [a]) = rowH hid la v := by
  obtain ⟨v, hv, e⟩ := closed_row hc (r := u ++ [a]) (.inr ⟨u, List.mem_of_getElem? h, a, ha, rfl⟩)
  rw [guess_stp h ha]
  have hm : rowH hid la (u ++ [a]) ∈ fi.map (rowH hid la) := List.mem_map.mpr ⟨v, hv, e.symm⟩
  have hlt := List.idxOf_lt_length_iff.mpr hm
  have hge := List.getElem_idxOf hlt
  have hlt' : (fi.map (rowH hid la)).idxOf (rowH hid la (u ++ [a])) < fi.length := by rw [List.length_map] at hlt; exact hlt
  refine ⟨_, List.getElem?_eq_getElem hlt', ?_⟩
  rw [List.getElem_map] at hge
  exact hge.symm
theorem guess_run (hc : ¬ Strange hid L fi la) : ∀ (w : Word) (i : Nat), i < fi.length → Lets L w → run (guess hid L fi la) i w < fi.length
  | [], _, hi, _ => hi
  | a :: w, i, hi, hw => by
    obtain ⟨v, hv, _⟩ := guess_way hc (List.getElem?_eq_getElem hi) (hw a List.mem_cons_self)
    exact guess_run hc w _ (List.getElem?_eq_some_iff.mp hv).1 fun b hb => hw b (List.mem_cons_of_mem _ hb)
theorem guess_ok (T : Tab L most hid fi la) (hc : ¬ Strange hid L fi la) : Ok L (guess hid L fi la) where
  pos := by rw [guess_ways_len]; exact T.pos
  sl := by rw [guess_ways_len, guess_says_len]
  sr := fun row h => by
    obtain ⟨u, _, rfl⟩ := List.mem_map.mp h
    rw [List.length_map, List.length_range]
  wr := fun row h => by
    obtain ⟨u, hu, rfl⟩ := List.mem_map.mp h
    rw [guess_ways_len]
    refine ⟨by rw [List.length_map, List.length_range], fun x hx => ?_⟩
    obtain ⟨a, ha, rfl⟩ := List.mem_map.mp hx
    obtain ⟨v, hv, e⟩ := closed_row hc (r := u ++ [a]) (.inr ⟨u, hu, a, List.mem_range.mp ha, rfl⟩)
    have hm : rowH hid la (u ++ [a]) ∈ fi.map (rowH hid la) := List.mem_map.mpr ⟨v, hv, e.symm⟩
    have hlt := List.idxOf_lt_length_iff.mpr hm
    rw [List.length_map] at hlt
    exact hlt
end
/-- the access word of the guess's room behind w -/
def acc (hid : Word → Int) (L : Nat) (fi la : List Word) (w : Word) : Word := fi.getD (run (guess hid L fi la) 0 w) []
section
variable {L most : Nat} {hid : Word → Int} {fi la : List Word}
theorem acc_at (T : Tab L most hid fi la) (hc : ¬ Strange hid L fi la) {w : Word} (hw : Lets L w) : fi[run (guess hid L fi la) 0 w]? = some (acc hid L fi la w) := by
  have h := guess_run hc w 0 T.pos hw
  unfold acc
  rw [List.getD_eq_getElem?_getD, List.getElem?_eq_getElem h]
  rfl
theorem acc_nil (T : Tab L most hid fi la) : acc hid L fi la [] = [] := by
  show fi.getD 0 [] = []
  rw [List.getD_eq_getElem?_getD, T.fi0]
  rfl
theorem acc_mem (T : Tab L most hid fi la) (hc : ¬ Strange hid L fi la) {w : Word} (hw : Lets L w) : acc hid L fi la w ∈ fi := List.mem_of_getElem? (acc_at T hc hw)
theorem acc_snoc (T : Tab L most hid fi la) (hc : ¬ Strange hid L fi la) {w : Word} {a : Nat} (hw : Lets L w) (ha : a < L) : rowH hid la (acc hid L fi la w ++ [a]) = rowH hid la (acc hid L fi la (w ++ [a])) := by
  obtain ⟨v, hv, e⟩ := guess_way hc (acc_at T hc hw) ha
  have h2 := acc_at T hc (hw.app (Lets.one ha))
  rw [run_app] at h2
  have h3 : fi[stp (guess hid L fi la) (run (guess hid L fi la) 0 w) a]? = some (acc hid L fi la (w ++ [a])) := h2
  rw [hv] at h3
  rw [e, Option.some.inj h3]
/-- the guess's answer, by its rooms' access words -/
theorem guess_ans (T : Tab L most hid fi la) (hc : ¬ Strange hid L fi la) {w : Word} {a : Nat} (hw : Lets L w) (ha : a < L) : ans (guess hid L fi la) 0 (w ++ [a]) = hid (acc hid L fi la w ++ [a]) := by
  rw [ans_snoc, guess_out (acc_at T hc hw) ha]
theorem row_eq_at {u v e : Word} (h : rowH hid la u = rowH hid la v) (he : e ∈ la) : hid (u ++ e) = hid (v ++ e) := by
  exact List.map_inj_left.mp h e he
theorem row_eq_pre {u v : Word} {x : List Word} (h : rowH hid (la ++ x) u = rowH hid (la ++ x) v) : rowH hid la u = rowH hid la v :=
  List.map_inj_left.mpr fun e he => row_eq_at h (List.mem_append_left _ he)
theorem Strange.of_la {x : List Word} (h : Strange hid L fi la) : Strange hid L fi (la ++ x) := by
  obtain ⟨r, h1, h2⟩ := h
  exact ⟨r, h1, fun u hu e => h2 u hu (row_eq_pre e)⟩
/-! ### the hunt -/
/-- where the stretch of a hunt begins and ends -/
structure HuntOk (L : Nat) (hid : Word → Int) (fi la : List Word) (w : Word) (lo hi : Nat) : Prop where
  cl : ¬ Strange hid L fi la
  wl : Lets L w
  lt : lo < hi
  hw : hi + 1 ≤ w.length
  sz : w.length ≤ 120 + 4 * hun L la
  hlo : hid (acc hid L fi la (w.take lo) ++ w.drop lo) ≠ ans (guess hid L fi la) 0 w
  hhi : hid (acc hid L fi la (w.take hi) ++ w.drop hi) = ans (guess hid L fi la) 0 w
/-- the word that halves the stretch -/
abbrev mid (hid : Word → Int) (L : Nat) (fi la : List Word) (w : Word) (lo hi : Nat) : Word := acc hid L fi la (w.take ((lo + hi) / 2)) ++ w.drop ((lo + hi) / 2)
theorem hunt_start (T : Tab L most hid fi la) (hc : ¬ Strange hid L fi la) {w : Word} (hw : Lets L w) (hn : w ≠ []) (hs : w.length ≤ 120 + 4 * hun L la) (hx : ans (guess hid L fi la) 0 w ≠ hid w) :
    2 ≤ w.length ∧ HuntOk L hid fi la w 0 (w.length - 1) := by
  have e0 : w = w.dropLast ++ [w.getLast hn] := (List.dropLast_concat_getLast hn).symm
  have hl : Lets L w.dropLast := fun a m => hw a (List.dropLast_subset _ m)
  have ha : w.getLast hn < L := hw _ (List.getLast_mem hn)
  have hans := guess_ans T hc hl ha
  rw [← e0] at hans
  have h1 : 1 ≤ w.length := List.length_pos_iff.mpr hn
  have h2 : 2 ≤ w.length := by
    rcases Nat.lt_or_ge w.length 2 with h | h
    · exfalso
      have e : w.dropLast = [] := List.length_eq_zero_iff.mp (by rw [List.length_dropLast]; omega)
      rw [e, acc_nil T] at hans
      rw [e] at e0
      exact hx (hans.trans (congrArg hid e0.symm))
    · exact h
  refine ⟨h2, hc, hw, by omega, by omega, hs, ?_, ?_⟩
  · show hid (acc hid L fi la [] ++ w) ≠ _
    rw [acc_nil T]
    exact fun e => hx e.symm
  · rw [hans, ← List.dropLast_eq_take]
    congr 2
    have e1 : w.drop (w.length - 1) = (w.dropLast ++ [w.getLast hn]).drop (w.length - 1) := by rw [← e0]
    rw [e1, List.drop_left' (by rw [List.length_dropLast])]
theorem hunt_mid_lets (T : Tab L most hid fi la) {w : Word} {lo hi : Nat} (h : HuntOk L hid fi la w lo hi) (h2 : 2 ≤ hi - lo) :
    Lets L (mid hid L fi la w lo hi) ∧ mid hid L fi la w lo hi ≠ [] ∧ (mid hid L fi la w lo hi).length ≤ 124 + 4 * hun L la := by
  have hm := T.fiMem (acc_mem T h.cl (h.wl.take ((lo + hi) / 2)))
  have h1 := h.hw
  have h3 := h.sz
  have hd : (w.drop ((lo + hi) / 2)).length = w.length - (lo + hi) / 2 := List.length_drop
  refine ⟨hm.2.app (h.wl.drop _), fun e => ?_, ?_⟩
  · have : w.drop ((lo + hi) / 2) = [] := (List.append_eq_nil_iff.mp e).2
    rw [this] at hd
    simp at hd
    omega
  · rw [List.length_append]
    omega
/-- halving -/
theorem hunt_lo {w : Word} {lo hi : Nat} (h : HuntOk L hid fi la w lo hi) (h2 : 2 ≤ hi - lo) (hm : hid (mid hid L fi la w lo hi) ≠ ans (guess hid L fi la) 0 w) : HuntOk L hid fi la w ((lo + hi) / 2) hi :=
  ⟨h.cl, h.wl, by omega, h.hw, h.sz, hm, h.hhi⟩
theorem hunt_hi {w : Word} {lo hi : Nat} (h : HuntOk L hid fi la w lo hi) (h2 : 2 ≤ hi - lo) (hm : hid (mid hid L fi la w lo hi) = ans (guess hid L fi la) 0 w) : HuntOk L hid fi la w lo ((lo + hi) / 2) :=
  ⟨h.cl, h.wl, by omega, by have := h.hw; omega, h.sz, h.hlo, hm⟩
/-- a hunt's end: the rest of the word is a new telling word, and a row is a stranger -/
theorem hunt_end (T : Tab L most hid fi la) {w : Word} {lo : Nat} (h : HuntOk L hid fi la w lo (lo + 1)) :
    Tab L most hid fi (la ++ [w.drop (lo + 1)]) ∧ Strange hid L fi (la ++ [w.drop (lo + 1)]) := by
  have hlt : lo < w.length := by have := h.hw; omega
  have ed : w.drop lo = w[lo] :: w.drop (lo + 1) := (List.drop_eq_getElem_cons hlt)
  have et : w.take (lo + 1) = w.take lo ++ [w[lo]] := List.take_succ_eq_append_getElem hlt
  have ha : w[lo] < L := h.wl _ (List.getElem_mem hlt)
  have hlo := h.hlo
  have hhi := h.hhi
  rw [ed] at hlo
  rw [et] at hhi
  have hsn := acc_snoc T h.cl (h.wl.take lo) ha
  generalize hu : acc hid L fi la (w.take lo) = u at *
  generalize hv : acc hid L fi la (w.take lo ++ [w[lo]]) = v at *
  generalize he : w.drop (lo + 1) = e at *
  have hue : u ++ w[lo] :: e = (u ++ [w[lo]]) ++ e := by simp
  rw [hue] at hlo
  have hum : u ∈ fi := by rw [← hu]; exact acc_mem T h.cl (h.wl.take lo)
  have hvm : v ∈ fi := by rw [← hv]; exact acc_mem T h.cl ((h.wl.take lo).app (Lets.one ha))
  have hne : hid ((u ++ [w[lo]]) ++ e) ≠ hid (v ++ e) := fun q => hlo (q.trans hhi)
  have hnot : e ∉ la := fun m => hne (row_eq_at hsn m)
  have hel : e.length = w.length - (lo + 1) := by rw [← he]; exact List.length_drop
  have hh : hun L (la ++ [e]) = hun L la + 1 := by
    show (la ++ [e]).length - L = la.length - L + 1
    have := T.laL
    rw [List.length_append, List.length_singleton]
    omega
  constructor
  · refine ⟨T.l1, T.l6, T.m1, T.m4, T.fi0, T.fiP, fun i j u v hi hj q => T.fiD i j u v hi hj (row_eq_pre q), T.fiL, ?_, ?_, ?_, ?_⟩
    · rw [List.take_append_of_le_length T.laL]
      exact T.laT
    · intro e' m
      rcases List.mem_append.mp m with m | m
      · obtain ⟨h1, h2, h3⟩ := T.laO e' m
        exact ⟨h1, h2, by omega⟩
      · rw [List.mem_singleton.mp m]
        refine ⟨fun q => ?_, ?_, ?_⟩
        · rw [q] at hel
          have := h.hw
          simp at hel
          omega
        · rw [← he]
          exact h.wl.drop _
        · have := h.sz
          omega
    · exact List.nodup_append.mpr ⟨T.laN, by simp, fun a m b m' q => by
        rw [List.mem_singleton.mp m'] at q
        exact hnot (q ▸ m)⟩
    · have := T.laL
      rw [List.length_append]
      omega
  · refine ⟨u ++ [w[lo]], .inr ⟨u, hum, _, ha, rfl⟩, fun x hx q => ?_⟩
    have q1 := row_eq_pre q
    have q2 : hid ((u ++ [w[lo]]) ++ e) = hid (x ++ e) := row_eq_at q (List.mem_append_right _ (List.mem_singleton.mpr rfl))
    rw [hsn] at q1
    obtain ⟨i, hi⟩ := List.getElem?_of_mem hvm
    obtain ⟨j, hj⟩ := List.getElem?_of_mem hx
    have q3 := T.fiD i j v x hi hj q1
    subst q3
    rw [hi] at hj
    rw [Option.some.inj hj] at hne
    exact hne q2
/-- a stranger is taken in -/
theorem take_tab (T : Tab L most hid fi la) (hl : fi.length < most) {r : Word} (hr : IsRow L fi r) (hs : ∀ u ∈ fi, rowH hid la r ≠ rowH hid la u) : Tab L most hid (fi ++ [r]) la := by
  have hp := T.pos
  refine ⟨T.l1, T.l6, T.m1, T.m4, ?_, ?_, ?_, ?_, T.laT, T.laO, T.laN, T.laL⟩
  · rw [List.getElem?_append_left hp]
    exact T.fi0
  · intro k w h
    rcases Nat.lt_or_ge k fi.length with q | q
    · rw [List.getElem?_append_left q] at h
      rcases T.fiP k w h with e | ⟨j, u, a, hj, hu, ha, e⟩
      · exact .inl e
      · exact .inr ⟨j, u, a, hj, by rw [List.getElem?_append_left (by omega)]; exact hu, ha, e⟩
    · rw [List.getElem?_append_right q] at h
      have ek : k - fi.length = 0 := by
        have := (List.getElem?_eq_some_iff.mp h).1
        simp at this
        omega
      rw [ek] at h
      have e : r = w := by simpa using h
      subst e
      rcases hr with m | ⟨u, hu, a, ha, e⟩
      · exact absurd rfl (hs r m)
      · obtain ⟨j, hj⟩ := List.getElem?_of_mem hu
        have hjl := (List.getElem?_eq_some_iff.mp hj).1
        exact .inr ⟨j, u, a, by omega, by rw [List.getElem?_append_left hjl]; exact hj, ha, e⟩
  · intro i j u v hi hj q
    have key : ∀ (i : Nat) (u : Word), (fi ++ [r])[i]? = some u → (i < fi.length ∧ fi[i]? = some u) ∨ (i = fi.length ∧ u = r) := by
      intro i u h
      rcases Nat.lt_or_ge i fi.length with c | c
      · rw [List.getElem?_append_left c] at h
        exact .inl ⟨c, h⟩
      · rw [List.getElem?_append_right c] at h
        have := (List.getElem?_eq_some_iff.mp h).1
        simp at this
        have e : i = fi.length := by omega
        rw [e, Nat.sub_self] at h
        exact .inr ⟨e, by simpa using h.symm⟩
    rcases key i u hi with ⟨c1, h1⟩ | ⟨c1, rfl⟩ <;> rcases key j v hj with ⟨c2, h2⟩ | ⟨c2, rfl⟩
    · exact T.fiD i j u v h1 h2 q
    · exact absurd q.symm (hs u (List.mem_of_getElem? h1))
    · exact absurd q (hs v (List.mem_of_getElem? h2))
    · omega
  · rw [List.length_append, List.length_singleton]
    omega
end
end Gr
end
section
set_option maxHeartbeats 1000000
/-! The asker's state and what its steps keep. -/
namespace Gr
/-! ### the book -/
def told (b : List (Word × Int)) (w : Word) : Option Int := (b.find? fun p => decide (p.1 = w)).map (·.2)
theorem told_mem {b : List (Word × Int)} {w : Word} {m : Int} (h : told b w = some m) : (w, m) ∈ b := by
  unfold told at h
  cases e : b.find? (fun p => decide (p.1 = w)) with
  | none => rw [e] at h; cases h
  | some p =>
    rw [e] at h
    have h1 := List.find?_some e
    have h2 := List.mem_of_find?_eq_some e
    have h3 : p.1 = w := of_decide_eq_true h1
    have h4 : p.2 = m := Option.some.inj h
    rw [← h3, ← h4]
    exact h2
theorem told_none {b : List (Word × Int)} {w : Word} : told b w = none ↔ w ∉ b.map (·.1) := by
  unfold told
  rw [Option.map_eq_none_iff, List.find?_eq_none]
  constructor
  · intro h m
    obtain ⟨p, hp, e⟩ := List.mem_map.mp m
    exact h p hp (decide_eq_true e)
  · intro h p hp e
    exact h (List.mem_map.mpr ⟨p, hp, of_decide_eq_true e⟩)
theorem told_snoc_ne {b : List (Word × Int)} {w v : Word} {m : Int} (h : told b v ≠ none) : told (b ++ [(w, m)]) v ≠ none := by
  intro e
  rw [told_none] at e
  refine h (told_none.mpr fun q => e ?_)
  rw [List.map_append]
  exact List.mem_append_left _ q
theorem told_snoc_self {b : List (Word × Int)} {w : Word} {m : Int} : told (b ++ [(w, m)]) w ≠ none := by
  intro e
  rw [told_none] at e
  exact e (by rw [List.map_append]; exact List.mem_append_right _ (List.mem_singleton.mpr rfl))
structure BookOk (L : Nat) (hid : Word → Int) (B : Nat) (b : List (Word × Int)) : Prop where
  nd : (b.map (·.1)).Nodup
  ok : ∀ p ∈ b, p.1 ≠ [] ∧ Lets L p.1 ∧ p.2 = hid p.1 ∧ p.1.length ≤ B
section
variable {L most : Nat} {hid : Word → Int} {fi la : List Word} {b : List (Word × Int)}
theorem BookOk.told {B : Nat} (h : BookOk L hid B b) {w : Word} (t : told b w ≠ none) : Gr.told b w = some (hid w) := by
  cases e : Gr.told b w with
  | none => exact absurd e t
  | some m => exact congrArg some (h.ok _ (told_mem e)).2.2.1
theorem BookOk.mono {B B' : Nat} (h : BookOk L hid B b) (k : B ≤ B') : BookOk L hid B' b := ⟨h.nd, fun p hp => by
  obtain ⟨h1, h2, h3, h4⟩ := h.ok p hp
  exact ⟨h1, h2, h3, by omega⟩⟩
theorem BookOk.put {B : Nat} (h : BookOk L hid B b) {w : Word} (hn : Gr.told b w = none) (h0 : w ≠ []) (hl : Lets L w) (hb : w.length ≤ B) : BookOk L hid B (b ++ [(w, hid w)]) := by
  refine ⟨?_, fun p hp => ?_⟩
  · rw [List.map_append]
    refine List.nodup_append.mpr ⟨h.nd, by simp, fun x hx y hy e => ?_⟩
    have hy' : y = w := by simpa using hy
    exact told_none.mp hn (by rw [← hy', ← e]; exact hx)
  · rcases List.mem_append.mp hp with q | q
    · exact h.ok p q
    · rw [List.mem_singleton.mp q]
      exact ⟨h0, hl, rfl, hb⟩
def AllTold (L : Nat) (fi la : List Word) (b : List (Word × Int)) : Prop := ∀ r, IsRow L fi r → ∀ e ∈ la, told b (r ++ e) ≠ none
def Cell (L : Nat) (fi la : List Word) (w : Word) : Prop := ∃ r e, IsRow L fi r ∧ e ∈ la ∧ w = r ++ e
def Wrong (hid : Word → Int) (L : Nat) (fi la : List Word) (b : List (Word × Int)) : Prop := ∃ p ∈ b, ans (guess hid L fi la) 0 p.1 ≠ p.2
theorem Wrong.snoc {q : Word × Int} (h : Wrong hid L fi la b) : Wrong hid L fi la (b ++ [q]) := by
  obtain ⟨p, hp, k⟩ := h
  exact ⟨p, List.mem_append_left _ hp, k⟩
/-! ### the state -/
abbrev Hu := Option (Word × Nat × Nat)
/-- one more for the hunt that goes on -/
def one (hu : Hu) : Nat := match hu with | none => 0 | some _ => 1
structure Inv (L most : Nat) (hid : Word → Int) (b : List (Word × Int)) (fi la : List Word) (hu : Hu) (asks : List Word) (hs kept : Nat) : Prop where
  tab : Tab L most hid fi la
  bok : BookOk L hid (120 + 4 * (hun L la + one hu)) b
  an : asks.Nodup
  am : ∀ w ∈ asks, told b w ≠ none ∧ Cell L fi la w
  kl : kept ≤ fi.length
  no : hu = none → hs ≤ 10 * hun L la ∧ hun L la ≤ fi.length ∧ (hun L la + 1 ≤ fi.length ∨ Strange hid L fi la) ∧ (kept < fi.length ∨ Strange hid L fi la ∨ Wrong hid L fi la b)
  ya : ∀ w lo hi, hu = some (w, lo, hi) → HuntOk L hid fi la w lo hi ∧ hun L la + 1 ≤ fi.length ∧
    ∃ used, used ≤ 10 ∧ hs ≤ 10 * hun L la + used ∧ (told b (mid hid L fi la w lo hi) = none → hi - lo ≤ 2 ^ (10 - used)) ∧ hi - lo ≤ 2 ^ (11 - used)
variable {hu : Hu} {asks : List Word} {hs kept : Nat}
theorem Inv.hunLe (I : Inv L most hid b fi la hu asks hs kept) : hun L la ≤ fi.length := by
  cases e : hu with
  | none => exact (I.no e).2.1
  | some p => obtain ⟨w, lo, hi⟩ := p; have := (I.ya w lo hi e).2.1; omega
theorem Inv.hunLe4 (I : Inv L most hid b fi la hu asks hs kept) : hun L la ≤ 4 := by
  have h1 := I.hunLe
  have h2 := I.tab.fiL
  have h3 := I.tab.m4
  omega
def letters (L : Nat) : List Word := (List.range L).map fun a => [a]
theorem inv_init (h1 : 1 ≤ L) (h6 : L ≤ 6) (m1 : 1 ≤ most) (m4 : most ≤ 4) : Inv L most hid [] [[]] (letters L) none [] 0 0 := by
  have hl : (letters L).length = L := by unfold letters; rw [List.length_map, List.length_range]
  have hz : hun L (letters L) = 0 := by show (letters L).length - L = 0; omega
  refine ⟨⟨h1, h6, m1, m4, rfl, ?_, ?_, m1, ?_, ?_, ?_, by omega⟩, ⟨List.nodup_nil, fun p h => nomatch h⟩, List.nodup_nil, fun w h => (nomatch h), Nat.zero_le _, fun _ => ?_, fun w lo hi h => nomatch h⟩
  · intro k w h
    have := (List.getElem?_eq_some_iff.mp h).1
    simp at this
    subst this
    exact .inl ⟨rfl, by simpa using h.symm⟩
  · intro i j u v hi hj _
    have h1 := (List.getElem?_eq_some_iff.mp hi).1
    have h2 := (List.getElem?_eq_some_iff.mp hj).1
    simp at h1 h2
    omega
  · have : (letters L).take L = letters L := List.take_of_length_le (by omega)
    rw [this]
    rfl
  · intro e he
    obtain ⟨a, ha, rfl⟩ := List.mem_map.mp he
    exact ⟨by simp, Lets.one (List.mem_range.mp ha), by rw [List.length_singleton]; omega⟩
  · unfold letters
    rw [List.nodup_iff_pairwise_ne, List.pairwise_map]
    have h := List.nodup_range (n := L)
    rw [List.nodup_iff_pairwise_ne] at h
    exact h.imp fun {a b} q e => q (by simpa using e)
  · rw [hz]
    exact ⟨Nat.le_refl _, Nat.zero_le _, .inl (Nat.le_refl _), .inl (by simp)⟩
inductive Wi where
  | ask (w : Word) | shw (g : House) | don (g : House) | spt (w : Word)
/-- what it wants, and how it stands then -/
def Ready (L most : Nat) (hid : Word → Int) (b : List (Word × Int)) (fi la : List Word) (hu : Hu) (asks : List Word) (hs kept : Nat) : Wi → Prop
  | .ask w => Inv L most hid b fi la hu asks hs kept ∧ told b w = none ∧ w ≠ [] ∧ Lets L w ∧ w.length ≤ 600 ∧
    ((hu = none ∧ Cell L fi la w) ∨ ∃ v lo hi, hu = some (v, lo, hi) ∧ 2 ≤ hi - lo ∧ w = mid hid L fi la v lo hi)
  | .shw g => Inv L most hid b fi la hu asks hs kept ∧ hu = none ∧ AllTold L fi la b ∧ ¬ Strange hid L fi la ∧ g = guess hid L fi la ∧ ∀ p ∈ b, ans g 0 p.1 = p.2
  | .don g => Inv L most hid b fi la hu asks hs kept ∧ hu = none ∧ AllTold L fi la b ∧ ¬ Strange hid L fi la ∧ g = guess hid L fi la ∧ ∀ p ∈ b, ans g 0 p.1 = p.2
  | .spt w => Inv L most hid b fi la hu asks hs kept ∧ hu = none ∧ AllTold L fi la b ∧ fi.length = most ∧ IsRow L fi w ∧ ∀ u ∈ fi, rowH hid la w ≠ rowH hid la u
theorem Ready.inv {wi : Wi} (R : Ready L most hid b fi la hu asks hs kept wi) : Inv L most hid b fi la hu asks hs kept := by
  cases wi with
  | ask w => exact R.1
  | shw g => exact R.1
  | don g => exact R.1
  | spt w => exact R.1
theorem Cell.ok (T : Tab L most hid fi la) {w : Word} (h : Cell L fi la w) : w ≠ [] ∧ Lets L w ∧ w.length ≤ 120 + 4 * hun L la := by
  obtain ⟨r, e, hr, he, rfl⟩ := h
  obtain ⟨h1, h2⟩ := T.row hr
  obtain ⟨h3, h4, h5⟩ := T.laO e he
  refine ⟨fun q => h3 (List.append_eq_nil_iff.mp q).2, h2.app h4, ?_⟩
  rw [List.length_append]
  omega
/-- a gap is asked for -/
theorem ready_gap (I : Inv L most hid b fi la none asks hs kept) {w : Word} (hc : Cell L fi la w) (hn : told b w = none) : Ready L most hid b fi la none asks hs kept (.ask w) := by
  obtain ⟨h1, h2, h3⟩ := hc.ok I.tab
  have := I.hunLe4
  exact ⟨I, hn, h1, h2, by omega, .inl ⟨rfl, hc⟩⟩
theorem ready_mid {w : Word} {lo hi : Nat} (I : Inv L most hid b fi la (some (w, lo, hi)) asks hs kept) (h2 : 2 ≤ hi - lo) (hn : told b (mid hid L fi la w lo hi) = none) :
    Ready L most hid b fi la (some (w, lo, hi)) asks hs kept (.ask (mid hid L fi la w lo hi)) := by
  obtain ⟨k, _, _⟩ := I.ya w lo hi rfl
  obtain ⟨h3, h4, h5⟩ := hunt_mid_lets I.tab k h2
  have := I.hunLe4
  exact ⟨I, hn, h4, h3, by omega, .inr ⟨w, lo, hi, rfl, h2, rfl⟩⟩
/-- the mark of the word that it asks -/
theorem inv_hear {w : Word} (R : Ready L most hid b fi la hu asks hs kept (.ask w)) :
    ∃ asks' hs', Inv L most hid (b ++ [(w, hid w)]) fi la hu asks' hs' kept ∧ asks'.length + hs' = asks.length + hs + 1 := by
  obtain ⟨I, hn, h0, hl, _, hc⟩ := R
  have am' : ∀ v ∈ asks, told (b ++ [(w, hid w)]) v ≠ none ∧ Cell L fi la v := fun v hv => ⟨told_snoc_ne (I.am v hv).1, (I.am v hv).2⟩
  rcases hc with ⟨rfl, hc⟩ | ⟨v, lo, hi, rfl, h2, rfl⟩
  · obtain ⟨_, _, h3⟩ := hc.ok I.tab
    refine ⟨asks ++ [w], hs, ⟨I.tab, I.bok.put hn h0 hl (by show w.length ≤ 120 + 4 * (hun L la + 0); omega), ?_, ?_, I.kl, fun _ => ?_, fun _ _ _ h => nomatch h⟩, by rw [List.length_append, List.length_singleton]; omega⟩
    · refine List.nodup_append.mpr ⟨I.an, by simp, fun x hx y hy e => ?_⟩
      rw [List.mem_singleton.mp hy] at e
      rw [e] at hx
      exact (I.am w hx).1 hn
    · intro x hx
      rcases List.mem_append.mp hx with q | q
      · exact am' x q
      · rw [List.mem_singleton.mp q]
        exact ⟨told_snoc_self, hc⟩
    · obtain ⟨q1, q2, q3, q4⟩ := I.no rfl
      refine ⟨q1, q2, q3, ?_⟩
      rcases q4 with q | q | q
      · exact .inl q
      · exact .inr (.inl q)
      · exact .inr (.inr q.snoc)
  · obtain ⟨k, q1, used, u1, u2, u3, u4⟩ := I.ya v lo hi rfl
    obtain ⟨_, _, h5⟩ := hunt_mid_lets I.tab k h2
    have u5 := u3 hn
    have u6 : used ≤ 9 := by
      rcases Nat.lt_or_ge used 10 with c | c
      · omega
      · have e : used = 10 := by omega
        subst e
        simp at u5
        omega
    refine ⟨asks, hs + 1, ⟨I.tab, I.bok.put hn h0 hl (by show _ ≤ 120 + 4 * (hun L la + 1); omega), I.an, am', I.kl, (fun h => nomatch h), ?_⟩, by omega⟩
    intro w' lo' hi' e
    cases e
    refine ⟨k, q1, used + 1, by omega, by omega, fun z => absurd z told_snoc_self, ?_⟩
    rw [show 11 - (used + 1) = 10 - used by omega]
    exact u5
/-- a stranger is taken in -/
theorem inv_take (I : Inv L most hid b fi la none asks hs kept) (hl : fi.length < most) {r : Word} (hr : IsRow L fi r) (hd : ∀ u ∈ fi, rowH hid la r ≠ rowH hid la u) : Inv L most hid b (fi ++ [r]) la none asks hs kept := by
  obtain ⟨q1, q2, q3, q4⟩ := I.no rfl
  have hlen : (fi ++ [r]).length = fi.length + 1 := by rw [List.length_append, List.length_singleton]
  refine ⟨take_tab I.tab hl hr hd, I.bok, I.an, fun w hw => ⟨(I.am w hw).1, ?_⟩, by have := I.kl; omega, fun _ => ⟨q1, by omega, .inl (by omega), .inl (by have := I.kl; omega)⟩, fun _ _ _ h => nomatch h⟩
  obtain ⟨x, e, hx, he, rfl⟩ := (I.am w hw).2
  refine ⟨x, e, ?_, he, rfl⟩
  rcases hx with m | ⟨u, hu, a, ha, rfl⟩
  · exact .inl (List.mem_append_left _ m)
  · exact .inr ⟨u, List.mem_append_left _ hu, a, ha, rfl⟩
/-- a hunt begins -/
theorem inv_start (I : Inv L most hid b fi la none asks hs kept) (hc : ¬ Strange hid L fi la) {w : Word} {m : Int} (hm : (w, m) ∈ b) (hx : ans (guess hid L fi la) 0 w ≠ m) :
    2 ≤ w.length ∧ Inv L most hid b fi la (some (w, 0, w.length - 1)) asks hs kept := by
  obtain ⟨q1, q2, q3, q4⟩ := I.no rfl
  obtain ⟨h1, h2, h3, h4⟩ := I.bok.ok _ hm
  have h1 : w ≠ [] := h1
  have h2 : Lets L w := h2
  have h3' : m = hid w := h3
  have h4' : w.length ≤ 120 + 4 * (hun L la + 0) := h4
  obtain ⟨k1, k2⟩ := hunt_start I.tab hc h2 h1 (by omega) (by rw [← h3']; exact hx)
  have k3 : hun L la + 1 ≤ fi.length := by
    rcases q3 with q | q
    · exact q
    · exact absurd q hc
  have h5 := I.hunLe4
  refine ⟨k1, I.tab, I.bok.mono (by show 120 + 4 * (hun L la + 0) ≤ 120 + 4 * (hun L la + 1); omega), I.an, I.am, I.kl, (fun h => nomatch h), fun w' lo hi e => ?_⟩
  cases e
  exact ⟨k2, k3, 0, by omega, by omega, fun _ => by show _ ≤ 1024; omega, by show _ ≤ 2048; omega⟩
theorem halve_le {x k : Nat} (h : x ≤ 2 ^ (k + 1)) : x - x / 2 ≤ 2 ^ k := by
  rw [Nat.pow_succ] at h
  omega
/-- a stretch is halved -/
theorem inv_halve {w : Word} {lo hi : Nat} (I : Inv L most hid b fi la (some (w, lo, hi)) asks hs kept) (h2 : 2 ≤ hi - lo) :
    (hid (mid hid L fi la w lo hi) = ans (guess hid L fi la) 0 w → Inv L most hid b fi la (some (w, lo, (lo + hi) / 2)) asks hs kept) ∧
    (hid (mid hid L fi la w lo hi) ≠ ans (guess hid L fi la) 0 w → Inv L most hid b fi la (some (w, (lo + hi) / 2, hi)) asks hs kept) := by
  obtain ⟨k, q1, used, u1, u2, u3, u4⟩ := I.ya w lo hi rfl
  have e11 : 11 - used = (10 - used) + 1 := by omega
  rw [e11] at u4
  have h3 := halve_le u4
  have h4 : 2 ^ (10 - used) ≤ 2 ^ (11 - used) := Nat.pow_le_pow_right (by decide) (by omega)
  constructor
  · intro e
    refine ⟨I.tab, I.bok, I.an, I.am, I.kl, (fun h => nomatch h), fun w' lo' hi' e' => ?_⟩
    cases e'
    exact ⟨hunt_hi k h2 e, q1, used, u1, u2, fun _ => by omega, by omega⟩
  · intro e
    refine ⟨I.tab, I.bok, I.an, I.am, I.kl, (fun h => nomatch h), fun w' lo' hi' e' => ?_⟩
    cases e'
    exact ⟨hunt_lo k h2 e, q1, used, u1, u2, fun _ => by omega, by omega⟩
/-- a hunt ends -/
theorem inv_end {w : Word} {lo hi : Nat} (I : Inv L most hid b fi la (some (w, lo, hi)) asks hs kept) (h1 : hi - lo = 1) : Inv L most hid b fi (la ++ [w.drop hi]) none asks hs kept := by
  obtain ⟨k, q1, used, u1, u2, u3, u4⟩ := I.ya w lo hi rfl
  have e : hi = lo + 1 := by have := k.lt; omega
  subst e
  obtain ⟨T, S⟩ := hunt_end I.tab k
  have hh : hun L (la ++ [w.drop (lo + 1)]) = hun L la + 1 := by
    show (la ++ [w.drop (lo + 1)]).length - L = la.length - L + 1
    have := I.tab.laL
    rw [List.length_append, List.length_singleton]
    omega
  refine ⟨T, ?_, I.an, fun v hv => ⟨(I.am v hv).1, ?_⟩, I.kl, fun _ => ?_, fun _ _ _ h => nomatch h⟩
  · rw [hh]
    exact I.bok
  · obtain ⟨x, e, hx, he, rfl⟩ := (I.am v hv).2
    exact ⟨x, e, hx, List.mem_append_left _ he, rfl⟩
  · rw [hh]
    exact ⟨by omega, by omega, .inr S, .inr (.inl S)⟩
/-- an objection -/
theorem inv_differ {g : House} {w : Word} (R : Ready L most hid b fi la hu asks hs kept (.shw g)) (h0 : w ≠ []) (hl : Lets L w) (hz : w.length ≤ 116) (hx : ans g 0 w ≠ hid w) :
    told b w = none ∧ Inv L most hid (b ++ [(w, hid w)]) fi la none asks hs fi.length := by
  obtain ⟨I, rfl, ht, hc, rfl, ha⟩ := R
  obtain ⟨q1, q2, q3, q4⟩ := I.no rfl
  have hn : told b w = none := by
    cases e : told b w with
    | none => rfl
    | some m =>
      have h1 := told_mem e
      have h2 := ha _ h1
      have h3 := (I.bok.ok _ h1).2.2.1
      exact absurd (h2.trans h3) hx
  refine ⟨hn, I.tab, I.bok.put hn h0 hl (by omega), I.an, fun v hv => ⟨told_snoc_ne (I.am v hv).1, (I.am v hv).2⟩, Nat.le_refl _, fun _ => ⟨q1, q2, q3, .inr (.inr ⟨(w, hid w), List.mem_append_right _ (List.mem_singleton.mpr rfl), hx⟩)⟩, fun _ _ _ h => nomatch h⟩
/-- at a house shown access words were added -/
theorem show_grows {g : House} (R : Ready L most hid b fi la hu asks hs kept (.shw g)) : kept < fi.length ∧ hun L la + 1 ≤ fi.length := by
  obtain ⟨I, rfl, ht, hc, rfl, ha⟩ := R
  obtain ⟨q1, q2, q3, q4⟩ := I.no rfl
  refine ⟨?_, ?_⟩
  · rcases q4 with q | q | ⟨p, hp, q⟩
    · exact q
    · exact absurd q hc
    · exact absurd (ha p hp) q
  · rcases q3 with q | q
    · exact q
    · exact absurd q hc
/-! ### it comes to an end -/
def mu (most L : Nat) (fi la : List Word) : Hu → Nat
  | none => (2 * most + 2 - fi.length - hun L la) * 2000 + 1000
  | some (_, lo, hi) => (2 * most + 2 - fi.length - hun L la) * 2000 + (hi - lo)
theorem mu_take (hl : fi.length < most) {r : Word} (h : hun L la ≤ fi.length) : mu most L (fi ++ [r]) la none < mu most L fi la none := by
  show (2 * most + 2 - (fi ++ [r]).length - hun L la) * 2000 + 1000 < (2 * most + 2 - fi.length - hun L la) * 2000 + 1000
  rw [List.length_append, List.length_singleton]
  omega
theorem mu_start {w : Word} (hz : w.length ≤ 900) : mu most L fi la (some (w, 0, w.length - 1)) < mu most L fi la none := by
  show _ * 2000 + (w.length - 1 - 0) < _ * 2000 + 1000
  omega
theorem mu_halve {w : Word} {lo hi : Nat} (h2 : 2 ≤ hi - lo) : mu most L fi la (some (w, lo, (lo + hi) / 2)) < mu most L fi la (some (w, lo, hi)) ∧ mu most L fi la (some (w, (lo + hi) / 2, hi)) < mu most L fi la (some (w, lo, hi)) := by
  constructor
  · show _ * 2000 + ((lo + hi) / 2 - lo) < _ * 2000 + (hi - lo)
    omega
  · show _ * 2000 + (hi - (lo + hi) / 2) < _ * 2000 + (hi - lo)
    omega
theorem mu_end {w e : Word} {lo hi : Nat} (hL : L ≤ la.length) (h1 : hun L la ≤ most) (h2 : fi.length ≤ most) : mu most L fi (la ++ [e]) none < mu most L fi la (some (w, lo, hi)) := by
  show (2 * most + 2 - fi.length - ((la ++ [e]).length - L)) * 2000 + 1000 < (2 * most + 2 - fi.length - (la.length - L)) * 2000 + (hi - lo)
  rw [List.length_append, List.length_singleton]
  have h3 : la.length - L ≤ most := h1
  omega
/-! ### how many words were asked -/
theorem flatMap_len {α β : Type} (f : α → List β) (c : Nat) : ∀ l : List α, (∀ x ∈ l, (f x).length = c) → (l.flatMap f).length = l.length * c
  | [], _ => by simp
  | a :: r, h => by
    rw [List.flatMap_cons, List.length_append, h a List.mem_cons_self, flatMap_len f c r fun x hx => h x (List.mem_cons_of_mem _ hx), List.length_cons, Nat.add_mul]
    omega
def rowsS (L : Nat) (fi : List Word) : List Word := [] :: fi.flatMap fun u => (List.range L).map fun a => u ++ [a]
theorem rowsS_len : (rowsS L fi).length = 1 + fi.length * L := by
  unfold rowsS
  rw [List.length_cons, flatMap_len _ L fi fun x _ => by rw [List.length_map, List.length_range]]
  omega
theorem rowsS_mem (T : Tab L most hid fi la) {r : Word} (h : IsRow L fi r) : r ∈ rowsS L fi := by
  have key : ∀ u ∈ fi, ∀ a, a < L → u ++ [a] ∈ rowsS L fi := fun u hu a ha =>
    List.mem_cons_of_mem _ (List.mem_flatMap.mpr ⟨u, hu, List.mem_map.mpr ⟨a, List.mem_range.mpr ha, rfl⟩⟩)
  rcases h with h | ⟨u, hu, a, ha, rfl⟩
  · obtain ⟨k, hk⟩ := List.getElem?_of_mem h
    rcases T.fiP k r hk with ⟨_, rfl⟩ | ⟨j, u, a, _, hu, ha, rfl⟩
    · exact List.mem_cons_self
    · exact key u (List.mem_of_getElem? hu) a ha
  · exact key u hu a ha
theorem asks_len (I : Inv L most hid b fi la hu asks hs kept) : asks.length ≤ (1 + fi.length * L) * la.length := by
  have h : asks ⊆ (rowsS L fi).flatMap fun r => la.map fun e => r ++ e := fun w hw => by
    obtain ⟨r, e, hr, he, rfl⟩ := (I.am w hw).2
    exact List.mem_flatMap.mpr ⟨r, rowsS_mem I.tab hr, List.mem_map.mpr ⟨e, he, rfl⟩⟩
  have k := List.Nodup.length_le_of_subset I.an h
  rw [flatMap_len _ la.length _ fun x _ => List.length_map _, rowsS_len] at k
  exact k
theorem Inv.hs_le (I : Inv L most hid b fi la hu asks hs kept) : hs ≤ 50 := by
  have h := I.hunLe4
  cases e : hu with
  | none => have := (I.no e).1; omega
  | some p => obtain ⟨w, lo, hi⟩ := p; obtain ⟨_, _, used, u1, u2, _⟩ := I.ya w lo hi e; omega
theorem asked_any (I : Inv L most hid b fi la hu asks hs kept) : asks.length + hs ≤ 300 := by
  have h1 := asks_len I
  have h2 := I.hs_le
  have h3 := I.hunLe4
  have h4 : fi.length ≤ 4 := Nat.le_trans I.tab.fiL I.tab.m4
  have h6 := I.tab.l6
  have h5 : fi.length * L ≤ 4 * 6 := Nat.mul_le_mul h4 h6
  have h7 : la.length ≤ 10 := by have : la.length - L ≤ 4 := h3; omega
  have h8 : (1 + fi.length * L) * la.length ≤ 25 * 10 := Nat.mul_le_mul (by omega) h7
  omega
theorem asked_show {g : House} (R : Ready L most hid b fi la hu asks hs kept (.shw g)) : asks.length + hs ≤ (1 + fi.length * L) * (fi.length + L) + 10 * (fi.length - 1) := by
  have h1 := asks_len R.inv
  have h2 := (show_grows R).2
  obtain ⟨I, rfl, _⟩ := R
  have h3 := (I.no rfl).1
  have h4 := I.tab.laL
  have h5 : la.length ≤ fi.length + L := by have : la.length - L + 1 ≤ fi.length := h2; omega
  have h6 := Nat.mul_le_mul_left (1 + fi.length * L) h5
  have h7 : hun L la ≤ fi.length - 1 := by omega
  omega
theorem asked_spent {w : Word} (R : Ready L most hid b fi la hu asks hs kept (.spt w)) : asks.length + hs ≤ (1 + (fi.length + 1) * L) * ((fi.length + 1) + L) + 10 * fi.length := by
  have h1 := asks_len R.inv
  obtain ⟨I, rfl, _⟩ := R
  obtain ⟨h3, h2, _, _⟩ := I.no rfl
  have h4 := I.tab.laL
  have h5 : la.length ≤ (fi.length + 1) + L := by have : la.length - L ≤ fi.length := h2; omega
  have h8 : fi.length * L ≤ (fi.length + 1) * L := Nat.mul_le_mul_right L (by omega)
  have h6 := Nat.mul_le_mul (show 1 + fi.length * L ≤ 1 + (fi.length + 1) * L by omega) h5
  omega
end
end Gr
end
section
set_option maxHeartbeats 1000000
/-! Classes of rooms, the count of the least house, pairs of rooms. -/
namespace Gr
/-! ### the different ones, in the order of their first coming -/
section
variable {κ : Type} [DecidableEq κ]
def ins (acc : List κ) (k : κ) : List κ := if k ∈ acc then acc else acc ++ [k]
def uniq (ks : List κ) : List κ := ks.foldl ins []
theorem uniq_snoc (ks : List κ) (k : κ) : uniq (ks ++ [k]) = ins (uniq ks) k := by
  unfold uniq
  rw [List.foldl_append]
  rfl
theorem ins_nd {acc : List κ} {k : κ} (h : acc.Nodup) : (ins acc k).Nodup := by
  unfold ins
  by_cases e : k ∈ acc
  · rw [if_pos e]; exact h
  · rw [if_neg e]
    exact List.nodup_append.mpr ⟨h, by simp, fun x hx y hy q => by
      rw [List.mem_singleton.mp hy] at q
      exact e (q ▸ hx)⟩
theorem ins_mem {acc : List κ} {k x : κ} : x ∈ ins acc k ↔ x ∈ acc ∨ x = k := by
  unfold ins
  by_cases e : k ∈ acc
  · rw [if_pos e]
    exact ⟨.inl, fun h => h.elim id fun q => q ▸ e⟩
  · rw [if_neg e, List.mem_append, List.mem_singleton]
theorem foldl_ins_nd : ∀ (ks acc : List κ), acc.Nodup → (ks.foldl ins acc).Nodup
  | [], _, h => h
  | _ :: ks, _, h => foldl_ins_nd ks _ (ins_nd h)
theorem uniq_nd (ks : List κ) : (uniq ks).Nodup := foldl_ins_nd ks [] List.nodup_nil
theorem foldl_ins_mem {x : κ} : ∀ (ks acc : List κ), x ∈ ks.foldl ins acc ↔ x ∈ acc ∨ x ∈ ks
  | [], acc => by simp
  | k :: ks, acc => by
    rw [List.foldl_cons, foldl_ins_mem ks, ins_mem, List.mem_cons, or_assoc]
theorem uniq_mem {ks : List κ} {x : κ} : x ∈ uniq ks ↔ x ∈ ks := by
  unfold uniq
  rw [foldl_ins_mem]
  simp
theorem foldl_ins_ext : ∀ (ks acc : List κ), ∃ r, ks.foldl ins acc = acc ++ r
  | [], acc => ⟨[], by simp⟩
  | k :: ks, acc => by
    obtain ⟨r, e⟩ := foldl_ins_ext ks (ins acc k)
    rw [List.foldl_cons, e]
    unfold ins
    by_cases h : k ∈ acc
    · rw [if_pos h]; exact ⟨r, rfl⟩
    · rw [if_neg h]; exact ⟨k :: r, by simp⟩
theorem uniq_ext (ks js : List κ) : ∃ r, uniq (ks ++ js) = uniq ks ++ r := by
  unfold uniq
  rw [List.foldl_append]
  exact foldl_ins_ext js _
theorem idxOf_lt {l : List κ} {x : κ} (h : x ∈ l) : l.idxOf x < l.length := List.idxOf_lt_length_iff.mpr h
theorem idxOf_get {l : List κ} {x : κ} (h : x ∈ l) : l[l.idxOf x]? = some x := by
  rw [List.getElem?_eq_getElem (idxOf_lt h), List.getElem_idxOf]
theorem idxOf_inj {l : List κ} {x y : κ} (hx : x ∈ l) (hy : y ∈ l) (e : l.idxOf x = l.idxOf y) : x = y := by
  have h1 := idxOf_get hx
  have h2 := idxOf_get hy
  rw [e, h2] at h1
  exact (Option.some.inj h1).symm
/-- its number stays when others come behind -/
theorem uniq_idx (ks js : List κ) {x : κ} (h : x ∈ ks) : (uniq (ks ++ js)).idxOf x = (uniq ks).idxOf x := by
  obtain ⟨r, e⟩ := uniq_ext ks js
  rw [e, List.idxOf_append, if_pos (uniq_mem.mpr h)]
theorem uniq_new (ks js : List κ) (x : κ) : (uniq (ks ++ x :: js)).idxOf x = (uniq ks).length ↔ x ∉ ks := by
  have e1 : ks ++ x :: js = (ks ++ [x]) ++ js := by simp
  rw [e1, uniq_idx (ks ++ [x]) js (List.mem_append_right _ (List.mem_singleton.mpr rfl)), uniq_snoc]
  unfold ins
  by_cases h : x ∈ uniq ks
  · rw [if_pos h]
    have := idxOf_lt h
    have h2 := uniq_mem.mp h
    exact ⟨fun e => by omega, fun e => absurd h2 e⟩
  · rw [if_neg h, List.idxOf_append, if_neg h]
    simp only [List.idxOf_cons_self, Nat.zero_add, true_iff]
    exact fun m => h (uniq_mem.mpr m)
theorem uniq_len_snoc (ks : List κ) (k : κ) : (uniq (ks ++ [k])).length = (uniq ks).length + (if k ∈ ks then 0 else 1) := by
  rw [uniq_snoc]
  unfold ins
  by_cases h : k ∈ ks
  · rw [if_pos (uniq_mem.mpr h), if_pos h]; rfl
  · rw [if_neg (fun m => h (uniq_mem.mp m)), if_neg h, List.length_append, List.length_singleton]
/-- numbers by first coming -/
def nums (ks : List κ) : List Nat := ks.map fun k => (uniq ks).idxOf k
theorem nums_len (ks : List κ) : (nums ks).length = ks.length := List.length_map _
/-- all numbers below d stand in the row, and no others -/
structure Norm (cl : List Nat) (d : Nat) : Prop where
  lt : ∀ x ∈ cl, x < d
  at_ : ∀ v, v < d → v ∈ cl
theorem nums_norm (ks : List κ) : Norm (nums ks) (uniq ks).length := by
  constructor
  · intro x hx
    obtain ⟨k, hk, rfl⟩ := List.mem_map.mp hx
    exact idxOf_lt (uniq_mem.mpr hk)
  · intro v hv
    have hm : (uniq ks)[v] ∈ ks := uniq_mem.mp (List.getElem_mem hv)
    refine List.mem_map.mpr ⟨(uniq ks)[v], hm, ?_⟩
    have h1 := idxOf_get (uniq_mem.mpr hm)
    have h2 : (uniq ks)[v]? = some (uniq ks)[v] := List.getElem?_eq_getElem hv
    have hlt := idxOf_lt (uniq_mem.mpr hm)
    rw [List.getElem?_eq_getElem hlt] at h1
    exact (List.getElem_inj (uniq_nd ks)).mp (Option.some.inj h1)
theorem nums_eq {ks : List κ} {i j : Nat} {x y : κ} (hi : ks[i]? = some x) (hj : ks[j]? = some y) : (nums ks)[i]? = (nums ks)[j]? ↔ x = y := by
  unfold nums
  rw [List.getElem?_map, List.getElem?_map, hi, hj]
  show some _ = some _ ↔ _
  constructor
  · intro e
    exact idxOf_inj (uniq_mem.mpr (List.mem_of_getElem? hi)) (uniq_mem.mpr (List.mem_of_getElem? hj)) (Option.some.inj e)
  · intro e
    rw [e]
end
theorem Norm.le_len {cl : List Nat} {d : Nat} (h : Norm cl d) : d ≤ cl.length := by
  have k := List.Nodup.length_le_of_subset (List.nodup_range (n := d)) (fun v hv => h.at_ v (List.mem_range.mp hv))
  rw [List.length_range] at k
  exact k
/-- where a finer numbering has no more numbers it is the same -/
theorem norm_func {cl fn : List Nat} {d d' : Nat} (hc : Norm cl d) (hf : Norm fn d') (hle : d' ≤ d) (hl : fn.length = cl.length)
    (hi : ∀ i j : Nat, i < fn.length → j < fn.length → fn[i]? = fn[j]? → cl[i]? = cl[j]?) {i j : Nat} (h1 : i < fn.length) (h2 : j < fn.length) (e : cl[i]? = cl[j]?) : fn[i]? = fn[j]? := by
  have hx : ∀ v, v < d → ∃ i, cl[i]? = some v := fun v hv => List.getElem?_of_mem (hc.at_ v hv)
  let pk : Nat → Nat := fun v => if h : v < d then Classical.choose (hx v h) else 0
  have hpk : ∀ v, v < d → cl[pk v]? = some v := fun v hv => by
    show cl[if h : v < d then Classical.choose (hx v h) else 0]? = some v
    rw [dif_pos hv]
    exact Classical.choose_spec (hx v hv)
  have hpl : ∀ v, v < d → pk v < fn.length := fun v hv => by
    rw [hl]
    exact (List.getElem?_eq_some_iff.mp (hpk v hv)).1
  have key : ∀ i, i < fn.length → ∃ v, v < d ∧ fn[i]? = fn[pk v]? := by
    have nd : ((List.range d).map fun v => fn.getD (pk v) 0).Nodup := by
      rw [List.nodup_iff_pairwise_ne, List.pairwise_map]
      have h := List.nodup_range (n := d)
      rw [List.nodup_iff_pairwise_ne, List.pairwise_iff_getElem] at h
      rw [List.pairwise_iff_getElem]
      intro a b ha hb hab q
      have ha' : (List.range d)[a] < d := List.mem_range.mp (List.getElem_mem ha)
      have hb' : (List.range d)[b] < d := List.mem_range.mp (List.getElem_mem hb)
      have q2 : fn[pk (List.range d)[a]]? = fn[pk (List.range d)[b]]? := by
        rw [List.getD_eq_getElem?_getD, List.getD_eq_getElem?_getD, List.getElem?_eq_getElem (hpl _ ha'), List.getElem?_eq_getElem (hpl _ hb')] at q
        rw [List.getElem?_eq_getElem (hpl _ ha'), List.getElem?_eq_getElem (hpl _ hb')]
        exact congrArg some q
      have q3 := hi _ _ (hpl _ ha') (hpl _ hb') q2
      rw [hpk _ ha', hpk _ hb'] at q3
      exact h a b ha hb hab (Option.some.inj q3)
    intro i h
    have hm : fn[i] ∈ (List.range d).map fun v => fn.getD (pk v) 0 := by
      refine nd_mem_of_len nd (m := List.range d') (fun x hx => ?_) (by rw [List.length_map, List.length_range, List.length_range]; exact hle) _ (List.mem_range.mpr (hf.lt _ (List.getElem_mem h)))
      obtain ⟨v, hv, rfl⟩ := List.mem_map.mp hx
      exact List.mem_range.mpr (hf.lt _ (getD_mem (hpl v (List.mem_range.mp hv))))
    obtain ⟨v, hv, q⟩ := List.mem_map.mp hm
    have hv := List.mem_range.mp hv
    refine ⟨v, hv, ?_⟩
    rw [List.getD_eq_getElem?_getD, List.getElem?_eq_getElem (hpl v hv)] at q
    rw [List.getElem?_eq_getElem h, List.getElem?_eq_getElem (hpl v hv)]
    exact congrArg some q.symm
  obtain ⟨v, hv, e1⟩ := key i h1
  obtain ⟨u, hu, e2⟩ := key j h2
  have f1 := hi i (pk v) h1 (hpl v hv) e1
  have f2 := hi j (pk u) h2 (hpl u hu) e2
  rw [hpk v hv] at f1
  rw [hpk u hu] at f2
  rw [f1, f2] at e
  have euv : v = u := Option.some.inj e
  rw [e1, e2, euv]
/-! ### classes -/
/-- c numbers the rooms by what is said from them on -/
structure Classes (L : Nat) (h : House) (c : Nat → Nat) : Prop where
  say : ∀ r s, r < h.ways.length → s < h.ways.length → c r = c s → ∀ a, a < L → out h r a = out h s a
  way : ∀ r s, r < h.ways.length → s < h.ways.length → c r = c s → ∀ a, a < L → c (stp h r a) = c (stp h s a)
  tell : ∀ r s, r < h.ways.length → s < h.ways.length → c r ≠ c s → ∃ x, Lets L x ∧ x ≠ [] ∧ ans h r x ≠ ans h s x
structure Reached (L : Nat) (h : House) (rs : List Nat) : Prop where
  lt : ∀ r ∈ rs, r < h.ways.length
  by_ : ∀ r ∈ rs, ∃ w, Lets L w ∧ run h 0 w = r
  zero : 0 ∈ rs
  next : ∀ r ∈ rs, ∀ a, a < L → stp h r a ∈ rs
section
variable {L : Nat} {h : House} {c : Nat → Nat} {rs : List Nat}
theorem Reached.all (R : Reached L h rs) : ∀ (w : Word) (r : Nat), r ∈ rs → Lets L w → run h r w ∈ rs
  | [], _, hr, _ => hr
  | a :: w, r, hr, hw => R.all w _ (R.next r hr a (hw a List.mem_cons_self)) fun b hb => hw b (List.mem_cons_of_mem _ hb)
theorem Classes.talk (C : Classes L h c) (O : Ok L h) : ∀ (w : Word) (r s : Nat), r < h.ways.length → s < h.ways.length → c r = c s → Lets L w → Gr.talk h r w = Gr.talk h s w
  | [], _, _, _, _, _, _ => rfl
  | a :: w, r, s, hr, hs, e, hw => by
    have ha := hw a List.mem_cons_self
    show out h r a :: Gr.talk h (stp h r a) w = out h s a :: Gr.talk h (stp h s a) w
    rw [C.say r s hr hs e a ha, C.talk O w _ _ (O.stp_lt hr ha) (O.stp_lt hs ha) (C.way r s hr hs e a ha) fun b hb => hw b (List.mem_cons_of_mem _ hb)]
/-- words told apart two by two are at most as many as the classes -/
theorem apart_le (O : Ok L h) (C : Classes L h c) (R : Reached L h rs) (us : List Word) (hl : ∀ u ∈ us, Lets L u)
    (hd : ∀ (i j : Nat) (u v : Word), us[i]? = some u → us[j]? = some v → (∀ e, Lets L e → e ≠ [] → ans h 0 (u ++ e) = ans h 0 (v ++ e)) → i = j) : us.length ≤ (uniq (rs.map c)).length := by
  have nd : (us.map fun u => c (run h 0 u)).Nodup := by
    rw [List.nodup_iff_pairwise_ne, List.pairwise_map, List.pairwise_iff_getElem]
    intro i j hi hj hij q
    have := hd i j us[i] us[j] (List.getElem?_eq_getElem hi) (List.getElem?_eq_getElem hj) fun e he h0 => by
      rw [ans_app h _ _ _ h0, ans_app h _ _ _ h0]
      have z : 0 < h.ways.length := O.pos
      unfold ans
      rw [C.talk O e _ _ (O.run_lt _ z (hl _ (List.getElem_mem hi))) (O.run_lt _ z (hl _ (List.getElem_mem hj))) q he]
    omega
  have k := List.Nodup.length_le_of_subset nd (fun x hx => by
    obtain ⟨u, hu, rfl⟩ := List.mem_map.mp hx
    exact uniq_mem.mpr (List.mem_map.mpr ⟨run h 0 u, R.all u 0 R.zero (hl u hu), rfl⟩) : _ ⊆ uniq (rs.map c))
  rw [List.length_map] at k
  exact k
/-- a house that says the same has at least as many rooms as there are classes -/
theorem classes_le (O : Ok L h) (C : Classes L h c) (R : Reached L h rs) {g : House} (G : Ok L g) (hg : ∀ w, Lets L w → w ≠ [] → ans g 0 w = ans h 0 w) : (uniq (rs.map c)).length ≤ g.ways.length := by
  have hx : ∀ k, k ∈ uniq (rs.map c) → ∃ w, Lets L w ∧ c (run h 0 w) = k := fun k hk => by
    obtain ⟨r, hr, rfl⟩ := List.mem_map.mp (uniq_mem.mp hk)
    obtain ⟨w, hw, rfl⟩ := R.by_ r hr
    exact ⟨w, hw, rfl⟩
  let pk : Nat → Word := fun k => if q : k ∈ uniq (rs.map c) then Classical.choose (hx k q) else []
  have hpk : ∀ k, k ∈ uniq (rs.map c) → Lets L (pk k) ∧ c (run h 0 (pk k)) = k := fun k hk => by
    show Lets L (if q : k ∈ uniq (rs.map c) then Classical.choose (hx k q) else []) ∧ c (run h 0 (if q : k ∈ uniq (rs.map c) then Classical.choose (hx k q) else [])) = k
    rw [dif_pos hk]
    exact Classical.choose_spec (hx k hk)
  have nd : ((uniq (rs.map c)).map fun k => run g 0 (pk k)).Nodup := by
    have u := uniq_nd (rs.map c)
    rw [List.nodup_iff_pairwise_ne, List.pairwise_iff_getElem] at u
    rw [List.nodup_iff_pairwise_ne, List.pairwise_map, List.pairwise_iff_getElem]
    intro i j hi hj hij q
    have mi := List.getElem_mem hi
    have mj := List.getElem_mem hj
    obtain ⟨a1, a2⟩ := hpk _ mi
    obtain ⟨b1, b2⟩ := hpk _ mj
    have z : 0 < h.ways.length := O.pos
    obtain ⟨x, x1, x2, x3⟩ := C.tell _ _ (O.run_lt _ z a1) (O.run_lt _ z b1) (by rw [a2, b2]; exact u i j hi hj hij)
    apply x3
    rw [← ans_app h _ _ _ x2, ← ans_app h _ _ _ x2, ← hg _ (a1.app x1) (by simp [x2]), ← hg _ (b1.app x1) (by simp [x2]), ans_app g _ _ _ x2, ans_app g _ _ _ x2, q]
  have k := nd_le_range nd (fun x hx => by
    obtain ⟨k, hk, rfl⟩ := List.mem_map.mp hx
    exact G.run_lt _ G.pos (hpk k hk).1)
  rw [List.length_map] at k
  exact k
end
/-! ### pairs of rooms of two houses -/
structure Pairs (L : Nat) (g h : House) (ps : List (Word × Nat × Nat)) : Prop where
  ok : ∀ p ∈ ps, Lets L p.1 ∧ run g 0 p.1 = p.2.1 ∧ run h 0 p.1 = p.2.2
  zero : ∃ p ∈ ps, p.2 = (0, 0)
  next : ∀ p ∈ ps, ∀ a, a < L → ∃ q ∈ ps, q.2 = (stp g p.2.1 a, stp h p.2.2 a)
section
variable {L : Nat} {g h : House} {ps : List (Word × Nat × Nat)}
theorem Pairs.all (P : Pairs L g h ps) : ∀ (w : Word) (r s : Nat), (∃ p ∈ ps, p.2 = (r, s)) → Lets L w → ∃ p ∈ ps, p.2 = (run g r w, run h s w)
  | [], _, _, h, _ => h
  | a :: w, r, s, ⟨p, hp, e⟩, hw => by
    obtain ⟨q, hq, e2⟩ := P.next p hp a (hw a List.mem_cons_self)
    rw [e] at e2
    exact P.all w _ _ ⟨q, hq, e2⟩ fun b hb => hw b (List.mem_cons_of_mem _ hb)
/-- where no pair says unlike things all words are answered alike -/
theorem Pairs.same (P : Pairs L g h ps) (hs : ∀ p ∈ ps, ∀ a, a < L → out g p.2.1 a = out h p.2.2 a) : ∀ (w : Word), Lets L w → talk g 0 w = talk h 0 w := by
  have key : ∀ (w : Word) (r s : Nat), (∃ p ∈ ps, p.2 = (r, s)) → Lets L w → talk g r w = talk h s w := by
    intro w
    induction w with
    | nil => intro _ _ _ _; rfl
    | cons a w ih =>
      intro r s ⟨p, hp, e⟩ hw
      have ha := hw a List.mem_cons_self
      obtain ⟨q, hq, e2⟩ := P.next p hp a ha
      have h1 := hs p hp a ha
      rw [e] at e2 h1
      show out g r a :: talk g (stp g r a) w = out h s a :: talk h (stp h s a) w
      rw [ih _ _ ⟨q, hq, e2⟩ fun b hb => hw b (List.mem_cons_of_mem _ hb), h1]
  exact fun w hw => key w 0 0 P.zero hw
end
/-! ### sorting out -/
/-- marks of the rooms that a word leads to, room by room -/
def col (h : House) (mk : List Nat) (w : Word) : List Nat := (List.range h.ways.length).map fun r => mk.getD (run h r w) 0
structure Sorted (L : Nat) (h : House) (mk : List Nat) (ws : List Word) (cl : List Nat) (d : Nat) : Prop where
  w0 : [] ∈ ws
  wl : ∀ w ∈ ws, Lets L w
  cn : cl.length = h.ways.length
  nm : Norm cl d
  le : ws.length ≤ d
  eq : ∀ r s, r < h.ways.length → s < h.ways.length → (cl[r]? = cl[s]? ↔ ∀ w ∈ ws, mk.getD (run h r w) 0 = mk.getD (run h s w) 0)
/-- the word of that place with that letter ahead tells nothing more -/
def Done (h : House) (mk cl : List Nat) (w : Word) (a : Nat) : Prop := ∀ r s, r < h.ways.length → s < h.ways.length → cl[r]? = cl[s]? → mk.getD (run h r (a :: w)) 0 = mk.getD (run h s (a :: w)) 0
section
variable {L : Nat} {h : House} {mk : List Nat} {ws : List Word} {cl : List Nat} {d : Nat}
theorem sorted_start (hm : mk.length = h.ways.length) (hp : 0 < h.ways.length) : Sorted L h mk [[]] (nums mk) (uniq mk).length := by
  refine ⟨List.mem_singleton.mpr rfl, fun w hw => by rw [List.mem_singleton.mp hw]; exact Lets.nil, by rw [nums_len]; exact hm, nums_norm mk, ?_, ?_⟩
  · show 1 ≤ (uniq mk).length
    have : mk[0]'(by omega) ∈ uniq mk := uniq_mem.mpr (List.getElem_mem _)
    exact List.length_pos_of_mem this
  · intro r s hr hs
    have h1 : mk[r]? = some (mk.getD r 0) := by rw [List.getD_eq_getElem?_getD, List.getElem?_eq_getElem (by omega)]; rfl
    have h2 : mk[s]? = some (mk.getD s 0) := by rw [List.getD_eq_getElem?_getD, List.getElem?_eq_getElem (by omega)]; rfl
    rw [nums_eq h1 h2]
    constructor
    · intro e w hw
      rw [List.mem_singleton.mp hw]
      exact e
    · intro k
      exact k [] (List.mem_singleton.mpr rfl)
/-- the finer numbers -/
def finer (h : House) (mk cl : List Nat) (v : Word) : List Nat := nums ((List.range h.ways.length).map fun r => (cl.getD r 0, mk.getD (run h r v) 0))
theorem finer_eq {v : Word} (hc : cl.length = h.ways.length) {r s : Nat} (hr : r < h.ways.length) (hs : s < h.ways.length) :
    (finer h mk cl v)[r]? = (finer h mk cl v)[s]? ↔ cl[r]? = cl[s]? ∧ mk.getD (run h r v) 0 = mk.getD (run h s v) 0 := by
  unfold finer
  have e1 : ((List.range h.ways.length).map fun r => (cl.getD r 0, mk.getD (run h r v) 0))[r]? = some (cl.getD r 0, mk.getD (run h r v) 0) := by rw [List.getElem?_map, List.getElem?_range hr]; rfl
  have e2 : ((List.range h.ways.length).map fun r => (cl.getD r 0, mk.getD (run h r v) 0))[s]? = some (cl.getD s 0, mk.getD (run h s v) 0) := by rw [List.getElem?_map, List.getElem?_range hs]; rfl
  rw [nums_eq e1 e2, Prod.mk.injEq, List.getD_eq_getElem?_getD, List.getD_eq_getElem?_getD, List.getElem?_eq_getElem (hc ▸ hr : r < cl.length), List.getElem?_eq_getElem (hc ▸ hs : s < cl.length), Option.some.injEq]
  rfl
theorem finer_len {v : Word} : (finer h mk cl v).length = h.ways.length := by
  unfold finer
  rw [nums_len, List.length_map, List.length_range]
theorem finer_norm {v : Word} : ∃ d', Norm (finer h mk cl v) d' := ⟨_, nums_norm _⟩
theorem sorted_more (S : Sorted L h mk ws cl d) {v : Word} (hv : Lets L v) {d' : Nat} (hn : Norm (finer h mk cl v) d') (hlt : d < d') : Sorted L h mk (ws ++ [v]) (finer h mk cl v) d' := by
  refine ⟨List.mem_append_left _ S.w0, fun w hw => ?_, finer_len, hn, ?_, fun r s hr hs => ?_⟩
  · rcases List.mem_append.mp hw with q | q
    · exact S.wl w q
    · rw [List.mem_singleton.mp q]; exact hv
  · have := S.le
    rw [List.length_append, List.length_singleton]
    omega
  · rw [finer_eq S.cn hr hs, S.eq r s hr hs]
    constructor
    · intro ⟨k1, k2⟩ w hw
      rcases List.mem_append.mp hw with q | q
      · exact k1 w q
      · rw [List.mem_singleton.mp q]; exact k2
    · intro k
      exact ⟨fun w hw => k w (List.mem_append_left _ hw), k v (List.mem_append_right _ (List.mem_singleton.mpr rfl))⟩
theorem done_keep {w : Word} {a : Nat} {v : Word} (hc : cl.length = h.ways.length) (D : Done h mk cl w a) : Done h mk (finer h mk cl v) w a := fun r s hr hs e => D r s hr hs ((finer_eq hc hr hs).mp e).1
theorem done_now {w : Word} {a : Nat} (hc : cl.length = h.ways.length) : Done h mk (finer h mk cl (a :: w)) w a := fun r s hr hs e => ((finer_eq hc hr hs).mp e).2
theorem done_same (S : Sorted L h mk ws cl d) {w : Word} {a d' : Nat} (hn : Norm (finer h mk cl (a :: w)) d') (hle : d' ≤ d) : Done h mk cl w a := fun r s hr hs e => by
  have k := norm_func S.nm hn hle (by rw [finer_len, S.cn]) (fun i j hi hj q => by rw [finer_len] at hi hj; exact ((finer_eq S.cn hi hj).mp q).1) (i := r) (j := s) (by rw [finer_len]; exact hr) (by rw [finer_len]; exact hs) e
  exact ((finer_eq S.cn hr hs).mp k).2
/-- sorted out to the end: classes -/
theorem sorted_classes (O : Ok L h) (S : Sorted L h mk ws cl d) (hd : ∀ w ∈ ws, ∀ a, a < L → Done h mk cl w a)
    (hmk : ∀ r s, r < h.ways.length → s < h.ways.length → (mk.getD r 0 = mk.getD s 0 ↔ h.says.getD r [] = h.says.getD s [])) : Classes L h (fun r => cl.getD r 0) := by
  have conv : ∀ r s, r < h.ways.length → s < h.ways.length → (cl.getD r 0 = cl.getD s 0 ↔ cl[r]? = cl[s]?) := fun r s hr hs => by
    have := S.cn
    rw [List.getD_eq_getElem?_getD, List.getD_eq_getElem?_getD, List.getElem?_eq_getElem (by omega : r < cl.length), List.getElem?_eq_getElem (by omega : s < cl.length), Option.some.injEq]
    rfl
  refine ⟨fun r s hr hs e a ha => ?_, fun r s hr hs e a ha => ?_, fun r s hr hs e => ?_⟩
  · have k := (S.eq r s hr hs).mp ((conv r s hr hs).mp e) [] S.w0
    have k2 := (hmk r s hr hs).mp k
    unfold out
    rw [k2]
  · have k := (conv r s hr hs).mp e
    refine (conv _ _ (O.stp_lt hr ha) (O.stp_lt hs ha)).mpr ((S.eq _ _ (O.stp_lt hr ha) (O.stp_lt hs ha)).mpr fun w hw => ?_)
    exact hd w hw a ha r s hr hs k
  · have k : ¬ ∀ w ∈ ws, mk.getD (run h r w) 0 = mk.getD (run h s w) 0 := fun q => e ((conv r s hr hs).mpr ((S.eq r s hr hs).mpr q))
    obtain ⟨w, hw⟩ := Classical.not_forall.mp k
    obtain ⟨m, hw⟩ := Classical.not_imp.mp hw
    have wl := S.wl w m
    have h1 := O.run_lt w hr wl
    have h2 := O.run_lt w hs wl
    have k3 : h.says.getD (run h r w) [] ≠ h.says.getD (run h s w) [] := fun q => hw ((hmk _ _ h1 h2).mpr q)
    have l1 := O.sr _ (getD_mem (d := []) (by rw [O.sl]; exact h1))
    have l2 := O.sr _ (getD_mem (d := []) (by rw [O.sl]; exact h2))
    have k4 : ∃ a, a < L ∧ out h (run h r w) a ≠ out h (run h s w) a := by
      apply Classical.byContradiction
      intro n
      apply k3
      apply List.ext_getElem (by omega)
      intro i i1 i2
      have n1 : out h (run h r w) i = out h (run h s w) i := Classical.byContradiction fun q => n ⟨i, by omega, q⟩
      unfold out at n1
      rw [List.getD_eq_getElem?_getD, List.getD_eq_getElem?_getD (l := h.says.getD (run h s w) []), List.getElem?_eq_getElem i1, List.getElem?_eq_getElem i2] at n1
      exact n1
    obtain ⟨a, ha, k5⟩ := k4
    exact ⟨w ++ [a], wl.app (Lets.one ha), by simp, by rw [ans_snoc, ans_snoc]; exact k5⟩
end
end Gr
end
section
set_option maxHeartbeats 1000000
/-! The walk over pairs of rooms, and the walk over rooms that are reached. -/
namespace Gr
structure PInv (L : Nat) (g h : House) (cs : List (Nat × Nat)) (ws : List Word) (k j : Nat) : Prop where
  ln : ws.length = cs.length
  nd : cs.Nodup
  c0 : cs[0]? = some (0, 0)
  ok : ∀ (i : Nat) (c : Nat × Nat) (w : Word), cs[i]? = some c → ws[i]? = some w → Lets L w ∧ run g 0 w = c.1 ∧ run h 0 w = c.2 ∧ w.length ≤ i
  cl : ∀ (i : Nat) (c : Nat × Nat), i < k → cs[i]? = some c → ∀ a, a < L → (stp g c.1 a, stp h c.2 a) ∈ cs
  cj : ∀ (c : Nat × Nat), cs[k]? = some c → ∀ a, a < j → (stp g c.1 a, stp h c.2 a) ∈ cs
section
variable {L : Nat} {g h : House} {cs : List (Nat × Nat)} {ws : List Word} {k j : Nat}
theorem pinv_start : PInv L g h [(0, 0)] [[]] 0 0 := by
  refine ⟨rfl, by simp, rfl, fun i c w hc hw => ?_, fun i c hi => absurd hi (Nat.not_lt_zero i), fun c _ a ha => absurd ha (Nat.not_lt_zero a)⟩
  have hi := (List.getElem?_eq_some_iff.mp hc).1
  simp at hi
  subst hi
  have e1 : (0, 0) = c := by simpa using hc
  have e2 : [] = w := by simpa using hw
  subst e1 e2
  exact ⟨Lets.nil, rfl, rfl, Nat.le_refl _⟩
theorem PInv.rooms (I : PInv L g h cs ws k j) (G : Ok L g) (O : Ok L h) {i : Nat} {c : Nat × Nat} (hc : cs[i]? = some c) : c.1 < g.ways.length ∧ c.2 < h.ways.length := by
  have hi := (List.getElem?_eq_some_iff.mp hc).1
  have hi' : i < ws.length := by rw [I.ln]; exact hi
  obtain ⟨h1, h2, h3, _⟩ := I.ok i c ws[i] hc (List.getElem?_eq_getElem hi')
  rw [← h2, ← h3]
  exact ⟨G.run_lt _ G.pos h1, O.run_lt _ O.pos h1⟩
theorem PInv.len_le (I : PInv L g h cs ws k j) (G : Ok L g) (O : Ok L h) : cs.length ≤ g.ways.length * h.ways.length := by
  have s : cs ⊆ (List.range g.ways.length).flatMap fun r => (List.range h.ways.length).map fun s => (r, s) := fun c hc => by
    obtain ⟨i, hi⟩ := List.getElem?_of_mem hc
    obtain ⟨h1, h2⟩ := I.rooms G O hi
    exact List.mem_flatMap.mpr ⟨c.1, List.mem_range.mpr h1, List.mem_map.mpr ⟨c.2, List.mem_range.mpr h2, rfl⟩⟩
  have q := List.Nodup.length_le_of_subset I.nd s
  rw [flatMap_len _ h.ways.length _ fun x _ => by rw [List.length_map, List.length_range], List.length_range] at q
  exact q
theorem PInv.same (I : PInv L g h cs ws k j) {c : Nat × Nat} (hc : cs[k]? = some c) (hm : (stp g c.1 j, stp h c.2 j) ∈ cs) : PInv L g h cs ws k (j + 1) :=
  ⟨I.ln, I.nd, I.c0, I.ok, I.cl, fun c' hc' a ha => by
    rw [hc] at hc'
    cases hc'
    rcases Nat.lt_or_ge a j with q | q
    · exact I.cj c hc a q
    · have : a = j := by omega
      rw [this]
      exact hm⟩
theorem get_snoc {α : Type} {l : List α} {x y : α} {i : Nat} (h : (l ++ [x])[i]? = some y) : l[i]? = some y ∨ (i = l.length ∧ y = x) := by
  rcases Nat.lt_or_ge i l.length with q | q
  · rw [List.getElem?_append_left q] at h
    exact .inl h
  · rw [List.getElem?_append_right q] at h
    have := (List.getElem?_eq_some_iff.mp h).1
    simp at this
    have e : i = l.length := by omega
    rw [e, Nat.sub_self] at h
    exact .inr ⟨e, by simpa using h.symm⟩
theorem get_app {α : Type} {l m : List α} {y : α} {i : Nat} (h : l[i]? = some y) : (l ++ m)[i]? = some y := by
  rw [List.getElem?_append_left (List.getElem?_eq_some_iff.mp h).1]
  exact h
theorem PInv.add (I : PInv L g h cs ws k j) {c : Nat × Nat} {w : Word} (hj : j < L) (hc : cs[k]? = some c) (hw : ws[k]? = some w) (hm : (stp g c.1 j, stp h c.2 j) ∉ cs) :
    PInv L g h (cs ++ [(stp g c.1 j, stp h c.2 j)]) (ws ++ [w ++ [j]]) k (j + 1) := by
  obtain ⟨w1, w2, w3, w4⟩ := I.ok k c w hc hw
  have hk := (List.getElem?_eq_some_iff.mp hc).1
  refine ⟨by rw [List.length_append, List.length_append, I.ln]; rfl, ?_, get_app I.c0, ?_, ?_, ?_⟩
  · exact List.nodup_append.mpr ⟨I.nd, by simp, fun x hx y hy q => by
      rw [List.mem_singleton.mp hy] at q
      exact hm (q ▸ hx)⟩
  · intro i c' w' hc' hw'
    rcases get_snoc hc' with q | ⟨q1, q2⟩ <;> rcases get_snoc hw' with p | ⟨p1, p2⟩
    · exact I.ok i c' w' q p
    · have := (List.getElem?_eq_some_iff.mp q).1
      rw [I.ln] at p1
      omega
    · have := (List.getElem?_eq_some_iff.mp p).1
      rw [I.ln] at this
      omega
    · subst q2 p2
      refine ⟨w1.app (Lets.one hj), ?_, ?_, ?_⟩
      · rw [run_app, w2]; rfl
      · rw [run_app, w3]; rfl
      · rw [List.length_append, List.length_singleton]
        omega
  · intro i c' hi hc' a ha
    rcases get_snoc hc' with q | ⟨q1, q2⟩
    · exact List.mem_append_left _ (I.cl i c' hi q a ha)
    · omega
  · intro c' hc' a ha
    rcases get_snoc hc' with q | ⟨q1, q2⟩
    · rw [hc] at q
      cases q
      rcases Nat.lt_or_ge a j with z | z
      · exact List.mem_append_left _ (I.cj c hc a z)
      · have : a = j := by omega
        rw [this]
        exact List.mem_append_right _ (List.mem_singleton.mpr rfl)
    · omega
theorem PInv.next (I : PInv L g h cs ws k j) (hj : k < cs.length → j = L) : PInv L g h cs ws (k + 1) 0 :=
  ⟨I.ln, I.nd, I.c0, I.ok, fun i c hi hc a ha => by
    rcases Nat.lt_or_ge i k with q | q
    · exact I.cl i c q hc a ha
    · have e : i = k := by omega
      subst e
      exact I.cj c hc a (by rw [hj (List.getElem?_eq_some_iff.mp hc).1]; exact ha), fun c _ a ha => absurd ha (Nat.not_lt_zero a)⟩
/-- the spots: words with their pairs -/
def spots (cs : List (Nat × Nat)) (ws : List Word) : List (Word × Nat × Nat) := ws.zip cs
theorem spots_get (I : PInv L g h cs ws k j) {i : Nat} {p : Word × Nat × Nat} : (spots cs ws)[i]? = some p ↔ ws[i]? = some p.1 ∧ cs[i]? = some p.2 := by
  unfold spots
  rw [List.getElem?_zip_eq_some]
theorem spots_len (I : PInv L g h cs ws k j) : (spots cs ws).length = cs.length := by
  unfold spots
  rw [List.length_zip, I.ln, Nat.min_self]
theorem PInv.pairs (I : PInv L g h cs ws k j) (hk : cs.length ≤ k) : Pairs L g h (spots cs ws) := by
  have at_ : ∀ (i : Nat) (c : Nat × Nat), cs[i]? = some c → ∃ p ∈ spots cs ws, p.2 = c := fun i c hc => by
    have hi := (List.getElem?_eq_some_iff.mp hc).1
    have hi' : i < ws.length := by rw [I.ln]; exact hi
    have hw : ws[i]? = some ws[i] := List.getElem?_eq_getElem hi'
    exact ⟨(ws[i], c), List.mem_of_getElem? ((spots_get I).mpr ⟨hw, hc⟩), rfl⟩
  refine ⟨fun p hp => ?_, at_ 0 _ I.c0, fun p hp a ha => ?_⟩
  · obtain ⟨i, hi⟩ := List.getElem?_of_mem hp
    obtain ⟨h1, h2⟩ := (spots_get I).mp hi
    obtain ⟨k1, k2, k3, _⟩ := I.ok i _ _ h2 h1
    exact ⟨k1, k2, k3⟩
  · obtain ⟨i, hi⟩ := List.getElem?_of_mem hp
    obtain ⟨h1, h2⟩ := (spots_get I).mp hi
    have hil := (List.getElem?_eq_some_iff.mp h2).1
    have m := I.cl i _ (by omega) h2 a ha
    obtain ⟨i', hi'⟩ := List.getElem?_of_mem m
    exact at_ i' _ hi'
end
/-! ### rooms that are reached -/
structure RInv (L : Nat) (h : House) (rs : List Nat) (k j : Nat) : Prop where
  nd : rs.Nodup
  c0 : rs[0]? = some 0
  ok : ∀ r ∈ rs, ∃ w, Lets L w ∧ run h 0 w = r
  cl : ∀ (i r : Nat), i < k → rs[i]? = some r → ∀ a, a < L → stp h r a ∈ rs
  cj : ∀ (r : Nat), rs[k]? = some r → ∀ a, a < j → stp h r a ∈ rs
section
variable {L : Nat} {h : House} {rs : List Nat} {k j : Nat}
theorem rinv_start : RInv L h [0] 0 0 := by
  refine ⟨by simp, rfl, fun r hr => ⟨[], Lets.nil, (List.mem_singleton.mp hr).symm⟩, fun i r hi => absurd hi (Nat.not_lt_zero i), fun r _ a ha => absurd ha (Nat.not_lt_zero a)⟩
theorem RInv.lt (I : RInv L h rs k j) (O : Ok L h) : ∀ r ∈ rs, r < h.ways.length := fun r hr => by
  obtain ⟨w, hw, rfl⟩ := I.ok r hr
  exact O.run_lt _ O.pos hw
theorem RInv.len_le (I : RInv L h rs k j) (O : Ok L h) : rs.length ≤ h.ways.length := nd_le_range I.nd (I.lt O)
theorem RInv.same (I : RInv L h rs k j) {r : Nat} (hc : rs[k]? = some r) (hm : stp h r j ∈ rs) : RInv L h rs k (j + 1) :=
  ⟨I.nd, I.c0, I.ok, I.cl, fun r' hc' a ha => by
    rw [hc] at hc'
    cases hc'
    rcases Nat.lt_or_ge a j with q | q
    · exact I.cj r hc a q
    · have : a = j := by omega
      rw [this]
      exact hm⟩
theorem RInv.add (I : RInv L h rs k j) {r : Nat} (hj : j < L) (hc : rs[k]? = some r) (hm : stp h r j ∉ rs) : RInv L h (rs ++ [stp h r j]) k (j + 1) := by
  have hk := (List.getElem?_eq_some_iff.mp hc).1
  refine ⟨?_, get_app I.c0, ?_, ?_, ?_⟩
  · exact List.nodup_append.mpr ⟨I.nd, by simp, fun x hx y hy q => by
      rw [List.mem_singleton.mp hy] at q
      exact hm (q ▸ hx)⟩
  · intro x hx
    rcases List.mem_append.mp hx with q | q
    · exact I.ok x q
    · obtain ⟨w, hw, e⟩ := I.ok r (List.mem_of_getElem? hc)
      exact ⟨w ++ [j], hw.app (Lets.one hj), by rw [List.mem_singleton.mp q, run_app, e]; rfl⟩
  · intro i c' hi hc' a ha
    rcases get_snoc hc' with q | ⟨q1, q2⟩
    · exact List.mem_append_left _ (I.cl i c' hi q a ha)
    · omega
  · intro c' hc' a ha
    rcases get_snoc hc' with q | ⟨q1, q2⟩
    · rw [hc] at q
      cases q
      rcases Nat.lt_or_ge a j with z | z
      · exact List.mem_append_left _ (I.cj r hc a z)
      · have : a = j := by omega
        rw [this]
        exact List.mem_append_right _ (List.mem_singleton.mpr rfl)
    · omega
theorem RInv.next (I : RInv L h rs k j) (hj : j = L) : RInv L h rs (k + 1) 0 :=
  ⟨I.nd, I.c0, I.ok, fun i c hi hc a ha => by
    rcases Nat.lt_or_ge i k with q | q
    · exact I.cl i c q hc a ha
    · have e : i = k := by omega
      subst e
      exact I.cj c hc a (by rw [hj]; exact ha), fun c _ a ha => absurd ha (Nat.not_lt_zero a)⟩
theorem RInv.reached (I : RInv L h rs k j) (O : Ok L h) (hk : rs.length ≤ k) : Reached L h rs :=
  ⟨I.lt O, I.ok, List.mem_of_getElem? I.c0, fun r hr a ha => by
    obtain ⟨i, hi⟩ := List.getElem?_of_mem hr
    exact I.cl i r (by have := (List.getElem?_eq_some_iff.mp hi).1; omega) hi a ha⟩
end
end Gr
end
section
set_option maxHeartbeats 1000000
/-! The rooms that are reached, in the order of a walk. -/
namespace Gr
/-- a room's letters put behind, those below j -/
def put (g : House) (r j : Nat) (rs : List Nat) : List Nat := ((List.range j).map (stp g r)).foldl ins rs
def rch (L : Nat) (g : House) : Nat → List Nat
  | 0 => [0]
  | k + 1 => match (rch L g k)[k]? with
    | none => rch L g k
    | some r => put g r L (rch L g k)
theorem put_zero (g : House) (r : Nat) (rs : List Nat) : put g r 0 rs = rs := rfl
theorem put_succ (g : House) (r j : Nat) (rs : List Nat) : put g r (j + 1) rs = ins (put g r j rs) (stp g r j) := by
  unfold put
  rw [List.range_succ, List.map_append, List.foldl_append]
  rfl
theorem rch_some {L : Nat} {g : House} {k r : Nat} (h : (rch L g k)[k]? = some r) : rch L g (k + 1) = put g r L (rch L g k) := by
  show (match (rch L g k)[k]? with | none => _ | some r => _) = _
  rw [h]
theorem rch_none {L : Nat} {g : House} {k : Nat} (h : (rch L g k)[k]? = none) : rch L g (k + 1) = rch L g k := by
  show (match (rch L g k)[k]? with | none => _ | some r => _) = _
  rw [h]
theorem ins_get {κ : Type} [DecidableEq κ] {rs : List κ} {x y : κ} {i : Nat} (h : rs[i]? = some y) : (ins rs x)[i]? = some y := by
  unfold ins
  by_cases m : x ∈ rs
  · rw [if_pos m]; exact h
  · rw [if_neg m]; exact get_app h
theorem put_get {g : House} {r : Nat} {rs : List Nat} {i y : Nat} (h : rs[i]? = some y) : ∀ j, (put g r j rs)[i]? = some y
  | 0 => h
  | j + 1 => by
    rw [put_succ]
    exact ins_get (put_get h j)
theorem rinv_put {L : Nat} {g : House} {rs : List Nat} {k r : Nat} (I : RInv L g rs k 0) (hr : rs[k]? = some r) : ∀ j, j ≤ L → RInv L g (put g r j rs) k j
  | 0, _ => I
  | j + 1, hj => by
    have J := rinv_put I hr j (by omega)
    have hr' := put_get (g := g) (r := r) hr j
    rw [put_succ]
    unfold ins
    by_cases m : stp g r j ∈ put g r j rs
    · rw [if_pos m]
      exact J.same hr' m
    · rw [if_neg m]
      exact J.add (by omega) hr' m
theorem rinv_none {L : Nat} {g : House} {rs : List Nat} {k : Nat} (I : RInv L g rs k 0) (h : rs[k]? = none) : RInv L g rs (k + 1) 0 :=
  ⟨I.nd, I.c0, I.ok, fun i r hi hc a ha => by
    rcases Nat.lt_or_ge i k with q | q
    · exact I.cl i r q hc a ha
    · have e : i = k := by omega
      subst e
      rw [h] at hc
      exact absurd hc (by simp), fun c _ a ha => absurd ha (Nat.not_lt_zero a)⟩
theorem rch_inv (L : Nat) (g : House) : ∀ k, RInv L g (rch L g k) k 0
  | 0 => rinv_start
  | k + 1 => by
    have I := rch_inv L g k
    cases h : (rch L g k)[k]? with
    | none =>
      rw [rch_none h]
      exact rinv_none I h
    | some r =>
      rw [rch_some h]
      exact (rinv_put I h L (Nat.le_refl _)).next rfl
theorem rch_stay {L : Nat} {g : House} {k : Nat} (h : (rch L g k).length ≤ k) : ∀ j, rch L g (k + j) = rch L g k
  | 0 => rfl
  | j + 1 => by
    have e := rch_stay h j
    show rch L g ((k + j) + 1) = _
    rw [rch_none (by rw [e]; exact List.getElem?_eq_none (by omega)), e]
/-- the rooms that are reached -/
def rooms (L : Nat) (g : House) : List Nat := rch L g g.ways.length
theorem rch_end {L : Nat} {g : House} {k : Nat} (hk : k ≤ g.ways.length) (h : (rch L g k).length ≤ k) : rch L g k = rooms L g := by
  have e := rch_stay h (g.ways.length - k)
  rw [show k + (g.ways.length - k) = g.ways.length by omega] at e
  exact e.symm
theorem rooms_reached {L : Nat} {g : House} (O : Ok L g) : Reached L g (rooms L g) := (rch_inv L g g.ways.length).reached O ((rch_inv L g g.ways.length).len_le O)
theorem rooms_nd (L : Nat) (g : House) : (rooms L g).Nodup := (rch_inv L g g.ways.length).nd
/-- how many rooms the least house has -/
def NOf (L : Nat) (g : House) (n : Nat) : Prop := ∃ c : Nat → Nat, Classes L g c ∧ n = (uniq ((rooms L g).map c)).length
end Gr
end
section
set_option maxRecDepth 100000
set_option maxHeartbeats 4000000
/-! Data in the heap, and what expressions evaluate to. -/
namespace Gr
open PySem L2 PySem.Spec PyProof.Rows Evl
/-! ### data -/
mutual
inductive Im (H : Hp) : PyData → V → Prop
  | non : Im H .none .non
  | bl (b : Bool) : Im H (.bool b) (.bl b)
  | int (i : Int) : Im H (.int i) (.int i)
  | str (x : Str) : Im H (.str x) (.str x)
  | tup {a : Addr} {xs : List V} {ds : List PyData} : H a = some (.tup xs) → ImAll H ds xs → Im H (.tuple ds) (.ref a)
  | lst {a : Addr} {xs : List V} {ds : List PyData} : H a = some (.lst xs) → ImAll H ds xs → Im H (.list ds) (.ref a)
inductive ImAll (H : Hp) : List PyData → List V → Prop
  | nil : ImAll H [] []
  | cons {d : PyData} {v : V} {ds : List PyData} {vs : List V} : Im H d v → ImAll H ds vs → ImAll H (d :: ds) (v :: vs)
end
/-- tuples stay -/
def Kt (H H' : Hp) : Prop := ∀ a xs, H a = some (.tup xs) → H' a = some (.tup xs)
theorem Kt.refl (H : Hp) : Kt H H := fun _ _ h => h
theorem Kt.trans {H H1 H2 : Hp} (a : Kt H H1) (b : Kt H1 H2) : Kt H H2 := fun x o h => b x o (a x o h)
theorem ex_kt {H H' : Hp} (e : Ex H H') : Kt H H' := fun a xs h => e a _ h
theorem Kt.upd {H H' : Hp} {l : Addr} {o u : HO} (k : Kt H H') (h : H' l = some u) (n : ∀ xs, u ≠ .tup xs) : Kt H (upd H' l o) := fun a xs q => by
  have q' := k a xs q
  rw [upd_ne (ne_of q' h fun e => n xs e.symm)]
  exact q'
theorem Kt.new {H H' : Hp} {l : Addr} {o : HO} (k : Kt H H') (h : H' l = none) : Kt H (L2.upd H' l o) := fun a xs q => by
  have q' := k a xs q
  rw [upd_ne (ne_of_none q' h)]
  exact q'
/-! data without lists -/
mutual
def pt : PyData → Bool
  | .tuple ds => ptAll ds
  | .list _ => false
  | .dict _ => false
  | .bool _ => true
  | .none => true
  | .int _ => true
  | .str _ => true
def ptAll : List PyData → Bool
  | [] => true
  | d :: ds => pt d && ptAll ds
end
theorem ptAll_of : ∀ {ds : List PyData}, (∀ d ∈ ds, pt d = true) → ptAll ds = true
  | [], _ => by simp only [ptAll]
  | d :: ds, h => by
    simp only [ptAll, Bool.and_eq_true]
    exact ⟨h d List.mem_cons_self, ptAll_of fun x hx => h x (List.mem_cons_of_mem _ hx)⟩
theorem pt_mem : ∀ {ds : List PyData}, ptAll ds = true → ∀ d ∈ ds, pt d = true
  | [], _, _, h => nomatch h
  | d :: ds, h, x, hx => by
    simp only [ptAll, Bool.and_eq_true] at h
    rcases List.mem_cons.mp hx with e | e
    · rw [e]; exact h.1
    · exact pt_mem h.2 x e
section
variable {H H' : Hp}
mutual
theorem im_kt (k : Kt H H') : ∀ (d : PyData) (v : V), pt d = true → Im H d v → Im H' d v
  | .none, _, _, h => by cases h; exact .non
  | .bool b, _, _, h => by cases h; exact .bl b
  | .int i, _, _, h => by cases h; exact .int i
  | .str x, _, _, h => by cases h; exact .str x
  | .list ds, _, p, _ => by simp only [pt] at p; cases p
  | .dict ds, _, p, _ => by simp only [pt] at p; cases p
  | .tuple ds, _, p, h => by
    simp only [pt] at p
    cases h with
    | tup h1 h2 => exact .tup (k _ _ h1) (imAll_kt k ds _ p h2)
theorem imAll_kt (k : Kt H H') : ∀ (ds : List PyData) (vs : List V), ptAll ds = true → ImAll H ds vs → ImAll H' ds vs
  | [], _, _, h => by cases h; exact .nil
  | d :: ds, _, p, h => by
    simp only [ptAll, Bool.and_eq_true] at p
    cases h with
    | cons h1 h2 => exact .cons (im_kt k d _ p.1 h1) (imAll_kt k ds _ p.2 h2)
end
mutual
theorem im_ex (e : Ex H H') : ∀ (d : PyData) (v : V), Im H d v → Im H' d v
  | .none, _, h => by cases h; exact .non
  | .bool b, _, h => by cases h; exact .bl b
  | .int i, _, h => by cases h; exact .int i
  | .str x, _, h => by cases h; exact .str x
  | .dict ds, _, h => by cases h
  | .list ds, _, h => by
    cases h with
    | lst h1 h2 => exact .lst (e _ _ h1) (imAll_ex e ds _ h2)
  | .tuple ds, _, h => by
    cases h with
    | tup h1 h2 => exact .tup (e _ _ h1) (imAll_ex e ds _ h2)
theorem imAll_ex (e : Ex H H') : ∀ (ds : List PyData) (vs : List V), ImAll H ds vs → ImAll H' ds vs
  | [], _, h => by cases h; exact .nil
  | d :: ds, _, h => by
    cases h with
    | cons h1 h2 => exact .cons (im_ex e d _ h1) (imAll_ex e ds _ h2)
end
mutual
theorem im_dp {K : PySem.W.Frag} : ∀ (d : PyData) (v : V), Im H d v → Dp K H v d
  | .none, _, h => by cases h; exact .non
  | .bool b, _, h => by cases h; exact .bl b
  | .int i, _, h => by cases h; exact .int i
  | .str x, _, h => by cases h; exact .str x
  | .dict ds, _, h => by cases h
  | .list ds, _, h => by
    cases h with
    | lst h1 h2 => exact .lst (sq_of h1) (imAll_dp ds _ h2)
  | .tuple ds, _, h => by
    cases h with
    | tup h1 h2 => exact .tup (st_of h1) (imAll_dp ds _ h2)
theorem imAll_dp {K : PySem.W.Frag} : ∀ (ds : List PyData) (vs : List V), ImAll H ds vs → DpAll K H vs ds
  | [], _, h => by cases h; exact .nil
  | d :: ds, _, h => by
    cases h with
    | cons h1 h2 => exact .cons (im_dp d _ h1) (imAll_dp ds _ h2)
end
theorem Im.kt {d : PyData} {v : V} (h : Im H d v) (k : Kt H H') (p : pt d = true) : Im H' d v := im_kt k d v p h
theorem Im.ex {d : PyData} {v : V} (h : Im H d v) (e : Ex H H') : Im H' d v := im_ex e d v h
theorem ImAll.ex {ds : List PyData} {vs : List V} (h : ImAll H ds vs) (e : Ex H H') : ImAll H' ds vs := imAll_ex e ds vs h
theorem ImAll.kt {ds : List PyData} {vs : List V} (h : ImAll H ds vs) (k : Kt H H') (p : ptAll ds = true) : ImAll H' ds vs := imAll_kt k ds vs p h
theorem ImAll.len : ∀ {ds : List PyData} {vs : List V}, ImAll H ds vs → vs.length = ds.length
  | _, _, .nil => rfl
  | _, _, .cons _ t => by rw [List.length_cons, List.length_cons, ImAll.len t]
theorem ImAll.get : ∀ {ds : List PyData} {vs : List V} {i : Nat} {d : PyData}, ImAll H ds vs → ds[i]? = some d → ∃ v, vs[i]? = some v ∧ Im H d v
  | _, _, _, _, .nil, e => by simp at e
  | _, _, 0, _, .cons r _, e => ⟨_, rfl, by simp at e; subst e; exact r⟩
  | _, _, i + 1, _, .cons _ t, e => by
    obtain ⟨v, h1, h2⟩ := ImAll.get (i := i) t (by simpa using e)
    exact ⟨v, by simpa using h1, h2⟩
theorem ImAll.got : ∀ {ds : List PyData} {vs : List V} {i : Nat} {v : V}, ImAll H ds vs → vs[i]? = some v → ∃ d, ds[i]? = some d ∧ Im H d v
  | _, _, _, _, .nil, e => by simp at e
  | _, _, 0, _, .cons r _, e => ⟨_, rfl, by simp at e; subst e; exact r⟩
  | _, _, i + 1, _, .cons _ t, e => by
    obtain ⟨v, h1, h2⟩ := ImAll.got (i := i) t (by simpa using e)
    exact ⟨v, by simpa using h1, h2⟩
theorem ImAll.app : ∀ {ds es : List PyData} {vs us : List V}, ImAll H ds vs → ImAll H es us → ImAll H (ds ++ es) (vs ++ us)
  | _, _, _, _, .nil, s => s
  | _, _, _, _, .cons r t, s => .cons r (ImAll.app t s)
theorem ImAll.one {d : PyData} {v : V} (h : Im H d v) : ImAll H [d] [v] := .cons h .nil
theorem ImAll.take : ∀ {ds : List PyData} {vs : List V} (n : Nat), ImAll H ds vs → ImAll H (ds.take n) (vs.take n)
  | _, _, 0, _ => .nil
  | _, _, _ + 1, .nil => .nil
  | _, _, n + 1, .cons r t => .cons r (ImAll.take n t)
theorem ImAll.drop : ∀ {ds : List PyData} {vs : List V} (n : Nat), ImAll H ds vs → ImAll H (ds.drop n) (vs.drop n)
  | _, _, 0, r => r
  | _, _, _ + 1, .nil => .nil
  | _, _, n + 1, .cons _ t => ImAll.drop n t
theorem imAll_int : ∀ (ns : List Int), ImAll H (ns.map .int) (ns.map V.int)
  | [] => .nil
  | n :: ns => .cons (.int n) (imAll_int ns)
theorem imAll_intv : ∀ {ns : List Int} {vs : List V}, ImAll H (ns.map .int) vs → vs = ns.map V.int
  | [], _, h => by cases h; rfl
  | n :: ns, _, h => by
    cases h with
    | cons h1 h2 =>
      cases h1
      rw [imAll_intv h2, List.map_cons]
end
theorem im_int {H : Hp} {i : Int} {v : V} (h : Im H (.int i) v) : v = .int i := by cases h; rfl
theorem im_str {H : Hp} {x : Str} {v : V} (h : Im H (.str x) v) : v = .str x := by cases h; rfl
theorem im_non {H : Hp} {v : V} (h : Im H .none v) : v = .non := by cases h; rfl
theorem im_bl {H : Hp} {b : Bool} {v : V} (h : Im H (.bool b) v) : v = .bl b := by cases h; rfl
theorem im_tup {H : Hp} {ds : List PyData} {v : V} (h : Im H (.tuple ds) v) : ∃ a xs, v = .ref a ∧ H a = some (.tup xs) ∧ ImAll H ds xs := by
  cases h with
  | tup h1 h2 => exact ⟨_, _, rfl, h1, h2⟩
theorem im_lst {H : Hp} {ds : List PyData} {v : V} (h : Im H (.list ds) v) : ∃ a xs, v = .ref a ∧ H a = some (.lst xs) ∧ ImAll H ds xs := by
  cases h with
  | lst h1 h2 => exact ⟨_, _, rfl, h1, h2⟩
/-! ### encodings -/
abbrev nD (n : Nat) : PyData := .int (n : Int)
abbrev wD (w : Word) : PyData := .tuple (w.map nD)
abbrev iD (ms : List Int) : PyData := .tuple (ms.map .int)
abbrev lD (ms : List Int) : PyData := .list (ms.map .int)
abbrev wsD (ws : List Word) : List PyData := ws.map wD
abbrev hD (L : Nat) (g : House) : PyData := .tuple [nD L, .tuple (g.says.map iD), .tuple (g.ways.map wD)]
theorem ptAll_int (ns : List Int) : ptAll (ns.map .int) = true := ptAll_of fun d h => by
  obtain ⟨n, _, rfl⟩ := List.mem_map.mp h
  simp only [pt]
theorem ptAll_nat (ns : List Nat) : ptAll (ns.map nD) = true := ptAll_of fun d h => by
  obtain ⟨n, _, rfl⟩ := List.mem_map.mp h
  simp only [pt]
theorem pt_wD (w : Word) : pt (wD w) = true := by simp only [pt]; exact ptAll_nat w
theorem pt_iD (w : List Int) : pt (iD w) = true := by simp only [pt]; exact ptAll_int w
theorem ptAll_ws (ws : List Word) : ptAll (wsD ws) = true := ptAll_of fun d h => by
  obtain ⟨n, _, rfl⟩ := List.mem_map.mp h
  exact pt_wD n
theorem ptAll_is (ws : List (List Int)) : ptAll (ws.map iD) = true := ptAll_of fun d h => by
  obtain ⟨n, _, rfl⟩ := List.mem_map.mp h
  exact pt_iD n
theorem pt_hD (L : Nat) (g : House) : pt (hD L g) = true := by
  simp only [pt, ptAll, Bool.true_and, Bool.and_true, Bool.and_eq_true]
  exact ⟨ptAll_is g.says, ptAll_ws g.ways⟩
abbrev wV (w : Word) : List V := w.map fun (n : Nat) => V.int (n : Int)
abbrev wK (w : Word) : List Key := w.map fun (n : Nat) => Sum.inl (n : Int)
theorem wK_wV (w : Word) : (wK w).map kV = wV w := by
  show List.map kV (List.map _ w) = List.map _ w
  rw [List.map_map]
  rfl
theorem imAll_nat {H : Hp} : ∀ {w : Word} {vs : List V}, ImAll H (w.map nD) vs → vs = wV w
  | [], _, h => by cases h; rfl
  | n :: ns, _, h => by
    cases h with
    | cons h1 h2 =>
      cases h1
      rw [imAll_nat h2]
      rfl
theorem imAll_wV {H : Hp} : ∀ (w : Word), ImAll H (w.map nD) (wV w)
  | [] => .nil
  | n :: ns => .cons (.int _) (imAll_wV ns)
theorem im_word {H : Hp} {w : Word} {v : V} (h : Im H (wD w) v) : ∃ a, v = .ref a ∧ H a = some (.tup (wV w)) := by
  obtain ⟨a, xs, rfl, h1, h2⟩ := im_tup h
  rw [imAll_nat h2] at h1
  exact ⟨a, rfl, h1⟩
theorem word_im {H : Hp} {w : Word} {a : Addr} (h : H a = some (.tup (wV w))) : Im H (wD w) (.ref a) := .tup h (imAll_wV w)
/-! ### equality of data -/
mutual
def pl : PyData → Bool
  | .tuple ds => plAll ds
  | .list ds => plAll ds
  | .dict _ => false
  | .bool _ => false
  | .none => true
  | .int _ => true
  | .str _ => true
def plAll : List PyData → Bool
  | [] => true
  | d :: ds => pl d && plAll ds
end
theorem plAll_of : ∀ {ds : List PyData}, (∀ d ∈ ds, pl d = true) → plAll ds = true
  | [], _ => by simp only [plAll]
  | d :: ds, h => by
    simp only [plAll, Bool.and_eq_true]
    exact ⟨h d List.mem_cons_self, plAll_of fun x hx => h x (List.mem_cons_of_mem _ hx)⟩
mutual
theorem eqv_iff : ∀ (d e : PyData), pl d = true → pl e = true → (PyData.eqv d e = true ↔ d = e)
  | .none, e, _, h2 => by cases e <;> simp_all [PyData.eqv, pl]
  | .bool _, _, h, _ => by simp only [pl] at h; cases h
  | .dict _, _, h, _ => by simp only [pl] at h; cases h
  | .int i, e, _, h2 => by cases e <;> simp_all [PyData.eqv, pl]
  | .str i, e, _, h2 => by cases e <;> simp_all [PyData.eqv, pl]
  | .list xs, e, h, h2 => by
    cases e with
    | list ys =>
      simp only [pl] at h h2
      rw [PyData.eqv, eqvAll_iff xs ys h h2, PyData.list.injEq]
    | _ => simp [PyData.eqv]
  | .tuple xs, e, h, h2 => by
    cases e with
    | tuple ys =>
      simp only [pl] at h h2
      rw [PyData.eqv, eqvAll_iff xs ys h h2, PyData.tuple.injEq]
    | _ => simp [PyData.eqv]
theorem eqvAll_iff : ∀ (ds es : List PyData), plAll ds = true → plAll es = true → (PyData.eqvAll ds es = true ↔ ds = es)
  | [], [], _, _ => by simp [PyData.eqvAll]
  | [], _ :: _, _, _ => by simp [PyData.eqvAll]
  | _ :: _, [], _, _ => by simp [PyData.eqvAll]
  | d :: ds, e :: es, h, h2 => by
    simp only [plAll, Bool.and_eq_true] at h h2
    rw [PyData.eqvAll, Bool.and_eq_true, eqv_iff d e h.1 h2.1, eqvAll_iff ds es h.2 h2.2, List.cons.injEq]
end
theorem eqv_dec {p : Prop} [Decidable p] {d e : PyData} (h1 : pl d = true) (h2 : pl e = true) (h : d = e ↔ p) : PyData.eqv d e = decide p := by
  rw [Bool.eq_iff_iff, eqv_iff d e h1 h2, h, decide_eq_true_iff]
theorem plAll_nat (ns : List Nat) : plAll (ns.map nD) = true := plAll_of fun d h => by
  obtain ⟨n, _, rfl⟩ := List.mem_map.mp h
  simp only [pl]
theorem plAll_int (ns : List Int) : plAll (ns.map .int) = true := plAll_of fun d h => by
  obtain ⟨n, _, rfl⟩ := List.mem_map.mp h
  simp only [pl]
theorem pl_wD (w : Word) : pl (wD w) = true := by simp only [pl]; exact plAll_nat w
theorem pl_iD (w : List Int) : pl (iD w) = true := by simp only [pl]; exact plAll_int w
theorem pl_lD (w : List Int) : pl (lD w) = true := by simp only [pl]; exact plAll_int w
theorem plAll_ws (ws : List Word) : plAll (wsD ws) = true := plAll_of fun d h => by
  obtain ⟨n, _, rfl⟩ := List.mem_map.mp h
  exact pl_wD n
theorem pl_hD (L : Nat) (g : House) : pl (hD L g) = true := by
  simp only [pl, plAll, Bool.true_and, Bool.and_true, Bool.and_eq_true]
  exact ⟨plAll_of fun d h => by obtain ⟨n, _, rfl⟩ := List.mem_map.mp h; exact pl_iD n, plAll_ws g.ways⟩
theorem map_inj {α β : Type} {f : α → β} (hf : ∀ x y, f x = f y → x = y) : ∀ {xs ys : List α}, xs.map f = ys.map f ↔ xs = ys
  | [], [] => by simp
  | [], _ :: _ => by simp
  | _ :: _, [] => by simp
  | x :: xs, y :: ys => by
    rw [List.map_cons, List.map_cons, List.cons.injEq, map_inj hf, List.cons.injEq]
    exact ⟨fun h => ⟨hf _ _ h.1, h.2⟩, fun h => ⟨congrArg f h.1, h.2⟩⟩
theorem nD_inj (x y : Nat) (h : nD x = nD y) : x = y := by
  have := PyData.int.inj h
  omega
theorem wD_inj {x y : Word} : wD x = wD y ↔ x = y := by rw [PyData.tuple.injEq, map_inj nD_inj]
theorem lD_inj {x y : List Int} : lD x = lD y ↔ x = y := by rw [PyData.list.injEq, map_inj fun _ _ h => PyData.int.inj h]
theorem iD_inj {x y : List Int} : iD x = iD y ↔ x = y := by rw [PyData.tuple.injEq, map_inj fun _ _ h => PyData.int.inj h]
theorem wsD_inj {x y : List Word} : wsD x = wsD y ↔ x = y := map_inj fun _ _ h => wD_inj.mp h
/-! ### shapes -/
def Sh (n : Nat) (d : PyData) : Prop := d.canLay0 = true ∧ d.depth ≤ n
theorem sh_all {n : Nat} : ∀ {ds : List PyData}, (∀ d ∈ ds, Sh n d) → PyData.canLayAll0 ds = true ∧ PyData.depthAll ds ≤ n
  | [], _ => by simp [PyData.canLayAll0, PyData.depthAll]
  | d :: ds, h => by
    obtain ⟨h1, h2⟩ := sh_all fun x hx => h x (List.mem_cons_of_mem _ hx)
    obtain ⟨h3, h4⟩ := h d List.mem_cons_self
    simp only [PyData.canLayAll0, PyData.depthAll, h1, h3, Bool.and_self, true_and]
    omega
theorem Sh.tup {n : Nat} {ds : List PyData} (h : ∀ d ∈ ds, Sh n d) : Sh (n + 1) (.tuple ds) := by
  obtain ⟨h1, h2⟩ := sh_all h
  exact ⟨by simp only [PyData.canLay0]; exact h1, by simp only [PyData.depth]; omega⟩
theorem Sh.lst {n : Nat} {ds : List PyData} (h : ∀ d ∈ ds, Sh n d) : Sh (n + 1) (.list ds) := by
  obtain ⟨h1, h2⟩ := sh_all h
  exact ⟨by simp only [PyData.canLay0]; exact h1, by simp only [PyData.depth]; omega⟩
theorem Sh.int {n : Nat} (i : Int) : Sh n (.int i) := ⟨by simp only [PyData.canLay0], by simp only [PyData.depth]; omega⟩
theorem Sh.non {n : Nat} : Sh n .none := ⟨by simp only [PyData.canLay0], by simp only [PyData.depth]; omega⟩
theorem Sh.mono {n m : Nat} {d : PyData} (h : Sh n d) (k : n ≤ m) : Sh m d := ⟨h.1, Nat.le_trans h.2 k⟩
theorem Sh.ok {n : Nat} {d : PyData} (h : Sh n d) (k : n ≤ 64) : SeqAt.shaped d = true := by
  show (d.canLay0 && decide (d.depth ≤ 64)) = true
  rw [Bool.and_eq_true]
  exact ⟨h.1, decide_eq_true (Nat.le_trans h.2 k)⟩
theorem sh_map {α : Type} {n : Nat} {f : α → PyData} (h : ∀ x, Sh n (f x)) {l : List α} : ∀ d ∈ l.map f, Sh n d := fun d m => by
  obtain ⟨x, _, rfl⟩ := List.mem_map.mp m
  exact h x
theorem sh_wD (w : Word) : Sh 1 (wD w) := Sh.tup (sh_map fun _ => Sh.int _)
theorem sh_iD (w : List Int) : Sh 1 (iD w) := Sh.tup (sh_map fun _ => Sh.int _)
theorem sh_lD (w : List Int) : Sh 1 (lD w) := Sh.lst (sh_map fun _ => Sh.int _)
theorem sh_ws (ws : List Word) : Sh 2 (.list (wsD ws)) := Sh.lst (sh_map fun w => sh_wD w)
theorem sh_hD (L : Nat) (g : House) : Sh 3 (hD L g) := Sh.tup fun d h => by
  simp only [List.mem_cons, List.not_mem_nil, or_false] at h
  rcases h with rfl | rfl | rfl
  · exact Sh.int _
  · exact Sh.tup (sh_map fun w => sh_iD w)
  · exact Sh.tup (sh_map fun w => sh_wD w)
end Gr
end
section
set_option maxRecDepth 100000
set_option maxHeartbeats 4000000
/-! What expressions evaluate to, by data; statements and loops over it. -/
namespace Gr
open PySem L2 PySem.Spec PyProof.Rows Evl
abbrev VP := V → Hp → Prop
/-- te gives some v with P, all that stood stands -/
def EvP (te : TE) (σ : L2.St) (H : Hp) (P : VP) : Prop := ∀ H1, Ex H H1 → ∀ Q : VK, (∀ v H2, Ex H1 H2 → P v H2 → Q v H2) → te σ H1 Q
def Mo (P : VP) : Prop := ∀ v H H', Ex H H' → P v H → P v H'
abbrev isD (d : PyData) : VP := fun v H => Im H d v
abbrev isV (x : V) : VP := fun v _ => v = x
theorem mo_D (d : PyData) : Mo (isD d) := fun _ _ _ e h => h.ex e
theorem mo_V (x : V) : Mo (isV x) := fun _ _ _ _ h => h
/-- a new list -/
def EvF (te : TE) (σ : L2.St) (H : Hp) (ds : List PyData) : Prop := ∀ H1, Ex H H1 → ∀ Q : VK, (∀ p H2 xs, H1 p = none → Ex H1 H2 → H2 p = some (.lst xs) → ImAll H2 ds xs → Q (.ref p) H2) → te σ H1 Q
def Args : List VP → List V → Hp → Prop
  | [], vs, _ => vs = []
  | P :: Ps, vs, H => ∃ v r, vs = v :: r ∧ P v H ∧ Args Ps r H
theorem Args.len : ∀ {Ps : List VP} {vs : List V} {H : Hp}, Args Ps vs H → vs.length = Ps.length
  | [], _, _, h => by
    have h : _ = [] := h
    rw [h]
    all_goals rfl
  | P :: Ps, _, _, ⟨v, r, e, _, h⟩ => by rw [e, List.length_cons, List.length_cons, Args.len h]
def EvPA (ta : TA) (σ : L2.St) (H : Hp) (Ps : List VP) : Prop := ∀ H1, Ex H H1 → ∀ Q : List V → Hp → Prop, (∀ vs H2, Ex H1 H2 → Args Ps vs H2 → Q vs H2) → ta σ H1 Q
/-! ### promises -/
/-- a def that changes nothing: what it is handed, what it hands back -/
def PurSp {α : Type} (cond : α → Prop) (ps : α → List VP) (post : α → VP) : Sp := fun vs H Q _ => ∃ x : α, cond x ∧ Args (ps x) vs H ∧ ∀ v H', Ex H H' → post x v H' → Q v H'
/-- .. that hands back a new list -/
def LstSp {α : Type} (cond : α → Prop) (ps : α → List VP) (ds : α → List PyData) : Sp := fun vs H Q _ => ∃ x : α, cond x ∧ Args (ps x) vs H ∧
  ∀ p H' xs, H p = none → Ex H H' → H' p = some (.lst xs) → ImAll H' (ds x) xs → Q (.ref p) H'
section
variable {K : PySem.W.Frag} {σ : L2.St} {H H' : Hp} {ta tb te tl : TE} {t u : TT} {P P' R : VP} {d d' : PyData}
theorem EvP.mono (h : EvP te σ H P) (e : Ex H H') : EvP te σ H' P := fun H1 a Q q => h H1 (e.trans a) Q q
theorem EvF.mono {ds : List PyData} (h : EvF te σ H ds) (e : Ex H H') : EvF te σ H' ds := fun H1 a Q q => h H1 (e.trans a) Q q
theorem EvPA.mono {tr : TA} {Ps : List VP} (h : EvPA tr σ H Ps) (e : Ex H H') : EvPA tr σ H' Ps := fun H1 a Q q => h H1 (e.trans a) Q q
theorem EvP.imp (h : EvP te σ H P) (k : ∀ v H1, Ex H H1 → P v H1 → R v H1) : EvP te σ H R := fun H1 e Q q => h H1 e Q fun v H2 e2 p => q v H2 e2 (k v H2 (e.trans e2) p)
theorem EvF.toL {ds : List PyData} (h : EvF te σ H ds) : EvP te σ H (isD (.list ds)) := fun H1 e Q q => h H1 e Q fun p H2 xs _ e2 h2 h3 => q _ H2 e2 (.lst h2 h3)
theorem e_var {i : Nat} {v : V} (h : σ[i]? = some (some v)) (p : P v H) (m : Mo P) : EvP (tVar i) σ H P := fun H1 e _ q => ⟨v, h, q v H1 (Ex.refl H1) (m _ _ _ e p)⟩
theorem d_var {i : Nat} {v : V} (h : σ[i]? = some (some v)) (p : Im H d v) : EvP (tVar i) σ H (isD d) := e_var h p (mo_D d)
theorem v_var {i : Nat} {v : V} (h : σ[i]? = some (some v)) : EvP (tVar i) σ H (isV v) := e_var h rfl (mo_V v)
theorem d_c {v : V} (h : ∀ H1, Im H1 d v) : EvP (tC v) σ H (isD d) := fun H1 _ _ q => q v H1 (Ex.refl H1) (h H1)
theorem d_int {i : Int} : EvP (tC (.int i)) σ H (isD (.int i)) := d_c fun _ => .int i
theorem d_nat {n : Nat} {i : Int} (h : i = (n : Int)) : EvP (tC (.int i)) σ H (isD (nD n)) := d_c fun _ => by rw [h]; exact .int _
theorem d_str {x : Str} : EvP (tC (.str x)) σ H (isD (.str x)) := d_c fun _ => .str x
theorem d_non : EvP (tC .non) σ H (isD .none) := d_c fun _ => .non
theorem d_bl {b : Bool} : EvP (tC (.bl b)) σ H (isD (.bool b)) := d_c fun _ => .bl b
theorem EvP.int {i : Int} (h : EvP te σ H (isD (.int i))) : EvP te σ H (isV (.int i)) := h.imp fun _ _ _ p => im_int p
theorem EvP.toD {i : Int} (h : EvP te σ H (isV (.int i))) : EvP te σ H (isD (.int i)) := h.imp fun _ _ _ p => by rw [p]; exact .int i
theorem EvP.eq {i j : Int} (h : EvP te σ H (isD (.int i))) (e : i = j) : EvP te σ H (isD (.int j)) := by rw [← e]; exact h
theorem EvP.bl {b c : Bool} (h : EvP te σ H (isD (.bool b))) (e : b = c) : EvP te σ H (isD (.bool c)) := by rw [← e]; exact h
theorem e_op {r : R2} (ha : EvP ta σ H P) (hb : EvP tb σ H P') (mo : Mo P) (hr : ∀ x y H1, Ex H H1 → P x H1 → P' y H1 → ∀ Q : VK, (∀ v H2, Ex H1 H2 → R v H2 → Q v H2) → r x y H1 Q) : EvP (tOp r ta tb) σ H R := fun H1 e Q q =>
  ha H1 e _ fun x H2 e2 px => hb H2 (e.trans e2) _ fun y H3 e3 py => hr x y H3 ((e.trans e2).trans e3) (mo _ _ _ e3 px) py Q fun v H4 e4 pv => q v H4 ((e2.trans e3).trans e4) pv
/-! ints -/
theorem d_I0 {g : Int → Int → V} {i j : Int} (ha : EvP ta σ H (isD (.int i))) (hb : EvP tb σ H (isD (.int j))) (hd : ∀ H1, Im H1 d (g i j)) : EvP (tOp (rI0 g) ta tb) σ H (isD d) :=
  e_op ha hb (mo_D _) fun x y H1 _ px py Q q => ⟨i, j, im_int px, im_int py, q _ H1 (Ex.refl H1) (hd H1)⟩
theorem d_I {C : Int → Int → Prop} {g : Int → Int → V} {i j : Int} (ha : EvP ta σ H (isD (.int i))) (hb : EvP tb σ H (isD (.int j))) (hc : C i j) (hd : ∀ H1, Im H1 d (g i j)) : EvP (tOp (rI C g) ta tb) σ H (isD d) :=
  e_op ha hb (mo_D _) fun x y H1 _ px py Q q => ⟨i, j, im_int px, im_int py, hc, q _ H1 (Ex.refl H1) (hd H1)⟩
theorem d_add {i j : Int} (ha : EvP ta σ H (isD (.int i))) (hb : EvP tb σ H (isD (.int j))) : EvP (tOp (rI0 fun i j => .int (i + j)) ta tb) σ H (isD (.int (i + j))) := d_I0 ha hb fun _ => .int _
theorem d_sub {i j : Int} (ha : EvP ta σ H (isD (.int i))) (hb : EvP tb σ H (isD (.int j))) : EvP (tOp (rI0 fun i j => .int (i - j)) ta tb) σ H (isD (.int (i - j))) := d_I0 ha hb fun _ => .int _
theorem d_mul {i j : Int} (ha : EvP ta σ H (isD (.int i))) (hb : EvP tb σ H (isD (.int j))) (hc : CMul i j) : EvP (tOp (rI CMul fun i j => .int (i * j)) ta tb) σ H (isD (.int (i * j))) := d_I ha hb hc fun _ => .int _
theorem d_fdiv {i j : Int} (ha : EvP ta σ H (isD (.int i))) (hb : EvP tb σ H (isD (.int j))) (hc : CDiv i j) : EvP (tOp (rI CDiv fun i j => .int (i / j)) ta tb) σ H (isD (.int (i / j))) := d_I ha hb hc fun _ => .int _
theorem d_mod {i j : Int} (ha : EvP ta σ H (isD (.int i))) (hb : EvP tb σ H (isD (.int j))) (hc : 0 < j) : EvP (tOp (rI (fun _ j => 0 < j) fun i j => .int (i % j)) ta tb) σ H (isD (.int (i % j))) := d_I ha hb hc fun _ => .int _
theorem d_lt {i j : Int} (ha : EvP ta σ H (isD (.int i))) (hb : EvP tb σ H (isD (.int j))) : EvP (tOp (rI0 fun i j => .bl (decide (i < j))) ta tb) σ H (isD (.bool (decide (i < j)))) := d_I0 ha hb fun _ => .bl _
theorem d_le {i j : Int} (ha : EvP ta σ H (isD (.int i))) (hb : EvP tb σ H (isD (.int j))) : EvP (tOp (rI0 fun i j => .bl (decide (i ≤ j))) ta tb) σ H (isD (.bool (decide (i ≤ j)))) := d_I0 ha hb fun _ => .bl _
theorem d_gt {i j : Int} (ha : EvP ta σ H (isD (.int i))) (hb : EvP tb σ H (isD (.int j))) : EvP (tOp (rI0 fun i j => .bl (decide (j < i))) ta tb) σ H (isD (.bool (decide (j < i)))) := d_I0 ha hb fun _ => .bl _
theorem d_ge {i j : Int} (ha : EvP ta σ H (isD (.int i))) (hb : EvP tb σ H (isD (.int j))) : EvP (tOp (rI0 fun i j => .bl (decide (j ≤ i))) ta tb) σ H (isD (.bool (decide (j ≤ i)))) := d_I0 ha hb fun _ => .bl _
theorem d_eqI {i j : Int} (ha : EvP ta σ H (isD (.int i))) (hb : EvP tb σ H (isD (.int j))) : EvP (tOp rEq ta tb) σ H (isD (.bool (decide (i = j)))) :=
  e_op ha hb (mo_D _) fun x y H1 _ px py Q q => by
    rw [im_int px, im_int py]
    refine ⟨rfl, q _ H1 (Ex.refl H1) ?_⟩
    rw [show decide (V.int i = V.int j) = decide (i = j) from decide_eq_decide.mpr ⟨fun z => V.int.inj z, fun z => congrArg V.int z⟩]
    exact .bl _
theorem d_neI {i j : Int} (ha : EvP ta σ H (isD (.int i))) (hb : EvP tb σ H (isD (.int j))) : EvP (tOp rNe ta tb) σ H (isD (.bool (!decide (i = j)))) :=
  e_op ha hb (mo_D _) fun x y H1 _ px py Q q => by
    rw [im_int px, im_int py]
    refine ⟨rfl, q _ H1 (Ex.refl H1) ?_⟩
    rw [show decide (V.int i = V.int j) = decide (i = j) from decide_eq_decide.mpr ⟨fun z => V.int.inj z, fun z => congrArg V.int z⟩]
    exact .bl _
theorem d_eqS {i j : Str} (ha : EvP ta σ H (isD (.str i))) (hb : EvP tb σ H (isD (.str j))) : EvP (tOp rEq ta tb) σ H (isD (.bool (decide (i = j)))) :=
  e_op ha hb (mo_D _) fun x y H1 _ px py Q q => by
    rw [im_str px, im_str py]
    refine ⟨rfl, q _ H1 (Ex.refl H1) ?_⟩
    rw [show decide (V.str i = V.str j) = decide (i = j) from decide_eq_decide.mpr ⟨fun z => V.str.inj z, fun z => congrArg V.str z⟩]
    exact .bl _
theorem d_neS {i j : Str} (ha : EvP ta σ H (isD (.str i))) (hb : EvP tb σ H (isD (.str j))) : EvP (tOp rNe ta tb) σ H (isD (.bool (!decide (i = j)))) :=
  e_op ha hb (mo_D _) fun x y H1 _ px py Q q => by
    rw [im_str px, im_str py]
    refine ⟨rfl, q _ H1 (Ex.refl H1) ?_⟩
    rw [show decide (V.str i = V.str j) = decide (i = j) from decide_eq_decide.mpr ⟨fun z => V.str.inj z, fun z => congrArg V.str z⟩]
    exact .bl _
theorem d_eqB {i j : Bool} (ha : EvP ta σ H (isD (.bool i))) (hb : EvP tb σ H (isD (.bool j))) : EvP (tOp rEq ta tb) σ H (isD (.bool (decide (i = j)))) :=
  e_op ha hb (mo_D _) fun x y H1 _ px py Q q => by
    rw [im_bl px, im_bl py]
    refine ⟨rfl, q _ H1 (Ex.refl H1) ?_⟩
    rw [show decide (V.bl i = V.bl j) = decide (i = j) from decide_eq_decide.mpr ⟨fun z => V.bl.inj z, fun z => congrArg V.bl z⟩]
    exact .bl _
theorem d_neB {i j : Bool} (ha : EvP ta σ H (isD (.bool i))) (hb : EvP tb σ H (isD (.bool j))) : EvP (tOp rNe ta tb) σ H (isD (.bool (!decide (i = j)))) :=
  e_op ha hb (mo_D _) fun x y H1 _ px py Q q => by
    rw [im_bl px, im_bl py]
    refine ⟨rfl, q _ H1 (Ex.refl H1) ?_⟩
    rw [show decide (V.bl i = V.bl j) = decide (i = j) from decide_eq_decide.mpr ⟨fun z => V.bl.inj z, fun z => congrArg V.bl z⟩]
    exact .bl _
theorem d_neg1 : EvP (tUn (rU fun i => .int (-i)) (tC (.int 1))) σ H (isD (.int (-1))) := fun H1 _ _ q => ⟨1, rfl, q _ H1 (Ex.refl H1) (.int (-1))⟩
/-! data compared -/
theorem d_eqD {b : Bool} (ha : EvP ta σ H (isD d)) (hb : EvP tb σ H (isD d')) (s1 : SeqAt.shaped d = true) (s2 : SeqAt.shaped d' = true) (hv : PyData.eqv d d' = b) : EvP (tOp (rEqD K) ta tb) σ H (isD (.bool b)) :=
  e_op ha hb (mo_D _) fun x y H1 _ px py Q q => ⟨d, d', im_dp d x px, im_dp d' y py, s1, s2, q _ H1 (Ex.refl H1) (by rw [hv]; exact .bl _)⟩
theorem d_neD {b : Bool} (ha : EvP ta σ H (isD d)) (hb : EvP tb σ H (isD d')) (s1 : SeqAt.shaped d = true) (s2 : SeqAt.shaped d' = true) (hv : (!PyData.eqv d d') = b) : EvP (tOp (rNeD K) ta tb) σ H (isD (.bool b)) :=
  e_op ha hb (mo_D _) fun x y H1 _ px py Q q => ⟨d, d', im_dp d x px, im_dp d' y py, s1, s2, q _ H1 (Ex.refl H1) (by rw [hv]; exact .bl _)⟩
theorem d_inD {ds : List PyData} {b : Bool} (ha : EvP ta σ H (isD d)) (hb : EvP tb σ H (isD (.list ds))) (s1 : SeqAt.shaped d = true) (s2 : SeqAt.shaped (.list ds) = true) (hv : (ds.any fun z => PyData.eqv z d) = b) : EvP (tOp (rInD K) ta tb) σ H (isD (.bool b)) :=
  e_op ha hb (mo_D _) fun x y H1 _ px py Q q => ⟨d, ds, im_dp d x px, im_dp _ y py, s1, s2, q _ H1 (Ex.refl H1) (by rw [hv]; exact .bl _)⟩
theorem d_notInD {ds : List PyData} {b : Bool} (ha : EvP ta σ H (isD d)) (hb : EvP tb σ H (isD (.list ds))) (s1 : SeqAt.shaped d = true) (s2 : SeqAt.shaped (.list ds) = true) (hv : (!ds.any fun z => PyData.eqv z d) = b) : EvP (tOp (rNotInD K) ta tb) σ H (isD (.bool b)) :=
  e_op ha hb (mo_D _) fun x y H1 _ px py Q q => ⟨d, ds, im_dp d x px, im_dp _ y py, s1, s2, q _ H1 (Ex.refl H1) (by rw [hv]; exact .bl _)⟩
theorem any_mem {α : Type} {f : α → PyData} {p : α → PyData → Prop} {xs : List α} {d : PyData} (hp : ∀ x ∈ xs, pl (f x) = true) (hd : pl d = true) : ((xs.map f).any fun z => PyData.eqv z d) = true ↔ ∃ x ∈ xs, f x = d := by
  rw [List.any_map, List.any_eq_true]
  constructor
  · rintro ⟨x, hx, e⟩
    exact ⟨x, hx, (eqv_iff _ _ (hp x hx) hd).mp e⟩
  · rintro ⟨x, hx, e⟩
    exact ⟨x, hx, (eqv_iff _ _ (hp x hx) hd).mpr e⟩
theorem any_ws {ws : List Word} {w : Word} : ((wsD ws).any fun z => PyData.eqv z (wD w)) = decide (w ∈ ws) := by
  rw [Bool.eq_iff_iff, any_mem (p := fun _ _ => True) (fun x _ => pl_wD x) (pl_wD w), decide_eq_true_iff]
  exact ⟨fun ⟨x, hx, e⟩ => (wD_inj.mp e) ▸ hx, fun h => ⟨w, h, rfl⟩⟩
theorem any_ls {ws : List (List Int)} {w : List Int} : ((ws.map lD).any fun z => PyData.eqv z (lD w)) = decide (w ∈ ws) := by
  rw [Bool.eq_iff_iff, any_mem (p := fun _ _ => True) (fun x _ => pl_lD x) (pl_lD w), decide_eq_true_iff]
  exact ⟨fun ⟨x, hx, e⟩ => (lD_inj.mp e) ▸ hx, fun h => ⟨w, h, rfl⟩⟩
/-! items -/
theorem d_ixT {ds : List PyData} {i : Int} (ha : EvP ta σ H (isD (.tuple ds))) (hb : EvP tb σ H (isD (.int i))) (h : atI ds i = some d) : EvP (tOp (rIxT K) ta tb) σ H (isD d) :=
  e_op ha hb (mo_D _) fun x y H1 _ px py Q q => by
    obtain ⟨a, xs, rfl, h1, h2⟩ := im_tup px
    have hl := h2.len
    unfold atI at h
    obtain ⟨j, hj, hd⟩ := Option.bind_eq_some_iff.mp h
    obtain ⟨v, hv, iv⟩ := h2.get hd
    refine ⟨a, xs, i, v, rfl, im_int py, st_of h1, ?_, q _ H1 (Ex.refl H1) iv⟩
    unfold atI
    rw [hl, hj]
    exact hv
theorem d_ixL {ds : List PyData} {i : Int} (ha : EvP ta σ H (isD (.list ds))) (hb : EvP tb σ H (isD (.int i))) (h : atI ds i = some d) : EvP (tOp (rIxL K) ta tb) σ H (isD d) :=
  e_op ha hb (mo_D _) fun x y H1 _ px py Q q => by
    obtain ⟨a, xs, rfl, h1, h2⟩ := im_lst px
    have hl := h2.len
    unfold atI at h
    obtain ⟨j, hj, hd⟩ := Option.bind_eq_some_iff.mp h
    obtain ⟨v, hv, iv⟩ := h2.get hd
    refine ⟨a, xs, i, v, rfl, im_int py, sq_of h1, ?_, q _ H1 (Ex.refl H1) iv⟩
    unfold atI
    rw [hl, hj]
    exact hv
theorem at_nat {α : Type} {ds : List α} {i : Nat} {x : α} (h : ds[i]? = some x) : atI ds (i : Int) = some x := atI_nat h
theorem at_map {α β : Type} {f : α → β} {l : List α} {i : Nat} {x : α} (h : l[i]? = some x) : atI (l.map f) (i : Int) = some (f x) := atI_nat (by rw [List.getElem?_map, h]; rfl)
theorem at_neg {α : Type} {l : List α} {x : α} (h : l.getLast? = some x) : atI l (-1) = some x := by
  have hne : l ≠ [] := fun e => by rw [e] at h; cases h
  rw [← List.dropLast_concat_getLast hne]
  rw [List.getLast?_eq_some_getLast hne] at h
  rw [Option.some.inj h]
  exact atI_last _ _
/-! arguments, displays, calls -/
theorem a_nil : EvPA tNil σ H [] := fun H1 _ _ q => q [] H1 (Ex.refl H1) rfl
theorem a_cons {tr : TA} {Ps : List VP} (h : EvP te σ H P) (mo : Mo P) (hr : EvPA tr σ H Ps) : EvPA (tCons te tr) σ H (P :: Ps) := fun H1 e _ q =>
  h H1 e _ fun v H2 e2 pv => hr H2 (e.trans e2) _ fun vs H3 e3 pa => q (v :: vs) H3 (e2.trans e3) ⟨v, vs, rfl, mo _ _ _ e3 pv, pa⟩
theorem a_d {tr : TA} {Ps : List VP} (h : EvP te σ H (isD d)) (hr : EvPA tr σ H Ps) : EvPA (tCons te tr) σ H (isD d :: Ps) := a_cons h (mo_D d) hr
theorem args_im : ∀ {ds : List PyData} {vs : List V} {H : Hp}, Args (ds.map isD) vs H → ImAll H ds vs
  | [], _, _, h => by
    have h : _ = [] := h
    rw [h]
    exact .nil
  | d :: ds, _, _, ⟨v, r, e, hv, h⟩ => by
    rw [e]
    exact .cons hv (args_im h)
theorem d_tup {t : TA} {ds : List PyData} (h : EvPA t σ H (ds.map isD)) (hl : ds.length ≤ 100000) : EvP (tTup t) σ H (isD (.tuple ds)) := fun H1 e Q q =>
  h H1 e _ fun vs H2 e2 pa => by
    have hi := args_im pa
    have e3 := hi.len
    exact ⟨sz_of (by omega), fun p hp => q _ _ (e2.trans (Ex.new hp)) (.tup upd_same (hi.ex (Ex.new hp)))⟩
theorem f_lst {t : TA} {ds : List PyData} (h : EvPA t σ H (ds.map isD)) (hl : ds.length ≤ 100000) : EvF (tLst t) σ H ds := fun H1 e Q q =>
  h H1 e _ fun vs H2 e2 pa => by
    have hi := args_im pa
    have e3 := hi.len
    exact ⟨sz_of (by omega), fun p hp => q p _ vs (fresh_back e2 hp) (e2.trans (Ex.new hp)) upd_same (hi.ex (Ex.new hp))⟩
theorem e_call {α : Type} {cond : α → Prop} {ps : α → List VP} {post : α → VP} {E : XK} {t : TA} (x : α) (hc : cond x) (h : EvPA t σ H (ps x)) : EvP (tCall (PurSp cond ps post) [] E t) σ H (post x) := fun H1 e Q q =>
  h H1 e _ fun vs H2 e2 pa => by
    rw [List.append_nil]
    exact ⟨x, hc, pa, fun v H3 e3 pv => q v H3 (e2.trans e3) pv⟩
theorem f_call {α : Type} {cond : α → Prop} {ps : α → List VP} {ds : α → List PyData} {E : XK} {t : TA} (x : α) (hc : cond x) (h : EvPA t σ H (ps x)) : EvF (tCall (LstSp cond ps ds) [] E t) σ H (ds x) := fun H1 e Q q =>
  h H1 e _ fun vs H2 e2 pa => by
    rw [List.append_nil]
    exact ⟨x, hc, pa, fun p H3 xs h1 e3 h2 h3 => q p H3 xs (fresh_back e2 h1) (e2.trans e3) h2 h3⟩
theorem f_nil : EvF (tLst tNil) σ H [] := f_lst (ds := []) a_nil (Nat.zero_le _)
/-- an instance of C without the name m among its fields -/
def IsIns (C : Addr) (m : Str) (v : V) (H : Hp) : Prop := ∃ a dx fs, v = .ref a ∧ H a = some (.ins C dx fs) ∧ fs.lookup m = none
theorem e_meth {α : Type} {cond : α → Prop} {ps : α → List VP} {post : α → VP} {E : XK} {t : TA} {C : Addr} {m : Str} {Ps : List VP} (x : α) (hc : cond x) (ha : EvP ta σ H P) (mo : Mo P) (hi : ∀ v H1, P v H1 → IsIns C m v H1) (h : EvPA t σ H Ps) (hp : ps x = P :: Ps) :
    EvP (tMeth C m (PurSp cond ps post) [] E ta t) σ H (post x) := fun H1 e Q q =>
  ha H1 e _ fun v H2 e2 pv => by
    obtain ⟨a, dx, fs, e3, h1, h2⟩ := hi v H2 pv
    refine ⟨a, dx, fs, e3, h1, h2, h H2 (e.trans e2) _ fun vs H3 e4 pa => ?_⟩
    rw [List.append_nil]
    refine ⟨x, hc, ?_, fun w H4 e5 pw => q w H4 ((e2.trans e4).trans e5) pw⟩
    rw [hp]
    exact ⟨v, vs, rfl, mo _ _ _ e4 pv, pa⟩
theorem f_meth {α : Type} {cond : α → Prop} {ps : α → List VP} {ds : α → List PyData} {E : XK} {t : TA} {C : Addr} {m : Str} {Ps : List VP} (x : α) (hc : cond x) (ha : EvP ta σ H P) (mo : Mo P) (hi : ∀ v H1, P v H1 → IsIns C m v H1) (h : EvPA t σ H Ps) (hp : ps x = P :: Ps) :
    EvF (tMeth C m (LstSp cond ps ds) [] E ta t) σ H (ds x) := fun H1 e Q q =>
  ha H1 e _ fun v H2 e2 pv => by
    obtain ⟨a, dx, fs, e3, h1, h2⟩ := hi v H2 pv
    refine ⟨a, dx, fs, e3, h1, h2, h H2 (e.trans e2) _ fun vs H3 e4 pa => ?_⟩
    rw [List.append_nil]
    refine ⟨x, hc, ?_, fun p H4 xs h5 e5 h6 h7 => q p H4 xs (fresh_back (e2.trans e4) h5) ((e2.trans e4).trans e5) h6 h7⟩
    rw [hp]
    exact ⟨v, vs, rfl, mo _ _ _ e4 pv, pa⟩
/-! built-ins -/
theorem d_lenL {ds : List PyData} (h : EvP te σ H (isD (.list ds))) : EvP (tCB (fun xs H Q => ∃ p ys, xs = [.ref p] ∧ (SqL K H p ys ∨ SqT K H p ys) ∧ Q (.int ys.length) H) (tCons te tNil)) σ H (isD (nD ds.length)) := fun H1 e Q q =>
  h H1 e _ fun v H2 e2 pv => by
    obtain ⟨a, xs, rfl, h1, h2⟩ := im_lst pv
    refine ⟨a, xs, rfl, .inl (sq_of h1), q _ H2 e2 ?_⟩
    rw [h2.len]
    exact .int _
theorem d_lenM {α : Type} {f : α → PyData} {l : List α} (h : EvP te σ H (isD (.list (l.map f)))) : EvP (tCB (fun xs H Q => ∃ p ys, xs = [.ref p] ∧ (SqL K H p ys ∨ SqT K H p ys) ∧ Q (.int ys.length) H) (tCons te tNil)) σ H (isD (nD l.length)) := by
  have k := d_lenL (K := K) h
  rw [List.length_map] at k
  exact k
theorem d_lenT {ds : List PyData} (h : EvP te σ H (isD (.tuple ds))) : EvP (tCB (fun xs H Q => ∃ p ys, xs = [.ref p] ∧ (SqL K H p ys ∨ SqT K H p ys) ∧ Q (.int ys.length) H) (tCons te tNil)) σ H (isD (nD ds.length)) := fun H1 e Q q =>
  h H1 e _ fun v H2 e2 pv => by
    obtain ⟨a, xs, rfl, h1, h2⟩ := im_tup pv
    refine ⟨a, xs, rfl, .inr (st_of h1), q _ H2 e2 ?_⟩
    rw [h2.len]
    exact .int _
theorem d_lenMT {α : Type} {f : α → PyData} {l : List α} (h : EvP te σ H (isD (.tuple (l.map f)))) : EvP (tCB (fun xs H Q => ∃ p ys, xs = [.ref p] ∧ (SqL K H p ys ∨ SqT K H p ys) ∧ Q (.int ys.length) H) (tCons te tNil)) σ H (isD (nD l.length)) := by
  have k := d_lenT (K := K) h
  rw [List.length_map] at k
  exact k
theorem f_listL {ds : List PyData} (h : EvP te σ H (isD (.list ds))) : EvF (tCB (fun xs H Q => ∃ p ys, xs = [.ref p] ∧ (SqL K H p ys ∨ SqT K H p ys) ∧ ∀ l, H l = none → Q (.ref l) (upd H l (.lst ys))) (tCons te tNil)) σ H ds := fun H1 e Q q =>
  h H1 e _ fun v H2 e2 pv => by
    obtain ⟨a, xs, rfl, h1, h2⟩ := im_lst pv
    exact ⟨a, xs, rfl, .inl (sq_of h1), fun l hl => q l _ xs (fresh_back e2 hl) (e2.trans (Ex.new hl)) upd_same (h2.ex (Ex.new hl))⟩
theorem f_listT {ds : List PyData} (h : EvP te σ H (isD (.tuple ds))) : EvF (tCB (fun xs H Q => ∃ p ys, xs = [.ref p] ∧ (SqL K H p ys ∨ SqT K H p ys) ∧ ∀ l, H l = none → Q (.ref l) (upd H l (.lst ys))) (tCons te tNil)) σ H ds := fun H1 e Q q =>
  h H1 e _ fun v H2 e2 pv => by
    obtain ⟨a, xs, rfl, h1, h2⟩ := im_tup pv
    exact ⟨a, xs, rfl, .inr (st_of h1), fun l hl => q l _ xs (fresh_back e2 hl) (e2.trans (Ex.new hl)) upd_same (h2.ex (Ex.new hl))⟩
theorem d_tupOf {ds : List PyData} (h : EvP te σ H (isD (.list ds))) : EvP (tCB (fun xs H Q => ∃ p ys, xs = [.ref p] ∧ ((SqL K H p ys ∧ ∀ l, H l = none → Q (.ref l) (upd H l (.tup ys))) ∨ (SqT K H p ys ∧ Q (.ref p) H))) (tCons te tNil)) σ H (isD (.tuple ds)) := fun H1 e Q q =>
  h H1 e _ fun v H2 e2 pv => by
    obtain ⟨a, xs, rfl, h1, h2⟩ := im_lst pv
    exact ⟨a, xs, rfl, .inl ⟨sq_of h1, fun l hl => q _ _ (e2.trans (Ex.new hl)) (.tup upd_same (h2.ex (Ex.new hl)))⟩⟩
/-- tuple + tuple -/
theorem d_cat {ds es : List PyData} (ha : EvP ta σ H (isD (.tuple ds))) (hb : EvP tb σ H (isD (.tuple es))) (hz : ds.length + es.length ≤ 100000) : EvP (tOp (rCatA K) ta tb) σ H (isD (.tuple (ds ++ es))) :=
  e_op ha hb (mo_D _) fun x y H1 _ px py Q q => by
    obtain ⟨a, xs, rfl, h1, h2⟩ := im_tup px
    obtain ⟨b, ys, rfl, h3, h4⟩ := im_tup py
    have l1 := h2.len
    have l2 := h4.len
    refine ⟨a, b, xs, ys, rfl, rfl, st_of h1, st_of h3, sz_of (by omega), fun e => ?_, fun _ e => ?_, fun _ _ p hp => ?_⟩
    · subst e
      have : ds = [] := List.length_eq_zero_iff.mp (by rw [← l1]; rfl)
      subst this
      exact q _ H1 (Ex.refl H1) (.tup h3 h4)
    · subst e
      have : es = [] := List.length_eq_zero_iff.mp (by rw [← l2]; rfl)
      subst this
      rw [List.append_nil] at q
      exact q _ H1 (Ex.refl H1) (.tup h1 h2)
    · exact q _ _ (Ex.new hp) (.tup upd_same ((h2.app h4).ex (Ex.new hp)))
theorem d_catW {w v : Word} (ha : EvP ta σ H (isD (wD w))) (hb : EvP tb σ H (isD (wD v))) (hz : w.length + v.length ≤ 100000) : EvP (tOp (rCatA K) ta tb) σ H (isD (wD (w ++ v))) := by
  have h := d_cat (K := K) ha hb (by rw [List.length_map, List.length_map]; exact hz)
  rw [← List.map_append] at h
  exact h
theorem d_tup1 {n : Nat} (h : EvP te σ H (isD (nD n))) : EvP (tTup (tCons te tNil)) σ H (isD (wD [n])) := d_tup (ds := [nD n]) (a_d h a_nil) (by show 1 ≤ 100000; decide)
/-! slices -/
def EvO (to : TO) (σ : L2.St) (H : Hp) (o : Option Int) : Prop := ∀ H1, Ex H H1 → ∀ Q : Option Int → Hp → Prop, (∀ H2, Ex H1 H2 → Q o H2) → to σ H1 Q
theorem o_none : EvO tNoPart σ H none := fun H1 _ _ q => q H1 (Ex.refl H1)
theorem o_some {i : Int} (h : EvP te σ H (isD (.int i))) : EvO (tPart te) σ H (some i) := fun H1 e _ q => h H1 e _ fun v H2 e2 pv => ⟨i, im_int pv, q H2 e2⟩
def cutD {α : Type} (xs : List α) (lo hi : Option Int) : List α := (xs.drop (HT.sIx xs.length 0 lo)).take (HT.sIx xs.length xs.length hi - HT.sIx xs.length 0 lo)
theorem cutD_map {α β : Type} (f : α → β) (xs : List α) (lo hi : Option Int) : cutD (xs.map f) lo hi = (cutD xs lo hi).map f := by
  unfold cutD
  rw [List.length_map, ← List.map_drop, ← List.map_take]
theorem cutD_to {α : Type} (xs : List α) (n : Nat) : cutD xs none (some (n : Int)) = xs.take n := by
  unfold cutD
  rw [HT.sIx_none, HT.sIx_nat, List.drop_zero, Nat.sub_zero]
  rcases Nat.le_total n xs.length with h | h
  · rw [Nat.min_eq_left h]
  · rw [Nat.min_eq_right h, List.take_length, List.take_of_length_le h]
theorem cutD_from {α : Type} (xs : List α) (n : Nat) : cutD xs (some (n : Int)) none = xs.drop n := by
  unfold cutD
  rw [HT.sIx_none, HT.sIx_nat]
  rcases Nat.le_total n xs.length with h | h
  · rw [Nat.min_eq_left h, List.take_of_length_le]
    rw [List.length_drop]
    omega
  · rw [Nat.min_eq_right h, List.drop_eq_nil_of_le h, List.drop_length, List.take_nil]
theorem cutD_init {α : Type} (xs : List α) : cutD xs none (some (-1)) = xs.dropLast := by
  unfold cutD
  rw [HT.sIx_none, List.drop_zero, Nat.sub_zero, List.dropLast_eq_take]
  congr 1
  have h := HT.clip_eq (-1) xs.length xs.length
  rw [if_pos (by decide)] at h
  omega
theorem f_slL {ds : List PyData} {tl th : TO} {lo hi : Option Int} (h : EvP te σ H (isD (.list ds))) (h1 : EvO tl σ H lo) (h2 : EvO th σ H hi) : EvF (tSl (rSlL K) te tl th) σ H (cutD ds lo hi) := fun H1 e Q q =>
  h H1 e _ fun v H2 e2 pv => h1 H2 (e.trans e2) _ fun H3 e3 => h2 H3 ((e.trans e2).trans e3) _ fun H4 e4 => by
    obtain ⟨a, xs, rfl, k1, k2⟩ := im_lst (pv.ex (e3.trans e4))
    refine ⟨a, xs, rfl, sq_of k1, fun p hp => q p _ _ (fresh_back ((e2.trans e3).trans e4) hp) (((e2.trans e3).trans e4).trans (Ex.new hp)) upd_same ?_⟩
    show ImAll _ (cutD ds lo hi) (cutD xs lo hi)
    unfold cutD
    rw [k2.len]
    exact ((k2.drop _).take _).ex (Ex.new hp)
theorem d_slT {ds : List PyData} {tl th : TO} {lo hi : Option Int} (h : EvP te σ H (isD (.tuple ds))) (h1 : EvO tl σ H lo) (h2 : EvO th σ H hi) : EvP (tSl (rSlA K) te tl th) σ H (isD (.tuple (cutD ds lo hi))) := fun H1 e Q q =>
  h H1 e _ fun v H2 e2 pv => h1 H2 (e.trans e2) _ fun H3 e3 => h2 H3 ((e.trans e2).trans e3) _ fun H4 e4 => by
    obtain ⟨a, xs, rfl, k1, k2⟩ := im_tup (pv.ex (e3.trans e4))
    refine ⟨a, xs, rfl, st_of k1, fun hw => ?_, fun _ p hp => ?_⟩
    · have e5 : cutD ds lo hi = ds := by
        unfold cutD
        rw [← k2.len, hw.1, hw.2, List.drop_zero, Nat.sub_zero, k2.len, List.take_length]
      rw [e5] at q
      exact q _ H4 ((e2.trans e3).trans e4) (.tup k1 k2)
    · refine q _ _ (((e2.trans e3).trans e4).trans (Ex.new hp)) (.tup upd_same ?_)
      show ImAll _ (cutD ds lo hi) (cutD xs lo hi)
      unfold cutD
      rw [k2.len]
      exact ((k2.drop _).take _).ex (Ex.new hp)
theorem d_slTo {w : Word} {n : Nat} (h : EvP te σ H (isD (wD w))) (h2 : EvP tb σ H (isD (nD n))) : EvP (tSl (rSlA K) te tNoPart (tPart tb)) σ H (isD (wD (w.take n))) := by
  have k := d_slT (K := K) h o_none (o_some h2)
  rw [cutD_map, cutD_to] at k
  exact k
theorem d_slFrom {w : Word} {n : Nat} (h : EvP te σ H (isD (wD w))) (h2 : EvP tb σ H (isD (nD n))) : EvP (tSl (rSlA K) te (tPart tb) tNoPart) σ H (isD (wD (w.drop n))) := by
  have k := d_slT (K := K) h (o_some h2) o_none
  rw [cutD_map, cutD_from] at k
  exact k
theorem d_slInit {w : Word} (h : EvP te σ H (isD (wD w))) (h2 : EvP tb σ H (isD (.int (-1)))) : EvP (tSl (rSlA K) te tNoPart (tPart tb)) σ H (isD (wD w.dropLast)) := by
  have k := d_slT (K := K) h o_none (o_some h2)
  rw [cutD_map, cutD_init] at k
  exact k
/-! tests -/
theorem t_cmp {b : Bool} (h : EvP te σ H (isD (.bool b))) : EvT (tTest te) σ H b := fun H1 e _ q => h H1 e _ fun v H2 e2 pv => ⟨b, im_bl pv, q H2 e2⟩
theorem t_B {b : Bool} (h : EvP te σ H (isD (.bool b))) : EvT (tB te) σ H b := fun H1 e _ q => h H1 e _ fun v H2 e2 pv => ⟨b, im_bl pv, q H2 e2⟩
theorem t_is {a b : Bool} (h : EvT t σ H a) (e : a = b) : EvT t σ H b := by rw [← e]; exact h
theorem t_or {a b : Bool} (h1 : EvT t σ H a) (h2 : EvT u σ H b) : EvT (tOr t u) σ H (a || b) := et_or h1 fun _ => h2
theorem t_and {a b : Bool} (h1 : EvT t σ H a) (h2 : EvT u σ H b) : EvT (tAnd t u) σ H (a && b) := et_and h1 fun _ => h2
theorem t_nT (h : EvT t σ H true) : EvT (tNot t) σ H false := t_is (et_not h) rfl
theorem t_nF (h : EvT t σ H false) : EvT (tNot t) σ H true := t_is (et_not h) rfl
theorem t_oF (h1 : EvT t σ H false) (h2 : EvT u σ H false) : EvT (tOr t u) σ H false := t_is (t_or h1 h2) rfl
theorem c_no {p : Prop} [Decidable p] (h : EvP te σ H (isD (.bool (decide p)))) (hp : ¬ p) : EvT (tTest te) σ H false := t_is (t_cmp h) (decide_eq_false hp)
theorem c_yes {p : Prop} [Decidable p] (h : EvP te σ H (isD (.bool (decide p)))) (hp : p) : EvT (tTest te) σ H true := t_is (t_cmp h) (decide_eq_true hp)
theorem cn_no {p : Prop} [Decidable p] (h : EvP te σ H (isD (.bool (!decide p)))) (hp : p) : EvT (tTest te) σ H false := t_is (t_cmp h) (by rw [decide_eq_true hp]; rfl)
theorem cn_yes {p : Prop} [Decidable p] (h : EvP te σ H (isD (.bool (!decide p)))) (hp : ¬ p) : EvT (tTest te) σ H true := t_is (t_cmp h) (by rw [decide_eq_false hp]; rfl)
theorem d_isN {b : Bool} (h : EvP te σ H P) (hb : ∀ v H1, P v H1 → decide (v = .non) = b) : EvP (tIsN te) σ H (isD (.bool b)) := fun H1 e Q q => h H1 e _ fun v H2 e2 pv => q _ H2 e2 (by rw [hb v H2 pv]; exact .bl b)
theorem d_notN {b : Bool} (h : EvP te σ H P) (hb : ∀ v H1, P v H1 → (!decide (v = .non)) = b) : EvP (tNotN te) σ H (isD (.bool b)) := fun H1 e Q q => h H1 e _ fun v H2 e2 pv => q _ H2 e2 (by rw [hb v H2 pv]; exact .bl b)
theorem d_andV {a b : Bool} (h1 : EvP ta σ H (isD (.bool a))) (h2 : a = true → EvP tb σ H (isD (.bool b))) : EvP (tAndV ta tb) σ H (isD (.bool (a && b))) := fun H1 e Q q => h1 H1 e _ fun v H2 e2 pv => ⟨a, im_bl pv, by
  cases a with
  | true =>
    show tb σ H2 Q
    exact h2 rfl H2 (e.trans e2) Q fun v H3 e3 => q v H3 (e2.trans e3)
  | false =>
    show Q (.bl false) H2
    exact q _ H2 e2 (.bl false)⟩
theorem d_orV {a b : Bool} (h1 : EvP ta σ H (isD (.bool a))) (h2 : a = false → EvP tb σ H (isD (.bool b))) : EvP (tOrV ta tb) σ H (isD (.bool (a || b))) := fun H1 e Q q => h1 H1 e _ fun v H2 e2 pv => ⟨a, im_bl pv, by
  cases a with
  | true =>
    show Q (.bl true) H2
    exact q _ H2 e2 (.bl true)
  | false =>
    show tb σ H2 Q
    exact h2 rfl H2 (e.trans e2) Q fun v H3 e3 => q v H3 (e2.trans e3)⟩
theorem d_notV {a : Bool} (h1 : EvP ta σ H (isD (.bool a))) : EvP (tNotV ta) σ H (isD (.bool (!a))) := fun H1 e Q q => h1 H1 e _ fun v H2 e2 pv => ⟨a, im_bl pv, q _ H2 e2 (.bl _)⟩
/-! fields -/
theorem e_fld {a C dx : Addr} {fs : List (Str × V)} {f : Str} {v : V} (h : EvP te σ H (isV (.ref a))) (ho : H a = some (.ins C dx fs)) (hc : Cls K C) (hn : NoAttr K C f) (hl : fs.lookup f = some v) (pv : P v H) (mo : Mo P) : EvP (tFld K te f) σ H P := fun H1 e Q q =>
  h H1 e _ fun x H2 e2 px => ⟨a, C, dx, fs, v, px, (e.trans e2) _ _ ho, hc, hn, hl, q v H2 e2 (mo _ _ _ (e.trans e2) pv)⟩
/-! ### statements -/
variable {D : Ends} {tu tw tz : TS} {g : TG}
theorem k_asg {i : Nat} (h : EvP te σ H P) (k : ∀ v H1, Ex H H1 → P v H1 → D.nx (σ.set i (some v)) H1) : tAsg te (gName i) D σ H := h H (Ex.refl H) _ k
theorem k_asgF {i : Nat} {ds : List PyData} (h : EvF te σ H ds) (k : ∀ p H1 xs, H p = none → Ex H H1 → H1 p = some (.lst xs) → ImAll H1 ds xs → D.nx (σ.set i (some (.ref p))) H1) : tAsg te (gName i) D σ H := h H (Ex.refl H) _ k
theorem k_ret (h : EvP te σ H P) (k : ∀ v H1, Ex H H1 → P v H1 → D.rt v H1) : tRet te D σ H := h H (Ex.refl H) _ k
theorem k_retF {ds : List PyData} (h : EvF te σ H ds) (k : ∀ p H1 xs, H p = none → Ex H H1 → H1 p = some (.lst xs) → ImAll H1 ds xs → D.rt (.ref p) H1) : tRet te D σ H := h H (Ex.refl H) _ k
theorem k_if {b : Bool} (h : EvT t σ H b) (h1 : b = true → ∀ H1, Ex H H1 → tu D σ H1) (h2 : b = false → ∀ H1, Ex H H1 → tw D σ H1) : tIfS t tu tw D σ H := s_if h h1 h2
theorem k_no (h : EvT t σ H false) (k : ∀ H1, Ex H H1 → tw D σ H1) : tIfS t tu tw D σ H := s_if h (fun e => nomatch e) fun _ => k
theorem k_yes (h : EvT t σ H true) (k : ∀ H1, Ex H H1 → tu D σ H1) : tIfS t tu tw D σ H := s_if h (fun _ => k) fun e => nomatch e
theorem k_seq (h : tu { D with nx := tz D } σ H) : tSeq tu tz D σ H := h
theorem k_app {l : Addr} {xs : List V} (hl : H l = some (.lst xs)) (ha : EvP ta σ H (isV (.ref l))) (h : EvP te σ H P) (hz : xs.length < 100000) (k : ∀ v H1, Ex H H1 → P v H1 → D.nx σ (upd H1 l (.lst (xs ++ [v])))) :
    tDrop (tBM K "list" rAppend ta (tCons te tNil)) D σ H := ha H (Ex.refl H) _ fun x H1 e1 px => by
  have px : x = .ref l := px
  subst px
  exact ⟨Or.inl ⟨rfl, xs, sq_of (e1 l _ hl)⟩, h H1 e1 _ fun v H2 e2 pv => ⟨l, xs, v, rfl, rfl, e2 l _ (e1 l _ hl), sz_lt hz, k v H2 (e1.trans e2) pv⟩⟩
theorem k_appF {l : Addr} {xs : List V} {ds : List PyData} (hl : H l = some (.lst xs)) (ha : EvP ta σ H (isV (.ref l))) (h : EvF te σ H ds) (hz : xs.length < 100000) (k : ∀ p H1 ys, H p = none → Ex H H1 → H1 p = some (.lst ys) → ImAll H1 ds ys → D.nx σ (upd H1 l (.lst (xs ++ [.ref p])))) :
    tDrop (tBM K "list" rAppend ta (tCons te tNil)) D σ H := ha H (Ex.refl H) _ fun x H1 e1 px => by
  have px : x = .ref l := px
  subst px
  exact ⟨Or.inl ⟨rfl, xs, sq_of (e1 l _ hl)⟩, h H1 e1 _ fun p H2 ys h0 e2 h2 h3 => ⟨l, xs, .ref p, rfl, rfl, e2 l _ (e1 l _ hl), sz_lt hz, k p H2 ys (fresh_back e1 h0) (e1.trans e2) h2 h3⟩⟩
/-! ### loops -/
theorem k_forT {j : Nat} {ds : List PyData} (h : EvP tl σ H (isD (.tuple ds))) (hp : ptAll ds = true)
    (k : ∀ H1, Ex H H1 → ∃ Pv : Nat → L2.St → Hp → Prop, Pv 0 σ H1 ∧ (∀ i σ' H', Pv i σ' H' → Kt H1 H') ∧
      (∀ (i : Nat) d x σ' H', ds[i]? = some d → Im H' d x → Pv i σ' H' → tu { D with nx := Pv (i + 1), ct := Pv (i + 1), bk := D.nx } (σ'.set j (some x)) H') ∧ ∀ σ' H', Pv ds.length σ' H' → D.nx σ' H') : tFor (iTup K tl) (gName j) tu D σ H :=
  h H (Ex.refl H) _ fun v H1 e1 pv => by
    obtain ⟨Pv, p0, pk, ps, pd⟩ := k H1 e1
    obtain ⟨a, xs, rfl, h1, h2⟩ := im_tup pv
    refine ⟨a, rfl, ⟨xs, st_of h1⟩, for_tup Pv p0 (fun i σ' H' _ p => st_of (pk i σ' H' p a xs h1)) (fun i x σ' H' hx p => ?_) (by rw [h2.len]; exact pd)⟩
    obtain ⟨d, hd, hi⟩ := h2.got hx
    exact ps i d x σ' H' hd (hi.kt (pk i σ' H' p) (pt_mem hp d (List.mem_of_getElem? hd))) p
theorem k_forL {j : Nat} {ds : List PyData} (h : EvP tl σ H (isD (.list ds))) (hp : ptAll ds = true)
    (k : ∀ a xs H1, Ex H H1 → H1 a = some (.lst xs) → ∃ Pv : Nat → L2.St → Hp → Prop, Pv 0 σ H1 ∧ (∀ i σ' H', Pv i σ' H' → Kt H1 H' ∧ H' a = some (.lst xs)) ∧
      (∀ (i : Nat) d x σ' H', ds[i]? = some d → Im H' d x → Pv i σ' H' → tu { D with nx := Pv (i + 1), ct := Pv (i + 1), bk := D.nx } (σ'.set j (some x)) H') ∧ ∀ σ' H', Pv ds.length σ' H' → D.nx σ' H') : tFor (iList K tl) (gName j) tu D σ H :=
  h H (Ex.refl H) _ fun v H1 e1 pv => by
    obtain ⟨a, xs, rfl, h1, h2⟩ := im_lst pv
    obtain ⟨Pv, p0, pk, ps, pd⟩ := k a xs H1 e1 h1
    refine ⟨a, rfl, ⟨xs, sq_of h1⟩, for_list Pv p0 (fun i σ' H' _ p => sq_of (pk i σ' H' p).2) (fun i x σ' H' hx p => ?_) (by rw [h2.len]; exact pd)⟩
    obtain ⟨d, hd, hi⟩ := h2.got hx
    exact ps i d x σ' H' hd (hi.kt (pk i σ' H' p).1 (pt_mem hp d (List.mem_of_getElem? hd))) p
theorem k_forR {j n : Nat} (h : EvP ta σ H (isD (nD n))) (hn : n ≤ 100000)
    (k : ∀ H1, Ex H H1 → ∃ Pv : Nat → L2.St → Hp → Prop, Pv 0 σ H1 ∧
      (∀ (i : Nat) σ' H', i < n → Pv i σ' H' → tu { D with nx := Pv (i + 1), ct := Pv (i + 1), bk := D.nx } (σ'.set j (some (.int (i : Int)))) H') ∧ ∀ σ' H', Pv n σ' H' → D.nx σ' H') : tFor (iRng1 (tCons ta tNil)) (gName j) tu D σ H :=
  h H (Ex.refl H) _ fun v H1 e1 pv => by
    obtain ⟨Pv, p0, ps, pd⟩ := k H1 e1
    rw [im_int pv]
    refine ⟨(n : Int), rfl, by omega, by omega, for_range (lo := 0) (n := ((n : Int)).toNat) Pv p0 (fun i σ' H' hi p => ?_) (by rw [Int.toNat_natCast]; exact pd)⟩
    have e0 : (0 : Int) + (i : Int) = (i : Int) := Int.zero_add _
    show tu { D with nx := Pv (i + 1), ct := Pv (i + 1), bk := D.nx } (σ'.set j (some (.int ((0 : Int) + (i : Int))))) H'
    rw [e0]
    exact ps i σ' H' (by omega) p
theorem k_forR2 {j lo n : Nat} (h : EvP ta σ H (isD (nD lo))) (h2 : EvP tb σ H (isD (nD n))) (hn : n ≤ 100000 ∧ lo ≤ 100000)
    (k : ∀ H1, Ex H H1 → ∃ Pv : Nat → L2.St → Hp → Prop, Pv 0 σ H1 ∧
      (∀ (i : Nat) σ' H', lo + i < n → Pv i σ' H' → tu { D with nx := Pv (i + 1), ct := Pv (i + 1), bk := D.nx } (σ'.set j (some (.int ((lo + i : Nat) : Int)))) H') ∧ ∀ σ' H', Pv (n - lo) σ' H' → D.nx σ' H') : tFor (iRng2 (tCons ta (tCons tb tNil))) (gName j) tu D σ H :=
  h H (Ex.refl H) _ fun v H1 e1 pv => h2 H1 e1 _ fun y H2 e2 py => by
    obtain ⟨Pv, p0, ps, pd⟩ := k H2 (e1.trans e2)
    rw [im_int pv, im_int py]
    refine ⟨(lo : Int), (n : Int), rfl, ⟨by omega, by omega, by omega, by omega⟩, for_range (lo := (lo : Int)) (n := ((n : Int) - (lo : Int)).toNat) Pv p0 (fun i σ' H' hi p => ?_) ?_⟩
    · have e0 : (lo : Int) + (i : Int) = ((lo + i : Nat) : Int) := by omega
      show tu { D with nx := Pv (i + 1), ct := Pv (i + 1), bk := D.nx } (σ'.set j (some (.int ((lo : Int) + (i : Int))))) H'
      rw [e0]
      exact ps i σ' H' (by omega) p
    · rw [show ((n : Int) - (lo : Int)).toNat = n - lo by omega]
      exact pd
/-! ### comprehensions -/
def del (H : Hp) (D : Addr) : Hp := fun b => if b = D then none else H b
theorem del_ne {H : Hp} {D b : Addr} (h : b ≠ D) : del H D b = H b := by unfold del; rw [if_neg h]
theorem del_ex {H H' : Hp} {D : Addr} (e : Ex H H') : Ex (del H D) (del H' D) := fun b o h => by
  by_cases q : b = D
  · subst q; unfold del at h; rw [if_pos rfl] at h; cases h
  · rw [del_ne q] at h ⊢
    exact e b o h
theorem del_upd {H : Hp} {D : Addr} {o : HO} : Ex (del H D) (upd H D o) := fun b u h => by
  by_cases q : b = D
  · subst q; unfold del at h; rw [if_pos rfl] at h; cases h
  · rw [del_ne q] at h
    rw [upd_ne q]
    exact h
theorem del_upd' {H : Hp} {D : Addr} {o : HO} : Ex (del H D) (del (upd H D o) D) := fun b u h => by
  by_cases q : b = D
  · subst q; unfold del at h; rw [if_pos rfl] at h; cases h
  · rw [del_ne q] at h
    rw [del_ne q, upd_ne q]
    exact h
theorem kt_del {H : Hp} {D : Addr} {o : HO} (h : H D = some o) (n : ∀ xs, o ≠ .tup xs) : Kt H (del H D) := fun a xs q => by
  rw [del_ne (ne_of q h fun e => n xs e.symm)]
  exact q
/-- te gives data that hangs on no list that stood -/
def EvG (te : TE) (σ : L2.St) (H : Hp) (r : PyData) : Prop := ∀ H1, Ex H H1 → ∀ Q : VK, (∀ v H2, Ex H1 H2 → (∀ D acc, H1 D = some (.lst acc) → Im (del H2 D) r v) → Q v H2) → te σ H1 Q
theorem EvP.toG (h : EvP te σ H (isD d)) (p : pt d = true) : EvG te σ H d := fun H1 e Q q => h H1 e Q fun v H2 e2 pv => q v H2 e2 fun D acc hD => pv.kt (kt_del (e2 _ _ hD) fun _ z => nomatch z) p
theorem EvF.toG {ds : List PyData} (h : EvF te σ H ds) (p : ptAll ds = true) : EvG te σ H (.list ds) := fun H1 e Q q => h H1 e Q fun l H2 xs h0 e2 h2 h3 => q _ H2 e2 fun D acc hD => by
  have ne : l ≠ D := fun z => by rw [z, hD] at h0; cases h0
  exact .lst (by rw [del_ne ne]; exact h2) (h3.kt (kt_del (e2 _ _ hD) fun _ z => nomatch z) p)
/-- what stands at D so far -/
def Cq (H1 : Hp) (rs : List PyData) (D : Addr) (i : Nat) (H' : Hp) : Prop := H1 D = none ∧ Ex H1 H' ∧ ∃ acc, H' D = some (.lst acc) ∧ ImAll (del H' D) (rs.take i) acc
theorem cq_start {H1 : Hp} {rs : List PyData} {D : Addr} (h : H1 D = none) : Cq H1 rs D 0 (upd H1 D (.lst [])) := ⟨h, Ex.new h, [], upd_same, .nil⟩
theorem cq_turn {H1 : Hp} {rs : List PyData} {D : Addr} {i : Nat} {σ2 : L2.St} {tt : TT} {r : PyData} (p : Cq H1 rs D i H') (hi : i < 90000) (hr : rs[i]? = some r) (ht : EvT tt σ2 H1 true) (he : EvG te σ2 H1 r) :
    tt σ2 H' fun b H3 => if b = true then te σ2 H3 fun y H4 => ∃ acc, H4 D = some (.lst acc) ∧ acc.length < sizeLine ∧ Cq H1 rs D (i + 1) (upd H4 D (.lst (acc ++ [y]))) else Cq H1 rs D (i + 1) H3 := by
  obtain ⟨p1, p2, acc, p3, p4⟩ := p
  refine ht H' p2 _ fun H3 e3 => ?_
  show te σ2 H3 fun y H4 => ∃ acc, H4 D = some (.lst acc) ∧ acc.length < sizeLine ∧ Cq H1 rs D (i + 1) (upd H4 D (.lst (acc ++ [y])))
  refine he H3 (p2.trans e3) _ fun v H4 e4 pv => ?_
  have hl := p4.len
  rw [List.length_take] at hl
  refine ⟨acc, e4 _ _ (e3 _ _ p3), sz_lt (by omega), p1, Ex.mut ((p2.trans e3).trans e4) p1, _, upd_same, ?_⟩
  have ht : rs.take (i + 1) = rs.take i ++ [r] := by
    obtain ⟨hlt, e⟩ := List.getElem?_eq_some_iff.mp hr
    rw [List.take_succ_eq_append_getElem hlt, e]
  rw [ht]
  exact ((p4.ex (del_ex (e3.trans e4))).app (ImAll.one (pv D acc (e3 _ _ p3)))).ex del_upd'
theorem cq_end {H1 : Hp} {rs : List PyData} {D : Addr} (p : Cq H1 rs D rs.length H') : ∃ xs, H' D = some (.lst xs) ∧ ImAll H' rs xs := by
  obtain ⟨p1, p2, acc, p3, p4⟩ := p
  rw [List.take_length] at p4
  refine ⟨acc, p3, p4.ex fun b o h => ?_⟩
  by_cases q : b = D
  · subst q; unfold del at h; rw [if_pos rfl] at h; cases h
  · rw [del_ne q] at h; exact h
theorem c_L {j : Nat} {vs : List Nat} {ds rs : List PyData} (h : EvP tl σ H (isD (.list ds))) (hl : rs.length = ds.length) (hz : ds.length ≤ 80000) (hw : ∀ x, wipe ((wipe σ vs).set j (some x)) vs = wipe σ vs)
    (ht : ∀ (i : Nat) d x H1, Ex H H1 → ds[i]? = some d → Im H1 d x → EvT t ((wipe σ vs).set j (some x)) H1 true) (he : ∀ (i : Nat) d r x H1, Ex H H1 → ds[i]? = some d → rs[i]? = some r → Im H1 d x → EvG te ((wipe σ vs).set j (some x)) H1 r) :
    EvF (tLc (iList K tl) (gName j) t te vs) σ H rs := fun H0 e Q q => h H0 e _ fun v H1 e1 pv => by
  obtain ⟨a, xs, rfl, h1, h2⟩ := im_lst pv
  refine ⟨a, rfl, ⟨xs, sq_of h1⟩, fun D hD => lc_list (xs := xs) (Cq H1 rs D) (cq_start hD) (fun i H' _ p => sq_of (p.2.1 a _ h1)) (fun i x H' hx p => ?_) fun H' p => ?_⟩
  · obtain ⟨d, hd, hi⟩ := h2.got hx
    have hlt := (List.getElem?_eq_some_iff.mp hd).1
    have hr : rs[i]? = some (rs[i]'(by omega)) := List.getElem?_eq_getElem (by omega)
    exact ⟨hw x, cq_turn p (by omega) hr (ht i d x H1 (e.trans e1) hd hi) (he i d _ x H1 (e.trans e1) hd hr hi)⟩
  · rw [h2.len, ← hl] at p
    obtain ⟨ys, k1, k2⟩ := cq_end p
    exact q D H' ys (fresh_back e1 p.1) (e1.trans p.2.1) k1 k2
theorem c_T {j : Nat} {vs : List Nat} {ds rs : List PyData} (h : EvP tl σ H (isD (.tuple ds))) (hl : rs.length = ds.length) (hz : ds.length ≤ 80000) (hw : ∀ x, wipe ((wipe σ vs).set j (some x)) vs = wipe σ vs)
    (ht : ∀ (i : Nat) d x H1, Ex H H1 → ds[i]? = some d → Im H1 d x → EvT t ((wipe σ vs).set j (some x)) H1 true) (he : ∀ (i : Nat) d r x H1, Ex H H1 → ds[i]? = some d → rs[i]? = some r → Im H1 d x → EvG te ((wipe σ vs).set j (some x)) H1 r) :
    EvF (tLc (iTup K tl) (gName j) t te vs) σ H rs := fun H0 e Q q => h H0 e _ fun v H1 e1 pv => by
  obtain ⟨a, xs, rfl, h1, h2⟩ := im_tup pv
  refine ⟨a, rfl, ⟨xs, st_of h1⟩, fun D hD => lc_tup (xs := xs) (Cq H1 rs D) (cq_start hD) (fun i H' _ p => st_of (p.2.1 a _ h1)) (fun i x H' hx p => ?_) fun H' p => ?_⟩
  · obtain ⟨d, hd, hi⟩ := h2.got hx
    have hlt := (List.getElem?_eq_some_iff.mp hd).1
    have hr : rs[i]? = some (rs[i]'(by omega)) := List.getElem?_eq_getElem (by omega)
    exact ⟨hw x, cq_turn p (by omega) hr (ht i d x H1 (e.trans e1) hd hi) (he i d _ x H1 (e.trans e1) hd hr hi)⟩
  · rw [h2.len, ← hl] at p
    obtain ⟨ys, k1, k2⟩ := cq_end p
    exact q D H' ys (fresh_back e1 p.1) (e1.trans p.2.1) k1 k2
theorem c_R {j n : Nat} {vs : List Nat} {rs : List PyData} (h : EvP ta σ H (isD (nD n))) (hl : rs.length = n) (hz : n ≤ 80000) (hw : ∀ x, wipe ((wipe σ vs).set j (some x)) vs = wipe σ vs)
    (ht : ∀ (i : Nat) H1, Ex H H1 → i < n → EvT t ((wipe σ vs).set j (some (.int (i : Int)))) H1 true) (he : ∀ (i : Nat) r H1, Ex H H1 → i < n → rs[i]? = some r → EvG te ((wipe σ vs).set j (some (.int (i : Int)))) H1 r) :
    EvF (tLc (iRng1 (tCons ta tNil)) (gName j) t te vs) σ H rs := fun H0 e Q q => h H0 e _ fun v H1 e1 pv => by
  rw [im_int pv]
  refine ⟨(n : Int), rfl, by omega, by omega, fun D hD => lc_range (lo := 0) (n := ((n : Int)).toNat) (Cq H1 rs D) (cq_start hD) (fun i H' hi p => ?_) fun H' p => ?_⟩
  · have hi : i < n := by omega
    have hr : rs[i]? = some (rs[i]'(by omega)) := List.getElem?_eq_getElem (by omega)
    have e0 : (0 : Int) + (i : Int) = (i : Int) := Int.zero_add _
    show wipe ((wipe σ vs).set j (some (.int ((0 : Int) + (i : Int))))) vs = wipe σ vs ∧ t ((wipe σ vs).set j (some (.int ((0 : Int) + (i : Int))))) H' _
    rw [e0]
    exact ⟨hw _, cq_turn p (by omega) hr (ht i H1 (e.trans e1) hi) (he i _ H1 (e.trans e1) hi hr)⟩
  · rw [Int.toNat_natCast, ← hl] at p
    obtain ⟨ys, k1, k2⟩ := cq_end p
    exact q D H' ys (fresh_back e1 p.1) (e1.trans p.2.1) k1 k2
theorem t_yes : EvT tYes σ H true := fun H1 _ _ q => q H1 (Ex.refl H1)
/-! ### the same, something behind -/
theorem q_asg {i : Nat} (h : EvP te σ H P) (k : ∀ v H1, Ex H H1 → P v H1 → tz D (σ.set i (some v)) H1) : tSeq (tAsg te (gName i)) tz D σ H := h H (Ex.refl H) _ k
theorem q_asgF {i : Nat} {ds : List PyData} (h : EvF te σ H ds) (k : ∀ p H1 xs, H p = none → Ex H H1 → H1 p = some (.lst xs) → ImAll H1 ds xs → tz D (σ.set i (some (.ref p))) H1) : tSeq (tAsg te (gName i)) tz D σ H := h H (Ex.refl H) _ k
theorem q_if {b : Bool} (h : EvT t σ H b) (h1 : b = true → ∀ H1, Ex H H1 → tu { D with nx := tz D } σ H1) (h2 : b = false → ∀ H1, Ex H H1 → tw { D with nx := tz D } σ H1) : tSeq (tIfS t tu tw) tz D σ H := k_if (D := { D with nx := tz D }) h h1 h2
theorem q_no (h : EvT t σ H false) (k : ∀ H1, Ex H H1 → tz D σ H1) : tSeq (tIfS t tu tNext) tz D σ H := k_no (D := { D with nx := tz D }) h k
theorem q_yes (h : EvT t σ H true) (k : ∀ H1, Ex H H1 → tu { D with nx := tz D } σ H1) : tSeq (tIfS t tu tw) tz D σ H := k_yes (D := { D with nx := tz D }) h k
theorem q_when {b : Bool} (h : EvT t σ H b) (h1 : b = true → ∀ H1, Ex H H1 → tu { D with nx := tz D } σ H1) (h2 : b = false → ∀ H1, Ex H H1 → tz D σ H1) : tSeq (tIfS t tu tNext) tz D σ H := k_if (D := { D with nx := tz D }) h h1 h2
theorem q_app {l : Addr} {xs : List V} (hl : H l = some (.lst xs)) (ha : EvP ta σ H (isV (.ref l))) (h : EvP te σ H P) (hz : xs.length < 100000) (k : ∀ v H1, Ex H H1 → P v H1 → tz D σ (upd H1 l (.lst (xs ++ [v])))) :
    tSeq (tDrop (tBM K "list" rAppend ta (tCons te tNil))) tz D σ H := k_app (D := { D with nx := tz D }) hl ha h hz k
theorem q_appF {l : Addr} {xs : List V} {ds : List PyData} (hl : H l = some (.lst xs)) (ha : EvP ta σ H (isV (.ref l))) (h : EvF te σ H ds) (hz : xs.length < 100000) (k : ∀ p H1 ys, H p = none → Ex H H1 → H1 p = some (.lst ys) → ImAll H1 ds ys → tz D σ (upd H1 l (.lst (xs ++ [.ref p])))) :
    tSeq (tDrop (tBM K "list" rAppend ta (tCons te tNil))) tz D σ H := k_appF (D := { D with nx := tz D }) hl ha h hz k
theorem q_forT {j : Nat} {ds : List PyData} (h : EvP tl σ H (isD (.tuple ds))) (hp : ptAll ds = true)
    (k : ∀ H1, Ex H H1 → ∃ Pv : Nat → L2.St → Hp → Prop, Pv 0 σ H1 ∧ (∀ i σ' H', Pv i σ' H' → Kt H1 H') ∧
      (∀ (i : Nat) d x σ' H', ds[i]? = some d → Im H' d x → Pv i σ' H' → tu { D with nx := Pv (i + 1), ct := Pv (i + 1), bk := tz D } (σ'.set j (some x)) H') ∧ ∀ σ' H', Pv ds.length σ' H' → tz D σ' H') : tSeq (tFor (iTup K tl) (gName j) tu) tz D σ H :=
  k_forT (D := { D with nx := tz D }) h hp k
theorem q_forL {j : Nat} {ds : List PyData} (h : EvP tl σ H (isD (.list ds))) (hp : ptAll ds = true)
    (k : ∀ a xs H1, Ex H H1 → H1 a = some (.lst xs) → ∃ Pv : Nat → L2.St → Hp → Prop, Pv 0 σ H1 ∧ (∀ i σ' H', Pv i σ' H' → Kt H1 H' ∧ H' a = some (.lst xs)) ∧
      (∀ (i : Nat) d x σ' H', ds[i]? = some d → Im H' d x → Pv i σ' H' → tu { D with nx := Pv (i + 1), ct := Pv (i + 1), bk := tz D } (σ'.set j (some x)) H') ∧ ∀ σ' H', Pv ds.length σ' H' → tz D σ' H') : tSeq (tFor (iList K tl) (gName j) tu) tz D σ H :=
  k_forL (D := { D with nx := tz D }) h hp k
/-- over a list that was just reckoned, by a body that changes nothing -/
theorem q_forLx {j : Nat} (h : EvP tl σ H P)
    (k : ∀ v H0, Ex H H0 → P v H0 → ∃ ds, Im H0 (.list ds) v ∧ ptAll ds = true ∧ ∀ H1, Ex H0 H1 → ∃ Pv : Nat → L2.St → Hp → Prop, Pv 0 σ H1 ∧ (∀ i σ' H', Pv i σ' H' → Ex H1 H') ∧
      (∀ (i : Nat) d x σ' H', ds[i]? = some d → Im H' d x → Pv i σ' H' → tu { D with nx := Pv (i + 1), ct := Pv (i + 1), bk := tz D } (σ'.set j (some x)) H') ∧ ∀ σ' H', Pv ds.length σ' H' → tz D σ' H') : tSeq (tFor (iList K tl) (gName j) tu) tz D σ H :=
  h H (Ex.refl H) _ fun v H1 e1 pv => by
    obtain ⟨ds, hd, hp, k⟩ := k v H1 e1 pv
    obtain ⟨a, xs, rfl, h1, h2⟩ := im_lst hd
    obtain ⟨Pv, p0, pk, ps, pd⟩ := k H1 (Ex.refl _)
    refine ⟨a, rfl, ⟨xs, sq_of h1⟩, for_list Pv p0 (fun i σ' H' _ p => sq_of (pk i σ' H' p _ _ h1)) (fun i x σ' H' hx p => ?_) (by rw [h2.len]; exact pd)⟩
    obtain ⟨d, hd, hi⟩ := h2.got hx
    exact ps i d x σ' H' hd (hi.ex (pk i σ' H' p)) p
/-- over a list that was just reckoned, whose address the body knows to be another than those it writes at -/
theorem q_forLv {j : Nat} (h : EvP tl σ H P)
    (k : ∀ v H0, Ex H H0 → P v H0 → ∃ a xs ds, v = .ref a ∧ H0 a = some (.lst xs) ∧ ImAll H0 ds xs ∧ ptAll ds = true ∧ ∃ Pv : Nat → L2.St → Hp → Prop, Pv 0 σ H0 ∧ (∀ i σ' H', Pv i σ' H' → Kt H0 H' ∧ H' a = some (.lst xs)) ∧
      (∀ (i : Nat) d x σ' H', ds[i]? = some d → Im H' d x → Pv i σ' H' → tu { D with nx := Pv (i + 1), ct := Pv (i + 1), bk := tz D } (σ'.set j (some x)) H') ∧ ∀ σ' H', Pv ds.length σ' H' → tz D σ' H') : tSeq (tFor (iList K tl) (gName j) tu) tz D σ H :=
  h H (Ex.refl H) _ fun v H1 e1 pv => by
    obtain ⟨a, xs, ds, rfl, h1, h2, hp, Pv, p0, pk, ps, pd⟩ := k v H1 e1 pv
    refine ⟨a, rfl, ⟨xs, sq_of h1⟩, for_list Pv p0 (fun i σ' H' _ p => sq_of (pk i σ' H' p).2) (fun i x σ' H' hx p => ?_) (by rw [h2.len]; exact pd)⟩
    obtain ⟨d, hd, hi⟩ := h2.got hx
    exact ps i d x σ' H' hd (hi.kt (pk i σ' H' p).1 (pt_mem hp d (List.mem_of_getElem? hd))) p
theorem q_forLa {j : Nat} {a : Addr} {xs : List V} {ds : List PyData} (h : EvP tl σ H (isV (.ref a))) (ha : H a = some (.lst xs)) (hi : ImAll H ds xs) (hp : ptAll ds = true)
    (k : ∀ H1, Ex H H1 → ∃ Pv : Nat → L2.St → Hp → Prop, Pv 0 σ H1 ∧ (∀ i σ' H', Pv i σ' H' → Kt H1 H' ∧ H' a = some (.lst xs)) ∧
      (∀ (i : Nat) d x σ' H', ds[i]? = some d → Im H' d x → Pv i σ' H' → tu { D with nx := Pv (i + 1), ct := Pv (i + 1), bk := tz D } (σ'.set j (some x)) H') ∧ ∀ σ' H', Pv ds.length σ' H' → tz D σ' H') : tSeq (tFor (iList K tl) (gName j) tu) tz D σ H :=
  h H (Ex.refl H) _ fun v H1 e1 pv => by
    have pv : v = .ref a := pv
    subst pv
    obtain ⟨Pv, p0, pk, ps, pd⟩ := k H1 e1
    have h2 := hi.ex e1
    refine ⟨a, rfl, ⟨xs, sq_of (e1 _ _ ha)⟩, for_list Pv p0 (fun i σ' H' _ p => sq_of (pk i σ' H' p).2) (fun i x σ' H' hx p => ?_) (by rw [h2.len]; exact pd)⟩
    obtain ⟨d, hd, hi⟩ := h2.got hx
    exact ps i d x σ' H' hd (hi.kt (pk i σ' H' p).1 (pt_mem hp d (List.mem_of_getElem? hd))) p
theorem d_index {to : TE} {ds : List PyData} {j : Nat} (h : EvP to σ H (isD (.list ds))) (h2 : EvP te σ H (isD d)) (s1 : SeqAt.shaped (.list ds) = true) (s2 : SeqAt.shaped d = true) (hj : ds[j]? = some d') (he : PyData.eqv d' d = true)
    (hn : ∀ (m : Nat) z, m < j → ds[m]? = some z → PyData.eqv z d = false) : EvP (tBM K "list" (rIndexD K) to (tCons te tNil)) σ H (isD (nD j)) := fun H1 e Q q =>
  h H1 e _ fun v H2 e2 pv => by
    obtain ⟨a, xs, rfl, h3, h4⟩ := im_lst pv
    refine ⟨Or.inl ⟨rfl, xs, sq_of h3⟩, h2 H2 (e.trans e2) _ fun y H3 e3 py => ?_⟩
    exact ⟨a, y, d, ds, j, d', rfl, rfl, im_dp _ _ (pv.ex e3), im_dp _ _ py, s1, s2, hj, he, hn, q _ H3 (e2.trans e3) (.int _)⟩
theorem q_forR {j n : Nat} (h : EvP ta σ H (isD (nD n))) (hn : n ≤ 100000)
    (k : ∀ H1, Ex H H1 → ∃ Pv : Nat → L2.St → Hp → Prop, Pv 0 σ H1 ∧
      (∀ (i : Nat) σ' H', i < n → Pv i σ' H' → tu { D with nx := Pv (i + 1), ct := Pv (i + 1), bk := tz D } (σ'.set j (some (.int (i : Int)))) H') ∧ ∀ σ' H', Pv n σ' H' → tz D σ' H') : tSeq (tFor (iRng1 (tCons ta tNil)) (gName j) tu) tz D σ H :=
  k_forR (D := { D with nx := tz D }) h hn k
theorem q_forR2 {j lo n : Nat} (h : EvP ta σ H (isD (nD lo))) (h2 : EvP tb σ H (isD (nD n))) (hn : n ≤ 100000 ∧ lo ≤ 100000)
    (k : ∀ H1, Ex H H1 → ∃ Pv : Nat → L2.St → Hp → Prop, Pv 0 σ H1 ∧
      (∀ (i : Nat) σ' H', lo + i < n → Pv i σ' H' → tu { D with nx := Pv (i + 1), ct := Pv (i + 1), bk := tz D } (σ'.set j (some (.int ((lo + i : Nat) : Int)))) H') ∧ ∀ σ' H', Pv (n - lo) σ' H' → tz D σ' H') : tSeq (tFor (iRng2 (tCons ta (tCons tb tNil))) (gName j) tu) tz D σ H :=
  k_forR2 (D := { D with nx := tz D }) h h2 hn k
end
end Gr
end
section
set_option maxRecDepth 100000
set_option maxHeartbeats 4000000
namespace Gr
open PySem L2 PySem.Spec PyProof.Rows Evl
/-- what the top has left, as the walks want it -/
structure All (K : PySem.W.Frag) (mg : Str → Option Value) (CB CA : Addr) : Prop where
  t_is_word : Tf K mg "is_word" s_is_word ["letters", "word"]
  t_look_at : Tf K mg "look_at" s_look_at ["letters", "word", "mark"]
  t_Book_init : Tm K CB "__init__" "Book.__init__" s_Book_init ["self", "letters"]
  t_Book_put : Tm K CB "put" "Book.put" s_Book_put ["self", "word", "mark"]
  t_Book_told : Tm K CB "told" "Book.told" s_Book_told ["self", "word"]
  t_Book_heard : Tm K CB "heard" "Book.heard" s_Book_heard ["self"]
  t_rows_of : Tf K mg "rows_of" s_rows_of ["letters", "access"]
  t_gap : Tf K mg "gap" s_gap ["book", "letters", "access", "ends"]
  t_marks_of : Tf K mg "marks_of" s_marks_of ["book", "word", "ends"]
  t_place_like : Tf K mg "place_like" s_place_like ["book", "access", "ends", "marks"]
  t_stranger : Tf K mg "stranger" s_stranger ["book", "letters", "access", "ends"]
  t_numbered : Tf K mg "numbered" s_numbered ["keys"]
  t_sorted_out : Tf K mg "sorted_out" s_sorted_out ["house"]
  t_reached : Tf K mg "reached" s_reached ["house"]
  t_homes : Tf K mg "homes" s_homes ["house"]
  t_least : Tf K mg "least" s_least ["house"]
  t_said : Tf K mg "said" s_said ["house", "word"]
  t_last_said : Tf K mg "last_said" s_last_said ["house", "word"]
  t_marked_rows : Tf K mg "marked_rows" s_marked_rows ["house", "codes"]
  t_says_least : Tf K mg "says_least" s_says_least ["house"]
  t_row_places : Tf K mg "row_places" s_row_places ["book", "access", "ends", "words"]
  t_says_guess : Tf K mg "says_guess" s_says_guess ["book", "letters", "access", "ends"]
  t_room_reached : Tf K mg "room_reached" s_room_reached ["house", "word"]
  t_SayAsker_init : Tm K CA "__init__" "SayAsker.__init__" s_SayAsker_init ["self", "letters", "most"]
  t_SayAsker_wants : Tm K CA "wants" "SayAsker.wants" s_SayAsker_wants ["self"]
  t_SayAsker_access : Tm K CA "access" "SayAsker.access" s_SayAsker_access ["self"]
  t_SayAsker_tellers : Tm K CA "tellers" "SayAsker.tellers" s_SayAsker_tellers ["self"]
  t_SayAsker_heard : Tm K CA "heard" "SayAsker.heard" s_SayAsker_heard ["self"]
  t_SayAsker_hear : Tm K CA "hear" "SayAsker.hear" s_SayAsker_hear ["self", "mark"]
  t_SayAsker_agree : Tm K CA "agree" "SayAsker.agree" s_SayAsker_agree ["self"]
  t_SayAsker_differ : Tm K CA "differ" "SayAsker.differ" s_SayAsker_differ ["self", "word", "mark"]
  t_SayAsker_settle : Tm K CA "settle" "SayAsker.settle" s_SayAsker_settle ["self"]
  t_SayAsker_one_step : Tm K CA "one_step" "SayAsker.one_step" s_SayAsker_one_step ["self"]
  t_SayAsker_take_in : Tm K CA "take_in" "SayAsker.take_in" s_SayAsker_take_in ["self", "word"]
  t_SayAsker_hunt_step : Tm K CA "hunt_step" "SayAsker.hunt_step" s_SayAsker_hunt_step ["self"]
  t_law_cell : Tf K mg "_law_cell" s_law_cell ["script", "k"]
  t_law_whole : Tf K mg "_law_whole" s_law_whole ["found"]
  t_law_big : Tf K mg "_law_big" s_law_big ["script", "k"]
  t_law_mark : Tf K mg "_law_mark" s_law_mark ["cell"]
  t_law_says : Tf K mg "_law_says" s_law_says ["script", "at", "letters", "rooms"]
  t_law_rows_are : Tf K mg "_law_rows_are" s_law_rows_are ["found", "due"]
  t_law_house_is : Tf K mg "_law_house_is" s_law_house_is ["found", "due"]
  t_law_talk : Tf K mg "_law_talk" s_law_talk ["house", "word"]
  t_law_is_word : Tf K mg "_law_is_word" s_law_is_word ["found", "letters"]
  t_law_pairs : Tf K mg "_law_pairs" s_law_pairs ["one", "two"]
  t_law_unlike_words : Tf K mg "_law_unlike_words" s_law_unlike_words ["one", "two"]
  t_law_words_good : Tf K mg "_law_words_good" s_law_words_good ["words", "letters"]
  t_law_access_good : Tf K mg "_law_access_good" s_law_access_good ["access", "letters"]
  t_law_ends_good : Tf K mg "_law_ends_good" s_law_ends_good ["ends", "letters"]
  t_law_marks : Tf K mg "_law_marks" s_law_marks ["told", "word", "ends"]
  t_law_due_guess : Tf K mg "_law_due_guess" s_law_due_guess ["letters", "access", "ends", "told"]
  t_law_guess_good : Tf K mg "_law_guess_good" s_law_guess_good ["house", "letters", "asker", "told"]
  t_law_grows : Tf K mg "_law_grows" s_law_grows ["kept", "asker", "strictly"]
  t_law_wish_good : Tf K mg "_law_wish_good" s_law_wish_good ["wish", "letters", "told"]
  t_law_end_good : Tf K mg "_law_end_good" s_law_end_good ["asker", "letters", "most", "asked", "told"]
  t_law_objection : Tf K mg "_law_objection" s_law_objection ["hidden", "house", "script", "at", "times"]
  t_law_shown : Tf K mg "_law_shown" s_law_shown ["asker", "hidden", "script", "at", "state", "told"]
  t_law_hunt : Tf K mg "_law_hunt" s_law_hunt ["asker", "hidden", "script", "at", "state", "most"]
  t_law : Tf K mg "law" s_law ["script"]
  clCB : Cls K CB
  mgCB : mg "Book" = some (.ref CB)
  mkCB : PySem.W.makesIn K CB = true
  kcCB : PySem.W.keepIn K (.ref CB) = true
  nCB_letters : NoAttr K CB "letters"
  nCB_marks : NoAttr K CB "marks"
  clCA : Cls K CA
  mgCA : mg "SayAsker" = some (.ref CA)
  mkCA : PySem.W.makesIn K CA = true
  kcCA : PySem.W.keepIn K (.ref CA) = true
  nCA_letters : NoAttr K CA "letters"
  nCA_most : NoAttr K CA "most"
  nCA_book : NoAttr K CA "book"
  nCA_firsts : NoAttr K CA "firsts"
  nCA_lasts : NoAttr K CA "lasts"
  nCA_hunting : NoAttr K CA "hunting"
  nCA_wish : NoAttr K CA "wish"
  b_len : mg "len" = none
  b_range : mg "range" = none
  b_list : mg "list" = none
  b_tuple : mg "tuple" = none
  b_max : mg "max" = none
  b_min : mg "min" = none
  b_isinstance : mg "isinstance" = none
  b_int : mg "int" = none
  b_bool : mg "bool" = none
  g_GREATEST : ∃ t, mg "GREATEST" = some (.int 1000000000 t)
  g_MOST_MARK : ∃ t, mg "MOST_MARK" = some (.int 1000000000 t)
end Gr
end
section
set_option maxRecDepth 100000
set_option maxHeartbeats 4000000
namespace Gr
open PySem L2 PySem.Spec PyProof.Rows Evl
theorem map_get {α β : Type} {f : α → β} {l : List α} {i : Nat} {d : β} (h : (l.map f)[i]? = some d) : ∃ x, l[i]? = some x ∧ d = f x := by
  rw [List.getElem?_map] at h
  cases e : l[i]? with
  | none => rw [e] at h; cases h
  | some x => rw [e] at h; exact ⟨x, rfl, (Option.some.inj h).symm⟩
theorem dF {p : Prop} [Decidable p] (h : ¬ p) : decide p = false := decide_eq_false h
theorem dT {p : Prop} [Decidable p] (h : p) : decide p = true := decide_eq_true h
section
variable {P : Program} {w : World} {K : PySem.W.Frag} {mg : Str → Option Value} {base : Heap} {CB CA : Addr}
/-! ### is_word -/
def sp_is_word : Sp := PurSp (α := Nat × Word) (fun x => Lets x.1 x.2) (fun x => [isD (nD x.1), isD (wD x.2)]) (fun x => isD (.bool true))
theorem ok_is_word (T : All K mg CB CA) : Df P w K mg base 1 "is_word" ["letters", "word"] sp_is_word := by
  refine T.t_is_word.ok sc_is_word (fun vs H Q E h => ?_) (fun f cdv A outer s H vs Q E hr h => ?_)
  · obtain ⟨x, _, a, _⟩ := h
    exact a.len
  · obtain ⟨⟨L, wd⟩, hc, ⟨v1, _, rfl, h1, v2, _, rfl, h2, rfl⟩, k⟩ := h
    refine ⟨_, pss_cons (ps_for PassesOwn.never rfl (pi_tup (pv 1)) (pg_name (i := 2) sc_is_word.nd rfl (.inl rfl))
        (pss_one (ps_if (PW.pt (pw_or (pt_cmpR op_lt (pv 2) pe_int (nomark _)) (pw_or1 (pt_cmpR op_ge (pv 2) (pv 0) (nomark _))))) (pss_one (ps_ret pe_bl)) pss_nil)))
      (pss_one (ps_ret pe_bl)), ?_⟩
    refine q_forT (d_var rfl h2) (ptAll_nat wd) fun H1 e1 => ⟨fun i σ' H' => Ex H1 H' ∧ ∃ o, σ' = [some v1, some v2, o], ⟨Ex.refl H1, _, rfl⟩, fun i σ' H' p => ex_kt p.1, ?_, ?_⟩
    · rintro i d x σ' H' hd hx ⟨e, o, rfl⟩
      obtain ⟨a, ha, rfl⟩ := map_get hd
      have hal : a < L := hc a (List.mem_of_getElem? ha)
      refine k_no (t_is (t_or (t_cmp (d_lt (d_var rfl hx) d_int)) (t_cmp (d_ge (d_var rfl hx) (d_var rfl (h1.ex (e1.trans e)))))) ?_) fun H2 e2 => ?_
      · rw [dF (by omega), dF (by omega)]; rfl
      · exact ⟨e.trans e2, _, rfl⟩
    · rintro σ' H' ⟨e, o, rfl⟩
      refine k_ret d_bl fun v H2 e2 pv => ?_
      exact k v H2 ((e1.trans e).trans e2) pv
/-! ### room_reached, said, talk: walks -/
structure HW where
  L : Nat
  g : House
  wd : Word
def HW.ok (x : HW) : Prop := Ok x.L x.g ∧ Lets x.L x.wd ∧ x.wd.length ≤ 2000
theorem get_row {α : Type} {l : List (List α)} {r : Nat} (h : r < l.length) : l[r]? = some (l.getD r []) := by
  rw [List.getD_eq_getElem?_getD, List.getElem?_eq_getElem h]
  rfl
theorem get_cell {α : Type} {l : List α} {r : Nat} {d : α} (h : r < l.length) : l[r]? = some (l.getD r d) := by
  rw [List.getD_eq_getElem?_getD, List.getElem?_eq_getElem h]
  rfl
section
variable {σ : L2.St} {H : Hp} {th tr ta : TE} {L : Nat} {g : House} {r a : Nat}
/-- house[2][room][letter], house[1][room][letter] -/
theorem d_way (O : Ok L g) (hr : r < g.ways.length) (ha : a < L) (h : EvP th σ H (isD (hD L g))) (h1 : EvP tr σ H (isD (nD r))) (h2 : EvP ta σ H (isD (nD a))) :
    EvP (tOp (rIxT K) (tOp (rIxT K) (tOp (rIxT K) th (tC (.int 2))) tr) ta) σ H (isD (nD (stp g r a))) := by
  have e := (O.wr _ (getD_mem (d := []) hr)).1
  exact d_ixT (d_ixT (d_ixT h d_int (at_nat (i := 2) rfl)) h1 (at_map (get_row hr))) h2 (at_map (get_cell (by rw [e]; exact ha)))
theorem d_say (O : Ok L g) (hr : r < g.ways.length) (ha : a < L) (h : EvP th σ H (isD (hD L g))) (h1 : EvP tr σ H (isD (nD r))) (h2 : EvP ta σ H (isD (nD a))) :
    EvP (tOp (rIxT K) (tOp (rIxT K) (tOp (rIxT K) th (tC (.int 1))) tr) ta) σ H (isD (.int (out g r a))) := by
  have hr' : r < g.says.length := by rw [O.sl]; exact hr
  have e := O.sr _ (getD_mem (d := []) hr')
  exact d_ixT (d_ixT (d_ixT h d_int (at_nat (i := 1) rfl)) h1 (at_map (get_row hr'))) h2 (at_map (get_cell (by rw [e]; exact ha)))
end
theorem take_snoc {α : Type} {l : List α} {i : Nat} {x : α} (h : l[i]? = some x) : l.take (i + 1) = l.take i ++ [x] := by
  obtain ⟨hlt, e⟩ := List.getElem?_eq_some_iff.mp h
  rw [List.take_succ_eq_append_getElem hlt, e]
theorem run_take {g : House} {wd : Word} {i a : Nat} (h : wd[i]? = some a) : run g 0 (wd.take (i + 1)) = stp g (run g 0 (wd.take i)) a := by
  rw [take_snoc h, run_app]
  rfl
theorem talk_take {g : House} {wd : Word} {i a : Nat} (h : wd[i]? = some a) : talk g 0 (wd.take (i + 1)) = talk g 0 (wd.take i) ++ [out g (run g 0 (wd.take i)) a] := by
  rw [take_snoc h, talk_app]
  rfl
def sp_room_reached : Sp := PurSp (α := HW) HW.ok (fun x => [isD (hD x.L x.g), isD (wD x.wd)]) (fun x => isD (nD (run x.g 0 x.wd)))
theorem ok_room_reached (T : All K mg CB CA) : Df P w K mg base 1 "room_reached" ["house", "word"] sp_room_reached := by
  refine T.t_room_reached.ok sc_room_reached (fun vs H Q E h => ?_) (fun f cdv A outer s H vs Q E hr h => ?_)
  · obtain ⟨x, _, a, _⟩ := h
    exact a.len
  · obtain ⟨⟨L, g, wd⟩, ⟨O, hl, hz⟩, ⟨v1, _, rfl, h1, v2, _, rfl, h2, rfl⟩, k⟩ := h
    refine ⟨_, pss_cons (ps_set (i := 2) sc_room_reached.nd rfl (.inl rfl) pe_int) (pss_cons (ps_for PassesOwn.never rfl (pi_tup (pv 1)) (pg_name (i := 3) sc_room_reached.nd rfl (.inl rfl))
        (pss_one (ps_set (i := 2) sc_room_reached.nd rfl (.inl rfl) (pe_ix ix_tup (pe_ix ix_tup (pe_ix ix_tup (pv 0) pe_int (fun _ _ => rfl)) (pv 2) (fun _ _ => rfl)) (pv 3) (fun _ _ => rfl)))))
      (pss_one (ps_ret (pv 2)))), ?_⟩
    refine q_asg (d_int (i := 0)) fun v H1 e1 pv => q_forT (d_var rfl (h2.ex e1)) (ptAll_nat wd) fun H2 e2 =>
      ⟨fun i σ' H' => Ex H2 H' ∧ ∃ o, σ' = [some v1, some v2, some (.int (run g 0 (wd.take i) : Nat)), o], ⟨Ex.refl H2, none, by rw [im_int pv]; rfl⟩, fun i σ' H' p => ex_kt p.1, ?_, ?_⟩
    · rintro i d x σ' H' hd hx ⟨e, o, rfl⟩
      obtain ⟨a, ha, rfl⟩ := map_get hd
      have hal : a < L := hl a (List.mem_of_getElem? ha)
      refine k_asg (d_way (K := K) O (O.run_lt (wd.take i) O.pos (hl.take i)) hal (d_var rfl (h1.ex ((e1.trans e2).trans e))) (d_var rfl (.int _)) (d_var rfl hx)) fun v H3 e3 pv => ?_
      exact ⟨e.trans e3, _, by rw [run_take ha, im_int pv]; rfl⟩
    · rintro σ' H' ⟨e, o, rfl⟩
      rw [List.length_map, List.take_length]
      exact k_ret (d_var rfl (.int _)) fun v H3 e3 pv => k v H3 (((e1.trans e2).trans e).trans e3) pv
end
end Gr
end
section
set_option maxRecDepth 100000
set_option maxHeartbeats 4000000
/-! Dicts of words, books. -/
namespace Gr
open PySem L2 PySem.Spec PyProof.Rows Evl
theorem u65 {k : Nat} {A : Around} (hr : Room k A) : A.units + 65 < cLine := by have := hr.un; omega
/-! ### dicts of words -/
def enc (b : List (Word × Int)) : List (List Key × V) := b.map fun p => (wK p.1, V.int p.2)
theorem wK_inj {x y : Word} : wK x = wK y ↔ x = y := map_inj fun a b h => by
  have := Sum.inl.inj h
  omega
theorem enc_val (b : List (Word × Int)) (w : Word) : valV (enc b) (wK w) = (told b w).map V.int := by
  unfold valV told enc
  rw [List.find?_map, Option.map_map, Option.map_map]
  congr 1
  congr 1
  funext p
  show decide (wK p.1 = wK w) = decide (p.1 = w)
  exact decide_eq_decide.mpr wK_inj
theorem enc_put {b : List (Word × Int)} {w : Word} {m : Int} (h : told b w = none) : putK (enc b) (wK w) (V.int m) = enc (b ++ [(w, m)]) := by
  rw [putK_new _ (by rw [enc_val, h]; rfl)]
  unfold enc
  rw [List.map_append]
  rfl
def optD : Option Int → PyData
  | none => .none
  | some m => .int m
/-- a dict of the words of b -/
abbrev isT (b : List (Word × Int)) : VP := fun v H => ∃ d, v = .ref d ∧ H d = some (.dT (enc b))
theorem mo_T (b : List (Word × Int)) : Mo (isT b) := fun _ _ _ e ⟨d, h1, h2⟩ => ⟨d, h1, e _ _ h2⟩
section
variable {K : PySem.W.Frag} {σ : L2.St} {H H' : Hp} {ta tb te tl td ty : TE} {b : List (Word × Int)} {w : Word}
theorem dget_of {d : Addr} {y : V} (h1 : H d = some (.dT (enc b))) (h2 : Im H (wD w) y) : DGet H d y ((told b w).map V.int) := by
  obtain ⟨a, rfl, ha⟩ := im_word h2
  rw [← enc_val]
  exact DGet.t h1 (by rw [wK_wV]; exact ha)
theorem im_opt {o : Option Int} : Im H (optD o) ((o.map V.int).getD .non) := by
  cases o with
  | none => exact .non
  | some m => exact .int m
theorem d_get (h : EvP td σ H (isT b)) (h2 : EvP ty σ H (isD (wD w))) : EvP (tDGet1 td ty) σ H (isD (optD (told b w))) := fun H1 e Q q =>
  h H1 e _ fun x H2 e2 ⟨d, h1, h3⟩ => ⟨d, h1, .inr ⟨_, Or.inl h3⟩, h2 H2 (e.trans e2) _ fun y H3 e3 py => ⟨_, dget_of (e3 _ _ h3) py, q _ H3 (e2.trans e3) im_opt⟩⟩
theorem d_dget {m : Int} (h : EvP td σ H (isT b)) (h2 : EvP ty σ H (isD (wD w))) (hm : told b w = some m) : EvP (tDGet td ty) σ H (isD (.int m)) := fun H1 e Q q =>
  h H1 e _ fun x H2 e2 ⟨d, h1, h3⟩ => h2 H2 (e.trans e2) _ fun y H3 e3 py => by
    have g := dget_of (e3 _ _ h3) py
    rw [hm] at g
    exact ⟨d, .int m, h1, g, q _ H3 (e2.trans e3) (.int m)⟩
theorem d_din {c : Bool} (h2 : EvP ty σ H (isD (wD w))) (h : EvP td σ H (isT b)) (hc : (told b w).isSome = c) : EvP (tDIn ty td) σ H (isD (.bool c)) := fun H1 e Q q =>
  h2 H1 e _ fun y H2 e2 py => h H2 (e.trans e2) _ fun x H3 e3 ⟨d, h1, h3⟩ => by
    have g := dget_of h3 (py.ex e3)
    refine ⟨d, _, h1, g, q _ H3 (e2.trans e3) ?_⟩
    rw [Option.isSome_map, hc]
    exact .bl c
/-- d[w] = m, a new word -/
theorem k_dput {D : Ends} {tv : TE} {m : Int} {d : Addr} (hd : H d = some (.dT (enc b))) (h : EvP td σ H (isV (.ref d))) (h2 : EvP ty σ H (isD (wD w))) (hv : EvP tv σ H (isD (.int m))) (hn : told b w = none) (hz : b.length < 100000)
    (k : ∀ H1, Ex H H1 → D.nx σ (upd H1 d (.dT (enc (b ++ [(w, m)]))))) : sDPut td ty tv D σ H := hv H (Ex.refl H) _ fun v H1 e1 pv => h H1 e1 _ fun x H2 e2 px => h2 H2 (e1.trans e2) _ fun y H3 e3 py => by
  have px : x = .ref d := px
  rw [im_int pv]
  obtain ⟨a, rfl, ha⟩ := im_word py
  have g := DPut.t (v := V.int m) (k := wK w) (e3 _ _ ((e1.trans e2) _ _ hd)) (by rw [wK_wV]; exact ha) (by unfold enc; rw [List.length_map]; exact sz_lt hz)
  rw [enc_put hn] at g
  exact ⟨d, _, px, g, k H3 ((e1.trans e2).trans e3)⟩
end
/-! ### books -/
theorem str_lm : ¬ (("letters" : Str) = "marks") := by decide +kernel
theorem str_ml : ¬ (("marks" : Str) = "letters") := by decide +kernel
def bf (L : Nat) (d : Addr) : List (Str × V) := [("letters", .int (L : Int)), ("marks", .ref d)]
theorem lk_cons {f g : Str} {v : V} {r : List (Str × V)} : List.lookup f ((g, v) :: r) = if f = g then some v else List.lookup f r := by
  by_cases h : f = g
  · have hb : (f == g) = true := beq_iff_eq.mpr h
    simp only [List.lookup, hb, if_pos h]
  · have hb : (f == g) = false := beq_eq_false_iff_ne.mpr h
    simp only [List.lookup, hb, if_neg h]
theorem bf_letters {L : Nat} {d : Addr} : (bf L d).lookup ("letters" : Str) = some (.int (L : Int)) := by
  unfold bf
  rw [lk_cons, if_pos rfl]
theorem bf_marks {L : Nat} {d : Addr} : (bf L d).lookup ("marks" : Str) = some (.ref d) := by
  unfold bf
  rw [lk_cons, if_neg str_ml, lk_cons, if_pos rfl]
theorem bf_no {L : Nat} {d : Addr} {m : Str} (h1 : ¬ m = "letters") (h2 : ¬ m = "marks") : (bf L d).lookup m = none := by
  unfold bf
  rw [lk_cons, if_neg h1, lk_cons, if_neg h2]
  rfl
/-- a book at bk, its dict at d -/
def BookAt (CB : Addr) (L : Nat) (b : List (Word × Int)) (bk d : Addr) (H : Hp) : Prop := (∃ dx, H bk = some (.ins CB dx (bf L d))) ∧ H d = some (.dT (enc b))
abbrev isB (CB : Addr) (L : Nat) (b : List (Word × Int)) : VP := fun v H => ∃ bk d, v = .ref bk ∧ BookAt CB L b bk d H
theorem mo_B (CB : Addr) (L : Nat) (b : List (Word × Int)) : Mo (isB CB L b) := fun _ _ _ e ⟨bk, d, h1, ⟨dx, h2⟩, h3⟩ => ⟨bk, d, h1, ⟨dx, e _ _ h2⟩, e _ _ h3⟩
theorem isB_ins {CB : Addr} {L : Nat} {b : List (Word × Int)} {m : Str} (h1 : ¬ m = "letters") (h2 : ¬ m = "marks") : ∀ v H, isB CB L b v H → IsIns CB m v H := fun v H ⟨bk, d, e, ⟨dx, h⟩, _⟩ => ⟨bk, dx, _, e, h, bf_no h1 h2⟩
section
variable {P : Program} {w : World} {K : PySem.W.Frag} {mg : Str → Option Value} {base : Heap} {CB CA : Addr}
/-! ### told -/
def sp_told (CB : Addr) : Sp := PurSp (α := Nat × List (Word × Int) × Word) (fun _ => True) (fun x => [isB CB x.1 x.2.1, isD (wD x.2.2)]) (fun x => isD (optD (told x.2.1 x.2.2)))
theorem ok_told (T : All K mg CB CA) : Dm P w K mg base CB 1 "told" ["self", "word"] (sp_told CB) := by
  refine T.t_Book_told.ok sc_Book_told (fun vs H Q E h => by obtain ⟨x, _, a, _⟩ := h; exact a.len) (fun f cdv A outer s H vs Q E hr h => ?_)
  obtain ⟨⟨L, b, wd⟩, hc, ⟨v1, _, rfl, ⟨bk, d, rfl, ⟨dx, h1⟩, h3⟩, v2, _, rfl, h2, rfl⟩, k⟩ := h
  refine ⟨_, (pss_one (ps_ret (pe_dget1 (hu_of hr) (pe_fld (pv 0) rfl) (pv 1) ⟨rfl, rfl, rfl, rfl⟩))), ?_⟩
  refine k_ret (d_get (e_fld (v_var rfl) h1 T.clCB T.nCB_marks bf_marks ⟨d, rfl, h3⟩ (mo_T b)) (d_var rfl h2)) fun v H1 e1 pv => ?_
  exact k v H1 e1 pv
/-! ### look_at -/
def sp_look_at : Sp := PurSp (α := Nat × Word × Int) (fun x => Lets x.1 x.2.1 ∧ 0 ≤ x.2.2 ∧ x.2.2 ≤ 1000000000) (fun x => [isD (nD x.1), isD (wD x.2.1), isD (.int x.2.2)]) (fun x => isD .none)
theorem ok_look_at (T : All K mg CB CA) (D_is_word : Df P w K mg base 1 "is_word" ["letters", "word"] sp_is_word) : Df P w K mg base 2 "look_at" ["letters", "word", "mark"] sp_look_at := by
  refine T.t_look_at.ok sc_look_at (fun vs H Q E h => by obtain ⟨x, _, a, _⟩ := h; exact a.len) (fun f cdv A outer s H vs Q E hr h => ?_)
  obtain ⟨⟨L, wd, m⟩, ⟨hl, m1, m2⟩, ⟨v1, _, rfl, h1, v2, _, rfl, h2, v3, _, rfl, h3, rfl⟩, k⟩ := h
  obtain ⟨tk, g_GREATEST⟩ := T.g_GREATEST
  refine ⟨_, (pss_cons (ps_if (pt_not (pt_val (pcall D_is_word (hr.mono (by decide)) rfl (pa_cons (pv 0) (pa_cons (pv 1) pa_nil))))) (pss_one ps_never) pss_nil) (pss_one (ps_if (PW.pt (pw_or (pt_cmpR op_lt (pv 2) pe_int (nomark _)) (pw_or1 (pt_cmpR op_gt (pv 2) (pe_glob (v := .int 1000000000) rfl g_GREATEST ⟨_, rfl⟩) (nomark _))))) (pss_one ps_never) pss_nil))), ?_⟩
  refine q_no (t_nT (t_B (e_call (L, wd) hl (a_d (d_var rfl h1) (a_d (d_var rfl h2) a_nil))))) fun H1 e1 => ?_
  refine k_no (t_oF (c_no (d_lt (d_var rfl (h3.ex e1)) d_int) (by have : (0 : Int) ≤ m := m1; omega)) (c_no (d_gt (d_var rfl (h3.ex e1)) d_int) (by have : m ≤ 1000000000 := m2; omega))) fun H2 e2 => ?_
  exact k _ H2 (e1.trans e2) .non
end
end Gr
end
section
set_option maxRecDepth 100000
set_option maxHeartbeats 4000000
/-! What is said, words that are looked at. -/
namespace Gr
open PySem L2 PySem.Spec PyProof.Rows Evl
section
variable {K : PySem.W.Frag} {σ : L2.St} {H : Hp} {ta : TE} {P : VP}
theorem ty_int {i : Int} {v : V} (h : Im H (.int i) v) : TyX K H v (.type "int") := by rw [im_int h]; exact .base (.int i)
theorem ty_tup {ds : List PyData} {v : V} (h : Im H (.tuple ds) v) : TyX K H v (.type "tuple") := by
  obtain ⟨a, xs, rfl, h1, _⟩ := im_tup h
  exact .base (.tup h1)
theorem ty_lst {ds : List PyData} {v : V} (h : Im H (.list ds) v) : TyX K H v (.type "list") := by
  obtain ⟨a, xs, rfl, h1, _⟩ := im_lst h
  exact .base (.lst h1)
theorem d_isi {d : PyData} {n m : String} {b : Bool} (h : EvP ta σ H (isD d)) (ht : ∀ v H1, Im H1 d v → TyX K H1 v (.type m)) (hk : kitB m n = some b) : EvP (tCB (rIsi K) (tCons ta (tCons (tC (.ty n)) tNil))) σ H (isD (.bool b)) := fun H1 e Q q =>
  h H1 e _ fun v H2 e2 pv => ⟨v, .ty n, .type m, .type n, b, rfl, .ty n, ht v H2 pv, kit_ty hk, q _ H2 e2 (.bl b)⟩
end
theorem ii : kitB "int" "int" = some true := by decide +kernel
theorem ib : kitB "int" "bool" = some false := by decide +kernel
theorem tt : kitB "tuple" "tuple" = some true := by decide +kernel
theorem ll : kitB "list" "list" = some true := by decide +kernel
theorem getLast_talk {g : House} {r : Nat} {w : Word} (h : w ≠ []) : (talk g r w).getLast? = some (ans g r w) := by
  unfold ans
  rw [List.getLastD_eq_getLast?]
  have hne : talk g r w ≠ [] := fun e => h (List.length_eq_zero_iff.mp (by rw [← talk_len g w r, e]; rfl))
  rw [List.getLast?_eq_some_getLast hne]
  rfl
theorem last_int {l : List Int} {x : Int} (h : l.getLast? = some x) : (l.map PyData.int).getLast? = some (.int x) := by rw [List.getLast?_map, h]; rfl
section
variable {P : Program} {w : World} {K : PySem.W.Frag} {mg : Str → Option Value} {base : Heap} {CB CA : Addr}
/-! ### said -/
def sp_talk : Sp := LstSp (α := HW) HW.ok (fun x => [isD (hD x.L x.g), isD (wD x.wd)]) (fun x => (talk x.g 0 x.wd).map .int)
theorem ok_said (T : All K mg CB CA) (D_is_word : Df P w K mg base 1 "is_word" ["letters", "word"] sp_is_word) : Df P w K mg base 2 "said" ["house", "word"] sp_talk := by
  refine T.t_said.ok sc_said (fun vs H Q E h => by obtain ⟨x, _, a, _⟩ := h; exact a.len) (fun f cdv A outer s H vs Q E hr h => ?_)
  obtain ⟨⟨L, g, wd⟩, ⟨O, hl, hz⟩, ⟨v1, _, rfl, h1, v2, _, rfl, h2, rfl⟩, k⟩ := h
  refine ⟨_, (pss_cons (ps_if (pt_not (pt_val (pcall D_is_word (hr.mono (by decide)) rfl (pa_cons (pe_ix ix_tup (pv 0) pe_int (fun _ _ => rfl)) (pa_cons (pv 1) pa_nil))))) (pss_one ps_never) pss_nil) (pss_cons (ps_set (i := 2) sc_said.nd rfl (.inl rfl) pe_int) (pss_cons (ps_set (i := 3) sc_said.nd rfl (.inl rfl) (pe_lst pa_nil)) (pss_cons (ps_for PassesOwn.never rfl (pi_tup (pv 1)) (pg_name (i := 4) sc_said.nd rfl (.inl rfl)) (pss_cons (ps_expr (pe_bm PySem.F.plainAttrs_list PySem.F.slot_list_append PySem.F.type_list_append mt_append (pv 3) (pa_cons (pe_ix ix_tup (pe_ix ix_tup (pe_ix ix_tup (pv 0) pe_int (fun _ _ => rfl)) (pv 2) (fun _ _ => rfl)) (pv 4) (fun _ _ => rfl)) pa_nil))) (pss_one (ps_set (i := 2) sc_said.nd rfl (.inl rfl) (pe_ix ix_tup (pe_ix ix_tup (pe_ix ix_tup (pv 0) pe_int (fun _ _ => rfl)) (pv 2) (fun _ _ => rfl)) (pv 4) (fun _ _ => rfl)))))) (pss_one (ps_ret (pv 3))))))), ?_⟩
  refine q_no (t_nT (t_B (e_call (L, wd) hl (a_d (d_ixT (d_var rfl h1) d_int (at_nat (i := 0) rfl)) (a_d (d_var rfl h2) a_nil))))) fun H1 e1 => ?_
  refine q_asg (d_int (i := 0)) fun v3 H2 e2 p3 => ?_
  refine q_asgF f_nil fun l H3 xs l0 e3 hl3 hx => ?_
  have e13 := (e1.trans e2).trans e3
  have l0' : H l = none := fresh_back (e1.trans e2) l0
  refine q_forT (d_var rfl (h2.ex e13)) (ptAll_nat wd) fun H4 e4 => ⟨fun i σ' H' => Ex H H' ∧ Kt H4 H' ∧ H' l = some (.lst ((talk g 0 (wd.take i)).map V.int)) ∧ ∃ o, σ' = [some v1, some v2, some (.int (run g 0 (wd.take i) : Nat)), some (.ref l), o],
    ⟨e13.trans e4, Kt.refl _, by rw [e4 _ _ hl3, imAll_intv (ns := []) hx]; rfl, none, by rw [im_int p3]; rfl⟩, fun i σ' H' p => p.2.1, ?_, ?_⟩
  · rintro i d x σ' H' hd hx ⟨e, kt, hL, o, rfl⟩
    obtain ⟨a, ha, rfl⟩ := map_get hd
    have hal : a < L := hl a (List.mem_of_getElem? ha)
    have hrl := O.run_lt (wd.take i) O.pos (hl.take i)
    have hlen : ((talk g 0 (wd.take i)).map V.int).length ≤ i := by rw [List.length_map, talk_len, List.length_take]; omega
    have hi : i < wd.length := (List.getElem?_eq_some_iff.mp ha).1
    refine q_app hL (v_var rfl) (d_say (K := K) O hrl hal (d_var rfl (h1.ex e)) (d_var rfl (.int _)) (d_var rfl hx)) (by have : wd.length ≤ 2000 := hz; omega) fun v H5 e5 pv => ?_
    refine k_asg (d_way (K := K) O hrl hal (d_var rfl (h1.ex (Ex.mut (e.trans e5) l0'))) (d_var rfl (.int _)) (d_var rfl ((hx.ex e5).kt (Kt.upd (Kt.refl _) (e5 _ _ hL) fun _ z => nomatch z) (by simp only [pt])))) fun v' H6 e6 pv' => ?_
    refine ⟨(Ex.mut (e.trans e5) l0').trans e6, (kt.trans (Kt.upd (ex_kt e5) (e5 _ _ hL) fun _ z => nomatch z)).trans (ex_kt e6), ?_, _, by rw [run_take ha, im_int pv']; rfl⟩
    rw [e6 _ _ upd_same, talk_take ha, List.map_append, im_int pv]
    rfl
  · rintro σ' H' ⟨e, kt, hL, o, rfl⟩
    rw [List.length_map, List.take_length] at hL
    refine k_ret (v_var rfl) fun v H5 e5 pv => ?_
    rw [show v = V.ref l from pv]
    exact k l H5 _ l0' (e.trans e5) (e5 _ _ hL) (imAll_int _)
theorem ok_law_talk (T : All K mg CB CA) : Df P w K mg base 1 "_law_talk" ["house", "word"] sp_talk := by
  refine T.t_law_talk.ok sc_law_talk (fun vs H Q E h => by obtain ⟨x, _, a, _⟩ := h; exact a.len) (fun f cdv A outer s H vs Q E hr h => ?_)
  obtain ⟨⟨L, g, wd⟩, ⟨O, hl, hz⟩, ⟨v1, _, rfl, h1, v2, _, rfl, h2, rfl⟩, k⟩ := h
  refine ⟨_, (pss_cons (ps_set (i := 2) sc_law_talk.nd rfl (.inl rfl) pe_int) (pss_cons (ps_set (i := 3) sc_law_talk.nd rfl (.inl rfl) (pe_lst pa_nil)) (pss_cons (ps_for PassesOwn.never rfl (pi_tup (pv 1)) (pg_name (i := 4) sc_law_talk.nd rfl (.inl rfl)) (pss_cons (ps_expr (pe_bm PySem.F.plainAttrs_list PySem.F.slot_list_append PySem.F.type_list_append mt_append (pv 3) (pa_cons (pe_ix ix_tup (pe_ix ix_tup (pe_ix ix_tup (pv 0) pe_int (fun _ _ => rfl)) (pv 2) (fun _ _ => rfl)) (pv 4) (fun _ _ => rfl)) pa_nil))) (pss_one (ps_set (i := 2) sc_law_talk.nd rfl (.inl rfl) (pe_ix ix_tup (pe_ix ix_tup (pe_ix ix_tup (pv 0) pe_int (fun _ _ => rfl)) (pv 2) (fun _ _ => rfl)) (pv 4) (fun _ _ => rfl)))))) (pss_one (ps_ret (pv 3)))))), ?_⟩
  refine q_asg (d_int (i := 0)) fun v3 H2 e2 p3 => ?_
  refine q_asgF f_nil fun l H3 xs l0 e3 hl3 hx => ?_
  have e13 := e2.trans e3
  have l0' : H l = none := fresh_back e2 l0
  refine q_forT (d_var rfl (h2.ex e13)) (ptAll_nat wd) fun H4 e4 => ⟨fun i σ' H' => Ex H H' ∧ Kt H4 H' ∧ H' l = some (.lst ((talk g 0 (wd.take i)).map V.int)) ∧ ∃ o, σ' = [some v1, some v2, some (.int (run g 0 (wd.take i) : Nat)), some (.ref l), o],
    ⟨e13.trans e4, Kt.refl _, by rw [e4 _ _ hl3, imAll_intv (ns := []) hx]; rfl, none, by rw [im_int p3]; rfl⟩, fun i σ' H' p => p.2.1, ?_, ?_⟩
  · rintro i d x σ' H' hd hx ⟨e, kt, hL, o, rfl⟩
    obtain ⟨a, ha, rfl⟩ := map_get hd
    have hal : a < L := hl a (List.mem_of_getElem? ha)
    have hrl := O.run_lt (wd.take i) O.pos (hl.take i)
    have hlen : ((talk g 0 (wd.take i)).map V.int).length ≤ i := by rw [List.length_map, talk_len, List.length_take]; omega
    have hi : i < wd.length := (List.getElem?_eq_some_iff.mp ha).1
    refine q_app hL (v_var rfl) (d_say (K := K) O hrl hal (d_var rfl (h1.ex e)) (d_var rfl (.int _)) (d_var rfl hx)) (by have : wd.length ≤ 2000 := hz; omega) fun v H5 e5 pv => ?_
    refine k_asg (d_way (K := K) O hrl hal (d_var rfl (h1.ex (Ex.mut (e.trans e5) l0'))) (d_var rfl (.int _)) (d_var rfl ((hx.ex e5).kt (Kt.upd (Kt.refl _) (e5 _ _ hL) fun _ z => nomatch z) (by simp only [pt])))) fun v' H6 e6 pv' => ?_
    refine ⟨(Ex.mut (e.trans e5) l0').trans e6, (kt.trans (Kt.upd (ex_kt e5) (e5 _ _ hL) fun _ z => nomatch z)).trans (ex_kt e6), ?_, _, by rw [run_take ha, im_int pv']; rfl⟩
    rw [e6 _ _ upd_same, talk_take ha, List.map_append, im_int pv]
    rfl
  · rintro σ' H' ⟨e, kt, hL, o, rfl⟩
    rw [List.length_map, List.take_length] at hL
    refine k_ret (v_var rfl) fun v H5 e5 pv => ?_
    rw [show v = V.ref l from pv]
    exact k l H5 _ l0' (e.trans e5) (e5 _ _ hL) (imAll_int _)
/-! ### last_said -/
def sp_last_said : Sp := PurSp (α := HW) (fun x => x.ok ∧ x.wd ≠ []) (fun x => [isD (hD x.L x.g), isD (wD x.wd)]) (fun x => isD (.int (ans x.g 0 x.wd)))
theorem ok_last_said (T : All K mg CB CA) (D_said : Df P w K mg base 2 "said" ["house", "word"] sp_talk) : Df P w K mg base 3 "last_said" ["house", "word"] sp_last_said := by
  refine T.t_last_said.ok sc_last_said (fun vs H Q E h => by obtain ⟨x, _, a, _⟩ := h; exact a.len) (fun f cdv A outer s H vs Q E hr h => ?_)
  obtain ⟨x, ⟨hx, hne⟩, ⟨v1, _, rfl, h1, v2, _, rfl, h2, rfl⟩, k⟩ := h
  refine ⟨_, (pss_cons (ps_set (i := 2) sc_last_said.nd rfl (.inl rfl) (pcall D_said (hr.mono (by decide)) rfl (pa_cons (pv 0) (pa_cons (pv 1) pa_nil)))) (pss_cons (ps_if (pt_cmpR op_eq (pe_callB call_len_seq (by rfl) T.b_len PySem.boot_len (pa_cons (pv 2) pa_nil)) pe_int (nomark _)) (pss_one ps_never) pss_nil) (pss_one (ps_ret (pe_ix ix_list (pv 2) (pe_un un_neg pe_int) (fun _ _ => rfl)))))), ?_⟩
  refine q_asgF (f_call x hx (a_d (d_var rfl h1) (a_d (d_var rfl h2) a_nil))) fun l H1 xs l0 e1 hl ha => ?_
  have hL : Im H1 (lD (talk x.g 0 x.wd)) (.ref l) := .lst hl ha
  have hpos : (talk x.g 0 x.wd).length ≠ 0 := by rw [talk_len]; exact fun e => hne (List.length_eq_zero_iff.mp e)
  refine q_no (c_no (d_eqI (d_lenL (K := K) (d_var rfl hL)) d_int) (by rw [List.length_map]; omega)) fun H2 e2 => ?_
  refine k_ret (d_ixL (K := K) (d_var rfl (hL.ex e2)) (d_neg1) (at_neg (last_int (getLast_talk hne)))) fun v H3 e3 pv => ?_
  exact k v H3 ((e1.trans e2).trans e3) pv
/-! ### law_whole, law_is_word -/
def sp_whole : Sp := PurSp (α := Int) (fun _ => True) (fun x => [isD (.int x)]) (fun _ => isD (.bool true))
theorem ok_law_whole (T : All K mg CB CA) : Df P w K mg base 1 "_law_whole" ["found"] sp_whole := by
  refine T.t_law_whole.ok sc_law_whole (fun vs H Q E h => by obtain ⟨x, _, a, _⟩ := h; exact a.len) (fun f cdv A outer s H vs Q E hr h => ?_)
  obtain ⟨x, _, ⟨v1, _, rfl, h1, rfl⟩, k⟩ := h
  refine ⟨_, (pss_one (ps_ret (pe_and (pe_callB call_isi (by rfl) T.b_isinstance (by decide +kernel) (pa_cons (pv 0) (pa_cons (pe_bltn (v := .ty "int") (by rfl) T.b_int (by decide +kernel) rfl) pa_nil))) (pe_one (pe_not (pe_callB call_isi (by rfl) T.b_isinstance (by decide +kernel) (pa_cons (pv 0) (pa_cons (pe_bltn (v := .ty "bool") (by rfl) T.b_bool (by decide +kernel) rfl) pa_nil)))))))), ?_⟩
  refine k_ret (d_andV (d_isi (K := K) (d_var rfl h1) (fun _ _ p => ty_int p) ii) fun _ => d_notV (d_isi (K := K) (d_var rfl h1) (fun _ _ p => ty_int p) ib)) fun v H1 e1 pv => ?_
  exact k v H1 e1 pv
def sp_law_is_word : Sp := PurSp (α := Nat × Word) (fun x => Lets x.1 x.2) (fun x => [isD (wD x.2), isD (nD x.1)]) (fun x => isD (.bool true))
theorem ok_law_is_word (T : All K mg CB CA) (D_law_whole : Df P w K mg base 1 "_law_whole" ["found"] sp_whole) : Df P w K mg base 2 "_law_is_word" ["found", "letters"] sp_law_is_word := by
  refine T.t_law_is_word.ok sc_law_is_word (fun vs H Q E h => by obtain ⟨x, _, a, _⟩ := h; exact a.len) (fun f cdv A outer s H vs Q E hr h => ?_)
  obtain ⟨⟨L, wd⟩, hc, ⟨v1, _, rfl, h1, v2, _, rfl, h2, rfl⟩, k⟩ := h
  refine ⟨_, (pss_cons (ps_if (pt_not (pt_val (pe_callB call_isi (by rfl) T.b_isinstance (by decide +kernel) (pa_cons (pv 0) (pa_cons (pe_bltn (v := .ty "tuple") (by rfl) T.b_tuple (by decide +kernel) rfl) pa_nil))))) (pss_one (ps_ret pe_bl)) pss_nil) (pss_cons (ps_for PassesOwn.never rfl (pi_tup (pv 0)) (pg_name (i := 2) sc_law_is_word.nd rfl (.inl rfl)) (pss_one (ps_if (PW.pt (pw_or (pt_not (pt_val (pcall D_law_whole (hr.mono (by decide)) rfl (pa_cons (pv 2) pa_nil)))) (pw_or (pt_cmpR op_lt (pv 2) pe_int (nomark _)) (pw_or1 (pt_cmpR op_ge (pv 2) (pv 1) (nomark _)))))) (pss_one (ps_ret pe_bl)) pss_nil))) (pss_one (ps_ret pe_bl)))), ?_⟩
  refine q_no (t_nT (t_B (d_isi (K := K) (d_var rfl h1) (fun _ _ p => ty_tup p) tt))) fun H0 e0 => ?_
  refine q_forT (d_var rfl (h1.ex e0)) (ptAll_nat wd) fun H1 e1 => ⟨fun i σ' H' => Ex H1 H' ∧ ∃ o, σ' = [some v1, some v2, o], ⟨Ex.refl H1, _, rfl⟩, fun i σ' H' p => ex_kt p.1, ?_, ?_⟩
  · rintro i d x σ' H' hd hx ⟨e, o, rfl⟩
    obtain ⟨a, ha, rfl⟩ := map_get hd
    have hal : a < L := hc a (List.mem_of_getElem? ha)
    refine k_no (t_oF (t_nT (t_B (e_call (a : Int) trivial (a_d (d_var rfl hx) a_nil)))) (t_oF (c_no (d_lt (d_var rfl hx) d_int) (by omega)) (c_no (d_ge (d_var rfl hx) (d_var rfl (h2.ex ((e0.trans e1).trans e)))) (by omega)))) fun H2 e2 => ?_
    exact ⟨e.trans e2, _, rfl⟩
  · rintro σ' H' ⟨e, o, rfl⟩
    refine k_ret d_bl fun v H2 e2 pv => ?_
    exact k v H2 (((e0.trans e1).trans e).trans e2) pv
/-! ### law_words_good, law_access_good, law_ends_good -/
def sp_words_good : Sp := PurSp (α := Nat × List Word) (fun x => (∀ w ∈ x.2, Lets x.1 w) ∧ x.2.Nodup ∧ x.2.length ≤ 1000) (fun x => [isD (.list (wsD x.2)), isD (nD x.1)]) (fun x => isD (.bool true))
theorem notin_take {α : Type} {l : List α} {i : Nat} {x : α} (hn : l.Nodup) (h : l[i]? = some x) : x ∉ l.take i := fun m => by
  obtain ⟨j, hj, e⟩ := List.mem_iff_getElem.mp m
  rw [List.length_take] at hj
  rw [List.getElem_take] at e
  obtain ⟨hi, e2⟩ := List.getElem?_eq_some_iff.mp h
  have := (List.getElem_inj hn).mp (e.trans e2.symm)
  omega
theorem ok_law_words_good (T : All K mg CB CA) (D_law_is_word : Df P w K mg base 2 "_law_is_word" ["found", "letters"] sp_law_is_word) : Df P w K mg base 3 "_law_words_good" ["words", "letters"] sp_words_good := by
  refine T.t_law_words_good.ok sc_law_words_good (fun vs H Q E h => by obtain ⟨x, _, a, _⟩ := h; exact a.len) (fun f cdv A outer s H vs Q E hr h => ?_)
  obtain ⟨⟨L, ws⟩, ⟨hl, hn, hz⟩, ⟨v1, _, rfl, h1, v2, _, rfl, h2, rfl⟩, k⟩ := h
  have hz : ws.length ≤ 1000 := hz
  refine ⟨_, (pss_cons (ps_if (pt_not (pt_val (pe_callB call_isi (by rfl) T.b_isinstance (by decide +kernel) (pa_cons (pv 0) (pa_cons (pe_bltn (v := .ty "list") (by rfl) T.b_list (by decide +kernel) rfl) pa_nil))))) (pss_one (ps_ret pe_bl)) pss_nil) (pss_cons (ps_for PassesOwn.never rfl (pi_range1 (by rfl) T.b_range (pa_cons (pe_callB call_len_seq (by rfl) T.b_len PySem.boot_len (pa_cons (pv 0) pa_nil)) pa_nil)) (pg_name (i := 2) sc_law_words_good.nd rfl (.inl rfl)) (pss_one (ps_if (PW.pt (pw_or (pt_not (pt_val (pcall D_law_is_word (hr.mono (by decide)) rfl (pa_cons (pe_ix ix_list (pv 0) (pv 2) (fun _ _ => rfl)) (pa_cons (pv 1) pa_nil))))) (pw_or1 (pt_cmpR (op_inD (u65 hr)) (pe_ix ix_list (pv 0) (pv 2) (fun _ _ => rfl)) (pe_slice sl_list (pv 0) po_none (po_some (pv 2))) (by rfl))))) (pss_one (ps_ret pe_bl)) pss_nil))) (pss_one (ps_ret pe_bl)))), ?_⟩
  refine q_no (t_nT (t_B (d_isi (K := K) (d_var rfl h1) (fun _ _ p => ty_lst p) ll))) fun H0 e0 => ?_
  refine q_forR (n := ws.length) (d_lenM (K := K) (d_var rfl (h1.ex e0))) (by omega) fun H1 e1 => ⟨fun i σ' H' => Ex H1 H' ∧ ∃ o, σ' = [some v1, some v2, o], ⟨Ex.refl H1, _, rfl⟩, ?_, ?_⟩
  · rintro i σ' H' hi ⟨e, o, rfl⟩
    have hw : ws[i]? = some ws[i] := List.getElem?_eq_getElem hi
    have h1' := h1.ex ((e0.trans e1).trans e)
    have hit := d_ixL (K := K) (σ := [some v1, some v2, some (V.int (i : Int))]) (d_var (i := 0) rfl h1') (d_var (i := 2) rfl (.int _)) (at_map hw)
    refine k_no (t_oF (t_nT (t_B (e_call (L, ws[i]) (hl _ (List.getElem_mem hi)) (a_d hit (a_d (d_var rfl (h2.ex ((e0.trans e1).trans e))) a_nil)))))
      (t_cmp (d_inD hit ((f_slL (d_var rfl h1') o_none (o_some (d_var rfl (.int _)))).toL) ((sh_wD _).ok (by decide)) (by rw [cutD_map]; exact (sh_ws _).ok (by decide)) (by rw [cutD_map, cutD_to]; exact any_ws.trans (dF (notin_take hn hw)))))) fun H2 e2 => ?_
    exact ⟨e.trans e2, _, rfl⟩
  · rintro σ' H' ⟨e, o, rfl⟩
    refine k_ret d_bl fun v H2 e2 pv => ?_
    exact k v H2 (((e0.trans e1).trans e).trans e2) pv
def sp_access_good : Sp := PurSp (α := Nat × List Word) (fun x => ∃ most hid la, Tab x.1 most hid x.2 la) (fun x => [isD (.list (wsD x.2)), isD (nD x.1)]) (fun x => isD (.bool true))
theorem ok_law_access_good (T : All K mg CB CA) (D_law_words_good : Df P w K mg base 3 "_law_words_good" ["words", "letters"] sp_words_good) : Df P w K mg base 4 "_law_access_good" ["access", "letters"] sp_access_good := by
  refine T.t_law_access_good.ok sc_law_access_good (fun vs H Q E h => by obtain ⟨x, _, a, _⟩ := h; exact a.len) (fun f cdv A outer s H vs Q E hr h => ?_)
  obtain ⟨⟨L, fi⟩, ⟨most, hid, la, Tb⟩, ⟨v1, _, rfl, h1, v2, _, rfl, h2, rfl⟩, k⟩ := h
  have Tb : Tab L most hid fi la := Tb
  have hz : fi.length ≤ 4 := Nat.le_trans Tb.fiL Tb.m4
  refine ⟨_, (pss_cons (ps_if (PW.pt (pw_or (pt_not (pt_val (pcall D_law_words_good (hr.mono (by decide)) rfl (pa_cons (pv 0) (pa_cons (pv 1) pa_nil))))) (pw_or (pt_cmpR op_eq (pe_callB call_len_seq (by rfl) T.b_len PySem.boot_len (pa_cons (pv 0) pa_nil)) pe_int (nomark _)) (pw_or1 (pt_cmpR (op_neD hr.units) (pe_ix ix_list (pv 0) pe_int (fun _ _ => rfl)) (pe_tup pa_nil) (nomark _)))))) (pss_one (ps_ret pe_bl)) pss_nil) (pss_cons (ps_for PassesOwn.never rfl (pi_range2 (by rfl) T.b_range (pa_cons pe_int (pa_cons (pe_callB call_len_seq (by rfl) T.b_len PySem.boot_len (pa_cons (pv 0) pa_nil)) pa_nil))) (pg_name (i := 2) sc_law_access_good.nd rfl (.inl rfl)) (pss_one (ps_if (pt_cmpR (op_notInD (u65 hr)) (pe_slice sl_tupA (pe_ix ix_list (pv 0) (pv 2) (fun _ _ => rfl)) po_none (po_some (pe_un un_neg pe_int))) (pe_slice sl_list (pv 0) po_none (po_some (pv 2))) (by rfl)) (pss_one (ps_ret pe_bl)) pss_nil))) (pss_one (ps_ret pe_bl)))), ?_⟩
  refine q_no (t_oF (t_nT (t_B (e_call (L, fi) ⟨fun w hw => (Tb.fiMem hw).2, Tb.fiN, by show fi.length ≤ 1000; omega⟩ (a_d (d_var rfl h1) (a_d (d_var rfl h2) a_nil)))))
    (t_oF (c_no (d_eqI (d_lenM (K := K) (d_var rfl h1)) (d_int (i := 0))) (fun e => by have h : (fi.length : Int) = 0 := e; have := Tb.pos; omega))
      (t_cmp (d_neD (K := K) (d_ixL (K := K) (d_var rfl h1) (d_int (i := 0)) (at_map (i := 0) Tb.fi0)) (d_tup (ds := []) a_nil (Nat.zero_le _)) ((sh_wD _).ok (by decide)) ((Sh.tup (n := 1) (ds := []) fun _ h => nomatch h).ok (by decide)) (by show (!PyData.eqv (wD []) (wD [])) = false; rw [(eqv_iff _ _ (pl_wD []) (pl_wD [])).mpr rfl]; rfl))))) fun H0 e0 => ?_
  refine q_forR2 (lo := 1) (n := fi.length) (d_nat rfl) (d_lenM (K := K) (d_var rfl (h1.ex e0))) (by omega) fun H1 e1 => ⟨fun i σ' H' => Ex H1 H' ∧ ∃ o, σ' = [some v1, some v2, o], ⟨Ex.refl H1, _, rfl⟩, ?_, ?_⟩
  · rintro i σ' H' hi ⟨e, o, rfl⟩
    have hw : fi[1 + i]? = some fi[1 + i] := List.getElem?_eq_getElem hi
    have h1' := h1.ex ((e0.trans e1).trans e)
    refine k_no (t_cmp (d_notInD (K := K) (d_slInit (K := K) (d_ixL (K := K) (d_var rfl h1') (d_var rfl (.int _)) (at_map hw)) d_neg1) ((f_slL (d_var rfl h1') o_none (o_some (d_var rfl (.int _)))).toL) ((sh_wD _).ok (by decide)) (by rw [cutD_map]; exact (sh_ws _).ok (by decide)) ?_)) fun H2 e2 => ?_
    · rw [cutD_map, cutD_to, any_ws, dT]
      · rfl
      · rcases Tb.fiP _ _ hw with ⟨z, _⟩ | ⟨j, u, a, hj, hu, ha, e⟩
        · omega
        · rw [e, List.dropLast_concat]
          have hjl := (List.getElem?_eq_some_iff.mp hu).1
          refine List.mem_of_getElem? (i := j) ?_
          rw [List.getElem?_take_of_lt hj]
          exact hu
    · exact ⟨e.trans e2, _, rfl⟩
  · rintro σ' H' ⟨e, o, rfl⟩
    refine k_ret d_bl fun v H2 e2 pv => ?_
    exact k v H2 (((e0.trans e1).trans e).trans e2) pv
def sp_ends_good : Sp := PurSp (α := Nat × List Word) (fun x => x.2.length ≤ 20 ∧ ∃ most hid fi, Tab x.1 most hid fi x.2) (fun x => [isD (.list (wsD x.2)), isD (nD x.1)]) (fun x => isD (.bool true))
theorem ok_law_ends_good (T : All K mg CB CA) (D_law_words_good : Df P w K mg base 3 "_law_words_good" ["words", "letters"] sp_words_good) : Df P w K mg base 4 "_law_ends_good" ["ends", "letters"] sp_ends_good := by
  refine T.t_law_ends_good.ok sc_law_ends_good (fun vs H Q E h => by obtain ⟨x, _, a, _⟩ := h; exact a.len) (fun f cdv A outer s H vs Q E hr h => ?_)
  obtain ⟨⟨L, la⟩, ⟨hz, most, hid, fi, Tb⟩, ⟨v1, _, rfl, h1, v2, _, rfl, h2, rfl⟩, k⟩ := h
  have Tb : Tab L most hid fi la := Tb
  have hz : la.length ≤ 20 := hz
  have h6 := Tb.l6
  refine ⟨_, (pss_cons (ps_if (PW.pt (pw_or (pt_not (pt_val (pcall D_law_words_good (hr.mono (by decide)) rfl (pa_cons (pv 0) (pa_cons (pv 1) pa_nil))))) (pw_or1 (pt_cmpR (op_inD (u65 hr)) (pe_tup pa_nil) (pv 0) (by rfl))))) (pss_one (ps_ret pe_bl)) pss_nil) (pss_one (ps_ret (pe_cmpR (op_eqD hr.units) (pe_slice sl_list (pv 0) po_none (po_some (pv 1))) (pe_lc (own := [("letter", 2)]) (g := gName 2) (tt := tYes) rfl sc_law_ends_good.nd (pi_range1 (by rfl) T.b_range (pa_cons (pv 1) pa_nil)) (blkOk_by (own := [("letter", 2)]) (N := ["ends", "letters", "letter"]) (sc := defScope s_law_ends_good) (by decide +kernel)) (fun _ _ _ _ _ => (pg_name (i := 2) sc_law_ends_good.nd rfl (.inl rfl))) (fun _ _ _ _ _ => pts_nil) (fun _ _ _ _ _ => (pe_tup (pa_cons (pv 2) pa_nil)))) (nomark _))))), ?_⟩
  refine q_no (t_oF (t_nT (t_B (e_call (L, la) ⟨fun w hw => (Tb.laO w hw).2.1, Tb.laN, by show la.length ≤ 1000; omega⟩ (a_d (d_var rfl h1) (a_d (d_var rfl h2) a_nil)))))
    (t_cmp (d_inD (K := K) (d_tup (ds := []) a_nil (Nat.zero_le _)) (d_var rfl h1) ((Sh.tup (n := 1) (ds := []) fun _ h => nomatch h).ok (by decide)) ((sh_ws _).ok (by decide)) ((any_ws (w := [])).trans (dF fun m => (Tb.laO _ m).1 rfl))))) fun H0 e0 => ?_
  refine k_ret (d_eqD (K := K) (f_slL (d_var rfl (h1.ex e0)) o_none (o_some (d_var rfl (h2.ex e0)))).toL (c_R (n := L) (rs := wsD (letters L)) (d_var rfl (h2.ex e0)) (by unfold letters; rw [List.length_map, List.length_map, List.length_range]) (by omega) (fun _ => rfl) (fun _ _ _ _ => t_yes) (fun i r H1 e1 hi hr => ?_)).toL (by rw [cutD_map]; exact (sh_ws _).ok (by decide)) ((sh_ws _).ok (by decide)) (b := true) ?_) fun v H1 e1 pv => ?_
  · obtain ⟨x, hx, rfl⟩ := map_get hr
    obtain ⟨y, hy, rfl⟩ := map_get hx
    rw [List.getElem?_range hi] at hy
    rw [← Option.some.inj hy]
    exact (d_tup1 (d_var rfl (.int _))).toG (pt_wD _)
  · rw [cutD_map, cutD_to, Tb.laT]
    exact (eqv_iff _ _ (by simp only [pl]; exact plAll_ws _) (by simp only [pl]; exact plAll_ws _)).mpr rfl
  · exact k v H1 (e0.trans e1) pv
end
end Gr
end
section
set_option maxRecDepth 100000
set_option maxHeartbeats 4000000
/-! The table: rows, gaps, marks, strangers, the guess. -/
namespace Gr
open PySem L2 PySem.Spec PyProof.Rows Evl
def rowO (b : List (Word × Int)) (la : List Word) (u : Word) : List (Option Int) := la.map fun e => told b (u ++ e)
abbrev oD (ms : List (Option Int)) : PyData := .list (ms.map optD)
theorem optD_inj (x y : Option Int) (h : optD x = optD y) : x = y := by
  cases x <;> cases y <;> simp_all [optD]
theorem pt_opt (o : Option Int) : pt (optD o) = true := by cases o <;> simp only [optD, pt]
theorem pl_opt (o : Option Int) : pl (optD o) = true := by cases o <;> simp only [optD, pl]
theorem sh_opt (o : Option Int) : Sh 0 (optD o) := by
  cases o with
  | none => exact Sh.non
  | some m => exact Sh.int m
theorem ptAll_opt (ms : List (Option Int)) : ptAll (ms.map optD) = true := ptAll_of fun d h => by
  obtain ⟨n, _, rfl⟩ := List.mem_map.mp h
  exact pt_opt n
theorem pl_oD (ms : List (Option Int)) : pl (oD ms) = true := by
  simp only [pl]
  exact plAll_of fun d h => by obtain ⟨n, _, rfl⟩ := List.mem_map.mp h; exact pl_opt n
theorem sh_oD (ms : List (Option Int)) : Sh 1 (oD ms) := Sh.lst (sh_map sh_opt)
theorem oD_inj {x y : List (Option Int)} : oD x = oD y ↔ x = y := by rw [PyData.list.injEq, map_inj optD_inj]
theorem opt_non {o : Option Int} {c : Bool} (h : o.isNone = c) : ∀ (v : V) (H1 : Hp), Im H1 (optD o) v → decide (v = .non) = c := fun v H1 p => by
  cases o with
  | none => rw [im_non p, ← h]; rfl
  | some m => rw [im_int p, ← h]; rfl
/-- small words, few of them -/
structure Small (L : Nat) (fi la : List Word) : Prop where
  l6 : L ≤ 6
  fl : fi.length ≤ 4
  ll : la.length ≤ 20
  fw : ∀ w ∈ fi, w.length ≤ 10
  lw : ∀ w ∈ la, w.length ≤ 1000
theorem small_row {L : Nat} {fi la : List Word} (S : Small L fi la) {r : Word} (h : IsRow L fi r) : r.length ≤ 11 := by
  rcases h with h | ⟨u, hu, a, _, rfl⟩
  · have := S.fw r h; omega
  · have := S.fw u hu
    rw [List.length_append, List.length_singleton]
    omega
section
variable {P : Program} {w : World} {K : PySem.W.Frag} {mg : Str → Option Value} {base : Heap} {CB CA : Addr}
/-! ### rows_of -/
def sp_rows_of : Sp := PurSp (α := Nat × List Word) (fun x => Small x.1 x.2 []) (fun x => [isD (nD x.1), isD (.list (wsD x.2))])
  (fun x v H => ∃ rs, Im H (.list (wsD rs)) v ∧ (∀ r, r ∈ rs ↔ IsRow x.1 x.2 r) ∧ rs.length ≤ 30)
theorem ok_rows_of (T : All K mg CB CA) : Df P w K mg base 1 "rows_of" ["letters", "access"] sp_rows_of := by
  refine T.t_rows_of.ok sc_rows_of (fun vs H Q E h => by obtain ⟨x, _, a, _⟩ := h; exact a.len) (fun f cdv A outer s H vs Q E hr h => ?_)
  obtain ⟨⟨L, fi⟩, S, ⟨v1, _, rfl, h1, v2, _, rfl, h2, rfl⟩, k⟩ := h
  obtain ⟨a, xa, rfl, ha, hia⟩ := im_lst h2
  have l6 : L ≤ 6 := S.l6
  have f4 : fi.length ≤ 4 := S.fl
  refine ⟨_, (pss_cons (ps_set (i := 2) sc_rows_of.nd rfl (.inl rfl) (pe_callTy call_list_of (by rfl) T.b_list (by decide +kernel) (pa_cons (pv 1) pa_nil))) (pss_cons (ps_for PassesOwn.never rfl (pi_list (pv 1)) (pg_name (i := 3) sc_rows_of.nd rfl (.inl rfl)) (pss_one (ps_for PassesOwn.never rfl (pi_range1 (by rfl) T.b_range (pa_cons (pv 0) pa_nil)) (pg_name (i := 4) sc_rows_of.nd rfl (.inl rfl)) (pss_cons (ps_set (i := 5) sc_rows_of.nd rfl (.inl rfl) (pe_op op_catA (pv 3) (pe_tup (pa_cons (pv 4) pa_nil)))) (pss_one (ps_if (pt_cmpR (op_notInD (u65 hr)) (pv 5) (pv 2) (by rfl)) (pss_one (ps_expr (pe_bm PySem.F.plainAttrs_list PySem.F.slot_list_append PySem.F.type_list_append mt_append (pv 2) (pa_cons (pv 5) pa_nil)))) pss_nil)))))) (pss_one (ps_ret (pv 2))))), ?_⟩
  refine q_asgF (f_listL (K := K) (d_var rfl h2)) fun l H1 xs l0 e1 hl hx => ?_
  refine q_forLa (v_var rfl) (e1 _ _ ha) (hia.ex e1) (ptAll_ws fi) fun H2 e2 => ⟨fun i σ' H' => Ex H H' ∧ Kt H2 H' ∧ ∃ rs ys, H' l = some (.lst ys) ∧ ImAll H' (wsD rs) ys ∧ (∀ r ∈ rs, IsRow L fi r) ∧ (∀ r ∈ fi, r ∈ rs) ∧ (∀ u ∈ fi.take i, ∀ a, a < L → u ++ [a] ∈ rs) ∧ rs.length ≤ fi.length + i * L ∧ ∃ o3 o4 o5, σ' = [some v1, some (.ref a), some (.ref l), o3, o4, o5],
    ⟨e1.trans e2, Kt.refl _, fi, xs, e2 _ _ hl, hx.ex e2, fun r m => .inl m, fun r m => m, fun u m => (by simp at m), by omega, _, _, _, rfl⟩, fun i σ' H' p => ⟨p.2.1, p.1 _ _ ha⟩, ?_, ?_⟩
  · rintro i d x σ' H' hd hxx ⟨e, kt, rs, ys, hL, hI, r1, r2, r3, r4, o3, o4, o5, rfl⟩
    obtain ⟨u, hu, rfl⟩ := map_get hd
    have um : u ∈ fi := List.mem_of_getElem? hu
    have ilt : i < fi.length := (List.getElem?_eq_some_iff.mp hu).1
    refine k_forR (n := L) (d_var rfl (h1.ex e)) (by omega) fun H3 e3 => ⟨fun j σ' H'' => Ex H H'' ∧ Kt H2 H'' ∧ Im H'' (wD u) x ∧ ∃ rs ys, H'' l = some (.lst ys) ∧ ImAll H'' (wsD rs) ys ∧ (∀ r ∈ rs, IsRow L fi r) ∧ (∀ r ∈ fi, r ∈ rs) ∧ (∀ u ∈ fi.take i, ∀ a, a < L → u ++ [a] ∈ rs) ∧ (∀ a, a < j → u ++ [a] ∈ rs) ∧ rs.length ≤ fi.length + i * L + j ∧ ∃ o4 o5, σ' = [some v1, some (.ref a), some (.ref l), some x, o4, o5],
      ⟨e.trans e3, kt.trans (ex_kt e3), hxx.ex e3, rs, ys, e3 _ _ hL, hI.ex e3, r1, r2, r3, fun a h => absurd h (Nat.not_lt_zero a), by omega, _, _, rfl⟩, ?_, ?_⟩
    · rintro j σ'' H'' hj ⟨f1, f2, f3, rs, ys, hL, hI, r1, r2, r3, r5, r4, o4, o5, rfl⟩
      have hul : u.length ≤ 10 := S.fw u um
      refine q_asg (d_catW (K := K) (d_var rfl f3) (d_tup1 (d_var rfl (.int _))) (by rw [List.length_singleton]; omega)) fun v3 H4 e4 p4 => ?_
      have hLl := e4 _ _ hL
      have hIl : Im H4 (.list (wsD rs)) (.ref l) := .lst hLl (hI.ex e4)
      have l0' : H l = none := l0
      have hsz : rs.length ≤ 30 := by
        have : i * L ≤ 3 * 6 := Nat.mul_le_mul (by omega) l6
        omega
      refine k_if (t_cmp (d_notInD (K := K) (d_var rfl p4) (d_var rfl hIl) ((sh_wD _).ok (by decide)) ((sh_ws _).ok (by decide)) (by rw [any_ws]))) (fun hb H5 e5 => ?_) (fun hb H5 e5 => ?_)
      · refine k_app (e5 _ _ hLl) (v_var rfl) (d_var rfl (p4.ex e5)) (by have := (hI.len); rw [List.length_map] at this; omega) fun v6 H6 e6 p6 => ?_
        have kt6 : Kt H6 (upd H6 l (.lst (ys ++ [v6]))) := Kt.upd (Kt.refl _) (e6 _ _ (e5 _ _ hLl)) fun _ z => nomatch z
        refine ⟨Ex.mut (((f1.trans e4).trans e5).trans e6) l0', (f2.trans (ex_kt ((e4.trans e5).trans e6))).trans kt6, (f3.ex ((e4.trans e5).trans e6)).kt kt6 (pt_wD _), rs ++ [u ++ [j]], ys ++ [v6], upd_same, ?_, ?_, ?_, ?_, ?_, ?_, _, _, rfl⟩
        · show ImAll _ ((rs ++ [u ++ [j]]).map wD) _
          rw [List.map_append]
          exact ((hI.ex ((e4.trans e5).trans e6)).app (ImAll.one p6)).kt kt6 (by have := ptAll_ws (rs ++ [u ++ [j]]); rw [show wsD (rs ++ [u ++ [j]]) = wsD rs ++ [wD (u ++ [j])] from List.map_append] at this; exact this)
        · intro r m
          rcases List.mem_append.mp m with m | m
          · exact r1 r m
          · rw [List.mem_singleton.mp m]
            exact .inr ⟨u, um, j, hj, rfl⟩
        · exact fun r m => List.mem_append_left _ (r2 r m)
        · exact fun x m a h => List.mem_append_left _ (r3 x m a h)
        · intro a h
          rcases Nat.lt_or_ge a j with c | c
          · exact List.mem_append_left _ (r5 a c)
          · have : a = j := by omega
            subst this
            exact List.mem_append_right _ (List.mem_singleton.mpr rfl)
        · rw [List.length_append, List.length_singleton]
          omega
      · have hin : u ++ [j] ∈ rs := by
          have : decide (u ++ [j] ∈ rs) = true := by revert hb; cases decide (u ++ [j] ∈ rs) <;> simp
          exact of_decide_eq_true this
        refine ⟨(f1.trans e4).trans e5, f2.trans (ex_kt (e4.trans e5)), f3.ex (e4.trans e5), rs, ys, e5 _ _ hLl, hI.ex (e4.trans e5), r1, r2, r3, ?_, by omega, _, _, rfl⟩
        intro a h
        rcases Nat.lt_or_ge a j with c | c
        · exact r5 a c
        · have : a = j := by omega
          subst this
          exact hin
    · rintro σ'' H'' ⟨f1, f2, f3, rs, ys, hL, hI, r1, r2, r3, r5, r4, o4, o5, rfl⟩
      refine ⟨f1, f2, rs, ys, hL, hI, r1, r2, ?_, by rw [Nat.add_mul]; omega, _, _, _, rfl⟩
      intro x m a h
      rw [take_snoc hu] at m
      rcases List.mem_append.mp m with m | m
      · exact r3 x m a h
      · rw [List.mem_singleton.mp m]
        exact r5 a h
  · rintro σ' H' ⟨e, kt, rs, ys, hL, hI, r1, r2, r3, r4, o3, o4, o5, rfl⟩
    rw [List.length_map] at r3 r4
    rw [List.take_length] at r3
    have r4 : rs.length ≤ fi.length + fi.length * L := r4
    refine k_ret (d_var rfl (.lst hL hI)) fun v H5 e5 pv => ?_
    refine k v H5 (e.trans e5) ⟨rs, pv, fun r => ⟨r1 r, fun h => ?_⟩, ?_⟩
    · rcases h with h | ⟨u, hu, a, ha, rfl⟩
      · exact r2 r h
      · exact r3 u hu a ha
    · have : fi.length * L ≤ 4 * 6 := Nat.mul_le_mul f4 l6
      omega
/-! ### gap -/
structure Tb4 where
  b : List (Word × Int)
  L : Nat
  fi : List Word
  la : List Word
def sp_gap (CB : Addr) : Sp := PurSp (α := Tb4) (fun x => Small x.L x.fi x.la) (fun x => [isB CB x.L x.b, isD (nD x.L), isD (.list (wsD x.fi)), isD (.list (wsD x.la))])
  (fun x v H => (Im H .none v ∧ AllTold x.L x.fi x.la x.b) ∨ ∃ w, Im H (wD w) v ∧ Cell x.L x.fi x.la w ∧ told x.b w = none)
theorem told_no_letters : ¬ (("told" : Str) = "letters") := by decide +kernel
theorem told_no_marks : ¬ (("told" : Str) = "marks") := by decide +kernel
theorem small_nil {L : Nat} {fi la : List Word} (S : Small L fi la) : Small L fi [] := ⟨S.l6, S.fl, Nat.zero_le _, S.fw, fun _ h => nomatch h⟩
theorem ok_gap (T : All K mg CB CA) (D_rows_of : Df P w K mg base 1 "rows_of" ["letters", "access"] sp_rows_of) (D_Book_told : Dm P w K mg base CB 1 "told" ["self", "word"] (sp_told CB)) : Df P w K mg base 2 "gap" ["book", "letters", "access", "ends"] (sp_gap CB) := by
  refine T.t_gap.ok sc_gap (fun vs H Q E h => by obtain ⟨x, _, a, _⟩ := h; exact a.len) (fun f cdv A outer s H vs Q E hr h => ?_)
  obtain ⟨⟨b, L, fi, la⟩, S, ⟨v1, _, rfl, h1, v2, _, rfl, h2, v3, _, rfl, h3, v4, _, rfl, h4, rfl⟩, k⟩ := h
  have S : Small L fi la := S
  refine ⟨_, (pss_cons (ps_for PassesOwn.never rfl (pi_list (pcall D_rows_of (hr.mono (by decide)) rfl (pa_cons (pv 1) (pa_cons (pv 2) pa_nil)))) (pg_name (i := 4) sc_gap.nd rfl (.inl rfl)) (pss_one (ps_for PassesOwn.never rfl (pi_list (pv 3)) (pg_name (i := 5) sc_gap.nd rfl (.inl rfl)) (pss_one (ps_if (pt_cmp (pc_isN (pmeth (pv 0) T.clCB D_Book_told (hr.mono (by decide)) (pa_cons (pe_op op_catA (pv 4) (pv 5)) pa_nil)))) (pss_one (ps_ret (pe_op op_catA (pv 4) (pv 5)))) pss_nil))))) (pss_one (ps_ret pe_non))), ?_⟩
  have h0 : EvP (tCall sp_rows_of [] E0 (tCons (tVar 1) (tCons (tVar 2) tNil))) [some v1, some v2, some v3, some v4, none, none] H (fun v H => ∃ rs, Im H (.list (wsD rs)) v ∧ (∀ r, r ∈ rs ↔ IsRow L fi r) ∧ rs.length ≤ 30) :=
    e_call (L, fi) (small_nil S) (a_d (d_var rfl h2) (a_d (d_var rfl h3) a_nil))
  refine q_forLx h0 fun v H0 e0 ⟨rs, hrs, hiff, hlen⟩ => ⟨wsD rs, hrs, ptAll_ws rs, fun H1 e1 => ⟨fun i σ' H' => Ex H1 H' ∧ (∀ r ∈ rs.take i, ∀ e ∈ la, told b (r ++ e) ≠ none) ∧ ∃ o4 o5, σ' = [some v1, some v2, some v3, some v4, o4, o5],
    ⟨Ex.refl _, fun r m => (by simp at m), _, _, rfl⟩, fun i σ' H' p => p.1, ?_, ?_⟩⟩
  · rintro i d x σ' H' hd hx ⟨e, r1, o4, o5, rfl⟩
    obtain ⟨r, hr', rfl⟩ := map_get hd
    have e0H := (e0.trans e1).trans e
    have hrow := (hiff r).mp (List.mem_of_getElem? hr')
    have hrl := small_row S hrow
    refine k_forL (d_var rfl (h4.ex e0H)) (ptAll_ws la) fun a xs H2 e2 ha => ⟨fun j σ'' H'' => Ex H2 H'' ∧ (∀ e ∈ la.take j, told b (r ++ e) ≠ none) ∧ ∃ o5, σ'' = [some v1, some v2, some v3, some v4, some x, o5],
      ⟨Ex.refl _, fun r m => (by simp at m), _, rfl⟩, fun j σ'' H'' p => ⟨ex_kt p.1, p.1 _ _ ha⟩, ?_, ?_⟩
    · rintro j d' y σ'' H'' hd' hy ⟨f, s1, o5, rfl⟩
      obtain ⟨en, hen, rfl⟩ := map_get hd'
      have hel := S.lw en (List.mem_of_getElem? hen)
      have e4 := (e0H.trans e2).trans f
      have hcat := d_catW (K := K) (σ := [some v1, some v2, some v3, some v4, some x, some y]) (d_var (i := 4) rfl (hx.ex (e2.trans f))) (d_var (i := 5) rfl hy) (by omega)
      refine k_if (t_B (d_isN (e_meth (L, b, r ++ en) trivial (e_var rfl (mo_B CB L b _ _ _ e4 h1) (mo_B CB L b)) (mo_B CB L b) (isB_ins told_no_letters told_no_marks) (a_d hcat a_nil) rfl) (opt_non (o := told b (r ++ en)) rfl))) (fun hb H3 e3 => ?_) (fun hb H3 e3 => ?_)
      · refine k_ret (hcat.mono e3) fun v H5 e5 pv => ?_
        exact k v H5 ((e4.trans e3).trans e5) (.inr ⟨_, pv, ⟨r, en, hrow, List.mem_of_getElem? hen, rfl⟩, Option.isNone_iff_eq_none.mp hb⟩)
      · refine ⟨f.trans e3, fun e m => ?_, _, rfl⟩
        rw [take_snoc hen] at m
        rcases List.mem_append.mp m with m | m
        · exact s1 e m
        · rw [List.mem_singleton.mp m]
          intro z
          rw [z] at hb
          cases hb
    · rintro σ'' H'' ⟨f, s1, o5, rfl⟩
      rw [List.length_map, List.take_length] at s1
      refine ⟨(e.trans e2).trans f, fun u m => ?_, _, _, rfl⟩
      rw [take_snoc hr'] at m
      rcases List.mem_append.mp m with m | m
      · exact r1 u m
      · rw [List.mem_singleton.mp m]
        exact s1
  · rintro σ' H' ⟨e, r1, o4, o5, rfl⟩
    rw [List.length_map, List.take_length] at r1
    refine k_ret d_non fun v H5 e5 pv => ?_
    exact k v H5 (((e0.trans e1).trans e).trans e5) (.inl ⟨pv, fun r h => r1 r ((hiff r).mpr h)⟩)
/-! ### marks_of -/
structure MB where
  L : Nat
  b : List (Word × Int)
  u : Word
  la : List Word
def MB.ok (x : MB) : Prop := x.u.length ≤ 20 ∧ x.la.length ≤ 20 ∧ ∀ e ∈ x.la, e.length ≤ 1000
def sp_marks_of (CB : Addr) : Sp := LstSp (α := MB) MB.ok (fun x => [isB CB x.L x.b, isD (wD x.u), isD (.list (wsD x.la))]) (fun x => (rowO x.b x.la x.u).map optD)
theorem ok_marks_of (T : All K mg CB CA) (D_Book_told : Dm P w K mg base CB 1 "told" ["self", "word"] (sp_told CB)) : Df P w K mg base 2 "marks_of" ["book", "word", "ends"] (sp_marks_of CB) := by
  refine T.t_marks_of.ok sc_marks_of (fun vs H Q E h => by obtain ⟨x, _, a, _⟩ := h; exact a.len) (fun f cdv A outer s H vs Q E hr h => ?_)
  obtain ⟨⟨L, b, u, la⟩, ⟨s1, s2, s3⟩, ⟨v1, _, rfl, h1, v2, _, rfl, h2, v3, _, rfl, h3, rfl⟩, k⟩ := h
  have s1 : u.length ≤ 20 := s1
  have s2 : la.length ≤ 20 := s2
  refine ⟨_, (pss_one (ps_ret (pe_lc (own := [("end", 3)]) (g := gName 3) (tt := tYes) rfl sc_marks_of.nd (pi_list (pv 2)) (blkOk_by (own := [("end", 3)]) (N := ["book", "word", "ends", "end"]) (sc := defScope s_marks_of) (by decide +kernel)) (fun _ _ _ _ _ => (pg_name (i := 3) sc_marks_of.nd rfl (.inl rfl))) (fun _ _ _ _ _ => pts_nil) (fun _ _ _ _ _ => (pmeth (pv 0) T.clCB D_Book_told (hr.mono (by decide)) (pa_cons (pe_op (r := rCatA K) op_catA (pv 1) (pv 3)) pa_nil)))))), ?_⟩
  refine k_retF (c_L (K := K) (d_var rfl h3) (rs := (rowO b la u).map optD) (by unfold rowO; rw [List.length_map, List.length_map, List.length_map]) (by rw [List.length_map]; omega) (fun _ => rfl) (fun _ _ _ _ _ _ _ => t_yes) (fun i d r x H1 e1 hd hr' hx => ?_)) fun p H1 xs h0 e1 hp hxs => ?_
  · obtain ⟨en, hen, rfl⟩ := map_get hd
    obtain ⟨o, ho, rfl⟩ := map_get hr'
    obtain ⟨en', hen', rfl⟩ := map_get ho
    rw [hen] at hen'
    cases hen'
    have hel := s3 en (List.mem_of_getElem? hen)
    exact (e_meth (L, b, u ++ en) trivial (e_var rfl (mo_B CB L b _ _ _ e1 h1) (mo_B CB L b)) (mo_B CB L b) (isB_ins told_no_letters told_no_marks) (a_d (d_catW (K := K) (d_var rfl (h2.ex e1)) (d_var rfl hx) (by omega)) a_nil) rfl).toG (pt_opt _)
  · exact k p H1 xs h0 e1 hp hxs
end
end Gr
end
section
set_option maxRecDepth 100000
set_option maxHeartbeats 4000000
namespace Gr
open PySem L2 PySem.Spec PyProof.Rows Evl
section
variable {P : Program} {w : World} {K : PySem.W.Frag} {mg : Str → Option Value} {base : Heap} {CB CA : Addr}
/-! ### place_like -/
structure PL where
  L : Nat
  b : List (Word × Int)
  fi : List Word
  la : List Word
  ms : List (Option Int)
def sp_place_like (CB : Addr) : Sp := PurSp (α := PL) (fun x => Small x.L x.fi x.la) (fun x => [isB CB x.L x.b, isD (.list (wsD x.fi)), isD (.list (wsD x.la)), isD (oD x.ms)])
  (fun x v H => ∃ z : Int, v = .int z ∧ ((z < 0 ∧ ∀ u ∈ x.fi, rowO x.b x.la u ≠ x.ms) ∨ (0 ≤ z ∧ ∃ u ∈ x.fi, rowO x.b x.la u = x.ms)))
theorem ok_place_like (T : All K mg CB CA) (D_marks_of : Df P w K mg base 2 "marks_of" ["book", "word", "ends"] (sp_marks_of CB)) : Df P w K mg base 3 "place_like" ["book", "access", "ends", "marks"] (sp_place_like CB) := by
  refine T.t_place_like.ok sc_place_like (fun vs H Q E h => by obtain ⟨x, _, a, _⟩ := h; exact a.len) (fun f cdv A outer s H vs Q E hr h => ?_)
  obtain ⟨⟨L, b, fi, la, ms⟩, S, ⟨v1, _, rfl, h1, v2, _, rfl, h2, v3, _, rfl, h3, v4, _, rfl, h4, rfl⟩, k⟩ := h
  have S : Small L fi la := S
  refine ⟨_, (pss_cons (ps_for PassesOwn.never rfl (pi_range1 (by rfl) T.b_range (pa_cons (pe_callB call_len_seq (by rfl) T.b_len PySem.boot_len (pa_cons (pv 1) pa_nil)) pa_nil)) (pg_name (i := 4) sc_place_like.nd rfl (.inl rfl)) (pss_one (ps_if (pt_cmpR (op_eqD hr.units) (pcall D_marks_of (hr.mono (by decide)) rfl (pa_cons (pv 0) (pa_cons (pe_ix ix_list (pv 1) (pv 4) (fun _ _ => rfl)) (pa_cons (pv 2) pa_nil)))) (pv 3) (nomark _)) (pss_one (ps_ret (pv 4))) pss_nil))) (pss_one (ps_ret (pe_un un_neg pe_int)))), ?_⟩
  refine q_forR (n := fi.length) (d_lenM (K := K) (d_var rfl h2)) (by have := S.fl; omega) fun H1 e1 => ⟨fun i σ' H' => Ex H H' ∧ (∀ u ∈ fi.take i, rowO b la u ≠ ms) ∧ ∃ o, σ' = [some v1, some v2, some v3, some v4, o], ⟨e1, fun u m => (by simp at m), _, rfl⟩, ?_, ?_⟩
  · rintro i σ' H' hi ⟨e, r, o, rfl⟩
    have hw : fi[i]? = some fi[i] := List.getElem?_eq_getElem hi
    have hfl := S.fw _ (List.getElem_mem hi)
    refine k_if (t_cmp (d_eqD (K := K) (f_call (ds := fun x : MB => (rowO x.b x.la x.u).map optD) (⟨L, b, fi[i], la⟩ : MB) ⟨by show fi[i].length ≤ 20; omega, S.ll, S.lw⟩ (a_cons (e_var rfl (mo_B CB L b _ _ _ e h1) (mo_B CB L b)) (mo_B CB L b) (a_d (d_ixL (K := K) (d_var rfl (h2.ex e)) (d_var rfl (.int _)) (at_map hw)) (a_d (d_var rfl (h3.ex e)) a_nil)))).toL (d_var rfl (h4.ex e)) ((sh_oD _).ok (by decide)) ((sh_oD _).ok (by decide)) (eqv_dec (p := rowO b la fi[i] = ms) (pl_oD _) (pl_oD _) oD_inj))) (fun hb H2 e2 => ?_) (fun hb H2 e2 => ?_)
    · refine k_ret (d_var rfl (.int _)) fun v H3 e3 pv => ?_
      exact k v H3 ((e.trans e2).trans e3) ⟨_, im_int pv, .inr ⟨by omega, fi[i], List.getElem_mem hi, of_decide_eq_true hb⟩⟩
    · refine ⟨e.trans e2, fun u m => ?_, _, rfl⟩
      rw [take_snoc hw] at m
      rcases List.mem_append.mp m with m | m
      · exact r u m
      · rw [List.mem_singleton.mp m]
        exact of_decide_eq_false hb
  · rintro σ' H' ⟨e, r, o, rfl⟩
    rw [List.take_length] at r
    refine k_ret d_neg1 fun v H3 e3 pv => ?_
    exact k v H3 (e.trans e3) ⟨-1, im_int pv, .inl ⟨by omega, r⟩⟩
/-! ### stranger -/
def sp_stranger (CB : Addr) : Sp := PurSp (α := Tb4) (fun x => Small x.L x.fi x.la) (fun x => [isB CB x.L x.b, isD (nD x.L), isD (.list (wsD x.fi)), isD (.list (wsD x.la))])
  (fun x v H => (Im H .none v ∧ ∀ r, IsRow x.L x.fi r → ∃ u ∈ x.fi, rowO x.b x.la u = rowO x.b x.la r) ∨ ∃ r, Im H (wD r) v ∧ IsRow x.L x.fi r ∧ ∀ u ∈ x.fi, rowO x.b x.la u ≠ rowO x.b x.la r)
theorem ok_stranger (T : All K mg CB CA) (D_rows_of : Df P w K mg base 1 "rows_of" ["letters", "access"] sp_rows_of) (D_marks_of : Df P w K mg base 2 "marks_of" ["book", "word", "ends"] (sp_marks_of CB)) (D_place_like : Df P w K mg base 3 "place_like" ["book", "access", "ends", "marks"] (sp_place_like CB)) : Df P w K mg base 4 "stranger" ["book", "letters", "access", "ends"] (sp_stranger CB) := by
  refine T.t_stranger.ok sc_stranger (fun vs H Q E h => by obtain ⟨x, _, a, _⟩ := h; exact a.len) (fun f cdv A outer s H vs Q E hr h => ?_)
  obtain ⟨⟨b, L, fi, la⟩, S, ⟨v1, _, rfl, h1, v2, _, rfl, h2, v3, _, rfl, h3, v4, _, rfl, h4, rfl⟩, k⟩ := h
  have S : Small L fi la := S
  refine ⟨_, (pss_cons (ps_for PassesOwn.never rfl (pi_list (pcall D_rows_of (hr.mono (by decide)) rfl (pa_cons (pv 1) (pa_cons (pv 2) pa_nil)))) (pg_name (i := 4) sc_stranger.nd rfl (.inl rfl)) (pss_one (ps_if (pt_cmpR op_lt (pcall D_place_like (hr.mono (by decide)) rfl (pa_cons (pv 0) (pa_cons (pv 2) (pa_cons (pv 3) (pa_cons (pcall D_marks_of (hr.mono (by decide)) rfl (pa_cons (pv 0) (pa_cons (pv 4) (pa_cons (pv 3) pa_nil)))) pa_nil))))) pe_int (nomark _)) (pss_one (ps_ret (pv 4))) pss_nil))) (pss_one (ps_ret pe_non))), ?_⟩
  have h0 : EvP (tCall sp_rows_of [] E0 (tCons (tVar 1) (tCons (tVar 2) tNil))) [some v1, some v2, some v3, some v4, none] H (fun v H => ∃ rs, Im H (.list (wsD rs)) v ∧ (∀ r, r ∈ rs ↔ IsRow L fi r) ∧ rs.length ≤ 30) :=
    e_call (L, fi) (small_nil S) (a_d (d_var rfl h2) (a_d (d_var rfl h3) a_nil))
  refine q_forLx h0 fun v H0 e0 ⟨rs, hrs, hiff, hlen⟩ => ⟨wsD rs, hrs, ptAll_ws rs, fun H1 e1 => ⟨fun i σ' H' => Ex H1 H' ∧ (∀ r ∈ rs.take i, ∃ u ∈ fi, rowO b la u = rowO b la r) ∧ ∃ o4, σ' = [some v1, some v2, some v3, some v4, o4],
    ⟨Ex.refl _, fun r m => (by simp at m), _, rfl⟩, fun i σ' H' p => p.1, ?_, ?_⟩⟩
  · rintro i d x σ' H' hd hx ⟨e, r1, o4, rfl⟩
    obtain ⟨r, hr', rfl⟩ := map_get hd
    have e0H := (e0.trans e1).trans e
    have hrow := (hiff r).mp (List.mem_of_getElem? hr')
    have hrl := small_row S hrow
    have hB : EvP (tVar 0) [some v1, some v2, some v3, some v4, some x] H' (isB CB L b) := e_var rfl (mo_B CB L b _ _ _ e0H h1) (mo_B CB L b)
    have hM := f_call (E := E0) (cond := MB.ok) (ps := fun x : MB => [isB CB x.L x.b, isD (wD x.u), isD (.list (wsD x.la))]) (ds := fun x : MB => (rowO x.b x.la x.u).map optD) (⟨L, b, r, la⟩ : MB) ⟨by show r.length ≤ 20; omega, S.ll, S.lw⟩ (a_cons hB (mo_B CB L b) (a_d (d_var (i := 4) rfl hx) (a_d (d_var (i := 3) rfl (h4.ex e0H)) a_nil)))
    have hP := e_call (E := E0) (cond := fun x : PL => Small x.L x.fi x.la) (ps := fun x : PL => [isB CB x.L x.b, isD (.list (wsD x.fi)), isD (.list (wsD x.la)), isD (oD x.ms)]) (post := fun x v H => ∃ z : Int, v = .int z ∧ ((z < 0 ∧ ∀ u ∈ x.fi, rowO x.b x.la u ≠ x.ms) ∨ (0 ≤ z ∧ ∃ u ∈ x.fi, rowO x.b x.la u = x.ms)))
      (⟨L, b, fi, la, rowO b la r⟩ : PL) S (a_cons hB (mo_B CB L b) (a_d (d_var (i := 2) rfl (h3.ex e0H)) (a_d (d_var (i := 3) rfl (h4.ex e0H)) (a_d hM.toL a_nil))))
    refine (fun (hx2 : tIfS _ _ _ _ _ H') => hx2) ?_
    refine hP H' (Ex.refl _) _ fun v' H2 e2 ⟨z, ez, hz⟩ => ?_
    refine ⟨z, 0, ez, rfl, _, rfl, ?_⟩
    rcases hz with ⟨z0, hz⟩ | ⟨z0, hz⟩
    · rw [dT z0]
      show tRet (tVar 4) _ _ H2
      refine k_ret (d_var rfl (hx.ex e2)) fun v H5 e5 pv => ?_
      exact k v H5 ((e0H.trans e2).trans e5) (.inr ⟨r, pv, hrow, hz⟩)
    · rw [dF (by omega)]
      refine ⟨e.trans e2, fun u m => ?_, _, rfl⟩
      rw [take_snoc hr'] at m
      rcases List.mem_append.mp m with m | m
      · exact r1 u m
      · rw [List.mem_singleton.mp m]
        exact hz
  · rintro σ' H' ⟨e, r1, o4, rfl⟩
    rw [List.length_map, List.take_length] at r1
    refine k_ret d_non fun v H5 e5 pv => ?_
    exact k v H5 (((e0.trans e1).trans e).trans e5) (.inl ⟨pv, fun r h => r1 r ((hiff r).mpr h)⟩)
end
end Gr
end
section
set_option maxRecDepth 100000
set_option maxHeartbeats 4000000
namespace Gr
open PySem L2 PySem.Spec PyProof.Rows Evl
theorem idxOf_min {α : Type} [BEq α] [LawfulBEq α] {x : α} : ∀ (l : List α) (m : Nat), m < l.idxOf x → ∀ y, l[m]? = some y → y ≠ x
  | [], m, h, _, e => by simp at e
  | a :: l, m, h, y, e => by
    rw [List.idxOf_cons] at h
    cases q : a == x with
    | true =>
      rw [q] at h
      exact absurd (show m < 0 from h) (Nat.not_lt_zero m)
    | false =>
      rw [q] at h
      have h : m < l.idxOf x + 1 := h
      cases m with
      | zero =>
        have : a = y := Option.some.inj e
        rw [← this]
        intro z
        rw [beq_iff_eq.mpr z] at q
        cases q
      | succ m => exact idxOf_min l m (by omega) y (by simpa using e)
theorem idxOf_map {α β : Type} [BEq α] [LawfulBEq α] [BEq β] [LawfulBEq β] {f : α → β} (hf : ∀ x y, f x = f y → x = y) (x : α) : ∀ l : List α, (l.map f).idxOf (f x) = l.idxOf x
  | [] => rfl
  | a :: l => by
    rw [List.map_cons, List.idxOf_cons, List.idxOf_cons, idxOf_map hf x l]
    have e : (f a == f x) = (a == x) := by
      rw [Bool.eq_iff_iff, beq_iff_eq, beq_iff_eq]
      exact ⟨hf a x, congrArg f⟩
    rw [e]
theorem idxOf_getB {α : Type} [BEq α] [LawfulBEq α] {l : List α} {x : α} (h : x ∈ l) : l[l.idxOf x]? = some x := by
  rw [List.getElem?_eq_getElem (List.idxOf_lt_length_iff.mpr h), List.getElem_idxOf]
/-- the rows of what was told are the rows of what the hidden one tells -/
theorem rowO_row {L B : Nat} {hid : Word → Int} {b : List (Word × Int)} {fi la : List Word} (bo : BookOk L hid B b) (at' : AllTold L fi la b) {r : Word} (hr : IsRow L fi r) : rowO b la r = (rowH hid la r).map some := by
  unfold rowO rowH
  rw [List.map_map]
  exact List.map_inj_left.mpr fun e he => bo.told (at' r hr e he)
theorem rowO_eq {L B : Nat} {hid : Word → Int} {b : List (Word × Int)} {fi la : List Word} (bo : BookOk L hid B b) (at' : AllTold L fi la b) {r s : Word} (hr : IsRow L fi r) (hs : IsRow L fi s) : rowO b la r = rowO b la s ↔ rowH hid la r = rowH hid la s := by
  rw [rowO_row bo at' hr, rowO_row bo at' hs, map_inj fun _ _ h => Option.some.inj h]
def plc (b : List (Word × Int)) (fi la : List Word) (w : Word) : Nat := (fi.map (rowO b la)).idxOf (rowO b la w)
section
variable {P : Program} {w : World} {K : PySem.W.Frag} {mg : Str → Option Value} {base : Heap} {CB CA : Addr}
/-! ### row_places -/
structure RP where
  L : Nat
  b : List (Word × Int)
  fi : List Word
  la : List Word
  ws : List Word
def RP.ok (x : RP) : Prop := Small x.L x.fi x.la ∧ x.ws.length ≤ 10 ∧ ∀ w ∈ x.ws, w.length ≤ 20 ∧ ∃ u ∈ x.fi, rowO x.b x.la w = rowO x.b x.la u
def sp_row_places (CB : Addr) : Sp := PurSp (α := RP) RP.ok (fun x => [isB CB x.L x.b, isD (.list (wsD x.fi)), isD (.list (wsD x.la)), isD (.list (wsD x.ws))]) (fun x => isD (wD (x.ws.map (plc x.b x.fi x.la))))
theorem ok_row_places (T : All K mg CB CA) (D_marks_of : Df P w K mg base 2 "marks_of" ["book", "word", "ends"] (sp_marks_of CB)) : Df P w K mg base 3 "row_places" ["book", "access", "ends", "words"] (sp_row_places CB) := by
  refine T.t_row_places.ok sc_row_places (fun vs H Q E h => by obtain ⟨x, _, a, _⟩ := h; exact a.len) (fun f cdv A outer s H vs Q E hr h => ?_)
  obtain ⟨⟨L, b, fi, la, ws⟩, ⟨S, wl, hw⟩, ⟨v1, _, rfl, h1, v2, _, rfl, h2, v3, _, rfl, h3, v4, _, rfl, h4, rfl⟩, k⟩ := h
  have S : Small L fi la := S
  have wl : ws.length ≤ 10 := wl
  have hw : ∀ w ∈ ws, w.length ≤ 20 ∧ ∃ u ∈ fi, rowO b la w = rowO b la u := hw
  have fl := S.fl
  refine ⟨_, (pss_cons (ps_set (i := 4) sc_row_places.nd rfl (.inr rfl) (pe_lc (own := [("word", 5)]) (g := gName 5) (tt := tYes) rfl sc_row_places.nd (pi_list (pv 1)) (blkOk_by (own := [("word", 5)]) (N := ["book", "access", "ends", "words", "rows", "word"]) (sc := defScope s_row_places) (by decide +kernel)) (fun _ _ _ _ _ => (pg_name (i := 5) sc_row_places.nd rfl (.inl rfl))) (fun _ _ _ _ _ => pts_nil) (fun _ _ _ _ _ => (pcall D_marks_of (hr.mono (by decide)) rfl (pa_cons (pv 0) (pa_cons (pv 5) (pa_cons (pv 2) pa_nil))))))) (pss_one (ps_ret (pe_callTy call_tuple_of (by rfl) T.b_tuple (by decide +kernel) (pa_cons (pe_lc (own := [("word", 5)]) (g := gName 5) (tt := tYes) rfl sc_row_places.nd (pi_list (pv 3)) (blkOk_by (own := [("word", 5)]) (N := ["book", "access", "ends", "words", "rows", "word"]) (sc := defScope s_row_places) (by decide +kernel)) (fun _ _ _ _ _ => (pg_name (i := 5) sc_row_places.nd rfl (.inl rfl))) (fun _ _ _ _ _ => pts_nil) (fun _ _ _ _ _ => (pe_bmK (K := K) (r := rIndexD K) rfl PySem.F.plainAttrs_list PySem.F.slot_list_index PySem.F.type_list_index (mt_indexD (u65 hr)) (pv 4) (pa_cons (pcall D_marks_of (hr.mono (by decide)) rfl (pa_cons (pv 0) (pa_cons (pv 5) (pa_cons (pv 2) pa_nil)))) pa_nil)))) pa_nil))))), ?_⟩
  refine q_asgF (c_L (K := K) (d_var rfl h2) (rs := fi.map fun u => oD (rowO b la u)) (by rw [List.length_map, List.length_map]) (by rw [List.length_map]; show fi.length ≤ 80000; omega) (fun _ => rfl) (fun _ _ _ _ _ _ _ => t_yes) (fun i d r x H1 e1 hd hr' hx => ?_)) fun p H1 xs h0 e1 hp hxs => ?_
  · obtain ⟨u, hu, rfl⟩ := map_get hd
    obtain ⟨u', hu', rfl⟩ := map_get hr'
    rw [hu] at hu'
    cases hu'
    have := S.fw u (List.mem_of_getElem? hu)
    exact (f_call (⟨L, b, u, la⟩ : MB) ⟨by show u.length ≤ 20; omega, S.ll, S.lw⟩ (a_cons (e_var rfl (mo_B CB L b _ _ _ e1 h1) (mo_B CB L b)) (mo_B CB L b) (a_d (d_var rfl hx) (a_d (d_var rfl (h3.ex e1)) a_nil)))).toG (ptAll_opt _)
  · have hR : Im H1 (.list (fi.map fun u => oD (rowO b la u))) (.ref p) := .lst hp hxs
    refine k_ret (d_tupOf (K := K) (c_L (K := K) (d_var rfl (h4.ex e1)) (rs := (ws.map (plc b fi la)).map nD) (by rw [List.length_map, List.length_map, List.length_map]) (by rw [List.length_map]; show ws.length ≤ 80000; omega) (fun _ => rfl) (fun _ _ _ _ _ _ _ => t_yes) (fun i d r x H2 e2 hd hr' hx => ?_)).toL) fun v H2 e2 pv => ?_
    · obtain ⟨u, hu, rfl⟩ := map_get hd
      obtain ⟨n, hn, rfl⟩ := map_get hr'
      obtain ⟨u', hu', rfl⟩ := map_get hn
      rw [hu] at hu'
      cases hu'
      obtain ⟨ul, x0, hx0, ex0⟩ := hw u (List.mem_of_getElem? hu)
      have hmem : rowO b la u ∈ fi.map (rowO b la) := List.mem_map.mpr ⟨x0, hx0, ex0.symm⟩
      have hget := idxOf_getB hmem
      refine (d_index (K := K) (d := oD (rowO b la u)) (d_var rfl (hR.ex e2)) (f_call (⟨L, b, u, la⟩ : MB) ⟨by show u.length ≤ 20; omega, S.ll, S.lw⟩ (a_cons (e_var rfl (mo_B CB L b _ _ _ (e1.trans e2) h1) (mo_B CB L b)) (mo_B CB L b) (a_d (d_var rfl hx) (a_d (d_var rfl (h3.ex (e1.trans e2))) a_nil)))).toL ((Sh.lst (sh_map fun u => sh_oD _)).ok (by decide)) ((sh_oD _).ok (by decide)) (d' := oD (rowO b la u)) (j := plc b fi la u) ?_ ((eqv_iff _ _ (pl_oD _) (pl_oD _)).mpr rfl) ?_).toG (by simp only [pt])
      · rw [List.getElem?_map] at hget ⊢
        obtain ⟨y, hy, ey⟩ := Option.map_eq_some_iff.mp hget
        have hy : fi[plc b fi la u]? = some y := hy
        rw [hy, Option.map_some, ey]
      · intro m z hm hz
        obtain ⟨y, hy, rfl⟩ := map_get hz
        have h5 := idxOf_min (fi.map (rowO b la)) m hm (rowO b la y) (by rw [List.getElem?_map, hy]; rfl)
        rw [eqv_dec (p := rowO b la y = rowO b la u) (pl_oD _) (pl_oD _) oD_inj]
        exact dF h5
    · exact k v H2 (e1.trans e2) pv
/-! ### says_guess -/
structure SG where
  L : Nat
  most : Nat
  hid : Word → Int
  b : List (Word × Int)
  fi : List Word
  la : List Word
def SG.ok (x : SG) : Prop := Tab x.L x.most x.hid x.fi x.la ∧ (∃ B, BookOk x.L x.hid B x.b) ∧ AllTold x.L x.fi x.la x.b ∧ ¬ Strange x.hid x.L x.fi x.la ∧ Small x.L x.fi x.la
def sp_says_guess (CB : Addr) : Sp := PurSp (α := SG) SG.ok (fun x => [isB CB x.L x.b, isD (nD x.L), isD (.list (wsD x.fi)), isD (.list (wsD x.la))]) (fun x => isD (hD x.L (guess x.hid x.L x.fi x.la)))
theorem ok_says_guess (T : All K mg CB CA) (D_Book_told : Dm P w K mg base CB 1 "told" ["self", "word"] (sp_told CB)) (D_row_places : Df P w K mg base 3 "row_places" ["book", "access", "ends", "words"] (sp_row_places CB)) : Df P w K mg base 4 "says_guess" ["book", "letters", "access", "ends"] (sp_says_guess CB) := by
  refine T.t_says_guess.ok sc_says_guess (fun vs H Q E h => by obtain ⟨x, _, a, _⟩ := h; exact a.len) (fun f cdv A outer s H vs Q E hr h => ?_)
  obtain ⟨⟨L, most, hid, b, fi, la⟩, ⟨Tb, ⟨Bd, bo⟩, at', hc, S⟩, ⟨v1, _, rfl, h1, v2, _, rfl, h2, v3, _, rfl, h3, v4, _, rfl, h4, rfl⟩, k⟩ := h
  have S : Small L fi la := S
  have Tb : Tab L most hid fi la := Tb
  have bo : BookOk L hid Bd b := bo
  have at' : AllTold L fi la b := at'
  have hc : ¬ Strange hid L fi la := hc
  have fl := S.fl
  have l6 := S.l6
  obtain ⟨a, xa, rfl, ha, hia⟩ := im_lst h3
  refine ⟨_, (pss_cons (ps_set (i := 4) sc_says_guess.nd rfl (.inl rfl) (pe_lst pa_nil)) (pss_cons (ps_set (i := 5) sc_says_guess.nd rfl (.inl rfl) (pe_lst pa_nil)) (pss_cons (ps_for PassesOwn.never rfl (pi_list (pv 2)) (pg_name (i := 6) sc_says_guess.nd rfl (.inr rfl)) (pss_cons (ps_setLc (i := 7) (own := [("letter", 8)]) (g := gName 8) (tt := tYes) rfl sc_says_guess.nd rfl rfl (sw_true rfl rfl rfl (by decide +kernel)) (pi_range1 (by rfl) T.b_range (pa_cons (pv 1) pa_nil)) (blkOk_by (own := [("letter", 8)]) (N := ["book", "letters", "access", "ends", "says", "ways", "word", "longer", "letter", "ahead"]) (sc := defScope s_says_guess) (by decide +kernel)) (fun _ _ _ _ _ => (pg_name (i := 8) sc_says_guess.nd rfl (.inl rfl))) (fun _ _ _ _ _ => pts_nil) (fun _ _ _ _ _ => (pe_op (r := rCatA K) op_catA (pv 6) (pe_tup (pa_cons (pv 8) pa_nil))))) (pss_cons (ps_expr (pe_bm PySem.F.plainAttrs_list PySem.F.slot_list_append PySem.F.type_list_append mt_append (pv 4) (pa_cons (pe_callTy call_tuple_of (by rfl) T.b_tuple (by decide +kernel) (pa_cons (pe_lc (own := [("ahead", 9)]) (g := gName 9) (tt := tYes) rfl sc_says_guess.nd (pi_list (pv 7)) (blkOk_by (own := [("ahead", 9)]) (N := ["book", "letters", "access", "ends", "says", "ways", "word", "longer", "letter", "ahead"]) (sc := defScope s_says_guess) (by decide +kernel)) (fun _ _ _ _ _ => (pg_name (i := 9) sc_says_guess.nd rfl (.inl rfl))) (fun _ _ _ _ _ => pts_nil) (fun _ _ _ _ _ => (pmeth (pv 0) T.clCB D_Book_told (hr.mono (by decide)) (pa_cons (pv 9) pa_nil)))) pa_nil)) pa_nil))) (pss_one (ps_expr (pe_bm PySem.F.plainAttrs_list PySem.F.slot_list_append PySem.F.type_list_append mt_append (pv 5) (pa_cons (pcall D_row_places (hr.mono (by decide)) rfl (pa_cons (pv 0) (pa_cons (pv 2) (pa_cons (pv 3) (pa_cons (pv 7) pa_nil))))) pa_nil))))))) (pss_one (ps_ret (pe_tup (pa_cons (pv 1) (pa_cons (pe_callTy call_tuple_of (by rfl) T.b_tuple (by decide +kernel) (pa_cons (pv 4) pa_nil)) (pa_cons (pe_callTy call_tuple_of (by rfl) T.b_tuple (by decide +kernel) (pa_cons (pv 5) pa_nil)) pa_nil))))))))), ?_⟩
  refine q_asgF f_nil fun l1 H1 xs1 l10 e1 hl1 hx1 => ?_
  refine q_asgF f_nil fun l2 H2 xs2 l20 e2 hl2 hx2 => ?_
  have ne12 : l1 ≠ l2 := ne_of_none hl1 l20
  have z1 : H l1 = none := l10
  have z2 : H l2 = none := fresh_back e1 l20
  refine q_forLa (v_var rfl) (e2 _ _ (e1 _ _ ha)) (hia.ex (e1.trans e2)) (ptAll_ws fi) fun H3 e3 => ⟨fun i σ' H' => Ex H H' ∧ Kt H3 H' ∧ ∃ ys1 ys2, H' l1 = some (.lst ys1) ∧ H' l2 = some (.lst ys2) ∧ ImAll H' (((guess hid L fi la).says.take i).map iD) ys1 ∧ ImAll H' (((guess hid L fi la).ways.take i).map wD) ys2 ∧
      ∃ o6 o7 o8 o9, σ' = [some v1, some v2, some (.ref a), some v4, some (.ref l1), some (.ref l2), o6, o7, o8, o9],
    ⟨(e1.trans e2).trans e3, Kt.refl _, xs1, xs2, e3 _ _ (e2 _ _ hl1), e3 _ _ hl2, hx1.ex (e2.trans e3), hx2.ex e3, _, _, _, _, rfl⟩, fun i σ' H' p => ⟨p.2.1, p.1 _ _ ha⟩, ?_, ?_⟩
  · rintro i d x σ' H' hd hx ⟨e, kt, ys1, ys2, hL1, hL2, hI1, hI2, o6, o7, o8, o9, rfl⟩
    obtain ⟨u, hu, rfl⟩ := map_get hd
    have um : u ∈ fi := List.mem_of_getElem? hu
    have ilt : i < fi.length := (List.getElem?_eq_some_iff.mp hu).1
    have uw := S.fw u um
    -- longer
    refine q_asgF (c_R (n := L) (rs := wsD ((List.range L).map fun a => u ++ [a])) (d_var rfl (h2.ex e)) (by rw [List.length_map, List.length_map, List.length_range]) (by omega) (fun _ => rfl) (fun _ _ _ _ => t_yes) (fun j r H4 e4 hj hr' => ?_)) fun p H4 xs4 p0 e4 hp hxs4 => ?_
    · obtain ⟨n, hn, rfl⟩ := map_get hr'
      obtain ⟨m, hm, rfl⟩ := map_get hn
      rw [List.getElem?_range hj] at hm
      rw [← Option.some.inj hm]
      exact (d_catW (K := K) (d_var rfl (hx.ex e4)) (d_tup1 (d_var rfl (.int _))) (by rw [List.length_singleton]; omega)).toG (pt_wD _)
    have hLo : Im H4 (.list (wsD ((List.range L).map fun a => u ++ [a]))) (.ref p) := .lst hp hxs4
    have np1 : p ≠ l1 := fun q => by rw [q, hL1] at p0; cases p0
    have np2 : p ≠ l2 := fun q => by rw [q, hL2] at p0; cases p0
    have gs : (guess hid L fi la).says[i]? = some ((List.range L).map fun a => hid (u ++ [a])) := by
      show (fi.map _)[i]? = _
      rw [List.getElem?_map, hu]
      rfl
    have gw : (guess hid L fi la).ways[i]? = some ((List.range L).map fun a => (fi.map (rowH hid la)).idxOf (rowH hid la (u ++ [a]))) := by
      show (fi.map _)[i]? = _
      rw [List.getElem?_map, hu]
      rfl
    have isr : ∀ a, a < L → IsRow L fi (u ++ [a]) := fun a h => .inr ⟨u, um, a, h, rfl⟩
    -- says.append(tuple([book.told(ahead) for ahead in longer]))
    have len1 := hI1.len
    have len2 := hI2.len
    rw [List.length_map, List.length_take] at len1 len2
    refine q_app (e4 _ _ hL1) (v_var rfl) (d_tupOf (K := K) (c_L (K := K) (d_var rfl hLo) (rs := ((List.range L).map fun a => hid (u ++ [a])).map .int) (by rw [List.length_map, List.length_map, List.length_map, List.length_map]) (by rw [List.length_map, List.length_map, List.length_range]; omega) (fun _ => rfl) (fun _ _ _ _ _ _ _ => t_yes) (fun j d r y H5 e5 hd hr' hy => ?_)).toL) (by omega) fun v5 H5 e5 pv5 => ?_
    · obtain ⟨n, hn, rfl⟩ := map_get hd
      obtain ⟨m, hm, rfl⟩ := map_get hn
      obtain ⟨q, hq, rfl⟩ := map_get hr'
      obtain ⟨m', hm', rfl⟩ := map_get hq
      rw [hm] at hm'
      cases hm'
      have hml : m < L := List.mem_range.mp (List.mem_of_getElem? hm)
      have ht : told b (u ++ [m]) = some (hid (u ++ [m])) := bo.told (at' u (.inl um) [m] (Tb.let_mem hml))
      have g := e_meth (E := E0) (cond := fun _ => True) (ps := fun x : Nat × List (Word × Int) × Word => [isB CB x.1 x.2.1, isD (wD x.2.2)]) (post := fun x => isD (optD (told x.2.1 x.2.2))) (L, b, u ++ [m]) trivial (e_var (i := 0) (σ := [some v1, some v2, some (.ref a), some v4, some (.ref l1), some (.ref l2), some x, some (.ref p), o8, some y]) rfl (mo_B CB L b _ _ _ (e.trans (e4.trans e5)) h1) (mo_B CB L b)) (mo_B CB L b) (isB_ins told_no_letters told_no_marks) (a_d (d_var (i := 9) rfl hy) a_nil) rfl
      have g' := g.imp (R := isD (.int (hid (u ++ [m])))) fun v H1 _ p => by
        have p : Im H1 (optD (told b (u ++ [m]))) v := p
        rw [ht] at p
        exact p
      exact g'.toG (by simp only [pt])
    have kt5 : Kt H5 (upd H5 l1 (.lst (ys1 ++ [v5]))) := Kt.upd (Kt.refl _) (e5 _ _ (e4 _ _ hL1)) fun _ z => nomatch z
    have ex5 : Ex H (upd H5 l1 (.lst (ys1 ++ [v5]))) := Ex.mut ((e.trans e4).trans e5) z1
    have hLo5 : Im (upd H5 l1 (.lst (ys1 ++ [v5]))) (.list (wsD ((List.range L).map fun a => u ++ [a]))) (.ref p) := .lst (by rw [upd_ne np1]; exact e5 _ _ hp) ((hxs4.ex e5).kt kt5 (ptAll_ws _))
    have hL25 : upd H5 l1 (.lst (ys1 ++ [v5])) l2 = some (.lst ys2) := by rw [upd_ne ne12.symm]; exact e5 _ _ (e4 _ _ hL2)
    -- ways.append(row_places(book, access, ends, longer))
    refine k_app hL25 (v_var rfl) (e_call (⟨L, b, fi, la, (List.range L).map fun a => u ++ [a]⟩ : RP) ⟨S, by show ((List.range L).map _).length ≤ 10; rw [List.length_map, List.length_range]; omega, fun w hw => ?_⟩
      (a_cons (e_var rfl (mo_B CB L b _ _ _ ex5 h1) (mo_B CB L b)) (mo_B CB L b) (a_d (d_var rfl (h3.ex ex5)) (a_d (d_var rfl (h4.ex ex5)) (a_d (d_var rfl hLo5) a_nil))))) (by omega) fun v6 H6 e6 pv6 => ?_
    · obtain ⟨m, hm, rfl⟩ := List.mem_map.mp hw
      have hml := List.mem_range.mp hm
      refine ⟨by rw [List.length_append, List.length_singleton]; omega, ?_⟩
      obtain ⟨y, hy, ey⟩ := closed_row hc (isr m hml)
      exact ⟨y, hy, (rowO_eq bo at' (isr m hml) (.inl hy)).mpr ey⟩
    have hplc : ((List.range L).map fun a => u ++ [a]).map (plc b fi la) = (List.range L).map fun a => (fi.map (rowH hid la)).idxOf (rowH hid la (u ++ [a])) := by
      rw [List.map_map]
      refine List.map_inj_left.mpr fun m hm => ?_
      have hml := List.mem_range.mp hm
      show (fi.map (rowO b la)).idxOf (rowO b la (u ++ [m])) = _
      have e1 : fi.map (rowO b la) = (fi.map (rowH hid la)).map (List.map some) := by
        rw [List.map_map]
        exact List.map_inj_left.mpr fun y hy => rowO_row bo at' (.inl hy)
      rw [e1, rowO_row bo at' (isr m hml), idxOf_map fun _ _ h => (map_inj fun _ _ h => Option.some.inj h).mp h]
    have kt6 : Kt H6 (upd H6 l2 (.lst (ys2 ++ [v6]))) := Kt.upd (Kt.refl _) (e6 _ _ hL25) fun _ z => nomatch z
    have pv6 : Im H6 (wD (((List.range L).map fun a => u ++ [a]).map (plc b fi la))) v6 := pv6
    rw [hplc] at pv6
    have ktA : Kt H' (upd H6 l2 (.lst (ys2 ++ [v6]))) := (((ex_kt (e4.trans e5)).trans kt5).trans (ex_kt e6)).trans kt6
    refine ⟨Ex.mut (ex5.trans e6) z2, kt.trans ktA, ys1 ++ [v5], ys2 ++ [v6], ?_, upd_same, ?_, ?_, _, _, _, _, rfl⟩
    · rw [upd_ne ne12, e6 _ _ upd_same]
    · rw [take_snoc gs, List.map_append]
      exact (hI1.kt ktA (ptAll_is _)).app (ImAll.one (pv5.kt ((kt5.trans (ex_kt e6)).trans kt6) (pt_iD _)))
    · rw [take_snoc gw, List.map_append]
      exact (hI2.kt ktA (ptAll_ws _)).app (ImAll.one (pv6.kt kt6 (pt_wD _)))
  · rintro σ' H' ⟨e, kt, ys1, ys2, hL1, hL2, hI1, hI2, o6, o7, o8, o9, rfl⟩
    rw [List.length_map] at hI1 hI2
    rw [List.take_of_length_le (by rw [guess_says_len]; exact Nat.le_refl _)] at hI1
    rw [List.take_of_length_le (by rw [guess_ways_len]; exact Nat.le_refl _)] at hI2
    refine k_ret (d_tup (ds := [nD L, .tuple ((guess hid L fi la).says.map iD), .tuple ((guess hid L fi la).ways.map wD)]) (a_d (d_var rfl (h2.ex e)) (a_d (d_tupOf (K := K) (d_var rfl (.lst hL1 hI1))) (a_d (d_tupOf (K := K) (d_var rfl (.lst hL2 hI2))) a_nil))) (by show 3 ≤ 100000; decide)) fun v H5 e5 pv => ?_
    exact k v H5 (e.trans e5) pv
end
end Gr
end
section
set_option maxRecDepth 100000
set_option maxHeartbeats 4000000
namespace Gr
open PySem L2 PySem.Spec PyProof.Rows Evl
section
variable {P : Program} {w : World} {K : PySem.W.Frag} {mg : Str → Option Value} {base : Heap} {CB CA : Addr}
theorem wV_app (u v : Word) : wV (u ++ v) = wV u ++ wV v := List.map_append
/-! ### law_marks -/
structure LM where
  b : List (Word × Int)
  u : Word
  la : List Word
  ms : List Int
def LM.ok (x : LM) : Prop := x.u.length ≤ 20 ∧ x.la.length ≤ 20 ∧ (∀ e ∈ x.la, e.length ≤ 1000) ∧ rowO x.b x.la x.u = x.ms.map some
def sp_marks : Sp := LstSp (α := LM) LM.ok (fun x => [isT x.b, isD (wD x.u), isD (.list (wsD x.la))]) (fun x => x.ms.map .int)
theorem ok_law_marks (T : All K mg CB CA) : Df P w K mg base 1 "_law_marks" ["told", "word", "ends"] sp_marks := by
  refine T.t_law_marks.ok sc_law_marks (fun vs H Q E h => by obtain ⟨x, _, a, _⟩ := h; exact a.len) (fun f cdv A outer s H vs Q E hr h => ?_)
  obtain ⟨⟨b, u, la, ms⟩, ⟨s1, s2, s3, s4⟩, ⟨v1, _, rfl, h1, v2, _, rfl, h2, v3, _, rfl, h3, rfl⟩, k⟩ := h
  have s1 : u.length ≤ 20 := s1
  have s2 : la.length ≤ 20 := s2
  have s4 : la.map (fun e => told b (u ++ e)) = ms.map some := s4
  have sl : ms.length = la.length := by
    have := congrArg List.length s4
    rw [List.length_map, List.length_map] at this
    exact this.symm
  have tl : ∀ (i : Nat) e, la[i]? = some e → ∃ m, ms[i]? = some m ∧ told b (u ++ e) = some m := fun i e he => by
    have h := congrArg (fun l => l[i]?) s4
    simp only [List.getElem?_map, he, Option.map_some] at h
    cases q : ms[i]? with
    | none => rw [q] at h; cases h
    | some m => rw [q] at h; exact ⟨m, rfl, Option.some.inj h⟩
  refine ⟨_, (pss_one (ps_ret (pe_lc (own := [("end", 3)]) (g := gName 3) rfl sc_law_marks.nd (pi_list (pv 2)) (blkOk_by (own := [("end", 3)]) (N := ["told", "word", "ends", "end"]) (sc := defScope s_law_marks) (by decide +kernel)) (fun _ _ _ _ _ => (pg_name (i := 3) sc_law_marks.nd rfl (.inl rfl))) (fun _ _ _ _ _ => pts_one (pt_cmp (pc_din (hu_of hr) (pe_op (r := rCatA K) op_catA (pv 1) (pv 3)) (pv 0)))) (fun _ _ _ _ _ => (pe_dget (hu_of hr) (pv 0) (pe_op (r := rCatA K) op_catA (pv 1) (pv 3)) (fun _ _ => rfl)))))), ?_⟩
  refine k_retF (c_L (K := K) (d_var rfl h3) (rs := ms.map .int) (by rw [List.length_map, List.length_map]; exact sl) (by rw [List.length_map]; show la.length ≤ 80000; omega) (fun _ => rfl) (fun i d x H1 e1 hd hx => ?_) (fun i d r x H1 e1 hd hr' hx => ?_)) fun p H1 xs h0 e1 hp hxs => ?_
  · obtain ⟨en, hen, rfl⟩ := map_get hd
    obtain ⟨m, hm, ht⟩ := tl i en hen
    have hel := s3 en (List.mem_of_getElem? hen)
    exact t_B (d_din (d_catW (K := K) (d_var rfl (h2.ex e1)) (d_var rfl hx) (by omega)) (e_var rfl (mo_T b _ _ _ e1 h1) (mo_T b)) (by rw [ht]; rfl))
  · obtain ⟨en, hen, rfl⟩ := map_get hd
    obtain ⟨m, hm, ht⟩ := tl i en hen
    obtain ⟨m', hm', rfl⟩ := map_get hr'
    rw [hm] at hm'
    cases hm'
    have hel := s3 en (List.mem_of_getElem? hen)
    exact (d_dget (e_var rfl (mo_T b _ _ _ e1 h1) (mo_T b)) (d_catW (K := K) (d_var rfl (h2.ex e1)) (d_var rfl hx) (by omega)) ht).toG (by simp only [pt])
  · exact k p H1 xs h0 e1 hp hxs
/-! ### law_rows_are, law_house_is -/
theorem wD_iD (w : Word) : wD w = iD (w.map fun (n : Nat) => (n : Int)) := by
  show PyData.tuple _ = PyData.tuple _
  rw [List.map_map]
  rfl
theorem iD_get {m : List Int} {c : Nat} {x : Int} (h : m[c]? = some x) : atI (m.map PyData.int) (c : Int) = some (.int x) := at_map h
def sp_rows_are : Sp := PurSp (α := List (List Int)) (fun x => x.length ≤ 100 ∧ ∀ r ∈ x, r.length ≤ 100) (fun x => [isD (.tuple (x.map iD)), isD (.tuple (x.map iD))]) (fun _ => isD (.bool true))
theorem ok_law_rows_are (T : All K mg CB CA) (D_law_whole : Df P w K mg base 1 "_law_whole" ["found"] sp_whole) : Df P w K mg base 2 "_law_rows_are" ["found", "due"] sp_rows_are := by
  refine T.t_law_rows_are.ok sc_law_rows_are (fun vs H Q E h => by obtain ⟨x, _, a, _⟩ := h; exact a.len) (fun f cdv A outer s H vs Q E hr h => ?_)
  obtain ⟨rs, ⟨s1, s2⟩, ⟨v1, _, rfl, h1, v2, _, rfl, h2, rfl⟩, k⟩ := h
  refine ⟨_, (pss_cons (ps_if (PW.pt (pw_or (pt_not (pt_val (pe_callB call_isi (by rfl) T.b_isinstance (by decide +kernel) (pa_cons (pv 0) (pa_cons (pe_bltn (v := .ty "tuple") (by rfl) T.b_tuple (by decide +kernel) rfl) pa_nil))))) (pw_or1 (pt_cmpR op_ne (pe_callB call_len_seq (by rfl) T.b_len PySem.boot_len (pa_cons (pv 0) pa_nil)) (pe_callB call_len_seq (by rfl) T.b_len PySem.boot_len (pa_cons (pv 1) pa_nil)) (nomark _))))) (pss_one (ps_ret pe_bl)) pss_nil) (pss_cons (ps_for PassesOwn.never rfl (pi_range1 (by rfl) T.b_range (pa_cons (pe_callB call_len_seq (by rfl) T.b_len PySem.boot_len (pa_cons (pv 1) pa_nil)) pa_nil)) (pg_name (i := 2) sc_law_rows_are.nd rfl (.inl rfl)) (pss_cons (ps_if (PW.pt (pw_or (pt_not (pt_val (pe_callB call_isi (by rfl) T.b_isinstance (by decide +kernel) (pa_cons (pe_ix ix_tup (pv 0) (pv 2) (fun _ _ => rfl)) (pa_cons (pe_bltn (v := .ty "tuple") (by rfl) T.b_tuple (by decide +kernel) rfl) pa_nil))))) (pw_or1 (pt_cmpR op_ne (pe_callB call_len_seq (by rfl) T.b_len PySem.boot_len (pa_cons (pe_ix ix_tup (pv 0) (pv 2) (fun _ _ => rfl)) pa_nil)) (pe_callB call_len_seq (by rfl) T.b_len PySem.boot_len (pa_cons (pe_ix ix_tup (pv 1) (pv 2) (fun _ _ => rfl)) pa_nil)) (nomark _))))) (pss_one (ps_ret pe_bl)) pss_nil) (pss_one (ps_for PassesOwn.never rfl (pi_range1 (by rfl) T.b_range (pa_cons (pe_callB call_len_seq (by rfl) T.b_len PySem.boot_len (pa_cons (pe_ix ix_tup (pv 1) (pv 2) (fun _ _ => rfl)) pa_nil)) pa_nil)) (pg_name (i := 3) sc_law_rows_are.nd rfl (.inl rfl)) (pss_one (ps_if (PW.pt (pw_or (pt_not (pt_val (pcall D_law_whole (hr.mono (by decide)) rfl (pa_cons (pe_ix ix_tup (pe_ix ix_tup (pv 0) (pv 2) (fun _ _ => rfl)) (pv 3) (fun _ _ => rfl)) pa_nil)))) (pw_or1 (pt_cmpR op_ne (pe_ix ix_tup (pe_ix ix_tup (pv 0) (pv 2) (fun _ _ => rfl)) (pv 3) (fun _ _ => rfl)) (pe_ix ix_tup (pe_ix ix_tup (pv 1) (pv 2) (fun _ _ => rfl)) (pv 3) (fun _ _ => rfl)) (nomark _))))) (pss_one (ps_ret pe_bl)) pss_nil)))))) (pss_one (ps_ret pe_bl)))), ?_⟩
  refine q_no (t_oF (t_nT (t_B (d_isi (K := K) (d_var rfl h1) (fun _ _ p => ty_tup p) tt))) (cn_no (d_neI (d_lenMT (K := K) (d_var rfl h1)) (d_lenMT (K := K) (d_var rfl h2))) rfl)) fun H0 e0 => ?_
  refine q_forR (n := rs.length) (d_lenMT (K := K) (d_var rfl (h2.ex e0))) (by omega) fun H1 e1 => ⟨fun i σ' H' => Ex H H' ∧ ∃ o2 o3, σ' = [some v1, some v2, o2, o3], ⟨e0.trans e1, _, _, rfl⟩, ?_, ?_⟩
  · rintro i σ' H' hi ⟨e, o2, o3, rfl⟩
    have hw : rs[i]? = some rs[i] := List.getElem?_eq_getElem hi
    have hrl := s2 _ (List.getElem_mem hi)
    have g1 : ∀ o H', Ex H H' → EvP (tOp (rIxT K) (tVar 0) (tVar 2)) [some v1, some v2, some (V.int (i : Int)), o] H' (isD (iD rs[i])) := fun o H' e => d_ixT (d_var rfl (h1.ex e)) (d_var rfl (.int _)) (at_map hw)
    have g2 : ∀ o H', Ex H H' → EvP (tOp (rIxT K) (tVar 1) (tVar 2)) [some v1, some v2, some (V.int (i : Int)), o] H' (isD (iD rs[i])) := fun o H' e => d_ixT (d_var rfl (h2.ex e)) (d_var rfl (.int _)) (at_map hw)
    refine q_no (t_oF (t_nT (t_B (d_isi (K := K) (g1 o3 H' e) (fun _ _ p => ty_tup p) tt))) (cn_no (d_neI (d_lenMT (K := K) (g1 o3 H' e)) (d_lenMT (K := K) (g2 o3 H' e))) rfl)) fun H2 e2 => ?_
    refine k_forR (n := rs[i].length) (d_lenMT (K := K) (g2 o3 H2 (e.trans e2))) (by omega) fun H3 e3 => ⟨fun j σ'' H'' => Ex H H'' ∧ ∃ o3, σ'' = [some v1, some v2, some (V.int (i : Int)), o3], ⟨(e.trans e2).trans e3, _, rfl⟩, ?_, ?_⟩
    · rintro j σ'' H'' hj ⟨f, o3, rfl⟩
      have hx : rs[i][j]? = some rs[i][j] := List.getElem?_eq_getElem hj
      have c1 := d_ixT (K := K) (g1 (some (.int (j : Int))) H'' f) (d_var (i := 3) rfl (.int _)) (iD_get hx)
      have c2 := d_ixT (K := K) (g2 (some (.int (j : Int))) H'' f) (d_var (i := 3) rfl (.int _)) (iD_get hx)
      refine k_no (t_oF (t_nT (t_B (e_call rs[i][j] trivial (a_d c1 a_nil)))) (cn_no (d_neI c1 c2) rfl)) fun H4 e4 => ?_
      exact ⟨f.trans e4, _, rfl⟩
    · rintro σ'' H'' ⟨f, o3, rfl⟩
      exact ⟨f, _, _, rfl⟩
  · rintro σ' H' ⟨e, o2, o3, rfl⟩
    refine k_ret d_bl fun v H2 e2 pv => ?_
    exact k v H2 (e.trans e2) pv
def sp_house_is : Sp := PurSp (α := Nat × House) (fun x => x.2.says.length ≤ 100 ∧ (∀ r ∈ x.2.says, r.length ≤ 100) ∧ x.2.ways.length ≤ 100 ∧ ∀ r ∈ x.2.ways, r.length ≤ 100) (fun x => [isD (hD x.1 x.2), isD (hD x.1 x.2)]) (fun _ => isD (.bool true))
theorem ok_law_house_is (T : All K mg CB CA) (D_law_whole : Df P w K mg base 1 "_law_whole" ["found"] sp_whole) (D_law_rows_are : Df P w K mg base 2 "_law_rows_are" ["found", "due"] sp_rows_are) : Df P w K mg base 3 "_law_house_is" ["found", "due"] sp_house_is := by
  refine T.t_law_house_is.ok sc_law_house_is (fun vs H Q E h => by obtain ⟨x, _, a, _⟩ := h; exact a.len) (fun f cdv A outer s H vs Q E hr h => ?_)
  obtain ⟨⟨L, g⟩, ⟨s1, s2, s3, s4⟩, ⟨v1, _, rfl, h1, v2, _, rfl, h2, rfl⟩, k⟩ := h
  refine ⟨_, (pss_cons (ps_if (PW.pt (pw_or (pt_not (pt_val (pe_callB call_isi (by rfl) T.b_isinstance (by decide +kernel) (pa_cons (pv 0) (pa_cons (pe_bltn (v := .ty "tuple") (by rfl) T.b_tuple (by decide +kernel) rfl) pa_nil))))) (pw_or1 (pt_cmpR op_ne (pe_callB call_len_seq (by rfl) T.b_len PySem.boot_len (pa_cons (pv 0) pa_nil)) pe_int (nomark _))))) (pss_one (ps_ret pe_bl)) pss_nil) (pss_cons (ps_if (PW.pt (pw_or (pt_not (pt_val (pcall D_law_whole (hr.mono (by decide)) rfl (pa_cons (pe_ix ix_tup (pv 0) pe_int (fun _ _ => rfl)) pa_nil)))) (pw_or1 (pt_cmpR op_ne (pe_ix ix_tup (pv 0) pe_int (fun _ _ => rfl)) (pe_ix ix_tup (pv 1) pe_int (fun _ _ => rfl)) (nomark _))))) (pss_one (ps_ret pe_bl)) pss_nil) (pss_one (ps_ret (pe_and (pcall D_law_rows_are (hr.mono (by decide)) rfl (pa_cons (pe_ix ix_tup (pv 0) pe_int (fun _ _ => rfl)) (pa_cons (pe_ix ix_tup (pv 1) pe_int (fun _ _ => rfl)) pa_nil))) (pe_one (pcall D_law_rows_are (hr.mono (by decide)) rfl (pa_cons (pe_ix ix_tup (pv 0) pe_int (fun _ _ => rfl)) (pa_cons (pe_ix ix_tup (pv 1) pe_int (fun _ _ => rfl)) pa_nil))))))))), ?_⟩
  refine q_no (t_oF (t_nT (t_B (d_isi (K := K) (d_var rfl h1) (fun _ _ p => ty_tup p) tt))) (cn_no (d_neI (d_lenT (K := K) (d_var rfl h1)) (d_int (i := 3))) rfl)) fun H0 e0 => ?_
  have c1 := d_ixT (K := K) (σ := [some v1, some v2]) (d_var (i := 0) rfl (h1.ex e0)) (d_int (i := 0)) (at_nat (i := 0) rfl)
  have c2 := d_ixT (K := K) (σ := [some v1, some v2]) (d_var (i := 1) rfl (h2.ex e0)) (d_int (i := 0)) (at_nat (i := 0) rfl)
  refine q_no (t_oF (t_nT (t_B (e_call (L : Int) trivial (a_d c1 a_nil)))) (cn_no (d_neI c1 c2) rfl)) fun H1 e1 => ?_
  have hw : g.ways.map wD = (g.ways.map fun r => r.map fun (n : Nat) => (n : Int)).map iD := by
    rw [List.map_map]
    exact List.map_inj_left.mpr fun r _ => wD_iD r
  have h1' : Im H1 (.tuple [nD L, .tuple (g.says.map iD), .tuple ((g.ways.map fun r => r.map fun (n : Nat) => (n : Int)).map iD)]) v1 := by
    rw [← hw]
    exact h1.ex (e0.trans e1)
  have h2' : Im H1 (.tuple [nD L, .tuple (g.says.map iD), .tuple ((g.ways.map fun r => r.map fun (n : Nat) => (n : Int)).map iD)]) v2 := by
    rw [← hw]
    exact h2.ex (e0.trans e1)
  refine k_ret (d_andV (e_call g.says ⟨s1, s2⟩ (a_d (d_ixT (K := K) (d_var rfl h1') (d_int (i := 1)) (at_nat (i := 1) rfl)) (a_d (d_ixT (K := K) (d_var rfl h2') (d_int (i := 1)) (at_nat (i := 1) rfl)) a_nil))) fun _ =>
    e_call (g.ways.map fun r => r.map fun (n : Nat) => (n : Int)) ⟨by rw [List.length_map]; exact s3, fun r hr => by obtain ⟨q, hq, rfl⟩ := List.mem_map.mp hr; rw [List.length_map]; exact s4 q hq⟩ (a_d (d_ixT (K := K) (d_var rfl h1') (d_int (i := 2)) (at_nat (i := 2) rfl)) (a_d (d_ixT (K := K) (d_var rfl h2') (d_int (i := 2)) (at_nat (i := 2) rfl)) a_nil))) fun v H2 e2 pv => ?_
  exact k v H2 ((e0.trans e1).trans e2) pv
/-! ### law_due_guess -/
theorem any_rows {hid : Word → Int} {la us : List Word} {x : List Int} : ((us.map fun u => lD (rowH hid la u)).any fun z => PyData.eqv z (lD x)) = decide (x ∈ us.map (rowH hid la)) := by
  have h : (us.map fun u => lD (rowH hid la u)) = (us.map (rowH hid la)).map lD := by rw [List.map_map]; rfl
  rw [h, any_ls]
def sp_due_guess : Sp := PurSp (α := SG) SG.ok (fun x => [isD (nD x.L), isD (.list (wsD x.fi)), isD (.list (wsD x.la)), isT x.b]) (fun x => isD (hD x.L (guess x.hid x.L x.fi x.la)))
theorem row_take {L most : Nat} {hid : Word → Int} {fi la : List Word} (Tb : Tab L most hid fi la) (u : Word) : (rowH hid la u).take L = (List.range L).map fun a => hid (u ++ [a]) := by
  unfold rowH
  rw [← List.map_take, Tb.laT, List.map_map]
  rfl
theorem ok_law_due_guess (T : All K mg CB CA) (D_law_marks : Df P w K mg base 1 "_law_marks" ["told", "word", "ends"] sp_marks) : Df P w K mg base 2 "_law_due_guess" ["letters", "access", "ends", "told"] sp_due_guess := by
  refine T.t_law_due_guess.ok sc_law_due_guess (fun vs H Q E h => by obtain ⟨x, _, a, _⟩ := h; exact a.len) (fun f cdv A outer s H vs Q E hr h => ?_)
  obtain ⟨⟨L, most, hid, b, fi, la⟩, ⟨Tb, ⟨Bd, bo⟩, at', hc, S⟩, ⟨v1, _, rfl, h1, v2, _, rfl, h2, v3, _, rfl, h3, v4, _, rfl, h4, rfl⟩, k⟩ := h
  have S : Small L fi la := S
  have Tb : Tab L most hid fi la := Tb
  have bo : BookOk L hid Bd b := bo
  have at' : AllTold L fi la b := at'
  have hc : ¬ Strange hid L fi la := hc
  have fl := S.fl
  have l6 := S.l6
  have lla := S.ll
  refine ⟨_, (pss_cons (ps_setLc (i := 4) (own := [("word", 5)]) (g := gName 5) (tt := tYes) rfl sc_law_due_guess.nd rfl rfl (sw_true rfl rfl rfl (by decide +kernel)) (pi_list (pv 1)) (blkOk_by (own := [("word", 5)]) (N := ["letters", "access", "ends", "told", "rows", "word", "says", "ways", "k", "row", "letter", "marks"]) (sc := defScope s_law_due_guess) (by decide +kernel)) (fun _ _ _ _ _ => (pg_name (i := 5) sc_law_due_guess.nd rfl (.inl rfl))) (fun _ _ _ _ _ => pts_nil) (fun _ _ _ _ _ => (pcall D_law_marks (hr.mono (by decide)) rfl (pa_cons (pv 3) (pa_cons (pv 5) (pa_cons (pv 2) pa_nil)))))) (pss_cons (ps_set (i := 6) sc_law_due_guess.nd rfl (.inl rfl) (pe_lst pa_nil)) (pss_cons (ps_set (i := 7) sc_law_due_guess.nd rfl (.inl rfl) (pe_lst pa_nil)) (pss_cons (ps_for PassesOwn.never rfl (pi_range1 (by rfl) T.b_range (pa_cons (pe_callB call_len_seq (by rfl) T.b_len PySem.boot_len (pa_cons (pv 1) pa_nil)) pa_nil)) (pg_name (i := 8) sc_law_due_guess.nd rfl (.inl rfl)) (pss_cons (ps_if (PW.pt (pw_or (pt_cmpR op_ne (pe_callB call_len_seq (by rfl) T.b_len PySem.boot_len (pa_cons (pe_ix ix_list (pv 4) (pv 8) (fun _ _ => rfl)) pa_nil)) (pe_callB call_len_seq (by rfl) T.b_len PySem.boot_len (pa_cons (pv 2) pa_nil)) (nomark _)) (pw_or1 (pt_cmpR (op_inD (u65 hr)) (pe_ix ix_list (pv 4) (pv 8) (fun _ _ => rfl)) (pe_slice sl_list (pv 4) po_none (po_some (pv 8))) (by rfl))))) (pss_one (ps_ret pe_non)) pss_nil) (pss_cons (ps_expr (pe_bm PySem.F.plainAttrs_list PySem.F.slot_list_append PySem.F.type_list_append mt_append (pv 6) (pa_cons (pe_callTy call_tuple_of (by rfl) T.b_tuple (by decide +kernel) (pa_cons (pe_slice sl_list (pe_ix ix_list (pv 4) (pv 8) (fun _ _ => rfl)) po_none (po_some (pv 0))) pa_nil)) pa_nil))) (pss_cons (ps_set (i := 9) sc_law_due_guess.nd rfl (.inl rfl) (pe_lst pa_nil)) (pss_cons (ps_for PassesOwn.never rfl (pi_range1 (by rfl) T.b_range (pa_cons (pv 0) pa_nil)) (pg_name (i := 10) sc_law_due_guess.nd rfl (.inl rfl)) (pss_cons (ps_set (i := 11) sc_law_due_guess.nd rfl (.inl rfl) (pcall D_law_marks (hr.mono (by decide)) rfl (pa_cons (pv 3) (pa_cons (pe_op op_catA (pe_ix ix_list (pv 1) (pv 8) (fun _ _ => rfl)) (pe_tup (pa_cons (pv 10) pa_nil))) (pa_cons (pv 2) pa_nil))))) (pss_cons (ps_if (pt_cmpR (op_notInD (u65 hr)) (pv 11) (pv 4) (by rfl)) (pss_one (ps_ret pe_non)) pss_nil) (pss_one (ps_expr (pe_bm PySem.F.plainAttrs_list PySem.F.slot_list_append PySem.F.type_list_append mt_append (pv 9) (pa_cons (pe_bm PySem.F.plainAttrs_list PySem.F.slot_list_index PySem.F.type_list_index (mt_indexD (u65 hr)) (pv 4) (pa_cons (pv 11) pa_nil)) pa_nil))))))) (pss_one (ps_expr (pe_bm PySem.F.plainAttrs_list PySem.F.slot_list_append PySem.F.type_list_append mt_append (pv 7) (pa_cons (pe_callTy call_tuple_of (by rfl) T.b_tuple (by decide +kernel) (pa_cons (pv 9) pa_nil)) pa_nil))))))))) (pss_one (ps_ret (pe_tup (pa_cons (pv 0) (pa_cons (pe_callTy call_tuple_of (by rfl) T.b_tuple (by decide +kernel) (pa_cons (pv 6) pa_nil)) (pa_cons (pe_callTy call_tuple_of (by rfl) T.b_tuple (by decide +kernel) (pa_cons (pv 7) pa_nil)) pa_nil)))))))))), ?_⟩
  -- rows
  refine q_asgF (c_L (K := K) (d_var rfl h2) (rs := fi.map fun u => lD (rowH hid la u)) (by rw [List.length_map, List.length_map]) (by rw [List.length_map]; show fi.length ≤ 80000; omega) (fun _ => rfl) (fun _ _ _ _ _ _ _ => t_yes) (fun i d r x H1 e1 hd hr' hx => ?_)) fun pr H1 xsr r0 e1 hpr hxr => ?_
  · obtain ⟨u, hu, rfl⟩ := map_get hd
    obtain ⟨u', hu', rfl⟩ := map_get hr'
    rw [hu] at hu'
    cases hu'
    have um := List.mem_of_getElem? hu
    have := S.fw u um
    exact (f_call (⟨b, u, la, rowH hid la u⟩ : LM) ⟨by show u.length ≤ 20; omega, S.ll, S.lw, rowO_row bo at' (.inl um)⟩ (a_cons (e_var rfl (mo_T b _ _ _ e1 h4) (mo_T b)) (mo_T b) (a_d (d_var rfl hx) (a_d (d_var rfl (h3.ex e1)) a_nil)))).toG (ptAll_int _)
  have hR : Im H1 (.list (fi.map fun u => lD (rowH hid la u))) (.ref pr) := .lst hpr hxr
  have shR : SeqAt.shaped (.list (fi.map fun u => lD (rowH hid la u))) = true := (Sh.lst (sh_map fun u => sh_lD _)).ok (by decide)
  refine q_asgF f_nil fun l1 H2 xs1 l10 e2 hl1 hx1 => ?_
  refine q_asgF f_nil fun l2 H3 xs2 l20 e3 hl2 hx2 => ?_
  have ne12 : l1 ≠ l2 := ne_of_none hl1 l20
  have z2 : H1 l2 = none := fresh_back e2 l20
  have eH3 : Ex H H3 := (e1.trans e2).trans e3
  refine q_forR (n := fi.length) (d_lenM (K := K) (d_var rfl (h2.ex eH3))) (by omega) fun H4 e4 => ⟨fun i σ' H' => Ex H1 H' ∧ ∃ ys1 ys2, H' l1 = some (.lst ys1) ∧ H' l2 = some (.lst ys2) ∧ ImAll H' (((guess hid L fi la).says.take i).map iD) ys1 ∧ ImAll H' (((guess hid L fi la).ways.take i).map wD) ys2 ∧
      ∃ o5 o8 o9 o10 o11, σ' = [some v1, some v2, some v3, some v4, some (.ref pr), o5, some (.ref l1), some (.ref l2), o8, o9, o10, o11],
    ⟨(e2.trans e3).trans e4, xs1, xs2, e4 _ _ (e3 _ _ hl1), e4 _ _ hl2, hx1.ex (e3.trans e4), hx2.ex e4, _, _, _, _, _, rfl⟩, ?_, ?_⟩
  · rintro i σ' H' hi ⟨e, ys1, ys2, hL1, hL2, hI1, hI2, o5, o8, o9, o10, o11, rfl⟩
    have hu : fi[i]? = some fi[i] := List.getElem?_eq_getElem hi
    generalize hug : fi[i] = u at hu
    have um : u ∈ fi := List.mem_of_getElem? hu
    have uw := S.fw u um
    have eH := e1.trans e
    have len1 := hI1.len
    have len2 := hI2.len
    rw [List.length_map, List.length_take] at len1 len2
    have gs : (guess hid L fi la).says[i]? = some ((List.range L).map fun a => hid (u ++ [a])) := by
      show (fi.map _)[i]? = _
      rw [List.getElem?_map, hu]
      rfl
    have gw : (guess hid L fi la).ways[i]? = some ((List.range L).map fun a => (fi.map (rowH hid la)).idxOf (rowH hid la (u ++ [a]))) := by
      show (fi.map _)[i]? = _
      rw [List.getElem?_map, hu]
      rfl
    have rk : ∀ (σ : L2.St) (H' : Hp), Ex H1 H' → σ[4]? = some (some (.ref pr)) → σ[8]? = some (some (.int (i : Int))) → EvP (tOp (rIxL K) (tVar 4) (tVar 8)) σ H' (isD (lD (rowH hid la u))) := fun σ H' e q1 q2 =>
      d_ixL (d_var q1 (hR.ex e)) (d_var q2 (.int _)) (at_map (f := fun u => lD (rowH hid la u)) hu)
    refine q_no (t_oF (cn_no (d_neI (d_lenM (K := K) (rk _ _ e rfl rfl)) (d_lenM (K := K) (d_var rfl (h3.ex eH)))) (by rw [rowH, List.length_map]))
      (t_cmp (d_inD (K := K) (rk _ _ e rfl rfl) (f_slL (d_var rfl (hR.ex e)) o_none (o_some (d_var rfl (.int _)))).toL ((sh_lD _).ok (by decide)) (by rw [cutD_map]; exact (Sh.lst (sh_map fun u => sh_lD _)).ok (by decide)) (b := false) ?_))) fun H5 e5 => ?_
    · rw [cutD_map, cutD_to, any_rows]
      refine dF fun m => ?_
      obtain ⟨y, hy, ey⟩ := List.mem_map.mp m
      obtain ⟨j, hj, rfl⟩ := List.mem_iff_getElem.mp hy
      rw [List.length_take] at hj
      rw [List.getElem_take] at ey
      have := Tb.fiD j i _ _ (List.getElem?_eq_getElem (by omega)) hu ey
      omega
    -- says.append(tuple(rows[k][:letters]))
    refine q_app (e5 _ _ hL1) (v_var rfl) (d_tupOf (K := K) (f_slL (rk _ _ (e.trans e5) rfl rfl) o_none (o_some (d_var rfl (h1.ex (eH.trans e5))))).toL) (by omega) fun v6 H6 e6 pv6 => ?_
    rw [cutD_map, cutD_to, row_take Tb] at pv6
    have kt6 : Kt H6 (upd H6 l1 (.lst (ys1 ++ [v6]))) := Kt.upd (Kt.refl _) (e6 _ _ (e5 _ _ hL1)) fun _ z => nomatch z
    have z1 : H1 l1 = none := l10
    have ex6 : Ex H1 (upd H6 l1 (.lst (ys1 ++ [v6]))) := Ex.mut ((e.trans e5).trans e6) z1
    have hL26 : upd H6 l1 (.lst (ys1 ++ [v6])) l2 = some (.lst ys2) := by rw [upd_ne ne12.symm]; exact e6 _ _ (e5 _ _ hL2)
    have kt06 : Kt H' (upd H6 l1 (.lst (ys1 ++ [v6]))) := (ex_kt (e5.trans e6)).trans kt6
    -- row
    refine q_asgF f_nil fun l3 H7 xs3 l30 e7 hl3 hx3 => ?_
    have z3 : H1 l3 = none := fresh_back ex6 l30
    have ne13 : l1 ≠ l3 := fun q => by rw [← q, upd_same] at l30; cases l30
    have ne23 : l2 ≠ l3 := fun q => by rw [← q, hL26] at l30; cases l30
    refine q_forR (n := L) (d_var rfl (h1.ex (e1.trans (ex6.trans e7)))) (by omega) fun H8 e8 => ⟨fun j σ'' H'' => Ex H1 H'' ∧ Kt H' H'' ∧ Kt H6 H'' ∧ H'' l1 = some (.lst (ys1 ++ [v6])) ∧ H'' l2 = some (.lst ys2) ∧ H'' l3 = some (.lst (wV (((List.range L).map fun a => (fi.map (rowH hid la)).idxOf (rowH hid la (u ++ [a]))).take j))) ∧
        ∃ o10 o11, σ'' = [some v1, some v2, some v3, some v4, some (.ref pr), o5, some (.ref l1), some (.ref l2), some (.int (i : Int)), some (.ref l3), o10, o11],
      ⟨(ex6.trans e7).trans e8, kt06.trans (ex_kt (e7.trans e8)), kt6.trans (ex_kt (e7.trans e8)), e8 _ _ (e7 _ _ upd_same), e8 _ _ (e7 _ _ hL26), by rw [e8 _ _ hl3, imAll_intv (ns := []) hx3]; rfl, _, _, rfl⟩, ?_, ?_⟩
    · rintro j σ'' H'' hj ⟨f, k1, k2, g1, g2, g3, o10, o11, rfl⟩
      have isr : IsRow L fi (u ++ [j]) := .inr ⟨u, um, j, hj, rfl⟩
      have ul : (u ++ [j]).length ≤ 11 := by rw [List.length_append, List.length_singleton]; omega
      have fH := e1.trans f
      refine q_asgF (f_call (⟨b, u ++ [j], la, rowH hid la (u ++ [j])⟩ : LM) ⟨by show (u ++ [j]).length ≤ 20; omega, S.ll, S.lw, rowO_row bo at' isr⟩ (a_cons (e_var rfl (mo_T b _ _ _ fH h4) (mo_T b)) (mo_T b) (a_d (d_catW (K := K) (d_ixL (K := K) (d_var rfl (h2.ex fH)) (d_var rfl (.int _)) (at_map hu)) (d_tup1 (d_var rfl (.int _))) (by rw [List.length_singleton]; omega)) (a_d (d_var rfl (h3.ex fH)) a_nil)))) fun pm H9 xs9 m0 e9 hpm hx9 => ?_
      have hM : Im H9 (lD (rowH hid la (u ++ [j]))) (.ref pm) := .lst hpm hx9
      obtain ⟨y, hy, ey⟩ := closed_row hc isr
      have hmem : rowH hid la (u ++ [j]) ∈ fi.map (rowH hid la) := List.mem_map.mpr ⟨y, hy, ey.symm⟩
      have hget := idxOf_getB hmem
      refine q_no (t_cmp (d_notInD (K := K) (d_var rfl hM) (d_var rfl (hR.ex (f.trans e9))) ((sh_lD _).ok (by decide)) shR (b := false) ?_)) fun H10 e10 => ?_
      · rw [any_rows, dT hmem]
        rfl
      have hgj : ((List.range L).map fun a => (fi.map (rowH hid la)).idxOf (rowH hid la (u ++ [a])))[j]? = some ((fi.map (rowH hid la)).idxOf (rowH hid la (u ++ [j]))) := by
        rw [List.getElem?_map, List.getElem?_range hj]
        rfl
      refine k_app (e10 _ _ (e9 _ _ g3)) (v_var rfl) (d_index (K := K) (d := lD (rowH hid la (u ++ [j]))) (d_var rfl (hR.ex (f.trans (e9.trans e10)))) (d_var rfl (hM.ex e10)) shR ((sh_lD _).ok (by decide)) (d' := lD (rowH hid la (u ++ [j]))) (j := (fi.map (rowH hid la)).idxOf (rowH hid la (u ++ [j]))) ?_ ((eqv_iff _ _ (pl_lD _) (pl_lD _)).mpr rfl) ?_) (by rw [List.length_map, List.length_take]; omega) fun v11 H11 e11 pv11 => ?_
      · rw [List.getElem?_map] at hget ⊢
        obtain ⟨y, hy, ey⟩ := Option.map_eq_some_iff.mp hget
        rw [hy, Option.map_some, ey]
      · intro m z hm hz
        obtain ⟨y, hy, rfl⟩ := map_get hz
        have h5 := idxOf_min (fi.map (rowH hid la)) m hm (rowH hid la y) (by rw [List.getElem?_map, hy]; rfl)
        rw [eqv_dec (p := rowH hid la y = rowH hid la (u ++ [j])) (pl_lD _) (pl_lD _) lD_inj]
        exact dF h5
      · have ktU : Kt H11 (upd H11 l3 (.lst (wV (((List.range L).map fun a => (fi.map (rowH hid la)).idxOf (rowH hid la (u ++ [a]))).take j) ++ [v11]))) := Kt.upd (Kt.refl _) (e11 _ _ (e10 _ _ (e9 _ _ g3))) fun _ z => nomatch z
        refine ⟨Ex.mut (((f.trans e9).trans e10).trans e11) z3, (k1.trans (ex_kt ((e9.trans e10).trans e11))).trans ktU, (k2.trans (ex_kt ((e9.trans e10).trans e11))).trans ktU, by rw [upd_ne ne13]; exact e11 _ _ (e10 _ _ (e9 _ _ g1)), by rw [upd_ne ne23]; exact e11 _ _ (e10 _ _ (e9 _ _ g2)), ?_, _, _, rfl⟩
        rw [upd_same, take_snoc hgj, im_int pv11, wV_app]
        rfl
    · rintro σ'' H'' ⟨f, k1, k2, g1, g2, g3, o10, o11, rfl⟩
      rw [List.take_of_length_le (by rw [List.length_map, List.length_range]; exact Nat.le_refl _)] at g3
      refine k_app g2 (v_var rfl) (d_tupOf (K := K) (d_var rfl (.lst g3 (imAll_wV _)))) (by omega) fun v9 H9 e9 pv9 => ?_
      have ktU : Kt H9 (upd H9 l2 (.lst (ys2 ++ [v9]))) := Kt.upd (Kt.refl _) (e9 _ _ g2) fun _ z => nomatch z
      have kA : Kt H' (upd H9 l2 (.lst (ys2 ++ [v9]))) := (k1.trans (ex_kt e9)).trans ktU
      refine ⟨Ex.mut (f.trans e9) z2, ys1 ++ [v6], ys2 ++ [v9], by rw [upd_ne ne12]; exact e9 _ _ g1, upd_same, ?_, ?_, _, _, _, _, _, rfl⟩
      · rw [take_snoc gs, List.map_append]
        exact (hI1.kt kA (ptAll_is _)).app (ImAll.one (Im.kt pv6 ((k2.trans (ex_kt e9)).trans ktU) (pt_iD _)))
      · rw [take_snoc gw, List.map_append]
        exact (hI2.kt kA (ptAll_ws _)).app (ImAll.one (Im.kt pv9 ktU (pt_wD _)))
  · rintro σ' H' ⟨e, ys1, ys2, hL1, hL2, hI1, hI2, o5, o8, o9, o10, o11, rfl⟩
    rw [List.take_of_length_le (by rw [guess_says_len]; exact Nat.le_refl _)] at hI1
    rw [List.take_of_length_le (by rw [guess_ways_len]; exact Nat.le_refl _)] at hI2
    refine k_ret (d_tup (ds := [nD L, .tuple ((guess hid L fi la).says.map iD), .tuple ((guess hid L fi la).ways.map wD)]) (a_d (d_var rfl (h1.ex (e1.trans e))) (a_d (d_tupOf (K := K) (d_var rfl (.lst hL1 hI1))) (a_d (d_tupOf (K := K) (d_var rfl (.lst hL2 hI2))) a_nil))) (by show 3 ≤ 100000; decide)) fun v H5 e5 pv => ?_
    exact k v H5 ((e1.trans e).trans e5) pv
end
end Gr
end
section
set_option maxRecDepth 100000
set_option maxHeartbeats 4000000
namespace Gr
open PySem L2 PySem.Spec PyProof.Rows Evl
abbrev pD (c : Nat × Nat) : PyData := .tuple [nD c.1, nD c.2]
abbrev spD (p : Word × Nat × Nat) : PyData := .tuple [wD p.1, nD p.2.1, nD p.2.2]
theorem pD_inj {x y : Nat × Nat} : pD x = pD y ↔ x = y := by
  obtain ⟨a, b⟩ := x
  obtain ⟨c, d⟩ := y
  constructor
  · intro h
    have h := PyData.tuple.inj h
    simp only [List.cons.injEq, and_true] at h
    rw [nD_inj _ _ h.1, nD_inj _ _ h.2]
  · intro h; rw [h]
theorem pl_pD (c : Nat × Nat) : pl (pD c) = true := by simp only [pl, plAll, Bool.and_self]
theorem pt_pD (c : Nat × Nat) : pt (pD c) = true := by simp only [pt, ptAll, Bool.and_self]
theorem ptAll_ps (cs : List (Nat × Nat)) : ptAll (cs.map pD) = true := ptAll_of fun d h => by
  obtain ⟨n, _, rfl⟩ := List.mem_map.mp h
  exact pt_pD n
theorem sh_pD (c : Nat × Nat) : Sh 1 (pD c) := Sh.tup fun d h => by
  simp only [List.mem_cons, List.not_mem_nil, or_false] at h
  rcases h with rfl | rfl <;> exact Sh.int _
theorem any_ps {cs : List (Nat × Nat)} {c : Nat × Nat} : ((cs.map pD).any fun z => PyData.eqv z (pD c)) = decide (c ∈ cs) := by
  rw [Bool.eq_iff_iff, any_mem (p := fun _ _ => True) (fun x _ => pl_pD x) (pl_pD c), decide_eq_true_iff]
  exact ⟨fun ⟨x, hx, e⟩ => (pD_inj.mp e) ▸ hx, fun h => ⟨c, h, rfl⟩⟩
theorem pt_spD (p : Word × Nat × Nat) : pt (spD p) = true := by
  simp only [pt, ptAll, Bool.and_true]
  exact ptAll_nat p.1
theorem ptAll_sp (ps : List (Word × Nat × Nat)) : ptAll (ps.map spD) = true := ptAll_of fun d h => by
  obtain ⟨n, _, rfl⟩ := List.mem_map.mp h
  exact pt_spD n
section
variable {P : Program} {w : World} {K : PySem.W.Frag} {mg : Str → Option Value} {base : Heap} {CB CA : Addr}
structure H2 where
  L : Nat
  g : House
  h : House
def H2.ok (x : H2) : Prop := Ok x.L x.g ∧ Ok x.L x.h ∧ x.g.ways.length ≤ 10 ∧ x.h.ways.length ≤ 10 ∧ x.L ≤ 6
theorem len_says {L : Nat} {g : House} {K : PySem.W.Frag} {σ : L2.St} {H : Hp} {th : TE} (O : Ok L g) (h : EvP th σ H (isD (hD L g))) : EvP (tCB (fun xs H Q => ∃ p ys, xs = [.ref p] ∧ (SqL K H p ys ∨ SqT K H p ys) ∧ Q (.int ys.length) H) (tCons (tOp (rIxT K) th (tC (.int 1))) tNil)) σ H (isD (nD g.ways.length)) := by
  have k := d_lenMT (K := K) (d_ixT (K := K) h (d_int (i := 1)) (at_nat (i := 1) (x := PyData.tuple (g.says.map iD)) rfl))
  rw [O.sl] at k
  exact k
def sp_pairs : Sp := PurSp (α := H2) H2.ok (fun x => [isD (hD x.L x.g), isD (hD x.L x.h)]) (fun x v H => ∃ ps, Im H (.list (ps.map spD)) v ∧ Pairs x.L x.g x.h ps ∧ (∀ p ∈ ps, p.1.length ≤ 100) ∧ ps.length ≤ 100)
theorem ok_law_pairs (T : All K mg CB CA) : Df P w K mg base 1 "_law_pairs" ["one", "two"] sp_pairs := by
  refine T.t_law_pairs.ok sc_law_pairs (fun vs H Q E h => by obtain ⟨x, _, a, _⟩ := h; exact a.len) (fun f cdv A outer s H vs Q E hr h => ?_)
  obtain ⟨⟨L, g, hh⟩, ⟨G, O, b1, b2, l6⟩, ⟨v1, _, rfl, h1, v2, _, rfl, h2, rfl⟩, k⟩ := h
  have G : Ok L g := G
  have O : Ok L hh := O
  have b1 : g.ways.length ≤ 10 := b1
  have b2 : hh.ways.length ≤ 10 := b2
  have l6 : L ≤ 6 := l6
  have hmul : g.ways.length * hh.ways.length ≤ 10 * 10 := Nat.mul_le_mul b1 b2
  refine ⟨_, (pss_cons (ps_set (i := 2) sc_law_pairs.nd rfl (.inr rfl) (pe_lst (pa_cons (pe_tup (pa_cons pe_int (pa_cons pe_int pa_nil))) pa_nil))) (pss_cons (ps_set (i := 3) sc_law_pairs.nd rfl (.inr rfl) (pe_lst (pa_cons (pe_tup pa_nil) pa_nil))) (pss_cons (ps_for PassesOwn.never rfl (pi_range1 (by rfl) T.b_range (pa_cons (pe_op op_mul (pe_callB call_len_seq (by rfl) T.b_len PySem.boot_len (pa_cons (pe_ix ix_tup (pv 0) pe_int (fun _ _ => rfl)) pa_nil)) (pe_callB call_len_seq (by rfl) T.b_len PySem.boot_len (pa_cons (pe_ix ix_tup (pv 1) pe_int (fun _ _ => rfl)) pa_nil))) pa_nil)) (pg_name (i := 4) sc_law_pairs.nd rfl (.inl rfl)) (pss_one (ps_if (pt_cmpR op_lt (pv 4) (pe_callB call_len_seq (by rfl) T.b_len PySem.boot_len (pa_cons (pv 2) pa_nil)) (nomark _)) (pss_one (ps_for PassesOwn.never rfl (pi_range1 (by rfl) T.b_range (pa_cons (pe_ix ix_tup (pv 0) pe_int (fun _ _ => rfl)) pa_nil)) (pg_name (i := 5) sc_law_pairs.nd rfl (.inl rfl)) (pss_cons (ps_set (i := 6) sc_law_pairs.nd rfl (.inl rfl) (pe_tup (pa_cons (pe_ix ix_tup (pe_ix ix_tup (pe_ix ix_tup (pv 0) pe_int (fun _ _ => rfl)) (pe_ix ix_tup (pe_ix ix_list (pv 2) (pv 4) (fun _ _ => rfl)) pe_int (fun _ _ => rfl)) (fun _ _ => rfl)) (pv 5) (fun _ _ => rfl)) (pa_cons (pe_ix ix_tup (pe_ix ix_tup (pe_ix ix_tup (pv 1) pe_int (fun _ _ => rfl)) (pe_ix ix_tup (pe_ix ix_list (pv 2) (pv 4) (fun _ _ => rfl)) pe_int (fun _ _ => rfl)) (fun _ _ => rfl)) (pv 5) (fun _ _ => rfl)) pa_nil)))) (pss_one (ps_if (pt_cmpR (op_notInD (u65 hr)) (pv 6) (pv 2) (by rfl)) (pss_cons (ps_expr (pe_bm PySem.F.plainAttrs_list PySem.F.slot_list_append PySem.F.type_list_append mt_append (pv 2) (pa_cons (pv 6) pa_nil))) (pss_one (ps_expr (pe_bm PySem.F.plainAttrs_list PySem.F.slot_list_append PySem.F.type_list_append mt_append (pv 3) (pa_cons (pe_op op_catA (pe_ix ix_list (pv 3) (pv 4) (fun _ _ => rfl)) (pe_tup (pa_cons (pv 5) pa_nil))) pa_nil))))) pss_nil))))) pss_nil))) (pss_one (ps_ret (pe_lc (own := [("k", 4)]) (g := gName 4) (tt := tYes) rfl sc_law_pairs.nd (pi_range1 (by rfl) T.b_range (pa_cons (pe_callB call_len_seq (by rfl) T.b_len PySem.boot_len (pa_cons (pv 2) pa_nil)) pa_nil)) (blkOk_by (own := [("k", 4)]) (N := ["one", "two", "couples", "words", "k", "letter", "pair"]) (sc := defScope s_law_pairs) (by decide +kernel)) (fun _ _ _ _ _ => (pg_name (i := 4) sc_law_pairs.nd rfl (.inl rfl))) (fun _ _ _ _ _ => pts_nil) (fun _ _ _ _ _ => (pe_tup (pa_cons (pe_ix (r := rIxL K) ix_list (pv 3) (pv 4) (fun _ _ => rfl)) (pa_cons (pe_ix (r := rIxT K) ix_tup (pe_ix (r := rIxL K) ix_list (pv 2) (pv 4) (fun _ _ => rfl)) pe_int (fun _ _ => rfl)) (pa_cons (pe_ix (r := rIxT K) ix_tup (pe_ix (r := rIxL K) ix_list (pv 2) (pv 4) (fun _ _ => rfl)) pe_int (fun _ _ => rfl)) pa_nil))))))))))), ?_⟩
  refine q_asgF (f_lst (ds := [pD (0, 0)]) (a_d (d_tup (ds := [nD 0, nD 0]) (a_d (d_nat (n := 0) rfl) (a_d (d_nat (n := 0) rfl) a_nil)) (by show 2 ≤ 100000; decide)) a_nil) (by show 1 ≤ 100000; decide)) fun l1 H1 xs1 l10 e1 hl1 hx1 => ?_
  refine q_asgF (f_lst (ds := [wD []]) (a_d (d_tup (ds := []) a_nil (Nat.zero_le _)) a_nil) (by show 1 ≤ 100000; decide)) fun l2 H2 xs2 l20 e2 hl2 hx2 => ?_
  have ne12 : l1 ≠ l2 := ne_of_none hl1 l20
  have z1 : H l1 = none := l10
  have z2 : H l2 = none := fresh_back e1 l20
  have e12 := e1.trans e2
  refine q_forR (n := g.ways.length * hh.ways.length) ((d_mul (len_says G (d_var rfl (h1.ex e12))) (len_says O (d_var rfl (h2.ex e12))) (.inl ⟨by omega, by omega⟩)).eq (Int.natCast_mul _ _).symm) (by omega) fun H3 e3 =>
    ⟨fun i σ' H' => Ex H H' ∧ ∃ cs ws ys1 ys2, H' l1 = some (.lst ys1) ∧ H' l2 = some (.lst ys2) ∧ ImAll H' (cs.map pD) ys1 ∧ ImAll H' (wsD ws) ys2 ∧ PInv L g hh cs ws i 0 ∧ ∃ o4 o5 o6, σ' = [some v1, some v2, some (.ref l1), some (.ref l2), o4, o5, o6],
      ⟨e12.trans e3, [(0, 0)], [[]], xs1, xs2, e3 _ _ (e2 _ _ hl1), e3 _ _ hl2, hx1.ex (e2.trans e3), hx2.ex e3, pinv_start, _, _, _, rfl⟩, ?_, ?_⟩
  · rintro i σ' H' hi ⟨e, cs, ws, ys1, ys2, hL1, hL2, hI1, hI2, PI, o4, o5, o6, rfl⟩
    refine k_if (t_cmp (d_lt (d_var rfl (.int _)) (d_lenM (K := K) (d_var rfl (.lst hL1 hI1))))) (fun hb H4 e4 => ?_) (fun hb H4 e4 => ?_)
    · have hik : i < cs.length := by have := of_decide_eq_true hb; omega
      have hc : cs[i]? = some cs[i] := List.getElem?_eq_getElem hik
      have hwl : i < ws.length := by rw [PI.ln]; exact hik
      have hw : ws[i]? = some ws[i] := List.getElem?_eq_getElem hwl
      generalize cs[i] = c at hc
      generalize ws[i] = wd at hw
      refine k_forR (n := L) (d_ixT (K := K) (d_var rfl (h1.ex (e.trans e4))) (d_int (i := 0)) (at_nat (i := 0) rfl)) (by omega) fun H5 e5 =>
        ⟨fun j σ'' H'' => Ex H H'' ∧ ∃ cs ws ys1 ys2, H'' l1 = some (.lst ys1) ∧ H'' l2 = some (.lst ys2) ∧ ImAll H'' (cs.map pD) ys1 ∧ ImAll H'' (wsD ws) ys2 ∧ PInv L g hh cs ws i j ∧ cs[i]? = some c ∧ ws[i]? = some wd ∧ ∃ o5 o6, σ'' = [some v1, some v2, some (.ref l1), some (.ref l2), some (.int (i : Int)), o5, o6],
          ⟨(e.trans e4).trans e5, cs, ws, ys1, ys2, e5 _ _ (e4 _ _ hL1), e5 _ _ (e4 _ _ hL2), hI1.ex (e4.trans e5), hI2.ex (e4.trans e5), PI, hc, hw, _, _, rfl⟩, ?_, ?_⟩
      · rintro j σ'' H'' hj ⟨f, cs, ws, ys1, ys2, hL1, hL2, hI1, hI2, PI, hc, hw, o5, o6, rfl⟩
        obtain ⟨r1, r2⟩ := PI.rooms G O hc
        have hcl := PI.len_le G O
        obtain ⟨_, _, _, wlen⟩ := PI.ok i c wd hc hw
        have ck : ∀ (σ : L2.St), σ[2]? = some (some (.ref l1)) → σ[4]? = some (some (.int (i : Int))) → EvP (tOp (rIxL K) (tVar 2) (tVar 4)) σ H'' (isD (pD c)) := fun σ q1 q2 => d_ixL (d_var q1 (.lst hL1 hI1)) (d_var q2 (.int _)) (at_map hc)
        refine q_asg (d_tup (ds := [nD (stp g c.1 j), nD (stp hh c.2 j)]) (a_d (d_way (K := K) G r1 hj (d_var rfl (h1.ex f)) (d_ixT (K := K) (ck _ rfl rfl) (d_int (i := 0)) (at_nat (i := 0) rfl)) (d_var rfl (.int _)))
          (a_d (d_way (K := K) O r2 hj (d_var rfl (h2.ex f)) (d_ixT (K := K) (ck _ rfl rfl) (d_int (i := 1)) (at_nat (i := 1) rfl)) (d_var rfl (.int _))) a_nil)) (by show 2 ≤ 100000; decide)) fun v6 H6 e6 pv6 => ?_
        have pv6 : Im H6 (pD (stp g c.1 j, stp hh c.2 j)) v6 := pv6
        have l1len := hI1.len
        have l2len := hI2.len
        rw [List.length_map] at l1len l2len
        rw [PI.ln] at l2len
        refine k_if (t_cmp (d_notInD (K := K) (d_var rfl pv6) (d_var rfl (.lst (e6 _ _ hL1) (hI1.ex e6))) ((sh_pD _).ok (by decide)) ((Sh.lst (sh_map sh_pD)).ok (by decide)) (by rw [any_ps]))) (fun hb H7 e7 => ?_) (fun hb H7 e7 => ?_)
        · have hm : (stp g c.1 j, stp hh c.2 j) ∉ cs := by
            have : decide ((stp g c.1 j, stp hh c.2 j) ∈ cs) = false := by revert hb; cases decide ((stp g c.1 j, stp hh c.2 j) ∈ cs) <;> simp
            exact of_decide_eq_false this
          have e67 := e6.trans e7
          refine q_app (e67 _ _ hL1) (v_var rfl) (d_var rfl (pv6.ex e7)) (by omega) fun v8 H8 e8 pv8 => ?_
          have kt8 : Kt H8 (upd H8 l1 (.lst (ys1 ++ [v8]))) := Kt.upd (Kt.refl _) (e8 _ _ (e67 _ _ hL1)) fun _ z => nomatch z
          have hL28 : upd H8 l1 (.lst (ys1 ++ [v8])) l2 = some (.lst ys2) := by rw [upd_ne ne12.symm]; exact e8 _ _ (e67 _ _ hL2)
          have hI28 : ImAll (upd H8 l1 (.lst (ys1 ++ [v8]))) (wsD ws) ys2 := (hI2.ex (e67.trans e8)).kt kt8 (ptAll_ws _)
          refine k_app hL28 (v_var rfl) (d_catW (K := K) (d_ixL (K := K) (d_var rfl (.lst hL28 hI28)) (d_var rfl (.int _)) (at_map hw)) (d_tup1 (d_var rfl (.int _))) (by rw [List.length_singleton]; omega)) (by omega) fun v9 H9 e9 pv9 => ?_
          have kt9 : Kt H9 (upd H9 l2 (.lst (ys2 ++ [v9]))) := Kt.upd (Kt.refl _) (e9 _ _ hL28) fun _ z => nomatch z
          have ktA : Kt H8 (upd H9 l2 (.lst (ys2 ++ [v9]))) := (kt8.trans (ex_kt e9)).trans kt9
          refine ⟨Ex.mut ((Ex.mut ((f.trans e67).trans e8) z1).trans e9) z2, cs ++ [(stp g c.1 j, stp hh c.2 j)], ws ++ [wd ++ [j]], ys1 ++ [v8], ys2 ++ [v9], ?_, upd_same, ?_, ?_, PI.add hj hc hw hm, get_app hc, get_app hw, _, _, rfl⟩
          · rw [upd_ne ne12]
            exact e9 _ _ upd_same
          · rw [List.map_append]
            exact ((hI1.ex (e67.trans e8)).kt ktA (ptAll_ps _)).app (ImAll.one (pv8.kt ktA (pt_pD _)))
          · show ImAll _ ((ws ++ [wd ++ [j]]).map wD) _
            rw [List.map_append]
            exact ((hI28.ex e9).kt kt9 (ptAll_ws _)).app (ImAll.one (pv9.kt kt9 (pt_wD _)))
        · have hm : (stp g c.1 j, stp hh c.2 j) ∈ cs := by
            have : decide ((stp g c.1 j, stp hh c.2 j) ∈ cs) = true := by revert hb; cases decide ((stp g c.1 j, stp hh c.2 j) ∈ cs) <;> simp
            exact of_decide_eq_true this
          exact ⟨(f.trans e6).trans e7, cs, ws, ys1, ys2, e7 _ _ (e6 _ _ hL1), e7 _ _ (e6 _ _ hL2), hI1.ex (e6.trans e7), hI2.ex (e6.trans e7), PI.same hc hm, hc, hw, _, _, rfl⟩
      · rintro σ'' H'' ⟨f, cs, ws, ys1, ys2, hL1, hL2, hI1, hI2, PI, hc, hw, o5, o6, rfl⟩
        exact ⟨f, cs, ws, ys1, ys2, hL1, hL2, hI1, hI2, PI.next fun _ => rfl, _, _, _, rfl⟩
    · have hik : ¬ i < cs.length := by have := of_decide_eq_false hb; omega
      exact ⟨e.trans e4, cs, ws, ys1, ys2, e4 _ _ hL1, e4 _ _ hL2, hI1.ex e4, hI2.ex e4, PI.next fun z => absurd z hik, _, _, _, rfl⟩
  · rintro σ' H' ⟨e, cs, ws, ys1, ys2, hL1, hL2, hI1, hI2, PI, o4, o5, o6, rfl⟩
    have hcl := PI.len_le G O
    refine k_retF (c_R (n := cs.length) (rs := (spots cs ws).map spD) (d_lenM (K := K) (d_var rfl (.lst hL1 hI1))) (by rw [List.length_map, spots_len PI]) (by omega) (fun _ => rfl) (fun _ _ _ _ => t_yes) (fun i r H5 e5 hi hr' => ?_)) fun p H5 xs h0 e5 hp hxs => ?_
    · obtain ⟨s, hs, rfl⟩ := map_get hr'
      obtain ⟨s1, s2⟩ := (spots_get PI).mp hs
      have ck := d_ixL (K := K) (σ := [some v1, some v2, some (.ref l1), some (.ref l2), some (.int (i : Int)), o5, o6]) (d_var (i := 2) rfl (.lst (e5 _ _ hL1) (hI1.ex e5))) (d_var (i := 4) rfl (.int _)) (at_map s2)
      exact (d_tup (ds := [wD s.1, nD s.2.1, nD s.2.2]) (a_d (d_ixL (K := K) (d_var rfl (.lst (e5 _ _ hL2) (hI2.ex e5))) (d_var rfl (.int _)) (at_map s1)) (a_d (d_ixT (K := K) ck (d_int (i := 0)) (at_nat (i := 0) rfl)) (a_d (d_ixT (K := K) ck (d_int (i := 1)) (at_nat (i := 1) rfl)) a_nil))) (by show 3 ≤ 100000; decide)).toG (pt_spD _)
    · refine k (.ref p) H5 (e.trans e5) ⟨spots cs ws, .lst hp hxs, PI.pairs hcl, fun q hq => ?_, by rw [spots_len PI]; omega⟩
      obtain ⟨i, hi⟩ := List.getElem?_of_mem hq
      obtain ⟨s1, s2⟩ := (spots_get PI).mp hi
      have := (PI.ok i _ _ s2 s1).2.2.2
      have := (List.getElem?_eq_some_iff.mp s2).1
      omega
/-! ### law_unlike_words -/
def sp_unlike : Sp := PurSp (α := H2) H2.ok (fun x => [isD (hD x.L x.g), isD (hD x.L x.h)])
  (fun x v H => ∃ ws, Im H (.list (wsD ws)) v ∧ (∀ w ∈ ws, Lets x.L w ∧ w ≠ [] ∧ w.length ≤ 101 ∧ ans x.g 0 w ≠ ans x.h 0 w) ∧ (ws = [] → ∀ w, Lets x.L w → talk x.g 0 w = talk x.h 0 w))
theorem ok_law_unlike_words (T : All K mg CB CA) (D_law_pairs : Df P w K mg base 1 "_law_pairs" ["one", "two"] sp_pairs) : Df P w K mg base 2 "_law_unlike_words" ["one", "two"] sp_unlike := by
  refine T.t_law_unlike_words.ok sc_law_unlike_words (fun vs H Q E h => by obtain ⟨x, _, a, _⟩ := h; exact a.len) (fun f cdv A outer s H vs Q E hr h => ?_)
  obtain ⟨⟨L, g, hh⟩, ⟨G, O, b1, b2, l6⟩, ⟨v1, _, rfl, h1, v2, _, rfl, h2, rfl⟩, k⟩ := h
  have G : Ok L g := G
  have O : Ok L hh := O
  have b1 : g.ways.length ≤ 10 := b1
  have b2 : hh.ways.length ≤ 10 := b2
  have l6 : L ≤ 6 := l6
  refine ⟨_, (pss_cons (ps_set (i := 2) sc_law_unlike_words.nd rfl (.inl rfl) (pe_lst pa_nil)) (pss_cons (ps_for PassesOwn.never rfl (pi_list (pcall D_law_pairs (hr.mono (by decide)) rfl (pa_cons (pv 0) (pa_cons (pv 1) pa_nil)))) (pg_name (i := 3) sc_law_unlike_words.nd rfl (.inl rfl)) (pss_one (ps_for PassesOwn.never rfl (pi_range1 (by rfl) T.b_range (pa_cons (pe_ix ix_tup (pv 0) pe_int (fun _ _ => rfl)) pa_nil)) (pg_name (i := 4) sc_law_unlike_words.nd rfl (.inl rfl)) (pss_one (ps_if (pt_cmpR op_ne (pe_ix ix_tup (pe_ix ix_tup (pe_ix ix_tup (pv 0) pe_int (fun _ _ => rfl)) (pe_ix ix_tup (pv 3) pe_int (fun _ _ => rfl)) (fun _ _ => rfl)) (pv 4) (fun _ _ => rfl)) (pe_ix ix_tup (pe_ix ix_tup (pe_ix ix_tup (pv 1) pe_int (fun _ _ => rfl)) (pe_ix ix_tup (pv 3) pe_int (fun _ _ => rfl)) (fun _ _ => rfl)) (pv 4) (fun _ _ => rfl)) (nomark _)) (pss_one (ps_expr (pe_bm PySem.F.plainAttrs_list PySem.F.slot_list_append PySem.F.type_list_append mt_append (pv 2) (pa_cons (pe_op op_catA (pe_ix ix_tup (pv 3) pe_int (fun _ _ => rfl)) (pe_tup (pa_cons (pv 4) pa_nil))) pa_nil)))) pss_nil))))) (pss_one (ps_ret (pv 2))))), ?_⟩
  refine q_asgF f_nil fun l H1 xs1 l0 e1 hl hx1 => ?_
  have z1 : H l = none := l0
  have h0 := e_call (E := E0) (cond := H2.ok) (ps := fun x : H2 => [isD (hD x.L x.g), isD (hD x.L x.h)]) (post := fun x v H => ∃ ps, Im H (.list (ps.map spD)) v ∧ Pairs x.L x.g x.h ps ∧ (∀ p ∈ ps, p.1.length ≤ 100) ∧ ps.length ≤ 100)
    (σ := [some v1, some v2, some (.ref l), none, none]) (H := H1) (⟨L, g, hh⟩ : H2) ⟨G, O, b1, b2, l6⟩ (a_d (d_var (i := 0) rfl (h1.ex e1)) (a_d (d_var (i := 1) rfl (h2.ex e1)) a_nil))
  refine q_forLv h0 fun v H2 e2 ⟨ps, hps, PP, pl1, pl2⟩ => ?_
  obtain ⟨a, xa, rfl, ha, hia⟩ := im_lst hps
  have hl2 : H2 l = some (.lst []) := by
    have : xs1 = [] := by cases hx1; rfl
    rw [← this]
    exact e2 _ _ hl
  have nal : a ≠ l := fun q => by
    rw [q, hl2] at ha
    cases ha
    obtain ⟨p, hp, _⟩ := PP.zero
    have := hia.len
    rw [List.length_map] at this
    rw [List.length_eq_zero_iff.mp this.symm] at hp
    cases hp
  refine ⟨a, xa, ps.map spD, rfl, ha, hia, ptAll_sp ps, fun i σ' H' => Ex H H' ∧ Kt H2 H' ∧ H' a = some (.lst xa) ∧ ∃ ws ys, H' l = some (.lst ys) ∧ ImAll H' (wsD ws) ys ∧ (∀ w ∈ ws, Lets L w ∧ w ≠ [] ∧ w.length ≤ 101 ∧ ans g 0 w ≠ ans hh 0 w) ∧ (ws = [] → ∀ p ∈ ps.take i, ∀ b, b < L → out g p.2.1 b = out hh p.2.2 b) ∧ ws.length ≤ i * L ∧ ∃ o3 o4, σ' = [some v1, some v2, some (.ref l), o3, o4],
    ⟨e1.trans e2, Kt.refl _, ha, [], [], hl2, .nil, fun w m => (nomatch m), fun _ p m => (by simp at m), Nat.zero_le _, _, _, rfl⟩, fun i σ' H' p => ⟨p.2.1, p.2.2.1⟩, ?_, ?_⟩
  · rintro i d x σ' H' hd hx ⟨e, kt, ha', ws, ys, hL, hI, w1, w2, w3, o3, o4, rfl⟩
    obtain ⟨p, hp, rfl⟩ := map_get hd
    have ip : i < ps.length := (List.getElem?_eq_some_iff.mp hp).1
    have pm := List.mem_of_getElem? hp
    obtain ⟨p1, p2, p3⟩ := PP.ok p pm
    have r1 : p.2.1 < g.ways.length := by rw [← p2]; exact G.run_lt _ G.pos p1
    have r2 : p.2.2 < hh.ways.length := by rw [← p3]; exact O.run_lt _ O.pos p1
    have plen := pl1 p pm
    refine k_forR (n := L) (d_ixT (K := K) (d_var rfl (h1.ex e)) (d_int (i := 0)) (at_nat (i := 0) rfl)) (by omega) fun H3 e3 => ⟨fun j σ'' H'' => Ex H H'' ∧ Kt H2 H'' ∧ Im H'' (spD p) x ∧ H'' a = some (.lst xa) ∧ ∃ ws ys, H'' l = some (.lst ys) ∧ ImAll H'' (wsD ws) ys ∧ (∀ w ∈ ws, Lets L w ∧ w ≠ [] ∧ w.length ≤ 101 ∧ ans g 0 w ≠ ans hh 0 w) ∧ (ws = [] → (∀ p ∈ ps.take i, ∀ b, b < L → out g p.2.1 b = out hh p.2.2 b) ∧ ∀ b, b < j → out g p.2.1 b = out hh p.2.2 b) ∧ ws.length ≤ i * L + j ∧ ∃ o4, σ'' = [some v1, some v2, some (.ref l), some x, o4],
      ⟨e.trans e3, kt.trans (ex_kt e3), hx.ex e3, e3 _ _ ha', ws, ys, e3 _ _ hL, hI.ex e3, w1, fun q => ⟨w2 q, fun b h => absurd h (Nat.not_lt_zero b)⟩, by omega, _, rfl⟩, ?_, ?_⟩
    · rintro j σ'' H'' hj ⟨f, kt, hx, ha', ws, ys, hL, hI, w1, w2, w3, o4, rfl⟩
      have iL : i * L ≤ 100 * 6 := Nat.mul_le_mul (by omega) l6
      have yl := hI.len
      rw [List.length_map] at yl
      have c1 : ∀ (σ : L2.St), σ[3]? = some (some x) → EvP (tOp (rIxT K) (tVar 3) (tC (.int 1))) σ H'' (isD (nD p.2.1)) := fun σ q => d_ixT (d_var q hx) (d_int (i := 1)) (at_nat (i := 1) rfl)
      have c2 : ∀ (σ : L2.St), σ[3]? = some (some x) → EvP (tOp (rIxT K) (tVar 3) (tC (.int 2))) σ H'' (isD (nD p.2.2)) := fun σ q => d_ixT (d_var q hx) (d_int (i := 2)) (at_nat (i := 2) rfl)
      refine k_if (t_cmp (d_neI (d_say (K := K) G r1 hj (d_var rfl (h1.ex f)) (c1 _ rfl) (d_var rfl (.int _))) (d_say (K := K) O r2 hj (d_var rfl (h2.ex f)) (c2 _ rfl) (d_var rfl (.int _))))) (fun hb H4 e4 => ?_) (fun hb H4 e4 => ?_)
      · have hne : out g p.2.1 j ≠ out hh p.2.2 j := fun q => by rw [dT q] at hb; cases hb
        refine k_app (e4 _ _ hL) (v_var rfl) (d_catW (K := K) (d_ixT (K := K) (d_var rfl (hx.ex e4)) (d_int (i := 0)) (at_nat (i := 0) rfl)) (d_tup1 (d_var rfl (.int _))) (by rw [List.length_singleton]; omega)) (by omega) fun v5 H5 e5 pv5 => ?_
        have kt5 : Kt H5 (upd H5 l (.lst (ys ++ [v5]))) := Kt.upd (Kt.refl _) (e5 _ _ (e4 _ _ hL)) fun _ z => nomatch z
        have ktA : Kt H'' (upd H5 l (.lst (ys ++ [v5]))) := (ex_kt (e4.trans e5)).trans kt5
        refine ⟨Ex.mut ((f.trans e4).trans e5) z1, kt.trans ktA, hx.kt ktA (pt_spD p), by rw [upd_ne nal]; exact e5 _ _ (e4 _ _ ha'), ws ++ [p.1 ++ [j]], ys ++ [v5], upd_same, ?_, ?_, fun q => ?_, by rw [List.length_append, List.length_singleton]; omega, _, rfl⟩
        · show ImAll _ ((ws ++ [p.1 ++ [j]]).map wD) _
          rw [List.map_append]
          exact (hI.kt ktA (ptAll_ws _)).app (ImAll.one (Im.kt pv5 kt5 (pt_wD _)))
        · intro w hw
          rcases List.mem_append.mp hw with q | q
          · exact w1 w q
          · rw [List.mem_singleton.mp q]
            refine ⟨p1.app (Lets.one hj), by simp, by rw [List.length_append, List.length_singleton]; omega, ?_⟩
            rw [ans_snoc, ans_snoc, p2, p3]
            exact hne
        · simp at q
      · have he : out g p.2.1 j = out hh p.2.2 j := by
          apply Classical.byContradiction
          intro q
          rw [dF q] at hb
          cases hb
        refine ⟨f.trans e4, kt.trans (ex_kt e4), hx.ex e4, e4 _ _ ha', ws, ys, e4 _ _ hL, hI.ex e4, w1, fun q => ⟨(w2 q).1, fun b hb => ?_⟩, by omega, _, rfl⟩
        rcases Nat.lt_or_ge b j with z | z
        · exact (w2 q).2 b z
        · have : b = j := by omega
          rw [this]
          exact he
    · rintro σ'' H'' ⟨f, kt, hx, ha', ws, ys, hL, hI, w1, w2, w3, o4, rfl⟩
      refine ⟨f, kt, ha', ws, ys, hL, hI, w1, fun q => ?_, by rw [Nat.add_mul]; omega, _, _, rfl⟩
      intro p' hp' b hb
      rw [take_snoc hp] at hp'
      rcases List.mem_append.mp hp' with z | z
      · exact (w2 q).1 p' z b hb
      · rw [List.mem_singleton.mp z]
        exact (w2 q).2 b hb
  · rintro σ' H' ⟨e, kt, ha', ws, ys, hL, hI, w1, w2, w3, o3, o4, rfl⟩
    rw [List.length_map, List.take_length] at w2
    refine k_ret (d_var rfl (.lst hL hI)) fun v H5 e5 pv => ?_
    exact k v H5 (e.trans e5) ⟨ws, pv, w1, fun q w hw => PP.same (fun p hp b hb => w2 q p hp b hb) w hw⟩
end
end Gr
end
section
set_option maxRecDepth 100000
set_option maxHeartbeats 4000000
/-! Dicts that number what comes; the least house. -/
namespace Gr
open PySem L2 PySem.Spec PyProof.Rows Evl
section
variable {κ κ' : Type} [DecidableEq κ] [DecidableEq κ']
def ix (us : List κ) (k : κ) : Nat := us.idxOf k
def encU (f : κ → κ') : Nat → List κ → List (κ' × V)
  | _, [] => []
  | n, k :: r => (f k, .int (n : Int)) :: encU f (n + 1) r
theorem encU_len (f : κ → κ') : ∀ (us : List κ) (n : Nat), (encU f n us).length = us.length
  | [], _ => rfl
  | _ :: us, n => by
    show (encU f (n + 1) us).length + 1 = us.length + 1
    rw [encU_len f us]
theorem encU_snoc (f : κ → κ') (k : κ) : ∀ (us : List κ) (n : Nat), encU f n (us ++ [k]) = encU f n us ++ [(f k, .int ((n + us.length : Nat) : Int))]
  | [], n => rfl
  | u :: us, n => by
    show (f u, V.int (n : Int)) :: encU f (n + 1) (us ++ [k]) = (f u, V.int (n : Int)) :: (encU f (n + 1) us ++ _)
    rw [encU_snoc f k us, List.length_cons, show n + 1 + us.length = n + (us.length + 1) by omega]
theorem ix_cons (u : κ) (us : List κ) (k : κ) : ix (u :: us) k = if u = k then 0 else ix us k + 1 := by
  unfold ix
  rw [List.idxOf_cons]
  by_cases h : u = k
  · rw [if_pos h, beq_iff_eq.mpr h]
    rfl
  · rw [if_neg h, beq_eq_false_iff_ne.mpr h]
    rfl
theorem encU_val {f : κ → κ'} (hf : ∀ x y, f x = f y → x = y) (k : κ) : ∀ (us : List κ) (n : Nat), valV (encU f n us) (f k) = if k ∈ us then some (.int ((n + ix us k : Nat) : Int)) else none
  | [], _ => rfl
  | u :: us, n => by
    show valV ((f u, V.int (n : Int)) :: encU f (n + 1) us) (f k) = _
    by_cases h : u = k
    · subst h
      rw [valV_pos rfl, if_pos List.mem_cons_self, ix_cons, if_pos rfl]
      rfl
    · rw [valV_neg fun e => h (hf _ _ e), encU_val hf k us, ix_cons, if_neg h]
      by_cases m : k ∈ us
      · rw [if_pos m, if_pos (List.mem_cons_of_mem _ m), show n + 1 + ix us k = n + (ix us k + 1) by omega]
      · rw [if_neg m, if_neg fun q => (List.mem_cons.mp q).elim (fun z => h z.symm) m]
theorem encU_put {f : κ → κ'} (hf : ∀ x y, f x = f y → x = y) {us : List κ} {k : κ} (h : k ∉ us) : putK (encU f 0 us) (f k) (.int (us.length : Int)) = encU f 0 (us ++ [k]) := by
  rw [putK_new _ (by rw [encU_val hf, if_neg h]), encU_snoc, Nat.zero_add]
end
abbrev fI : Int → Key := Sum.inl
abbrev fR : List Int → List Key := List.map Sum.inl
theorem fI_inj (x y : Int) (h : fI x = fI y) : x = y := Sum.inl.inj h
theorem fR_inj (x y : List Int) (h : fR x = fR y) : x = y := (map_inj fun _ _ h => Sum.inl.inj h).mp h
theorem fR_V (ks : List Int) : (fR ks).map kV = ks.map V.int := by
  show List.map kV (List.map _ ks) = _
  rw [List.map_map]
  rfl
/-- all but d stands -/
def Fd (d : Addr) (H H' : Hp) : Prop := ∀ b o, b ≠ d → H b = some o → H' b = some o
theorem Fd.ex {d : Addr} {H0 H H' : Hp} (f : Fd d H H') (e : Ex H0 H) (h : H0 d = none) : Ex H0 H' := fun b o q => f b o (ne_of_none q h) (e b o q)
theorem Fd.kt {d : Addr} {H H' : Hp} {o : HO} (f : Fd d H H') (h : H d = some o) (n : ∀ xs, o ≠ .tup xs) : Kt H H' := fun b xs q => f b _ (ne_of q h fun z => n xs z.symm) q
theorem fd_ex {d : Addr} {H H' : Hp} (e : Ex H H') : Fd d H H' := fun b o _ q => e b o q
theorem fd_upd {d : Addr} {H H' : Hp} {o : HO} (e : Ex H H') : Fd d H (upd H' d o) := fun b u n q => by
  rw [upd_ne n]
  exact e b u q
section
variable {K : PySem.W.Frag} {σ : L2.St} {H : Hp} {td ty : TE} {d : Addr} {D : Ends} {tz : TS}
def rLenK : List V → Hp → VK → Prop := fun xs H Q => ∃ a kvs, xs = [V.ref a] ∧ H a = some (.dK kvs) ∧ Q (.int kvs.length) H
/-! int keys -/
theorem getI {us : List Int} {x : Int} {y : V} (hd : H d = some (.dK (encU fI 0 us))) (hy : Im H (.int x) y) : DGet H d y (if x ∈ us then some (.int (ix us x : Nat)) else none) := by
  have h := DGet.k (k := fI x) hd
  rw [encU_val fI_inj, Nat.zero_add] at h
  rw [im_int hy]
  exact h
theorem learnI {us : List Int} {x : Int} (hd : H d = some (.dK (encU fI 0 us))) (h1 : EvP td σ H (isV (.ref d))) (h2 : EvP ty σ H (isD (.int x))) (hz : us.length ≤ 1000)
    (k : ∀ H1, Fd d H H1 → H1 d = some (.dK (encU fI 0 (ins us x))) → tz D σ H1) : tSeq (tIfS (tB (tDNotIn ty td)) (sDPut td ty (tCB rLenK (tCons td tNil))) tNext) tz D σ H := by
  refine h2 H (Ex.refl _) _ fun y H1 e1 py => h1 H1 e1 _ fun v H2 e2 pv => ?_
  have pv : v = .ref d := pv
  subst pv
  have e12 := e1.trans e2
  refine ⟨d, _, rfl, getI (e12 _ _ hd) (py.ex e2), _, rfl, ?_⟩
  by_cases m : x ∈ us
  · rw [if_pos m]
    refine k H2 (fd_ex e12) ?_
    unfold ins
    rw [if_pos m]
    exact e12 _ _ hd
  · rw [if_neg m]
    show sDPut td ty (tCB rLenK (tCons td tNil)) _ σ H2
    refine h1 H2 e12 _ fun v H3 e3 pv => ?_
    have pv : v = .ref d := pv
    subst pv
    have e13 := e12.trans e3
    refine ⟨d, _, rfl, e13 _ _ hd, h1 H3 e13 _ fun v H4 e4 pv => h2 H4 (e13.trans e4) _ fun y' H5 e5 py' => ?_⟩
    have pv : v = .ref d := pv
    subst pv
    have e15 := (e13.trans e4).trans e5
    refine ⟨d, _, rfl, ?_, k (upd H5 d (.dK (encU fI 0 (ins us x)))) (fd_upd e15) upd_same⟩
    have g := DPut.k (k := fI x) (v := V.int (((encU fI 0 us).length : Nat) : Int)) (e15 _ _ hd) (by rw [encU_len]; exact sz_lt (by omega))
    rw [encU_len, encU_put fI_inj m] at g
    rw [im_int py', encU_len]
    unfold ins
    rw [if_neg m]
    exact g
theorem lookI {us : List Int} {x : Int} (hd : H d = some (.dK (encU fI 0 us))) (h1 : EvP td σ H (isV (.ref d))) (h2 : EvP ty σ H (isD (.int x))) (m : x ∈ us) : EvP (tDGet td ty) σ H (isD (nD (ix us x))) := fun H0 e0 Q q =>
  h1 H0 e0 _ fun v H1 e1 pv => h2 H1 (e0.trans e1) _ fun y H2 e2 py => by
    have pv : v = .ref d := pv
    subst pv
    have g := getI (((e0.trans e1).trans e2) _ _ hd) py
    rw [if_pos m] at g
    exact ⟨d, _, rfl, g, q _ H2 (e1.trans e2) (.int _)⟩
/-! rows of ints as keys -/
theorem im_row {ks : List Int} {v : V} (h : Im H (iD ks) v) : ∃ a, v = .ref a ∧ H a = some (.tup (ks.map V.int)) := by
  obtain ⟨a, xs, rfl, h1, h2⟩ := im_tup h
  rw [imAll_intv h2] at h1
  exact ⟨a, rfl, h1⟩
theorem getR {us : List (List Int)} {x : List Int} {y : V} (hd : H d = some (.dT (encU fR 0 us))) (hy : Im H (iD x) y) : ∃ o, DGet H d y o ∧ (x ∈ us → o = some (.int (ix us x : Nat))) ∧ (x ∉ us → o = none) := by
  obtain ⟨a, rfl, ha⟩ := im_row hy
  have h := DGet.t (k := fR x) hd (by rw [fR_V]; exact ha)
  rw [encU_val fR_inj, Nat.zero_add] at h
  exact ⟨_, h, fun m => if_pos m, fun m => if_neg m⟩
theorem learnR {us : List (List Int)} {x : List Int} (hd : H d = some (.dT (encU fR 0 us))) (h1 : EvP td σ H (isV (.ref d))) (h2 : EvP ty σ H (isD (iD x))) (hz : us.length ≤ 1000)
    (k : ∀ H1, Fd d H H1 → H1 d = some (.dT (encU fR 0 (ins us x))) → tz D σ H1) : tSeq (tIfS (tB (tDNotIn ty td)) (sDPut td ty (tCB rLenT (tCons td tNil))) tNext) tz D σ H := by
  refine h2 H (Ex.refl _) _ fun y H1 e1 py => h1 H1 e1 _ fun v H2 e2 pv => ?_
  have pv : v = .ref d := pv
  subst pv
  have e12 := e1.trans e2
  obtain ⟨o, g0, g1, g2⟩ := getR (e12 _ _ hd) (py.ex e2)
  refine ⟨d, _, rfl, g0, _, rfl, ?_⟩
  by_cases m : x ∈ us
  · rw [g1 m]
    refine k H2 (fd_ex e12) ?_
    unfold ins
    rw [if_pos m]
    exact e12 _ _ hd
  · rw [g2 m]
    show sDPut td ty (tCB rLenT (tCons td tNil)) _ σ H2
    refine h1 H2 e12 _ fun v H3 e3 pv => ?_
    have pv : v = .ref d := pv
    subst pv
    have e13 := e12.trans e3
    refine ⟨d, _, rfl, e13 _ _ hd, h1 H3 e13 _ fun v H4 e4 pv => h2 H4 (e13.trans e4) _ fun y' H5 e5 py' => ?_⟩
    have pv : v = .ref d := pv
    subst pv
    have e15 := (e13.trans e4).trans e5
    refine ⟨d, _, rfl, ?_, k (upd H5 d (.dT (encU fR 0 (ins us x)))) (fd_upd e15) upd_same⟩
    obtain ⟨a, rfl, ha⟩ := im_row py'
    have g := DPut.t (k := fR x) (v := V.int (((encU fR 0 us).length : Nat) : Int)) (e15 _ _ hd) (by rw [fR_V]; exact ha) (by rw [encU_len]; exact sz_lt (by omega))
    rw [encU_len, encU_put fR_inj m] at g
    rw [encU_len]
    unfold ins
    rw [if_neg m]
    exact g
theorem lookR {us : List (List Int)} {x : List Int} (hd : H d = some (.dT (encU fR 0 us))) (h1 : EvP td σ H (isV (.ref d))) (h2 : EvP ty σ H (isD (iD x))) (m : x ∈ us) : EvP (tDGet td ty) σ H (isD (nD (ix us x))) := fun H0 e0 Q q =>
  h1 H0 e0 _ fun v H1 e1 pv => h2 H1 (e0.trans e1) _ fun y H2 e2 py => by
    have pv : v = .ref d := pv
    subst pv
    obtain ⟨o, g, g1, _⟩ := getR (((e0.trans e1).trans e2) _ _ hd) py
    rw [g1 m] at g
    exact ⟨d, _, rfl, g, q _ H2 (e1.trans e2) (.int _)⟩
theorem q_newK {i : Nat} (k : ∀ d, H d = none → tz D (σ.set i (some (.ref d))) (upd H d (.dK []))) : tSeq (tAsg tDNewK (gName i)) tz D σ H := fun d hd => k d hd
theorem q_newT {i : Nat} (k : ∀ d, H d = none → tz D (σ.set i (some (.ref d))) (upd H d (.dT []))) : tSeq (tAsg tDNewT (gName i)) tz D σ H := fun d hd => k d hd
end
theorem ix_ins {κ : Type} [DecidableEq κ] (ks : List κ) (k : κ) (j : κ) (h : j ∈ ks) : ix (uniq (ks ++ [k])) j = ix (uniq ks) j := by
  unfold ix
  exact uniq_idx ks [k] h
theorem nums_snoc {κ : Type} [DecidableEq κ] (ks : List κ) (k : κ) : nums (ks ++ [k]) = nums ks ++ [ix (uniq (ks ++ [k])) k] := by
  unfold nums
  rw [List.map_append]
  congr 1
  exact List.map_inj_left.mpr fun j hj => uniq_idx ks [k] hj
theorem uniq_len_le {κ : Type} [DecidableEq κ] (ks : List κ) : (uniq ks).length ≤ ks.length :=
  List.Nodup.length_le_of_subset (uniq_nd ks) fun x hx => uniq_mem.mp hx
theorem uniq_map {κ κ' : Type} [DecidableEq κ] [DecidableEq κ'] {f : κ → κ'} (hf : ∀ x y, f x = f y → x = y) (ks : List κ) : uniq (ks.map f) = (uniq ks).map f := by
  have key : ∀ (ks acc : List κ), (ks.map f).foldl ins (acc.map f) = (ks.foldl ins acc).map f := by
    intro ks
    induction ks with
    | nil => intro _; rfl
    | cons k ks ih =>
      intro acc
      rw [List.map_cons, List.foldl_cons, List.foldl_cons, ← ih]
      congr 1
      unfold ins
      by_cases h : k ∈ acc
      · rw [if_pos h, if_pos (List.mem_map.mpr ⟨k, h, rfl⟩)]
      · rw [if_neg h, if_neg fun m => by obtain ⟨x, hx, e⟩ := List.mem_map.mp m; exact h (hf _ _ e ▸ hx), List.map_append]
        rfl
  exact key ks []
theorem nums_map {κ κ' : Type} [DecidableEq κ] [DecidableEq κ'] {f : κ → κ'} (hf : ∀ x y, f x = f y → x = y) (ks : List κ) : nums (ks.map f) = nums ks := by
  unfold nums
  rw [List.map_map]
  refine List.map_inj_left.mpr fun k hk => ?_
  show (uniq (ks.map f)).idxOf (f k) = _
  rw [uniq_map hf, idxOf_map hf]
section
variable {P : Program} {w : World} {K : PySem.W.Frag} {mg : Str → Option Value} {base : Heap} {CB CA : Addr}
/-! ### numbered -/
def sp_numberedT : Sp := LstSp (α := List Int) (fun ks => ks.length ≤ 1000) (fun ks => [isD (iD ks)]) (fun ks => (nums ks).map nD)
theorem ok_numberedT (T : All K mg CB CA) : Df P w K mg base 1 "numbered" ["keys"] sp_numberedT := by
  refine T.t_numbered.ok sc_numbered (fun vs H Q E h => by obtain ⟨x, _, a, _⟩ := h; exact a.len) (fun f cdv A outer s H vs Q E hr h => ?_)
  obtain ⟨ks, hz, ⟨v1, _, rfl, h1, rfl⟩, k⟩ := h
  refine ⟨_, (pss_cons (ps_set (i := 1) sc_numbered.nd rfl (.inl rfl) pe_dnewK) (pss_cons (ps_set (i := 2) sc_numbered.nd rfl (.inl rfl) (pe_lst pa_nil)) (pss_cons (ps_for PassesOwn.never rfl (pi_tup (pv 0)) (pg_name (i := 3) sc_numbered.nd rfl (.inl rfl)) (pss_cons (ps_if (pt_cmp (pc_dnotin (hu_of hr) (pv 3) (pv 1))) (pss_one (ps_dput (hu_of hr) (pv 1) (pv 3) (pe_callB call_lenD (by rfl) T.b_len PySem.boot_len (pa_cons (pv 1) pa_nil)) rfl)) pss_nil) (pss_one (ps_expr (pe_bm PySem.F.plainAttrs_list PySem.F.slot_list_append PySem.F.type_list_append mt_append (pv 2) (pa_cons (pe_dget (hu_of hr) (pv 1) (pv 3) (fun _ _ => rfl)) pa_nil)))))) (pss_one (ps_ret (pv 2)))))), ?_⟩
  refine q_newK fun d d0 => ?_
  refine q_asgF f_nil fun l H2 xs l0 e2 hl hx => ?_
  have hd2 : H2 d = some (.dK []) := e2 _ _ upd_same
  have z2 : H l = none := fresh_back (Ex.new d0) l0
  have nld : l ≠ d := fun q => by rw [q, upd_same] at l0; cases l0
  have eH2 : Ex H H2 := (Ex.new d0).trans e2
  refine q_forT (d_var rfl (h1.ex eH2)) (ptAll_int ks) fun H3 e3 => ⟨fun i σ' H' => Ex H H' ∧ Kt H3 H' ∧ H' d = some (.dK (encU fI 0 (uniq (ks.take i)))) ∧ H' l = some (.lst (wV (nums (ks.take i)))) ∧ ∃ o, σ' = [some v1, some (.ref d), some (.ref l), o],
    ⟨eH2.trans e3, Kt.refl _, e3 _ _ hd2, by rw [e3 _ _ hl, imAll_intv (ns := []) hx]; rfl, _, rfl⟩, fun i σ' H' p => p.2.1, ?_, ?_⟩
  · rintro i dd x σ' H' hdd hx ⟨e, kt, hD, hL, o, rfl⟩
    obtain ⟨n, hn, rfl⟩ := map_get hdd
    have il := (List.getElem?_eq_some_iff.mp hn).1
    have ul := uniq_len_le (ks.take i)
    rw [List.length_take] at ul
    refine learnI hD (v_var rfl) (d_var rfl hx) (by omega) fun H4 f4 hD4 => ?_
    have hL4 := f4 _ _ nld hL
    have kt4 : Kt H' H4 := f4.kt hD fun _ z => nomatch z
    have e4 : Ex H H4 := f4.ex e d0
    have hk : uniq (ks.take (i + 1)) = ins (uniq (ks.take i)) n := by rw [take_snoc hn, uniq_snoc]
    rw [← hk] at hD4
    refine k_app hL4 (v_var rfl) (lookI hD4 (v_var rfl) (d_var rfl (hx.kt kt4 (by simp only [pt]))) (uniq_mem.mpr (by rw [take_snoc hn]; exact List.mem_append_right _ (List.mem_singleton.mpr rfl)))) (by rw [List.length_map, nums_len, List.length_take]; omega) fun v5 H5 e5 pv5 => ?_
    have kt5 : Kt H5 (upd H5 l (.lst (wV (nums (ks.take i)) ++ [v5]))) := Kt.upd (Kt.refl _) (e5 _ _ hL4) fun _ z => nomatch z
    refine ⟨Ex.mut (e4.trans e5) z2, ((kt.trans kt4).trans (ex_kt e5)).trans kt5, by rw [upd_ne nld.symm]; exact e5 _ _ hD4, ?_, _, rfl⟩
    rw [upd_same, take_snoc hn, nums_snoc, wV_app, im_int pv5, ← take_snoc hn]
    rfl
  · rintro σ' H' ⟨e, kt, hD, hL, o, rfl⟩
    rw [List.length_map, List.take_length] at hL
    refine k_ret (v_var rfl) fun v H5 e5 pv => ?_
    rw [show v = V.ref l from pv]
    exact k l H5 _ z2 (e.trans e5) (e5 _ _ hL) (imAll_wV _)
def sp_numberedP : Sp := LstSp (α := List (List Int)) (fun ks => ks.length ≤ 1000) (fun ks => [isD (.list (ks.map iD))]) (fun ks => (nums ks).map nD)
theorem ok_numberedP (T : All K mg CB CA) : Df P w K mg base 1 "numbered" ["keys"] sp_numberedP := by
  refine T.t_numbered.ok sc_numbered (fun vs H Q E h => by obtain ⟨x, _, a, _⟩ := h; exact a.len) (fun f cdv A outer s H vs Q E hr h => ?_)
  obtain ⟨ks, hz, ⟨v1, _, rfl, h1, rfl⟩, k⟩ := h
  obtain ⟨a, xa, rfl, ha, hia⟩ := im_lst h1
  refine ⟨_, (pss_cons (ps_set (i := 1) sc_numbered.nd rfl (.inl rfl) pe_dnewT) (pss_cons (ps_set (i := 2) sc_numbered.nd rfl (.inl rfl) (pe_lst pa_nil)) (pss_cons (ps_for PassesOwn.never rfl (pi_list (pv 0)) (pg_name (i := 3) sc_numbered.nd rfl (.inl rfl)) (pss_cons (ps_if (pt_cmp (pc_dnotin (hu_of hr) (pv 3) (pv 1))) (pss_one (ps_dput (hu_of hr) (pv 1) (pv 3) (pe_callB call_len_dT (by rfl) T.b_len PySem.boot_len (pa_cons (pv 1) pa_nil)) rfl)) pss_nil) (pss_one (ps_expr (pe_bm PySem.F.plainAttrs_list PySem.F.slot_list_append PySem.F.type_list_append mt_append (pv 2) (pa_cons (pe_dget (hu_of hr) (pv 1) (pv 3) (fun _ _ => rfl)) pa_nil)))))) (pss_one (ps_ret (pv 2)))))), ?_⟩
  refine q_newT fun d d0 => ?_
  refine q_asgF f_nil fun l H2 xs l0 e2 hl hx => ?_
  have hd2 : H2 d = some (.dT []) := e2 _ _ upd_same
  have z2 : H l = none := fresh_back (Ex.new d0) l0
  have nld : l ≠ d := fun q => by rw [q, upd_same] at l0; cases l0
  have eH2 : Ex H H2 := (Ex.new d0).trans e2
  refine q_forLa (v_var rfl) (eH2 _ _ ha) (hia.ex eH2) (ptAll_is ks) fun H3 e3 => ⟨fun i σ' H' => Ex H H' ∧ Kt H3 H' ∧ H' d = some (.dT (encU fR 0 (uniq (ks.take i)))) ∧ H' l = some (.lst (wV (nums (ks.take i)))) ∧ ∃ o, σ' = [some (.ref a), some (.ref d), some (.ref l), o],
    ⟨eH2.trans e3, Kt.refl _, e3 _ _ hd2, by rw [e3 _ _ hl, imAll_intv (ns := []) hx]; rfl, _, rfl⟩, fun i σ' H' p => ⟨p.2.1, p.1 _ _ ha⟩, ?_, ?_⟩
  · rintro i dd x σ' H' hdd hx ⟨e, kt, hD, hL, o, rfl⟩
    obtain ⟨n, hn, rfl⟩ := map_get hdd
    have il := (List.getElem?_eq_some_iff.mp hn).1
    have ul := uniq_len_le (ks.take i)
    rw [List.length_take] at ul
    refine learnR hD (v_var rfl) (d_var rfl hx) (by omega) fun H4 f4 hD4 => ?_
    have hL4 := f4 _ _ nld hL
    have kt4 : Kt H' H4 := f4.kt hD fun _ z => nomatch z
    have e4 : Ex H H4 := f4.ex e d0
    have hk : uniq (ks.take (i + 1)) = ins (uniq (ks.take i)) n := by rw [take_snoc hn, uniq_snoc]
    rw [← hk] at hD4
    refine k_app hL4 (v_var rfl) (lookR hD4 (v_var rfl) (d_var rfl (hx.kt kt4 (pt_iD _))) (uniq_mem.mpr (by rw [take_snoc hn]; exact List.mem_append_right _ (List.mem_singleton.mpr rfl)))) (by rw [List.length_map, nums_len, List.length_take]; omega) fun v5 H5 e5 pv5 => ?_
    have kt5 : Kt H5 (upd H5 l (.lst (wV (nums (ks.take i)) ++ [v5]))) := Kt.upd (Kt.refl _) (e5 _ _ hL4) fun _ z => nomatch z
    refine ⟨Ex.mut (e4.trans e5) z2, ((kt.trans kt4).trans (ex_kt e5)).trans kt5, by rw [upd_ne nld.symm]; exact e5 _ _ hD4, ?_, _, rfl⟩
    rw [upd_same, take_snoc hn, nums_snoc, wV_app, im_int pv5, ← take_snoc hn]
    rfl
  · rintro σ' H' ⟨e, kt, hD, hL, o, rfl⟩
    rw [List.length_map, List.take_length] at hL
    refine k_ret (v_var rfl) fun v H5 e5 pv => ?_
    rw [show v = V.ref l from pv]
    exact k l H5 _ z2 (e.trans e5) (e5 _ _ hL) (imAll_wV _)
end
end Gr
end
section
set_option maxRecDepth 100000
set_option maxHeartbeats 4000000
namespace Gr
open PySem L2 PySem.Spec PyProof.Rows Evl
abbrev mhD (L : Nat) (mk : List Nat) (ways : List (List Nat)) : PyData := .tuple [nD L, wD mk, .tuple (ways.map wD)]
theorem pt_mhD (L : Nat) (mk : List Nat) (ways : List (List Nat)) : pt (mhD L mk ways) = true := by
  simp only [pt, ptAll, Bool.true_and, Bool.and_true, Bool.and_eq_true]
  exact ⟨ptAll_nat mk, ptAll_ws ways⟩
theorem inV_nat {a : Nat} {rs : List Nat} : inV (.int (a : Int)) (wV rs) = decide (a ∈ rs) := by
  unfold inV
  rw [Bool.eq_iff_iff, List.any_eq_true, decide_eq_true_iff]
  constructor
  · rintro ⟨y, hy, e⟩
    obtain ⟨n, hn, rfl⟩ := List.mem_map.mp hy
    have : (n : Int) = (a : Int) := by
      have e : eqV (.int (n : Int)) (.int (a : Int)) = true := e
      simpa [eqV] using e
    have : n = a := by omega
    rw [← this]
    exact hn
  · intro h
    exact ⟨_, List.mem_map.mpr ⟨a, h, rfl⟩, by simp [eqV]⟩
theorem flat_wV (rs : List Nat) : (wV rs).all flatV = true := by
  rw [List.all_eq_true]
  intro v hv
  obtain ⟨n, _, rfl⟩ := List.mem_map.mp hv
  rfl
section
variable {K : PySem.W.Frag} {σ : L2.St} {H : Hp} {ta tb te to ti : TE} {L : Nat} {g : House} {r a : Nat}
theorem d_notInI {rs : List Nat} (ha : EvP ta σ H (isD (nD a))) (hb : EvP tb σ H (isD (.list (rs.map nD)))) : EvP (tOp (rIn K true) ta tb) σ H (isD (.bool (!decide (a ∈ rs)))) :=
  e_op ha hb (mo_D _) fun x y H1 _ px py Q q => by
    obtain ⟨p, xs, rfl, h1, h2⟩ := im_lst py
    have hx := imAll_nat h2
    subst hx
    rw [im_int px]
    refine ⟨p, _, rfl, .inl (sq_of h1), rfl, flat_wV rs, ?_⟩
    rw [if_pos rfl, inV_nat]
    exact q _ H1 (Ex.refl H1) (.bl _)
theorem d_max {cl : List Nat} {d : Nat} (h : EvP te σ H (isD (.list (cl.map nD)))) (hn : Norm cl d) (h0 : 0 < d) : EvP (tCB (rMax K) (tCons te tNil)) σ H (isD (nD (d - 1))) := fun H1 e Q q =>
  h H1 e _ fun v H2 e2 pv => by
    obtain ⟨p, xs, rfl, h1, h2⟩ := im_lst pv
    have hx := imAll_nat h2
    subst hx
    refine ⟨p, cl.map fun (n : Nat) => (n : Int), rfl, ?_, ?_, fun m hm hle => ?_⟩
    · rw [List.map_map]
      exact sq_of h1
    · rw [List.length_map]
      exact Nat.lt_of_lt_of_le h0 hn.le_len
    · obtain ⟨n, hn1, rfl⟩ := List.mem_map.mp hm
      have h3 := hn.lt n hn1
      have h4 := hle ((d - 1 : Nat) : Int) (List.mem_map.mpr ⟨d - 1, hn.at_ _ (by omega), rfl⟩)
      have : n = d - 1 := by omega
      rw [this]
      exact q _ H2 e2 (.int _)
/-- house[2][room] -/
theorem d_wayrow {mk : List Nat} (O : Ok L g) (hr : r < g.ways.length) (h : EvP ta σ H (isD (mhD L mk g.ways))) (h1 : EvP tb σ H (isD (nD r))) : EvP (tOp (rIxT K) (tOp (rIxT K) ta (tC (.int 2))) tb) σ H (isD (wD (g.ways.getD r []))) :=
  d_ixT (d_ixT h (d_int (i := 2)) (at_nat (i := 2) rfl)) h1 (at_map (get_row hr))
end
section
variable {P : Program} {w : World} {K : PySem.W.Frag} {mg : Str → Option Value} {base : Heap} {CB CA : Addr}
structure MH where
  L : Nat
  g : House
  mks : List Nat
def MH.ok (x : MH) : Prop := Ok x.L x.g ∧ x.g.ways.length ≤ 10 ∧ x.L ≤ 6 ∧ x.mks.length = x.g.ways.length ∧ ∀ r s, r < x.g.ways.length → s < x.g.ways.length → (x.mks.getD r 0 = x.mks.getD s 0 ↔ x.g.says.getD r [] = x.g.says.getD s [])
/-! ### reached -/
def sp_reached : Sp := LstSp (α := MH) MH.ok (fun x => [isD (mhD x.L x.mks x.g.ways)]) (fun x => (rooms x.L x.g).map nD)
theorem ok_reached (T : All K mg CB CA) : Df P w K mg base 1 "reached" ["house"] sp_reached := by
  refine T.t_reached.ok sc_reached (fun vs H Q E h => by obtain ⟨x, _, a, _⟩ := h; exact a.len) (fun f cdv A outer s H vs Q E hr h => ?_)
  obtain ⟨⟨L, g, mk⟩, ⟨O, b1, l6, ml, hmk⟩, ⟨v1, _, rfl, h1, rfl⟩, k⟩ := h
  have O : Ok L g := O
  have b1 : g.ways.length ≤ 10 := b1
  have l6 : L ≤ 6 := l6
  refine ⟨_, (pss_cons (ps_set (i := 1) sc_reached.nd rfl (.inl rfl) (pe_lst (pa_cons pe_int pa_nil))) (pss_cons (ps_set (i := 2) sc_reached.nd rfl (.inl rfl) pe_int) (pss_cons (ps_while PassesOwn.never (pt_cmpR op_lt (pv 2) (pe_callB call_len_seq (by rfl) T.b_len PySem.boot_len (pa_cons (pv 1) pa_nil)) (nomark _)) (pss_cons (ps_set (i := 3) sc_reached.nd rfl (.inl rfl) (pe_ix ix_list (pv 1) (pv 2) (fun _ _ => rfl))) (pss_cons (ps_for PassesOwn.never rfl (pi_tup (pe_ix ix_tup (pe_ix ix_tup (pv 0) pe_int (fun _ _ => rfl)) (pv 3) (fun _ _ => rfl))) (pg_name (i := 4) sc_reached.nd rfl (.inl rfl)) (pss_one (ps_if (pt_cmpR op_notIn_seq (pv 4) (pv 1) (by rfl)) (pss_one (ps_expr (pe_bm PySem.F.plainAttrs_list PySem.F.slot_list_append PySem.F.type_list_append mt_append (pv 1) (pa_cons (pv 4) pa_nil)))) pss_nil))) (pss_one (ps_set (i := 2) sc_reached.nd rfl (.inl rfl) (pe_op op_add (pv 2) pe_int)))))) (pss_one (ps_ret (pv 1)))))), ?_⟩
  refine q_asgF (f_lst (ds := [nD 0]) (a_d (d_nat (n := 0) rfl) a_nil) (by show 1 ≤ 100000; decide)) fun l H1 xs1 l0 e1 hl hx => ?_
  refine q_asg (d_int (i := 0)) fun v2 H2 e2 pv2 => ?_
  have z0 : H l = none := l0
  refine Evl.q_while (fun m σ' H' => ∃ i, m = 11 - i ∧ i ≤ g.ways.length ∧ Ex H H' ∧ H' l = some (.lst (wV (rch L g i))) ∧ ∃ o3 o4, σ' = [some v1, some (.ref l), some (.int (i : Nat)), o3, o4]) 11 ⟨0, rfl, Nat.zero_le _, e1.trans e2, by rw [e2 _ _ hl, imAll_nat (w := [0]) hx]; rfl, none, none, by rw [im_int pv2]; rfl⟩ ?_
  rintro m σ' H' ⟨i, rfl, hi, e, hL, o3, o4, rfl⟩
  have hLi : Im H' (.list ((rch L g i).map nD)) (.ref l) := .lst hL (imAll_wV _)
  have I := rch_inv L g i
  refine ⟨_, t_cmp (d_lt (d_var rfl (.int _)) (d_lenM (K := K) (d_var rfl hLi))), fun hb H3 e3 => ?_, fun hb H3 e3 => ?_⟩
  · have hil : i < (rch L g i).length := by have := of_decide_eq_true hb; omega
    have hr : (rch L g i)[i]? = some (rch L g i)[i] := List.getElem?_eq_getElem hil
    generalize (rch L g i)[i] = r at hr
    have rl := I.lt O r (List.mem_of_getElem? hr)
    have hll := I.len_le O
    refine ⟨fun σ2 H2 => ∃ m', m' < 11 - i ∧ ∃ i, m' = 11 - i ∧ i ≤ g.ways.length ∧ Ex H H2 ∧ H2 l = some (.lst (wV (rch L g i))) ∧ ∃ o3 o4, σ2 = [some v1, some (.ref l), some (.int (i : Nat)), o3, o4], fun _ _ z => z, ?_⟩
    refine q_asg (d_ixL (K := K) (d_var rfl (hLi.ex e3)) (d_var rfl (.int _)) (at_map hr)) fun v4 H4 e4 pv4 => ?_
    have e34 := (e.trans e3).trans e4
    refine q_forT (d_wayrow (K := K) O rl (d_var rfl (h1.ex e34)) (d_var rfl pv4)) (ptAll_nat _) fun H5 e5 => ⟨fun j σ'' H'' => Ex H H'' ∧ Kt H5 H'' ∧ H'' l = some (.lst (wV (put g r j (rch L g i)))) ∧ ∃ o4, σ'' = [some v1, some (.ref l), some (.int (i : Nat)), some v4, o4],
      ⟨e34.trans e5, Kt.refl _, e5 _ _ (e4 _ _ (e3 _ _ hL)), _, rfl⟩, fun j σ'' H'' p => p.2.1, ?_, ?_⟩
    · rintro j d x σ'' H'' hd hxx ⟨f, kt, hL5, o4, rfl⟩
      obtain ⟨n, hn, rfl⟩ := map_get hd
      have rowl := (O.wr _ (getD_mem (d := []) rl)).1
      have hj : j < L := by have := (List.getElem?_eq_some_iff.mp hn).1; omega
      have en : n = stp g r j := by
        unfold stp
        rw [List.getD_eq_getElem?_getD (l := g.ways.getD r []), hn]
        rfl
      subst en
      have J := rinv_put I hr j (by omega)
      have Jl := J.len_le O
      refine k_if (t_cmp (d_notInI (K := K) (d_var rfl hxx) (d_var rfl (.lst hL5 (imAll_wV _))))) (fun hb H6 e6 => ?_) (fun hb H6 e6 => ?_)
      · have hm : stp g r j ∉ put g r j (rch L g i) := fun m => by rw [dT m] at hb; cases hb
        refine k_app (e6 _ _ hL5) (v_var rfl) (d_var rfl (hxx.ex e6)) (by rw [List.length_map]; omega) fun v7 H7 e7 pv7 => ?_
        refine ⟨Ex.mut ((f.trans e6).trans e7) z0, (kt.trans (ex_kt (e6.trans e7))).trans (Kt.upd (Kt.refl _) (e7 _ _ (e6 _ _ hL5)) fun _ z => nomatch z), ?_, _, rfl⟩
        rw [upd_same, put_succ]
        unfold ins
        rw [if_neg hm, wV_app, im_int pv7]
        rfl
      · have hm : stp g r j ∈ put g r j (rch L g i) := by
          apply Classical.byContradiction
          intro q
          rw [dF q] at hb
          cases hb
        refine ⟨f.trans e6, kt.trans (ex_kt e6), ?_, _, rfl⟩
        rw [e6 _ _ hL5, put_succ]
        unfold ins
        rw [if_pos hm]
    · rintro σ'' H'' ⟨f, kt, hL5, o4, rfl⟩
      have rowl := (O.wr _ (getD_mem (d := []) rl)).1
      rw [List.length_map, rowl, ← rch_some hr] at hL5
      refine k_asg (d_add (d_var rfl (.int (i : Nat))) (d_int (i := 1))) fun v6 H6 e6 pv6 => ?_
      exact ⟨11 - (i + 1), by omega, i + 1, rfl, by omega, f.trans e6, e6 _ _ hL5, _, _, by rw [im_int pv6]; rfl⟩
  · have hil : (rch L g i).length ≤ i := by have := of_decide_eq_false hb; omega
    rw [rch_end hi hil] at hL
    refine k_ret (v_var rfl) fun v H5 e5 pv => ?_
    rw [show v = V.ref l from pv]
    exact k l H5 _ z0 ((e.trans e3).trans e5) (e5 _ _ (e3 _ _ hL)) (imAll_wV _)
end
end Gr
end
section
set_option maxRecDepth 100000
set_option maxHeartbeats 4000000
namespace Gr
open PySem L2 PySem.Spec PyProof.Rows Evl
/-- all but two lists -/
def del2 (H : Hp) (a b : Addr) : Hp := fun c => if c = a ∨ c = b then none else H c
section
variable {H H' : Hp} {a b c : Addr} {o u : HO}
theorem del2_ne (h1 : c ≠ a) (h2 : c ≠ b) : del2 H a b c = H c := by
  unfold del2
  rw [if_neg (fun z => z.elim h1 h2)]
theorem del2_some (h : del2 H a b c = some o) : c ≠ a ∧ c ≠ b ∧ H c = some o := by
  unfold del2 at h
  by_cases q : c = a ∨ c = b
  · rw [if_pos q] at h; cases h
  · rw [if_neg q] at h
    exact ⟨fun z => q (.inl z), fun z => q (.inr z), h⟩
theorem del2_le : Ex (del2 H a b) H := fun c o h => (del2_some h).2.2
theorem del2_mono (e : Ex H H') : Ex (del2 H a b) (del2 H' a b) := fun c o h => by
  obtain ⟨h1, h2, h3⟩ := del2_some h
  rw [del2_ne h1 h2]
  exact e c o h3
theorem del2_upd1 : Ex (del2 H a b) (del2 (upd H a o) a b) := fun c u h => by
  obtain ⟨h1, h2, h3⟩ := del2_some h
  rw [del2_ne h1 h2, upd_ne h1]
  exact h3
theorem del2_upd2 : Ex (del2 H a b) (del2 (upd H b o) a b) := fun c u h => by
  obtain ⟨h1, h2, h3⟩ := del2_some h
  rw [del2_ne h1 h2, upd_ne h2]
  exact h3
theorem kt_del2 (h1 : H a = some o) (h2 : H b = some u) (n1 : ∀ xs, o ≠ .tup xs) (n2 : ∀ xs, u ≠ .tup xs) : Kt H (del2 H a b) := fun c xs q => by
  rw [del2_ne (ne_of q h1 fun e => n1 xs e.symm) (ne_of q h2 fun e => n2 xs e.symm)]
  exact q
theorem im_del2 {ds : List PyData} {xs ys zs : List V} (h1 : H a = some (.lst ys)) (h2 : H b = some (.lst zs)) (p1 : c ≠ a) (p2 : c ≠ b) (hc : H c = some (.lst xs)) (hi : ImAll H ds xs) (hp : ptAll ds = true) : Im (del2 H a b) (.list ds) (.ref c) :=
  .lst (by rw [del2_ne p1 p2]; exact hc) (hi.kt (kt_del2 h1 h2 (fun _ z => nomatch z) fun _ z => nomatch z) hp)
end
theorem col_len (g : House) (mk : List Nat) (w : Word) : (col g mk w).length = g.ways.length := by
  unfold col
  rw [List.length_map, List.length_range]
theorem col_get {g : House} {mk : List Nat} {w : Word} {r : Nat} (h : r < g.ways.length) : (col g mk w)[r]? = some (mk.getD (run g r w) 0) := by
  unfold col
  rw [List.getElem?_map, List.getElem?_range h]
  rfl
theorem col_nil {g : House} {mk : List Nat} (h : mk.length = g.ways.length) : col g mk [] = mk := by
  apply List.ext_getElem?
  intro r
  rcases Nat.lt_or_ge r g.ways.length with q | q
  · rw [col_get q]
    exact (get_cell (show r < mk.length by omega)).symm
  · rw [List.getElem?_eq_none (by rw [col_len]; exact q), List.getElem?_eq_none (by omega)]
abbrev colD (g : House) (mk : List Nat) (w : Word) : PyData := .list ((col g mk w).map nD)
def prs (g : House) (mk cl : List Nat) (v : Word) : List (Nat × Nat) := (List.range g.ways.length).map fun r => (cl.getD r 0, mk.getD (run g r v) 0)
def prI (c : Nat × Nat) : List Int := [(c.1 : Int), (c.2 : Int)]
theorem prI_inj (x y : Nat × Nat) (h : prI x = prI y) : x = y := by
  obtain ⟨a, b⟩ := x
  obtain ⟨c, d⟩ := y
  simp only [prI, List.cons.injEq, and_true] at h
  have h1 : a = c := by omega
  have h2 : b = d := by omega
  rw [h1, h2]
theorem finer_nums (g : House) (mk cl : List Nat) (v : Word) : nums ((prs g mk cl v).map prI) = finer g mk cl v := by
  rw [nums_map prI_inj]
  rfl
theorem nodup_get {cl : List Nat} {r : Nat} (h : r < cl.length) : cl[r]? = some (cl.getD r 0) := get_cell h
theorem nums_castI (mk : List Nat) : nums (mk.map fun (n : Nat) => (n : Int)) = nums mk := nums_map (fun a b h => by omega) mk
/-- how far sorting out has come -/
structure SoInv (L : Nat) (g : House) (mk : List Nat) (ws : List Word) (cl : List Nat) (d i j : Nat) : Prop where
  so : Sorted L g mk ws cl d
  dn : ∀ (k : Nat) (w : Word), k < i → ws[k]? = some w → ∀ a, a < L → Done g mk cl w a
  dj : ∀ (w : Word), ws[i]? = some w → ∀ a, a < j → Done g mk cl w a
  wb : ∀ (k : Nat) (w : Word), ws[k]? = some w → w.length ≤ k
section
variable {L : Nat} {g : House} {mk : List Nat} {ws : List Word} {cl : List Nat} {d i j : Nat}
theorem SoInv.more (I : SoInv L g mk ws cl d i j) {w : Word} (hw : ws[i]? = some w) (hj : j < L) {d' : Nat} (hn : Norm (finer g mk cl (j :: w)) d') (hlt : d < d') : SoInv L g mk (ws ++ [j :: w]) (finer g mk cl (j :: w)) d' i (j + 1) := by
  have hl : i < ws.length := (List.getElem?_eq_some_iff.mp hw).1
  have wl : Lets L (j :: w) := fun b m => (List.mem_cons.mp m).elim (fun z => by rw [z]; exact hj) fun z => I.so.wl w (List.mem_of_getElem? hw) b z
  refine ⟨sorted_more I.so wl hn hlt, fun k v hk hv a ha => ?_, fun v hv a ha => ?_, fun k v hv => ?_⟩
  · rcases get_snoc hv with q | ⟨q1, q2⟩
    · exact done_keep I.so.cn (I.dn k v hk q a ha)
    · omega
  · rcases get_snoc hv with q | ⟨q1, q2⟩
    · rcases Nat.lt_or_ge a j with z | z
      · exact done_keep I.so.cn (I.dj v q a z)
      · have e : a = j := by omega
        rw [hw] at q
        cases q
        rw [e]
        exact done_now I.so.cn
    · omega
  · rcases get_snoc hv with q | ⟨q1, q2⟩
    · exact I.wb k v q
    · have := I.wb i w hw
      rw [q2, List.length_cons]
      omega
theorem SoInv.same (I : SoInv L g mk ws cl d i j) {w : Word} (hw : ws[i]? = some w) {d' : Nat} (hn : Norm (finer g mk cl (j :: w)) d') (hle : d' ≤ d) : SoInv L g mk ws cl d i (j + 1) := by
  refine ⟨I.so, I.dn, fun v hv a ha => ?_, I.wb⟩
  rcases Nat.lt_or_ge a j with z | z
  · exact I.dj v hv a z
  · have e : a = j := by omega
    rw [hw] at hv
    cases hv
    rw [e]
    exact done_same I.so hn hle
theorem SoInv.next (I : SoInv L g mk ws cl d i L) : SoInv L g mk ws cl d (i + 1) 0 := by
  refine ⟨I.so, fun k v hk hv a ha => ?_, fun v hv a ha => absurd ha (Nat.not_lt_zero a), I.wb⟩
  rcases Nat.lt_or_ge k i with z | z
  · exact I.dn k v z hv a ha
  · have e : k = i := by omega
    rw [e] at hv
    exact I.dj v hv a ha
theorem SoInv.classes (I : SoInv L g mk ws cl d i 0) (O : Ok L g) (hi : ws.length ≤ i) (hmk : ∀ r s, r < g.ways.length → s < g.ways.length → (mk.getD r 0 = mk.getD s 0 ↔ g.says.getD r [] = g.says.getD s [])) : Classes L g (fun r => cl.getD r 0) :=
  sorted_classes O I.so (fun w hw a ha => by
    obtain ⟨k, hk⟩ := List.getElem?_of_mem hw
    exact I.dn k w (by have := (List.getElem?_eq_some_iff.mp hk).1; omega) hk a ha) hmk
end
theorem q_lst1F {te : TE} {σ : L2.St} {H : Hp} {D : Ends} {tz : TS} {i : Nat} {ds : List PyData} (h : EvF te σ H ds) (k : ∀ p H1 xs, H p = none → Ex H H1 → H1 p = some (.lst xs) → ImAll H1 ds xs → ∀ l, H1 l = none → tz D (σ.set i (some (.ref l))) (upd H1 l (.lst [.ref p]))) : tSeq (tAsg (tLst (tCons te tNil)) (gName i)) tz D σ H :=
  h H (Ex.refl H) _ fun p H2 xs p0 e hp hx => ⟨by show 1 ≤ sizeLine; decide, fun l hl => k p H2 xs p0 e hp hx l hl⟩
section
variable {P : Program} {w : World} {K : PySem.W.Frag} {mg : Str → Option Value} {base : Heap} {CB CA : Addr}
/-! ### sorted_out -/
def sp_sorted_out : Sp := PurSp (α := MH) MH.ok (fun x => [isD (mhD x.L x.mks x.g.ways)]) (fun x v H => ∃ (ws : List PyData) (cl : List Nat), Im H (.tuple [.list ws, .list (cl.map nD)]) v ∧ cl.length = x.g.ways.length ∧ Classes x.L x.g (fun r => cl.getD r 0))
theorem ok_sorted_out (T : All K mg CB CA) (D_numberedT : Df P w K mg base 1 "numbered" ["keys"] sp_numberedT) (D_numberedP : Df P w K mg base 1 "numbered" ["keys"] sp_numberedP) : Df P w K mg base 2 "sorted_out" ["house"] sp_sorted_out := by
  refine T.t_sorted_out.ok sc_sorted_out (fun vs H Q E h => by obtain ⟨x, _, a, _⟩ := h; exact a.len) (fun f cdv A outer s H vs Q E hr h => ?_)
  obtain ⟨⟨L, g, mk⟩, ⟨O, b1, l6, ml, hmk⟩, ⟨v1, _, rfl, h1, rfl⟩, k⟩ := h
  have O : Ok L g := O
  have b1 : g.ways.length ≤ 10 := b1
  have l6 : L ≤ 6 := l6
  have ml : mk.length = g.ways.length := ml
  refine ⟨_, (pss_cons (ps_set (i := 1) sc_sorted_out.nd rfl (.inl rfl) (pe_lst (pa_cons (pe_tup pa_nil) pa_nil))) (pss_cons (ps_set (i := 2) sc_sorted_out.nd rfl (.inr rfl) (pe_lst (pa_cons (pe_callTy call_list_of (by rfl) T.b_list (by decide +kernel) (pa_cons (pe_ix ix_tup (pv 0) pe_int (fun _ _ => rfl)) pa_nil)) pa_nil))) (pss_cons (ps_set (i := 3) sc_sorted_out.nd rfl (.inr rfl) (pcall D_numberedT (hr.mono (by decide)) rfl (pa_cons (pe_ix ix_tup (pv 0) pe_int (fun _ _ => rfl)) pa_nil))) (pss_cons (ps_set (i := 4) sc_sorted_out.nd rfl (.inr rfl) pe_int) (pss_cons (ps_while PassesOwn.never (pt_cmpR op_lt (pv 4) (pe_callB call_len_seq (by rfl) T.b_len PySem.boot_len (pa_cons (pv 1) pa_nil)) (nomark _)) (pss_cons (ps_for PassesOwn.never rfl (pi_range1 (by rfl) T.b_range (pa_cons (pe_ix ix_tup (pv 0) pe_int (fun _ _ => rfl)) pa_nil)) (pg_name (i := 5) sc_sorted_out.nd rfl (.inr rfl)) (pss_cons (ps_set (i := 6) sc_sorted_out.nd rfl (.inr rfl) (pe_lc (own := [("row", 7)]) (g := gName 7) (tt := tYes) rfl sc_sorted_out.nd (pi_tup (pe_ix ix_tup (pv 0) pe_int (fun _ _ => rfl))) (blkOk_by (own := [("row", 7)]) (N := ["house", "words", "columns", "classes", "at", "letter", "column", "row", "finer", "room"]) (sc := defScope s_sorted_out) (by decide +kernel)) (fun _ _ _ _ _ => (pg_name (i := 7) sc_sorted_out.nd rfl (.inl rfl))) (fun _ _ _ _ _ => pts_nil) (fun _ _ _ _ _ => (pe_ix (r := rIxL K) ix_list (pe_ix (r := rIxL K) ix_list (pv 2) (pv 4) (fun _ _ => rfl)) (pe_ix (r := rIxT K) ix_tup (pv 7) (pv 5) (fun _ _ => rfl)) (fun _ _ => rfl))))) (pss_cons (ps_set (i := 8) sc_sorted_out.nd rfl (.inl rfl) (pcall D_numberedP (hr.mono (by decide)) rfl (pa_cons (pe_lc (own := [("room", 9)]) (g := gName 9) (tt := tYes) rfl sc_sorted_out.nd (pi_range1 (by rfl) T.b_range (pa_cons (pe_callB call_len_seq (by rfl) T.b_len PySem.boot_len (pa_cons (pv 6) pa_nil)) pa_nil)) (blkOk_by (own := [("room", 9)]) (N := ["house", "words", "columns", "classes", "at", "letter", "column", "row", "finer", "room"]) (sc := defScope s_sorted_out) (by decide +kernel)) (fun _ _ _ _ _ => (pg_name (i := 9) sc_sorted_out.nd rfl (.inl rfl))) (fun _ _ _ _ _ => pts_nil) (fun _ _ _ _ _ => (pe_tup (pa_cons (pe_ix (r := rIxL K) ix_list (pv 3) (pv 9) (fun _ _ => rfl)) (pa_cons (pe_ix (r := rIxL K) ix_list (pv 6) (pv 9) (fun _ _ => rfl)) pa_nil))))) pa_nil))) (pss_one (ps_if (pt_cmpR op_gt (pe_callB (cr_max rfl) (by rfl) T.b_max (by decide +kernel) (pa_cons (pv 8) pa_nil)) (pe_callB (cr_max rfl) (by rfl) T.b_max (by decide +kernel) (pa_cons (pv 3) pa_nil)) (nomark _)) (pss_cons (ps_expr (pe_bm PySem.F.plainAttrs_list PySem.F.slot_list_append PySem.F.type_list_append mt_append (pv 1) (pa_cons (pe_op op_catA (pe_tup (pa_cons (pv 5) pa_nil)) (pe_ix ix_list (pv 1) (pv 4) (fun _ _ => rfl))) pa_nil))) (pss_cons (ps_expr (pe_bm PySem.F.plainAttrs_list PySem.F.slot_list_append PySem.F.type_list_append mt_append (pv 2) (pa_cons (pv 6) pa_nil))) (pss_one (ps_set (i := 3) sc_sorted_out.nd rfl (.inr rfl) (pv 8))))) pss_nil))))) (pss_one (ps_set (i := 4) sc_sorted_out.nd rfl (.inr rfl) (pe_op op_add (pv 4) pe_int))))) (pss_one (ps_ret (pe_tup (pa_cons (pv 1) (pa_cons (pv 3) pa_nil)))))))))), ?_⟩
  have mkI : wD mk = iD (mk.map fun (n : Nat) => (n : Int)) := wD_iD mk
  refine q_asgF (f_lst (ds := [wD []]) (a_d (d_tup (ds := []) a_nil (Nat.zero_le _)) a_nil) (by show 1 ≤ 100000; decide)) fun l1 H1 xs1 l10 e1 hl1 hx1 => ?_
  have z1 : H l1 = none := l10
  -- columns = [list(house[1])]
  refine q_lst1F (f_listT (K := K) (ds := mk.map nD) (d_ixT (K := K) (d_var rfl (h1.ex e1)) (d_int (i := 1)) (at_nat (i := 1) rfl))) fun p0 H2 ys p00 e2 hp0 hy l2 l20 => ?_
  have z2 : H l2 = none := fresh_back (e1.trans e2) l20
  have n12 : l1 ≠ l2 := fun q => by rw [← q, e2 _ _ hl1] at l20; cases l20
  have np1 : p0 ≠ l1 := fun q => by rw [q, hl1] at p00; cases p00
  have np2 : p0 ≠ l2 := fun q => by rw [q, l20] at hp0; cases hp0
  have e3 : Ex H (upd H2 l2 (.lst [.ref p0])) := (e1.trans e2).trans (Ex.new l20)
  have hl13 : upd H2 l2 (.lst [.ref p0]) l1 = some (.lst xs1) := by rw [upd_ne n12]; exact e2 _ _ hl1
  have c0 : Im (del2 (upd H2 l2 (.lst [.ref p0])) l1 l2) (colD g mk []) (.ref p0) := by
    rw [colD, col_nil ml]
    exact im_del2 hl13 upd_same np1 np2 (by rw [upd_ne np2]; exact hp0) (hy.ex (Ex.new l20)) (ptAll_nat _)
  -- classes = numbered(house[1])
  have h13 := h1.ex e3
  refine q_asgF (f_call (ds := fun ks => (nums ks).map nD) (mk.map fun (n : Nat) => (n : Int)) (by rw [List.length_map, ml]; omega) (a_d (by rw [← mkI]; exact d_ixT (K := K) (d_var rfl h13) (d_int (i := 1)) (at_nat (i := 1) rfl)) a_nil)) fun pc H4 xsc pc0 e4 hpc hxc => ?_
  rw [nums_castI] at hxc
  have npc1 : pc ≠ l1 := fun q => by rw [q, hl13] at pc0; cases pc0
  have npc2 : pc ≠ l2 := fun q => by rw [q, upd_same] at pc0; cases pc0
  have hcl0 : Im (del2 H4 l1 l2) (.list ((nums mk).map nD)) (.ref pc) := im_del2 (e4 _ _ hl13) (e4 _ _ upd_same) npc1 npc2 hpc hxc (ptAll_nat _)
  refine q_asg (d_int (i := 0)) fun v4 H5 e5 pv4 => ?_
  have e45 := e4.trans e5
  refine Evl.q_while (fun m σ' H' => ∃ i ws cl d pc ys1 ys2, m = 11 - i ∧ i ≤ ws.length ∧ SoInv L g mk ws cl d i 0 ∧ Ex H H' ∧ H' l1 = some (.lst ys1) ∧ H' l2 = some (.lst ys2) ∧ ImAll H' (wsD ws) ys1 ∧ ImAll (del2 H' l1 l2) (ws.map (colD g mk)) ys2 ∧ Im (del2 H' l1 l2) (.list (cl.map nD)) (.ref pc) ∧
      ∃ o5 o6 o7 o8 o9, σ' = [some v1, some (.ref l1), some (.ref l2), some (.ref pc), some (.int (i : Nat)), o5, o6, o7, o8, o9]) 11
    ⟨0, [[]], nums mk, (uniq mk).length, pc, xs1, [.ref p0], rfl, Nat.zero_le _, ⟨sorted_start ml O.pos, fun k w hk => absurd hk (Nat.not_lt_zero k), fun w _ a ha => absurd ha (Nat.not_lt_zero a), fun k w hw => by
        have := (List.getElem?_eq_some_iff.mp hw).1
        simp at this
        subst this
        have : [] = w := by simpa using hw
        rw [← this]
        exact Nat.le_refl _⟩, (e3.trans e45), e45 _ _ hl13, e45 _ _ upd_same, hx1.ex (e2.trans ((Ex.new l20).trans e45)),
      (ImAll.one c0).ex (del2_mono e45), hcl0.ex (del2_mono e5), none, none, none, none, none, by rw [im_int pv4]; rfl⟩ ?_
  rintro m σ' H' ⟨i, ws, cl, d, pc, ys1, ys2, rfl, hi, SI, e, hL1, hL2, hI1, hI2, hC, o5, o6, o7, o8, o9, rfl⟩
  have dle : d ≤ g.ways.length := by rw [← SI.so.cn]; exact SI.so.nm.le_len
  refine ⟨_, t_cmp (d_lt (d_var rfl (.int _)) (d_lenM (K := K) (d_var rfl (.lst hL1 hI1)))), fun hb H6 e6 => ?_, fun hb H6 e6 => ?_⟩
  · have hil : i < ws.length := by have := of_decide_eq_true hb; omega
    have hw : ws[i]? = some ws[i] := List.getElem?_eq_getElem hil
    generalize ws[i] = wd at hw
    have wle := SI.so.le
    refine ⟨_, fun σ2 H2 z => z, ?_⟩
    refine q_forR (n := L) (d_ixT (K := K) (d_var rfl (h1.ex (e.trans e6))) (d_int (i := 0)) (at_nat (i := 0) rfl)) (by omega) fun H7 e7 => ⟨fun j σ'' H'' => ∃ ws cl d pc ys1 ys2, SoInv L g mk ws cl d i j ∧ ws[i]? = some wd ∧ Ex H H'' ∧ H'' l1 = some (.lst ys1) ∧ H'' l2 = some (.lst ys2) ∧ ImAll H'' (wsD ws) ys1 ∧ ImAll (del2 H'' l1 l2) (ws.map (colD g mk)) ys2 ∧ Im (del2 H'' l1 l2) (.list (cl.map nD)) (.ref pc) ∧
        ∃ o5 o6 o7 o8 o9, σ'' = [some v1, some (.ref l1), some (.ref l2), some (.ref pc), some (.int (i : Nat)), o5, o6, o7, o8, o9],
      ⟨ws, cl, d, pc, ys1, ys2, SI, hw, (e.trans e6).trans e7, e7 _ _ (e6 _ _ hL1), e7 _ _ (e6 _ _ hL2), hI1.ex (e6.trans e7), hI2.ex (del2_mono (e6.trans e7)), hC.ex (del2_mono (e6.trans e7)), _, _, _, _, _, rfl⟩, ?_, ?_⟩
    · rintro j σ'' H'' hj ⟨ws, cl, d, pc, ys1, ys2, SI, hw, f, hL1, hL2, hI1, hI2, hC, o5, o6, o7, o8, o9, rfl⟩
      have dle : d ≤ g.ways.length := by rw [← SI.so.cn]; exact SI.so.nm.le_len
      have wle := SI.so.le
      have cn := SI.so.cn
      have yl1 := hI1.len
      have yl2 := hI2.len
      rw [List.length_map] at yl1 yl2
      have hil : i < ws.length := (List.getElem?_eq_some_iff.mp hw).1
      have wlt : Lets L wd := SI.so.wl wd (List.mem_of_getElem? hw)
      -- column
      have hcolsH : ∀ H8, Ex H'' H8 → Im H8 (.list (ws.map (colD g mk))) (.ref l2) := fun H8 e8 => .lst (e8 _ _ hL2) (hI2.ex (del2_le.trans e8))
      refine q_asgF (c_T (K := K) (d_ixT (K := K) (d_var rfl (h1.ex f)) (d_int (i := 2)) (at_nat (i := 2) (x := PyData.tuple (g.ways.map wD)) rfl)) (rs := (col g mk (j :: wd)).map nD) (by rw [List.length_map, List.length_map, col_len]) (by rw [List.length_map]; omega) (fun _ => rfl) (fun _ _ _ _ _ _ _ => t_yes) (fun r dd rr x H8 e8 hd hr' hx => ?_)) fun pl H8 xsl pl0 e8 hpl hxl => ?_
      · obtain ⟨row, hrow, rfl⟩ := map_get hd
        obtain ⟨n, hn, rfl⟩ := map_get hr'
        have hr : r < g.ways.length := (List.getElem?_eq_some_iff.mp hrow).1
        rw [col_get hr] at hn
        cases hn
        have rlen := (O.wr row (List.mem_of_getElem? hrow)).1
        have est : stp g r j = row.getD j 0 := by
          have q : g.ways.getD r [] = row := by
            rw [List.getD_eq_getElem?_getD, hrow]
            rfl
          show (g.ways.getD r []).getD j 0 = _
          rw [q]
        have hst := O.stp_lt hr hj
        refine (d_ixL (K := K) (d_ixL (K := K) (d_var rfl (hcolsH H8 e8)) (d_var rfl (.int _)) (at_map hw)) (d_ixT (K := K) (d_var rfl hx) (d_var rfl (.int _)) (at_map (get_cell (d := 0) (by rw [rlen]; exact hj)))) (at_map ?_)).toG (by simp only [pt])
        rw [← est]
        exact col_get hst
      have npl1 : pl ≠ l1 := fun q => by rw [q, hL1] at pl0; cases pl0
      have npl2 : pl ≠ l2 := fun q => by rw [q, hL2] at pl0; cases pl0
      have hcol : Im (del2 H8 l1 l2) (.list ((col g mk (j :: wd)).map nD)) (.ref pl) := im_del2 (e8 _ _ hL1) (e8 _ _ hL2) npl1 npl2 hpl hxl (ptAll_nat _)
      -- finer
      have hC8 := hC.ex (del2_mono (a := l1) (b := l2) e8)
      refine q_asgF (f_call (ds := fun ks => (nums ks).map nD) ((prs g mk cl (j :: wd)).map prI) (by rw [List.length_map, prs, List.length_map, List.length_range]; omega)
        (a_d (c_R (n := g.ways.length) (rs := ((prs g mk cl (j :: wd)).map prI).map iD) (by have q := d_lenM (K := K) (σ := [some v1, some (.ref l1), some (.ref l2), some (.ref pc), some (.int (i : Nat)), some (.int (j : Nat)), some (.ref pl), o7, o8, o9]) (d_var (i := 6) rfl (hcol.ex del2_le)); rw [col_len] at q; exact q) (by rw [List.length_map, List.length_map, prs, List.length_map, List.length_range]) (by omega) (fun _ => rfl) (fun _ _ _ _ => t_yes) (fun r rr H9 e9 hr hr' => ?_)).toL a_nil)) fun pf H9 xsf pf0 e9 hpf hxf => ?_
      · obtain ⟨x, hx, rfl⟩ := map_get hr'
        obtain ⟨y, hy, rfl⟩ := map_get hx
        unfold prs at hy
        rw [List.getElem?_map, List.getElem?_range hr] at hy
        have hy : y = (cl.getD r 0, mk.getD (run g r (j :: wd)) 0) := (Option.some.inj hy).symm
        subst hy
        exact (d_tup (ds := [nD (cl.getD r 0), nD (mk.getD (run g r (j :: wd)) 0)]) (a_d (d_ixL (K := K) (d_var rfl ((hC8.ex del2_le).ex e9)) (d_var rfl (.int _)) (at_map (nodup_get (by rw [cn]; exact hr)))) (a_d (d_ixL (K := K) (d_var rfl ((hcol.ex del2_le).ex e9)) (d_var rfl (.int _)) (at_map (col_get hr))) a_nil)) (by show 2 ≤ 100000; decide)).toG (pt_pD (cl.getD r 0, mk.getD (run g r (j :: wd)) 0))
      rw [finer_nums] at hxf
      have npf1 : pf ≠ l1 := fun q => by rw [q, e8 _ _ hL1] at pf0; cases pf0
      have npf2 : pf ≠ l2 := fun q => by rw [q, e8 _ _ hL2] at pf0; cases pf0
      have e89 := e8.trans e9
      have hF : Im (del2 H9 l1 l2) (.list ((finer g mk cl (j :: wd)).map nD)) (.ref pf) := im_del2 (e89 _ _ hL1) (e89 _ _ hL2) npf1 npf2 hpf hxf (ptAll_nat _)
      have hC9 := hC8.ex (del2_mono (a := l1) (b := l2) e9)
      have hcol9 := hcol.ex (del2_mono (a := l1) (b := l2) e9)
      obtain ⟨d', hn'⟩ := finer_norm (h := g) (mk := mk) (cl := cl) (v := j :: wd)
      have hd0 : 0 < d := by omega
      have hd0' : 0 < d' := by
        have hfl : (finer g mk cl (j :: wd)).length = g.ways.length := finer_len
        have hp := O.pos
        have : (finer g mk cl (j :: wd))[0]'(by omega) < d' := hn'.lt _ (List.getElem_mem _)
        omega
      refine k_if (t_cmp (d_gt (d_max (K := K) (d_var rfl (hF.ex del2_le)) hn' hd0') (d_max (K := K) (d_var rfl (hC9.ex del2_le)) SI.so.nm hd0))) (fun hb H10 e10 => ?_) (fun hb H10 e10 => ?_)
      · have hlt : d < d' := by have := of_decide_eq_true hb; omega
        have f10 := (f.trans e89).trans e10
        have hL10 := e10 _ _ (e89 _ _ hL1)
        have hI10 := hI1.ex (e89.trans e10)
        refine q_app hL10 (v_var rfl) (d_catW (K := K) (d_tup1 (d_var rfl (.int _))) (d_ixL (K := K) (d_var rfl (.lst hL10 hI10)) (d_var rfl (.int _)) (at_map hw)) (by have := SI.wb i wd hw; rw [List.length_singleton]; omega)) (by omega) fun v11 H11 e11 pv11 => ?_
        have hL211 := e11 _ _ (e10 _ _ (e89 _ _ hL2))
        have hL2u : upd H11 l1 (.lst (ys1 ++ [v11])) l2 = some (.lst ys2) := by rw [upd_ne n12.symm]; exact hL211
        have eU : Ex (del2 H9 l1 l2) (del2 (upd H11 l1 (.lst (ys1 ++ [v11]))) l1 l2) := (del2_mono (e10.trans e11)).trans del2_upd1
        refine q_app hL2u (v_var rfl) (v_var rfl) (by omega) fun v12 H12 e12 pv12 => ?_
        have pv12 : v12 = .ref pl := pv12
        subst pv12
        have eV : Ex (del2 H9 l1 l2) (del2 (upd H12 l2 (.lst (ys2 ++ [.ref pl]))) l1 l2) := (eU.trans (del2_mono e12)).trans del2_upd2
        have kt : Kt H11 (upd H12 l2 (.lst (ys2 ++ [.ref pl]))) := ((Kt.upd (Kt.refl _) (e11 _ _ hL10) fun _ z => nomatch z).trans (ex_kt e12)).trans (Kt.upd (Kt.refl _) (e12 _ _ hL2u) fun _ z => nomatch z)
        refine k_asg (v_var rfl) fun v13 H13 e13 pv13 => ?_
        have pv13 : v13 = .ref pf := pv13
        subst pv13
        refine ⟨ws ++ [j :: wd], finer g mk cl (j :: wd), d', pf, ys1 ++ [v11], ys2 ++ [.ref pl], SI.more hw hj hn' hlt, get_app hw, (Ex.mut ((Ex.mut (f10.trans e11) z1).trans e12) z2).trans e13, ?_, e13 _ _ upd_same, ?_, ?_, hF.ex (eV.trans (del2_mono e13)), _, _, _, _, _, rfl⟩
        · refine e13 _ _ ?_
          rw [upd_ne n12]
          exact e12 _ _ upd_same
        · show ImAll _ ((ws ++ [j :: wd]).map wD) _
          rw [List.map_append]
          exact (((hI10.ex e11).kt kt (ptAll_ws _)).app (ImAll.one (Im.kt pv11 kt (pt_wD _)))).ex e13
        · rw [List.map_append]
          exact ((hI2.ex ((del2_mono e89).trans (eV.trans (del2_mono e13)))).app (ImAll.one (hcol9.ex (eV.trans (del2_mono e13)))))
      · have hle : d' ≤ d := by have := of_decide_eq_false hb; omega
        have e890 := e89.trans e10
        exact ⟨ws, cl, d, pc, ys1, ys2, SI.same hw hn' hle, hw, f.trans e890, e890 _ _ hL1, e890 _ _ hL2, hI1.ex e890, hI2.ex (del2_mono e890), hC.ex (del2_mono e890), _, _, _, _, _, rfl⟩
    · rintro σ'' H'' ⟨ws, cl, d, pc, ys1, ys2, SI, hw, f, hL1, hL2, hI1, hI2, hC, o5, o6, o7, o8, o9, rfl⟩
      have hil : i < ws.length := (List.getElem?_eq_some_iff.mp hw).1
      refine k_asg (d_add (d_var rfl (.int (i : Nat))) (d_int (i := 1))) fun v6 H8 e8 pv6 => ?_
      exact ⟨11 - (i + 1), by omega, i + 1, ws, cl, d, pc, ys1, ys2, rfl, by omega, SI.next, f.trans e8, e8 _ _ hL1, e8 _ _ hL2, hI1.ex e8, hI2.ex (del2_mono e8), hC.ex (del2_mono e8), _, _, _, _, _, by rw [im_int pv6]; rfl⟩
  · have hil : ws.length ≤ i := by have := of_decide_eq_false hb; omega
    refine k_ret (d_tup (ds := [.list (wsD ws), .list (cl.map nD)]) (a_d (d_var rfl (.lst (e6 _ _ hL1) (hI1.ex e6))) (a_d (d_var rfl ((hC.ex del2_le).ex e6)) a_nil)) (by show 2 ≤ 100000; decide)) fun v H7 e7 pv => ?_
    exact k v H7 ((e.trans e6).trans e7) ⟨wsD ws, cl, pv, SI.so.cn, SI.classes O hil hmk⟩
end
end Gr
end
section
set_option maxRecDepth 100000
set_option maxHeartbeats 4000000
namespace Gr
open PySem L2 PySem.Spec PyProof.Rows Evl
def oN : Option Nat → PyData
  | none => .none
  | some n => nD n
theorem pt_oN (o : Option Nat) : pt (oN o) = true := by cases o <;> rfl
theorem ptAll_oN (os : List (Option Nat)) : ptAll (os.map oN) = true := ptAll_of fun d h => by
  obtain ⟨n, _, rfl⟩ := List.mem_map.mp h
  exact pt_oN n
section
variable {K : PySem.W.Frag} {σ : L2.St} {H : Hp} {D : Ends} {tu tz : TS} {tl te ta tb : TE} {P R : VP} {d : PyData}
theorem q_forF {j : Nat} {ds : List PyData} (h : EvF tl σ H ds) (hp : ptAll ds = true)
    (k : ∀ a xs H0, H a = none → Ex H H0 → H0 a = some (.lst xs) → ∃ Pv : Nat → L2.St → Hp → Prop, Pv 0 σ H0 ∧ (∀ i σ' H', Pv i σ' H' → Kt H0 H' ∧ H' a = some (.lst xs)) ∧
      (∀ (i : Nat) d x σ' H', ds[i]? = some d → Im H' d x → Pv i σ' H' → tu { D with nx := Pv (i + 1), ct := Pv (i + 1), bk := tz D } (σ'.set j (some x)) H') ∧ ∀ σ' H', Pv ds.length σ' H' → tz D σ' H') : tSeq (tFor (iList K tl) (gName j) tu) tz D σ H :=
  h H (Ex.refl H) _ fun a H1 xs a0 e1 h1 h2 => by
    obtain ⟨Pv, p0, pk, ps, pd⟩ := k a xs H1 a0 e1 h1
    refine ⟨a, rfl, ⟨xs, sq_of h1⟩, for_list Pv p0 (fun i σ' H' _ p => sq_of (pk i σ' H' p).2) (fun i x σ' H' hx p => ?_) (by rw [h2.len]; exact pd)⟩
    obtain ⟨d, hd, hi⟩ := h2.got hx
    exact ps i d x σ' H' hd (hi.kt (pk i σ' H' p).1 (pt_mem hp d (List.mem_of_getElem? hd))) p
theorem e_ixT {i : Int} (ha : EvP ta σ H P) (mo : Mo P) (hb : EvP tb σ H (isD (.int i))) (h : ∀ v H1, P v H1 → ∃ ds d, Im H1 (.tuple ds) v ∧ atI ds i = some d ∧ ∀ v', Im H1 d v' → R v' H1) : EvP (tOp (rIxT K) ta tb) σ H R :=
  e_op ha hb mo fun x y H1 _ px py Q q => by
    obtain ⟨ds, d, hd, h, hr⟩ := h x H1 px
    obtain ⟨a, xs, rfl, h1, h2⟩ := im_tup hd
    have hl := h2.len
    unfold atI at h
    obtain ⟨j, hj, hd⟩ := Option.bind_eq_some_iff.mp h
    obtain ⟨v, hv, iv⟩ := h2.get hd
    refine ⟨a, xs, i, v, rfl, im_int py, st_of h1, ?_, q _ H1 (Ex.refl H1) (hr v iv)⟩
    unfold atI
    rw [hl, hj]
    exact hv
theorem k_setL {l : Addr} {xs : List V} {j : Nat} (hl : H l = some (.lst xs)) (h : EvP te σ H P) (mo : Mo P) (ha : EvP ta σ H (isV (.ref l))) (hb : EvP tb σ H (isD (nD j))) (hj : j < xs.length) (k : ∀ v H1, Ex H H1 → P v H1 → D.nx σ (upd H1 l (.lst (xs.set j v)))) : tAsg te (gSub ta tb rSetL) D σ H :=
  h H (Ex.refl H) _ fun v H1 e1 pv => ha H1 e1 _ fun x H2 e2 px => hb H2 (e1.trans e2) _ fun y H3 e3 py => by
    have e := (e1.trans e2).trans e3
    have px : x = .ref l := px
    subst px
    exact ⟨l, xs, (j : Int), j, rfl, im_int py, e _ _ hl, ixN_nat hj, k v H3 e (mo _ _ _ (e2.trans e3) pv)⟩
end
theorem ix_map {κ κ' : Type} [DecidableEq κ] [DecidableEq κ'] {f : κ → κ'} (hf : ∀ x y, f x = f y → x = y) (us : List κ) (k : κ) : ix (us.map f) (f k) = ix us k := idxOf_map hf k us
theorem imAll_set {H : Hp} : ∀ {ds : List PyData} {xs : List V} {j : Nat} {d : PyData} {v : V}, ImAll H ds xs → Im H d v → ImAll H (ds.set j d) (xs.set j v)
  | _, _, _, _, _, .nil, _ => .nil
  | _, _, 0, _, _, .cons _ hr, hv => .cons hv hr
  | _, _, j + 1, _, _, .cons h hr, hv => .cons h (imAll_set hr hv)
section
variable {P : Program} {w : World} {K : PySem.W.Frag} {mg : Str → Option Value} {base : Heap} {CB CA : Addr}
/-! ### homes -/
/-- what homes reckons -/
def HomesAre (L : Nat) (g : House) (hs : List (Option Nat)) (c : Nat → Nat) : Prop :=
  hs.length = g.ways.length ∧ Classes L g c ∧ ∀ r ∈ rooms L g, hs[r]? = some (some (ix (uniq ((rooms L g).map c)) (c r)))
def sp_homes : Sp := PurSp (α := MH) MH.ok (fun x => [isD (mhD x.L x.mks x.g.ways)]) (fun x v H => ∃ (hs : List (Option Nat)) (c : Nat → Nat), Im H (.list (hs.map oN)) v ∧ HomesAre x.L x.g hs c)
theorem ok_homes (T : All K mg CB CA) (D_sorted_out : Df P w K mg base 2 "sorted_out" ["house"] sp_sorted_out) (D_reached : Df P w K mg base 1 "reached" ["house"] sp_reached) : Df P w K mg base 3 "homes" ["house"] sp_homes := by
  refine T.t_homes.ok sc_homes (fun vs H Q E h => by obtain ⟨x, _, a, _⟩ := h; exact a.len) (fun f cdv A outer s H vs Q E hr h => ?_)
  obtain ⟨⟨L, g, mk⟩, ⟨O, b1, l6, ml, hmk⟩, ⟨v1, _, rfl, h1, rfl⟩, k⟩ := h
  have O : Ok L g := O
  have b1 : g.ways.length ≤ 10 := b1
  have l6 : L ≤ 6 := l6
  have ml : mk.length = g.ways.length := ml
  have mok : MH.ok ⟨L, g, mk⟩ := ⟨O, b1, l6, ml, hmk⟩
  refine ⟨_, (pss_cons (ps_set (i := 1) sc_homes.nd rfl (.inl rfl) (pe_ix ix_tup (pcall D_sorted_out (hr.mono (by decide)) rfl (pa_cons (pv 0) pa_nil)) pe_int (fun _ _ => rfl))) (pss_cons (ps_set (i := 2) sc_homes.nd rfl (.inl rfl) pe_dnewK) (pss_cons (ps_setLc (i := 3) (own := [("mark", 4)]) (g := gName 4) (tt := tYes) rfl sc_homes.nd rfl rfl (sw_true rfl rfl rfl (by decide +kernel)) (pi_tup (pe_ix ix_tup (pv 0) pe_int (fun _ _ => rfl))) (blkOk_by (own := [("mark", 4)]) (N := ["house", "classes", "number", "row", "mark", "room"]) (sc := defScope s_homes) (by decide +kernel)) (fun _ _ _ _ _ => (pg_name (i := 4) sc_homes.nd rfl (.inl rfl))) (fun _ _ _ _ _ => pts_nil) (fun _ _ _ _ _ => pe_non)) (pss_cons (ps_for PassesOwn.never rfl (pi_list (pcall D_reached (hr.mono (by decide)) rfl (pa_cons (pv 0) pa_nil))) (pg_name (i := 5) sc_homes.nd rfl (.inl rfl)) (pss_cons (ps_if (pt_cmp (pc_dnotin (hu_of hr) (pe_ix ix_list (pv 1) (pv 5) (fun _ _ => rfl)) (pv 2))) (pss_one (ps_dput (hu_of hr) (pv 2) (pe_ix ix_list (pv 1) (pv 5) (fun _ _ => rfl)) (pe_callB call_lenD (by rfl) T.b_len PySem.boot_len (pa_cons (pv 2) pa_nil)) rfl)) pss_nil) (pss_one (ps_asg (pe_dget (hu_of hr) (pv 2) (pe_ix ix_list (pv 1) (pv 5) (fun _ _ => rfl)) (fun _ _ => rfl)) (pg_sub (pv 3) (pv 5) set_list))))) (pss_one (ps_ret (pv 3))))))), ?_⟩
  refine q_asg (e_ixT (K := K) (P := fun v H => ∃ (ws : List PyData) (cl : List Nat), Im H (.tuple [.list ws, .list (cl.map nD)]) v ∧ cl.length = g.ways.length ∧ Classes L g (fun r => cl.getD r 0)) (R := fun v H => ∃ cl : List Nat, Im H (.list (cl.map nD)) v ∧ cl.length = g.ways.length ∧ Classes L g (fun r => cl.getD r 0)) (e_call (x := (⟨L, g, mk⟩ : MH)) mok (a_d (d_var rfl h1) a_nil)) (fun v H1 H2 e ⟨ws, cl, a, b⟩ => ⟨ws, cl, a.ex e, b⟩) (d_int (i := 1)) (fun v H1 ⟨ws, cl, a, b⟩ => ⟨_, _, a, at_nat (i := 1) rfl, fun v' hv => ⟨cl, hv, b⟩⟩)) fun v2 H2 e2 ⟨cl, h2, cn, C⟩ => ?_
  refine q_newK fun d d0 => ?_
  have zd : H d = none := fresh_back e2 d0
  have eD := Ex.new (o := .dK []) d0
  refine q_asgF (c_T (K := K) (d_ixT (K := K) (d_var rfl ((h1.ex e2).ex eD)) (d_int (i := 1)) (at_nat (i := 1) (x := wD mk) rfl)) (rs := (List.replicate g.ways.length (none : Option Nat)).map oN) (by rw [List.length_map, List.length_map, List.length_replicate, ml]) (by rw [List.length_map]; omega) (fun _ => rfl) (fun _ _ _ _ _ _ _ => t_yes) (fun r dd rr x H8 e8 hd hr' hx => by
    obtain ⟨o, ho, rfl⟩ := map_get hr'
    have : o = none := List.eq_of_mem_replicate (List.mem_of_getElem? ho)
    subst this
    exact d_non.toG rfl)) fun l H3 xs3 l0 e3 hl3 hx3 => ?_
  have zl : H l = none := fresh_back (e2.trans eD) l0
  have nld : l ≠ d := fun q => by rw [q, upd_same] at l0; cases l0
  have e13 : Ex H H3 := (e2.trans eD).trans e3
  have h23 := (h2.ex eD).ex e3
  let ki : Nat → Int := fun r => ((cl.getD r 0 : Nat) : Int)
  have hki : ∀ ks : List Nat, ks.map ki = (ks.map fun r => cl.getD r 0).map fun (n : Nat) => (n : Int) := fun ks => by rw [List.map_map]; rfl
  have cinj : ∀ x y : Nat, (x : Int) = (y : Int) → x = y := fun x y h => by omega
  have hd3 := e3 _ _ (upd_same (H := H2) (a := d) (o := HO.dK []))
  refine q_forF (f_call (ps := fun x : MH => [isD (mhD x.L x.mks x.g.ways)]) (ds := fun x : MH => (rooms x.L x.g).map nD) (⟨L, g, mk⟩ : MH) mok (a_d (d_var rfl (h1.ex e13)) a_nil)) (ptAll_nat _) fun a xs4 H4 a0 e4 ha4 => ?_
  have nal : a ≠ l := fun q => by rw [q, hl3] at a0; cases a0
  have nad : a ≠ d := fun q => by rw [q, hd3] at a0; cases a0
  have R := rooms_reached O
  refine ⟨fun i σ' H' => Ex H H' ∧ Ex H2 H' ∧ Kt H4 H' ∧ H' a = some (.lst xs4) ∧ H' d = some (.dK (encU fI 0 (uniq (((rooms L g).take i).map ki)))) ∧ (∃ (ys : List V) (hs : List (Option Nat)), H' l = some (.lst ys) ∧ ImAll H' (hs.map oN) ys ∧ hs.length = g.ways.length ∧ ∀ (j r : Nat), j < i → (rooms L g)[j]? = some r → hs[r]? = some (some (ix (uniq ((rooms L g).map ki)) (ki r)))) ∧ ∃ o4 o5, σ' = [some v1, some v2, some (.ref d), some (.ref l), o4, o5],
    ⟨e13.trans e4, (eD.trans e3).trans e4, Kt.refl _, ha4, e4 _ _ hd3, ⟨xs3, _, e4 _ _ hl3, hx3.ex e4, List.length_replicate, fun j r hj => absurd hj (Nat.not_lt_zero j)⟩, none, none, rfl⟩, fun i σ' H' p => ⟨p.2.2.1, p.2.2.2.1⟩, ?_, ?_⟩
  · rintro i dd x σ' H' hdd hx ⟨e, f2, kt, hA, hD, ⟨ys, hs, hL, hI, hsl, hh⟩, o4, o5, rfl⟩
    obtain ⟨r, hr, rfl⟩ := map_get hdd
    have rl := R.lt r (List.mem_of_getElem? hr)
    have yl := hI.len
    rw [List.length_map] at yl
    have ul := uniq_len_le (((rooms L g).take i).map ki)
    have rll : (rooms L g).length ≤ g.ways.length := (rch_inv L g g.ways.length).len_le O
    rw [List.length_map, List.length_take] at ul
    have hcls : ∀ H8, Ex H2 H8 → ∀ σ : L2.St, σ[1]? = some (some v2) → ∀ H9, Ex H8 H9 → Im H9 (nD r) x → σ[5]? = some (some x) → EvP (tOp (rIxL K) (tVar 1) (tVar 5)) σ H9 (isD (.int (ki r))) := fun H8 e8 σ h0 H9 e9 hx9 h5 => d_ixL (d_var h0 ((h2.ex e8).ex e9)) (d_var h5 hx9) (at_map (get_cell (d := 0) (by rw [cn]; exact rl)))
    refine learnI hD (v_var rfl) (hcls H' f2 _ rfl H' (Ex.refl _) hx rfl) (by omega) fun H5 f5 hD5 => ?_
    have kt5 : Kt H' H5 := f5.kt hD fun _ z => nomatch z
    have z2 : H2 d = none := d0
    have e25 : Ex H2 H5 := f5.ex f2 z2
    have hk : uniq (((rooms L g).take (i + 1)).map ki) = ins (uniq (((rooms L g).take i).map ki)) (ki r) := by rw [take_snoc hr, List.map_append, List.map_singleton, uniq_snoc]
    rw [← hk] at hD5
    have hL5 := f5 _ _ nld hL
    have hx5 := hx.kt kt5 (by simp only [pt])
    have mm : ki r ∈ ((rooms L g).take (i + 1)).map ki := by
      rw [take_snoc hr, List.map_append, List.map_singleton]
      exact List.mem_append_right _ (List.mem_singleton.mpr rfl)
    refine k_setL (P := isD (nD _)) hL5 (lookI hD5 (v_var rfl) (hcls H5 e25 _ rfl H5 (Ex.refl _) hx5 rfl) (uniq_mem.mpr mm)) (mo_D _) (v_var rfl) (d_var rfl hx5) (by rw [yl, hsl]; exact rl) fun v6 H6 e6 pv6 => ?_
    have hix : ix (uniq (((rooms L g).take (i + 1)).map ki)) (ki r) = ix (uniq ((rooms L g).map ki)) (ki r) := by
      have := uniq_idx (((rooms L g).take (i + 1)).map ki) (((rooms L g).drop (i + 1)).map ki) mm
      rw [← List.map_append, List.take_append_drop] at this
      exact this.symm
    have zl2 : H2 l = none := fresh_back (eD) l0
    have kt6 : Kt H6 (upd H6 l (.lst (ys.set r v6))) := Kt.upd (Kt.refl _) (e6 _ _ hL5) fun _ z => nomatch z
    have ktA : Kt H' (upd H6 l (.lst (ys.set r v6))) := (kt5.trans (ex_kt e6)).trans kt6
    refine ⟨Ex.mut ((f5.ex e zd).trans e6) zl, Ex.mut (e25.trans e6) zl2, kt.trans ktA, ?_, ?_, ⟨ys.set r v6, hs.set r (some (ix (uniq ((rooms L g).map ki)) (ki r))), upd_same, ?_, by rw [List.length_set]; exact hsl, ?_⟩, _, _, rfl⟩
    · rw [upd_ne nal]
      exact e6 _ _ (f5 _ _ nad hA)
    · rw [upd_ne nld.symm]
      exact e6 _ _ hD5
    · rw [List.map_set]
      refine imAll_set (hI.kt ktA (ptAll_oN hs)) ?_
      rw [← hix]
      exact Im.kt (d := nD _) pv6 kt6 rfl
    · intro j r' hj hr'
      rcases Nat.lt_or_ge j i with q | q
      · have nn : r ≠ r' := fun e => by
          rw [← e] at hr'
          have := (rooms_nd L g)
          have h1 := (List.getElem?_eq_some_iff.mp hr).1
          have h2 := (List.getElem?_eq_some_iff.mp hr').1
          have h3 : (rooms L g)[i] = (rooms L g)[j] := by rw [(List.getElem?_eq_some_iff.mp hr).2, (List.getElem?_eq_some_iff.mp hr').2]
          have := (List.getElem_inj this).mp h3
          omega
        rw [List.getElem?_set_ne nn]
        exact hh j r' q hr'
      · have : j = i := by omega
        subst this
        rw [hr] at hr'
        cases hr'
        rw [List.getElem?_set_self (by rw [hsl]; exact rl)]
  · rintro σ' H' ⟨e, f2, kt, hA, hD, ⟨ys, hs, hL, hI, hsl, hh⟩, o4, o5, rfl⟩
    rw [List.length_map] at hh
    refine k_ret (d_var rfl (.lst hL hI)) fun v H5 e5 pv => ?_
    refine k v H5 (e.trans e5) ⟨hs, fun r => cl.getD r 0, pv, hsl, C, fun r hr => ?_⟩
    obtain ⟨j, hj⟩ := List.getElem?_of_mem hr
    have := hh j r (List.getElem?_eq_some_iff.mp hj).1 hj
    rw [this]
    show some (some (ix (uniq ((rooms L g).map ki)) (ki r))) = some (some (ix (uniq ((rooms L g).map fun r => cl.getD r 0)) (cl.getD r 0)))
    rw [hki, uniq_map cinj, ix_map cinj]
end
end Gr
end
section
set_option maxRecDepth 100000
set_option maxHeartbeats 4000000
namespace Gr
open PySem L2 PySem.Spec PyProof.Rows Evl
section
variable {K : PySem.W.Frag} {σ : L2.St} {H : Hp} {te : TE} {d : PyData}
theorem d_ixO {ta tb : TE} {os : List (Option Nat)} {i : Nat} {o : Option Nat} (ha : EvP ta σ H (isD (.list (os.map oN)))) (hb : EvP tb σ H (isD (nD i))) (h : os[i]? = some o) : EvP (tOp (rIxL K) ta tb) σ H (isD (oN o)) := d_ixL ha hb (at_map h)
end
theorem ptAll_append : ∀ (xs ys : List PyData), ptAll (xs ++ ys) = (ptAll xs && ptAll ys)
  | [], _ => rfl
  | x :: xs, ys => by simp only [List.cons_append, ptAll, ptAll_append xs ys, Bool.and_assoc]
theorem get_some {α : Type} {l : List α} {i : Nat} (h : i < l.length) : ∃ x, l[i]? = some x := ⟨l[i], List.getElem?_eq_getElem h⟩
section
variable {P : Program} {w : World} {K : PySem.W.Frag} {mg : Str → Option Value} {base : Heap} {CB CA : Addr}
/-! ### least -/
def sp_least : Sp := PurSp (α := MH) MH.ok (fun x => [isD (mhD x.L x.mks x.g.ways)]) (fun x v H => ∃ (ms : List Nat) (wys : List PyData), Im H (.tuple [nD x.L, wD ms, .tuple wys]) v ∧ NOf x.L x.g ms.length ∧ ∀ m ∈ ms, m ∈ x.mks)
theorem ok_least (T : All K mg CB CA) (D_homes : Df P w K mg base 3 "homes" ["house"] sp_homes) (D_reached : Df P w K mg base 1 "reached" ["house"] sp_reached) : Df P w K mg base 4 "least" ["house"] sp_least := by
  refine T.t_least.ok sc_least (fun vs H Q E h => by obtain ⟨x, _, a, _⟩ := h; exact a.len) (fun f cdv A outer s H vs Q E hr h => ?_)
  obtain ⟨⟨L, g, mk⟩, ⟨O, b1, l6, ml, hmk⟩, ⟨v1, _, rfl, h1, rfl⟩, k⟩ := h
  have O : Ok L g := O
  have b1 : g.ways.length ≤ 10 := b1
  have l6 : L ≤ 6 := l6
  have ml : mk.length = g.ways.length := ml
  have mok : MH.ok ⟨L, g, mk⟩ := ⟨O, b1, l6, ml, hmk⟩
  refine ⟨_, (pss_cons (ps_set (i := 1) sc_least.nd rfl (.inr rfl) (pcall D_homes (hr.mono (by decide)) rfl (pa_cons (pv 0) pa_nil))) (pss_cons (ps_set (i := 2) sc_least.nd rfl (.inl rfl) (pe_lst pa_nil)) (pss_cons (ps_set (i := 3) sc_least.nd rfl (.inl rfl) (pe_lst pa_nil)) (pss_cons (ps_for PassesOwn.never rfl (pi_list (pcall D_reached (hr.mono (by decide)) rfl (pa_cons (pv 0) pa_nil))) (pg_name (i := 4) sc_least.nd rfl (.inl rfl)) (pss_one (ps_if (pt_cmpR op_eq (pe_ix ix_list (pv 1) (pv 4) (fun _ _ => rfl)) (pe_callB call_len_seq (by rfl) T.b_len PySem.boot_len (pa_cons (pv 2) pa_nil)) (nomark _)) (pss_cons (ps_expr (pe_bm PySem.F.plainAttrs_list PySem.F.slot_list_append PySem.F.type_list_append mt_append (pv 2) (pa_cons (pe_ix ix_tup (pe_ix ix_tup (pv 0) pe_int (fun _ _ => rfl)) (pv 4) (fun _ _ => rfl)) pa_nil))) (pss_one (ps_expr (pe_bm PySem.F.plainAttrs_list PySem.F.slot_list_append PySem.F.type_list_append mt_append (pv 3) (pa_cons (pe_callTy call_tuple_of (by rfl) T.b_tuple (by decide +kernel) (pa_cons (pe_lc (own := [("behind", 5)]) (g := gName 5) (tt := tYes) rfl sc_least.nd (pi_tup (pe_ix ix_tup (pe_ix ix_tup (pv 0) pe_int (fun _ _ => rfl)) (pv 4) (fun _ _ => rfl))) (blkOk_by (own := [("behind", 5)]) (N := ["house", "home", "marks", "ways", "room", "behind"]) (sc := defScope s_least) (by decide +kernel)) (fun _ _ _ _ _ => (pg_name (i := 5) sc_least.nd rfl (.inl rfl))) (fun _ _ _ _ _ => pts_nil) (fun _ _ _ _ _ => (pe_ix (r := rIxL K) ix_list (pv 1) (pv 5) (fun _ _ => rfl)))) pa_nil)) pa_nil))))) pss_nil))) (pss_one (ps_ret (pe_tup (pa_cons (pe_ix ix_tup (pv 0) pe_int (fun _ _ => rfl)) (pa_cons (pe_callTy call_tuple_of (by rfl) T.b_tuple (by decide +kernel) (pa_cons (pv 2) pa_nil)) (pa_cons (pe_callTy call_tuple_of (by rfl) T.b_tuple (by decide +kernel) (pa_cons (pv 3) pa_nil)) pa_nil)))))))))), ?_⟩
  refine q_asg (e_call (x := (⟨L, g, mk⟩ : MH)) mok (a_d (d_var rfl h1) a_nil)) fun v2 H2 e2 ⟨hs, c, h2, hsl, C, hr⟩ => ?_
  have h2 : Im H2 (.list (hs.map oN)) v2 := h2
  have hsl : hs.length = g.ways.length := hsl
  have C : Classes L g c := C
  have hr : ∀ r ∈ rooms L g, hs[r]? = some (some (ix (uniq ((rooms L g).map c)) (c r))) := hr
  refine q_asgF f_nil fun l H3 xs3 l0 e3 hl hx3 => ?_
  refine q_asgF f_nil fun m H4 xs4 m0 e4 hm hx4 => ?_
  have nml : m ≠ l := fun q => by rw [q, hl] at m0; cases m0
  have zl : H l = none := fresh_back e2 l0
  have zm : H m = none := fresh_back (e2.trans e3) m0
  have zl2 : H2 l = none := l0
  have zm2 : H2 m = none := fresh_back e3 m0
  have e14 := (e2.trans e3).trans e4
  have e24 := e3.trans e4
  refine q_forF (f_call (ps := fun x : MH => [isD (mhD x.L x.mks x.g.ways)]) (ds := fun x : MH => (rooms x.L x.g).map nD) (⟨L, g, mk⟩ : MH) mok (a_d (d_var rfl (h1.ex e14)) a_nil)) (ptAll_nat _) fun a xs5 H5 a0 e5 ha5 => ?_
  have nal : a ≠ l := fun q => by rw [q, e4 _ _ hl] at a0; cases a0
  have nam : a ≠ m := fun q => by rw [q, hm] at a0; cases a0
  have R := rooms_reached O
  refine ⟨fun i σ' H' => Ex H H' ∧ Ex H2 H' ∧ Kt H5 H' ∧ H' a = some (.lst xs5) ∧ (∃ (ms : List Nat) (wys : List PyData) (ys : List V), H' l = some (.lst (wV ms)) ∧ H' m = some (.lst ys) ∧ ImAll H' wys ys ∧ ptAll wys = true ∧ ys.length ≤ i ∧ ms.length = (uniq (((rooms L g).take i).map c)).length ∧ ∀ x ∈ ms, x ∈ mk) ∧ ∃ o4 o5, σ' = [some v1, some v2, some (.ref l), some (.ref m), o4, o5],
    ⟨e14.trans e5, e24.trans e5, Kt.refl _, ha5, ⟨[], [], xs4, by rw [e5 _ _ (e4 _ _ hl), imAll_nat (w := []) hx3], e5 _ _ hm, hx4.ex e5, rfl, Nat.le_of_eq hx4.len, rfl, fun x hx => nomatch hx⟩, none, none, rfl⟩, fun i σ' H' p => ⟨p.2.2.1, p.2.2.2.1⟩, ?_, ?_⟩
  · rintro i dd x σ' H' hdd hx ⟨e, f2, kt, hA, ⟨ms, wys, ys, hL, hM, hI, hpt, hyl, hml, hmm⟩, o4, o5, rfl⟩
    obtain ⟨r, hri, rfl⟩ := map_get hdd
    have rm := List.mem_of_getElem? hri
    have rl := R.lt r rm
    have il : i < (rooms L g).length := (List.getElem?_eq_some_iff.mp hri).1
    have ul := uniq_len_le (((rooms L g).take i).map c)
    have rll : (rooms L g).length ≤ g.ways.length := (rch_inv L g g.ways.length).len_le O
    rw [List.length_map, List.length_take] at ul
    have hnew : ix (uniq ((rooms L g).map c)) (c r) = (uniq (((rooms L g).take i).map c)).length ↔ c r ∉ ((rooms L g).take i).map c := by
      have h := uniq_new (((rooms L g).take i).map c) (((rooms L g).drop (i + 1)).map c) (c r)
      have e : ((rooms L g).take i).map c ++ c r :: ((rooms L g).drop (i + 1)).map c = (rooms L g).map c := by
        rw [← List.map_cons (f := c), ← List.map_append]
        congr 1
        have : r :: (rooms L g).drop (i + 1) = (rooms L g).drop i := by
          rw [List.drop_eq_getElem_cons il, (List.getElem?_eq_some_iff.mp hri).2]
        rw [this, List.take_append_drop]
      rw [e] at h
      exact h
    refine k_if (t_cmp (d_eqI (d_ixO (K := K) (o := some _) (d_var rfl (h2.ex f2)) (d_var rfl hx) (hr r rm)) (d_lenM (K := K) (d_var rfl (.lst hL (imAll_wV _)))))) (fun hb H6 e6 => ?_) (fun hb H6 e6 => ?_)
    · have hnn : c r ∉ ((rooms L g).take i).map c := hnew.mp (by have := of_decide_eq_true hb; omega)
      refine q_app (e6 _ _ hL) (v_var rfl) (d_ixT (K := K) (d_ixT (K := K) (d_var rfl ((h1.ex e).ex e6)) (d_int (i := 1)) (at_nat (i := 1) rfl)) (d_var rfl (hx.ex e6)) (at_map (get_cell (d := 0) (by rw [ml]; exact rl)))) (by rw [List.length_map]; omega) fun v7 H7 e7 pv7 => ?_
      rw [im_int pv7, show wV ms ++ [V.int ((mk.getD r 0 : Nat) : Int)] = wV (ms ++ [mk.getD r 0]) from by rw [wV_app]; rfl]
      have e67 := e6.trans e7
      have kt7 : Kt H7 (upd H7 l (.lst (wV (ms ++ [mk.getD r 0])))) := Kt.upd (Kt.refl _) (e67 _ _ hL) fun _ z => nomatch z
      have hM7 : upd H7 l (.lst (wV (ms ++ [mk.getD r 0]))) m = some (.lst ys) := by rw [upd_ne nml]; exact e67 _ _ hM
      have ee7 : Ex H (upd H7 l (.lst (wV (ms ++ [mk.getD r 0])))) := Ex.mut (e.trans e67) zl
      have ff7 : Ex H2 (upd H7 l (.lst (wV (ms ++ [mk.getD r 0])))) := Ex.mut (f2.trans e67) zl2
      have rowl := (O.wr _ (getD_mem (d := []) rl)).1
      have hy7 : ∃ rs : List PyData, rs.length = L ∧ (∀ (q : Nat), q < L → ∃ o, hs[stp g r q]? = some o ∧ rs[q]? = some (oN o)) ∧ ptAll rs = true := by
        refine ⟨(List.range L).map fun q => oN (hs.getD (stp g r q) none), by rw [List.length_map, List.length_range], fun q hq => ⟨hs.getD (stp g r q) none, get_cell (by rw [hsl]; exact O.stp_lt rl hq), by rw [List.getElem?_map, List.getElem?_range hq]; rfl⟩, ptAll_of fun d hd => by
          obtain ⟨n, _, rfl⟩ := List.mem_map.mp hd
          exact pt_oN _⟩
      obtain ⟨rs, rsl, rsg, rsp⟩ := hy7
      have hx7 := (hx.kt ((ex_kt e67).trans kt7) (by simp only [pt]))
      refine k_app hM7 (v_var rfl) (d_tupOf (K := K) (EvF.toL (c_T (K := K) (d_wayrow (K := K) O rl (d_var rfl (h1.ex ee7)) (d_var rfl hx7)) (rs := rs) (by rw [rsl, List.length_map, rowl]) (by rw [List.length_map, rowl]; omega) (fun _ => rfl) (fun _ _ _ _ _ _ _ => t_yes) (fun q dd rr x H8 e8 hd hr' hx => ?_)))) (by omega) fun v9 H9 e9 pv9 => ?_
      · obtain ⟨n, hn, rfl⟩ := map_get hd
        have hq : q < L := by have := (List.getElem?_eq_some_iff.mp hn).1; omega
        have en : n = stp g r q := by
          unfold stp
          rw [List.getD_eq_getElem?_getD (l := g.ways.getD r []), hn]
          rfl
        obtain ⟨o, ho, hq2⟩ := rsg q hq
        rw [hq2] at hr'
        cases hr'
        subst en
        exact (d_ixO (K := K) (d_var rfl ((h2.ex ff7).ex e8)) (d_var rfl hx) ho).toG (pt_oN o)
      · have kt9 : Kt H9 (upd H9 m (.lst (ys ++ [v9]))) := Kt.upd (Kt.refl _) (e9 _ _ hM7) fun _ z => nomatch z
        have ktA : Kt H' (upd H9 m (.lst (ys ++ [v9]))) := (((ex_kt e67).trans kt7).trans (ex_kt e9)).trans kt9
        refine ⟨Ex.mut (ee7.trans e9) zm, Ex.mut (ff7.trans e9) zm2, kt.trans ktA, ?_, ⟨ms ++ [mk.getD r 0], wys ++ [.tuple rs], ys ++ [v9], ?_, upd_same, ?_, ?_, ?_, ?_, ?_⟩, _, _, rfl⟩
        · rw [upd_ne nam]
          refine e9 _ _ ?_
          rw [upd_ne nal]
          exact e67 _ _ hA
        · rw [upd_ne nml.symm]
          exact e9 _ _ upd_same
        · exact (hI.kt ktA hpt).app (ImAll.one (Im.kt (d := .tuple rs) pv9 kt9 (by simp only [pt]; exact rsp)))
        · rw [ptAll_append, hpt]
          simp only [pt, ptAll, rsp, Bool.and_self]
        · rw [List.length_append, List.length_singleton]; omega
        · rw [List.length_append, List.length_singleton, take_snoc hri, List.map_append, List.map_singleton, uniq_len_snoc, if_neg hnn, hml]
        · intro x hx
          rcases List.mem_append.mp hx with q | q
          · exact hmm x q
          · rw [List.mem_singleton.mp q]
            exact getD_mem (by rw [ml]; exact rl)
    · have hnn : c r ∈ ((rooms L g).take i).map c := by
        apply Classical.byContradiction
        intro q
        have h := hnew.mpr q
        have := of_decide_eq_false hb
        omega
      refine ⟨e.trans e6, f2.trans e6, kt.trans (ex_kt e6), e6 _ _ hA, ⟨ms, wys, ys, e6 _ _ hL, e6 _ _ hM, hI.ex e6, hpt, by omega, ?_, hmm⟩, _, _, rfl⟩
      rw [take_snoc hri, List.map_append, List.map_singleton, uniq_len_snoc, if_pos hnn, hml]
      rfl
  · rintro σ' H' ⟨e, f2, kt, hA, ⟨ms, wys, ys, hL, hM, hI, hpt, hyl, hml, hmm⟩, o4, o5, rfl⟩
    rw [List.length_map, List.take_length] at hml
    refine k_ret (d_tup (ds := [nD L, wD ms, .tuple wys]) (a_d (d_ixT (K := K) (d_var rfl (h1.ex e)) (d_int (i := 0)) (at_nat (i := 0) rfl)) (a_d (d_tupOf (K := K) (d_var rfl (.lst hL (imAll_wV _)))) (a_d (d_tupOf (K := K) (d_var rfl (.lst hM hI))) a_nil))) (by show 3 ≤ 100000; decide)) fun v H7 e7 pv => ?_
    exact k v H7 (e.trans e7) ⟨ms, wys, pv, ⟨c, C, hml⟩, hmm⟩
/-! ### marked_rows -/
def sp_marked : Sp := fun vs H Q _ => ∃ (L : Nat) (g : House) (d : Addr) (v : V), (Ok L g ∧ g.ways.length ≤ 10 ∧ L ≤ 6) ∧ vs = [v, .ref d] ∧ Im H (hD L g) v ∧ H d = some (.dT []) ∧ ∀ v' H', Fd d H H' → H' d = some (.dT (encU fR 0 (uniq g.says))) → Im H' (mhD L (nums g.says) g.ways) v' → Q v' H'
theorem ok_marked_rows (T : All K mg CB CA) : Df P w K mg base 1 "marked_rows" ["house", "codes"] sp_marked := by
  refine T.t_marked_rows.ok sc_marked_rows (fun vs H Q E h => by obtain ⟨_, _, _, _, _, rfl, _⟩ := h; rfl) (fun f cdv A outer s H vs Q E hr h => ?_)
  obtain ⟨L, g, d, v1, ⟨O, b1, l6⟩, rfl, h1, hd, k⟩ := h
  refine ⟨_, (pss_cons (ps_set (i := 2) sc_marked_rows.nd rfl (.inl rfl) (pe_lst pa_nil)) (pss_cons (ps_for PassesOwn.never rfl (pi_tup (pe_ix ix_tup (pv 0) pe_int (fun _ _ => rfl))) (pg_name (i := 3) sc_marked_rows.nd rfl (.inl rfl)) (pss_cons (ps_if (pt_cmp (pc_dnotin (hu_of hr) (pv 3) (pv 1))) (pss_one (ps_dput (hu_of hr) (pv 1) (pv 3) (pe_callB call_len_dT (by rfl) T.b_len PySem.boot_len (pa_cons (pv 1) pa_nil)) rfl)) pss_nil) (pss_one (ps_expr (pe_bm PySem.F.plainAttrs_list PySem.F.slot_list_append PySem.F.type_list_append mt_append (pv 2) (pa_cons (pe_dget (hu_of hr) (pv 1) (pv 3) (fun _ _ => rfl)) pa_nil)))))) (pss_one (ps_ret (pe_tup (pa_cons (pe_ix ix_tup (pv 0) pe_int (fun _ _ => rfl)) (pa_cons (pe_callTy call_tuple_of (by rfl) T.b_tuple (by decide +kernel) (pa_cons (pv 2) pa_nil)) (pa_cons (pe_ix ix_tup (pv 0) pe_int (fun _ _ => rfl)) pa_nil)))))))), ?_⟩
  have sl : g.says.length = g.ways.length := O.sl
  refine q_asgF f_nil fun l H2 xs l0 e2 hl hx => ?_
  have nld : l ≠ d := fun q => by rw [q, hd] at l0; cases l0
  have hd2 := e2 _ _ hd
  refine q_forT (d_ixT (K := K) (d_var rfl (h1.ex e2)) (d_int (i := 1)) (at_nat (i := 1) (x := PyData.tuple (g.says.map iD)) rfl)) (ptAll_is g.says) fun H3 e3 => ⟨fun i σ' H' => Fd d H H' ∧ Kt H3 H' ∧ H' d = some (.dT (encU fR 0 (uniq (g.says.take i)))) ∧ H' l = some (.lst (wV (nums (g.says.take i)))) ∧ ∃ o, σ' = [some v1, some (.ref d), some (.ref l), o],
    ⟨fd_ex (e2.trans e3), Kt.refl _, e3 _ _ hd2, by rw [e3 _ _ hl, imAll_nat (w := []) hx]; rfl, _, rfl⟩, fun i σ' H' p => p.2.1, ?_, ?_⟩
  · rintro i dd x σ' H' hdd hx ⟨f, kt, hDd, hL, o, rfl⟩
    obtain ⟨n, hn, rfl⟩ := map_get hdd
    have il := (List.getElem?_eq_some_iff.mp hn).1
    have ul := uniq_len_le (g.says.take i)
    rw [List.length_take] at ul
    refine learnR hDd (v_var rfl) (d_var rfl hx) (by omega) fun H4 f4 hD4 => ?_
    have hL4 := f4 _ _ nld hL
    have kt4 : Kt H' H4 := f4.kt hDd fun _ z => nomatch z
    have hk : uniq (g.says.take (i + 1)) = ins (uniq (g.says.take i)) n := by rw [take_snoc hn, uniq_snoc]
    rw [← hk] at hD4
    refine k_app hL4 (v_var rfl) (lookR hD4 (v_var rfl) (d_var rfl (hx.kt kt4 (pt_iD _))) (uniq_mem.mpr (by rw [take_snoc hn]; exact List.mem_append_right _ (List.mem_singleton.mpr rfl)))) (by rw [List.length_map, nums_len, List.length_take]; omega) fun v5 H5 e5 pv5 => ?_
    have kt5 : Kt H5 (upd H5 l (.lst (wV (nums (g.says.take i)) ++ [v5]))) := Kt.upd (Kt.refl _) (e5 _ _ hL4) fun _ z => nomatch z
    refine ⟨?_, ((kt.trans kt4).trans (ex_kt e5)).trans kt5, by rw [upd_ne nld.symm]; exact e5 _ _ hD4, ?_, _, rfl⟩
    · intro b o hb q
      have nb : b ≠ l := ne_of_none q l0
      rw [upd_ne nb]
      exact e5 _ _ (f4 _ _ hb (f _ _ hb q))
    rw [upd_same, take_snoc hn, nums_snoc, wV_app, im_int pv5, ← take_snoc hn]
    rfl
  · rintro σ' H' ⟨f, kt, hDd, hL, o, rfl⟩
    rw [List.length_map, List.take_length] at hL hDd
    have kH : Kt H H' := f.kt hd fun _ z => nomatch z
    have h1' : Im H' (hD L g) v1 := h1.kt kH (pt_hD L g)
    refine k_ret (d_tup (ds := [nD L, wD (nums g.says), .tuple (g.ways.map wD)]) (a_d (d_ixT (K := K) (d_var rfl h1') (d_int (i := 0)) (at_nat (i := 0) rfl)) (a_d (d_tupOf (K := K) (d_var rfl (.lst hL (imAll_wV _)))) (a_d (d_ixT (K := K) (d_var rfl h1') (d_int (i := 2)) (at_nat (i := 2) rfl)) a_nil))) (by show 3 ≤ 100000; decide)) fun v H7 e7 pv => ?_
    exact k v H7 (fun b o hb q => e7 _ _ (f b o hb q)) (e7 _ _ hDd) pv
end
end Gr
end
section
set_option maxRecDepth 100000
set_option maxHeartbeats 4000000
/-! Rules that the kit lacks: the items and keys of a dict whose keys are tuples. -/
namespace Gr
open PySem PySem.Spec PyProof.Rows L2
section
variable {X : Cx} {pins : List (Addr × Obj)} {σ : L2.St} {H : Hp} {s : Shared} {d : Addr} {o : Obj}
theorem dt_at {kvs : List (List L2.Key × V)} (ok : ObjOk X.prog X.w H s.heap d (.dT kvs)) : (d == sysModules) = false ∧ kvs.length ≤ sizeLine ∧ ∃ (o : Obj) (es : Array DictEntry) (ep : Nat), s.heap.get? d = some o ∧ o.ExactDict ∧ o.data = .dict es ep ∧ es.size = kvs.length ∧
    ∀ (i : Nat) (k : List L2.Key) (v : V), kvs[i]? = some (k, v) → ∃ (en : DictEntry) (q : Addr), es[i]? = some en ∧ en.key = .ref q ∧ H q = some (.tup (k.map kV)) ∧ RelV v en.val := by
  obtain ⟨z, hs, xs, pr, o', es, ep, ho, hx, hdt, he, _⟩ := ok
  refine ⟨hs, z, o', es, ep, ho, hx, hdt, ?_, fun i k v e => ?_⟩
  · have l1 : es.size = xs.length := size_of_entries he
    have l2 : kvs.length = xs.length := Paired.length pr
    omega
  · obtain ⟨b, hb, e1, e2, e3⟩ := paired_get pr e
    have q := entry_at he i
    rw [hb] at q
    exact ⟨_, b.2.1, q, rfl, e2, e3⟩
theorem frzT2 {kvs : List (List L2.Key × V)} (I : L2.Inv X pins σ H s) (h : H d = some (.frz o (.dT kvs))) :
    (d == sysModules) = false ∧ s.heap.get? d = some o ∧ o.ExactDict ∧ ∃ (es : Array DictEntry) (ep : Nat), o.data = .dict es ep ∧ es.size = kvs.length ∧
      ∀ (i : Nat) (k : List L2.Key) (v : V), kvs[i]? = some (k, v) → ∃ (en : DictEntry) (q : Addr), es[i]? = some en ∧ en.key = .ref q ∧ H q = some (.tup (k.map kV)) ∧ RelV v en.val := by
  obtain ⟨hd, ok⟩ := I.hok d _ h
  obtain ⟨hs, _, o', es, ep, ho, hx, hdt, hsz, ent⟩ := dt_at ok
  rw [hd] at ho
  cases ho
  exact ⟨hs, hd, hx, es, ep, hdt, hsz, ent⟩
end
/-- the pairs of a locked dict with tuple keys, each a new tuple -/
def ItT (d : Addr) (o : Obj) (kvs : List (List L2.Key × V)) : It :=
  ⟨fun i H => H d = some (.frz o (.dT kvs)) ∧ i < kvs.length, fun i H x H' => ∃ (T : Addr) (k : List L2.Key) (v : V) (q : Addr), kvs[i]? = some (k, v) ∧ x = .ref T ∧ H T = none ∧ H' = upd H T (.tup [.ref q, v]) ∧ H q = some (.tup (k.map kV)), fun i H => H d = some (.frz o (.dT kvs)) ∧ kvs.length ≤ i⟩
theorem turn_itemsT {P : Program} {w : World} {K : PySem.W.Frag} {d : Addr} {o : Obj} {es : Array DictEntry} {ep : Nat} {kvs : List (List L2.Key × V)} {elts : List Expr} {kk : Nat} {tpos : Pos} (it : Addr) (hod : o.data = .dict es ep) :
    Turn P w K (.Tuple elts kk tpos) (ItT d o kvs) [it] it (fun i h => ∃ ok ov, IsItemIter h it d i kvs.length ep ok ov) where
  mem := by simp
  obj := fun i h st b hb => by
    have e : b = it := by simpa using hb
    subst e
    obtain ⟨ok, ov, e⟩ := st
    exact ⟨_, e, fun v z => nomatch z⟩
  keep := fun i h h' st k => let ⟨ok, ov, e⟩ := st; ⟨ok, ov, k it (by simp) _ e⟩
  item := by
    intro X hP hw hK hc i pins s σ H E I hf st hg
    subst hP hw hK
    obtain ⟨hd, hi⟩ := hg
    obtain ⟨hs, hgd, hx, es', ep', hdt, hsz, ent⟩ := frzT2 I hd
    obtain ⟨rfl, rfl⟩ := dict_ep hod hdt
    obtain ⟨⟨k, v⟩, hkv⟩ : ∃ p, kvs[i]? = some p := ⟨kvs[i], List.getElem?_eq_getElem hi⟩
    obtain ⟨en, q, hen, hkey, hq, hval⟩ := ent i k v hkv
    obtain ⟨ok, ov, he⟩ := st
    rw [← hsz] at he
    have hlt : it < s.heap.objs.size := Heap.lt_size he
    have hi' : i < es'.size := by omega
    have een : es'[i] = en := by
      have := Array.getElem?_eq_getElem hi'
      rw [hen] at this
      exact (Option.some.inj this).symm
    refine DT.nextI he ⟨o, hgd, hx, hdt⟩ hi' fun h' ho hT hz hk => ?_
    rw [een] at ho hT
    refine ⟨_, rfl, wpAny_letOwnedTupleGo_items (s := { s with heap := h' }) ho fun h'' he' sb => ?_⟩
    have hT2 : h''.get? s.heap.objs.size = some { cls := .type "tuple", data := .seq #[en.key, en.val] } := (sb.2 _ (Nat.ne_of_gt hlt)).trans hT
    have new : ObjOk X.prog X.w (upd H s.heap.objs.size (.tup [.ref q, v])) h'' s.heap.objs.size (.tup [.ref q, v]) :=
      ⟨by show 2 ≤ sizeLine; decide, [en.key, en.val], .cons hkey (.cons hval .nil), ⟨_, hT2, rfl, _, rfl⟩⟩
    have I1 : L2.Inv X pins σ (upd H s.heap.objs.size (.tup [.ref q, v])) { s with heap := h'' } :=
      I.turnedNew (t' := s.toks) (ch := [it]) (fun b ob hb e => (sb.2 b (by simpa using hb)).trans (hk b ob (by simpa using hb) e)) hf (Nat.le_refl _) new
    refine ⟨.ref s.heap.objs.size, _, I1, rfl, ⟨_, k, v, q, hkv, rfl, I.hok.fresh (Nat.le_refl _), rfl, hq⟩, ⟨en.key, en.val, ?_⟩, fun b hb => ?_⟩
    · rw [← hsz]; exact he'
    · have e : b = it := by simpa using hb
      rw [e, upd_ne (Nat.ne_of_lt hlt)]
      exact (hf it (by simp)).1
  done := by
    intro X hP hw hK hc i pins s σ H E I hf st hg
    subst hP hw hK
    obtain ⟨hd, hi⟩ := hg
    obtain ⟨f0, f1, f2, f3, f4, f5⟩ := hf it (by simp)
    obtain ⟨hs, hgd, hx, es', ep', hdt, hsz, ent⟩ := frzT2 I hd
    obtain ⟨rfl, rfl⟩ := dict_ep hod hdt
    obtain ⟨ok, ov, he⟩ := st
    rw [← hsz] at he
    exact DT.endI (I.ok.hd hc) he ⟨o, hgd, hx, hdt⟩ (by omega) fun h' eb => ⟨rfl, I.turned (t' := s.toks) (fun b ob hb e => eb b ob hb e) f0 f1 f3 f4 f5⟩
  self := fun A i s Q E st h => let ⟨_, _, e⟩ := st; PySem.W.kcp_self e h
def iItemsT (td : TE) : TI := fun σ H R => td σ H fun x H1 => ∃ d o kvs, x = .ref d ∧ H1 d = some (.frz o (.dT kvs)) ∧ R (ItT d o kvs) H1
section
variable {X : Cx} {e : Expr} {td te : TE} {p apos cpos pos : Pos}
theorem pi_itemsT {elts : List Expr} {kk : Nat} {tpos : Pos} (he : PE X e td) (hbase : attributeBase e "items" X.env (eval e X.env) = eval e X.env := by rfl) (hline : (apos.endLine == cpos.line) = true := by rfl) :
    PI X (.Tuple elts kk tpos) (.Call (.Attribute e "items" apos) [] [] cpos) (iItemsT td) := by
  refine ⟨fun pins s σ H R I h => ?_⟩
  refine wpAny_Call_method (T := "dict") (id := "dict.items") hbase rfl hline F.plainAttrs_dict F.slot_dict_items F.type_dict_items (thn (he.run pins s σ H _ I h) fun u s1 ⟨x, H1, I1, rx, d, o, kvs, ex, hd, q⟩ => ?_)
  subst ex
  obtain rfl : u = Value.ref d := rx
  obtain ⟨hs, hgd, hx, es, ep, hdt, hsz, ent⟩ := frzT2 I1 hd
  have raw : DT.Raw s1.heap d es ep := ⟨o, hgd, hx, hdt⟩
  refine ⟨raw.typeIs, fun a e => by cases e; exact ⟨o, hgd, hx.2.1⟩, ?_⟩
  have I2 : L2.Inv X pins σ H1 { s1 with heap := s1.heap.push { cls := .type "dict_items", data := .fields #[.ref d] } } := I1.kept (t' := s1.toks) fun b ob q => Heap.get?_push_of_some _ q
  have fin : wpAny (model X.prog X.w) X.A (pyIter (.ref s1.heap.objs.size)) (PIE X pins σ (.Tuple elts kk tpos) R) X.xe { s1 with heap := s1.heap.push { cls := .type "dict_items", data := .fields #[.ref d] } } := by
    refine DT.iterI (d := d) (es := es) (ep := ep) ⟨_, Heap.get?_push_size _ rfl, rfl, rfl⟩ (raw.push _) (pi_one (tk := s1.toks) I2 _ (turn_itemsT _ hdt) ⟨.none, .none, ?_⟩ q)
    rw [← hsz]
    exact Heap.get?_push_size _ rfl
  show wpAny _ _ (callWith cpos (.builtin "dict.items") [.ref d] [] []) _ X.xe s1
  exact method_meetsIn F.slot_dict_items F.entry_dict_items rfl (PySem.evalArgs_none ⟨rfl, raw.typeIs, F.args_dict_items_1 _, _, DT.meetsItems (es := es) (ep := ep) hs, raw, fin⟩)
/-! list(d.items()) -/
def rItemsLT : V → Hp → VK → Prop := fun x H Q => ∃ (d : Addr) (kvs : List (List L2.Key × V)), x = .ref d ∧ Rd H d (.dT kvs) ∧
  ∀ (H' : Hp) (p : Addr) (ts : List Addr), (∀ b o, H b = some o → H' b = some o) → H p = none → H' p = some (.lst (ts.map V.ref)) → ts.length = kvs.length →
    (∀ (i : Nat) (k : List L2.Key) (v : V), kvs[i]? = some (k, v) → ∃ t q, ts[i]? = some t ∧ H' t = some (.tup [.ref q, v]) ∧ H' q = some (.tup (k.map kV))) → Q (.ref p) H'
def tItemsLT (te : TE) : TE := fun σ H Q => te σ H fun x H1 => rItemsLT x H1 Q
theorem pe_list_items (hc : X.calm = true) (he : PE X e te) (hg : Gl X "list") (hm : X.mg "list" = none) (hv : bootBuiltins "list" = some (.type "list")) (hbase : attributeBase e "items" X.env (eval e X.env) = eval e X.env := by rfl) (hline : (apos.endLine == cpos.line) = true := by rfl)
    (hs : starEach [.Call (.Attribute e "items" apos) [] [] cpos] X.env = (false, eval (.Call (.Attribute e "items" apos) [] [] cpos) X.env) :: starEach [] X.env := by rfl) :
    PE X (.Call (.Name "list" p) [.Call (.Attribute e "items" apos) [] [] cpos] [] pos) (tItemsLT te) := by
  refine ⟨fun pins s σ H Q I hq => ?_⟩
  refine wpAny_Call_Name_kw (ld_blt I hg hm hv ?_)
  refine PyProof.Rows.callWith_type1 ?_ hs rfl
  rw [hs]
  show wpAny _ _ (spliced ((false, eval (.Call (.Attribute e "items" apos) [] [] cpos) X.env) :: backTo pos (starEach [] X.env))) _ _ s
  refine Calls.spliced_cons ?_
  refine wpAny_Call_method (T := "dict") (id := "dict.items") hbase rfl hline F.plainAttrs_dict F.slot_dict_items F.type_dict_items (thn (he.run pins s σ H _ I hq) fun u s1 ⟨x, H1, I1, rx, d, kvs, ex, hd, q⟩ => ?_)
  subst ex
  obtain rfl : u = Value.ref d := rx
  obtain ⟨hs0, hz, o, es, ep, hgd, hx, hdt, hsz, ent⟩ := dt_at (rd_of I1.hok hd)
  have raw : DT.Raw s1.heap d es ep := ⟨o, hgd, hx, hdt⟩
  have I2 : L2.Inv X pins σ H1 { s1 with heap := s1.heap.push { cls := .type "dict_items", data := .fields #[.ref d] } } := I1.kept (t' := s1.toks) fun b ob q => Heap.get?_push_of_some _ q
  refine ⟨raw.typeIs, fun a e => by cases e; exact ⟨o, hgd, hx.2.1⟩, ?_⟩
  show wpAny _ _ (callWith cpos (.builtin "dict.items") [.ref d] [] []) _ X.xe s1
  refine method_meetsIn F.slot_dict_items F.entry_dict_items rfl (PySem.evalArgs_none ⟨rfl, raw.typeIs, F.args_dict_items_1 _, _, DT.meetsItems (es := es) (ep := ep) hs0, raw, ?_⟩)
  refine Calls.spliced_nil ?_
  refine PySem.W.dil_call (es := es) (ep := ep) (I1.ok.hd hc) ⟨_, Heap.get?_push_size _ rfl, rfl, rfl⟩ (raw.push _) (by omega) fun h' tk acc c as hk hS hl hG hacc => ?_
  have I3 : L2.Inv X pins σ H1 { s1 with heap := h', toks := tk } := I2.kept (t' := tk) hk
  have hlen : (as.map V.ref).length ≤ sizeLine := by rw [List.length_map]; omega
  have hSn := I2.hok.fresh (Nat.le_refl _)
  have rv : Vals (as.map V.ref) acc.toList := by rw [hacc]; exact LiI.vals_refs as
  have I4 := I3.take (o := .lst (as.map V.ref)) (h' := h') (t' := tk) (fun b ob _ e => e) (I2.fpOk (Nat.le_refl _) hSn) ⟨hlen, acc.toList, c, rv, by rw [Array.toArray_toList]; exact hS⟩
  have nd : as.Nodup := List.Pairwise.imp (fun {a b} (h : a < b) => Nat.ne_of_lt h) hG.rise
  obtain ⟨H2, I5, g, qt⟩ := L2.DX.takeT (P := fun b vs => ∃ (j : Nat) (k : List L2.Key) (v : V) (kq : Addr), as[j]? = some b ∧ kvs[j]? = some (k, v) ∧ vs = [.ref kq, v] ∧ H1 kq = some (.tup (k.map kV))) I2 as _ I4 nd fun b hb => by
    obtain ⟨j, hj⟩ := List.mem_iff_getElem?.mp hb
    obtain ⟨hj1, hT⟩ := hG.pairs j b hj
    have hjk : j < kvs.length := by omega
    obtain ⟨⟨k, v⟩, hkv⟩ : ∃ p, kvs[j]? = some p := ⟨kvs[j], List.getElem?_eq_getElem hjk⟩
    obtain ⟨en, kq, hen, hkey, hq', hval⟩ := ent j k v hkv
    have een : es[j] = en := by
      have := Array.getElem?_eq_getElem hj1
      rw [hen] at this
      exact (Option.some.inj this).symm
    rw [een] at hT
    have hab := hG.above b hb
    refine ⟨Nat.le_of_lt hab, ?_, [.ref kq, v], ⟨j, k, v, kq, hj, hkv, rfl, hq'⟩, fun H3 => ⟨by show 2 ≤ sizeLine; decide, [en.key, en.val], .cons hkey (.cons hval .nil), ⟨_, hT, rfl, _, rfl⟩⟩⟩
    rw [upd_ne (Nat.ne_of_gt hab)]
    exact I2.hok.fresh (Nat.le_of_lt hab)
  have gr : ∀ b o, H1 b = some o → H2 b = some o := fun b o e => g b o (by rw [upd_ne (ne_of_none e hSn)]; exact e)
  refine ⟨.ref _, H2, I5, rfl, q H2 _ as gr hSn (g _ _ upd_same) (by omega) fun i k v hkv => ?_⟩
  have hi : i < as.length := by have := (List.getElem?_eq_some_iff.mp hkv).1; omega
  have hai : as[i]? = some as[i] := List.getElem?_eq_getElem hi
  obtain ⟨vs, ⟨j, k', v', kq, hj, hkv', ev, hkq⟩, hH⟩ := qt _ (List.getElem_mem hi)
  have eij : i = j := (List.getElem?_inj hi nd).mp (hai.trans hj.symm)
  subst eij
  rw [hkv] at hkv'
  cases hkv'
  subst ev
  exact ⟨_, kq, hai, hH, gr _ _ hkq⟩
/-! list(d.keys()) -/
def rKeysLT : V → Hp → VK → Prop := fun x H Q => ∃ (d : Addr) (kvs : List (List L2.Key × V)), x = .ref d ∧ Rd H d (.dT kvs) ∧
  ∀ (p : Addr) (bs : List Addr), H p = none → bs.length = kvs.length → (∀ (i : Nat) (k : List L2.Key) (v : V), kvs[i]? = some (k, v) → ∃ b, bs[i]? = some b ∧ H b = some (.tup (k.map kV))) → Q (.ref p) (upd H p (.lst (bs.map V.ref)))
def tKeysLT (te : TE) : TE := fun σ H Q => te σ H fun x H1 => rKeysLT x H1 Q
section
variable {prog : Program} {w : World}
theorem meetsKeysT {d : Addr} {es : Array DictEntry} {ep : Nat} {s : Shared} (hd : (d == sysModules) = false) :
    MeetsIn prog w (Builtin.«dict.keys» ⟨[.ref d], []⟩) (fun _ R s => DT.Raw s.heap d es ep ∧
      R (.ok (.ret (.ref s.heap.objs.size))) { s with heap := s.heap.push { cls := .type "dict_keys", data := .fields #[.ref d] } }) :=
  .of_wp fun A R s ⟨hm, h⟩ => by
    unfold Builtin.«dict.keys»
    refine wpAny_bind ?_
    unfold Builtin.Dict.noArgs
    refine wpAny_bind (wpAny_notOrdered_dict hm.typeIs ?_)
    show wpAny _ _ (pure d) _ _ s
    refine wpAny_pure ?_
    show wpAny _ _ (Builtin.Dict.showsAll d >>= _) _ _ s
    unfold Builtin.Dict.showsAll
    rw [if_neg (by rw [hd]; exact Bool.false_ne_true)]
    refine wpAny_bind (wpAny_pure ?_)
    exact wpAny_bind (wpAny_newObj_type (wpAny_pure ⟨_, rfl, h⟩))
end
theorem pe_list_keys (hc : X.calm = true) (he : PE X e te) (hg : Gl X "list") (hm : X.mg "list" = none) (hv : bootBuiltins "list" = some (.type "list")) (hbase : attributeBase e "keys" X.env (eval e X.env) = eval e X.env := by rfl) (hline : (apos.endLine == cpos.line) = true := by rfl)
    (hs : starEach [.Call (.Attribute e "keys" apos) [] [] cpos] X.env = (false, eval (.Call (.Attribute e "keys" apos) [] [] cpos) X.env) :: starEach [] X.env := by rfl) :
    PE X (.Call (.Name "list" p) [.Call (.Attribute e "keys" apos) [] [] cpos] [] pos) (tKeysLT te) := by
  refine ⟨fun pins s σ H Q I hq => ?_⟩
  refine wpAny_Call_Name_kw (ld_blt I hg hm hv ?_)
  refine PyProof.Rows.callWith_type1 ?_ hs rfl
  rw [hs]
  show wpAny _ _ (spliced ((false, eval (.Call (.Attribute e "keys" apos) [] [] cpos) X.env) :: backTo pos (starEach [] X.env))) _ _ s
  refine Calls.spliced_cons ?_
  refine wpAny_Call_method (T := "dict") (id := "dict.keys") hbase rfl hline F.plainAttrs_dict F.slot_dict_keys F.type_dict_keys (thn (he.run pins s σ H _ I hq) fun u s1 ⟨x, H1, I1, rx, d, kvs, ex, hd, q⟩ => ?_)
  subst ex
  obtain rfl : u = Value.ref d := rx
  obtain ⟨hs0, hz, o, es, ep, hgd, hx, hdt, hsz, ent⟩ := dt_at (rd_of I1.hok hd)
  have raw : DT.Raw s1.heap d es ep := ⟨o, hgd, hx, hdt⟩
  have I2 : L2.Inv X pins σ H1 { s1 with heap := s1.heap.push { cls := .type "dict_keys", data := .fields #[.ref d] } } := I1.kept (t' := s1.toks) fun b ob q => Heap.get?_push_of_some _ q
  refine ⟨raw.typeIs, fun a e => by cases e; exact ⟨o, hgd, hx.2.1⟩, ?_⟩
  show wpAny _ _ (callWith cpos (.builtin "dict.keys") [.ref d] [] []) _ X.xe s1
  refine method_meetsIn F.slot_dict_keys F.entry_dict_keys rfl (PySem.evalArgs_none ⟨rfl, raw.typeIs, F.args_dict_keys_1 _, _, meetsKeysT (s := s1) (es := es) (ep := ep) hs0, raw, ?_⟩)
  refine Calls.spliced_nil ?_
  refine PySem.W.kdl_call (KdlSrc.rawKeys (r := s1.heap.objs.size) (d := d) (es := es) (ep := ep)) (I1.ok.hd hc) ⟨⟨_, Heap.get?_push_size _ rfl, rfl, rfl⟩, raw.push _⟩ (by omega) fun h' tk acc' c' kp e it => ?_
  -- the key of each entry
  have kx : ∀ i : Nat, i < kvs.length → ∃ (b : Addr), acc'.toList[i]? = some (.ref b) ∧ ∀ k v, kvs[i]? = some (k, v) → H1 b = some (.tup (k.map kV)) := fun i hi => by
    obtain ⟨⟨k, v⟩, hkv⟩ : ∃ p, kvs[i]? = some p := ⟨kvs[i], List.getElem?_eq_getElem hi⟩
    obtain ⟨en, kq, hen, hkey, hq', hval⟩ := ent i k v hkv
    have hl : i < acc'.size := by rw [it.1]; omega
    obtain ⟨hi2, hv⟩ := it.2 i _ (Array.getElem?_eq_getElem hl)
    have een : es[i] = en := by
      have := Array.getElem?_eq_getElem hi2
      rw [hen] at this
      exact (Option.some.inj this).symm
    refine ⟨kq, ?_, fun k' v' h => ?_⟩
    · rw [Array.getElem?_toList, Array.getElem?_eq_getElem hl, hv, een, hkey]
    · rw [hkv] at h
      cases h
      exact hq'
  have bsx : ∃ bs : List Addr, acc'.toList = bs.map Value.ref ∧ bs.length = kvs.length ∧ ∀ (i : Nat) (k : List L2.Key) (v : V), kvs[i]? = some (k, v) → ∃ b, bs[i]? = some b ∧ H1 b = some (.tup (k.map kV)) := by
    have ll : acc'.toList.length = kvs.length := by rw [Array.length_toList, it.1]; exact hsz
    refine ⟨acc'.toList.map fun v => match v with | .ref b => b | _ => 0, ?_, by rw [List.length_map, ll], fun i k v hkv => ?_⟩
    · apply List.ext_getElem?
      intro i
      rw [List.map_map, List.getElem?_map]
      rcases Nat.lt_or_ge i kvs.length with hi | hi
      · obtain ⟨b, hb, _⟩ := kx i hi
        rw [hb]
        rfl
      · rw [List.getElem?_eq_none (by omega)]
        rfl
    · obtain ⟨b, hb, hk⟩ := kx i (List.getElem?_eq_some_iff.mp hkv).1
      refine ⟨b, ?_, hk k v hkv⟩
      rw [List.getElem?_map, hb]
      rfl
  obtain ⟨bs, eb, lb, hb⟩ := bsx
  have rv : Vals (bs.map V.ref) acc'.toList := by rw [eb]; exact LiI.vals_refs _
  have hlen : (bs.map V.ref).length ≤ sizeLine := by rw [List.length_map]; omega
  refine ⟨.ref _, _, I2.laid (t' := tk) (o := .lst (bs.map V.ref)) kp (Nat.le_refl _) ?_, rfl, q _ bs (I2.hok.fresh (Nat.le_refl _)) lb hb⟩
  exact ⟨hlen, acc'.toList, c', rv, by rw [Array.toArray_toList]; exact e⟩
end
end Gr
end
section
set_option maxRecDepth 100000
set_option maxHeartbeats 4000000
namespace Gr
open PySem L2 PySem.Spec PyProof.Rows Evl
theorem imAll_of {H : Hp} : ∀ {ds : List PyData} {vs : List V}, ds.length = vs.length → (∀ (i : Nat) d v, ds[i]? = some d → vs[i]? = some v → Im H d v) → ImAll H ds vs
  | [], [], _, _ => .nil
  | [], _ :: _, h, _ => by cases h
  | _ :: _, [], h, _ => by cases h
  | d :: ds, v :: vs, h, k => .cons (k 0 d v rfl rfl) (imAll_of (Nat.succ.inj h) fun i d v h1 h2 => k (i + 1) d v h1 h2)
theorem encU_get {κ κ' : Type} (f : κ → κ') : ∀ (us : List κ) (n i : Nat), (encU f n us)[i]? = us[i]?.map fun k => (f k, V.int ((n + i : Nat) : Int))
  | [], _, _ => rfl
  | u :: us, n, 0 => rfl
  | u :: us, n, i + 1 => by
    show (encU f (n + 1) us)[i]? = us[i]?.map _
    rw [encU_get f us (n + 1) i, show n + 1 + i = n + (i + 1) by omega]
section
variable {P : Program} {w : World} {K : PySem.W.Frag} {mg : Str → Option Value} {base : Heap} {CB CA : Addr}
/-! ### says_least -/
def sp_says_least : Sp := PurSp (α := Nat × House) (fun x => Ok x.1 x.2 ∧ x.2.ways.length ≤ 10 ∧ x.1 ≤ 6) (fun x => [isD (hD x.1 x.2)]) (fun x v H => ∃ (sy : List PyData) (wy : PyData), Im H (.tuple [nD x.1, .tuple sy, wy]) v ∧ NOf x.1 x.2 sy.length)
theorem ok_says_least (T : All K mg CB CA) (D_least : Df P w K mg base 4 "least" ["house"] sp_least) (D_marked_rows : Df P w K mg base 1 "marked_rows" ["house", "codes"] sp_marked) : Df P w K mg base 5 "says_least" ["house"] sp_says_least := by
  refine T.t_says_least.ok sc_says_least (fun vs H Q E h => by obtain ⟨x, _, a, _⟩ := h; exact a.len) (fun f cdv A outer s H vs Q E hr h => ?_)
  obtain ⟨⟨L, g⟩, ⟨O, b1, l6⟩, ⟨v1, _, rfl, h1, rfl⟩, k⟩ := h
  have O : Ok L g := O
  have b1 : g.ways.length ≤ 10 := b1
  have l6 : L ≤ 6 := l6
  have sl : g.says.length = g.ways.length := O.sl
  have mok : MH.ok ⟨L, g, nums g.says⟩ := by
    refine ⟨O, b1, l6, by show (nums g.says).length = _; rw [nums_len, sl], fun r s hr hs => ?_⟩
    have hr : r < g.ways.length := hr
    have hs : s < g.ways.length := hs
    have q := nums_eq (ks := g.says) (get_cell (d := []) (by rw [sl]; exact hr)) (get_cell (d := []) (by rw [sl]; exact hs))
    rw [get_cell (d := 0) (by rw [nums_len, sl]; exact hr), get_cell (d := 0) (by rw [nums_len, sl]; exact hs), Option.some_inj] at q
    exact q
  refine ⟨_, (pss_cons (ps_set (i := 1) sc_says_least.nd rfl (.inl rfl) pe_dnewT) (pss_cons (ps_set (i := 2) sc_says_least.nd rfl (.inl rfl) (pcall D_least (hr.mono (by decide)) rfl (pa_cons (pcall D_marked_rows (hr.mono (by decide)) rfl (pa_cons (pv 0) (pa_cons (pv 1) pa_nil))) pa_nil))) (pss_cons (ps_set (i := 3) sc_says_least.nd rfl (.inr rfl) (pe_list_keys rfl (pv 1) (by rfl) T.b_list (by decide +kernel))) (pss_one (ps_ret (pe_tup (pa_cons (pe_ix ix_tup (pv 0) pe_int (fun _ _ => rfl)) (pa_cons (pe_callTy call_tuple_of (by rfl) T.b_tuple (by decide +kernel) (pa_cons (pe_lc (own := [("code", 4)]) (g := gName 4) (tt := tYes) rfl sc_says_least.nd (pi_tup (pe_ix ix_tup (pv 2) pe_int (fun _ _ => rfl))) (blkOk_by (own := [("code", 4)]) (N := ["house", "codes", "small", "rows", "code"]) (sc := defScope s_says_least) (by decide +kernel)) (fun _ _ _ _ _ => (pg_name (i := 4) sc_says_least.nd rfl (.inl rfl))) (fun _ _ _ _ _ => pts_nil) (fun _ _ _ _ _ => (pe_ix (r := rIxL K) ix_list (pv 3) (pv 4) (fun _ _ => rfl)))) pa_nil)) (pa_cons (pe_ix ix_tup (pv 2) pe_int (fun _ _ => rfl)) pa_nil))))))))), ?_⟩
  refine q_newT fun d d0 => ?_
  have e1 := Ex.new (o := .dT []) d0
  refine ⟨v1, rfl, .ref d, rfl, L, g, d, v1, ⟨O, b1, l6⟩, rfl, h1.ex e1, upd_same, fun v2 H2 f2 hd2 h2 => ?_⟩
  have e2 : Ex H H2 := f2.ex e1 d0
  refine ⟨(⟨L, g, nums g.says⟩ : MH), mok, ⟨v2, [], rfl, h2, rfl⟩, fun v3 H3 e3 ⟨ms, wys, h3, hn, hm⟩ => ?_⟩
  have hm : ∀ m ∈ ms, m ∈ nums g.says := hm
  have hn : NOf L g ms.length := hn
  have hmz : ms.length ≤ 80000 := by
    obtain ⟨c, _, hn⟩ := hn
    have q := uniq_len_le ((rooms L g).map c)
    have : (rooms L g).length ≤ g.ways.length := (rch_inv L g g.ways.length).len_le O
    rw [List.length_map] at q
    omega
  have hd3 := e3 _ _ hd2
  refine ⟨.ref d, rfl, d, _, rfl, .inl hd3, fun p bs p0 bl hb => ?_⟩
  have e4 := Ex.new (o := .lst (bs.map V.ref)) p0
  rw [encU_len] at bl
  have hrows : ImAll (upd H3 p (.lst (bs.map V.ref))) ((uniq g.says).map iD) (bs.map V.ref) := by
    refine imAll_of (by rw [List.length_map, List.length_map, bl]) fun i dd v hdd hv => ?_
    obtain ⟨row, hrow, rfl⟩ := map_get hdd
    obtain ⟨b, hb1, hb2⟩ := hb i (fR row) _ (by rw [encU_get, hrow]; rfl)
    rw [List.getElem?_map, hb1] at hv
    cases hv
    rw [fR_V] at hb2
    exact .tup (e4 _ _ hb2) (imAll_int _)
  have e14 : Ex H _ := (e2.trans e3).trans e4
  have h34 := h3.ex e4
  refine k_ret (d_tup (ds := [nD L, .tuple (ms.map fun m => iD ((uniq g.says).getD m [])), .tuple wys]) (a_d (d_ixT (K := K) (d_var rfl (h1.ex e14)) (d_int (i := 0)) (at_nat (i := 0) rfl)) (a_d (d_tupOf (K := K) (EvF.toL (c_T (K := K) (d_ixT (K := K) (d_var rfl h34) (d_int (i := 1)) (at_nat (i := 1) (x := wD ms) rfl)) (rs := ms.map fun m => iD ((uniq g.says).getD m [])) (by rw [List.length_map, List.length_map]) (by rw [List.length_map]; exact hmz) (fun _ => rfl) (fun _ _ _ _ _ _ _ => t_yes) (fun q dd rr x H8 e8 hd hr' hx => ?_)))) (a_d (d_ixT (K := K) (d_var rfl h34) (d_int (i := 2)) (at_nat (i := 2) rfl)) a_nil))) (by show 3 ≤ 100000; decide)) fun v H7 e7 pv => ?_
  · obtain ⟨m, hm1, rfl⟩ := map_get hd
    rw [List.getElem?_map, hm1] at hr'
    cases hr'
    have hlt := (nums_norm g.says).lt m (hm m (List.mem_of_getElem? hm1))
    exact (d_ixL (K := K) (d_var rfl (.lst (e8 _ _ upd_same) (hrows.ex e8))) (d_var rfl hx) (at_map (get_cell (d := []) hlt))).toG (pt_iD _)
  · exact k v H7 (e14.trans e7) ⟨_, _, pv, by rw [List.length_map]; exact hn⟩
end
end Gr
end
section
set_option maxRecDepth 100000
set_option maxHeartbeats 4000000
namespace Gr
open PySem L2 PySem.Spec PyProof.Rows Evl
/-! ### the script -/
def isS (K : PySem.W.Frag) (ns : List Int) : VP := fun v H => ∃ a, v = .ref a ∧ SqL K H a (ns.map V.int)
theorem sq_ex {K : PySem.W.Frag} {H H' : Hp} {a : Addr} {xs : List V} (e : Ex H H') (h : SqL K H a xs) : SqL K H' a xs := by
  rcases h with (h | ⟨o, h⟩) | h
  · exact .inl (.inl (e _ _ h))
  · exact .inl (.inr ⟨o, e _ _ h⟩)
  · exact .inr h
theorem mo_S (K : PySem.W.Frag) (ns : List Int) : Mo (isS K ns) := fun v H H' e ⟨a, h1, h2⟩ => ⟨a, h1, sq_ex e h2⟩
section
variable {K : PySem.W.Frag} {σ : L2.St} {H : Hp} {ta tb te : TE} {ns : List Int} {k : Nat}
theorem d_ixS (ha : EvP ta σ H (isS K ns)) (hb : EvP tb σ H (isD (nD k))) (hk : k < ns.length) : EvP (tOp (rIxL K) ta tb) σ H (isD (.int (ns.getD k 0))) :=
  e_op ha hb (mo_S K ns) fun x y H1 _ px py Q q => by
    obtain ⟨a, rfl, h⟩ := px
    exact ⟨a, _, (k : Int), .int (ns.getD k 0), rfl, im_int py, h, at_map (get_cell hk), q _ H1 (Ex.refl H1) (.int _)⟩
theorem d_lenS (h : EvP te σ H (isS K ns)) : EvP (tCB (fun xs H Q => ∃ p ys, xs = [.ref p] ∧ (SqL K H p ys ∨ SqT K H p ys) ∧ Q (.int ys.length) H) (tCons te tNil)) σ H (isD (nD ns.length)) := fun H1 e Q q =>
  h H1 e _ fun v H2 e2 ⟨a, ev, h2⟩ => by
    subst ev
    exact ⟨a, _, rfl, .inl h2, q _ H2 e2 (by rw [List.length_map]; exact .int _)⟩
theorem s_var {i : Nat} {v : V} (h : σ[i]? = some (some v)) (p : isS K ns v H) : EvP (tVar i) σ H (isS K ns) := e_var h p (mo_S K ns)
theorem a_s {tr : TA} {Ps : List VP} (h : EvP te σ H (isS K ns)) (hr : EvPA tr σ H Ps) : EvPA (tCons te tr) σ H (isS K ns :: Ps) := a_cons h (mo_S K ns) hr
theorem d_max2 {i j : Int} (ha : EvP ta σ H (isD (.int i))) (hb : EvP tb σ H (isD (.int j))) : EvP (tCB rMax2 (tCons ta (tCons tb tNil))) σ H (isD (.int (if j > i then j else i))) := fun H1 e Q q =>
  (a_d ha (a_d hb a_nil)) H1 e _ fun vs H2 e2 pa => by
    obtain ⟨x, r, rfl, hx, y, r2, rfl, hy, rfl⟩ := pa
    exact ⟨i, j, by rw [im_int hx, im_int hy], q _ H2 e2 (.int _)⟩
end
def cellN (ns : List Int) (k : Nat) : Int := ns.getD k 0
def manyN (ns : List Int) : Nat := if ns.length > 1 then ns.length else 1
def bigN (ns : List Int) (k : Nat) : Int := if k < ns.length then ns.getD k 0 else (cellN ns (k % manyN ns) % 2147483647 * 48271 + (k : Int) * k * 31 + 7 * k) % 2147483647
def markN (c : Int) : Int := if c % 8 = 3 then 1000000000 else if c % 4 = 0 then c / 4 % 1000000001 else c / 4 % 2
theorem markN_ok (c : Int) : 0 ≤ markN c ∧ markN c ≤ 1000000000 := by
  unfold markN
  by_cases h1 : c % 8 = 3
  · rw [if_pos h1]; omega
  · rw [if_neg h1]
    by_cases h2 : c % 4 = 0
    · rw [if_pos h2]; omega
    · rw [if_neg h2]; omega
/-- the hidden house by the script's numbers -/
def madeN (ns : List Int) (at_ L rooms : Nat) : House :=
  ⟨(List.range rooms).map fun r => (List.range L).map fun k => markN (bigN ns (at_ + 2 * L * r + k)), (List.range rooms).map fun r => (List.range L).map fun k => (bigN ns (at_ + 2 * L * r + L + k) % (rooms : Int)).toNat⟩
theorem madeN_ok (ns : List Int) (at_ L : Nat) {rooms : Nat} (hr : 0 < rooms) : Ok L (madeN ns at_ L rooms) ∧ ∀ row ∈ (madeN ns at_ L rooms).says, ∀ m ∈ row, 0 ≤ m ∧ m ≤ 1000000000 := by
  refine ⟨⟨?_, ?_, fun row h => ?_, fun row h => ?_⟩, fun row h m hm => ?_⟩
  · show 0 < ((List.range rooms).map _).length
    rw [List.length_map, List.length_range]; exact hr
  · show ((List.range rooms).map _).length = ((List.range rooms).map _).length
    rw [List.length_map, List.length_map]
  · obtain ⟨r, _, rfl⟩ := List.mem_map.mp h
    rw [List.length_map, List.length_range]
  · obtain ⟨r, _, rfl⟩ := List.mem_map.mp h
    refine ⟨by rw [List.length_map, List.length_range], fun x hx => ?_⟩
    obtain ⟨k, _, rfl⟩ := List.mem_map.mp hx
    show _ < ((List.range rooms).map _).length
    rw [List.length_map, List.length_range]
    have h1 := Int.emod_nonneg (bigN ns (at_ + 2 * L * r + L + k)) (show (rooms : Int) ≠ 0 by omega)
    have h2 := Int.emod_lt_of_pos (bigN ns (at_ + 2 * L * r + L + k)) (show (0 : Int) < rooms by omega)
    omega
  · obtain ⟨r, _, rfl⟩ := List.mem_map.mp h
    obtain ⟨k, _, rfl⟩ := List.mem_map.mp hm
    exact markN_ok _
theorem madeN_len (ns : List Int) (at_ L rooms : Nat) : (madeN ns at_ L rooms).ways.length = rooms := by
  show ((List.range rooms).map _).length = rooms
  rw [List.length_map, List.length_range]
section
variable {P : Program} {w : World} {K : PySem.W.Frag} {mg : Str → Option Value} {base : Heap} {CB CA : Addr}
def sp_cell (K : PySem.W.Frag) : Sp := PurSp (α := List Int × Nat) (fun _ => True) (fun x => [isS K x.1, isD (nD x.2)]) (fun x => isD (.int (cellN x.1 x.2)))
theorem ok_law_cell (T : All K mg CB CA) : Df P w K mg base 1 "_law_cell" ["script", "k"] (sp_cell K) := by
  refine T.t_law_cell.ok sc_law_cell (fun vs H Q E h => by obtain ⟨x, _, a, _⟩ := h; exact a.len) (fun f cdv A outer s H vs Q E hr h => ?_)
  obtain ⟨⟨ns, i⟩, _, ⟨v1, _, rfl, h1, v2, _, rfl, h2, rfl⟩, k⟩ := h
  have h1 : isS K ns v1 H := h1
  refine ⟨_, (pss_cons (ps_if (pt_cmpR op_lt (pv 1) (pe_callB call_len_seq (by rfl) T.b_len PySem.boot_len (pa_cons (pv 0) pa_nil)) (nomark _)) (pss_one (ps_ret (pe_ix ix_list (pv 0) (pv 1) (fun _ _ => rfl)))) pss_nil) (pss_one (ps_ret pe_int))), ?_⟩
  refine q_when (t_cmp (d_lt (d_var rfl h2) (d_lenS (K := K) (s_var rfl h1)))) (fun hb H1 e1 => ?_) (fun hb H1 e1 => ?_)
  · have hi : i < ns.length := by have := of_decide_eq_true hb; omega
    exact k_ret (d_ixS (K := K) (s_var rfl (mo_S K ns _ _ _ e1 h1)) (d_var rfl (h2.ex e1)) hi) fun v H2 e2 pv => k v H2 (e1.trans e2) pv
  · have hi : ns.length ≤ i := by have := of_decide_eq_false hb; omega
    refine k_ret (d_int (i := 0)) fun v H2 e2 pv => k v H2 (e1.trans e2) ?_
    show Im H2 (.int (cellN ns i)) v
    unfold cellN
    rw [List.getD_eq_getElem?_getD, List.getElem?_eq_none hi]
    exact pv
def sp_big (K : PySem.W.Frag) : Sp := PurSp (α := List Int × Nat) (fun x => x.2 ≤ 100000) (fun x => [isS K x.1, isD (nD x.2)]) (fun x => isD (.int (bigN x.1 x.2)))
theorem ok_law_big (T : All K mg CB CA) (D_law_cell : Df P w K mg base 1 "_law_cell" ["script", "k"] (sp_cell K)) : Df P w K mg base 2 "_law_big" ["script", "k"] (sp_big K) := by
  refine T.t_law_big.ok sc_law_big (fun vs H Q E h => by obtain ⟨x, _, a, _⟩ := h; exact a.len) (fun f cdv A outer s H vs Q E hr h => ?_)
  obtain ⟨⟨ns, i⟩, hi, ⟨v1, _, rfl, h1, v2, _, rfl, h2, rfl⟩, k⟩ := h
  have hi : i ≤ 100000 := hi
  have h1 : isS K ns v1 H := h1
  refine ⟨_, (pss_cons (ps_if (pt_cmpR op_lt (pv 1) (pe_callB call_len_seq (by rfl) T.b_len PySem.boot_len (pa_cons (pv 0) pa_nil)) (nomark _)) (pss_one (ps_ret (pe_ix ix_list (pv 0) (pv 1) (fun _ _ => rfl)))) pss_nil) (pss_cons (ps_set (i := 2) sc_law_big.nd rfl (.inl rfl) (pe_callB (call_max2 rfl) (by rfl) T.b_max (by decide +kernel) (pa_cons pe_int (pa_cons (pe_callB call_len_seq (by rfl) T.b_len PySem.boot_len (pa_cons (pv 0) pa_nil)) pa_nil)))) (pss_one (ps_ret (pe_op op_mod (pe_op op_add (pe_op op_add (pe_op op_mul (pe_op op_mod (pcall D_law_cell (hr.mono (by decide)) rfl (pa_cons (pv 0) (pa_cons (pe_op op_mod (pv 1) (pv 2)) pa_nil))) pe_int) pe_int) (pe_op op_mul (pe_op op_mul (pv 1) (pv 1)) pe_int)) (pe_op op_mul pe_int (pv 1))) pe_int))))), ?_⟩
  refine q_when (t_cmp (d_lt (d_var rfl h2) (d_lenS (K := K) (s_var rfl h1)))) (fun hb H1 e1 => ?_) (fun hb H1 e1 => ?_)
  · have hi : i < ns.length := by have := of_decide_eq_true hb; omega
    refine k_ret (d_ixS (K := K) (s_var rfl (mo_S K ns _ _ _ e1 h1)) (d_var rfl (h2.ex e1)) hi) fun v H2 e2 pv => k v H2 (e1.trans e2) ?_
    show Im H2 (.int (bigN ns i)) v
    unfold bigN
    rw [if_pos hi]
    exact pv
  · have hi2 : ns.length ≤ i := by have := of_decide_eq_false hb; omega
    refine q_asg (d_max2 (d_int (i := 1)) (d_lenS (K := K) (s_var rfl (mo_S K ns _ _ _ e1 h1)))) fun v3 H2 e2 pv3 => ?_
    have e12 := e1.trans e2
    have hm : (if ((ns.length : Nat) : Int) > 1 then ((ns.length : Nat) : Int) else 1) = ((manyN ns : Nat) : Int) := by
      unfold manyN
      by_cases q : ns.length > 1
      · rw [if_pos q, if_pos (by omega)]
      · rw [if_neg q, if_neg (by omega)]; rfl
    have pv3 : Im H2 (.int (if ((ns.length : Nat) : Int) > 1 then ((ns.length : Nat) : Int) else 1)) v3 := pv3
    rw [hm] at pv3
    have hm0 : 0 < manyN ns := by unfold manyN; by_cases q : ns.length > 1 <;> simp [q] <;> omega
    have hk2 : CMul (i : Int) (i : Int) := .inl ⟨by omega, by omega⟩
    refine k_ret (d_mod (d_add (d_add (d_mul (d_mod (e_call (x := (ns, i % manyN ns)) trivial (a_s (s_var rfl (mo_S K ns _ _ _ e12 h1)) (a_d (EvP.eq (d_mod (i := i) (j := manyN ns) (d_var rfl (h2.ex e12)) (d_var rfl pv3) (by omega)) (by omega)) a_nil))) (d_int (i := 2147483647)) (by omega)) (d_int (i := 48271)) (.inr ⟨by decide, by decide⟩)) (d_mul (d_mul (i := i) (j := i) (d_var rfl (h2.ex e12)) (d_var rfl (h2.ex e12)) hk2) (d_int (i := 31)) (.inr ⟨by decide, by decide⟩))) (d_mul (i := 7) (j := i) d_int (d_var rfl (h2.ex e12)) (.inl ⟨by decide, by decide⟩))) (d_int (i := 2147483647)) (by omega)) fun v H3 e3 pv => k v H3 (e12.trans e3) ?_
    show Im H3 (.int (bigN ns i)) v
    unfold bigN
    rw [if_neg (by omega)]
    exact pv
def sp_mark : Sp := PurSp (α := Int) (fun _ => True) (fun x => [isD (.int x)]) (fun x => isD (.int (markN x)))
theorem ok_law_mark (T : All K mg CB CA) : Df P w K mg base 1 "_law_mark" ["cell"] sp_mark := by
  refine T.t_law_mark.ok sc_law_mark (fun vs H Q E h => by obtain ⟨x, _, a, _⟩ := h; exact a.len) (fun f cdv A outer s H vs Q E hr h => ?_)
  obtain ⟨c, _, ⟨v1, _, rfl, h1, rfl⟩, k⟩ := h
  refine ⟨_, (pss_cons (ps_if (pt_cmpR op_eq (pe_op op_mod (pv 0) pe_int) pe_int (nomark _)) (pss_one (ps_ret pe_int)) pss_nil) (pss_cons (ps_if (pt_cmpR op_eq (pe_op op_mod (pv 0) pe_int) pe_int (nomark _)) (pss_one (ps_ret (pe_op op_mod (pe_op op_fdiv (pv 0) pe_int) pe_int))) pss_nil) (pss_one (ps_ret (pe_op op_mod (pe_op op_fdiv (pv 0) pe_int) pe_int))))), ?_⟩
  have cd : CDiv c 4 := ⟨by decide, by decide⟩
  refine q_when (t_cmp (d_eqI (d_mod (d_var rfl h1) (d_int (i := 8)) (by decide)) (d_int (i := 3)))) (fun hb H1 e1 => ?_) (fun hb H1 e1 => ?_)
  · refine k_ret d_int fun v H2 e2 pv => k v H2 (e1.trans e2) ?_
    show Im H2 (.int (markN c)) v
    unfold markN
    rw [if_pos (of_decide_eq_true hb)]
    exact pv
  · refine q_when (t_cmp (d_eqI (d_mod (d_var rfl (h1.ex e1)) (d_int (i := 4)) (by decide)) (d_int (i := 0)))) (fun hb2 H2 e2 => ?_) (fun hb2 H2 e2 => ?_)
    · refine k_ret (d_mod (d_fdiv (d_var rfl (h1.ex (e1.trans e2))) (d_int (i := 4)) cd) (d_int (i := 1000000001)) (by decide)) fun v H3 e3 pv => k v H3 ((e1.trans e2).trans e3) ?_
      show Im H3 (.int (markN c)) v
      unfold markN
      rw [if_neg (of_decide_eq_false hb), if_pos (of_decide_eq_true hb2)]
      exact pv
    · refine k_ret (d_mod (d_fdiv (d_var rfl (h1.ex (e1.trans e2))) (d_int (i := 4)) cd) (d_int (i := 2)) (by decide)) fun v H3 e3 pv => k v H3 ((e1.trans e2).trans e3) ?_
      show Im H3 (.int (markN c)) v
      unfold markN
      rw [if_neg (of_decide_eq_false hb), if_neg (of_decide_eq_false hb2)]
      exact pv
/-! ### _law_says -/
structure LS where
  ns : List Int
  at_ : Nat
  L : Nat
  rooms : Nat
def LS.ok (x : LS) : Prop := x.at_ ≤ 1000 ∧ x.L ≤ 6 ∧ 0 < x.rooms ∧ x.rooms ≤ 5
def sp_law_says (K : PySem.W.Frag) : Sp := PurSp (α := LS) LS.ok (fun x => [isS K x.ns, isD (nD x.at_), isD (nD x.L), isD (nD x.rooms)]) (fun x => isD (hD x.L (madeN x.ns x.at_ x.L x.rooms)))
theorem ok_law_says (T : All K mg CB CA) (D_law_big : Df P w K mg base 2 "_law_big" ["script", "k"] (sp_big K)) (D_law_mark : Df P w K mg base 1 "_law_mark" ["cell"] sp_mark) : Df P w K mg base 3 "_law_says" ["script", "at", "letters", "rooms"] (sp_law_says K) := by
  refine T.t_law_says.ok sc_law_says (fun vs H Q E h => by obtain ⟨x, _, a, _⟩ := h; exact a.len) (fun f cdv A outer s H vs Q E hr h => ?_)
  obtain ⟨⟨ns, at_, L, n⟩, ⟨a1, l6, n0, n5⟩, ⟨v1, _, rfl, h1, v2, _, rfl, h2, v3, _, rfl, h3, v4, _, rfl, h4, rfl⟩, k⟩ := h
  have a1 : at_ ≤ 1000 := a1
  have l6 : L ≤ 6 := l6
  have n0 : 0 < n := n0
  have n5 : n ≤ 5 := n5
  have h1 : isS K ns v1 H := h1
  refine ⟨_, (pss_cons (ps_set (i := 4) sc_law_says.nd rfl (.inl rfl) (pe_lst pa_nil)) (pss_cons (ps_set (i := 5) sc_law_says.nd rfl (.inl rfl) (pe_lst pa_nil)) (pss_cons (ps_for PassesOwn.never rfl (pi_range1 (by rfl) T.b_range (pa_cons (pv 3) pa_nil)) (pg_name (i := 6) sc_law_says.nd rfl (.inl rfl)) (pss_cons (ps_set (i := 7) sc_law_says.nd rfl (.inr rfl) (pe_op op_add (pv 1) (pe_op op_mul (pe_op op_mul pe_int (pv 2)) (pv 6)))) (pss_cons (ps_expr (pe_bm PySem.F.plainAttrs_list PySem.F.slot_list_append PySem.F.type_list_append mt_append (pv 4) (pa_cons (pe_callTy call_tuple_of (by rfl) T.b_tuple (by decide +kernel) (pa_cons (pe_lc (own := [("k", 8)]) (g := gName 8) (tt := tYes) rfl sc_law_says.nd (pi_range1 (by rfl) T.b_range (pa_cons (pv 2) pa_nil)) (blkOk_by (own := [("k", 8)]) (N := ["script", "at", "letters", "rooms", "says", "ways", "room", "base", "k"]) (sc := defScope s_law_says) (by decide +kernel)) (fun _ _ _ _ _ => (pg_name (i := 8) sc_law_says.nd rfl (.inl rfl))) (fun _ _ _ _ _ => pts_nil) (fun _ _ _ _ _ => (pcall D_law_mark (hr.mono (by decide)) rfl (pa_cons (pcall D_law_big (hr.mono (by decide)) rfl (pa_cons (pv 0) (pa_cons (pe_op op_add (pv 7) (pv 8)) pa_nil))) pa_nil)))) pa_nil)) pa_nil))) (pss_one (ps_expr (pe_bm PySem.F.plainAttrs_list PySem.F.slot_list_append PySem.F.type_list_append mt_append (pv 5) (pa_cons (pe_callTy call_tuple_of (by rfl) T.b_tuple (by decide +kernel) (pa_cons (pe_lc (own := [("k", 8)]) (g := gName 8) (tt := tYes) rfl sc_law_says.nd (pi_range1 (by rfl) T.b_range (pa_cons (pv 2) pa_nil)) (blkOk_by (own := [("k", 8)]) (N := ["script", "at", "letters", "rooms", "says", "ways", "room", "base", "k"]) (sc := defScope s_law_says) (by decide +kernel)) (fun _ _ _ _ _ => (pg_name (i := 8) sc_law_says.nd rfl (.inl rfl))) (fun _ _ _ _ _ => pts_nil) (fun _ _ _ _ _ => (pe_op op_mod (pcall D_law_big (hr.mono (by decide)) rfl (pa_cons (pv 0) (pa_cons (pe_op op_add (pe_op op_add (pv 7) (pv 2)) (pv 8)) pa_nil))) (pv 3)))) pa_nil)) pa_nil))))))) (pss_one (ps_ret (pe_tup (pa_cons (pv 2) (pa_cons (pe_callTy call_tuple_of (by rfl) T.b_tuple (by decide +kernel) (pa_cons (pv 4) pa_nil)) (pa_cons (pe_callTy call_tuple_of (by rfl) T.b_tuple (by decide +kernel) (pa_cons (pv 5) pa_nil)) pa_nil))))))))), ?_⟩
  refine q_asgF f_nil fun l H1 xs1 l0 e1 hl hx1 => ?_
  refine q_asgF f_nil fun m H2 xs2 m0 e2 hm hx2 => ?_
  have nml : m ≠ l := fun q => by rw [q, hl] at m0; cases m0
  have zl : H l = none := l0
  have zm : H m = none := fresh_back e1 m0
  have e12 := e1.trans e2
  have hx1 : xs1 = [] := by cases hx1; rfl
  have hx2 : xs2 = [] := by cases hx2; rfl
  subst hx1
  subst hx2
  let sr : Nat → List Int := fun r => (List.range L).map fun k => markN (bigN ns (at_ + 2 * L * r + k))
  let wr : Nat → List Nat := fun r => (List.range L).map fun k => (bigN ns (at_ + 2 * L * r + L + k) % (n : Int)).toNat
  refine q_forR (n := n) (d_var rfl (h4.ex e12)) (by omega) fun H3 e3 => ⟨fun i σ' H' => Ex H H' ∧ (∃ ys zs, H' l = some (.lst ys) ∧ H' m = some (.lst zs) ∧ ImAll H' ((List.range i).map fun r => iD (sr r)) ys ∧ ImAll H' ((List.range i).map fun r => wD (wr r)) zs) ∧ i ≤ 5 ∧ ∃ o6 o7 o8, σ' = [some v1, some v2, some v3, some v4, some (.ref l), some (.ref m), o6, o7, o8],
    ⟨e12.trans e3, ⟨[], [], e3 _ _ (e2 _ _ hl), e3 _ _ hm, .nil, .nil⟩, by omega, none, none, none, rfl⟩, ?_, ?_⟩
  · rintro i σ' H' hi ⟨e, ⟨ys, zs, hL, hM, hI, hJ⟩, i5, o6, o7, o8, rfl⟩
    have yl := hI.len
    have zl2 := hJ.len
    rw [List.length_map, List.length_range] at yl zl2
    have hLr : 2 * L * i ≤ 60 := Nat.le_trans (Nat.mul_le_mul (show 2 * L ≤ 12 by omega) i5) (by decide)
    refine q_asg (EvP.eq (d_add (i := at_) (j := 2 * L * i) (d_var rfl (h2.ex e)) (d_mul (i := 2 * L) (j := i) (d_mul (i := 2) (j := L) d_int (d_var rfl (h3.ex e)) (.inl ⟨by decide, by decide⟩)) (d_var rfl (.int _)) (.inl ⟨by omega, by omega⟩))) (show _ = ((at_ + 2 * L * i : Nat) : Int) by push_cast; rfl)) fun v7 H4 e4 pv7 => ?_
    have e04 := e.trans e4
    refine q_app (e4 _ _ hL) (v_var rfl) (d_tupOf (K := K) (EvF.toL (c_R (n := L) (rs := (sr i).map .int) (d_var rfl (h3.ex e04)) (by rw [List.length_map, List.length_map, List.length_range]) (by omega) (fun _ => rfl) (fun _ _ _ _ => t_yes) (fun q rr H9 e9 hq hr' => ?_)))) (by omega) fun v8 H5 e5 pv8 => ?_
    · rw [List.getElem?_map, List.getElem?_map, List.getElem?_range hq] at hr'
      cases hr'
      exact (e_call (x := bigN ns (at_ + 2 * L * i + q)) trivial (a_d (e_call (x := (ns, at_ + 2 * L * i + q)) (by show _ ≤ 100000; omega) (a_s (s_var rfl (mo_S K ns _ _ _ (e04.trans e9) h1)) (a_d (EvP.eq (d_add (i := ((at_ + 2 * L * i : Nat) : Int)) (j := q) (d_var rfl (Im.ex pv7 e9)) (d_var rfl (.int _))) (by push_cast; rfl)) a_nil))) a_nil)).toG rfl
    have kt5 : Kt H5 (upd H5 l (.lst (ys ++ [v8]))) := Kt.upd (Kt.refl _) (e5 _ _ (e4 _ _ hL)) fun _ z => nomatch z
    have e05 : Ex H (upd H5 l (.lst (ys ++ [v8]))) := Ex.mut (e04.trans e5) zl
    have kt45 : Kt H4 (upd H5 l (.lst (ys ++ [v8]))) := (ex_kt e5).trans kt5
    have pv7' : Im (upd H5 l (.lst (ys ++ [v8]))) (nD (at_ + 2 * L * i)) v7 := Im.kt pv7 kt45 rfl
    have hM5 : upd H5 l (.lst (ys ++ [v8])) m = some (.lst zs) := by rw [upd_ne nml]; exact e5 _ _ (e4 _ _ hM)
    refine k_app hM5 (v_var rfl) (d_tupOf (K := K) (EvF.toL (c_R (n := L) (rs := (wr i).map nD) (d_var rfl (h3.ex e05)) (by rw [List.length_map, List.length_map, List.length_range]) (by omega) (fun _ => rfl) (fun _ _ _ _ => t_yes) (fun q rr H9 e9 hq hr' => ?_)))) (by omega) fun v9 H6 e6 pv9 => ?_
    · rw [List.getElem?_map, List.getElem?_map, List.getElem?_range hq] at hr'
      cases hr'
      refine EvP.toG (EvP.eq (d_mod (i := bigN ns (at_ + 2 * L * i + L + q)) (j := n) (e_call (x := (ns, at_ + 2 * L * i + L + q)) (by show _ ≤ 100000; omega) (a_s (s_var rfl (mo_S K ns _ _ _ (e05.trans e9) h1)) (a_d (EvP.eq (d_add (i := ((at_ + 2 * L * i + L : Nat) : Int)) (j := q) (EvP.eq (d_add (i := ((at_ + 2 * L * i : Nat) : Int)) (j := L) (d_var rfl (Im.ex pv7' e9)) (d_var rfl (h3.ex (e05.trans e9)))) (by push_cast; rfl)) (d_var rfl (.int _))) (by push_cast; rfl)) a_nil))) (d_var rfl (h4.ex (e05.trans e9))) (by omega)) ?_) rfl
      exact (Int.toNat_of_nonneg (Int.emod_nonneg _ (by omega))).symm
    have kt6 : Kt H6 (upd H6 m (.lst (zs ++ [v9]))) := Kt.upd (Kt.refl _) (e6 _ _ hM5) fun _ z => nomatch z
    have ktB : Kt (upd H5 l (.lst (ys ++ [v8]))) (upd H6 m (.lst (zs ++ [v9]))) := (ex_kt e6).trans kt6
    have ktA : Kt H' (upd H6 m (.lst (zs ++ [v9]))) := ((ex_kt e4).trans kt45).trans ktB
    have pS : ∀ n : Nat, ptAll ((List.range n).map fun r => iD (sr r)) = true := fun n => ptAll_of fun d hd => by
      obtain ⟨_, _, rfl⟩ := List.mem_map.mp hd
      exact pt_iD _
    have pW : ∀ n : Nat, ptAll ((List.range n).map fun r => wD (wr r)) = true := fun n => ptAll_of fun d hd => by
      obtain ⟨_, _, rfl⟩ := List.mem_map.mp hd
      exact pt_wD _
    refine ⟨Ex.mut (e05.trans e6) zm, ⟨ys ++ [v8], zs ++ [v9], ?_, upd_same, ?_, ?_⟩, by omega, _, _, _, rfl⟩
    · rw [upd_ne nml.symm]
      exact e6 _ _ upd_same
    · rw [List.range_succ, List.map_append]
      exact (hI.kt ktA (pS i)).app (ImAll.one (Im.kt (d := iD (sr i)) pv8 (kt5.trans ktB) (pt_iD _)))
    · rw [List.range_succ, List.map_append]
      exact (hJ.kt ktA (pW i)).app (ImAll.one (Im.kt (d := wD (wr i)) pv9 kt6 (pt_wD _)))
  · rintro σ' H' ⟨e, ⟨ys, zs, hL, hM, hI, hJ⟩, i5, o6, o7, o8, rfl⟩
    refine k_ret (d_tup (ds := [nD L, .tuple ((madeN ns at_ L n).says.map iD), .tuple ((madeN ns at_ L n).ways.map wD)]) (a_d (d_var rfl (h3.ex e)) (a_d (d_tupOf (K := K) (d_var rfl (.lst hL ?_))) (a_d (d_tupOf (K := K) (d_var rfl (.lst hM ?_))) a_nil))) (by show 3 ≤ 100000; decide)) fun v H7 e7 pv => ?_
    · show ImAll H' (((List.range n).map sr).map iD) ys
      rw [List.map_map]
      exact hI
    · show ImAll H' (((List.range n).map wr).map wD) zs
      rw [List.map_map]
      exact hJ
    · exact k v H7 (e.trans e7) pv
end
end Gr
end
section
set_option maxRecDepth 100000
set_option maxHeartbeats 4000000
namespace Gr
open PySem L2 PySem.Spec PyProof.Rows Evl
section
variable {K : PySem.W.Frag} {σ : L2.St} {H : Hp} {D : Ends} {tu tw tz : TS} {te te2 ta tb : TE} {t : TT} {P R : VP} {d : PyData}
theorem q_ifAsg {i : Nat} {b : Bool} (h : EvT t σ H b) (J : L2.St → Hp → Prop) (hv : b = true → EvP te σ H P) (k1 : b = true → ∀ v H2, Ex H H2 → P v H2 → J (σ.set i (some v)) H2) (k2 : b = false → ∀ H2, Ex H H2 → J σ H2) (k : ∀ σ' H', J σ' H' → tz D σ' H') : tSeq (tIfS t (tAsg te (gName i)) tNext) tz D σ H :=
  q_when h (fun hb H1 e1 => k_asg ((hv hb).mono e1) fun v H2 e2 pv => k _ _ (k1 hb v H2 (e1.trans e2) pv)) fun hb H1 e1 => k _ _ (k2 hb H1 e1)
theorem q_ifAsg2 {i j : Nat} {b : Bool} (h : EvT t σ H b) (J : L2.St → Hp → Prop) (hv : b = true → EvP te σ H P) (hw : b = false → EvP te2 σ H R) (k1 : b = true → ∀ v H2, Ex H H2 → P v H2 → J (σ.set i (some v)) H2) (k2 : b = false → ∀ v H2, Ex H H2 → R v H2 → J (σ.set j (some v)) H2) (k : ∀ σ' H', J σ' H' → tz D σ' H') : tSeq (tIfS t (tAsg te (gName i)) (tAsg te2 (gName j))) tz D σ H :=
  q_if h (fun hb H1 e1 => k_asg ((hv hb).mono e1) fun v H2 e2 pv => k _ _ (k1 hb v H2 (e1.trans e2) pv)) fun hb H1 e1 => k_asg ((hw hb).mono e1) fun v H2 e2 pv => k _ _ (k2 hb v H2 (e1.trans e2) pv)
end
section
variable {P : Program} {w : World} {K : PySem.W.Frag} {mg : Str → Option Value} {base : Heap} {CB CA : Addr}
structure OB where
  ns : List Int
  at_ : Nat
  times : Nat
  L : Nat
  g : House
  h : House
def OB.ok (x : OB) : Prop := Ok x.L x.g ∧ Ok x.L x.h ∧ x.g.ways.length ≤ 10 ∧ x.h.ways.length ≤ 10 ∧ 0 < x.L ∧ x.L ≤ 6 ∧ x.at_ ≤ 1000 ∧ x.times ≤ 1000
/-- what is said against a house shown -/
def Obj1 (L : Nat) (g h : House) : VP := fun v H => (v = .non ∧ ∀ w, Lets L w → talk g 0 w = talk h 0 w) ∨ ∃ w, Im H (wD w) v ∧ Lets L w ∧ w ≠ [] ∧ w.length ≤ 116 ∧ ans g 0 w ≠ ans h 0 w
def sp_objection (K : PySem.W.Frag) : Sp := PurSp (α := OB) OB.ok (fun x => [isD (hD x.L x.g), isD (hD x.L x.h), isS K x.ns, isD (nD x.at_), isD (nD x.times)]) (fun x => Obj1 x.L x.g x.h)
theorem ok_law_objection (T : All K mg CB CA) (D_law_big : Df P w K mg base 2 "_law_big" ["script", "k"] (sp_big K)) (D_law_talk : Df P w K mg base 1 "_law_talk" ["house", "word"] sp_talk) (D_law_unlike_words : Df P w K mg base 2 "_law_unlike_words" ["one", "two"] sp_unlike) : Df P w K mg base 3 "_law_objection" ["hidden", "house", "script", "at", "times"] (sp_objection K) := by
  refine T.t_law_objection.ok sc_law_objection (fun vs H Q E h => by obtain ⟨x, _, a, _⟩ := h; exact a.len) (fun f cdv A outer s H vs Q E hr h => ?_)
  obtain ⟨⟨ns, at_, tm, L, g, hh⟩, ⟨G, O, b1, b2, l0, l6, a1, tm1⟩, ⟨v1, _, rfl, h1, v2, _, rfl, h2, v3, _, rfl, h3, v4, _, rfl, h4, v5, _, rfl, h5, rfl⟩, k⟩ := h
  have G : Ok L g := G
  have O : Ok L hh := O
  have b1 : g.ways.length ≤ 10 := b1
  have b2 : hh.ways.length ≤ 10 := b2
  have l0 : 0 < L := l0
  have l6 : L ≤ 6 := l6
  have a1 : at_ ≤ 1000 := a1
  have tm1 : tm ≤ 1000 := tm1
  have h3 : isS K ns v3 H := h3
  have kk : ∀ v H', Ex H H' → Obj1 L g hh v H' → Q v H' := k
  have hv4 := im_int h4
  have hv5 := im_int h5
  refine ⟨_, (pss_cons (ps_set (i := 5) sc_law_objection.nd rfl (.inr rfl) (pcall D_law_big (hr.mono (by decide)) rfl (pa_cons (pv 2) (pa_cons (pe_op op_add (pv 3) (pe_op op_mul pe_int (pv 4))) pa_nil)))) (pss_cons (ps_set (i := 6) sc_law_objection.nd rfl (.inr rfl) (pcall D_law_big (hr.mono (by decide)) rfl (pa_cons (pv 2) (pa_cons (pe_op op_add (pe_op op_add (pv 3) (pe_op op_mul pe_int (pv 4))) pe_int) pa_nil)))) (pss_cons (ps_set (i := 7) sc_law_objection.nd rfl (.inl rfl) (pe_op op_add pe_int (pe_op op_mod (pv 5) pe_int))) (pss_cons (ps_if (pt_cmpR op_eq (pe_op op_mod (pe_op op_fdiv (pv 5) pe_int) pe_int) pe_int (nomark _)) (pss_one (ps_set (i := 7) sc_law_objection.nd rfl (.inl rfl) (pe_op op_add pe_int (pv 7)))) pss_nil) (pss_cons (ps_set (i := 8) sc_law_objection.nd rfl (.inl rfl) (pe_callTy call_tuple_of (by rfl) T.b_tuple (by decide +kernel) (pa_cons (pe_lc (own := [("k", 9)]) (g := gName 9) (tt := tYes) rfl sc_law_objection.nd (pi_range1 (by rfl) T.b_range (pa_cons (pv 7) pa_nil)) (blkOk_by (own := [("k", 9)]) (N := ["hidden", "house", "script", "at", "times", "cell", "step", "size", "word", "k", "found"]) (sc := defScope s_law_objection) (by decide +kernel)) (fun _ _ _ _ _ => (pg_name (i := 9) sc_law_objection.nd rfl (.inl rfl))) (fun _ _ _ _ _ => pts_nil) (fun _ _ _ _ _ => (pe_op op_mod (pe_op op_add (pe_op op_add (pe_op op_fdiv (pv 5) pe_int) (pe_op op_mul (pv 9) (pv 6))) (pe_op op_mul (pv 9) (pv 9))) (pe_ix (r := rIxT K) ix_tup (pv 0) pe_int (fun _ _ => rfl))))) pa_nil))) (pss_cons (ps_if (pt_cmpR op_ne (pe_ix ix_list (pcall D_law_talk (hr.mono (by decide)) rfl (pa_cons (pv 0) (pa_cons (pv 8) pa_nil))) (pe_un un_neg pe_int) (fun _ _ => rfl)) (pe_ix ix_list (pcall D_law_talk (hr.mono (by decide)) rfl (pa_cons (pv 1) (pa_cons (pv 8) pa_nil))) (pe_un un_neg pe_int) (fun _ _ => rfl)) (nomark _)) (pss_one (ps_ret (pv 8))) pss_nil) (pss_cons (ps_set (i := 10) sc_law_objection.nd rfl (.inl rfl) (pcall D_law_unlike_words (hr.mono (by decide)) rfl (pa_cons (pv 0) (pa_cons (pv 1) pa_nil)))) (pss_cons (ps_if (pt_cmpR op_eq (pe_callB call_len_seq (by rfl) T.b_len PySem.boot_len (pa_cons (pv 10) pa_nil)) pe_int (nomark _)) (pss_one (ps_ret pe_non)) pss_nil) (pss_one (ps_ret (pe_ix ix_list (pv 10) (pe_op op_mod (pcall D_law_big (hr.mono (by decide)) rfl (pa_cons (pv 2) (pa_cons (pe_op op_add (pe_op op_add (pv 3) (pe_op op_mul pe_int (pv 4))) pe_int) pa_nil))) (pe_callB call_len_seq (by rfl) T.b_len PySem.boot_len (pa_cons (pv 10) pa_nil))) (fun _ _ => rfl)))))))))))), ?_⟩
  have m3 : CMul 3 (tm : Int) := .inl ⟨by decide, by decide⟩
  refine q_asg (e_call (x := (ns, at_ + 3 * tm)) (by show at_ + 3 * tm ≤ 100000; omega) (a_s (s_var rfl h3) (a_d (EvP.eq (d_add (i := at_) (j := 3 * tm) (d_var rfl h4) (d_mul (i := 3) (j := tm) d_int (d_var rfl h5) m3)) (by push_cast; rfl)) a_nil))) fun v6 H1 e1 pv6 => ?_
  refine q_asg (e_call (x := (ns, at_ + 3 * tm + 1)) (by show at_ + 3 * tm + 1 ≤ 100000; omega) (a_s (s_var rfl (mo_S K ns _ _ _ e1 h3)) (a_d (EvP.eq (d_add (i := ((at_ + 3 * tm : Nat) : Int)) (j := 1) (EvP.eq (d_add (i := at_) (j := 3 * tm) (d_var rfl (h4.ex e1)) (d_mul (i := 3) (j := tm) d_int (d_var rfl (h5.ex e1)) m3)) (by push_cast; rfl)) d_int) (by push_cast; rfl)) a_nil))) fun v7 H2 e2 pv7 => ?_
  have pv6 : Im H1 (.int (bigN ns (at_ + 3 * tm))) v6 := pv6
  have pv7 : Im H2 (.int (bigN ns (at_ + 3 * tm + 1))) v7 := pv7
  generalize bigN ns (at_ + 3 * tm) = cell at pv6
  generalize bigN ns (at_ + 3 * tm + 1) = stepn at pv7
  have e12 := e1.trans e2
  refine q_asg (EvP.eq (d_add (i := 1) (j := cell % 16) d_int (d_mod (d_var rfl (pv6.ex e2)) (d_int (i := 16)) (by decide))) (show (1 + cell % 16 : Int) = (((1 + cell % 16).toNat : Nat) : Int) by omega)) fun v8 H3 e3 pv8 => ?_
  have hsz : 0 < (1 + cell % 16).toNat ∧ (1 + cell % 16).toNat ≤ 16 := by omega
  have pv8 : Im H3 (nD (1 + cell % 16).toNat) v8 := pv8
  generalize (1 + cell % 16).toNat = sz0 at pv8 hsz
  refine q_ifAsg (P := isD (nD (100 + sz0))) (t_cmp (d_eqI (d_mod (d_fdiv (d_var rfl ((pv6.ex e2).ex e3)) (d_int (i := 64)) ⟨by decide, by decide⟩) (d_int (i := 4)) (by decide)) (d_int (i := 1))))
    (fun σ' H' => ∃ sz v8, 0 < sz ∧ sz ≤ 116 ∧ Ex H H' ∧ Ex H2 H' ∧ Im H' (nD sz) v8 ∧ σ' = [some v1, some v2, some v3, some v4, some v5, some v6, some v7, some v8, none, none, none])
    (fun _ => EvP.eq (d_add (i := 100) (j := sz0) d_int (d_var rfl pv8)) (by push_cast; rfl)) (fun _ v H4 e4 pv => ⟨100 + sz0, v, by omega, by omega, (e12.trans e3).trans e4, e3.trans e4, pv, rfl⟩) (fun _ H4 e4 => ⟨sz0, v8, by omega, by omega, (e12.trans e3).trans e4, e3.trans e4, pv8.ex e4, rfl⟩) ?_
  rintro σ4 H4 ⟨sz, v8, s0, s1, e4, f4, pv8, rfl⟩
  -- the word
  let wd : Word := (List.range sz).map fun (k : Nat) => ((cell / 16 + (k : Int) * stepn + (k : Int) * k) % (L : Int)).toNat
  have wlen : wd.length = sz := by show ((List.range sz).map _).length = sz; rw [List.length_map, List.length_range]
  have wne : wd ≠ [] := fun e => by rw [e] at wlen; simp at wlen; omega
  have wl : Lets L wd := fun x hx => by
    obtain ⟨k, _, rfl⟩ := List.mem_map.mp hx
    have h1 := Int.emod_nonneg (cell / 16 + (k : Int) * stepn + (k : Int) * k) (show (L : Int) ≠ 0 by omega)
    have h2 := Int.emod_lt_of_pos (cell / 16 + (k : Int) * stepn + (k : Int) * k) (show (0 : Int) < L by omega)
    omega
  refine q_asg (d_tupOf (K := K) (EvF.toL (c_R (n := sz) (rs := wd.map nD) (d_var rfl pv8) (by rw [List.length_map, wlen]) (by omega) (fun _ => rfl) (fun _ _ _ _ => t_yes) (fun q rr H9 e9 hq hr' => ?_)))) fun v9 H5 e5 pv9 => ?_
  · rw [List.getElem?_map, List.getElem?_map, List.getElem?_range hq] at hr'
    cases hr'
    refine EvP.toG (EvP.eq (d_mod (i := cell / 16 + (q : Int) * stepn + (q : Int) * q) (j := L) (d_add (d_add (d_fdiv (d_var rfl ((pv6.ex e2).ex (f4.trans e9))) (d_int (i := 16)) ⟨by decide, by decide⟩) (d_mul (i := q) (j := stepn) (d_var rfl (.int _)) (d_var rfl (pv7.ex (f4.trans e9))) (.inl ⟨by omega, by omega⟩))) (d_mul (i := q) (j := q) (d_var rfl (.int _)) (d_var rfl (.int _)) (.inl ⟨by omega, by omega⟩))) (d_ixT (K := K) (d_var rfl (h1.ex (e4.trans e9))) (d_int (i := 0)) (at_nat (i := 0) rfl)) (by omega)) ?_) rfl
    exact (Int.toNat_of_nonneg (Int.emod_nonneg _ (by omega))).symm
  have pv9 : Im H5 (wD wd) v9 := pv9
  have e05 := e4.trans e5
  have okG : HW.ok ⟨L, g, wd⟩ := ⟨G, wl, by rw [wlen]; omega⟩
  have okO : HW.ok ⟨L, hh, wd⟩ := ⟨O, wl, by rw [wlen]; omega⟩
  have lastw : ∀ (x : House) (vx : V) (i : Nat) (σ5 : L2.St) H6, Ex H5 H6 → Im H6 (hD L x) vx → HW.ok ⟨L, x, wd⟩ → σ5[i]? = some (some vx) → σ5[8]? = some (some v9) → EvP (tOp (rIxL K) (tCall sp_talk [] E0 (tCons (tVar i) (tCons (tVar 8) tNil))) (tUn (rU fun i => .int (-i)) (tC (.int 1)))) σ5 H6 (isD (.int (ans x 0 wd))) :=
    fun x vx i σ5 H6 e6 hx okx hi h8 => d_ixL (EvF.toL (f_call (ps := fun x : HW => [isD (hD x.L x.g), isD (wD x.wd)]) (ds := fun x : HW => (talk x.g 0 x.wd).map .int) (⟨L, x, wd⟩ : HW) okx (a_d (d_var hi hx) (a_d (d_var h8 (pv9.ex e6)) a_nil)))) d_neg1 (at_neg (last_int (getLast_talk wne)))
  refine q_when (t_cmp (d_neI (lastw g v1 0 _ H5 (Ex.refl _) (h1.ex e05) okG rfl rfl) (lastw hh v2 1 _ H5 (Ex.refl _) (h2.ex e05) okO rfl rfl))) (fun hb H6 e6 => ?_) (fun hb H6 e6 => ?_)
  · refine k_ret (d_var rfl (pv9.ex e6)) fun v H7 e7 pv => kk v H7 ((e05.trans e6).trans e7) (.inr ⟨wd, pv, wl, wne, by rw [wlen]; omega, fun z => ?_⟩)
    rw [decide_eq_true z] at hb
    cases hb
  · have e06 := e05.trans e6
    refine q_asg (e_call (x := (⟨L, g, hh⟩ : Gr.H2)) ⟨G, O, b1, b2, l6⟩ (a_d (d_var rfl (h1.ex e06)) (a_d (d_var rfl (h2.ex e06)) a_nil))) fun v10 H7 e7 ⟨ws, hws, hgood, hnone⟩ => ?_
    have hws : Im H7 (.list (wsD ws)) v10 := hws
    have e07 := e06.trans e7
    refine q_when (t_cmp (d_eqI (d_lenM (K := K) (d_var rfl hws)) (d_int (i := 0)))) (fun hb H8 e8 => ?_) (fun hb H8 e8 => ?_)
    · have hz : ws = [] := by
        have := of_decide_eq_true hb
        exact List.length_eq_zero_iff.mp (by omega)
      refine k_ret d_non fun v H9 e9 pv => kk v H9 ((e07.trans e8).trans e9) (.inl ⟨im_non pv, hnone hz⟩)
    · have hz : 0 < ws.length := by
        have := of_decide_eq_false hb
        omega
      have e08 := e07.trans e8
      let b := bigN ns (at_ + 3 * tm + 2)
      have hb1 := Int.emod_nonneg b (show ((ws.length : Nat) : Int) ≠ 0 by omega)
      have hb2 := Int.emod_lt_of_pos b (show (0 : Int) < ((ws.length : Nat) : Int) by omega)
      have hbl : (b % ((ws.length : Nat) : Int)).toNat < ws.length := by omega
      have hget : ws[(b % ((ws.length : Nat) : Int)).toNat]? = some (ws.getD (b % ((ws.length : Nat) : Int)).toNat []) := get_cell hbl
      refine k_ret (d_ixL (K := K) (d_var rfl (hws.ex e8)) (EvP.eq (d_mod (i := b) (j := ws.length) (e_call (x := (ns, at_ + 3 * tm + 2)) (by show at_ + 3 * tm + 2 ≤ 100000; omega) (a_s (s_var rfl (mo_S K ns _ _ _ e08 h3)) (a_d (EvP.eq (d_add (i := ((at_ + 3 * tm : Nat) : Int)) (j := 2) (EvP.eq (d_add (i := at_) (j := 3 * tm) (d_var rfl (h4.ex e08)) (d_mul (i := 3) (j := tm) d_int (d_var rfl (h5.ex e08)) m3)) (by push_cast; rfl)) d_int) (by push_cast; rfl)) a_nil))) (d_lenM (K := K) (d_var rfl (hws.ex e8))) (by omega)) (Int.toNat_of_nonneg hb1).symm) (at_map hget)) fun v H9 e9 pv => ?_
      obtain ⟨q1, q2, q3, q4⟩ := hgood _ (List.mem_of_getElem? hget)
      exact kk v H9 (e08.trans e9) (.inr ⟨_, pv, q1, q2, by have q3 : (ws.getD (b % ((ws.length : Nat) : Int)).toNat []).length ≤ 101 := q3; omega, q4⟩)
end
end Gr
end
section
set_option maxRecDepth 100000
set_option maxHeartbeats 4000000
namespace Gr
open PySem L2 PySem.Spec PyProof.Rows Evl
/-! ### making an instance, fields, walks over items -/
def Mb (P : Program) (w : World) (K : PySem.W.Frag) (mg : Str → Option Value) (base : Heap) (k : Nat) (x : Str) (C : Addr) (ps : List Str) (sp : Sp) : Prop :=
  Dm P w K mg base C k "__init__" ps sp ∧ PySem.W.makesIn K C = true ∧ PySem.W.keepIn K (.ref C) = true ∧ mg x = some (.ref C)
section
variable {X : Cx}
theorem pmake {C : Addr} {k : Nat} {x : Str} {ps : List Str} {sp : Sp} {e : Expr} {es : List Expr} {t : TA} {p pos : Pos} (M : Mb X.prog X.w X.K X.mg X.base k x C ps sp) (hr : Room (k + 1) X.A) (hg : Gl X x) (ha : PA X (e :: es) t)
    (hdb : (x == ("__debug__" : Str)) = false := by decide) (he : starEach (e :: es) X.env = (false, eval e X.env) :: starEach es X.env := by rfl) (hpl : (backTo pos (starEach es X.env)).any (·.1) = false := by rfl) :
    PE X (.Call (.Name x p) (e :: es) [] pos) (tMake C sp [] E0 t) := by
  obtain ⟨⟨f, fd, F, mm, b⟩, mk, kc, hm⟩ := M
  exact pe_make ⟨mk, mm.at_, mm.fn, kc⟩ F hr hg hm b .nil pass0 ha hdb he hpl
end
section
variable {K : PySem.W.Frag} {σ : L2.St} {H : Hp} {D : Ends} {tu tz : TS} {te ta td : TE} {P : VP}
theorem k_fld {a C dx : Addr} {fs : List (Str × V)} {f : Str} (ho : H a = some (.ins C dx fs)) (hv : EvP te σ H P) (mo : Mo P) (ha : EvP ta σ H (isV (.ref a))) (hc : Cls K C) (hn : NoAttr K C f) (hl : fs.length < 1000) (k : ∀ v H1, Ex H H1 → P v H1 → D.nx σ (upd H1 a (.ins C dx (putF f v fs)))) : sFld K ta te f D σ H :=
  hv H (Ex.refl H) _ fun v H1 e1 pv => ha H1 e1 _ fun x H2 e2 px => by
    have px : x = .ref a := px
    exact ⟨a, C, dx, fs, px, (e1.trans e2) _ _ ho, hc, hn, hl, k v H2 (e1.trans e2) (mo _ _ _ e2 pv)⟩
theorem q_fld {a C dx : Addr} {fs : List (Str × V)} {f : Str} (ho : H a = some (.ins C dx fs)) (hv : EvP te σ H P) (mo : Mo P) (ha : EvP ta σ H (isV (.ref a))) (hc : Cls K C) (hn : NoAttr K C f) (hl : fs.length < 1000) (k : ∀ v H1, Ex H H1 → P v H1 → tz D σ (upd H1 a (.ins C dx (putF f v fs)))) : tSeq (sFld K ta te f) tz D σ H :=
  k_fld (D := { D with nx := tz D }) ho hv mo ha hc hn hl k
theorem wD_of {H : Hp} {q : Addr} {w : Word} (h : H q = some (.tup ((wK w).map kV))) : Im H (wD w) (.ref q) := .tup (by rw [wK_wV] at h; exact h) (imAll_wV w)
abbrev prD (p : Word × Int) : PyData := .tuple [wD p.1, .int p.2]
theorem pt_prD (p : Word × Int) : pt (prD p) = true := by
  simp only [pt, ptAll, Bool.and_true]
  exact ptAll_nat p.1
theorem ptAll_prD (b : List (Word × Int)) : ptAll (b.map prD) = true := ptAll_of fun d h => by
  obtain ⟨n, _, rfl⟩ := List.mem_map.mp h
  exact pt_prD n
theorem enc_get {b : List (Word × Int)} {i : Nat} {k : List Key} {v : V} (h : (enc b)[i]? = some (k, v)) : ∃ w m, b[i]? = some (w, m) ∧ k = wK w ∧ v = .int m := by
  unfold enc at h
  rw [List.getElem?_map] at h
  cases hb : b[i]? with
  | none => rw [hb] at h; cases h
  | some p =>
    rw [hb] at h
    cases h
    exact ⟨p.1, p.2, rfl, rfl, rfl⟩
theorem enc_len (b : List (Word × Int)) : (enc b).length = b.length := List.length_map _
theorem q_items {i j : Nat} {d : Addr} {b : List (Word × Int)} (hd : H d = some (.dT (enc b))) (h : ∀ H', H' d ≠ none → EvP td σ H' (isV (.ref d)))
    (k : ∀ od H0, Ex (upd H d (.frz od (.dT (enc b)))) H0 → ∃ Pv : Nat → L2.St → Hp → Prop, Pv 0 σ H0 ∧ (∀ n σ' H' T o, Pv n σ' H' → H' T = none → Pv n σ' (upd H' T o)) ∧ (∀ n σ' H', Pv n σ' H' → Ex (upd H d (.frz od (.dT (enc b)))) H') ∧
      (∀ (n : Nat) (w : Word) (m : Int) (x : V) (σ' : L2.St) (H' : Hp) (rt : V → Hp → Prop) (bk : L2.St → Hp → Prop), b[n]? = some (w, m) → Im H' (wD w) x → Pv n σ' H' → tu { nx := Pv (n + 1), rt := rt, bk := bk, ct := Pv (n + 1) } ((σ'.set i (some x)).set j (some (.int m))) H') ∧
      ∀ σ' H', Pv b.length σ' H' → Ex H (upd H' d (.dT (enc b))) → tz D σ' (upd H' d (.dT (enc b)))) :
    tSeq (tLock (tFor (iItemsT td) (gTup K 2 (gCons (gName i) (gCons (gName j) gNil))) tu)) tz D σ H := by
  refine ⟨d, .dT (enc b), hd, True.intro, fun od => ?_⟩
  refine h _ (fun z => by rw [upd_same] at z; cases z) _ (Ex.refl _) _ fun v H1 e1 pv => ?_
  have pv : v = .ref d := pv
  subst pv
  obtain ⟨Pv, p0, pT, pE, ps, pd⟩ := k od H1 e1
  have fz := e1 _ _ (upd_same (H := H) (a := d) (o := HO.frz od (.dT (enc b))))
  refine ⟨d, od, enc b, rfl, fz, fun n m σ' H' => m = b.length - n ∧ n ≤ b.length ∧ Pv n σ' H', ⟨b.length, rfl, Nat.zero_le _, p0⟩, ?_⟩
  rintro n m σ' H' ⟨rfl, hn, p⟩
  have e' := pE n σ' H' p
  have fz' := e' _ _ (upd_same (H := H) (a := d) (o := HO.frz od (.dT (enc b))))
  rcases Nat.lt_or_ge n b.length with hlt | hge
  · refine .inr ⟨⟨fz', by rw [enc_len]; exact hlt⟩, Pv (n + 1), fun σ2 H2 p2 => ⟨b.length - (n + 1), by omega, rfl, hlt, p2⟩, ?_⟩
    rintro x H2 ⟨T, ky, v, q, hkv, rfl, hT, rfl, hq⟩
    obtain ⟨wd, mk, hb, rfl, rfl⟩ := enc_get hkv
    have hq2 : Im (upd H' T (.tup [.ref q, .int mk])) (wD wd) (.ref q) := (wD_of hq).ex (Ex.new hT)
    exact ⟨T, [.ref q, .int mk], rfl, st_of upd_same, rfl, .ref q, [.int mk], rfl, .int mk, [], rfl, rfl, ps n wd mk (.ref q) σ' _ _ _ hb hq2 (pT n σ' H' T _ p hT)⟩
  · have hnl : n = b.length := by omega
    subst hnl
    refine .inl ⟨⟨fz', by rw [enc_len]; exact Nat.le_refl _⟩, fz', pd σ' H' p fun c o hc => ?_⟩
    by_cases q : c = d
    · subst q
      rw [upd_same, ← hd]
      exact hc
    · rw [upd_ne q]
      exact e' c o (by rw [upd_ne q]; exact hc)
end
section
variable {P : Program} {w : World} {K : PySem.W.Frag} {mg : Str → Option Value} {base : Heap} {CB CA : Addr}
/-! ### the book -/
def sp_Book_init (CB : Addr) : Sp := fun vs H Q _ => ∃ (bk dx : Addr) (L : Nat) (v : V), vs = [.ref bk, v] ∧ Im H (nD L) v ∧ H bk = some (.ins CB dx []) ∧
  ∀ d H', d ≠ bk → H d = none → (∀ c o, c ≠ bk → H c = some o → H' c = some o) → BookAt CB L [] bk d H' → Q .non H'
theorem ok_Book_init (T : All K mg CB CA) : Dm P w K mg base CB 1 "__init__" ["self", "letters"] (sp_Book_init CB) := by
  refine T.t_Book_init.ok sc_Book_init (fun vs H Q E h => by obtain ⟨_, _, _, _, rfl, _⟩ := h; rfl) (fun f cdv A outer s H vs Q E hr h => ?_)
  obtain ⟨bk, dx, L, v, rfl, hv, hbk, k⟩ := h
  refine ⟨_, (pss_cons (ps_fld (pv 0) (pv 1) rfl) (pss_one (ps_fld (pv 0) pe_dnewT rfl))), ?_⟩
  refine q_fld hbk (d_var rfl hv) (mo_D _) (v_var rfl) T.clCB T.nCB_letters (by decide) fun y H1 e1 py => ?_
  intro d d0
  have ndb : d ≠ bk := fun q => by rw [q, upd_same] at d0; cases d0
  have hd : H d = none := by
    rw [upd_ne ndb] at d0
    exact fresh_back e1 d0
  refine ⟨.ref bk, rfl, bk, CB, dx, [("letters", y)], rfl, by rw [upd_ne ndb.symm]; exact upd_same, T.clCB, T.nCB_marks, by show 1 < 1000; decide, ?_⟩
  refine k d _ ndb hd (fun c o hc h => ?_) ⟨⟨dx, ?_⟩, ?_⟩
  · rw [upd_ne hc, upd_ne (ne_of_none h hd), upd_ne hc]
    exact e1 _ _ h
  · rw [upd_same, im_int py]
    show some (HO.ins CB dx (putF "marks" (V.ref d) [(("letters" : Str), V.int (L : Int))])) = _
    unfold putF
    rw [if_neg str_lm]
    rfl
  · rw [upd_ne ndb, upd_same]
    rfl
def sp_put (CB : Addr) : Sp := fun vs H Q _ => ∃ (L : Nat) (b : List (Word × Int)) (bk d : Addr) (wd : Word) (m : Int) (v2 v3 : V), vs = [.ref bk, v2, v3] ∧ BookAt CB L b bk d H ∧ Im H (wD wd) v2 ∧ Im H (.int m) v3 ∧ Lets L wd ∧ 0 ≤ m ∧ m ≤ 1000000000 ∧ told b wd = none ∧ b.length < 5000 ∧
  ∀ H', Fd d H H' → BookAt CB L (b ++ [(wd, m)]) bk d H' → Q .non H'
theorem ok_Book_put (T : All K mg CB CA) (D_look_at : Df P w K mg base 2 "look_at" ["letters", "word", "mark"] sp_look_at) : Dm P w K mg base CB 3 "put" ["self", "word", "mark"] (sp_put CB) := by
  refine T.t_Book_put.ok sc_Book_put (fun vs H Q E h => by obtain ⟨_, _, _, _, _, _, _, _, rfl, _⟩ := h; rfl) (fun f cdv A outer s H vs Q E hr h => ?_)
  obtain ⟨L, b, bk, d, wd, m, v2, v3, rfl, ⟨⟨dx, hbk⟩, hd⟩, h2, h3, hl, m0, m1, hn, hz, k⟩ := h
  refine ⟨_, (pss_cons (ps_expr (pcall D_look_at (hr.mono (by decide)) rfl (pa_cons (pe_fld (pv 0) rfl) (pa_cons (pv 1) (pa_cons (pv 2) pa_nil))))) (pss_cons (ps_set (i := 3) sc_Book_put.nd rfl (.inl rfl) (pe_dget1 (hu_of hr) (pe_fld (pv 0) rfl) (pv 1) ⟨rfl, rfl, rfl, rfl⟩)) (pss_cons (ps_if (PW.pt (pw_and (pt_cmp (pc_notN (pv 3))) (pw_and1 (pt_cmpR op_ne (pv 3) (pv 2) (nomark _))))) (pss_one ps_never) pss_nil) (pss_one (ps_dput (hu_of hr) (pe_fld (pv 0) rfl) (pv 1) (pv 2) rfl))))), ?_⟩
  have nbd : bk ≠ d := fun q => by rw [q, hd] at hbk; cases hbk
  refine e_call (x := (L, wd, m)) ⟨hl, m0, m1⟩ (a_d (e_fld (v_var rfl) hbk T.clCB T.nCB_letters bf_letters (.int _) (mo_D _)) (a_d (d_var rfl h2) (a_d (d_var rfl h3) a_nil))) H (Ex.refl _) _ fun _ H1 e1 _ => ?_
  refine q_asg (d_get (e_fld (v_var rfl) (e1 _ _ hbk) T.clCB T.nCB_marks bf_marks ⟨d, rfl, e1 _ _ hd⟩ (mo_T b)) (d_var rfl (h2.ex e1))) fun v4 H2 e2 pv4 => ?_
  rw [hn] at pv4
  have pv4 : v4 = .non := im_non pv4
  subst pv4
  have e12 := e1.trans e2
  refine q_no (et_and (b := false) (a := false) (t_cmp (d_notN (v_var rfl) (fun v H1 p => by rw [show v = .non from p]; rfl))) (fun z => nomatch z)) fun H3 e3 => ?_
  have e13 := e12.trans e3
  refine k_dput (e13 _ _ hd) (e_fld (v_var rfl) (e13 _ _ hbk) T.clCB T.nCB_marks bf_marks rfl (mo_V _)) (d_var rfl (h2.ex e13)) (d_var rfl (h3.ex e13)) hn (by omega) fun H4 e4 => ?_
  refine k _ (fun c o hc h => ?_) ⟨⟨dx, ?_⟩, upd_same⟩
  · rw [upd_ne hc]
    exact (e13.trans e4) _ _ h
  · rw [upd_ne nbd]
    exact (e13.trans e4) _ _ hbk
end
end Gr
end
section
set_option maxRecDepth 100000
set_option maxHeartbeats 4000000
namespace Gr
open PySem L2 PySem.Spec PyProof.Rows Evl
section
variable {P : Program} {w : World} {K : PySem.W.Frag} {mg : Str → Option Value} {base : Heap} {CB CA : Addr}
/-! ### heard -/
def sp_Book_heard (CB : Addr) : Sp := LstSp (α := Nat × List (Word × Int)) (fun x => x.2.length ≤ 5000) (fun x => [isB CB x.1 x.2]) (fun x => x.2.map prD)
theorem del_none {H : Hp} {D c : Addr} (h : H c = none) : del H D c = none := by
  unfold del
  by_cases q : c = D
  · rw [if_pos q]
  · rw [if_neg q]; exact h
theorem ok_Book_heard (T : All K mg CB CA) : Dm P w K mg base CB 1 "heard" ["self"] (sp_Book_heard CB) := by
  refine T.t_Book_heard.ok sc_Book_heard (fun vs H Q E h => by obtain ⟨x, _, a, _⟩ := h; exact a.len) (fun f cdv A outer s H vs Q E hr h => ?_)
  obtain ⟨⟨L, b⟩, hz, ⟨v1, _, rfl, ⟨bk, d, rfl, ⟨dx, hbk⟩, hd⟩, rfl⟩, k⟩ := h
  have hz : b.length ≤ 5000 := hz
  refine ⟨_, (pss_one (ps_lock (ps_ret (pe_lc (own := [("word", 1), ("mark", 2)]) (g := gTup K 2 (gCons (gName 1) (gCons (gName 2) gNil))) (tt := tYes) rfl sc_Book_heard.nd (pi_itemsT (pe_fld (pv 0) rfl)) (blkOk_by (own := [("word", 1), ("mark", 2)]) (N := ["self", "word", "mark"]) (sc := defScope s_Book_heard) (by decide +kernel)) (fun _ _ _ _ _ => (pg_tupK (K := K) (n := 2) rfl (by rfl) (pgs_cons (pg_name (i := 1) sc_Book_heard.nd rfl (.inl rfl)) (pgs_cons (pg_name (i := 2) sc_Book_heard.nd rfl (.inl rfl)) pgs_nil)))) (fun _ _ _ _ _ => pts_nil) (fun _ _ _ _ _ => (pe_tup (pa_cons (pv 1) (pa_cons (pv 2) pa_nil)))))))), ?_⟩
  have nbd : bk ≠ d := fun q => by rw [q] at hbk; rw [hbk] at hd; cases hd
  refine ⟨d, .dT (enc b), hd, True.intro, fun od => ?_⟩
  have fz0 : upd H d (.frz od (.dT (enc b))) d = some (.frz od (.dT (enc b))) := upd_same
  have hbk0 : upd H d (.frz od (.dT (enc b))) bk = some (.ins CB dx (bf L d)) := by rw [upd_ne nbd]; exact hbk
  generalize hH0 : upd H d (.frz od (.dT (enc b))) = H0 at fz0 hbk0
  have e0 : ∀ c o, c ≠ d → H c = some o → H0 c = some o := fun c o hc h => by rw [← hH0, upd_ne hc]; exact h
  have n0 : ∀ c, H0 c = none → H c = none := fun c h => by
    by_cases q : c = d
    · rw [q, fz0] at h; cases h
    · rw [← hH0, upd_ne q] at h; exact h
  refine ⟨.ref bk, rfl, bk, CB, dx, bf L d, .ref d, rfl, hbk0, T.clCB, T.nCB_marks, bf_marks, d, od, enc b, rfl, fz0, fun l l0 => ?_⟩
  have nld : l ≠ d := fun q => by rw [q, fz0] at l0; cases l0
  refine ⟨fun i m H' => m = b.length - i ∧ i ≤ b.length ∧ Ex H0 H' ∧ ∃ acc, H' l = some (.lst acc) ∧ acc.length = i ∧ ImAll (del H' l) ((b.take i).map prD) acc, ⟨b.length, rfl, Nat.zero_le _, Ex.new l0, [], upd_same, rfl, .nil⟩, ?_⟩
  rintro i m H' ⟨rfl, hi, e, acc, hacc, al, hI⟩
  rcases Nat.lt_or_ge i b.length with hlt | hge
  · refine .inr ⟨⟨e _ _ fz0, by rw [enc_len]; exact hlt⟩, fun H2 => i + 1 ≤ b.length ∧ Ex H0 H2 ∧ ∃ acc, H2 l = some (.lst acc) ∧ acc.length = i + 1 ∧ ImAll (del H2 l) ((b.take (i + 1)).map prD) acc, fun H2 p => ⟨b.length - (i + 1), by omega, rfl, p⟩, ?_⟩
    rintro x H2 ⟨t, ky, v, q, hkv, rfl, hT, rfl, hq⟩
    obtain ⟨wd, mk, hb, rfl, rfl⟩ := enc_get hkv
    have eT : Ex H' (upd H' t (.tup [.ref q, .int mk])) := Ex.new hT
    refine ⟨t, [.ref q, .int mk], rfl, st_of upd_same, rfl, .ref q, [.int mk], rfl, .int mk, [], rfl, rfl, rfl, ?_⟩
    refine ⟨_, rfl, _, rfl, ⟨by show 2 ≤ sizeLine; decide, fun p p0 => ?_⟩⟩
    have e2 : Ex H' (upd (upd H' t (.tup [.ref q, .int mk])) p (.tup [.ref q, .int mk])) := eT.trans (Ex.new p0)
    refine ⟨acc, e2 _ _ hacc, by rw [al]; exact sz_lt (by omega), by omega, Ex.mut (e.trans e2) l0, acc ++ [.ref p], upd_same, by rw [List.length_append, al]; rfl, ?_⟩
    have hlp : p ≠ l := fun q => by rw [q, eT _ _ hacc] at p0; cases p0
    have hql : q ≠ l := fun z => by rw [z, hacc] at hq; cases hq
    have ed : Ex (del H' l) (del (upd (upd (upd H' t (.tup [.ref q, .int mk])) p (.tup [.ref q, .int mk])) l (.lst (acc ++ [.ref p]))) l) := (del_ex e2).trans del_upd'
    rw [take_snoc hb, List.map_append]
    refine (hI.ex ed).app (ImAll.one ?_)
    refine .tup (xs := [.ref q, .int mk]) (by rw [del_ne hlp, upd_ne hlp]; exact upd_same) (.cons ((wD_of (H := del H' l) (by rw [del_ne hql]; exact hq)).ex ed) (.cons (.int mk) .nil))
  · have hnl : i = b.length := by omega
    subst hnl
    refine .inl ⟨⟨e _ _ fz0, by rw [enc_len]; exact Nat.le_refl _⟩, e _ _ fz0, ?_⟩
    rw [List.take_length] at hI
    refine k l _ acc (n0 _ l0) (fun c o h => ?_) (by rw [upd_ne nld]; exact hacc) ?_
    · by_cases q : c = d
      · rw [q, upd_same, ← hd, ← q]; exact h
      · rw [upd_ne q]
        exact e _ _ (e0 c o q h)
    · refine hI.kt (fun c xs h => ?_) (ptAll_prD b)
      have hcl : c ≠ l := fun q => by rw [q] at h; unfold del at h; rw [if_pos rfl] at h; cases h
      rw [del_ne hcl] at h
      have hcd : c ≠ d := fun q => by rw [q, e _ _ fz0] at h; cases h
      rw [upd_ne hcd]
      exact h
end
end Gr
end
section
set_option maxRecDepth 100000
set_option maxHeartbeats 4000000
/-! The asker: where it stands, its fields, its small methods. -/
namespace Gr
open PySem L2 PySem.Spec PyProof.Rows Evl
structure Ad where
  p : Addr
  bk : Addr
  d : Addr
  l1 : Addr
  l2 : Addr
def af (L most : Nat) (A : Ad) (hv wv : V) : List (Str × V) := [("letters", .int (L : Int)), ("most", .int (most : Int)), ("book", .ref A.bk), ("firsts", .ref A.l1), ("lasts", .ref A.l2), ("hunting", hv), ("wish", wv)]
section
variable {L most : Nat} {A : Ad} {hv wv v : V}
theorem af_letters : (af L most A hv wv).lookup ("letters" : Str) = some (.int (L : Int)) := by
  unfold af
  rw [lk_cons, if_pos rfl]
theorem af_most : (af L most A hv wv).lookup ("most" : Str) = some (.int (most : Int)) := by
  unfold af
  rw [lk_cons, if_neg (by decide +kernel), lk_cons, if_pos rfl]
theorem af_book : (af L most A hv wv).lookup ("book" : Str) = some (.ref A.bk) := by
  unfold af
  rw [lk_cons, if_neg (by decide +kernel), lk_cons, if_neg (by decide +kernel), lk_cons, if_pos rfl]
theorem af_firsts : (af L most A hv wv).lookup ("firsts" : Str) = some (.ref A.l1) := by
  unfold af
  rw [lk_cons, if_neg (by decide +kernel), lk_cons, if_neg (by decide +kernel), lk_cons, if_neg (by decide +kernel), lk_cons, if_pos rfl]
theorem af_lasts : (af L most A hv wv).lookup ("lasts" : Str) = some (.ref A.l2) := by
  unfold af
  rw [lk_cons, if_neg (by decide +kernel), lk_cons, if_neg (by decide +kernel), lk_cons, if_neg (by decide +kernel), lk_cons, if_neg (by decide +kernel), lk_cons, if_pos rfl]
theorem af_hunting : (af L most A hv wv).lookup ("hunting" : Str) = some hv := by
  unfold af
  rw [lk_cons, if_neg (by decide +kernel), lk_cons, if_neg (by decide +kernel), lk_cons, if_neg (by decide +kernel), lk_cons, if_neg (by decide +kernel), lk_cons, if_neg (by decide +kernel), lk_cons, if_pos rfl]
theorem af_wish : (af L most A hv wv).lookup ("wish" : Str) = some wv := by
  unfold af
  rw [lk_cons, if_neg (by decide +kernel), lk_cons, if_neg (by decide +kernel), lk_cons, if_neg (by decide +kernel), lk_cons, if_neg (by decide +kernel), lk_cons, if_neg (by decide +kernel), lk_cons, if_neg (by decide +kernel), lk_cons, if_pos rfl]
def afNames : List Str := ["letters", "most", "book", "firsts", "lasts", "hunting", "wish"]
theorem af_no {m : Str} (h : afNames.all (fun n => decide (m ≠ n)) = true) : (af L most A hv wv).lookup m = none := by
  simp only [afNames, List.all_cons, List.all_nil, Bool.and_true, Bool.and_eq_true, decide_eq_true_eq] at h
  obtain ⟨h1, h2, h3, h4, h5, h6, h7⟩ := h
  unfold af
  rw [lk_cons, if_neg h1, lk_cons, if_neg h2, lk_cons, if_neg h3, lk_cons, if_neg h4, lk_cons, if_neg h5, lk_cons, if_neg h6, lk_cons, if_neg h7]
  rfl
theorem put_cons {f g : Str} {x : V} {r : List (Str × V)} : putF f v ((g, x) :: r) = if g = f then (g, v) :: r else (g, x) :: putF f v r := rfl
theorem af_put_hunting : putF "hunting" v (af L most A hv wv) = af L most A v wv := by
  unfold af
  rw [put_cons, if_neg (by decide +kernel), put_cons, if_neg (by decide +kernel), put_cons, if_neg (by decide +kernel), put_cons, if_neg (by decide +kernel), put_cons, if_neg (by decide +kernel), put_cons, if_pos rfl]
theorem af_put_wish : putF "wish" v (af L most A hv wv) = af L most A hv v := by
  unfold af
  rw [put_cons, if_neg (by decide +kernel), put_cons, if_neg (by decide +kernel), put_cons, if_neg (by decide +kernel), put_cons, if_neg (by decide +kernel), put_cons, if_neg (by decide +kernel), put_cons, if_neg (by decide +kernel), put_cons, if_pos rfl]
end
/-- the asker at A -/
structure At (CA CB : Addr) (A : Ad) (L most : Nat) (b : List (Word × Int)) (fi la : List Word) (hu wi : PyData) (H : Hp) : Prop where
  ins : ∃ dx hv wv, H A.p = some (.ins CA dx (af L most A hv wv)) ∧ Im H hu hv ∧ Im H wi wv
  book : BookAt CB L b A.bk A.d H
  one : ∃ xs, H A.l1 = some (.lst xs) ∧ ImAll H (wsD fi) xs
  two : ∃ xs, H A.l2 = some (.lst xs) ∧ ImAll H (wsD la) xs
  ne : A.l1 ≠ A.l2
  hpt : pt hu = true
  wpt : pt wi = true
/-- all but the asker stands -/
def Fq (A : Ad) (H H' : Hp) : Prop := ∀ c o, c ≠ A.p → c ≠ A.d → c ≠ A.l1 → c ≠ A.l2 → H c = some o → H' c = some o
theorem fq_ex {A : Ad} {H H' : Hp} (e : Ex H H') : Fq A H H' := fun c o _ _ _ _ h => e c o h
theorem Fq.refl (A : Ad) (H : Hp) : Fq A H H := fq_ex (Ex.refl H)
theorem Fq.trans {A : Ad} {H H1 H2 : Hp} (f : Fq A H H1) (g : Fq A H1 H2) : Fq A H H2 := fun c o h1 h2 h3 h4 h => g c o h1 h2 h3 h4 (f c o h1 h2 h3 h4 h)
theorem Fq.ex {A : Ad} {H0 H H' : Hp} (f : Fq A H H') (e : Ex H0 H) (h1 : H0 A.p = none) (h2 : H0 A.d = none) (h3 : H0 A.l1 = none) (h4 : H0 A.l2 = none) : Ex H0 H' := fun c o h =>
  f c o (ne_of_none h h1) (ne_of_none h h2) (ne_of_none h h3) (ne_of_none h h4) (e c o h)
theorem fq_p {A : Ad} {H H1 : Hp} {o : HO} (e : Ex H H1) : Fq A H (upd H1 A.p o) := fun c u n1 _ _ _ h => by rw [upd_ne n1]; exact e c u h
theorem fq_d {A : Ad} {H H1 : Hp} (f : Fd A.d H H1) : Fq A H H1 := fun c u _ n _ _ h => f c u n h
theorem fq_1 {A : Ad} {H H1 : Hp} {o : HO} (e : Ex H H1) : Fq A H (upd H1 A.l1 o) := fun c u _ _ n _ h => by rw [upd_ne n]; exact e c u h
theorem fq_2 {A : Ad} {H H1 : Hp} {o : HO} (e : Ex H H1) : Fq A H (upd H1 A.l2 o) := fun c u _ _ _ n h => by rw [upd_ne n]; exact e c u h
section
variable {CA CB : Addr} {A : Ad} {L most : Nat} {b : List (Word × Int)} {fi la : List Word} {hu wi : PyData} {H H' : Hp}
theorem At.kt (S : At CA CB A L most b fi la hu wi H) (f : Fq A H H') : Kt H H' := fun c xs h => by
  obtain ⟨dx, hv, wv, hp, _⟩ := S.ins
  obtain ⟨_, hd⟩ := S.book
  obtain ⟨_, h1, _⟩ := S.one
  obtain ⟨_, h2, _⟩ := S.two
  exact f c _ (ne_of h hp fun z => nomatch z) (ne_of h hd fun z => nomatch z) (ne_of h h1 fun z => nomatch z) (ne_of h h2 fun z => nomatch z) h
theorem At.ex (S : At CA CB A L most b fi la hu wi H) (e : Ex H H') : At CA CB A L most b fi la hu wi H' := by
  obtain ⟨⟨dx, hv, wv, hp, i1, i2⟩, ⟨⟨dxb, hb⟩, hd⟩, ⟨x1, h1, j1⟩, ⟨x2, h2, j2⟩, ne, q1, q2⟩ := S
  exact ⟨⟨dx, hv, wv, e _ _ hp, i1.ex e, i2.ex e⟩, ⟨⟨dxb, e _ _ hb⟩, e _ _ hd⟩, ⟨x1, e _ _ h1, j1.ex e⟩, ⟨x2, e _ _ h2, j2.ex e⟩, ne, q1, q2⟩
theorem At.npb (S : At CA CB A L most b fi la hu wi H) : A.bk ≠ A.p := fun z => by
  obtain ⟨dx, hv, wv, hp, _⟩ := S.ins
  obtain ⟨⟨dxb, hb⟩, _⟩ := S.book
  rw [z, hp] at hb
  have e := Option.some.inj hb
  injection e with _ _ e
  have := congrArg List.length e
  simp [af, bf] at this
theorem At.ndp (S : At CA CB A L most b fi la hu wi H) : A.d ≠ A.p := fun z => by
  obtain ⟨dx, hv, wv, hp, _⟩ := S.ins
  have h := S.book.2
  rw [z, hp] at h
  cases h
theorem At.n1p (S : At CA CB A L most b fi la hu wi H) : A.l1 ≠ A.p := fun z => by
  obtain ⟨dx, hv, wv, hp, _⟩ := S.ins
  obtain ⟨_, h, _⟩ := S.one
  rw [z, hp] at h
  cases h
theorem At.n2p (S : At CA CB A L most b fi la hu wi H) : A.l2 ≠ A.p := fun z => by
  obtain ⟨dx, hv, wv, hp, _⟩ := S.ins
  obtain ⟨_, h, _⟩ := S.two
  rw [z, hp] at h
  cases h
theorem At.nb1 (S : At CA CB A L most b fi la hu wi H) : A.bk ≠ A.l1 := fun z => by
  obtain ⟨⟨dxb, hb⟩, _⟩ := S.book
  obtain ⟨_, h, _⟩ := S.one
  rw [← z, hb] at h
  cases h
theorem At.nb2 (S : At CA CB A L most b fi la hu wi H) : A.bk ≠ A.l2 := fun z => by
  obtain ⟨⟨dxb, hb⟩, _⟩ := S.book
  obtain ⟨_, h, _⟩ := S.two
  rw [← z, hb] at h
  cases h
theorem At.nd1 (S : At CA CB A L most b fi la hu wi H) : A.d ≠ A.l1 := fun z => by
  have hd := S.book.2
  obtain ⟨_, h, _⟩ := S.one
  rw [← z, hd] at h
  cases h
theorem At.nd2 (S : At CA CB A L most b fi la hu wi H) : A.d ≠ A.l2 := fun z => by
  have hd := S.book.2
  obtain ⟨_, h, _⟩ := S.two
  rw [← z, hd] at h
  cases h
/-- another thing in the fields hunting and wish -/
theorem At.fields (S : At CA CB A L most b fi la hu wi H) (e : Ex H H') {dx : Addr} {hv wv : V} {hu' wi' : PyData} (h1 : Im H' hu' hv) (h2 : Im H' wi' wv) (p1 : pt hu' = true) (p2 : pt wi' = true) : At CA CB A L most b fi la hu' wi' (upd H' A.p (.ins CA dx (af L most A hv wv))) := by
  have S' := S.ex e
  have kt := S'.kt (H' := upd H' A.p (.ins CA dx (af L most A hv wv))) (fq_p (Ex.refl _))
  have ⟨⟨_, _, _, hp, _, _⟩, ⟨⟨dxb, hb⟩, hd⟩, ⟨x1, g1, j1⟩, ⟨x2, g2, j2⟩, ne, q1, q2⟩ := S'
  exact ⟨⟨dx, hv, wv, upd_same, h1.kt kt p1, h2.kt kt p2⟩, ⟨⟨dxb, by rw [upd_ne S.npb]; exact hb⟩, by rw [upd_ne S.ndp]; exact hd⟩, ⟨x1, by rw [upd_ne S.n1p]; exact g1, j1.kt kt (ptAll_ws _)⟩, ⟨x2, by rw [upd_ne S.n2p]; exact g2, j2.kt kt (ptAll_ws _)⟩, ne, p1, p2⟩
/-- a word more in the first row -/
theorem At.first (S : At CA CB A L most b fi la hu wi H) (e : Ex H H') {xs : List V} {v : V} {w : Word} (hx : H A.l1 = some (.lst xs)) (hv : Im H' (wD w) v) : At CA CB A L most b (fi ++ [w]) la hu wi (upd H' A.l1 (.lst (xs ++ [v]))) := by
  have S' := S.ex e
  have kt := S'.kt (H' := upd H' A.l1 (.lst (xs ++ [v]))) (fq_1 (Ex.refl _))
  have ⟨⟨dx, hv', wv, hp, i1, i2⟩, ⟨⟨dxb, hb⟩, hd⟩, ⟨x1, g1, j1⟩, ⟨x2, g2, j2⟩, ne, q1, q2⟩ := S'
  rw [e _ _ hx] at g1
  cases g1
  refine ⟨⟨dx, hv', wv, by rw [upd_ne S.n1p.symm]; exact hp, i1.kt kt q1, i2.kt kt q2⟩, ⟨⟨dxb, by rw [upd_ne S.nb1]; exact hb⟩, by rw [upd_ne S.nd1]; exact hd⟩, ⟨xs ++ [v], upd_same, ?_⟩, ⟨x2, by rw [upd_ne ne.symm]; exact g2, j2.kt kt (ptAll_ws _)⟩, ne, q1, q2⟩
  show ImAll _ ((fi ++ [w]).map wD) _
  rw [List.map_append]
  exact (j1.kt kt (ptAll_ws _)).app (ImAll.one (hv.kt kt (pt_wD _)))
/-- a word more in the second row -/
theorem At.last (S : At CA CB A L most b fi la hu wi H) (e : Ex H H') {xs : List V} {v : V} {w : Word} (hx : H A.l2 = some (.lst xs)) (hv : Im H' (wD w) v) : At CA CB A L most b fi (la ++ [w]) hu wi (upd H' A.l2 (.lst (xs ++ [v]))) := by
  have S' := S.ex e
  have kt := S'.kt (H' := upd H' A.l2 (.lst (xs ++ [v]))) (fq_2 (Ex.refl _))
  have ⟨⟨dx, hv', wv, hp, i1, i2⟩, ⟨⟨dxb, hb⟩, hd⟩, ⟨x1, g1, j1⟩, ⟨x2, g2, j2⟩, ne, q1, q2⟩ := S'
  rw [e _ _ hx] at g2
  cases g2
  refine ⟨⟨dx, hv', wv, by rw [upd_ne S.n2p.symm]; exact hp, i1.kt kt q1, i2.kt kt q2⟩, ⟨⟨dxb, by rw [upd_ne S.nb2]; exact hb⟩, by rw [upd_ne S.nd2]; exact hd⟩, ⟨x1, by rw [upd_ne ne]; exact g1, j1.kt kt (ptAll_ws _)⟩, ⟨xs ++ [v], upd_same, ?_⟩, ne, q1, q2⟩
  show ImAll _ ((la ++ [w]).map wD) _
  rw [List.map_append]
  exact (j2.kt kt (ptAll_ws _)).app (ImAll.one (hv.kt kt (pt_wD _)))
/-- a pair more in the book -/
theorem At.put (S : At CA CB A L most b fi la hu wi H) (f : Fd A.d H H') {b' : List (Word × Int)} (h : BookAt CB L b' A.bk A.d H') : At CA CB A L most b' fi la hu wi H' := by
  have kt := S.kt (fq_d f)
  have ⟨⟨dx, hv', wv, hp, i1, i2⟩, _, ⟨x1, g1, j1⟩, ⟨x2, g2, j2⟩, ne, q1, q2⟩ := S
  exact ⟨⟨dx, hv', wv, f _ _ S.ndp.symm hp, i1.kt kt q1, i2.kt kt q2⟩, h, ⟨x1, f _ _ S.nd1.symm g1, j1.kt kt (ptAll_ws _)⟩, ⟨x2, f _ _ S.nd2.symm g2, j2.kt kt (ptAll_ws _)⟩, ne, q1, q2⟩
end
section
variable {K : PySem.W.Frag} {mg : Str → Option Value} {CA CB : Addr} {A : Ad} {L most : Nat} {b : List (Word × Int)} {fi la : List Word} {hu wi : PyData} {H : Hp} {σ : L2.St} {D : Ends} {tz : TS} {te ta : TE} {P : VP}
theorem d_fletters (T : All K mg CB CA) (S : At CA CB A L most b fi la hu wi H) (ha : EvP ta σ H (isV (.ref A.p))) : EvP (tFld K ta "letters") σ H (isD (nD L)) := by
  obtain ⟨dx, hv, wv, hp, i1, i2⟩ := S.ins
  exact e_fld ha hp T.clCA T.nCA_letters af_letters (.int _) (mo_D _)
theorem d_fmost (T : All K mg CB CA) (S : At CA CB A L most b fi la hu wi H) (ha : EvP ta σ H (isV (.ref A.p))) : EvP (tFld K ta "most") σ H (isD (nD most)) := by
  obtain ⟨dx, hv, wv, hp, i1, i2⟩ := S.ins
  exact e_fld ha hp T.clCA T.nCA_most af_most (.int _) (mo_D _)
theorem b_fbook (T : All K mg CB CA) (S : At CA CB A L most b fi la hu wi H) (ha : EvP ta σ H (isV (.ref A.p))) : EvP (tFld K ta "book") σ H (isB CB L b) := by
  obtain ⟨dx, hv, wv, hp, i1, i2⟩ := S.ins
  exact e_fld ha hp T.clCA T.nCA_book af_book ⟨A.bk, A.d, rfl, S.book⟩ (mo_B CB L b)
theorem v_fbook (T : All K mg CB CA) (S : At CA CB A L most b fi la hu wi H) (ha : EvP ta σ H (isV (.ref A.p))) : EvP (tFld K ta "book") σ H (isV (.ref A.bk)) := by
  obtain ⟨dx, hv, wv, hp, i1, i2⟩ := S.ins
  exact e_fld ha hp T.clCA T.nCA_book af_book rfl (mo_V _)
theorem d_ffirsts (T : All K mg CB CA) (S : At CA CB A L most b fi la hu wi H) (ha : EvP ta σ H (isV (.ref A.p))) : EvP (tFld K ta "firsts") σ H (isD (.list (wsD fi))) := by
  obtain ⟨dx, hv, wv, hp, i1, i2⟩ := S.ins
  obtain ⟨xs, h1, h2⟩ := S.one
  exact e_fld ha hp T.clCA T.nCA_firsts af_firsts (.lst h1 h2) (mo_D _)
theorem v_ffirsts (T : All K mg CB CA) (S : At CA CB A L most b fi la hu wi H) (ha : EvP ta σ H (isV (.ref A.p))) : EvP (tFld K ta "firsts") σ H (isV (.ref A.l1)) := by
  obtain ⟨dx, hv, wv, hp, i1, i2⟩ := S.ins
  exact e_fld ha hp T.clCA T.nCA_firsts af_firsts rfl (mo_V _)
theorem d_flasts (T : All K mg CB CA) (S : At CA CB A L most b fi la hu wi H) (ha : EvP ta σ H (isV (.ref A.p))) : EvP (tFld K ta "lasts") σ H (isD (.list (wsD la))) := by
  obtain ⟨dx, hv, wv, hp, i1, i2⟩ := S.ins
  obtain ⟨xs, h1, h2⟩ := S.two
  exact e_fld ha hp T.clCA T.nCA_lasts af_lasts (.lst h1 h2) (mo_D _)
theorem v_flasts (T : All K mg CB CA) (S : At CA CB A L most b fi la hu wi H) (ha : EvP ta σ H (isV (.ref A.p))) : EvP (tFld K ta "lasts") σ H (isV (.ref A.l2)) := by
  obtain ⟨dx, hv, wv, hp, i1, i2⟩ := S.ins
  exact e_fld ha hp T.clCA T.nCA_lasts af_lasts rfl (mo_V _)
theorem d_fhunt (T : All K mg CB CA) (S : At CA CB A L most b fi la hu wi H) (ha : EvP ta σ H (isV (.ref A.p))) : EvP (tFld K ta "hunting") σ H (isD hu) := by
  obtain ⟨dx, hv, wv, hp, i1, i2⟩ := S.ins
  exact e_fld ha hp T.clCA T.nCA_hunting af_hunting i1 (mo_D _)
theorem d_fwish (T : All K mg CB CA) (S : At CA CB A L most b fi la hu wi H) (ha : EvP ta σ H (isV (.ref A.p))) : EvP (tFld K ta "wish") σ H (isD wi) := by
  obtain ⟨dx, hv, wv, hp, i1, i2⟩ := S.ins
  exact e_fld ha hp T.clCA T.nCA_wish af_wish i2 (mo_D _)
theorem af_len {hv wv : V} : (af L most A hv wv).length < 1000 := by show 7 < 1000; decide
theorem k_wish (T : All K mg CB CA) (S : At CA CB A L most b fi la hu wi H) (ha : EvP ta σ H (isV (.ref A.p))) {wi' : PyData} (hv : EvP te σ H (isD wi')) (hp : pt wi' = true) (k : ∀ H1, Fq A H H1 → At CA CB A L most b fi la hu wi' H1 → D.nx σ H1) : sFld K ta te "wish" D σ H := by
  obtain ⟨dx, hv', wv, h1, i1, i2⟩ := S.ins
  refine k_fld h1 hv (mo_D _) ha T.clCA T.nCA_wish af_len fun v H1 e1 pv => ?_
  rw [af_put_wish]
  exact k _ (fq_p e1) (S.fields e1 (i1.ex e1) pv S.hpt hp)
theorem q_wish (T : All K mg CB CA) (S : At CA CB A L most b fi la hu wi H) (ha : EvP ta σ H (isV (.ref A.p))) {wi' : PyData} (hv : EvP te σ H (isD wi')) (hp : pt wi' = true) (k : ∀ H1, Fq A H H1 → At CA CB A L most b fi la hu wi' H1 → tz D σ H1) : tSeq (sFld K ta te "wish") tz D σ H := k_wish (D := { D with nx := tz D }) T S ha hv hp k
theorem k_hunt (T : All K mg CB CA) (S : At CA CB A L most b fi la hu wi H) (ha : EvP ta σ H (isV (.ref A.p))) {hu' : PyData} (hv : EvP te σ H (isD hu')) (hp : pt hu' = true) (k : ∀ H1, Fq A H H1 → At CA CB A L most b fi la hu' wi H1 → D.nx σ H1) : sFld K ta te "hunting" D σ H := by
  obtain ⟨dx, hv', wv, h1, i1, i2⟩ := S.ins
  refine k_fld h1 hv (mo_D _) ha T.clCA T.nCA_hunting af_len fun v H1 e1 pv => ?_
  rw [af_put_hunting]
  exact k _ (fq_p e1) (S.fields e1 pv (i2.ex e1) hp S.wpt)
theorem q_hunt (T : All K mg CB CA) (S : At CA CB A L most b fi la hu wi H) (ha : EvP ta σ H (isV (.ref A.p))) {hu' : PyData} (hv : EvP te σ H (isD hu')) (hp : pt hu' = true) (k : ∀ H1, Fq A H H1 → At CA CB A L most b fi la hu' wi H1 → tz D σ H1) : tSeq (sFld K ta te "hunting") tz D σ H := k_hunt (D := { D with nx := tz D }) T S ha hv hp k
theorem q_first (T : All K mg CB CA) (S : At CA CB A L most b fi la hu wi H) (hf : fi.length < 1000) (ha : EvP ta σ H (isV (.ref A.p))) {w : Word} (hv : EvP te σ H (isD (wD w))) (k : ∀ H1, Fq A H H1 → At CA CB A L most b (fi ++ [w]) la hu wi H1 → tz D σ H1) :
    tSeq (tDrop (tBM K "list" rAppend (tFld K ta "firsts") (tCons te tNil))) tz D σ H := by
  obtain ⟨xs, h1, h2⟩ := S.one
  have hl := h2.len
  rw [List.length_map] at hl
  exact q_app h1 (v_ffirsts T S ha) hv (by omega) fun v H1 e1 pv => k _ (fq_1 e1) (S.first e1 h1 pv)
theorem q_last (T : All K mg CB CA) (S : At CA CB A L most b fi la hu wi H) (hf : la.length < 1000) (ha : EvP ta σ H (isV (.ref A.p))) {w : Word} (hv : EvP te σ H (isD (wD w))) (k : ∀ H1, Fq A H H1 → At CA CB A L most b fi (la ++ [w]) hu wi H1 → tz D σ H1) :
    tSeq (tDrop (tBM K "list" rAppend (tFld K ta "lasts") (tCons te tNil))) tz D σ H := by
  obtain ⟨xs, h1, h2⟩ := S.two
  have hl := h2.len
  rw [List.length_map] at hl
  exact q_app h1 (v_flasts T S ha) hv (by omega) fun v H1 e1 pv => k _ (fq_2 e1) (S.last e1 h1 pv)
end
/-- the asker as a value -/
def isAsk (CA CB : Addr) (A : Ad) (L most : Nat) (b : List (Word × Int)) (fi la : List Word) (hu wi : PyData) : VP := fun v H => v = .ref A.p ∧ At CA CB A L most b fi la hu wi H
theorem mo_ask {CA CB : Addr} {A : Ad} {L most : Nat} {b : List (Word × Int)} {fi la : List Word} {hu wi : PyData} : Mo (isAsk CA CB A L most b fi la hu wi) := fun _ _ _ e ⟨h1, h2⟩ => ⟨h1, h2.ex e⟩
theorem ask_ins {CA CB : Addr} {A : Ad} {L most : Nat} {b : List (Word × Int)} {fi la : List Word} {hu wi : PyData} {m : Str} (h : afNames.all (fun n => decide (m ≠ n)) = true) : ∀ v H, isAsk CA CB A L most b fi la hu wi v H → IsIns CA m v H := fun v H ⟨e, S⟩ => by
  obtain ⟨dx, hv, wv, hp, _⟩ := S.ins
  exact ⟨A.p, dx, _, e, hp, af_no h⟩
structure AK where
  A : Ad
  L : Nat
  most : Nat
  b : List (Word × Int)
  fi : List Word
  la : List Word
  hu : PyData
  wi : PyData
abbrev AK.is (CA CB : Addr) (x : AK) : VP := isAsk CA CB x.A x.L x.most x.b x.fi x.la x.hu x.wi
section
variable {P : Program} {w : World} {K : PySem.W.Frag} {mg : Str → Option Value} {base : Heap} {CB CA : Addr}
def sp_wants (CA CB : Addr) : Sp := PurSp (α := AK) (fun _ => True) (fun x => [x.is CA CB]) (fun x => isD x.wi)
theorem ok_wants (T : All K mg CB CA) : Dm P w K mg base CA 1 "wants" ["self"] (sp_wants CA CB) := by
  refine T.t_SayAsker_wants.ok sc_SayAsker_wants (fun vs H Q E h => by obtain ⟨x, _, a, _⟩ := h; exact a.len) (fun f cdv A outer s H vs Q E hr h => ?_)
  obtain ⟨x, _, ⟨v1, _, rfl, ⟨rfl, S⟩, rfl⟩, k⟩ := h
  refine ⟨_, (pss_one (ps_ret (pe_fld (pv 0) rfl))), ?_⟩
  exact k_ret (d_fwish T S (v_var rfl)) fun v H1 e1 pv => k v H1 e1 pv
def sp_access (CA CB : Addr) : Sp := LstSp (α := AK) (fun x => True) (fun x => [x.is CA CB]) (fun x => wsD x.fi)
theorem ok_access (T : All K mg CB CA) : Dm P w K mg base CA 1 "access" ["self"] (sp_access CA CB) := by
  refine T.t_SayAsker_access.ok sc_SayAsker_access (fun vs H Q E h => by obtain ⟨x, _, a, _⟩ := h; exact a.len) (fun f cdv A outer s H vs Q E hr h => ?_)
  obtain ⟨x, _, ⟨v1, _, rfl, ⟨rfl, S⟩, rfl⟩, k⟩ := h
  refine ⟨_, (pss_one (ps_ret (pe_callTy call_list_of (by rfl) T.b_list (by decide +kernel) (pa_cons (pe_fld (pv 0) rfl) pa_nil)))), ?_⟩
  exact k_retF (f_listL (K := K) (d_ffirsts T S (v_var rfl))) fun p H1 xs p0 e1 hp hx => k p H1 xs p0 e1 hp hx
def sp_tellers (CA CB : Addr) : Sp := LstSp (α := AK) (fun x => True) (fun x => [x.is CA CB]) (fun x => wsD x.la)
theorem ok_tellers (T : All K mg CB CA) : Dm P w K mg base CA 1 "tellers" ["self"] (sp_tellers CA CB) := by
  refine T.t_SayAsker_tellers.ok sc_SayAsker_tellers (fun vs H Q E h => by obtain ⟨x, _, a, _⟩ := h; exact a.len) (fun f cdv A outer s H vs Q E hr h => ?_)
  obtain ⟨x, _, ⟨v1, _, rfl, ⟨rfl, S⟩, rfl⟩, k⟩ := h
  refine ⟨_, (pss_one (ps_ret (pe_callTy call_list_of (by rfl) T.b_list (by decide +kernel) (pa_cons (pe_fld (pv 0) rfl) pa_nil)))), ?_⟩
  exact k_retF (f_listL (K := K) (d_flasts T S (v_var rfl))) fun p H1 xs p0 e1 hp hx => k p H1 xs p0 e1 hp hx
def sp_heard (CA CB : Addr) : Sp := LstSp (α := AK) (fun x => x.b.length ≤ 5000) (fun x => [x.is CA CB]) (fun x => x.b.map prD)
theorem heard_no_letters : ¬ (("heard" : Str) = "letters") := by decide +kernel
theorem heard_no_marks : ¬ (("heard" : Str) = "marks") := by decide +kernel
theorem put_no_letters : ¬ (("put" : Str) = "letters") := by decide +kernel
theorem put_no_marks : ¬ (("put" : Str) = "marks") := by decide +kernel
theorem ok_heard (T : All K mg CB CA) (D_Book_heard : Dm P w K mg base CB 1 "heard" ["self"] (sp_Book_heard CB)) : Dm P w K mg base CA 2 "heard" ["self"] (sp_heard CA CB) := by
  refine T.t_SayAsker_heard.ok sc_SayAsker_heard (fun vs H Q E h => by obtain ⟨x, _, a, _⟩ := h; exact a.len) (fun f cdv A outer s H vs Q E hr h => ?_)
  obtain ⟨x, hz, ⟨v1, _, rfl, ⟨rfl, S⟩, rfl⟩, k⟩ := h
  refine ⟨_, (pss_one (ps_ret (pmeth0 (pe_fld (pv 0) rfl) T.clCB D_Book_heard (hr.mono (by decide))))), ?_⟩
  refine k_retF (f_meth (ps := fun x : Nat × List (Word × Int) => [isB CB x.1 x.2]) (ds := fun x : Nat × List (Word × Int) => x.2.map prD) (x.L, x.b) hz (b_fbook T S (v_var rfl)) (mo_B _ _ _) (isB_ins heard_no_letters heard_no_marks) a_nil rfl) fun p H1 xs p0 e1 hp hx => k p H1 xs p0 e1 hp hx
/-! ### agree -/
def dnD (L : Nat) (g : House) : PyData := .tuple [.str "done", hD L g]
def shD (L : Nat) (g : House) : PyData := .tuple [.str "show", hD L g]
def akD (w : Word) : PyData := .tuple [.str "ask", wD w]
def stD (w : Word) : PyData := .tuple [.str "spent", wD w]
theorem pt_dn (L : Nat) (g : House) : pt (dnD L g) = true := by
  have := pt_hD L g
  simp only [dnD, pt, ptAll, Bool.and_true, Bool.true_and] at this ⊢
  exact this
theorem pt_sh (L : Nat) (g : House) : pt (shD L g) = true := by
  have := pt_hD L g
  simp only [shD, pt, ptAll, Bool.and_true, Bool.true_and] at this ⊢
  exact this
theorem pt_ak (w : Word) : pt (akD w) = true := by
  simp only [akD, pt, ptAll, Bool.and_true, Bool.true_and]
  exact ptAll_nat w
theorem pt_st (w : Word) : pt (stD w) = true := by
  simp only [stD, pt, ptAll, Bool.and_true, Bool.true_and]
  exact ptAll_nat w
def sp_agree (CA CB : Addr) : Sp := fun vs H Q _ => ∃ (A : Ad) (L most : Nat) (b : List (Word × Int)) (fi la : List Word) (hu : PyData) (g : House), vs = [.ref A.p] ∧ At CA CB A L most b fi la hu (shD L g) H ∧ ∀ H', Fq A H H' → At CA CB A L most b fi la hu (dnD L g) H' → Q .non H'
theorem ok_agree (T : All K mg CB CA) : Dm P w K mg base CA 1 "agree" ["self"] (sp_agree CA CB) := by
  refine T.t_SayAsker_agree.ok sc_SayAsker_agree (fun vs H Q E h => by obtain ⟨_, _, _, _, _, _, _, _, rfl, _⟩ := h; rfl) (fun f cdv A outer s H vs Q E hr h => ?_)
  obtain ⟨A, L, most, b, fi, la, hu, g, rfl, S, k⟩ := h
  refine ⟨_, (pss_cons (ps_if (pt_cmpR op_ne (pe_ix ix_tup (pe_fld (pv 0) rfl) pe_int (fun _ _ => rfl)) pe_str (nomark _)) (pss_one ps_never) pss_nil) (pss_one (ps_fld (pv 0) (pe_tup (pa_cons pe_str (pa_cons (pe_ix ix_tup (pe_fld (pv 0) rfl) pe_int (fun _ _ => rfl)) pa_nil))) rfl))), ?_⟩
  refine q_no (cn_no (d_neS (d_ixT (K := K) (d_fwish T S (v_var rfl)) (d_int (i := 0)) (at_nat (i := 0) rfl)) d_str) rfl) fun H1 e1 => ?_
  have S1 := S.ex e1
  refine k_wish T S1 (v_var rfl) (d_tup (ds := [.str "done", hD L g]) (a_d d_str (a_d (d_ixT (K := K) (d_fwish T S1 (v_var rfl)) (d_int (i := 1)) (at_nat (i := 1) rfl)) a_nil)) (by show 2 ≤ 100000; decide)) (pt_dn L g) fun H2 f2 S2 => ?_
  exact k H2 ((fq_ex e1).trans f2) S2
end
end Gr
end
section
set_option maxRecDepth 100000
set_option maxHeartbeats 4000000
/-! The asker goes on: take_in, hunt_step, one_step, settle. -/
namespace Gr
open PySem L2 PySem.Spec PyProof.Rows Evl
def huD (hid : Word → Int) (L : Nat) (fi la : List Word) : Hu → PyData
  | none => .none
  | some (w, lo, hi) => .tuple [hD L (guess hid L fi la), wD w, nD lo, nD hi]
theorem pt_hu (hid : Word → Int) (L : Nat) (fi la : List Word) (hu : Hu) : pt (huD hid L fi la hu) = true := by
  match hu with
  | none => rfl
  | some (w, lo, hi) =>
    have h1 := pt_hD L (guess hid L fi la)
    have h2 := pt_wD w
    show pt (.tuple [hD L (guess hid L fi la), wD w, nD lo, nD hi]) = true
    show (pt (hD L (guess hid L fi la)) && (pt (wD w) && (true && (true && true)))) = true
    rw [h1, h2]
    rfl
def NoDon (wi : Wi) : Prop := ∀ g, wi ≠ .don g
def wiD (L : Nat) : Wi → PyData
  | .ask w => akD w
  | .shw g => shD L g
  | .don g => dnD L g
  | .spt w => stD w
theorem pt_wi (L : Nat) (wi : Wi) : pt (wiD L wi) = true := by
  cases wi with
  | ask w => exact pt_ak w
  | shw g => exact pt_sh L g
  | don g => exact pt_dn L g
  | spt w => exact pt_st w
theorem _root_.Gr.Inv.small {L most : Nat} {hid : Word → Int} {b : List (Word × Int)} {fi la : List Word} {hu : Hu} {asks : List Word} {hs kept : Nat} (I : Gr.Inv L most hid b fi la hu asks hs kept) : Small L fi la := by
  have T := I.tab
  have h4 := I.hunLe4
  have l6 := T.l6
  have m4 := T.m4
  have fl := T.fiL
  have hl : hun L la = la.length - L := rfl
  exact ⟨l6, by omega, by omega, fun w hw => by have := (T.fiMem hw).1; omega, fun w hw => by have := (T.laO w hw).2.2; omega⟩
section
variable {CA CB : Addr} {A : Ad} {L most : Nat} {b : List (Word × Int)} {fi la : List Word} {hu wi : PyData} {H : Hp} {σ : L2.St} {D : Ends} {tz : TS} {te ta : TE} {K : PySem.W.Frag}
theorem m_call {i : Nat} {m : Str} {sp : Sp} {t : TA} {Ps : List VP} {Q : VK} {E : XK} (S : At CA CB A L most b fi la hu wi H) (h : σ[i]? = some (some (.ref A.p))) (hm : afNames.all (fun n => decide (m ≠ n)) = true) (ha : EvPA t σ H Ps)
    (k : ∀ vs H2, Ex H H2 → Args Ps vs H2 → sp (.ref A.p :: vs) H2 Q E) : tMeth CA m sp [] E (tVar i) t σ H Q := by
  obtain ⟨dx, hv, wv, hp, _⟩ := S.ins
  refine ⟨.ref A.p, h, A.p, dx, _, rfl, hp, af_no hm, ha H (Ex.refl H) _ fun vs H2 e2 pa => ?_⟩
  rw [List.append_nil]
  exact k vs H2 e2 pa
theorem q_tup4 {i j k l : Nat} {d1 d2 d3 d4 : PyData} (h : EvP te σ H (isD (.tuple [d1, d2, d3, d4]))) (kk : ∀ x1 x2 x3 x4 H1, Ex H H1 → Im H1 d1 x1 → Im H1 d2 x2 → Im H1 d3 x3 → Im H1 d4 x4 → tz D ((((σ.set i (some x1)).set j (some x2)).set k (some x3)).set l (some x4)) H1) :
    tSeq (tAsg te (gTup K 4 (gCons (gName i) (gCons (gName j) (gCons (gName k) (gCons (gName l) gNil)))))) tz D σ H := h H (Ex.refl H) _ fun v H1 e1 pv => by
  obtain ⟨a, xs, rfl, h1, h2⟩ := im_tup pv
  cases h2 with
  | cons c1 h2 => cases h2 with
    | cons c2 h2 => cases h2 with
      | cons c3 h2 => cases h2 with
        | cons c4 h2 =>
          cases h2
          exact ⟨a, _, rfl, st_of h1, rfl, _, _, rfl, _, _, rfl, _, _, rfl, _, _, rfl, rfl, kk _ _ _ _ H1 e1 c1 c2 c3 c4⟩
end
section
variable {P : Program} {w : World} {K : PySem.W.Frag} {mg : Str → Option Value} {base : Heap} {CB CA : Addr}
/-! ### take_in -/
def sp_take (CA CB : Addr) : Sp := fun vs H Q _ => ∃ (A : Ad) (L most : Nat) (b : List (Word × Int)) (fi la : List Word) (hu wi : PyData) (wd : Word) (v2 : V), vs = [.ref A.p, v2] ∧ At CA CB A L most b fi la hu wi H ∧ Im H (wD wd) v2 ∧ fi.length ≤ 100 ∧
  (fi.length = most → ∀ H', Fq A H H' → At CA CB A L most b fi la hu (stD wd) H' → Q (.bl true) H') ∧ (fi.length ≠ most → ∀ H', Fq A H H' → At CA CB A L most b (fi ++ [wd]) la hu wi H' → Q (.bl false) H')
theorem ok_take_in (T : All K mg CB CA) : Dm P w K mg base CA 1 "take_in" ["self", "word"] (sp_take CA CB) := by
  refine T.t_SayAsker_take_in.ok sc_SayAsker_take_in (fun vs H Q E h => by obtain ⟨_, _, _, _, _, _, _, _, _, _, rfl, _⟩ := h; rfl) (fun f cdv A outer s H vs Q E hr h => ?_)
  obtain ⟨A, L, most, b, fi, la, hu, wi, wd, v2, rfl, S, h2, fz, k1, k2⟩ := h
  refine ⟨_, (pss_cons (ps_if (pt_cmpR op_eq (pe_callB call_len_seq (by rfl) T.b_len PySem.boot_len (pa_cons (pe_fld (pv 0) rfl) pa_nil)) (pe_fld (pv 0) rfl) (nomark _)) (pss_cons (ps_fld (pv 0) (pe_tup (pa_cons pe_str (pa_cons (pv 1) pa_nil))) rfl) (pss_one (ps_ret pe_bl))) pss_nil) (pss_cons (ps_expr (pe_bm PySem.F.plainAttrs_list PySem.F.slot_list_append PySem.F.type_list_append mt_append (pe_fld (pv 0) rfl) (pa_cons (pv 1) pa_nil))) (pss_one (ps_ret pe_bl)))), ?_⟩
  refine q_when (t_cmp (d_eqI (d_lenM (K := K) (d_ffirsts T S (v_var rfl))) (d_fmost T S (v_var rfl)))) (fun hb H1 e1 => ?_) (fun hb H1 e1 => ?_)
  · have hl : fi.length = most := by have := of_decide_eq_true hb; omega
    refine q_wish T (S.ex e1) (v_var rfl) (d_tup (ds := [.str "spent", wD wd]) (a_d d_str (a_d (d_var rfl (h2.ex e1)) a_nil)) (by show 2 ≤ 100000; decide)) (pt_st wd) fun H2 f2 S2 => ?_
    refine k_ret d_bl fun v H3 e3 pv => ?_
    rw [im_bl pv]
    exact k1 hl H3 (((fq_ex e1).trans f2).trans (fq_ex e3)) (S2.ex e3)
  · have hl : fi.length ≠ most := by have := of_decide_eq_false hb; omega
    refine q_first T (S.ex e1) (by omega) (v_var rfl) (d_var rfl (h2.ex e1)) fun H2 f2 S2 => ?_
    refine k_ret d_bl fun v H3 e3 pv => ?_
    rw [im_bl pv]
    exact k2 hl H3 (((fq_ex e1).trans f2).trans (fq_ex e3)) (S2.ex e3)
/-! ### hunt_step -/
def sp_hstep (CA CB : Addr) : Sp := fun vs H Q _ => ∃ (A : Ad) (L most : Nat) (hid : Word → Int) (b : List (Word × Int)) (fi la : List Word) (wd : Word) (lo hi : Nat) (wi : PyData) (asks : List Word) (hs kept : Nat), vs = [.ref A.p] ∧
  At CA CB A L most b fi la (huD hid L fi la (some (wd, lo, hi))) wi H ∧ Gr.Inv L most hid b fi la (some (wd, lo, hi)) asks hs kept ∧
  (∀ H', Fq A H H' → 2 ≤ hi - lo → told b (mid hid L fi la wd lo hi) = none → At CA CB A L most b fi la (huD hid L fi la (some (wd, lo, hi))) (akD (mid hid L fi la wd lo hi)) H' → Q (.bl true) H') ∧
  (∀ H' la' hu', Fq A H H' → la <+: la' → Gr.Inv L most hid b fi la' hu' asks hs kept → mu most L fi la' hu' < mu most L fi la (some (wd, lo, hi)) → At CA CB A L most b fi la' (huD hid L fi la' hu') wi H' → Q (.bl false) H')
theorem ok_hunt_step (T : All K mg CB CA) (D_room_reached : Df P w K mg base 1 "room_reached" ["house", "word"] sp_room_reached) (D_Book_told : Dm P w K mg base CB 1 "told" ["self", "word"] (sp_told CB)) (D_last_said : Df P w K mg base 3 "last_said" ["house", "word"] sp_last_said) : Dm P w K mg base CA 4 "hunt_step" ["self"] (sp_hstep CA CB) := by
  refine T.t_SayAsker_hunt_step.ok sc_SayAsker_hunt_step (fun vs H Q E h => by obtain ⟨_, _, _, _, _, _, _, _, _, _, _, _, _, _, rfl, _⟩ := h; rfl) (fun f cdv A outer s H vs Q E hr h => ?_)
  obtain ⟨A, L, most, hid, b, fi, la, wd, lo, hi, wi, asks, hs, kept, rfl, S, I, k1, k2⟩ := h
  have TB := I.tab
  have Sm := I.small
  have h4 := I.hunLe4
  obtain ⟨HO, hfi, _⟩ := I.ya wd lo hi rfl
  have O := guess_ok TB HO.cl
  have hz := HO.sz
  have hw := HO.hw
  have hlt := HO.lt
  refine ⟨_, (pss_cons (ps_asg (pe_fld (pv 0) rfl) (pg_tup (by rfl) (pgs_cons (pg_name (i := 1) sc_SayAsker_hunt_step.nd rfl (.inl rfl)) (pgs_cons (pg_name (i := 2) sc_SayAsker_hunt_step.nd rfl (.inl rfl)) (pgs_cons (pg_name (i := 3) sc_SayAsker_hunt_step.nd rfl (.inl rfl)) (pgs_cons (pg_name (i := 4) sc_SayAsker_hunt_step.nd rfl (.inl rfl)) pgs_nil)))))) (pss_cons (ps_if (pt_cmpR op_eq (pe_op op_sub (pv 4) (pv 3)) pe_int (nomark _)) (pss_cons (ps_expr (pe_bm PySem.F.plainAttrs_list PySem.F.slot_list_append PySem.F.type_list_append mt_append (pe_fld (pv 0) rfl) (pa_cons (pe_slice sl_tupA (pv 2) (po_some (pv 4)) po_none) pa_nil))) (pss_cons (ps_fld (pv 0) pe_non rfl) (pss_one (ps_ret pe_bl)))) pss_nil) (pss_cons (ps_set (i := 5) sc_SayAsker_hunt_step.nd rfl (.inl rfl) (pe_op op_fdiv (pe_op op_add (pv 3) (pv 4)) pe_int)) (pss_cons (ps_set (i := 6) sc_SayAsker_hunt_step.nd rfl (.inl rfl) (pe_op op_catA (pe_ix ix_list (pe_fld (pv 0) rfl) (pcall D_room_reached (hr.mono (by decide)) rfl (pa_cons (pv 1) (pa_cons (pe_slice sl_tupA (pv 2) po_none (po_some (pv 5))) pa_nil))) (fun _ _ => rfl)) (pe_slice sl_tupA (pv 2) (po_some (pv 5)) po_none))) (pss_cons (ps_set (i := 7) sc_SayAsker_hunt_step.nd rfl (.inl rfl) (pmeth (pe_fld (pv 0) rfl) T.clCB D_Book_told (hr.mono (by decide)) (pa_cons (pv 6) pa_nil))) (pss_cons (ps_if (pt_cmp (pc_isN (pv 7))) (pss_cons (ps_fld (pv 0) (pe_tup (pa_cons pe_str (pa_cons (pv 6) pa_nil))) rfl) (pss_one (ps_ret pe_bl))) pss_nil) (pss_cons (ps_if (pt_cmpR op_eq (pv 7) (pcall D_last_said (hr.mono (by decide)) rfl (pa_cons (pv 1) (pa_cons (pv 2) pa_nil))) (nomark _)) (pss_one (ps_set (i := 4) sc_SayAsker_hunt_step.nd rfl (.inl rfl) (pv 5))) (pss_one (ps_set (i := 3) sc_SayAsker_hunt_step.nd rfl (.inl rfl) (pv 5)))) (pss_cons (ps_fld (pv 0) (pe_tup (pa_cons (pv 1) (pa_cons (pv 2) (pa_cons (pv 3) (pa_cons (pv 4) pa_nil))))) rfl) (pss_one (ps_ret pe_bl)))))))))), ?_⟩
  refine q_tup4 (d1 := hD L (guess hid L fi la)) (d2 := wD wd) (d3 := nD lo) (d4 := nD hi) (d_fhunt T S (v_var rfl)) fun x1 x2 x3 x4 H1 e1 p1 p2 p3 p4 => ?_
  have S1 := S.ex e1
  refine q_when (t_cmp (d_eqI (d_sub (i := hi) (j := lo) (d_var rfl p4) (d_var rfl p3)) (d_int (i := 1)))) (fun hb H2 e2 => ?_) (fun hb H2 e2 => ?_)
  · have h1 : hi - lo = 1 := by have := of_decide_eq_true hb; omega
    have S2 := S1.ex e2
    refine q_last T S2 (by have := Sm.ll; omega) (v_var rfl) (w := wd.drop hi) (d_slFrom (K := K) (d_var rfl (p2.ex e2)) (d_var rfl (p4.ex e2))) fun H3 f3 S3 => ?_
    refine q_hunt T S3 (v_var rfl) d_non rfl fun H4 f4 S4 => ?_
    refine k_ret d_bl fun v H5 e5 pv => ?_
    rw [im_bl pv]
    exact k2 H5 (la ++ [wd.drop hi]) none (((fq_ex (e1.trans e2)).trans f3).trans (f4.trans (fq_ex e5))) (List.prefix_append _ _) (inv_end I h1) (mu_end TB.laL (by have := TB.fiL; omega) TB.fiL) (S4.ex e5)
  · have h2 : 2 ≤ hi - lo := by have := of_decide_eq_false hb; omega
    have S2 := S1.ex e2
    have e12 := e1.trans e2
    refine q_asg (EvP.eq (d_fdiv (i := lo + hi) (j := 2) (d_add (i := lo) (j := hi) (d_var rfl (p3.ex e2)) (d_var rfl (p4.ex e2))) d_int ⟨by decide, by decide⟩) (show ((lo : Int) + (hi : Int)) / 2 = (((lo + hi) / 2 : Nat) : Int) by omega)) fun v5 H3 e3 pv5 => ?_
    have e13 := e2.trans e3
    have S3 := S1.ex e13
    have lets : Lets L (wd.take ((lo + hi) / 2)) := HO.wl.take _
    have okR : HW.ok ⟨L, guess hid L fi la, wd.take ((lo + hi) / 2)⟩ := ⟨O, lets, by show (wd.take _).length ≤ 2000; rw [List.length_take]; omega⟩
    have am := acc_mem TB HO.cl lets
    have al := (TB.fiMem am).1
    have pv5 : Im H3 (nD ((lo + hi) / 2)) v5 := pv5
    refine q_asg (d_catW (K := K) (w := acc hid L fi la (wd.take ((lo + hi) / 2))) (v := wd.drop ((lo + hi) / 2)) (d_ixL (K := K) (d_ffirsts T S3 (v_var rfl)) (e_call (x := (⟨L, guess hid L fi la, wd.take ((lo + hi) / 2)⟩ : HW)) okR (a_d (d_var rfl (p1.ex e13)) (a_d (d_slTo (K := K) (d_var rfl (p2.ex e13)) (d_var rfl pv5)) a_nil))) (at_map (acc_at TB HO.cl lets))) (d_slFrom (K := K) (d_var rfl (p2.ex e13)) (d_var rfl pv5)) (by rw [List.length_drop]; omega)) fun v6 H4 e4 pv6 => ?_
    have pv6 : Im H4 (wD (mid hid L fi la wd lo hi)) v6 := pv6
    have S4 := S3.ex e4
    refine q_asg (e_meth (x := (L, b, mid hid L fi la wd lo hi)) trivial (b_fbook T S4 (v_var rfl)) (mo_B _ _ _) (isB_ins told_no_letters told_no_marks) (a_d (d_var rfl pv6) a_nil) rfl) fun v7 H5 e5 pv7 => ?_
    have pv7 : Im H5 (optD (told b (mid hid L fi la wd lo hi))) v7 := pv7
    have S5 := S4.ex e5
    have e35 := e4.trans e5
    have fq05 : Fq A H H5 := fq_ex ((e1.trans e13).trans e35)
    cases ht : told b (mid hid L fi la wd lo hi) with
    | none =>
      rw [ht] at pv7
      have pv7 : v7 = .non := im_non pv7
      subst pv7
      refine q_yes (t_cmp (d_isN (v_var rfl) (fun v H1 p => by rw [show v = .non from p]; rfl))) fun H6 e6 => ?_
      refine q_wish T (S5.ex e6) (v_var rfl) (d_tup (ds := [.str "ask", wD (mid hid L fi la wd lo hi)]) (a_d d_str (a_d (d_var rfl (pv6.ex (e5.trans e6))) a_nil)) (by show 2 ≤ 100000; decide)) (pt_ak _) fun H7 f7 S7 => ?_
      refine k_ret d_bl fun v H8 e8 pv => ?_
      rw [im_bl pv]
      exact k1 H8 ((fq05.trans (fq_ex e6)).trans (f7.trans (fq_ex e8))) h2 ht (S7.ex e8)
    | some m =>
      have hm : m = hid (mid hid L fi la wd lo hi) := by
        have := I.bok.told (w := mid hid L fi la wd lo hi) (by rw [ht]; exact fun z => nomatch z)
        rw [ht] at this
        exact Option.some.inj this
      rw [ht] at pv7
      have pv7 : v7 = .int m := im_int pv7
      subst pv7
      refine q_no (t_cmp (d_isN (v_var rfl) (fun v H1 p => by rw [show v = .int m from p]; rfl))) fun H6 e6 => ?_
      have S6 := S5.ex e6
      have e16 := (e13.trans e35).trans e6
      have okW : HW.ok ⟨L, guess hid L fi la, wd⟩ ∧ wd ≠ [] := ⟨⟨O, HO.wl, by show wd.length ≤ 2000; omega⟩, fun z => by rw [z] at hw; simp at hw⟩
      obtain ⟨i1, i2⟩ := inv_halve I h2
      obtain ⟨m1, m2⟩ := mu_halve (most := most) (L := L) (fi := fi) (la := la) (w := wd) h2
      refine q_ifAsg2 (P := isD (nD ((lo + hi) / 2))) (R := isD (nD ((lo + hi) / 2))) (t_cmp (d_eqI (d_var (d := .int m) rfl (.int m)) (e_call (x := (⟨L, guess hid L fi la, wd⟩ : HW)) okW (a_d (d_var rfl (p1.ex e16)) (a_d (d_var rfl (p2.ex e16)) a_nil)))))
        (fun σ' H' => ∃ lo' hi' y3 y4, Ex H6 H' ∧ Im H' (nD lo') y3 ∧ Im H' (nD hi') y4 ∧ Gr.Inv L most hid b fi la (some (wd, lo', hi')) asks hs kept ∧ mu most L fi la (some (wd, lo', hi')) < mu most L fi la (some (wd, lo, hi)) ∧ ∃ o5 o6 o7, σ' = [some (.ref A.p), some x1, some x2, some y3, some y4, o5, o6, o7])
        (fun _ => d_var rfl (pv5.ex (e35.trans e6))) (fun _ => d_var rfl (pv5.ex (e35.trans e6))) (fun hb v H7 e7 pv => ⟨lo, (lo + hi) / 2, x3, v, e7, p3.ex (e16.trans e7), pv, i1 ?_, m1, _, _, _, rfl⟩) (fun hb v H7 e7 pv => ⟨(lo + hi) / 2, hi, v, x4, e7, pv, p4.ex (e16.trans e7), i2 ?_, m2, _, _, _, rfl⟩) ?_
      · rw [← hm]; exact of_decide_eq_true hb
      · rw [← hm]; exact of_decide_eq_false hb
      rintro σ7 H7 ⟨lo', hi', y3, y4, e7, q3, q4, I', m', o5, o6, o7, rfl⟩
      refine q_hunt T (S6.ex e7) (v_var rfl) (hu' := huD hid L fi la (some (wd, lo', hi'))) (d_tup (ds := [hD L (guess hid L fi la), wD wd, nD lo', nD hi']) (a_d (d_var rfl (p1.ex (e16.trans e7))) (a_d (d_var rfl (p2.ex (e16.trans e7))) (a_d (d_var rfl q3) (a_d (d_var rfl q4) a_nil)))) (by show 4 ≤ 100000; decide)) (pt_hu _ _ _ _ _) fun H8 f8 S8 => ?_
      refine k_ret d_bl fun v H9 e9 pv => ?_
      rw [im_bl pv]
      exact k2 H9 la (some (wd, lo', hi')) ((fq05.trans (fq_ex (e6.trans e7))).trans (f8.trans (fq_ex e9))) (List.prefix_refl _) I' m' (S8.ex e9)
end
end Gr
end
section
set_option maxRecDepth 100000
set_option maxHeartbeats 4000000
/-! The asker goes on: one_step, settle, hear, differ. -/
namespace Gr
open PySem L2 PySem.Spec PyProof.Rows Evl
section
variable {P : Program} {w : World} {K : PySem.W.Frag} {mg : Str → Option Value} {base : Heap} {CB CA : Addr}
/-! ### one_step -/
def sp_step (CA CB : Addr) : Sp := fun vs H Q _ => ∃ (A : Ad) (L most : Nat) (hid : Word → Int) (b : List (Word × Int)) (fi la : List Word) (hu : Hu) (wi : PyData) (asks : List Word) (hs kept : Nat), vs = [.ref A.p] ∧
  At CA CB A L most b fi la (huD hid L fi la hu) wi H ∧ Gr.Inv L most hid b fi la hu asks hs kept ∧ b.length ≤ 5000 ∧
  (∀ H' wi', Fq A H H' → NoDon wi' → Ready L most hid b fi la hu asks hs kept wi' → At CA CB A L most b fi la (huD hid L fi la hu) (wiD L wi') H' → Q (.bl true) H') ∧
  (∀ H' fi' la' hu', Fq A H H' → fi <+: fi' → la <+: la' → Gr.Inv L most hid b fi' la' hu' asks hs kept → mu most L fi' la' hu' < mu most L fi la hu → At CA CB A L most b fi' la' (huD hid L fi' la' hu') wi H' → Q (.bl false) H')
theorem ok_one_step (T : All K mg CB CA) (D_SayAsker_hunt_step : Dm P w K mg base CA 4 "hunt_step" ["self"] (sp_hstep CA CB)) (D_gap : Df P w K mg base 2 "gap" ["book", "letters", "access", "ends"] (sp_gap CB)) (D_stranger : Df P w K mg base 4 "stranger" ["book", "letters", "access", "ends"] (sp_stranger CB)) (D_SayAsker_take_in : Dm P w K mg base CA 1 "take_in" ["self", "word"] (sp_take CA CB))
    (D_says_guess : Df P w K mg base 4 "says_guess" ["book", "letters", "access", "ends"] (sp_says_guess CB)) (D_Book_heard : Dm P w K mg base CB 1 "heard" ["self"] (sp_Book_heard CB)) (D_last_said : Df P w K mg base 3 "last_said" ["house", "word"] sp_last_said) : Dm P w K mg base CA 5 "one_step" ["self"] (sp_step CA CB) := by
  refine T.t_SayAsker_one_step.ok sc_SayAsker_one_step (fun vs H Q E h => by obtain ⟨_, _, _, _, _, _, _, _, _, _, _, _, rfl, _⟩ := h; rfl) (fun f cdv A outer s H vs Q E hr h => ?_)
  obtain ⟨A, L, most, hid, b, fi, la, hu, wi, asks, hs, kept, rfl, S, I, bz, k1, k2⟩ := h
  have TB := I.tab
  have Sm := I.small
  have h4 := I.hunLe4
  refine ⟨_, (pss_cons (ps_if (pt_cmp (pc_notN (pe_fld (pv 0) rfl))) (pss_one (ps_ret (pmeth0 (pv 0) T.clCA D_SayAsker_hunt_step (hr.mono (by decide))))) pss_nil) (pss_cons (ps_set (i := 1) sc_SayAsker_one_step.nd rfl (.inl rfl) (pcall D_gap (hr.mono (by decide)) rfl (pa_cons (pe_fld (pv 0) rfl) (pa_cons (pe_fld (pv 0) rfl) (pa_cons (pe_fld (pv 0) rfl) (pa_cons (pe_fld (pv 0) rfl) pa_nil)))))) (pss_cons (ps_if (pt_cmp (pc_notN (pv 1))) (pss_cons (ps_fld (pv 0) (pe_tup (pa_cons pe_str (pa_cons (pv 1) pa_nil))) rfl) (pss_one (ps_ret pe_bl))) pss_nil) (pss_cons (ps_set (i := 1) sc_SayAsker_one_step.nd rfl (.inl rfl) (pcall D_stranger (hr.mono (by decide)) rfl (pa_cons (pe_fld (pv 0) rfl) (pa_cons (pe_fld (pv 0) rfl) (pa_cons (pe_fld (pv 0) rfl) (pa_cons (pe_fld (pv 0) rfl) pa_nil)))))) (pss_cons (ps_if (pt_cmp (pc_notN (pv 1))) (pss_one (ps_ret (pmeth (pv 0) T.clCA D_SayAsker_take_in (hr.mono (by decide)) (pa_cons (pv 1) pa_nil)))) pss_nil) (pss_cons (ps_set (i := 2) sc_SayAsker_one_step.nd rfl (.inl rfl) (pcall D_says_guess (hr.mono (by decide)) rfl (pa_cons (pe_fld (pv 0) rfl) (pa_cons (pe_fld (pv 0) rfl) (pa_cons (pe_fld (pv 0) rfl) (pa_cons (pe_fld (pv 0) rfl) pa_nil)))))) (pss_cons (ps_for PassesOwn.never rfl (pi_list (pmeth0 (pe_fld (pv 0) rfl) T.clCB D_Book_heard (hr.mono (by decide)))) (pg_name (i := 3) sc_SayAsker_one_step.nd rfl (.inl rfl)) (pss_one (ps_if (pt_cmpR op_ne (pcall D_last_said (hr.mono (by decide)) rfl (pa_cons (pv 2) (pa_cons (pe_ix ix_tup (pv 3) pe_int (fun _ _ => rfl)) pa_nil))) (pe_ix ix_tup (pv 3) pe_int (fun _ _ => rfl)) (nomark _)) (pss_cons (ps_fld (pv 0) (pe_tup (pa_cons (pv 2) (pa_cons (pe_ix ix_tup (pv 3) pe_int (fun _ _ => rfl)) (pa_cons pe_int (pa_cons (pe_op op_sub (pe_callB call_len_seq (by rfl) T.b_len PySem.boot_len (pa_cons (pe_ix ix_tup (pv 3) pe_int (fun _ _ => rfl)) pa_nil)) pe_int) pa_nil))))) rfl) (pss_one (ps_ret pe_bl))) pss_nil))) (pss_cons (ps_fld (pv 0) (pe_tup (pa_cons pe_str (pa_cons (pv 2) pa_nil))) rfl) (pss_one (ps_ret pe_bl)))))))))), ?_⟩
  match hu, S, I, k1, k2 with
  | some (wd, lo, hi), S, I, k1, k2 =>
    refine q_yes (t_cmp (d_notN (d_fhunt T S (v_var rfl)) (fun v H1 p => by
      obtain ⟨a, xs, rfl, _⟩ := im_tup p
      rfl))) fun H1 e1 => ?_
    have S1 := S.ex e1
    refine m_call S1 rfl (by decide +kernel) a_nil fun vs H2 e2 pa => ?_
    have pa : vs = [] := pa
    subst pa
    have e12 := e1.trans e2
    refine ⟨A, L, most, hid, b, fi, la, wd, lo, hi, wi, asks, hs, kept, rfl, S1.ex e2, I, fun H' f h2 hn S' => ?_, fun H' la' hu' f pf I' m' S' => ?_⟩
    · exact k1 H' (.ask (mid hid L fi la wd lo hi)) ((fq_ex e12).trans f) (fun _ z => nomatch z) (ready_mid I h2 hn) S'
    · exact k2 H' fi la' hu' ((fq_ex e12).trans f) (List.prefix_refl _) pf I' m' S'
  | none, S, I, k1, k2 =>
    refine q_no (t_cmp (d_notN (d_fhunt T S (v_var rfl)) (fun v H1 p => by rw [im_non p]; rfl))) fun H1 e1 => ?_
    have S1 := S.ex e1
    refine q_asg (e_call (x := (⟨b, L, fi, la⟩ : Tb4)) Sm (a_cons (b_fbook T S1 (v_var rfl)) (mo_B _ _ _) (a_d (d_fletters T S1 (v_var rfl)) (a_d (d_ffirsts T S1 (v_var rfl)) (a_d (d_flasts T S1 (v_var rfl)) a_nil))))) fun v2 H2 e2 pv2 => ?_
    have S2 := S1.ex e2
    have f02 : Fq A H H2 := fq_ex (e1.trans e2)
    rcases pv2 with ⟨pv2, at1⟩ | ⟨wd, pv2, hc, hn⟩
    rotate_left
    · have pv2 : Im H2 (wD wd) v2 := pv2
      refine q_yes (t_cmp (d_notN (v_var rfl) (fun v H1 p => by
        obtain ⟨a, rfl, _⟩ := im_word pv2
        rw [show v = .ref a from p]
        rfl))) fun H3 e3 => ?_
      refine q_wish T (S2.ex e3) (v_var rfl) (d_tup (ds := [.str "ask", wD wd]) (a_d d_str (a_d (d_var rfl (pv2.ex e3)) a_nil)) (by show 2 ≤ 100000; decide)) (pt_ak wd) fun H4 f4 S4 => ?_
      refine k_ret d_bl fun v H5 e5 pv => ?_
      rw [im_bl pv]
      exact k1 H5 (.ask wd) ((f02.trans (fq_ex e3)).trans (f4.trans (fq_ex e5))) (fun _ z => nomatch z) (ready_gap I hc hn) (S4.ex e5)
    have at1 : AllTold L fi la b := at1
    have pv2 : v2 = .non := im_non pv2
    subst pv2
    refine q_no (t_cmp (d_notN (v_var rfl) (fun v H1 p => by rw [show v = .non from p]; rfl))) fun H3 e3 => ?_
    have S3 := S2.ex e3
    refine q_asg (e_call (x := (⟨b, L, fi, la⟩ : Tb4)) Sm (a_cons (b_fbook T S3 (v_var rfl)) (mo_B _ _ _) (a_d (d_fletters T S3 (v_var rfl)) (a_d (d_ffirsts T S3 (v_var rfl)) (a_d (d_flasts T S3 (v_var rfl)) a_nil))))) fun v4 H4 e4 pv4 => ?_
    have S4 := S3.ex e4
    have f04 : Fq A H H4 := f02.trans (fq_ex (e3.trans e4))
    rcases pv4 with ⟨pv4, hns⟩ | ⟨r, pv4, hir, hne⟩
    rotate_left
    · have pv4 : Im H4 (wD r) v4 := pv4
      have hir : IsRow L fi r := hir
      have hstr : ∀ u ∈ fi, rowH hid la r ≠ rowH hid la u := fun u hu e => hne u hu ((rowO_eq I.bok at1 (.inl hu) hir).mpr e.symm)
      refine q_yes (t_cmp (d_notN (v_var rfl) (fun v H1 p => by
        obtain ⟨a, rfl, _⟩ := im_word pv4
        rw [show v = .ref a from p]
        rfl))) fun H5 e5 => ?_
      have S5 := S4.ex e5
      refine m_call S5 rfl (by decide +kernel) (a_d (d_var rfl (pv4.ex e5)) a_nil) fun vs H6 e6 pa => ?_
      obtain ⟨v6, r6, rfl, pv6, hr6⟩ := pa
      have hr6 : r6 = [] := hr6
      subst hr6
      have f06 : Fq A H H6 := f04.trans (fq_ex (e5.trans e6))
      refine ⟨A, L, most, b, fi, la, .none, wi, r, v6, rfl, S5.ex e6, pv6, by have := TB.fiL; have := TB.m4; omega, fun hm H' f S' => ?_, fun hm H' f S' => ?_⟩
      · exact k1 H' (.spt r) (f06.trans f) (fun _ z => nomatch z) ⟨I, rfl, at1, hm, hir, hstr⟩ S'
      · have hlt : fi.length < most := by have := TB.fiL; omega
        exact k2 H' (fi ++ [r]) la none (f06.trans f) (List.prefix_append _ _) (List.prefix_refl _) (inv_take I hlt hir hstr) (mu_take hlt I.hunLe) S'
    have hc : ¬ Strange hid L fi la := fun ⟨r, hr, hd⟩ => by
      obtain ⟨u, hu, e⟩ := hns r hr
      exact hd u hu ((rowO_eq I.bok at1 (.inl hu) hr).mp e).symm
    have pv4 : v4 = .non := im_non pv4
    subst pv4
    refine q_no (t_cmp (d_notN (v_var rfl) (fun v H1 p => by rw [show v = .non from p]; rfl))) fun H5 e5 => ?_
    have S5 := S4.ex e5
    refine q_asg (e_call (x := (⟨L, most, hid, b, fi, la⟩ : SG)) ⟨TB, ⟨_, I.bok⟩, at1, hc, Sm⟩ (a_cons (b_fbook T S5 (v_var rfl)) (mo_B _ _ _) (a_d (d_fletters T S5 (v_var rfl)) (a_d (d_ffirsts T S5 (v_var rfl)) (a_d (d_flasts T S5 (v_var rfl)) a_nil))))) fun v6 H6 e6 pv6 => ?_
    have pv6 : Im H6 (hD L (guess hid L fi la)) v6 := pv6
    have S6 := S5.ex e6
    have f06 : Fq A H H6 := f04.trans (fq_ex (e5.trans e6))
    have O := guess_ok TB hc
    refine q_forF (f_meth (ps := fun x : Nat × List (Word × Int) => [isB CB x.1 x.2]) (ds := fun x : Nat × List (Word × Int) => x.2.map prD) (L, b) bz (b_fbook T S6 (v_var rfl)) (mo_B _ _ _) (isB_ins heard_no_letters heard_no_marks) a_nil rfl) (ptAll_prD b) fun a xs7 H7 a0 e7 ha7 => ?_
    refine ⟨fun i σ' H' => Ex H7 H' ∧ (∀ (j : Nat) w m, j < i → b[j]? = some (w, m) → ans (guess hid L fi la) 0 w = m) ∧ ∃ o, σ' = [some (.ref A.p), some .non, some v6, o],
      ⟨Ex.refl _, fun j w m h => absurd h (Nat.not_lt_zero j), none, rfl⟩, fun i σ' H' p => ⟨ex_kt p.1, p.1 _ _ ha7⟩, ?_, ?_⟩
    · rintro i dd x σ' H' hdd hx ⟨e, hall, o, rfl⟩
      obtain ⟨⟨wd, m⟩, hb, rfl⟩ := map_get hdd
      have hmem := List.mem_of_getElem? hb
      obtain ⟨g1, g2, g3, g4⟩ := I.bok.ok _ hmem
      have g1 : wd ≠ [] := g1
      have g2 : Lets L wd := g2
      have g4 : wd.length ≤ 120 + 4 * (hun L la + 0) := g4
      have okW : HW.ok ⟨L, guess hid L fi la, wd⟩ ∧ wd ≠ [] := ⟨⟨O, g2, by show wd.length ≤ 2000; omega⟩, g1⟩
      have t0 : ∀ H8, Ex H' H8 → EvP (tOp (rIxT K) (tVar 3) (tC (.int 0))) [some (.ref A.p), some .non, some v6, some x] H8 (isD (wD wd)) := fun H8 e8 => d_ixT (d_var rfl (hx.ex e8)) (d_int (i := 0)) (at_nat (i := 0) rfl)
      have t1 : ∀ H8, Ex H' H8 → EvP (tOp (rIxT K) (tVar 3) (tC (.int 1))) [some (.ref A.p), some .non, some v6, some x] H8 (isD (.int m)) := fun H8 e8 => d_ixT (d_var rfl (hx.ex e8)) (d_int (i := 1)) (at_nat (i := 1) rfl)
      refine k_if (t_cmp (d_neI (e_call (x := (⟨L, guess hid L fi la, wd⟩ : HW)) okW (a_d (d_var rfl (pv6.ex (e7.trans e))) (a_d (t0 _ (Ex.refl _)) a_nil))) (t1 _ (Ex.refl _)))) (fun hb1 H8 e8 => ?_) (fun hb1 H8 e8 => ?_)
      · have hne : ans (guess hid L fi la) 0 wd ≠ m := fun z => by
          have hb1 : (!decide (ans (guess hid L fi la) 0 wd = m)) = true := hb1
          rw [decide_eq_true z] at hb1
          cases hb1
        obtain ⟨l2, I'⟩ := inv_start I hc hmem hne
        have e78 := (e7.trans e).trans e8
        refine q_hunt T (S6.ex e78) (v_var rfl) (hu' := huD hid L fi la (some (wd, 0, wd.length - 1))) (d_tup (ds := [hD L (guess hid L fi la), wD wd, nD 0, nD (wd.length - 1)]) (a_d (d_var rfl (pv6.ex e78)) (a_d (t0 _ e8) (a_d (d_nat (n := 0) rfl) (a_d (EvP.eq (d_sub (i := wd.length) (j := 1) (d_lenMT (K := K) (t0 _ e8)) d_int) (by omega)) a_nil)))) (by show 4 ≤ 100000; decide)) (pt_hu _ _ _ _ _) fun H9 f9 S9 => ?_
        refine k_ret d_bl fun v H10 e10 pv => ?_
        rw [im_bl pv]
        exact k2 H10 fi la (some (wd, 0, wd.length - 1)) ((f06.trans (fq_ex e78)).trans (f9.trans (fq_ex e10))) (List.prefix_refl _) (List.prefix_refl _) I' (mu_start (by omega)) (S9.ex e10)
      · have heq : ans (guess hid L fi la) 0 wd = m := by
          apply Classical.byContradiction
          intro z
          have hb1 : (!decide (ans (guess hid L fi la) 0 wd = m)) = false := hb1
          rw [decide_eq_false z] at hb1
          cases hb1
        refine ⟨e.trans e8, fun j w' m' hj hb' => ?_, _, rfl⟩
        rcases Nat.lt_or_ge j i with q | q
        · exact hall j w' m' q hb'
        · have : j = i := by omega
          subst this
          rw [hb] at hb'
          cases hb'
          exact heq
    · rintro σ' H' ⟨e, hall, o, rfl⟩
      rw [List.length_map] at hall
      have hok : ∀ p ∈ b, ans (guess hid L fi la) 0 p.1 = p.2 := fun p hp => by
        obtain ⟨j, hj⟩ := List.getElem?_of_mem hp
        exact hall j p.1 p.2 (List.getElem?_eq_some_iff.mp hj).1 hj
      have e7' := e7.trans e
      refine q_wish T (S6.ex e7') (v_var rfl) (d_tup (ds := [.str "show", hD L (guess hid L fi la)]) (a_d d_str (a_d (d_var rfl (pv6.ex e7')) a_nil)) (by show 2 ≤ 100000; decide)) (pt_sh L _) fun H8 f8 S8 => ?_
      refine k_ret d_bl fun v H9 e9 pv => ?_
      rw [im_bl pv]
      exact k1 H9 (.shw (guess hid L fi la)) ((f06.trans (fq_ex e7')).trans (f8.trans (fq_ex e9))) (fun _ z => nomatch z) ⟨I, rfl, at1, hc, rfl, hok⟩ (S8.ex e9)
/-! ### settle -/
def sp_settle (CA CB : Addr) : Sp := fun vs H Q _ => ∃ (A : Ad) (L most : Nat) (hid : Word → Int) (b : List (Word × Int)) (fi la : List Word) (hu : Hu) (wi : PyData) (asks : List Word) (hs kept : Nat), vs = [.ref A.p] ∧
  At CA CB A L most b fi la (huD hid L fi la hu) wi H ∧ Gr.Inv L most hid b fi la hu asks hs kept ∧ b.length ≤ 5000 ∧
  ∀ H' fi' la' hu' wi', Fq A H H' → NoDon wi' → fi <+: fi' → la <+: la' → Ready L most hid b fi' la' hu' asks hs kept wi' → At CA CB A L most b fi' la' (huD hid L fi' la' hu') (wiD L wi') H' → Q .non H'
theorem ok_settle (T : All K mg CB CA) (D_SayAsker_one_step : Dm P w K mg base CA 5 "one_step" ["self"] (sp_step CA CB)) : Dm P w K mg base CA 6 "settle" ["self"] (sp_settle CA CB) := by
  refine T.t_SayAsker_settle.ok sc_SayAsker_settle (fun vs H Q E h => by obtain ⟨_, _, _, _, _, _, _, _, _, _, _, _, rfl, _⟩ := h; rfl) (fun f cdv A outer s H vs Q E hr h => ?_)
  obtain ⟨A, L, most, hid, b, fi, la, hu, wi, asks, hs, kept, rfl, S, I, bz, k⟩ := h
  refine ⟨_, (pss_one (ps_while PassesOwn.never (pt_not (pt_val (pmeth0 (pv 0) T.clCA D_SayAsker_one_step (hr.mono (by decide))))) (pss_one ps_pass))), ?_⟩
  refine ⟨fun m σ' H' => ∃ fi' la' hu', m = mu most L fi' la' hu' ∧ σ' = [some (.ref A.p)] ∧ Fq A H H' ∧ fi <+: fi' ∧ la <+: la' ∧ Gr.Inv L most hid b fi' la' hu' asks hs kept ∧ At CA CB A L most b fi' la' (huD hid L fi' la' hu') wi H',
    ⟨_, fi, la, hu, rfl, rfl, Fq.refl _ _, List.prefix_refl _, List.prefix_refl _, I, S⟩, ?_⟩
  rintro m σ' H' ⟨fi', la', hu', rfl, rfl, fq, p1, p2, I', S'⟩
  refine m_call S' rfl (by decide +kernel) a_nil fun vs H2 e2 pa => ?_
  have pa : vs = [] := pa
  subst pa
  refine ⟨A, L, most, hid, b, fi', la', hu', wi, asks, hs, kept, rfl, S'.ex e2, I', bz, fun H3 wi' f3 nd R S3 => ⟨true, rfl, ?_⟩, fun H3 fi3 la3 hu3 f3 q1 q2 I3 m3 S3 => ⟨false, rfl, ?_⟩⟩
  · exact k H3 fi' la' hu' wi' (fq.trans ((fq_ex e2).trans f3)) nd p1 p2 R S3
  · refine ⟨fun σ' H' => ∃ m', m' < mu most L fi' la' hu' ∧ ∃ fi' la' hu', m' = mu most L fi' la' hu' ∧ σ' = [some (.ref A.p)] ∧ Fq A H H' ∧ fi <+: fi' ∧ la <+: la' ∧ Gr.Inv L most hid b fi' la' hu' asks hs kept ∧ At CA CB A L most b fi' la' (huD hid L fi' la' hu') wi H', fun _ _ z => z, ?_⟩
    exact ⟨_, m3, fi3, la3, hu3, rfl, rfl, fq.trans ((fq_ex e2).trans f3), p1.trans q1, p2.trans q2, I3, S3⟩
/-! ### hear -/
def sp_hear (CA CB : Addr) : Sp := fun vs H Q _ => ∃ (A : Ad) (L most : Nat) (hid : Word → Int) (b : List (Word × Int)) (fi la : List Word) (hu : Hu) (wd : Word) (asks : List Word) (hs kept : Nat) (v2 : V), vs = [.ref A.p, v2] ∧
  At CA CB A L most b fi la (huD hid L fi la hu) (akD wd) H ∧ Ready L most hid b fi la hu asks hs kept (.ask wd) ∧ Im H (.int (hid wd)) v2 ∧ (0 ≤ hid wd ∧ hid wd ≤ 1000000000) ∧ b.length < 5000 ∧
  ∀ H' fi' la' hu' wi' asks' hs', Fq A H H' → NoDon wi' → fi <+: fi' → la <+: la' → asks'.length + hs' = asks.length + hs + 1 → Ready L most hid (b ++ [(wd, hid wd)]) fi' la' hu' asks' hs' kept wi' → At CA CB A L most (b ++ [(wd, hid wd)]) fi' la' (huD hid L fi' la' hu') (wiD L wi') H' → Q .non H'
theorem b_put {C : Addr} {m : Str} {sp : Sp} {t : TA} {Ps : List VP} {Q : VK} {E : XK} {te : TE} {σ : L2.St} {H : Hp} {bk dx : Addr} {fs : List (Str × V)} (hv : EvP te σ H (isV (.ref bk))) (ho : H bk = some (.ins C dx fs)) (hm : fs.lookup m = none) (ha : EvPA t σ H Ps)
    (k : ∀ vs H2, Ex H H2 → Args Ps vs H2 → sp (.ref bk :: vs) H2 Q E) : tMeth C m sp [] E te t σ H Q := by
  refine hv H (Ex.refl _) _ fun v H1 e1 pv => ⟨bk, dx, fs, pv, e1 _ _ ho, hm, ha H1 e1 _ fun vs H2 e2 pa => ?_⟩
  rw [List.append_nil, show v = .ref bk from pv]
  exact k vs H2 (e1.trans e2) pa
theorem ok_hear (T : All K mg CB CA) (D_Book_put : Dm P w K mg base CB 3 "put" ["self", "word", "mark"] (sp_put CB)) (D_SayAsker_settle : Dm P w K mg base CA 6 "settle" ["self"] (sp_settle CA CB)) : Dm P w K mg base CA 7 "hear" ["self", "mark"] (sp_hear CA CB) := by
  refine T.t_SayAsker_hear.ok sc_SayAsker_hear (fun vs H Q E h => by obtain ⟨_, _, _, _, _, _, _, _, _, _, _, _, _, rfl, _⟩ := h; rfl) (fun f cdv A outer s H vs Q E hr h => ?_)
  obtain ⟨A, L, most, hid, b, fi, la, hu, wd, asks, hs, kept, v2, rfl, S, R, h2, ⟨m0, m1⟩, bz, k⟩ := h
  refine ⟨_, (pss_cons (ps_if (pt_cmpR op_ne (pe_ix ix_tup (pe_fld (pv 0) rfl) pe_int (fun _ _ => rfl)) pe_str (nomark _)) (pss_one ps_never) pss_nil) (pss_cons (ps_expr (pmeth (pe_fld (pv 0) rfl) T.clCB D_Book_put (hr.mono (by decide)) (pa_cons (pe_ix ix_tup (pe_fld (pv 0) rfl) pe_int (fun _ _ => rfl)) (pa_cons (pv 1) pa_nil)))) (pss_one (ps_expr (pmeth0 (pv 0) T.clCA D_SayAsker_settle (hr.mono (by decide))))))), ?_⟩
  refine q_no (cn_no (d_neS (d_ixT (K := K) (d_fwish T S (v_var rfl)) (d_int (i := 0)) (at_nat (i := 0) rfl)) d_str) rfl) fun H1 e1 => ?_
  have S1 := S.ex e1
  obtain ⟨dxb, hbk⟩ := S1.book.1
  obtain ⟨asks', hs', I', hcount⟩ := inv_hear R
  obtain ⟨I, hn, h0, hl, hz, _⟩ := R
  refine b_put (v_fbook T S1 (v_var rfl)) hbk (bf_no put_no_letters put_no_marks) (a_d (d_ixT (K := K) (d_fwish T S1 (v_var rfl)) (d_int (i := 1)) (at_nat (i := 1) (x := wD wd) rfl)) (a_d (d_var rfl (h2.ex e1)) a_nil)) fun vs H2 e2 pa => ?_
  obtain ⟨x1, r1, rfl, p1, x2, r2, rfl, p2, hr⟩ := pa
  have hr : r2 = [] := hr
  subst hr
  have S2 := S1.ex e2
  refine ⟨L, b, A.bk, A.d, wd, hid wd, x1, x2, rfl, S2.book, p1, p2, hl, m0, m1, hn, bz, fun H3 f3 B3 => ?_⟩
  have S3 := S2.put f3 B3
  have f03 : Fq A H H3 := (fq_ex (e1.trans e2)).trans (fq_d f3)
  refine m_call S3 rfl (by decide +kernel) a_nil fun vs H4 e4 pa => ?_
  have pa : vs = [] := pa
  subst pa
  refine ⟨A, L, most, hid, b ++ [(wd, hid wd)], fi, la, hu, akD wd, asks', hs', kept, rfl, S3.ex e4, I', by rw [List.length_append, List.length_singleton]; omega, fun H5 fi' la' hu' wi' f5 nd q1 q2 R' S5 => ?_⟩
  exact k H5 fi' la' hu' wi' asks' hs' (f03.trans ((fq_ex e4).trans f5)) nd q1 q2 hcount R' S5
/-! ### differ -/
def sp_differ (CA CB : Addr) : Sp := fun vs H Q _ => ∃ (A : Ad) (L most : Nat) (hid : Word → Int) (b : List (Word × Int)) (fi la : List Word) (hu : Hu) (g : House) (wd : Word) (asks : List Word) (hs kept : Nat) (v2 v3 : V), vs = [.ref A.p, v2, v3] ∧
  At CA CB A L most b fi la (huD hid L fi la hu) (shD L g) H ∧ Ready L most hid b fi la hu asks hs kept (.shw g) ∧ Im H (wD wd) v2 ∧ Im H (.int (hid wd)) v3 ∧ (0 ≤ hid wd ∧ hid wd ≤ 1000000000) ∧ (wd ≠ [] ∧ Lets L wd ∧ wd.length ≤ 116 ∧ ans g 0 wd ≠ hid wd) ∧ b.length < 5000 ∧
  ∀ H' fi' la' hu' wi', Fq A H H' → NoDon wi' → fi <+: fi' → la <+: la' → Ready L most hid (b ++ [(wd, hid wd)]) fi' la' hu' asks hs fi.length wi' → At CA CB A L most (b ++ [(wd, hid wd)]) fi' la' (huD hid L fi' la' hu') (wiD L wi') H' → Q .non H'
theorem ok_differ (T : All K mg CB CA) (D_is_word : Df P w K mg base 1 "is_word" ["letters", "word"] sp_is_word) (D_last_said : Df P w K mg base 3 "last_said" ["house", "word"] sp_last_said) (D_Book_put : Dm P w K mg base CB 3 "put" ["self", "word", "mark"] (sp_put CB)) (D_SayAsker_settle : Dm P w K mg base CA 6 "settle" ["self"] (sp_settle CA CB)) : Dm P w K mg base CA 7 "differ" ["self", "word", "mark"] (sp_differ CA CB) := by
  refine T.t_SayAsker_differ.ok sc_SayAsker_differ (fun vs H Q E h => by obtain ⟨_, _, _, _, _, _, _, _, _, _, _, _, _, _, _, rfl, _⟩ := h; rfl) (fun f cdv A outer s H vs Q E hr h => ?_)
  obtain ⟨A, L, most, hid, b, fi, la, hu, g, wd, asks, hs, kept, v2, v3, rfl, S, R, h2, h3, ⟨m0, m1⟩, ⟨w0, wl, wz, wx⟩, bz, k⟩ := h
  obtain ⟨tk, g_MOST_MARK⟩ := T.g_MOST_MARK
  refine ⟨_, (pss_cons (ps_if (pt_cmpR op_ne (pe_ix ix_tup (pe_fld (pv 0) rfl) pe_int (fun _ _ => rfl)) pe_str (nomark _)) (pss_one ps_never) pss_nil) (pss_cons (ps_if (PW.pt (pw_or (pt_cmpR op_eq (pe_callB call_len_seq (by rfl) T.b_len PySem.boot_len (pa_cons (pv 1) pa_nil)) pe_int (nomark _)) (pw_or1 (pt_not (pt_val (pcall D_is_word (hr.mono (by decide)) rfl (pa_cons (pe_fld (pv 0) rfl) (pa_cons (pv 1) pa_nil)))))))) (pss_one ps_never) pss_nil) (pss_cons (ps_if (PW.pt (pw_or (pt_cmpR op_lt (pv 2) pe_int (nomark _)) (pw_or1 (pt_cmpR op_gt (pv 2) (pe_glob (v := .int 1000000000) rfl g_MOST_MARK ⟨_, rfl⟩) (nomark _))))) (pss_one ps_never) pss_nil) (pss_cons (ps_if (pt_cmpR op_eq (pcall D_last_said (hr.mono (by decide)) rfl (pa_cons (pe_ix ix_tup (pe_fld (pv 0) rfl) pe_int (fun _ _ => rfl)) (pa_cons (pv 1) pa_nil))) (pv 2) (nomark _)) (pss_one ps_never) pss_nil) (pss_cons (ps_expr (pmeth (pe_fld (pv 0) rfl) T.clCB D_Book_put (hr.mono (by decide)) (pa_cons (pv 1) (pa_cons (pv 2) pa_nil)))) (pss_one (ps_expr (pmeth0 (pv 0) T.clCA D_SayAsker_settle (hr.mono (by decide)))))))))), ?_⟩
  have hlen : wd.length ≠ 0 := fun z => w0 (List.length_eq_zero_iff.mp z)
  refine q_no (cn_no (d_neS (d_ixT (K := K) (d_fwish T S (v_var rfl)) (d_int (i := 0)) (at_nat (i := 0) rfl)) d_str) rfl) fun H1 e1 => ?_
  have S1 := S.ex e1
  refine q_no (t_oF (c_no (d_eqI (d_lenMT (K := K) (d_var rfl (h2.ex e1))) d_int) (by omega)) (t_nT (t_B (e_call (L, wd) wl (a_d (d_fletters T S1 (v_var rfl)) (a_d (d_var rfl (h2.ex e1)) a_nil)))))) fun H2 e2 => ?_
  have e12 := e1.trans e2
  refine q_no (t_oF (c_no (d_lt (d_var rfl (h3.ex e12)) d_int) (by omega)) (c_no (d_gt (d_var rfl (h3.ex e12)) d_int) (by omega))) fun H3 e3 => ?_
  have e13 := e12.trans e3
  have S3 := S.ex e13
  have O : Ok L g := by
    obtain ⟨I, _, _, hc, rfl, _⟩ := R
    exact guess_ok I.tab hc
  have okW : HW.ok ⟨L, g, wd⟩ ∧ wd ≠ [] := ⟨⟨O, wl, by show wd.length ≤ 2000; omega⟩, w0⟩
  refine q_no (c_no (d_eqI (e_call (x := (⟨L, g, wd⟩ : HW)) okW (a_d (d_ixT (K := K) (d_fwish T S3 (v_var rfl)) (d_int (i := 1)) (at_nat (i := 1) rfl)) (a_d (d_var rfl (h2.ex e13)) a_nil))) (d_var rfl (h3.ex e13))) wx) fun H4 e4 => ?_
  have e14 := e13.trans e4
  have S4 := S.ex e14
  obtain ⟨dxb, hbk⟩ := S4.book.1
  have R0 := R
  obtain ⟨hn, I'⟩ := inv_differ R w0 wl wz wx
  refine b_put (v_fbook T S4 (v_var rfl)) hbk (bf_no put_no_letters put_no_marks) (a_d (d_var rfl (h2.ex e14)) (a_d (d_var rfl (h3.ex e14)) a_nil)) fun vs H5 e5 pa => ?_
  obtain ⟨x1, r1, rfl, p1, x2, r2, rfl, p2, hr⟩ := pa
  have hr : r2 = [] := hr
  subst hr
  have S5 := S4.ex e5
  refine ⟨L, b, A.bk, A.d, wd, hid wd, x1, x2, rfl, S5.book, p1, p2, wl, m0, m1, hn, bz, fun H6 f6 B6 => ?_⟩
  have S6 := S5.put f6 B6
  have f06 : Fq A H H6 := (fq_ex (e14.trans e5)).trans (fq_d f6)
  have hunone : hu = none := R0.2.1
  subst hunone
  refine m_call S6 rfl (by decide +kernel) a_nil fun vs H7 e7 pa => ?_
  have pa : vs = [] := pa
  subst pa
  refine ⟨A, L, most, hid, b ++ [(wd, hid wd)], fi, la, none, shD L g, asks, hs, fi.length, rfl, S6.ex e7, I', by rw [List.length_append, List.length_singleton]; omega, fun H8 fi' la' hu' wi' f8 nd q1 q2 R' S8 => ?_⟩
  exact k H8 fi' la' hu' wi' (f06.trans ((fq_ex e7).trans f8)) nd q1 q2 R' S8
end
end Gr
end
section
set_option maxRecDepth 100000
set_option maxHeartbeats 4000000
/-! The asker is made. -/
namespace Gr
open PySem L2 PySem.Spec PyProof.Rows Evl
def sp_init (CA CB : Addr) : Sp := fun vs H Q _ => ∃ (p dx : Addr) (L most : Nat) (hid : Word → Int) (v2 v3 : V), vs = [.ref p, v2, v3] ∧ H p = some (.ins CA dx []) ∧ Im H (nD L) v2 ∧ Im H (nD most) v3 ∧ (1 ≤ L ∧ L ≤ 6 ∧ 1 ≤ most ∧ most ≤ 4) ∧
  ∀ H' A fi la hu wi, A.p = p → H A.d = none → H A.l1 = none → H A.l2 = none → (∀ c o, c ≠ p → H c = some o → H' c = some o) → NoDon wi → [[]] <+: fi → Ready L most hid [] fi la hu [] 0 0 wi → At CA CB A L most [] fi la (huD hid L fi la hu) (wiD L wi) H' → Q .non H'
theorem fp_back {H H' : Hp} {p c : Addr} {u : HO} (f : ∀ c o, c ≠ p → H c = some o → H' c = some o) (hp : H' p = some u) (h : H' c = none) : H c = none := by
  cases q : H c with
  | none => rfl
  | some o =>
    by_cases z : c = p
    · rw [z, hp] at h; cases h
    · rw [f c o z q] at h; cases h
theorem q_fldF {K : PySem.W.Frag} {σ : L2.St} {H : Hp} {D : Ends} {tz : TS} {te ta : TE} {a C dx : Addr} {fs : List (Str × V)} {f : Str} {ds : List PyData} (ho : H a = some (.ins C dx fs)) (hv : EvF te σ H ds) (ha : ∀ H', EvP ta σ H' (isV (.ref a))) (hc : Cls K C) (hn : NoAttr K C f) (hl : fs.length < 1000)
    (k : ∀ p H1 xs, H p = none → Ex H H1 → H1 p = some (.lst xs) → ImAll H1 ds xs → tz D σ (upd H1 a (.ins C dx (putF f (.ref p) fs)))) : tSeq (sFld K ta te f) tz D σ H :=
  hv H (Ex.refl H) _ fun p H1 xs p0 e1 hp hx => ha H1 H1 (Ex.refl H1) _ fun x H2 e2 px => by
    have px : x = .ref a := px
    exact ⟨a, C, dx, fs, px, (e1.trans e2) _ _ ho, hc, hn, hl, k p H2 xs p0 (e1.trans e2) (e2 _ _ hp) (hx.ex e2)⟩
section
variable {P : Program} {w : World} {K : PySem.W.Frag} {mg : Str → Option Value} {base : Heap} {CB CA : Addr}
theorem ok_init (T : All K mg CB CA) (M_Book : Mb P w K mg base 1 "Book" CB ["self", "letters"] (sp_Book_init CB)) (D_SayAsker_settle : Dm P w K mg base CA 6 "settle" ["self"] (sp_settle CA CB)) : Dm P w K mg base CA 7 "__init__" ["self", "letters", "most"] (sp_init CA CB) := by
  refine T.t_SayAsker_init.ok sc_SayAsker_init (fun vs H Q E h => by obtain ⟨_, _, _, _, _, _, _, rfl, _⟩ := h; rfl) (fun f cdv A outer s H vs Q E hr h => ?_)
  obtain ⟨p, dx, L, most, hid, v2, v3, rfl, hp, h2, h3, ⟨l1, l6, m1, m4⟩, k⟩ := h
  refine ⟨_, (pss_cons (ps_fld (pv 0) (pv 1) rfl) (pss_cons (ps_fld (pv 0) (pv 2) rfl) (pss_cons (ps_fld (pv 0) (pmake M_Book (hr.mono (by decide)) rfl (pa_cons (pv 1) pa_nil)) rfl) (pss_cons (ps_fld (pv 0) (pe_lst (pa_cons (pe_tup pa_nil) pa_nil)) rfl) (pss_cons (ps_fld (pv 0) (pe_lc (own := [("letter", 3)]) (g := gName 3) (tt := tYes) rfl sc_SayAsker_init.nd (pi_range1 (by rfl) T.b_range (pa_cons (pv 1) pa_nil)) (blkOk_by (own := [("letter", 3)]) (N := ["self", "letters", "most", "letter"]) (sc := defScope s_SayAsker_init) (by decide +kernel)) (fun _ _ _ _ _ => (pg_name (i := 3) sc_SayAsker_init.nd rfl (.inl rfl))) (fun _ _ _ _ _ => pts_nil) (fun _ _ _ _ _ => (pe_tup (pa_cons (pv 3) pa_nil)))) rfl) (pss_cons (ps_fld (pv 0) pe_non rfl) (pss_cons (ps_fld (pv 0) pe_non rfl) (pss_one (ps_expr (pmeth0 (pv 0) T.clCA D_SayAsker_settle (hr.mono (by decide)))))))))))), ?_⟩
  have tt : ∀ (H H' : Hp) (o : HO), Ex H H' → ∀ c u, c ≠ p → H c = some u → upd H' p o c = some u := fun H H' o e c u hc h => by rw [upd_ne hc]; exact e c u h
  refine q_fld hp (d_var rfl h2) (mo_D _) (v_var rfl) T.clCA T.nCA_letters (by show 0 < 1000; decide) fun y1 H1 e1 py1 => ?_
  have py1 : y1 = .int (L : Int) := im_int py1
  subst py1
  generalize hG1 : upd H1 p (.ins CA dx (putF "letters" (V.int (L : Int)) [])) = G1
  have g1 : G1 p = some (.ins CA dx [("letters", .int (L : Int))]) := by rw [← hG1, upd_same]; rfl
  have f1 : ∀ c o, c ≠ p → H c = some o → G1 c = some o := fun c o hc h => by rw [← hG1]; exact tt H H1 _ e1 c o hc h
  have kt : ∀ G : Hp, (∀ c o, c ≠ p → H c = some o → G c = some o) → Kt H G := fun G f c xs h => f c _ (ne_of h hp fun z => nomatch z) h
  refine q_fld g1 (d_var rfl (h3.kt (kt G1 f1) rfl)) (mo_D _) (v_var rfl) T.clCA T.nCA_most (by show 1 < 1000; decide) fun y2 H2 e2 py2 => ?_
  have py2 : y2 = .int (most : Int) := im_int py2
  subst py2
  generalize hG2 : upd H2 p (.ins CA dx (putF "most" (V.int (most : Int)) [("letters", .int (L : Int))])) = G2
  have g2 : G2 p = some (.ins CA dx [("letters", .int (L : Int)), ("most", .int (most : Int))]) := by
    rw [← hG2, upd_same, put_cons, if_neg (by decide +kernel)]
    rfl
  have f2 : ∀ c o, c ≠ p → H c = some o → G2 c = some o := fun c o hc h => by rw [← hG2]; exact tt G1 H2 _ e2 c o hc (f1 c o hc h)
  -- the book
  refine ⟨v2, rfl, fun bk dxb b0 db0 ndb => ?_⟩
  have nbp : bk ≠ p := fun z => by rw [z, g2] at b0; cases b0
  have ndp : dxb ≠ p := fun z => by rw [z, g2] at db0; cases db0
  have eB : ∀ c o, c ≠ bk → G2 c = some o → upd (upd G2 dxb (.own bk)) bk (.ins CB dxb []) c = some o := fun c o hc h => by rw [upd_ne hc, upd_ne (ne_of_none h db0)]; exact h
  have kB : Kt H (upd (upd G2 dxb (.own bk)) bk (.ins CB dxb [])) := fun c xs h => by
    have hc := (kt G2 f2) c xs h
    exact eB c _ (ne_of_none hc b0) hc
  refine ⟨bk, dxb, L, v2, rfl, h2.kt kB rfl, upd_same, fun d G3 nd d0 f3 B3 => ⟨rfl, ?_⟩⟩
  have f3' : ∀ c o, G2 c = some o → G3 c = some o := fun c o h => f3 c o (ne_of_none h b0) (eB c o (ne_of_none h b0) h)
  have g3 : G3 p = some (.ins CA dx [("letters", .int (L : Int)), ("most", .int (most : Int))]) := f3' _ _ g2
  have dG2 : G2 d = none := by
    cases q : G2 d with
    | none => rfl
    | some o => rw [eB d o nd q] at d0; cases d0
  have ndp' : d ≠ p := fun z => by rw [z, g2] at dG2; cases dG2
  have dH : H d = none := by
    cases q : H d with
    | none => rfl
    | some o => rw [f2 d o ndp' q] at dG2; cases dG2
  have bkH : H bk = none := by
    cases q : H bk with
    | none => rfl
    | some o => rw [f2 bk o nbp q] at b0; cases b0
  refine ⟨.ref p, rfl, p, CA, dx, _, rfl, g3, T.clCA, T.nCA_book, by show 2 < 1000; decide, ?_⟩
  generalize hG4 : upd G3 p (.ins CA dx (putF "book" (V.ref bk) [("letters", .int (L : Int)), ("most", .int (most : Int))])) = G4
  have g4 : G4 p = some (.ins CA dx [("letters", .int (L : Int)), ("most", .int (most : Int)), ("book", .ref bk)]) := by
    rw [← hG4, upd_same, put_cons, if_neg (by decide +kernel), put_cons, if_neg (by decide +kernel)]
    rfl
  have f34 : ∀ c o, c ≠ p → G3 c = some o → G4 c = some o := fun c o hc h => by rw [← hG4]; exact tt G3 G3 _ (Ex.refl _) c o hc h
  have f4 : ∀ c o, c ≠ p → H c = some o → G4 c = some o := fun c o hc h => f34 c o hc (f3' c o (f2 c o hc h))
  have B4 : BookAt CB L [] bk d G4 := by
    obtain ⟨⟨y, hb⟩, hd⟩ := B3
    exact ⟨⟨y, f34 _ _ nbp hb⟩, f34 _ _ ndp' hd⟩
  -- the access words
  refine q_fldF g4 (f_lst (ds := [wD []]) (a_d (d_tup (ds := []) a_nil (Nat.zero_le _)) a_nil) (by show 1 ≤ 100000; decide)) (fun _ => v_var rfl) T.clCA T.nCA_firsts (by show 3 < 1000; decide) fun r1 H5 xs1 r10 e5 hr1 hx1 => ?_
  have nr1 : r1 ≠ p := fun z => by rw [z, g4] at r10; cases r10
  generalize hG5 : upd H5 p (.ins CA dx (putF "firsts" (V.ref r1) [("letters", .int (L : Int)), ("most", .int (most : Int)), ("book", .ref bk)])) = G5
  have g5 : G5 p = some (.ins CA dx [("letters", .int (L : Int)), ("most", .int (most : Int)), ("book", .ref bk), ("firsts", .ref r1)]) := by
    rw [← hG5, upd_same, put_cons, if_neg (by decide +kernel), put_cons, if_neg (by decide +kernel), put_cons, if_neg (by decide +kernel)]
    rfl
  have f45 : ∀ c o, c ≠ p → H5 c = some o → G5 c = some o := fun c o hc h => by rw [← hG5]; exact tt H5 H5 _ (Ex.refl _) c o hc h
  have f5 : ∀ c o, c ≠ p → H c = some o → G5 c = some o := fun c o hc h => f45 c o hc (e5 c o (f4 c o hc h))
  have hr1' : G5 r1 = some (.lst xs1) := f45 _ _ nr1 hr1
  have hx1' : ImAll G5 (wsD [[]]) xs1 := hx1.kt (fun c xs h => f45 c _ (fun z => by rw [z, e5 _ _ g4] at h; cases h) h) (ptAll_ws [[]])
  -- the telling words
  refine q_fldF g5 (c_R (n := L) (rs := (letters L).map wD) (d_var rfl (h2.kt (kt G5 f5) rfl)) (by rw [List.length_map]; show ((List.range L).map _).length = L; rw [List.length_map, List.length_range]) (by omega) (fun _ => rfl) (fun _ _ _ _ => t_yes) (fun q rr H9 e9 hq hr' => ?_)) (fun _ => v_var rfl) T.clCA T.nCA_lasts (by show 4 < 1000; decide) fun r2 H6 xs2 r20 e6 hr2 hx2 => ?_
  · have : rr = wD [q] := by
      unfold letters at hr'
      rw [List.map_map, List.getElem?_map, List.getElem?_range hq] at hr'
      exact (Option.some.inj hr').symm
    subst this
    exact (d_tup1 (n := q) (d_var rfl (.int _))).toG (pt_wD _)
  have nr2 : r2 ≠ p := fun z => by rw [z, g5] at r20; cases r20
  have nr21 : r1 ≠ r2 := fun z => by rw [← z, hr1'] at r20; cases r20
  generalize hG6 : upd H6 p (.ins CA dx (putF "lasts" (V.ref r2) [("letters", .int (L : Int)), ("most", .int (most : Int)), ("book", .ref bk), ("firsts", .ref r1)])) = G6
  have g6 : G6 p = some (.ins CA dx [("letters", .int (L : Int)), ("most", .int (most : Int)), ("book", .ref bk), ("firsts", .ref r1), ("lasts", .ref r2)]) := by
    rw [← hG6, upd_same, put_cons, if_neg (by decide +kernel), put_cons, if_neg (by decide +kernel), put_cons, if_neg (by decide +kernel), put_cons, if_neg (by decide +kernel)]
    rfl
  have f56 : ∀ c o, c ≠ p → H6 c = some o → G6 c = some o := fun c o hc h => by rw [← hG6]; exact tt H6 H6 _ (Ex.refl _) c o hc h
  have f6 : ∀ c o, c ≠ p → H c = some o → G6 c = some o := fun c o hc h => f56 c o hc (e6 c o (f5 c o hc h))
  have kt6 : Kt G5 G6 := fun c xs h => f56 c _ (fun z => by rw [z, g5] at h; cases h) (e6 _ _ h)
  have hx2' : ImAll G6 (wsD (letters L)) xs2 := hx2.kt (fun c xs h => f56 c _ (fun z => by rw [z, e6 _ _ g5] at h; cases h) h) (ptAll_ws (letters L))
  -- hunting, wish
  refine q_fld g6 d_non (mo_D _) (v_var rfl) T.clCA T.nCA_hunting (by show 5 < 1000; decide) fun yh H7 e7 pyh => ?_
  have pyh : yh = .non := im_non pyh
  subst pyh
  generalize hG7 : upd H7 p (.ins CA dx (putF "hunting" V.non [("letters", .int (L : Int)), ("most", .int (most : Int)), ("book", .ref bk), ("firsts", .ref r1), ("lasts", .ref r2)])) = G7
  have g7 : G7 p = some (.ins CA dx [("letters", .int (L : Int)), ("most", .int (most : Int)), ("book", .ref bk), ("firsts", .ref r1), ("lasts", .ref r2), ("hunting", .non)]) := by
    rw [← hG7, upd_same, put_cons, if_neg (by decide +kernel), put_cons, if_neg (by decide +kernel), put_cons, if_neg (by decide +kernel), put_cons, if_neg (by decide +kernel), put_cons, if_neg (by decide +kernel)]
    rfl
  have f67 : ∀ c o, c ≠ p → G6 c = some o → G7 c = some o := fun c o hc h => by rw [← hG7]; exact tt G6 H7 _ e7 c o hc h
  refine q_fld g7 d_non (mo_D _) (v_var rfl) T.clCA T.nCA_wish (by show 6 < 1000; decide) fun yw H8 e8 pyw => ?_
  have pyw : yw = .non := im_non pyw
  subst pyw
  generalize hG8 : upd H8 p (.ins CA dx (putF "wish" V.non [("letters", .int (L : Int)), ("most", .int (most : Int)), ("book", .ref bk), ("firsts", .ref r1), ("lasts", .ref r2), ("hunting", .non)])) = G8
  have g8 : G8 p = some (.ins CA dx (af L most ⟨p, bk, d, r1, r2⟩ .non .non)) := by
    rw [← hG8, upd_same, put_cons, if_neg (by decide +kernel), put_cons, if_neg (by decide +kernel), put_cons, if_neg (by decide +kernel), put_cons, if_neg (by decide +kernel), put_cons, if_neg (by decide +kernel), put_cons, if_neg (by decide +kernel)]
    rfl
  have f78 : ∀ c o, c ≠ p → G7 c = some o → G8 c = some o := fun c o hc h => by rw [← hG8]; exact tt G7 H8 _ e8 c o hc h
  have f68 : ∀ c o, c ≠ p → G6 c = some o → G8 c = some o := fun c o hc h => f78 c o hc (f67 c o hc h)
  have kt8 : Kt G6 G8 := fun c xs h => f68 c _ (fun z => by rw [z, g6] at h; cases h) h
  have S : At CA CB ⟨p, bk, d, r1, r2⟩ L most [] [[]] (letters L) .none .none G8 := by
    obtain ⟨⟨y, hb⟩, hd⟩ := B4
    have up : ∀ c o, c ≠ p → G4 c = some o → G8 c = some o := fun c o hc h => f68 c o hc (f56 c o hc (e6 c o (f45 c o hc (e5 c o h))))
    exact ⟨⟨dx, .non, .non, g8, .non, .non⟩, ⟨⟨y, up _ _ nbp hb⟩, up _ _ ndp' hd⟩, ⟨xs1, f68 _ _ nr1 (f56 _ _ nr1 (e6 _ _ hr1')), hx1'.kt (kt6.trans kt8) (ptAll_ws [[]])⟩, ⟨xs2, f68 _ _ nr2 (f56 _ _ nr2 hr2), hx2'.kt kt8 (ptAll_ws _)⟩, nr21, rfl, rfl⟩
  have f8 : ∀ c o, c ≠ p → H c = some o → G8 c = some o := fun c o hc h => f68 c o hc (f6 c o hc h)
  have r1H : H r1 = none := fp_back f4 g4 r10
  have r2H : H r2 = none := fp_back f5 g5 r20
  have cont : ∀ vs (H9 : Hp), vs = [] → Ex G8 H9 → sp_settle CA CB (.ref p :: vs) H9 (fun _ H' => Q .non H') E0 := fun vs H9 hvs e9 => by
    subst hvs
    refine ⟨⟨p, bk, d, r1, r2⟩, L, most, hid, [], [[]], letters L, none, .none, [], 0, 0, rfl, S.ex e9, inv_init l1 l6 m1 m4, Nat.zero_le _, fun H' fi' la' hu' wi' fq nd q1 q2 R' S' => ?_⟩
    exact k H' ⟨p, bk, d, r1, r2⟩ fi' la' hu' wi' rfl dH r1H r2H (fun c o hc h => fq c o hc (ne_of_none h dH) (ne_of_none h r1H) (ne_of_none h r2H) (e9 _ _ (f8 c o hc h))) nd q1 R' S'
  exact m_call S rfl (by decide +kernel) a_nil fun vs H9 e9 pa => cont vs H9 pa e9
end
end Gr
end
section
set_option maxRecDepth 100000
set_option maxHeartbeats 4000000
/-! What the law asks of the asker. -/
namespace Gr
open PySem L2 PySem.Spec PyProof.Rows Evl
theorem pl_prD (p : Word × Int) : pl (prD p) = true := by
  simp only [pl, plAll, Bool.and_true]
  exact plAll_nat p.1
theorem plAll_prD (b : List (Word × Int)) : plAll (b.map prD) = true := plAll_of fun d h => by
  obtain ⟨n, _, rfl⟩ := List.mem_map.mp h
  exact pl_prD n
theorem sh_prD (p : Word × Int) : Sh 2 (prD p) := Sh.tup fun d h => by
  simp only [List.mem_cons, List.not_mem_nil, or_false] at h
  rcases h with rfl | rfl
  · exact sh_wD _
  · exact Sh.int _
theorem Sh.str {n : Nat} {x : Str} (h : PyData.strOk x = true) : Sh n (.str x) := ⟨by simp only [PyData.canLay0]; exact h, by simp only [PyData.depth]; omega⟩
theorem pl_wi (L : Nat) (wi : Wi) : pl (wiD L wi) = true := by
  cases wi with
  | ask w => have := pl_wD w; simp only [wiD, akD, pl, plAll, Bool.true_and, Bool.and_true] at this ⊢; exact this
  | shw g => have := pl_hD L g; simp only [wiD, shD, pl, plAll, Bool.true_and, Bool.and_true] at this ⊢; exact this
  | don g => have := pl_hD L g; simp only [wiD, dnD, pl, plAll, Bool.true_and, Bool.and_true] at this ⊢; exact this
  | spt w => have := pl_wD w; simp only [wiD, stD, pl, plAll, Bool.true_and, Bool.and_true] at this ⊢; exact this
theorem sh_two {n : Nat} {x : Str} {d : PyData} (hx : PyData.strOk x = true) (h : Sh n d) : Sh (n + 1) (.tuple [.str x, d]) := Sh.tup fun e m => by
  simp only [List.mem_cons, List.not_mem_nil, or_false] at m
  rcases m with rfl | rfl
  · exact Sh.str hx
  · exact h
theorem sh_wi (L : Nat) (wi : Wi) : Sh 4 (wiD L wi) := by
  cases wi with
  | ask w => exact sh_two (by decide +kernel) ((sh_wD _).mono (by decide))
  | shw g => exact sh_two (by decide +kernel) ((sh_hD _ _).mono (by decide))
  | don g => exact sh_two (by decide +kernel) ((sh_hD _ _).mono (by decide))
  | spt w => exact sh_two (by decide +kernel) ((sh_wD _).mono (by decide))
theorem eqv_self {d : PyData} (h : pl d = true) : PyData.eqv d d = true := (eqv_iff d d h h).mpr rfl
theorem pl_ws (ws : List Word) : pl (.list (wsD ws)) = true := by simp only [pl]; exact plAll_ws ws
theorem pre_take {α : Type} {x y : List α} (h : x <+: y) : y.take x.length = x := by
  obtain ⟨z, rfl⟩ := h
  rw [List.take_left]
section
variable {P : Program} {w : World} {K : PySem.W.Frag} {mg : Str → Option Value} {base : Heap} {CB CA : Addr}
/-! ### law_grows -/
structure GW where
  k : AK
  kf : List Word
  kl : List Word
  st : Bool
def ktD (kf kl : List Word) : PyData := .tuple [.list (wsD kf), .list (wsD kl)]
def GW.ok (x : GW) : Prop := x.kf <+: x.k.fi ∧ x.kl <+: x.k.la ∧ (x.st = true → x.kf.length < x.k.fi.length)
def sp_grows (CA CB : Addr) : Sp := PurSp (α := GW) GW.ok (fun x => [isD (ktD x.kf x.kl), x.k.is CA CB, isD (.bool x.st)]) (fun _ => isD (.bool true))
theorem ok_law_grows (T : All K mg CB CA) (D_SayAsker_access : Dm P w K mg base CA 1 "access" ["self"] (sp_access CA CB)) (D_SayAsker_tellers : Dm P w K mg base CA 1 "tellers" ["self"] (sp_tellers CA CB)) : Df P w K mg base 2 "_law_grows" ["kept", "asker", "strictly"] (sp_grows CA CB) := by
  refine T.t_law_grows.ok sc_law_grows (fun vs H Q E h => by obtain ⟨x, _, a, _⟩ := h; exact a.len) (fun f cdv A outer s H vs Q E hr h => ?_)
  obtain ⟨⟨x, kf, kl, st⟩, ⟨p1, p2, p3⟩, ⟨v1, _, rfl, h1, v2, _, rfl, h2, v3, _, rfl, h3, rfl⟩, k⟩ := h
  have p1 : kf <+: x.fi := p1
  have p2 : kl <+: x.la := p2
  have p3 : st = true → kf.length < x.fi.length := p3
  have h1 : Im H (ktD kf kl) v1 := h1
  have h2 : x.is CA CB v2 H := h2
  have h3 : Im H (.bool st) v3 := h3
  refine ⟨_, (pss_cons (ps_set (i := 3) sc_law_grows.nd rfl (.inl rfl) (pmeth0 (pv 1) T.clCA D_SayAsker_access (hr.mono (by decide)))) (pss_cons (ps_set (i := 4) sc_law_grows.nd rfl (.inl rfl) (pmeth0 (pv 1) T.clCA D_SayAsker_tellers (hr.mono (by decide)))) (pss_cons (ps_if (pt_cmpR (op_neD hr.units) (pe_slice sl_list (pv 3) po_none (po_some (pe_callB call_len_seq (by rfl) T.b_len PySem.boot_len (pa_cons (pe_ix ix_tup (pv 0) pe_int (fun _ _ => rfl)) pa_nil)))) (pe_ix ix_tup (pv 0) pe_int (fun _ _ => rfl)) (nomark _)) (pss_one (ps_ret pe_bl)) pss_nil) (pss_cons (ps_if (pt_cmpR (op_neD hr.units) (pe_slice sl_list (pv 4) po_none (po_some (pe_callB call_len_seq (by rfl) T.b_len PySem.boot_len (pa_cons (pe_ix ix_tup (pv 0) pe_int (fun _ _ => rfl)) pa_nil)))) (pe_ix ix_tup (pv 0) pe_int (fun _ _ => rfl)) (nomark _)) (pss_one (ps_ret pe_bl)) pss_nil) (pss_one (ps_ret (pe_or (pe_not (pv 2)) (pe_one (pe_cmpR op_gt (pe_callB call_len_seq (by rfl) T.b_len PySem.boot_len (pa_cons (pv 3) pa_nil)) (pe_callB call_len_seq (by rfl) T.b_len PySem.boot_len (pa_cons (pe_ix ix_tup (pv 0) pe_int (fun _ _ => rfl)) pa_nil)) (nomark _)))))))))), ?_⟩
  refine q_asg (P := isD (.list (wsD x.fi))) (EvF.toL (f_meth (ps := fun x : AK => [x.is CA CB]) (ds := fun x : AK => wsD x.fi) x trivial (e_var rfl h2 mo_ask) mo_ask (ask_ins (by decide +kernel)) a_nil rfl)) fun v4 H1 e1 pv4 => ?_
  refine q_asg (P := isD (.list (wsD x.la))) (EvF.toL (f_meth (ps := fun x : AK => [x.is CA CB]) (ds := fun x : AK => wsD x.la) x trivial (e_var rfl (mo_ask _ _ _ e1 h2) mo_ask) mo_ask (ask_ins (by decide +kernel)) a_nil rfl)) fun v5 H2 e2 pv5 => ?_
  have e12 := e1.trans e2
  have k0 : ∀ (H8 : Hp) (σ : L2.St), Ex H H8 → σ[0]? = some (some v1) → EvP (tOp (rIxT K) (tVar 0) (tC (.int 0))) σ H8 (isD (.list (wsD kf))) := fun H8 σ e8 h0 => d_ixT (d_var h0 (h1.ex e8)) (d_int (i := 0)) (at_nat (i := 0) rfl)
  have k1 : ∀ (H8 : Hp) (σ : L2.St), Ex H H8 → σ[0]? = some (some v1) → EvP (tOp (rIxT K) (tVar 0) (tC (.int 1))) σ H8 (isD (.list (wsD kl))) := fun H8 σ e8 h0 => d_ixT (d_var h0 (h1.ex e8)) (d_int (i := 1)) (at_nat (i := 1) rfl)
  refine q_no (t_cmp (d_neD (K := K) (f_slL (d_var rfl (Im.ex pv4 e2)) o_none (o_some (d_lenM (K := K) (k0 _ _ e12 rfl)))).toL (k0 _ _ e12 rfl) (by rw [cutD_map]; exact (sh_ws _).ok (by decide)) ((sh_ws _).ok (by decide)) (b := false) ?_)) fun H3 e3 => ?_
  · rw [cutD_map, cutD_to, pre_take p1, eqv_self (pl_ws kf)]
    rfl
  have e13 := e12.trans e3
  refine q_no (t_cmp (d_neD (K := K) (f_slL (d_var rfl (Im.ex pv5 e3)) o_none (o_some (d_lenM (K := K) (k1 _ _ e13 rfl)))).toL (k1 _ _ e13 rfl) (by rw [cutD_map]; exact (sh_ws _).ok (by decide)) ((sh_ws _).ok (by decide)) (b := false) ?_)) fun H4 e4 => ?_
  · rw [cutD_map, cutD_to, pre_take p2, eqv_self (pl_ws kl)]
    rfl
  have e14 := e13.trans e4
  refine k_ret (EvP.bl (c := true) (d_orV (d_notV (d_var rfl (h3.ex e14))) fun _ => d_gt (d_lenM (K := K) (d_var rfl (Im.ex pv4 ((e2.trans e3).trans e4)))) (d_lenM (K := K) (k0 _ _ e14 rfl))) ?_) fun v H5 e5 pv => k v H5 (e14.trans e5) pv
  cases st with
  | false => rfl
  | true =>
    have := p3 rfl
    show (false || decide ((kf.length : Int) < (x.fi.length : Int))) = true
    rw [decide_eq_true (by omega)]
    rfl
/-! ### law_wish_good -/
structure WG where
  L : Nat
  b : List (Word × Int)
  wi : Wi
def WG.ok (x : WG) : Prop := match x.wi with
  | .ask w => told x.b w = none ∧ w ≠ [] ∧ Lets x.L w ∧ w.length ≤ 600
  | .spt w => Lets x.L w
  | _ => True
def sp_wish_good : Sp := PurSp (α := WG) WG.ok (fun x => [isD (wiD x.L x.wi), isD (nD x.L), isT x.b]) (fun _ => isD (.bool true))
def wnm : Wi → Str
  | .ask _ => "ask"
  | .shw _ => "show"
  | .don _ => "done"
  | .spt _ => "spent"
def wrest (L : Nat) : Wi → PyData
  | .ask w => wD w
  | .shw g => hD L g
  | .don g => hD L g
  | .spt w => wD w
theorem wi_eq (L : Nat) (wi : Wi) : wiD L wi = .tuple [.str (wnm wi), wrest L wi] := by cases wi <;> rfl
theorem ok_law_wish_good (T : All K mg CB CA) (D_law_is_word : Df P w K mg base 2 "_law_is_word" ["found", "letters"] sp_law_is_word) : Df P w K mg base 3 "_law_wish_good" ["wish", "letters", "told"] sp_wish_good := by
  refine T.t_law_wish_good.ok sc_law_wish_good (fun vs H Q E h => by obtain ⟨x, _, a, _⟩ := h; exact a.len) (fun f cdv A outer s H vs Q E hr h => ?_)
  obtain ⟨⟨L, b, wi⟩, ok, ⟨v1, _, rfl, h1, v2, _, rfl, h2, v3, _, rfl, h3, rfl⟩, k⟩ := h
  have h1 : Im H (wiD L wi) v1 := h1
  rw [wi_eq] at h1
  refine ⟨_, (pss_cons (ps_if (PW.pt (pw_or (pt_not (pt_val (pe_callB call_isi (by rfl) T.b_isinstance (by decide +kernel) (pa_cons (pv 0) (pa_cons (pe_bltn (v := .ty "tuple") (by rfl) T.b_tuple (by decide +kernel) rfl) pa_nil))))) (pw_or1 (pt_cmpR op_ne (pe_callB call_len_seq (by rfl) T.b_len PySem.boot_len (pa_cons (pv 0) pa_nil)) pe_int (nomark _))))) (pss_one (ps_ret pe_bl)) pss_nil) (pss_cons (ps_if (pt_cmpR op_eq (pe_ix ix_tup (pv 0) pe_int (fun _ _ => rfl)) pe_str (nomark _)) (pss_cons (ps_if (PW.pt (pw_or (pt_not (pt_val (pcall D_law_is_word (hr.mono (by decide)) rfl (pa_cons (pe_ix ix_tup (pv 0) pe_int (fun _ _ => rfl)) (pa_cons (pv 1) pa_nil))))) (pw_or1 (pt_cmp (pc_din (hu_of hr) (pe_ix ix_tup (pv 0) pe_int (fun _ _ => rfl)) (pv 2)))))) (pss_one (ps_ret pe_bl)) pss_nil) (pss_one (ps_ret (pe_and (pe_cmpR op_lt pe_int (pe_callB call_len_seq (by rfl) T.b_len PySem.boot_len (pa_cons (pe_ix ix_tup (pv 0) pe_int (fun _ _ => rfl)) pa_nil)) (nomark _)) (pe_one (pe_cmpR op_le (pe_callB call_len_seq (by rfl) T.b_len PySem.boot_len (pa_cons (pe_ix ix_tup (pv 0) pe_int (fun _ _ => rfl)) pa_nil)) pe_int (nomark _))))))) pss_nil) (pss_cons (ps_if (pt_cmpR op_eq (pe_ix ix_tup (pv 0) pe_int (fun _ _ => rfl)) pe_str (nomark _)) (pss_one (ps_ret (pcall D_law_is_word (hr.mono (by decide)) rfl (pa_cons (pe_ix ix_tup (pv 0) pe_int (fun _ _ => rfl)) (pa_cons (pv 1) pa_nil))))) pss_nil) (pss_one (ps_ret (pe_or (pe_cmpR op_eq (pe_ix ix_tup (pv 0) pe_int (fun _ _ => rfl)) pe_str (nomark _)) (pe_one (pe_cmpR op_eq (pe_ix ix_tup (pv 0) pe_int (fun _ _ => rfl)) pe_str (nomark _))))))))), ?_⟩
  refine q_no (t_oF (t_nT (t_B (d_isi (d_var rfl h1) (fun v H1 p => ty_tup p) tt))) (cn_no (d_neI (d_lenT (K := K) (d_var rfl h1)) d_int) rfl)) fun H1 e1 => ?_
  have w0 : ∀ (H8 : Hp) (σ : L2.St), Ex H H8 → σ[0]? = some (some v1) → EvP (tOp (rIxT K) (tVar 0) (tC (.int 0))) σ H8 (isD (.str (wnm wi))) := fun H8 σ e8 h0 => d_ixT (d_var h0 (h1.ex e8)) (d_int (i := 0)) (at_nat (i := 0) rfl)
  have w1 : ∀ (H8 : Hp) (σ : L2.St), Ex H H8 → σ[0]? = some (some v1) → EvP (tOp (rIxT K) (tVar 0) (tC (.int 1))) σ H8 (isD (wrest L wi)) := fun H8 σ e8 h0 => d_ixT (d_var h0 (h1.ex e8)) (d_int (i := 1)) (at_nat (i := 1) rfl)
  cases wi with
  | ask w =>
    obtain ⟨a1, a2, a3, a4⟩ := ok
    have a1 : told b w = none := a1
    have a3 : Lets L w := a3
    have hl : w.length ≠ 0 := fun z => a2 (List.length_eq_zero_iff.mp z)
    refine q_yes (c_yes (d_eqS (w0 _ _ e1 rfl) d_str) rfl) fun H2 e2 => ?_
    have e12 := e1.trans e2
    refine q_no (t_oF (t_nT (t_B (e_call (L, w) a3 (a_d (w1 _ _ e12 rfl) (a_d (d_var rfl (h2.ex e12)) a_nil))))) (t_cmp (d_din (w1 _ _ e12 rfl) (e_var rfl (mo_T b _ _ _ e12 h3) (mo_T b)) (by rw [a1]; rfl)))) fun H3 e3 => ?_
    have e13 := e12.trans e3
    refine k_ret (EvP.bl (c := true) (d_andV (d_lt (i := 0) (j := w.length) d_int (d_lenMT (K := K) (w1 _ _ e13 rfl))) fun _ => d_le (i := w.length) (j := 600) (d_lenMT (K := K) (w1 _ _ e13 rfl)) d_int) ?_) fun v H5 e5 pv => k v H5 (e13.trans e5) pv
    rw [decide_eq_true (by omega), decide_eq_true (by omega)]
    rfl
  | spt w =>
    have a3 : Lets L w := ok
    refine q_no (c_no (d_eqS (w0 _ _ e1 rfl) d_str) (by show ¬ (("spent" : Str) = "ask"); decide +kernel)) fun H2 e2 => ?_
    refine q_yes (c_yes (d_eqS (w0 _ _ (e1.trans e2) rfl) d_str) rfl) fun H3 e3 => ?_
    have e13 := (e1.trans e2).trans e3
    exact k_ret (e_call (x := (L, w)) a3 (a_d (w1 _ _ e13 rfl) (a_d (d_var rfl (h2.ex e13)) a_nil))) fun v H5 e5 pv => k v H5 (e13.trans e5) pv
  | shw g =>
    refine q_no (c_no (d_eqS (w0 _ _ e1 rfl) d_str) (by show ¬ (("show" : Str) = "ask"); decide +kernel)) fun H2 e2 => ?_
    refine q_no (c_no (d_eqS (w0 _ _ (e1.trans e2) rfl) d_str) (by show ¬ (("show" : Str) = "spent"); decide +kernel)) fun H3 e3 => ?_
    have e13 := (e1.trans e2).trans e3
    refine k_ret (EvP.bl (c := true) (d_orV (d_eqS (w0 _ _ e13 rfl) d_str) fun _ => d_eqS (w0 _ _ e13 rfl) d_str) ?_) fun v H5 e5 pv => k v H5 (e13.trans e5) pv
    rw [decide_eq_true (by rfl)]
    rfl
  | don g =>
    refine q_no (c_no (d_eqS (w0 _ _ e1 rfl) d_str) (by show ¬ (("done" : Str) = "ask"); decide +kernel)) fun H2 e2 => ?_
    refine q_no (c_no (d_eqS (w0 _ _ (e1.trans e2) rfl) d_str) (by show ¬ (("done" : Str) = "spent"); decide +kernel)) fun H3 e3 => ?_
    have e13 := (e1.trans e2).trans e3
    refine k_ret (EvP.bl (c := true) (d_orV (d_eqS (w0 _ _ e13 rfl) d_str) fun _ => d_eqS (w0 _ _ e13 rfl) d_str) ?_) fun v H5 e5 pv => k v H5 (e13.trans e5) pv
    have : decide (wnm (.don g) = ("done" : Str)) = true := decide_eq_true rfl
    rw [this, Bool.or_true]
end
end Gr
end
section
set_option maxRecDepth 100000
set_option maxHeartbeats 4000000
/-! What the law asks of a house shown, and of the end. -/
namespace Gr
open PySem L2 PySem.Spec PyProof.Rows Evl
section
variable {K : PySem.W.Frag} {σ : L2.St} {H : Hp} {td ta tb : TE} {b : List (Word × Int)}
theorem f_items (h : EvP td σ H (isT b)) : EvF (tItemsLT td) σ H (b.map prD) := fun H1 e Q q =>
  h H1 e _ fun v H2 e2 ⟨d, ev, hd⟩ => ⟨d, enc b, ev, .inl hd, fun H3 p ts e3 p0 hp hl hk => q p H3 _ (fresh_back e2 p0) (e2.trans e3) hp (imAll_of (by rw [List.length_map, List.length_map, hl, enc_len]) fun i dd v hdd hv => by
    obtain ⟨⟨w, m⟩, hb, rfl⟩ := map_get hdd
    obtain ⟨t, q, ht, h1, h2⟩ := hk i (wK w) (.int m) (by unfold enc; rw [List.getElem?_map, hb]; rfl)
    rw [List.getElem?_map, ht] at hv
    cases hv
    exact .tup h1 (.cons (wD_of h2) (.cons (.int m) .nil)))⟩
theorem f_catL {ds es : List PyData} (ha : EvP ta σ H (isD (.list ds))) (hb : EvP tb σ H (isD (.list es))) (hz : ds.length + es.length ≤ 100000) : EvF (tOp rCat ta tb) σ H (ds ++ es) := fun H1 e Q q =>
  ha H1 e _ fun v H2 e2 pv => hb H2 (e.trans e2) _ fun u H3 e3 pu => by
    obtain ⟨a, xs, rfl, h1, h2⟩ := im_lst (pv.ex e3)
    obtain ⟨c, ys, rfl, h3, h4⟩ := im_lst pu
    have l1 := h2.len
    have l2 := h4.len
    exact ⟨a, c, xs, ys, rfl, rfl, h1, h3, sz_of (by omega), fun p p0 => q p _ _ (fresh_back (e2.trans e3) p0) ((e2.trans e3).trans (Ex.new p0)) upd_same ((h2.app h4).ex (Ex.new p0))⟩
end
theorem heard_eq (b : List (Word × Int)) : PyData.eqv (.list (b.map prD)) (.list (b.map prD)) = true := eqv_self (by simp only [pl]; exact plAll_prD b)
theorem sh_heard (b : List (Word × Int)) : SeqAt.shaped (.list (b.map prD)) = true := (Sh.lst (sh_map fun p => sh_prD p)).ok (n := 3) (by decide)
section
variable {P : Program} {w : World} {K : PySem.W.Frag} {mg : Str → Option Value} {base : Heap} {CB CA : Addr}
structure GG where
  k : AK
  hid : Word → Int
def GG.ok (x : GG) : Prop := SG.ok ⟨x.k.L, x.k.most, x.hid, x.k.b, x.k.fi, x.k.la⟩ ∧ BookOk x.k.L x.hid 1000 x.k.b ∧ (∀ p ∈ x.k.b, ans (guess x.hid x.k.L x.k.fi x.k.la) 0 p.1 = p.2) ∧ x.k.b.length ≤ 5000
def sp_guess_good (CA CB : Addr) : Sp := PurSp (α := GG) GG.ok (fun x => [isD (hD x.k.L (guess x.hid x.k.L x.k.fi x.k.la)), isD (nD x.k.L), x.k.is CA CB, isT x.k.b]) (fun _ => isD (.bool true))
theorem ok_law_guess_good (T : All K mg CB CA) (D_SayAsker_access : Dm P w K mg base CA 1 "access" ["self"] (sp_access CA CB)) (D_SayAsker_tellers : Dm P w K mg base CA 1 "tellers" ["self"] (sp_tellers CA CB)) (D_SayAsker_heard : Dm P w K mg base CA 2 "heard" ["self"] (sp_heard CA CB))
    (D_law_access_good : Df P w K mg base 4 "_law_access_good" ["access", "letters"] sp_access_good) (D_law_ends_good : Df P w K mg base 4 "_law_ends_good" ["ends", "letters"] sp_ends_good) (D_law_due_guess : Df P w K mg base 2 "_law_due_guess" ["letters", "access", "ends", "told"] sp_due_guess) (D_law_house_is : Df P w K mg base 3 "_law_house_is" ["found", "due"] sp_house_is) (D_law_talk : Df P w K mg base 1 "_law_talk" ["house", "word"] sp_talk) : Df P w K mg base 5 "_law_guess_good" ["house", "letters", "asker", "told"] (sp_guess_good CA CB) := by
  refine T.t_law_guess_good.ok sc_law_guess_good (fun vs H Q E h => by obtain ⟨x, _, a, _⟩ := h; exact a.len) (fun f cdv A outer s H vs Q E hr h => ?_)
  obtain ⟨⟨⟨A, L, most, b, fi, la, hu, wi⟩, hid⟩, ⟨sgok, bo, hall, bz⟩, ⟨v1, _, rfl, h1, v2, _, rfl, h2, v3, _, rfl, h3, v4, _, rfl, ⟨d, rfl, hd⟩, rfl⟩, k⟩ := h
  have sgok : SG.ok ⟨L, most, hid, b, fi, la⟩ := sgok
  have bo : BookOk L hid 1000 b := bo
  have hall : ∀ p ∈ b, ans (guess hid L fi la) 0 p.1 = p.2 := hall
  have bz : b.length ≤ 5000 := bz
  obtain ⟨TB, _, at1, hc, Sm⟩ := id sgok
  have TB : Tab L most hid fi la := TB
  have hc : ¬ Strange hid L fi la := hc
  have Sm : Small L fi la := Sm
  have O := guess_ok TB hc
  have h1 : Im H (hD L (guess hid L fi la)) v1 := h1
  have h2 : Im H (nD L) v2 := h2
  have h3 : isAsk CA CB A L most b fi la hu wi v3 H := h3
  have hd : H d = some (.dT (enc b)) := hd
  have hglen : (guess hid L fi la).ways.length = fi.length := guess_ways_len
  refine ⟨_, (pss_cons (ps_set (i := 4) sc_law_guess_good.nd rfl (.inl rfl) (pmeth0 (pv 2) T.clCA D_SayAsker_access (hr.mono (by decide)))) (pss_cons (ps_set (i := 5) sc_law_guess_good.nd rfl (.inl rfl) (pmeth0 (pv 2) T.clCA D_SayAsker_tellers (hr.mono (by decide)))) (pss_cons (ps_if (PW.pt (pw_or (pt_not (pt_val (pcall D_law_access_good (hr.mono (by decide)) rfl (pa_cons (pv 4) (pa_cons (pv 1) pa_nil))))) (pw_or1 (pt_not (pt_val (pcall D_law_ends_good (hr.mono (by decide)) rfl (pa_cons (pv 5) (pa_cons (pv 1) pa_nil)))))))) (pss_one (ps_ret pe_bl)) pss_nil) (pss_cons (ps_set (i := 6) sc_law_guess_good.nd rfl (.inl rfl) (pcall D_law_due_guess (hr.mono (by decide)) rfl (pa_cons (pv 1) (pa_cons (pv 4) (pa_cons (pv 5) (pa_cons (pv 3) pa_nil)))))) (pss_cons (ps_if (PW.pt (pw_or (pt_cmp (pc_isN (pv 6))) (pw_or1 (pt_not (pt_val (pcall D_law_house_is (hr.mono (by decide)) rfl (pa_cons (pv 0) (pa_cons (pv 6) pa_nil)))))))) (pss_one (ps_ret pe_bl)) pss_nil) (pss_cons (ps_lock (ps_for PassesOwn.never rfl (pi_itemsT (pv 3)) (pg_tup (by rfl) (pgs_cons (pg_name (i := 7) sc_law_guess_good.nd rfl (.inl rfl)) (pgs_cons (pg_name (i := 8) sc_law_guess_good.nd rfl (.inl rfl)) pgs_nil))) (pss_one (ps_if (pt_cmpR op_ne (pe_ix ix_list (pcall D_law_talk (hr.mono (by decide)) rfl (pa_cons (pv 0) (pa_cons (pv 7) pa_nil))) (pe_un un_neg pe_int) (fun _ _ => rfl)) (pv 8) (nomark _)) (pss_one (ps_ret pe_bl)) pss_nil)))) (pss_one (ps_ret (pe_cmpR (op_eqD hr.units) (pmeth0 (pv 2) T.clCA D_SayAsker_heard (hr.mono (by decide))) (pe_list_items rfl (pv 3) (by rfl) T.b_list (by decide +kernel)) (nomark _)))))))))), ?_⟩
  let x : AK := ⟨A, L, most, b, fi, la, hu, wi⟩
  refine q_asg (P := isD (.list (wsD fi))) (EvF.toL (f_meth (ps := fun x : AK => [x.is CA CB]) (ds := fun x : AK => wsD x.fi) x trivial (e_var rfl h3 mo_ask) mo_ask (ask_ins (by decide +kernel)) a_nil rfl)) fun v5 H1 e1 pv5 => ?_
  refine q_asg (P := isD (.list (wsD la))) (EvF.toL (f_meth (ps := fun x : AK => [x.is CA CB]) (ds := fun x : AK => wsD x.la) x trivial (e_var rfl (mo_ask _ _ _ e1 h3) mo_ask) mo_ask (ask_ins (by decide +kernel)) a_nil rfl)) fun v6 H2 e2 pv6 => ?_
  have e02 := e1.trans e2
  refine q_no (t_oF (t_nT (t_B (e_call (L, fi) ⟨most, hid, la, TB⟩ (a_d (d_var rfl (Im.ex pv5 e2)) (a_d (d_var rfl (h2.ex e02)) a_nil))))) (t_nT (t_B (e_call (L, la) ⟨Sm.ll, most, hid, fi, TB⟩ (a_d (d_var rfl pv6) (a_d (d_var rfl (h2.ex e02)) a_nil)))))) fun H3 e3 => ?_
  have e03 := e02.trans e3
  refine q_asg (P := isD (hD L (guess hid L fi la))) (e_call (x := (⟨L, most, hid, b, fi, la⟩ : SG)) sgok (a_d (d_var rfl (h2.ex e03)) (a_d (d_var rfl (Im.ex pv5 (e2.trans e3))) (a_d (d_var rfl (Im.ex pv6 e3)) (a_cons (e_var rfl (mo_T b _ _ _ e03 ⟨d, rfl, hd⟩) (mo_T b)) (mo_T b) a_nil))))) fun v7 H4 e4 pv7 => ?_
  have e04 := e03.trans e4
  refine q_no (t_oF (t_cmp (d_isN (d_var rfl pv7) (fun v H1 p => by
    obtain ⟨a, xs, rfl, _⟩ := im_tup p
    rfl))) (t_nT (t_B (e_call (x := (L, guess hid L fi la)) ⟨?_, ?_, ?_, ?_⟩ (a_d (d_var rfl (h1.ex e04)) (a_d (d_var rfl pv7) a_nil)))))) fun H5 e5 => ?_
  · show (guess hid L fi la).says.length ≤ 100
    rw [O.sl, hglen]
    have := Sm.fl
    omega
  · intro r hr
    rw [O.sr r hr]
    have := Sm.l6
    omega
  · show (guess hid L fi la).ways.length ≤ 100
    rw [hglen]
    have := Sm.fl
    omega
  · intro r hr
    rw [(O.wr r hr).1]
    have := Sm.l6
    omega
  have e05 := e04.trans e5
  have hd5 := e05 _ _ hd
  refine q_items hd5 (fun H' _ => v_var rfl) fun od H6 e6 => ⟨fun n σ' H' => Ex (upd H5 d (.frz od (.dT (enc b)))) H' ∧ ∃ o8 o9, σ' = [some v1, some v2, some v3, some (.ref d), some v5, some v6, some v7, o8, o9],
    ⟨e6, none, none, rfl⟩, fun n σ' H' t o p hT => ⟨p.1.trans (Ex.new hT), p.2⟩, fun n σ' H' p => p.1, ?_, ?_⟩
  · rintro n wd m x σ' H' rt bk hb hx ⟨e, o8, o9, rfl⟩
    have hmem := List.mem_of_getElem? hb
    obtain ⟨g1, g2, g3, g4⟩ := bo.ok _ hmem
    have g1 : wd ≠ [] := g1
    have g2 : Lets L wd := g2
    have g4 : wd.length ≤ 1000 := g4
    have okW : HW.ok ⟨L, guess hid L fi la, wd⟩ := ⟨O, g2, by show wd.length ≤ 2000; omega⟩
    have kt : Kt H5 H' := (Kt.upd (Kt.refl _) hd5 fun _ z => nomatch z).trans (ex_kt e)
    have h1' : Im H' (hD L (guess hid L fi la)) v1 := (h1.ex e05).kt kt (pt_hD _ _)
    refine k_no (cn_no (d_neI (d_ixL (K := K) (EvF.toL (f_call (ps := fun x : HW => [isD (hD x.L x.g), isD (wD x.wd)]) (ds := fun x : HW => (talk x.g 0 x.wd).map .int) (⟨L, guess hid L fi la, wd⟩ : HW) okW (a_d (d_var rfl h1') (a_d (d_var rfl hx) a_nil)))) d_neg1 (at_neg (last_int (getLast_talk g1)))) (d_var (d := .int m) rfl (.int m))) (hall _ hmem)) fun H8 e8 => ?_
    exact ⟨e.trans e8, _, _, rfl⟩
  · rintro σ' H' ⟨e, o8, o9, rfl⟩ e7
    have e07 := e05.trans e7
    refine k_ret (d_eqD (K := K) (EvF.toL (f_meth (ps := fun x : AK => [x.is CA CB]) (ds := fun x : AK => x.b.map prD) x bz (e_var rfl (mo_ask _ _ _ e07 h3) mo_ask) mo_ask (ask_ins (by decide +kernel)) a_nil rfl)) (EvF.toL (f_items (b := b) (e_var rfl (mo_T b _ _ _ e07 ⟨d, rfl, hd⟩) (mo_T b)))) (sh_heard b) (sh_heard b) (heard_eq b)) fun v H8 e8 pv => k v H8 (e07.trans e8) pv
end
end Gr
end
section
set_option maxRecDepth 100000
set_option maxHeartbeats 4000000
/-! What the law asks of the end. -/
namespace Gr
open PySem L2 PySem.Spec PyProof.Rows Evl
/-- the rows of words that are looked at in the end -/
def endW (fi : List Word) : Wi → List Word
  | .spt w => fi ++ [w]
  | _ => fi
structure EG where
  k : AK
  hid : Word → Int
  hu : Hu
  asks : List Word
  hs : Nat
  kept : Nat
  wi : Wi
def EG.ok (x : EG) : Prop := x.k.wi = wiD x.k.L x.wi ∧ Ready x.k.L x.k.most x.hid x.k.b x.k.fi x.k.la x.hu x.asks x.hs x.kept x.wi ∧ ((∃ g, x.wi = .don g) ∨ ∃ w, x.wi = .spt w) ∧ x.k.b.length ≤ 5000
theorem end_rows {L most : Nat} {hid : Word → Int} {b : List (Word × Int)} {fi la : List Word} {hu : Hu} {asks : List Word} {hs kept : Nat} {wi : Wi} (R : Ready L most hid b fi la hu asks hs kept wi) (hw : (∃ g, wi = .don g) ∨ ∃ w, wi = .spt w) :
    AllTold L fi la b ∧ (∀ u ∈ endW fi wi, IsRow L fi u) ∧ (∀ (i j : Nat) u v, i < j → (endW fi wi)[i]? = some u → (endW fi wi)[j]? = some v → rowH hid la u ≠ rowH hid la v) ∧
    asks.length + hs ≤ (1 + (endW fi wi).length * L) * ((endW fi wi).length + L) + 10 * ((endW fi wi).length - 1) := by
  have T := R.inv.tab
  rcases hw with ⟨g, rfl⟩ | ⟨w, rfl⟩
  · have R' : Ready L most hid b fi la hu asks hs kept (.shw g) := R
    obtain ⟨I, hn, at1, _⟩ := R
    exact ⟨at1, fun u hu => .inl hu, fun i j u v hij h1 h2 e => by have := T.fiD i j u v h1 h2 e; omega, asked_show R'⟩
  · have h4 := asked_spent R
    obtain ⟨I, hn, at1, hl, hir, hne⟩ := R
    have hlen : (fi ++ [w]).length = fi.length + 1 := by rw [List.length_append, List.length_singleton]
    refine ⟨at1, fun u hu => ?_, fun i j u v hij h1 h2 e => ?_, ?_⟩
    · rcases List.mem_append.mp hu with q | q
      · exact .inl q
      · rw [List.mem_singleton.mp q]; exact hir
    · have h1 : (fi ++ [w])[i]? = some u := h1
      have h2 : (fi ++ [w])[j]? = some v := h2
      rcases get_snoc h1 with q1 | ⟨q1, r1⟩
      · rcases get_snoc h2 with q2 | ⟨q2, r2⟩
        · have := T.fiD i j u v q1 q2 e; omega
        · rw [r2] at e
          exact hne u (List.mem_of_getElem? q1) e.symm
      · have := (List.getElem?_eq_some_iff.mp h2).1
        omega
    · show _ ≤ (1 + (fi ++ [w]).length * L) * ((fi ++ [w]).length + L) + 10 * ((fi ++ [w]).length - 1)
      rw [hlen]
      exact h4
section
variable {σ : L2.St} {H : Hp} {D : Ends} {tu tz : TS} {te : TE} {t t2 : TT} {P : VP}
theorem q_ifJ {i : Nat} {b : Bool} (h : EvT t σ H b) (J : L2.St → Hp → Prop) (h1 : b = true → ∀ H1, Ex H H1 → EvT t2 σ H1 false ∧ EvP te σ H1 P) (hj : b = true → ∀ v H3, Ex H H3 → P v H3 → J (σ.set i (some v)) H3) (h2 : b = false → ∀ H1, Ex H H1 → J σ H1) (k : ∀ σ' H', J σ' H' → tz D σ' H') :
    tSeq (tIfS t (tSeq (tIfS t2 tu tNext) (tAsg te (gName i))) tNext) tz D σ H :=
  q_when h (fun hb H1 e1 => q_no (h1 hb H1 e1).1 fun H2 e2 => k_asg ((h1 hb H1 e1).2.mono e2) fun v H3 e3 pv => k _ _ (hj hb v H3 ((e1.trans e2).trans e3) pv)) fun hb H1 e1 => k _ _ (h2 hb H1 e1)
end
section
variable {P : Program} {w : World} {K : PySem.W.Frag} {mg : Str → Option Value} {base : Heap} {CB CA : Addr}
def sp_end_good (CA CB : Addr) : Sp := PurSp (α := EG) EG.ok (fun x => [x.k.is CA CB, isD (nD x.k.L), isD (nD x.k.most), isD (nD (x.asks.length + x.hs)), isT x.k.b]) (fun _ => isD (.bool true))
theorem ok_law_end_good (T : All K mg CB CA) (D_SayAsker_access : Dm P w K mg base CA 1 "access" ["self"] (sp_access CA CB)) (D_SayAsker_tellers : Dm P w K mg base CA 1 "tellers" ["self"] (sp_tellers CA CB)) (D_SayAsker_wants : Dm P w K mg base CA 1 "wants" ["self"] (sp_wants CA CB)) (D_SayAsker_heard : Dm P w K mg base CA 2 "heard" ["self"] (sp_heard CA CB))
    (D_law_access_good : Df P w K mg base 4 "_law_access_good" ["access", "letters"] sp_access_good) (D_law_ends_good : Df P w K mg base 4 "_law_ends_good" ["ends", "letters"] sp_ends_good) (D_law_marks : Df P w K mg base 1 "_law_marks" ["told", "word", "ends"] sp_marks) : Df P w K mg base 5 "_law_end_good" ["asker", "letters", "most", "asked", "told"] (sp_end_good CA CB) := by
  refine T.t_law_end_good.ok sc_law_end_good (fun vs H Q E h => by obtain ⟨x, _, a, _⟩ := h; exact a.len) (fun f cdv A outer s H vs Q E hr h => ?_)
  obtain ⟨⟨⟨A, L, most, b, fi, la, hud, wid⟩, hid, hu, asks, hs, kept, wi⟩, ⟨hwid, R, hw, bz⟩, ⟨v1, _, rfl, h1, v2, _, rfl, h2, v3, _, rfl, h3, v4, _, rfl, h4, v5, _, rfl, ⟨d, rfl, hd⟩, rfl⟩, k⟩ := h
  have hwid : wid = wiD L wi := hwid
  subst hwid
  have R : Ready L most hid b fi la hu asks hs kept wi := R
  have hw : (∃ g, wi = .don g) ∨ ∃ w, wi = .spt w := hw
  have bz : b.length ≤ 5000 := bz
  have TB := R.inv.tab
  have Sm := R.inv.small
  have bok := R.inv.bok
  obtain ⟨at1, hrow, hdif, hask⟩ := end_rows R hw
  have h1 : isAsk CA CB A L most b fi la hud (wiD L wi) v1 H := h1
  have h2 : Im H (nD L) v2 := h2
  have h3 : Im H (nD most) v3 := h3
  have h4 : Im H (nD (asks.length + hs)) v4 := h4
  have hd : H d = some (.dT (enc b)) := hd
  have fl := Sm.fl
  have l6 := Sm.l6
  have hml : most ≤ 4 := TB.m4
  have hT : isT b (.ref d) H := ⟨d, rfl, hd⟩
  refine ⟨_, (pss_cons (ps_set (i := 5) sc_law_end_good.nd rfl (.inl rfl) (pmeth0 (pv 0) T.clCA D_SayAsker_access (hr.mono (by decide)))) (pss_cons (ps_set (i := 6) sc_law_end_good.nd rfl (.inr rfl) (pmeth0 (pv 0) T.clCA D_SayAsker_tellers (hr.mono (by decide)))) (pss_cons (ps_set (i := 7) sc_law_end_good.nd rfl (.inl rfl) (pmeth0 (pv 0) T.clCA D_SayAsker_wants (hr.mono (by decide)))) (pss_cons (ps_if (PW.pt (pw_or (pt_not (pt_val (pcall D_law_access_good (hr.mono (by decide)) rfl (pa_cons (pv 5) (pa_cons (pv 1) pa_nil))))) (pw_or1 (pt_not (pt_val (pcall D_law_ends_good (hr.mono (by decide)) rfl (pa_cons (pv 6) (pa_cons (pv 1) pa_nil)))))))) (pss_one (ps_ret pe_bl)) pss_nil) (pss_cons (ps_if (pt_cmpR op_eq (pe_ix ix_tup (pv 7) pe_int (fun _ _ => rfl)) pe_str (nomark _)) (pss_cons (ps_if (PW.pt (pw_or (pt_cmpR op_ne (pe_callB call_len_seq (by rfl) T.b_len PySem.boot_len (pa_cons (pv 5) pa_nil)) (pv 2) (nomark _)) (pw_or (pt_cmpR op_eq (pe_callB call_len_seq (by rfl) T.b_len PySem.boot_len (pa_cons (pe_ix ix_tup (pv 7) pe_int (fun _ _ => rfl)) pa_nil)) pe_int (nomark _)) (pw_or1 (pt_cmpR (op_notInD (u65 hr)) (pe_slice sl_tupA (pe_ix ix_tup (pv 7) pe_int (fun _ _ => rfl)) po_none (po_some (pe_un un_neg pe_int))) (pv 5) (by rfl)))))) (pss_one (ps_ret pe_bl)) pss_nil) (pss_one (ps_set (i := 5) sc_law_end_good.nd rfl (.inl rfl) (pe_op op_cat (pv 5) (pe_lst (pa_cons (pe_ix ix_tup (pv 7) pe_int (fun _ _ => rfl)) pa_nil)))))) pss_nil) (pss_cons (ps_setLc (i := 8) (own := [("word", 9)]) (g := gName 9) (tt := tYes) rfl sc_law_end_good.nd rfl rfl (sw_true rfl rfl rfl (by decide +kernel)) (pi_list (pv 5)) (blkOk_by (own := [("word", 9)]) (N := ["asker", "letters", "most", "asked", "told", "access", "ends", "wish", "rows", "word", "k", "many"]) (sc := defScope s_law_end_good) (by decide +kernel)) (fun _ _ _ _ _ => (pg_name (i := 9) sc_law_end_good.nd rfl (.inl rfl))) (fun _ _ _ _ _ => pts_nil) (fun _ _ _ _ _ => (pcall D_law_marks (hr.mono (by decide)) rfl (pa_cons (pv 4) (pa_cons (pv 9) (pa_cons (pv 6) pa_nil)))))) (pss_cons (ps_for PassesOwn.never rfl (pi_range1 (by rfl) T.b_range (pa_cons (pe_callB call_len_seq (by rfl) T.b_len PySem.boot_len (pa_cons (pv 8) pa_nil)) pa_nil)) (pg_name (i := 10) sc_law_end_good.nd rfl (.inl rfl)) (pss_one (ps_if (PW.pt (pw_or (pt_cmpR op_ne (pe_callB call_len_seq (by rfl) T.b_len PySem.boot_len (pa_cons (pe_ix ix_list (pv 8) (pv 10) (fun _ _ => rfl)) pa_nil)) (pe_callB call_len_seq (by rfl) T.b_len PySem.boot_len (pa_cons (pv 6) pa_nil)) (nomark _)) (pw_or1 (pt_cmpR (op_inD (u65 hr)) (pe_ix ix_list (pv 8) (pv 10) (fun _ _ => rfl)) (pe_slice sl_list (pv 8) po_none (po_some (pv 10))) (by rfl))))) (pss_one (ps_ret pe_bl)) pss_nil))) (pss_cons (ps_set (i := 11) sc_law_end_good.nd rfl (.inl rfl) (pe_callB call_len_seq (by rfl) T.b_len PySem.boot_len (pa_cons (pv 5) pa_nil))) (pss_cons (ps_if (pt_cmpR op_gt (pv 3) (pe_op op_add (pe_op op_mul (pe_op op_add pe_int (pe_op op_mul (pv 11) (pv 1))) (pe_op op_add (pv 11) (pv 1))) (pe_op op_mul pe_int (pe_op op_sub (pv 11) pe_int))) (nomark _)) (pss_one (ps_ret pe_bl)) pss_nil) (pss_one (ps_ret (pe_cmpR (op_eqD hr.units) (pmeth0 (pv 0) T.clCA D_SayAsker_heard (hr.mono (by decide))) (pe_list_items rfl (pv 4) (by rfl) T.b_list (by decide +kernel)) (nomark _))))))))))))), ?_⟩
  let x : AK := ⟨A, L, most, b, fi, la, hud, wiD L wi⟩
  refine q_asg (P := isD (.list (wsD fi))) (EvF.toL (f_meth (ps := fun x : AK => [x.is CA CB]) (ds := fun x : AK => wsD x.fi) x trivial (e_var rfl h1 mo_ask) mo_ask (ask_ins (by decide +kernel)) a_nil rfl)) fun v6 H1 e1 pv6 => ?_
  refine q_asg (P := isD (.list (wsD la))) (EvF.toL (f_meth (ps := fun x : AK => [x.is CA CB]) (ds := fun x : AK => wsD x.la) x trivial (e_var rfl (mo_ask _ _ _ e1 h1) mo_ask) mo_ask (ask_ins (by decide +kernel)) a_nil rfl)) fun v7 H2 e2 pv7 => ?_
  have e02 := e1.trans e2
  refine q_asg (P := isD (wiD L wi)) (e_meth (ps := fun x : AK => [x.is CA CB]) (post := fun x : AK => isD x.wi) (x := x) trivial (e_var rfl (mo_ask _ _ _ e02 h1) mo_ask) mo_ask (ask_ins (by decide +kernel)) a_nil rfl) fun v8 H3 e3 pv8 => ?_
  have e03 := e02.trans e3
  have pv6 : Im H3 (.list (wsD fi)) v6 := Im.ex pv6 (e2.trans e3)
  have pv7 : Im H3 (.list (wsD la)) v7 := Im.ex pv7 e3
  have pv8 : Im H3 (wiD L wi) v8 := pv8
  rw [wi_eq] at pv8
  refine q_no (t_oF (t_nT (t_B (e_call (L, fi) ⟨most, hid, la, TB⟩ (a_d (d_var rfl pv6) (a_d (d_var rfl (h2.ex e03)) a_nil))))) (t_nT (t_B (e_call (L, la) ⟨Sm.ll, most, hid, fi, TB⟩ (a_d (d_var rfl pv7) (a_d (d_var rfl (h2.ex e03)) a_nil)))))) fun H4 e4 => ?_
  have e04 := e03.trans e4
  have w0 : ∀ (H8 : Hp) (σ : L2.St), Ex H3 H8 → σ[7]? = some (some v8) → EvP (tOp (rIxT K) (tVar 7) (tC (.int 0))) σ H8 (isD (.str (wnm wi))) := fun H8 σ e8 h0 => d_ixT (d_var h0 (pv8.ex e8)) (d_int (i := 0)) (at_nat (i := 0) rfl)
  have w1 : ∀ (H8 : Hp) (σ : L2.St), Ex H3 H8 → σ[7]? = some (some v8) → EvP (tOp (rIxT K) (tVar 7) (tC (.int 1))) σ H8 (isD (wrest L wi)) := fun H8 σ e8 h0 => d_ixT (d_var h0 (pv8.ex e8)) (d_int (i := 1)) (at_nat (i := 1) rfl)
  have wlen : (endW fi wi).length ≤ 5 := by
    rcases hw with ⟨g, rfl⟩ | ⟨w, rfl⟩
    · show fi.length ≤ 5; omega
    · show (fi ++ [w]).length ≤ 5; rw [List.length_append, List.length_singleton]; omega
  have wpos : 1 ≤ (endW fi wi).length := by
    have := TB.pos
    rcases hw with ⟨g, rfl⟩ | ⟨w, rfl⟩
    · exact this
    · show 1 ≤ (fi ++ [w]).length; rw [List.length_append, List.length_singleton]; omega
  refine q_ifJ (P := isD (.list (wsD (endW fi wi)))) (t_cmp (d_eqS (w0 _ _ e4 rfl) d_str)) (fun σ' H' => ∃ va, Ex H3 H' ∧ Im H' (.list (wsD (endW fi wi))) va ∧ σ' = [some v1, some v2, some v3, some v4, some (.ref d), some va, some v7, some v8, none, none, none, none])
    (fun hb H5 e5 => ?_) (fun hb v H5 e5 pv => ⟨v, e4.trans e5, pv, rfl⟩) (fun hb H5 e5 => ⟨v6, e4.trans e5, ?_, rfl⟩) ?_
  · have e35 := e4.trans e5
    rcases hw with ⟨g, rfl⟩ | ⟨wd, rfl⟩
    · exact absurd (of_decide_eq_true hb) (by show ¬ (("done" : Str) = "spent"); decide +kernel)
    · obtain ⟨I, hn, _, hl, hir, hne⟩ := R
      have hl : fi.length = most := hl
      have hnm : wd ∉ fi := fun m => hne wd m rfl
      rcases hir with m | ⟨u, hu, a, ha, hwd⟩
      · exact absurd m hnm
      have hwl : wd.length ≠ 0 := by rw [hwd, List.length_append, List.length_singleton]; omega
      refine ⟨t_oF (cn_no (d_neI (d_lenM (K := K) (d_var rfl (pv6.ex e35))) (d_var rfl (h3.ex (e04.trans e5)))) (by show ((fi.length : Nat) : Int) = ((most : Nat) : Int); omega)) (t_oF (c_no (d_eqI (d_lenMT (K := K) (w1 _ _ e35 rfl)) d_int) (by omega)) (t_cmp (d_notInD (K := K) (d_slInit (K := K) (w1 _ _ e35 rfl) d_neg1) (d_var rfl (pv6.ex e35)) ((sh_wD _).ok (by decide)) ((sh_ws _).ok (by decide)) ?_))), EvF.toL ?_⟩
      · rw [any_ws, dT]
        · rfl
        · rw [hwd, List.dropLast_concat]; exact hu
      · have := f_catL (ds := wsD fi) (es := wsD [wd]) (d_var (σ := [some v1, some v2, some v3, some v4, some (.ref d), some v6, some v7, some v8, none, none, none, none]) (i := 5) rfl (pv6.ex e35)) (EvF.toL (f_lst (ds := [wD wd]) (a_d (w1 _ _ e35 rfl) a_nil) (by show 1 ≤ 100000; decide))) (by rw [List.length_map]; show fi.length + 1 ≤ 100000; omega)
        show EvF _ _ H5 ((fi ++ [wd]).map wD)
        rw [List.map_append]
        exact this
  · rcases hw with ⟨g, rfl⟩ | ⟨wd, rfl⟩
    · exact pv6.ex (e4.trans e5)
    · have hb : decide (("spent" : Str) = "spent") = false := hb
      rw [decide_eq_true rfl] at hb
      cases hb
  rintro σ5 H5 ⟨va, e35, pva, rfl⟩
  have e05 := e03.trans e35
  have hla : ∀ e ∈ la, e.length ≤ 1000 := Sm.lw
  refine q_asg (P := isD (.list (((endW fi wi).map (rowH hid la)).map lD))) (EvF.toL (c_L (K := K) (d_var rfl pva) (rs := ((endW fi wi).map (rowH hid la)).map lD) (by rw [List.length_map, List.length_map, List.length_map]) (by rw [List.length_map]; omega) (fun _ => rfl) (fun _ _ _ _ _ _ _ => t_yes) (fun q dd rr x H8 e8 hdd hr' hx => ?_))) fun v9 H6 e6 pv9 => ?_
  · obtain ⟨u, hu, rfl⟩ := map_get hdd
    rw [List.getElem?_map, List.getElem?_map, hu] at hr'
    cases hr'
    have hir := hrow u (List.mem_of_getElem? hu)
    have hul := (TB.row hir).1
    exact (f_call (ps := fun x : LM => [isT x.b, isD (wD x.u), isD (.list (wsD x.la))]) (ds := fun x : LM => x.ms.map .int) (⟨b, u, la, rowH hid la u⟩ : LM) ⟨by show u.length ≤ 20; omega, Sm.ll, hla, rowO_row bok at1 hir⟩ (a_cons (e_var rfl (mo_T b _ _ _ (e05.trans e8) hT) (mo_T b)) (mo_T b) (a_d (d_var rfl hx) (a_d (d_var rfl (pv7.ex (e35.trans e8))) a_nil)))).toG (ptAll_int _)
  have pv9 : Im H6 (.list (((endW fi wi).map (rowH hid la)).map lD)) v9 := pv9
  have rl : ((endW fi wi).map (rowH hid la)).length = (endW fi wi).length := List.length_map _
  have e36 := e35.trans e6
  refine q_forR (n := (endW fi wi).length) (by have := d_lenM (K := K) (σ := [some v1, some v2, some v3, some v4, some (.ref d), some va, some v7, some v8, some v9, none, none, none]) (d_var (i := 8) rfl pv9); rw [rl] at this; exact this) (by omega) fun H7 e7 => ⟨fun i σ' H' => Ex H7 H' ∧ ∃ o10, σ' = [some v1, some v2, some v3, some v4, some (.ref d), some va, some v7, some v8, some v9, none, o10, none], ⟨Ex.refl _, none, rfl⟩, ?_, ?_⟩
  · rintro i σ' H' hi ⟨e, o10, rfl⟩
    have hu : (endW fi wi)[i]? = some (endW fi wi)[i] := List.getElem?_eq_getElem hi
    generalize (endW fi wi)[i] = u at hu
    have hget : ((endW fi wi).map (rowH hid la))[i]? = some (rowH hid la u) := by rw [List.getElem?_map, hu]; rfl
    have e69 := e7.trans e
    have ri : EvP (tOp (rIxL K) (tVar 8) (tVar 10)) [some v1, some v2, some v3, some v4, some (.ref d), some va, some v7, some v8, some v9, none, some (.int (i : Int)), none] H' (isD (lD (rowH hid la u))) := d_ixL (d_var rfl (pv9.ex e69)) (d_var rfl (.int _)) (at_map hget)
    refine k_no (t_oF (cn_no (d_neI (d_lenM (K := K) ri) (d_lenM (K := K) (d_var rfl (pv7.ex (e36.trans e69))))) (by unfold rowH; rw [List.length_map])) (t_cmp (d_inD (K := K) ri (f_slL (d_var rfl (pv9.ex e69)) o_none (o_some (d_var rfl (.int _)))).toL ((sh_lD _).ok (by decide)) (by rw [cutD_map]; exact (Sh.lst (n := 1) (sh_map fun x => sh_lD x)).ok (by decide)) ?_))) fun H8 e8 => ⟨e.trans e8, _, rfl⟩
    rw [cutD_map, cutD_to, any_ls, dF]
    intro m
    rw [← List.map_take] at m
    obtain ⟨v, hv, he⟩ := List.mem_map.mp m
    obtain ⟨j, hj⟩ := List.getElem?_of_mem hv
    have hjl := (List.getElem?_eq_some_iff.mp hj).1
    rw [List.length_take] at hjl
    rw [List.getElem?_take_of_lt (by omega)] at hj
    exact hdif j i v u (by omega) hj hu he
  · rintro σ' H' ⟨e, o10, rfl⟩
    have e39 := (e36.trans e7).trans e
    have e69 := (e6.trans e7).trans e
    refine q_asg (d_lenM (K := K) (d_var rfl (pva.ex e69))) fun v11 H8 e8 pv11 => ?_
    have pv11 : Im H8 (nD (endW fi wi).length) v11 := pv11
    have e08 := (e03.trans e39).trans e8
    generalize (endW fi wi).length = m at pv11 wlen wpos hask
    refine q_no (c_no (d_gt (i := ((asks.length + hs : Nat) : Int)) (j := (1 + (m : Int) * L) * (m + L) + 10 * (m - 1)) (d_var rfl (h4.ex e08)) (d_add (d_mul (d_add (i := 1) d_int (d_mul (i := m) (j := L) (d_var rfl pv11) (d_var rfl (h2.ex e08)) (.inl ⟨by omega, by omega⟩))) (d_add (i := m) (j := L) (d_var rfl pv11) (d_var rfl (h2.ex e08))) (.inr ⟨by omega, by omega⟩)) (d_mul (i := 10) (j := m - 1) d_int (d_sub (i := m) (j := 1) (d_var rfl pv11) d_int) (.inl ⟨by decide, by decide⟩)))) ?_) fun H9 e9 => ?_
    · have hc : (1 + (m : Int) * L) * (m + L) = (((1 + m * L) * (m + L) : Nat) : Int) := by push_cast; rfl
      rw [hc]
      omega
    have e09 := e08.trans e9
    exact k_ret (d_eqD (K := K) (EvF.toL (f_meth (ps := fun x : AK => [x.is CA CB]) (ds := fun x : AK => x.b.map prD) x bz (e_var rfl (mo_ask _ _ _ e09 h1) mo_ask) mo_ask (ask_ins (by decide +kernel)) a_nil rfl)) (EvF.toL (f_items (b := b) (e_var rfl (mo_T b _ _ _ e09 hT) (mo_T b)))) (sh_heard b) (sh_heard b) (heard_eq b)) fun v H10 e10 pv => k v H10 (e09.trans e10) pv
end
end Gr
end
section
set_option maxRecDepth 100000
set_option maxHeartbeats 4000000
/-! A house is shown. -/
namespace Gr
open PySem L2 PySem.Spec PyProof.Rows Evl
/-! ### all but what changes -/
def off (S : List Addr) (H : Hp) : Hp := fun c => if c ∈ S then none else H c
def Fo (S : List Addr) (H H' : Hp) : Prop := ∀ c o, c ∉ S → H c = some o → H' c = some o
section
variable {S : List Addr} {H H' H0 H1 H2 : Hp} {c : Addr} {o : HO}
theorem off_ne (h : c ∉ S) : off S H c = H c := by unfold off; rw [if_neg h]
theorem off_some (h : off S H c = some o) : c ∉ S ∧ H c = some o := by
  unfold off at h
  by_cases q : c ∈ S
  · rw [if_pos q] at h; cases h
  · rw [if_neg q] at h; exact ⟨q, h⟩
theorem off_le : Ex (off S H) H := fun c o h => (off_some h).2
theorem off_mono (f : Fo S H H') : Ex (off S H) (off S H') := fun c o h => by
  obtain ⟨h1, h2⟩ := off_some h
  rw [off_ne h1]
  exact f c o h1 h2
theorem fo_ex (e : Ex H H') : Fo S H H' := fun c o _ h => e c o h
theorem Fo.refl (S : List Addr) (H : Hp) : Fo S H H := fo_ex (Ex.refl H)
theorem Fo.trans (f : Fo S H H1) (g : Fo S H1 H2) : Fo S H H2 := fun c o n h => g c o n (f c o n h)
theorem fo_upd (e : Ex H H1) (h : c ∈ S) : Fo S H (upd H1 c o) := fun b u n q => by
  rw [upd_ne fun z => n (by rw [z]; exact h)]
  exact e b u q
theorem off_ex0 (e : Ex H0 H) (h : ∀ c ∈ S, H0 c = none) : Ex H0 (off S H) := fun c o q => by
  rw [off_ne fun m => by rw [h c m] at q; cases q]
  exact e c o q
def Lv (S : List Addr) (H : Hp) : Prop := ∀ c ∈ S, ∃ o, H c = some o ∧ ∀ xs, o ≠ .tup xs
theorem Lv.ex (l : Lv S H) (e : Ex H H') : Lv S H' := fun c m => by
  obtain ⟨o, h1, h2⟩ := l c m
  exact ⟨o, e c o h1, h2⟩
theorem Lv.kt (l : Lv S H) : Kt H (off S H) := fun c xs h => by
  rw [off_ne fun m => by obtain ⟨o, h1, h2⟩ := l c m; rw [h] at h1; cases h1; exact h2 xs rfl]
  exact h
theorem Lv.new (l : Lv S H) (h : H c = none) : c ∉ S := fun m => by
  obtain ⟨o, h1, _⟩ := l c m
  rw [h] at h1
  cases h1
def offP (S : List Addr) (d : PyData) : VP := fun v H => Im (off S H) d v
theorem mo_off (S : List Addr) (d : PyData) : Mo (offP S d) := fun _ _ _ e h => h.ex (off_mono (fo_ex e))
end
section
variable {K : PySem.W.Frag} {S : List Addr} {σ : L2.St} {H : Hp} {D : Ends} {tz : TS} {te ta tb : TE} {P : VP} {d d1 d2 : PyData}
theorem o_fresh {ds : List PyData} (h : EvF te σ H ds) (l : Lv S H) (hp : ptAll ds = true) : EvP te σ H (offP S (.list ds)) := fun H1 e Q q =>
  h H1 e _ fun p H2 xs p0 e2 hx hi => q _ H2 e2 (.lst (by rw [off_ne ((l.ex e).new p0)]; exact hx) (hi.kt (l.ex (e.trans e2)).kt hp))
theorem o_tup2 (h1 : EvP ta σ H (offP S d1)) (h2 : EvP tb σ H (offP S d2)) (l : Lv S H) : EvP (tTup (tCons ta (tCons tb tNil))) σ H (offP S (.tuple [d1, d2])) := fun H1 e Q q =>
  (a_cons h1 (mo_off S d1) (a_cons h2 (mo_off S d2) a_nil)) H1 e _ fun vs H2 e2 pa => by
    obtain ⟨x, r, rfl, hx, y, r2, rfl, hy, hr⟩ := pa
    have hr : r2 = [] := hr
    subst hr
    refine ⟨by show 2 ≤ sizeLine; decide, fun p p0 => q _ _ (e2.trans (Ex.new p0)) ?_⟩
    have hp := (l.ex (e.trans e2)).new p0
    have em : Ex (off S H2) (off S (upd H2 p (.tup [x, y]))) := off_mono (fo_ex (Ex.new p0))
    exact .tup (xs := [x, y]) (by rw [off_ne hp]; exact upd_same) (.cons (Im.ex hx em) (.cons (Im.ex hy em) .nil))
theorem q_setL {l : Addr} {xs : List V} {j : Nat} (hl : H l = some (.lst xs)) (h : EvP te σ H P) (mo : Mo P) (ha : EvP ta σ H (isV (.ref l))) (hb : EvP tb σ H (isD (nD j))) (hj : j < xs.length) (k : ∀ v H1, Ex H H1 → P v H1 → tz D σ (upd H1 l (.lst (xs.set j v)))) : tSeq (tAsg te (gSub ta tb rSetL)) tz D σ H :=
  k_setL (D := { D with nx := tz D }) hl h mo ha hb hj k
/-- what is appended to a new list is lost -/
theorem q_appN {to : TE} {ds : List PyData} (h : EvF to σ H ds) (he : ∀ H', EvP te σ H' P) (hz : ds.length < 100000) (k : ∀ H1, Ex H H1 → tz D σ H1) : tSeq (tDrop (tBM K "list" rAppend to (tCons te tNil))) tz D σ H :=
  h H (Ex.refl H) _ fun p H1 xs p0 e1 hp hx => ⟨Or.inl ⟨rfl, xs, sq_of hp⟩, he H1 H1 (Ex.refl _) _ fun v H2 e2 pv => ⟨p, xs, v, rfl, rfl, e2 _ _ hp, sz_lt (by rw [hx.len]; exact hz), k _ (Ex.mut (e1.trans e2) p0)⟩⟩
theorem q_clearN {to : TE} {ds : List PyData} (h : EvF to σ H ds) (k : ∀ H1, Ex H H1 → tz D σ H1) : tSeq (tDrop (tBM0 K "list" rClear to)) tz D σ H :=
  h H (Ex.refl H) _ fun p H1 xs p0 e1 hp hx => ⟨Or.inl ⟨rfl, xs, sq_of hp⟩, p, xs, rfl, rfl, hp, k _ (Ex.mut e1 p0)⟩
end
section
variable {CA CB : Addr} {A : Ad} {L most : Nat} {b : List (Word × Int)} {fi la : List Word} {hu wi : PyData} {H H' : Hp}
theorem At.keep (S : At CA CB A L most b fi la hu wi H) {x : Addr} {u : HO} (f : ∀ c o, c ≠ x → H c = some o → H' c = some o) (hx : H x = some u) (nt : ∀ xs, u ≠ .tup xs) (n1 : A.p ≠ x) (n2 : A.bk ≠ x) (n3 : A.d ≠ x) (n4 : A.l1 ≠ x) (n5 : A.l2 ≠ x) : At CA CB A L most b fi la hu wi H' := by
  have kt : Kt H H' := fun c xs h => f c _ (ne_of h hx fun z => nt xs z.symm) h
  obtain ⟨⟨dx, hv, wv, hp, i1, i2⟩, ⟨⟨dxb, hb⟩, hd⟩, ⟨x1, h1, j1⟩, ⟨x2, h2, j2⟩, ne, q1, q2⟩ := S
  exact ⟨⟨dx, hv, wv, f _ _ n1 hp, i1.kt kt q1, i2.kt kt q2⟩, ⟨⟨dxb, f _ _ n2 hb⟩, f _ _ n3 hd⟩, ⟨x1, f _ _ n4 h1, j1.kt kt (ptAll_ws _)⟩, ⟨x2, f _ _ n5 h2, j2.kt kt (ptAll_ws _)⟩, ne, q1, q2⟩
end
/-- where the hunt stands: the asker, the row of state, what was told -/
structure Lw (CA CB : Addr) (A : Ad) (st t : Addr) (L most : Nat) (b bt : List (Word × Int)) (fi la : List Word) (hu wi : PyData) (kf kl : List Word) (shows : Nat) (hvD : PyData) (H : Hp) : Prop where
  at_ : At CA CB A L most b fi la hu wi H
  sl : ∃ kv hv, H st = some (.lst [kv, .int (shows : Int), hv]) ∧ Im (off [A.p, A.d, A.l1, A.l2, st, t] H) (ktD kf kl) kv ∧ Im (off [A.p, A.d, A.l1, A.l2, st, t] H) hvD hv
  tl : H t = some (.dT (enc bt))
  n1 : st ≠ A.l1
  n2 : st ≠ A.l2
  n3 : t ≠ A.d
abbrev Ad.S (A : Ad) (st t : Addr) : List Addr := [A.p, A.d, A.l1, A.l2, st, t]
section
variable {CA CB : Addr} {A : Ad} {st t : Addr} {L most : Nat} {b bt : List (Word × Int)} {fi la kf kl : List Word} {hu wi hvD : PyData} {shows : Nat} {H H' : Hp}
theorem Lw.lv (W : Lw CA CB A st t L most b bt fi la hu wi kf kl shows hvD H) : Lv (A.S st t) H := fun c m => by
  obtain ⟨dx, hv, wv, hp, _⟩ := W.at_.ins
  obtain ⟨_, hd⟩ := W.at_.book
  obtain ⟨_, h1, _⟩ := W.at_.one
  obtain ⟨_, h2, _⟩ := W.at_.two
  obtain ⟨_, _, hs, _⟩ := W.sl
  simp only [Ad.S, List.mem_cons, List.not_mem_nil, or_false] at m
  rcases m with rfl | rfl | rfl | rfl | rfl | rfl
  · exact ⟨_, hp, fun _ z => nomatch z⟩
  · exact ⟨_, hd, fun _ z => nomatch z⟩
  · exact ⟨_, h1, fun _ z => nomatch z⟩
  · exact ⟨_, h2, fun _ z => nomatch z⟩
  · exact ⟨_, hs, fun _ z => nomatch z⟩
  · exact ⟨_, W.tl, fun _ z => nomatch z⟩
theorem Lw.stp (W : Lw CA CB A st t L most b bt fi la hu wi kf kl shows hvD H) : st ≠ A.p ∧ st ≠ A.d ∧ st ≠ A.bk ∧ st ≠ t := by
  obtain ⟨dx, hv, wv, hp, _⟩ := W.at_.ins
  obtain ⟨⟨_, hb⟩, hd⟩ := W.at_.book
  obtain ⟨_, _, hs, _⟩ := W.sl
  refine ⟨fun z => ?_, fun z => ?_, fun z => ?_, fun z => ?_⟩
  · rw [z, hp] at hs; cases hs
  · rw [z, hd] at hs; cases hs
  · rw [z, hb] at hs; cases hs
  · have := W.tl; rw [← z, hs] at this; cases this
theorem Lw.tp (W : Lw CA CB A st t L most b bt fi la hu wi kf kl shows hvD H) : t ≠ A.p ∧ t ≠ A.l1 ∧ t ≠ A.l2 ∧ t ≠ A.bk := by
  obtain ⟨dx, hv, wv, hp, _⟩ := W.at_.ins
  obtain ⟨⟨_, hb⟩, hd⟩ := W.at_.book
  obtain ⟨_, h1, _⟩ := W.at_.one
  obtain ⟨_, h2, _⟩ := W.at_.two
  have ht := W.tl
  refine ⟨fun z => ?_, fun z => ?_, fun z => ?_, fun z => ?_⟩
  · rw [z, hp] at ht; cases ht
  · rw [z, h1] at ht; cases ht
  · rw [z, h2] at ht; cases ht
  · rw [z, hb] at ht; cases ht
theorem fo_fq (f : Fq A H H') : Fo (A.S st t) H H' := fun c o n h => by
  simp only [Ad.S, List.mem_cons, List.not_mem_nil, or_false, not_or] at n
  exact f c o n.1 n.2.1 n.2.2.1 n.2.2.2.1 h
theorem Lw.ex (W : Lw CA CB A st t L most b bt fi la hu wi kf kl shows hvD H) (e : Ex H H') : Lw CA CB A st t L most b bt fi la hu wi kf kl shows hvD H' := by
  obtain ⟨a, ⟨kv, hv, hs, i1, i2⟩, ht, n1, n2, n3⟩ := W
  exact ⟨a.ex e, ⟨kv, hv, e _ _ hs, i1.ex (off_mono (fo_ex e)), i2.ex (off_mono (fo_ex e))⟩, e _ _ ht, n1, n2, n3⟩
theorem Lw.ask (W : Lw CA CB A st t L most b bt fi la hu wi kf kl shows hvD H) (f : Fq A H H') {b' : List (Word × Int)} {fi' la' : List Word} {hu' wi' : PyData} (a : At CA CB A L most b' fi' la' hu' wi' H') : Lw CA CB A st t L most b' bt fi' la' hu' wi' kf kl shows hvD H' := by
  obtain ⟨s1, s2, _, _⟩ := W.stp
  obtain ⟨t1, t2, t3, _⟩ := W.tp
  obtain ⟨_, ⟨kv, hv, hs, i1, i2⟩, ht, n1, n2, n3⟩ := W
  have em := off_mono (fo_fq (st := st) (t := t) f)
  exact ⟨a, ⟨kv, hv, f _ _ s1 s2 n1 n2 hs, i1.ex em, i2.ex em⟩, f _ _ t1 n3 t2 t3 ht, n1, n2, n3⟩
theorem Lw.tput (W : Lw CA CB A st t L most b bt fi la hu wi kf kl shows hvD H) (e : Ex H H') (bt' : List (Word × Int)) : Lw CA CB A st t L most b bt' fi la hu wi kf kl shows hvD (upd H' t (.dT (enc bt'))) := by
  have W' := W.ex e
  obtain ⟨_, _, _, s4⟩ := W.stp
  obtain ⟨t1, t2, t3, t4⟩ := W.tp
  obtain ⟨a, ⟨kv, hv, hs, i1, i2⟩, ht, n1, n2, n3⟩ := W'
  have em : Ex (off (A.S st t) H') (off (A.S st t) (upd H' t (.dT (enc bt')))) := off_mono (fo_upd (Ex.refl _) (by simp [Ad.S]))
  exact ⟨a.keep (x := t) (fun c o n h => by rw [upd_ne n]; exact h) ht (fun _ z => nomatch z) t1.symm t4.symm n3.symm t2.symm t3.symm, ⟨kv, hv, by rw [upd_ne s4]; exact hs, i1.ex em, i2.ex em⟩, upd_same, n1, n2, n3⟩
theorem Lw.sset (W : Lw CA CB A st t L most b bt fi la hu wi kf kl shows hvD H) (e : Ex H H') {kv hv : V} {n : Nat} {kf' kl' : List Word} {hvD' : PyData} (h1 : Im (off (A.S st t) H') (ktD kf' kl') kv) (h2 : Im (off (A.S st t) H') hvD' hv) : Lw CA CB A st t L most b bt fi la hu wi kf' kl' n hvD' (upd H' st (.lst [kv, .int (n : Int), hv])) := by
  have W' := W.ex e
  obtain ⟨s1, s2, s3, s4⟩ := W.stp
  obtain ⟨a, ⟨kv', hv', hs, i1, i2⟩, ht, n1, n2, n3⟩ := W'
  have em : Ex (off (A.S st t) H') (off (A.S st t) (upd H' st (.lst [kv, .int (n : Int), hv]))) := off_mono (fo_upd (Ex.refl _) (by simp [Ad.S]))
  exact ⟨a.keep (x := st) (fun c o n h => by rw [upd_ne n]; exact h) hs (fun _ z => nomatch z) s1.symm s3.symm s2.symm n1.symm n2.symm, ⟨kv, hv, upd_same, h1.ex em, h2.ex em⟩, by rw [upd_ne s4.symm]; exact ht, n1, n2, n3⟩
theorem Lw.imst (W : Lw CA CB A st t L most b bt fi la hu wi kf kl shows hvD H) : Im H (.list [ktD kf kl, nD shows, hvD]) (.ref st) := by
  obtain ⟨kv, hv, hs, i1, i2⟩ := W.sl
  exact .lst hs (.cons (i1.ex off_le) (.cons (.int _) (.cons (i2.ex off_le) .nil)))
theorem Lw.told (W : Lw CA CB A st t L most b bt fi la hu wi kf kl shows hvD H) : isT bt (.ref t) H := ⟨t, rfl, W.tl⟩
end
/-- what the law's hidden house keeps -/
structure Hok (L : Nat) (g : House) : Prop where
  ok : Ok L g
  wl : g.ways.length ≤ 5
  mks : ∀ row ∈ g.says, ∀ m ∈ row, 0 ≤ m ∧ m ≤ 1000000000
abbrev hidO (g : House) : Word → Int := fun w => ans g 0 w
theorem Hok.ans {L : Nat} {g : House} (h : Hok L g) {w : Word} (h0 : w ≠ []) (hl : Lets L w) : 0 ≤ ans g 0 w ∧ ans g 0 w ≤ 1000000000 := by
  have e : w = w.dropLast ++ [w.getLast h0] := (List.dropLast_concat_getLast h0).symm
  have hd : Lets L w.dropLast := fun a m => hl a (List.dropLast_subset _ m)
  have ha : w.getLast h0 < L := hl _ (List.getLast_mem h0)
  rw [e, ans_snoc]
  have hr := h.ok.run_lt _ h.ok.pos hd
  have hr2 : run g 0 w.dropLast < g.says.length := by rw [h.ok.sl]; exact hr
  have hm := getD_mem (l := g.says) (d := []) hr2
  refine h.mks _ hm _ ?_
  exact getD_mem (by rw [h.ok.sr _ hm]; exact ha)
end Gr
end
section
set_option maxRecDepth 100000
set_option maxHeartbeats 4000000
namespace Gr
open PySem L2 PySem.Spec PyProof.Rows Evl
theorem told_snoc_eq {b : List (Word × Int)} {w : Word} {m : Int} (h : told b w = none) : told (b ++ [(w, m)]) w = some m := by
  unfold told at h ⊢
  rw [List.find?_append]
  have h2 : b.find? (fun p => decide (p.1 = w)) = none := Option.map_eq_none_iff.mp h
  rw [h2]
  simp
theorem q_dput {σ : L2.St} {H : Hp} {D : Ends} {tz : TS} {td ty tv : TE} {b : List (Word × Int)} {w : Word} {m : Int} {d : Addr} (hd : H d = some (.dT (enc b))) (h : EvP td σ H (isV (.ref d))) (h2 : EvP ty σ H (isD (wD w))) (hv : EvP tv σ H (isD (.int m))) (hn : told b w = none) (hz : b.length < 100000)
    (k : ∀ H1, Ex H H1 → tz D σ (upd H1 d (.dT (enc (b ++ [(w, m)]))))) : tSeq (sDPut td ty tv) tz D σ H := k_dput (D := { D with nx := tz D }) hd h h2 hv hn hz k
section
variable {P : Program} {w : World} {K : PySem.W.Frag} {mg : Str → Option Value} {base : Heap} {CB CA : Addr}
def sp_shown (K : PySem.W.Frag) (CA CB : Addr) : Sp := fun vs H Q _ => ∃ (A : Ad) (L most : Nat) (hd : House) (ns : List Int) (at_ : Nat) (st t : Addr) (b : List (Word × Int)) (fi la : List Word) (gs : House) (asks : List Word) (hs kept : Nat) (kf kl : List Word) (shows : Nat) (hvD : PyData) (vh vsc va : V),
  vs = [.ref A.p, vh, vsc, va, .ref st, .ref t] ∧ Lw CA CB A st t L most b b fi la .none (shD L gs) kf kl shows hvD H ∧ Ready L most (hidO hd) b fi la none asks hs kept (.shw gs) ∧ Hok L hd ∧
  Im (off (A.S st t) H) (hD L hd) vh ∧ isS K ns vsc (off (A.S st t) H) ∧ Im H (nD at_) va ∧ kf <+: fi ∧ kl <+: la ∧ (0 < shows → kf.length ≤ kept) ∧ (shows ≤ 1000 ∧ at_ ≤ 1000 ∧ b.length < 4000) ∧
  (∀ H', Fo (A.S st t) H H' → Lw CA CB A st t L most b b fi la .none (dnD L gs) fi la (shows + 1) (hD L gs) H' → (∀ w, Lets L w → talk hd 0 w = talk gs 0 w) → Q (.bl true) H') ∧
  (∀ H' wd fi' la' hu' wi', Fo (A.S st t) H H' → NoDon wi' → fi <+: fi' → la <+: la' → Ready L most (hidO hd) (b ++ [(wd, hidO hd wd)]) fi' la' hu' asks hs fi.length wi' →
    Lw CA CB A st t L most (b ++ [(wd, hidO hd wd)]) (b ++ [(wd, hidO hd wd)]) fi' la' (huD (hidO hd) L fi' la' hu') (wiD L wi') fi la (shows + 1) hvD H' → Q (.bl true) H')
theorem ok_law_shown (T : All K mg CB CA) (D_SayAsker_wants : Dm P w K mg base CA 1 "wants" ["self"] (sp_wants CA CB)) (D_SayAsker_access : Dm P w K mg base CA 1 "access" ["self"] (sp_access CA CB)) (D_SayAsker_tellers : Dm P w K mg base CA 1 "tellers" ["self"] (sp_tellers CA CB)) (D_SayAsker_heard : Dm P w K mg base CA 2 "heard" ["self"] (sp_heard CA CB))
    (D_law_guess_good : Df P w K mg base 5 "_law_guess_good" ["house", "letters", "asker", "told"] (sp_guess_good CA CB)) (D_law_grows : Df P w K mg base 2 "_law_grows" ["kept", "asker", "strictly"] (sp_grows CA CB)) (D_law_objection : Df P w K mg base 3 "_law_objection" ["hidden", "house", "script", "at", "times"] (sp_objection K)) (D_SayAsker_agree : Dm P w K mg base CA 1 "agree" ["self"] (sp_agree CA CB)) (D_law_talk : Df P w K mg base 1 "_law_talk" ["house", "word"] sp_talk) (D_SayAsker_differ : Dm P w K mg base CA 7 "differ" ["self", "word", "mark"] (sp_differ CA CB)) : Df P w K mg base 8 "_law_shown" ["asker", "hidden", "script", "at", "state", "told"] (sp_shown K CA CB) := by
  refine T.t_law_shown.ok sc_law_shown (fun vs H Q E h => by obtain ⟨_, _, _, _, _, _, _, _, _, _, _, _, _, _, _, _, _, _, _, _, _, _, rfl, _⟩ := h; rfl) (fun f cdv A outer s H vs Q E hr h => ?_)
  obtain ⟨A, L, most, hd, ns, at_, st, t, b, fi, la, gs, asks, hs, kept, kf, kl, shows, hvD, vh, vsc, va, rfl, W, R, HK, hh, hsc, hva, p1, p2, p3, ⟨z1, z2, z3⟩, k1, k2⟩ := h
  refine ⟨_, (pss_cons (ps_set (i := 6) sc_law_shown.nd rfl (.inl rfl) (pe_ix ix_tup (pmeth0 (pv 0) T.clCA D_SayAsker_wants (hr.mono (by decide))) pe_int (fun _ _ => rfl))) (pss_cons (ps_expr (pe_bm PySem.F.plainAttrs_list PySem.F.slot_list_append PySem.F.type_list_append mt_append (pmeth0 (pv 0) T.clCA D_SayAsker_access (hr.mono (by decide))) (pa_cons (pe_tup (pa_cons pe_int pa_nil)) pa_nil))) (pss_cons (ps_expr (pe_bm0 PySem.F.plainAttrs_list PySem.F.slot_list_clear PySem.F.type_list_clear mt_clear (pmeth0 (pv 0) T.clCA D_SayAsker_tellers (hr.mono (by decide))))) (pss_cons (ps_expr (pe_bm0 PySem.F.plainAttrs_list PySem.F.slot_list_clear PySem.F.type_list_clear mt_clear (pmeth0 (pv 0) T.clCA D_SayAsker_heard (hr.mono (by decide))))) (pss_cons (ps_if (PW.pt (pw_or (pt_not (pt_val (pcall D_law_guess_good (hr.mono (by decide)) rfl (pa_cons (pv 6) (pa_cons (pe_ix ix_tup (pv 1) pe_int (fun _ _ => rfl)) (pa_cons (pv 0) (pa_cons (pv 5) pa_nil))))))) (pw_or1 (pt_not (pt_val (pcall D_law_grows (hr.mono (by decide)) rfl (pa_cons (pe_ix ix_list (pv 4) pe_int (fun _ _ => rfl)) (pa_cons (pv 0) (pa_cons (pe_cmpR op_gt (pe_ix ix_list (pv 4) pe_int (fun _ _ => rfl)) pe_int (nomark _)) pa_nil))))))))) (pss_one (ps_ret pe_bl)) pss_nil) (pss_cons (ps_asg (pe_tup (pa_cons (pmeth0 (pv 0) T.clCA D_SayAsker_access (hr.mono (by decide))) (pa_cons (pmeth0 (pv 0) T.clCA D_SayAsker_tellers (hr.mono (by decide))) pa_nil))) (pg_sub (pv 4) pe_int set_list)) (pss_cons (ps_set (i := 7) sc_law_shown.nd rfl (.inl rfl) (pcall D_law_objection (hr.mono (by decide)) rfl (pa_cons (pv 1) (pa_cons (pv 6) (pa_cons (pv 2) (pa_cons (pv 3) (pa_cons (pe_ix ix_list (pv 4) pe_int (fun _ _ => rfl)) pa_nil))))))) (pss_cons (ps_asg (pe_op op_add (pe_ix ix_list (pv 4) pe_int (fun _ _ => rfl)) pe_int) (pg_sub (pv 4) pe_int set_list)) (pss_cons (ps_if (pt_cmp (pc_isN (pv 7))) (pss_cons (ps_asg (pv 6) (pg_sub (pv 4) pe_int set_list)) (pss_cons (ps_expr (pmeth0 (pv 0) T.clCA D_SayAsker_agree (hr.mono (by decide)))) (pss_one (ps_ret pe_bl)))) pss_nil) (pss_cons (ps_if (pt_cmp (pc_din (hu_of hr) (pv 7) (pv 5))) (pss_one (ps_ret pe_bl)) pss_nil) (pss_cons (ps_dput (hu_of hr) (pv 5) (pv 7) (pe_ix ix_list (pcall D_law_talk (hr.mono (by decide)) rfl (pa_cons (pv 1) (pa_cons (pv 7) pa_nil))) (pe_un un_neg pe_int) (fun _ _ => rfl)) rfl) (pss_cons (ps_expr (pmeth (pv 0) T.clCA D_SayAsker_differ (hr.mono (by decide)) (pa_cons (pv 7) (pa_cons (pe_dget (hu_of hr) (pv 5) (pv 7) (fun _ _ => rfl)) pa_nil)))) (pss_one (ps_ret pe_bl)))))))))))))), ?_⟩
  have hg := show_grows R
  have R0 := R
  obtain ⟨I, _, at1, hc, hgs, hall⟩ := R0
  have TB := I.tab
  have Sm := I.small
  have h4 := I.hunLe4
  have O : Ok L gs := by rw [hgs]; exact guess_ok TB hc
  have gwl : gs.ways.length ≤ 10 := by
    rw [hgs, guess_ways_len]
    have := Sm.fl
    omega
  have bo : BookOk L (hidO hd) 1000 b := I.bok.mono (by show 120 + 4 * (hun L la + 0) ≤ 1000; omega)
  have hh0 : Im H (hD L hd) vh := hh.ex off_le
  let x : AK := ⟨A, L, most, b, fi, la, .none, shD L gs⟩
  have ak : ∀ H', Ex H H' → x.is CA CB (.ref A.p) H' := fun H' e => ⟨rfl, W.at_.ex e⟩
  -- house = asker.wants()[1]
  refine q_asg (d_ixT (K := K) (e_meth (ps := fun x : AK => [x.is CA CB]) (post := fun x : AK => isD x.wi) (x := x) trivial (e_var rfl (ak H (Ex.refl _)) mo_ask) mo_ask (ask_ins (by decide +kernel)) a_nil rfl) (d_int (i := 1)) (at_nat (i := 1) (x := hD L gs) rfl)) fun v6 H1 e1 pv6 => ?_
  have pv6 : Im H1 (hD L gs) v6 := pv6
  refine q_appN (K := K) (P := isD (wD [0])) (f_meth (ps := fun x : AK => [x.is CA CB]) (ds := fun x : AK => wsD x.fi) x trivial (e_var rfl (ak _ e1) mo_ask) mo_ask (ask_ins (by decide +kernel)) a_nil rfl) (fun _ => d_tup1 (n := 0) (d_nat rfl)) (by rw [List.length_map]; have := Sm.fl; show fi.length < 100000; omega) fun H2 e2 => ?_
  refine q_clearN (K := K) (f_meth (ps := fun x : AK => [x.is CA CB]) (ds := fun x : AK => wsD x.la) x trivial (e_var rfl (ak _ (e1.trans e2)) mo_ask) mo_ask (ask_ins (by decide +kernel)) a_nil rfl) fun H3 e3 => ?_
  refine q_clearN (K := K) (f_meth (ps := fun x : AK => [x.is CA CB]) (ds := fun x : AK => x.b.map prD) x (by show b.length ≤ 5000; omega) (e_var rfl (ak _ ((e1.trans e2).trans e3)) mo_ask) mo_ask (ask_ins (by decide +kernel)) a_nil rfl) fun H4 e4 => ?_
  have e14 := (e2.trans e3).trans e4
  have e04 := e1.trans e14
  have W4 := W.ex e04
  have g6 : Im H4 (hD L gs) v6 := pv6.ex e14
  have g6' : Im H4 (hD L (guess (hidO hd) L fi la)) v6 := by rw [← hgs]; exact g6
  have ggok : GG.ok ⟨x, hidO hd⟩ := ⟨⟨TB, ⟨_, I.bok⟩, at1, hc, Sm⟩, bo, fun p hp => by have := hall p hp; rw [hgs] at this; exact this, by show b.length ≤ 5000; omega⟩
  have gwok : GW.ok ⟨x, kf, kl, decide ((0 : Int) < (shows : Int))⟩ := ⟨p1, p2, fun h => by
    have h' : (0 : Int) < (shows : Int) := of_decide_eq_true h
    have := p3 (by omega)
    have := hg.1
    show kf.length < fi.length
    omega⟩
  refine q_no (t_oF (t_nT (t_B (e_call (x := (⟨x, hidO hd⟩ : GG)) ggok (a_d (d_var rfl g6') (a_d (d_ixT (K := K) (d_var rfl (hh0.ex e04)) (d_int (i := 0)) (at_nat (i := 0) rfl)) (a_cons (e_var rfl (ak _ e04) mo_ask) mo_ask (a_cons (e_var rfl W4.told (mo_T b)) (mo_T b) a_nil)))))))
    (t_nT (t_B (e_call (x := (⟨x, kf, kl, decide ((0 : Int) < (shows : Int))⟩ : GW)) gwok (a_d (d_ixL (K := K) (d_var rfl W4.imst) (d_int (i := 0)) (at_nat (i := 0) rfl)) (a_cons (e_var rfl (ak _ e04) mo_ask) mo_ask (a_d (d_gt (i := shows) (j := 0) (d_ixL (K := K) (d_var rfl W4.imst) (d_int (i := 1)) (at_nat (i := 1) rfl)) d_int) a_nil))))))) fun H5 e5 => ?_
  have e05 := e04.trans e5
  have W5 := W.ex e05
  obtain ⟨kv, hv, hst, i1, i2⟩ := W5.sl
  -- state[0] = ..
  refine q_setL (P := offP (A.S st t) (ktD fi la)) (j := 0) hst (o_tup2 (o_fresh (f_meth (ps := fun x : AK => [x.is CA CB]) (ds := fun x : AK => wsD x.fi) x trivial (e_var rfl (ak _ e05) mo_ask) mo_ask (ask_ins (by decide +kernel)) a_nil rfl) W5.lv (ptAll_ws fi)) (o_fresh (f_meth (ps := fun x : AK => [x.is CA CB]) (ds := fun x : AK => wsD x.la) x trivial (e_var rfl (ak _ e05) mo_ask) mo_ask (ask_ins (by decide +kernel)) a_nil rfl) W5.lv (ptAll_ws la)) W5.lv) (mo_off _ _) (v_var rfl) (d_nat (n := 0) rfl) (by show 0 < 3; decide) fun kv' H6 e6 pk => ?_
  have pk : Im (off (A.S st t) H6) (ktD fi la) kv' := pk
  have W6 := W5.sset e6 (n := shows) (kv := kv') (hv := hv) pk (i2.ex (off_mono (fo_ex e6)))
  have f06 : Fo (A.S st t) H (upd H6 st (.lst [kv', .int (shows : Int), hv])) := (fo_ex (e05)).trans (fo_upd e6 (by simp [Ad.S]))
  have kt6 : Kt H5 (upd H6 st (.lst [kv', .int (shows : Int), hv])) := (ex_kt e6).trans (Kt.upd (Kt.refl _) (e6 _ _ hst) fun _ z => nomatch z)
  have g6G : Im (upd H6 st (.lst [kv', .int (shows : Int), hv])) (hD L gs) v6 := (g6.ex e5).kt kt6 (pt_hD _ _)
  have vaG : Im (upd H6 st (.lst [kv', .int (shows : Int), hv])) (nD at_) va := (hva.ex e05).kt kt6 rfl
  show tSeq _ _ _ _ (upd H6 st (.lst [kv', .int (shows : Int), hv]))
  generalize upd H6 st (.lst [kv', .int (shows : Int), hv]) = G6 at W6 f06 g6G vaG
  have hhG : Im G6 (hD L hd) vh := (hh.ex (off_mono f06)).ex off_le
  have hsG : isS K ns vsc G6 := mo_S K ns _ _ _ ((off_mono f06).trans off_le) hsc
  -- word = _law_objection(..)
  have obok : OB.ok ⟨ns, at_, shows, L, hd, gs⟩ := ⟨HK.ok, O, by have := HK.wl; show hd.ways.length ≤ 10; omega, gwl, TB.l1, TB.l6, z2, z1⟩
  refine q_asg (P := Obj1 L hd gs) (e_call (x := (⟨ns, at_, shows, L, hd, gs⟩ : OB)) obok (a_d (d_var rfl hhG) (a_d (d_var rfl g6G) (a_s (s_var rfl hsG) (a_d (d_var rfl vaG) (a_d (d_ixL (K := K) (d_var rfl W6.imst) (d_int (i := 1)) (at_nat (i := 1) rfl)) a_nil)))))) fun v7 H7 e7 pv7 => ?_
  have W7 := W6.ex e7
  have f07 : Fo (A.S st t) H H7 := f06.trans (fo_ex e7)
  obtain ⟨kv7, hv7, hst7, j1, j2⟩ := W7.sl
  -- state[1] = state[1] + 1
  refine q_setL (P := isD (nD (shows + 1))) (j := 1) hst7 (EvP.eq (d_add (i := shows) (j := 1) (d_ixL (K := K) (d_var rfl W7.imst) (d_int (i := 1)) (at_nat (i := 1) rfl)) d_int) (by push_cast; rfl)) (mo_D _) (v_var rfl) (d_nat (n := 1) rfl) (by show 1 < 3; decide) fun v8 H8 e8 p8 => ?_
  have p8 : v8 = .int ((shows + 1 : Nat) : Int) := im_int p8
  subst p8
  have W8 := W7.sset e8 (n := shows + 1) (kv := kv7) (hv := hv7) (j1.ex (off_mono (fo_ex e8))) (j2.ex (off_mono (fo_ex e8)))
  have f08 : Fo (A.S st t) H (upd H8 st (.lst [kv7, .int ((shows + 1 : Nat) : Int), hv7])) := f07.trans (fo_upd e8 (by simp [Ad.S]))
  have kt8 : Kt H7 (upd H8 st (.lst [kv7, .int ((shows + 1 : Nat) : Int), hv7])) := (ex_kt e8).trans (Kt.upd (Kt.refl _) (e8 _ _ hst7) fun _ z => nomatch z)
  have g8 : Im (upd H8 st (.lst [kv7, .int ((shows + 1 : Nat) : Int), hv7])) (hD L gs) v6 := (g6G.ex e7).kt kt8 (pt_hD _ _)
  show tSeq _ _ _ _ (upd H8 st (.lst [kv7, .int ((shows + 1 : Nat) : Int), hv7]))
  generalize upd H8 st (.lst [kv7, .int ((shows + 1 : Nat) : Int), hv7]) = G8 at W8 f08 kt8 g8
  rcases pv7 with ⟨rfl, htalk⟩ | ⟨wd, pv7, wl, w0, wz, wx⟩
  · -- nothing is said against it
    refine q_yes (t_cmp (d_isN (v_var rfl) (fun v H1 p => by rw [show v = .non from p]; rfl))) fun H9 e9 => ?_
    have W9 := W8.ex e9
    obtain ⟨kv9, hv9, hst9, l1, l2⟩ := W9.sl
    refine q_setL (P := offP (A.S st t) (hD L gs)) (j := 2) hst9 (e_var rfl ((g8.ex e9).kt W9.lv.kt (pt_hD _ _)) (mo_off _ _)) (mo_off _ _) (v_var rfl) (d_nat (n := 2) rfl) (by show 2 < 3; decide) fun v10 H10 e10 p10 => ?_
    have W10 := W9.sset e10 (n := shows + 1) (kv := kv9) (hv := v10) (l1.ex (off_mono (fo_ex e10))) p10
    have f10 : Fo (A.S st t) H (upd H10 st (.lst [kv9, .int ((shows + 1 : Nat) : Int), v10])) := (f08.trans (fo_ex e9)).trans (fo_upd e10 (by simp [Ad.S]))
    show tSeq _ _ _ _ (upd H10 st (.lst [kv9, .int ((shows + 1 : Nat) : Int), v10]))
    generalize upd H10 st (.lst [kv9, .int ((shows + 1 : Nat) : Int), v10]) = G10 at W10 f10
    refine m_call W10.at_ rfl (by decide +kernel) a_nil fun vs H11 e11 pa => ?_
    have pa : vs = [] := pa
    subst pa
    refine ⟨A, L, most, b, fi, la, .none, gs, rfl, W10.at_.ex e11, fun H12 f12 S12 => ?_⟩
    dsimp only
    refine k_ret d_bl fun v H13 e13 pv => ?_
    rw [im_bl pv]
    exact k1 H13 ((f10.trans (fo_ex e11)).trans ((fo_fq f12).trans (fo_ex e13))) (((W10.ex e11).ask f12 S12).ex e13) htalk
  · -- a word against it
    have pv7 : Im G8 (wD wd) v7 := pv7.kt kt8 (pt_wD _)
    have wx' : ans gs 0 wd ≠ hidO hd wd := fun z => wx z.symm
    obtain ⟨hn, _⟩ := inv_differ R w0 wl wz wx'
    refine q_no (t_cmp (d_isN (d_var rfl pv7) (fun v H1 p => by
      obtain ⟨a, rfl, _⟩ := im_word p
      rfl))) fun H9 e9 => ?_
    refine q_no (t_cmp (d_din (d_var rfl (pv7.ex e9)) (e_var rfl (W8.ex e9).told (mo_T b)) (by rw [hn]; rfl))) fun H10 e10 => ?_
    have e80 := e9.trans e10
    have W10 := W8.ex e80
    have f10 : Fo (A.S st t) H H10 := f08.trans (fo_ex e80)
    have hh10 : Im H10 (hD L hd) vh := (hh.ex (off_mono f10)).ex off_le
    have okW : HW.ok ⟨L, hd, wd⟩ := ⟨HK.ok, wl, by show wd.length ≤ 2000; omega⟩
    refine q_dput W10.tl (v_var rfl) (d_var rfl (pv7.ex e80)) (d_ixL (K := K) (EvF.toL (f_call (ps := fun x : HW => [isD (hD x.L x.g), isD (wD x.wd)]) (ds := fun x : HW => (talk x.g 0 x.wd).map .int) (⟨L, hd, wd⟩ : HW) okW (a_d (d_var rfl hh10) (a_d (d_var rfl (pv7.ex e80)) a_nil)))) d_neg1 (at_neg (last_int (getLast_talk w0)))) hn (by omega) fun H11 e11 => ?_
    have W11 := W10.tput e11 (b ++ [(wd, hidO hd wd)])
    have f11 : Fo (A.S st t) H (upd H11 t (.dT (enc (b ++ [(wd, hidO hd wd)])))) := f10.trans (fo_upd e11 (by simp [Ad.S]))
    have p11 : Im (upd H11 t (.dT (enc (b ++ [(wd, hidO hd wd)])))) (wD wd) v7 := (pv7.ex (e80.trans e11)).kt (Kt.upd (Kt.refl _) (e11 _ _ W10.tl) fun _ z => nomatch z) (pt_wD _)
    show tSeq _ _ _ _ (upd H11 t (.dT (enc (b ++ [(wd, ans hd 0 wd)]))))
    have hke : ∀ u : Hp, u = upd H11 t (.dT (enc (b ++ [(wd, hidO hd wd)]))) → u = upd H11 t (.dT (enc (b ++ [(wd, ans hd 0 wd)]))) := fun u h => h
    generalize hG : upd H11 t (.dT (enc (b ++ [(wd, ans hd 0 wd)]))) = G11 at W11 f11 p11
    refine m_call W11.at_ rfl (by decide +kernel) (a_d (d_var rfl p11) (a_d (d_dget (e_var rfl W11.told (mo_T _)) (d_var rfl p11) (told_snoc_eq hn)) a_nil)) fun vs H12 e12 pa => ?_
    obtain ⟨x1, r1, rfl, q1, x2, r2, rfl, q2, hr⟩ := pa
    have hr : r2 = [] := hr
    subst hr
    obtain ⟨m0, m1⟩ := HK.ans w0 wl
    refine ⟨A, L, most, hidO hd, b, fi, la, none, gs, wd, asks, hs, kept, x1, x2, rfl, W11.at_.ex e12, R, q1, q2, ⟨m0, m1⟩, ⟨w0, wl, wz, wx'⟩, by omega, fun H13 fi' la' hu' wi' f13 nd p1' p2' R' S13 => ?_⟩
    dsimp only
    refine k_ret d_bl fun v H14 e14 pv => ?_
    rw [im_bl pv]
    exact k2 H14 wd fi' la' hu' wi' ((f11.trans (fo_ex e12)).trans ((fo_fq f13).trans (fo_ex e14))) nd p1' p2' R' (((W11.ex e12).ask f13 S13).ex e14)
end
end Gr
end
section
set_option maxRecDepth 100000
set_option maxHeartbeats 4000000
namespace Gr
open PySem L2 PySem.Spec PyProof.Rows Evl
theorem neg_app {c : TT} {tu tw : TS} {D : Ends} {σ : L2.St} {H : Hp} (h : c σ H fun b H1 => if b = true then tu D σ H1 else tw D σ H1) : tIfS c tu tw D σ H := h
theorem wish_rdy {L most : Nat} {hid : Word → Int} {b : List (Word × Int)} {fi la : List Word} {hu : Hu} {asks : List Word} {hs kept : Nat} {wi : Wi} (R : Ready L most hid b fi la hu asks hs kept wi) : WG.ok ⟨L, b, wi⟩ := by
  cases wi with
  | ask w => obtain ⟨_, h1, h2, h3, h4, _⟩ := R; exact ⟨h1, h2, h3, h4⟩
  | shw g => exact trivial
  | don g => exact trivial
  | spt w => obtain ⟨I, _, _, _, hr, _⟩ := R; exact (I.tab.row hr).2
/-- how the hunt stands beside what was shown -/
def Stat (L : Nat) (hd : House) (fi : List Word) (kept shows : Nat) (kf : List Word) (hvD : PyData) (wi : Wi) : Prop :=
  (∃ g, wi = .don g ∧ hvD = hD L g ∧ shows ≤ fi.length ∧ ∀ w, Lets L w → talk hd 0 w = talk g 0 w) ∨ (NoDon wi ∧ hvD = .none ∧ shows ≤ kept ∧ (0 < shows → kf.length ≤ kept))
/-- how it ends -/
def Endf (L : Nat) (hd : House) (fi : List Word) (shows : Nat) (hvD : PyData) (wi : Wi) : Prop :=
  shows ≤ fi.length ∧ ((∃ g, wi = .don g ∧ hvD = hD L g ∧ ∀ w, Lets L w → talk hd 0 w = talk g 0 w) ∨ ∃ w, wi = .spt w ∧ hvD = .none)
abbrev Ad.S5 (A : Ad) (st : Addr) : List Addr := [A.p, A.d, A.l1, A.l2, st]
section
variable {P : Program} {w : World} {K : PySem.W.Frag} {mg : Str → Option Value} {base : Heap} {CB CA : Addr}
def sp_hunt (K : PySem.W.Frag) (CA CB : Addr) : Sp := fun vs H Q _ => ∃ (A : Ad) (L most : Nat) (hd : House) (ns : List Int) (at_ : Nat) (st : Addr) (fi la : List Word) (hu : Hu) (wi : Wi) (vh vsc va vm kv : V),
  vs = [.ref A.p, vh, vsc, va, .ref st, vm] ∧ At CA CB A L most [] fi la (huD (hidO hd) L fi la hu) (wiD L wi) H ∧ Ready L most (hidO hd) [] fi la hu [] 0 0 wi ∧ NoDon wi ∧ [[]] <+: fi ∧ Hok L hd ∧
  (H st = some (.lst [kv, .int 0, .non]) ∧ Im (off (A.S5 st) H) (ktD [[]] []) kv ∧ st ≠ A.l1 ∧ st ≠ A.l2) ∧ Im (off (A.S5 st) H) (hD L hd) vh ∧ isS K ns vsc (off (A.S5 st) H) ∧ Im H (nD at_) va ∧ Im H (nD most) vm ∧ at_ ≤ 1000 ∧
  ∀ H' b fi la hu asks hs kept wi kf kl kv' hv' shows hvD, Fo (A.S5 st) H H' → Ready L most (hidO hd) b fi la hu asks hs kept wi → At CA CB A L most b fi la (huD (hidO hd) L fi la hu) (wiD L wi) H' →
    H' st = some (.lst [kv', .int (shows : Nat), hv']) → Im (off (A.S5 st) H') (ktD kf kl) kv' → Im (off (A.S5 st) H') hvD hv' → Endf L hd fi shows hvD wi → Q (.bl true) H'
theorem ok_law_hunt (T : All K mg CB CA) (D_SayAsker_wants : Dm P w K mg base CA 1 "wants" ["self"] (sp_wants CA CB)) (D_law_wish_good : Df P w K mg base 3 "_law_wish_good" ["wish", "letters", "told"] sp_wish_good) (D_law_talk : Df P w K mg base 1 "_law_talk" ["house", "word"] sp_talk) (D_SayAsker_hear : Dm P w K mg base CA 7 "hear" ["self", "mark"] (sp_hear CA CB))
    (D_law_shown : Df P w K mg base 8 "_law_shown" ["asker", "hidden", "script", "at", "state", "told"] (sp_shown K CA CB)) (D_law_grows : Df P w K mg base 2 "_law_grows" ["kept", "asker", "strictly"] (sp_grows CA CB)) (D_law_end_good : Df P w K mg base 5 "_law_end_good" ["asker", "letters", "most", "asked", "told"] (sp_end_good CA CB)) : Df P w K mg base 9 "_law_hunt" ["asker", "hidden", "script", "at", "state", "most"] (sp_hunt K CA CB) := by
  refine T.t_law_hunt.ok sc_law_hunt (fun vs H Q E h => by obtain ⟨_, _, _, _, _, _, _, _, _, _, _, _, _, _, _, _, rfl, _⟩ := h; rfl) (fun f cdv A outer s H vs Q E hr h => ?_)
  obtain ⟨A, L, most, hd, ns, at_, st, fi0, la0, hu0, wi0, vh, vsc, va, vm, kv0, rfl, S0, R0, nd0, pf0, HK, ⟨hst0, hkv0, n1, n2⟩, hh, hsc, hva, hvm, z2, k⟩ := h
  refine ⟨_, (pss_cons (ps_set (i := 6) sc_law_hunt.nd rfl (.inl rfl) pe_dnewT) (pss_cons (ps_set (i := 7) sc_law_hunt.nd rfl (.inl rfl) pe_int) (pss_cons (ps_for PassesOwn.never rfl (pi_range1 (by rfl) T.b_range (pa_cons pe_int pa_nil)) (pg_name (i := 8) sc_law_hunt.nd rfl (.inl rfl)) (pss_cons (ps_set (i := 9) sc_law_hunt.nd rfl (.inl rfl) (pmeth0 (pv 0) T.clCA D_SayAsker_wants (hr.mono (by decide)))) (pss_cons (ps_if (PW.pt (pw_or (pt_not (pt_val (pcall D_law_wish_good (hr.mono (by decide)) rfl (pa_cons (pv 9) (pa_cons (pe_ix ix_tup (pv 1) pe_int (fun _ _ => rfl)) (pa_cons (pv 6) pa_nil)))))) (pw_or1 (pt_cmpR (op_neD hr.units) (pmeth0 (pv 0) T.clCA D_SayAsker_wants (hr.mono (by decide))) (pv 9) (nomark _))))) (pss_one (ps_ret pe_bl)) pss_nil) (pss_one (ps_if (pt_cmpR op_eq (pe_ix ix_tup (pv 9) pe_int (fun _ _ => rfl)) pe_str (nomark _)) (pss_cons (ps_set (i := 7) sc_law_hunt.nd rfl (.inl rfl) (pe_op op_add (pv 7) pe_int)) (pss_cons (ps_dput (hu_of hr) (pv 6) (pe_ix ix_tup (pv 9) pe_int (fun _ _ => rfl)) (pe_ix ix_list (pcall D_law_talk (hr.mono (by decide)) rfl (pa_cons (pv 1) (pa_cons (pe_ix ix_tup (pv 9) pe_int (fun _ _ => rfl)) pa_nil))) (pe_un un_neg pe_int) (fun _ _ => rfl)) rfl) (pss_one (ps_expr (pmeth (pv 0) T.clCA D_SayAsker_hear (hr.mono (by decide)) (pa_cons (pe_dget (hu_of hr) (pv 6) (pe_ix ix_tup (pv 9) pe_int (fun _ _ => rfl)) (fun _ _ => rfl)) pa_nil)))))) (pss_one (ps_if (pt_cmpR op_eq (pe_ix ix_tup (pv 9) pe_int (fun _ _ => rfl)) pe_str (nomark _)) (pss_one (ps_if (pt_not (pt_val (pcall D_law_shown (hr.mono (by decide)) rfl (pa_cons (pv 0) (pa_cons (pv 1) (pa_cons (pv 2) (pa_cons (pv 3) (pa_cons (pv 4) (pa_cons (pv 6) pa_nil))))))))) (pss_one (ps_ret pe_bl)) pss_nil)) (pss_one (ps_ret (pe_and (pcall D_law_grows (hr.mono (by decide)) rfl (pa_cons (pe_ix ix_list (pv 4) pe_int (fun _ _ => rfl)) (pa_cons (pv 0) (pa_cons pe_bl pa_nil)))) (pe_one (pcall D_law_end_good (hr.mono (by decide)) rfl (pa_cons (pv 0) (pa_cons (pe_ix ix_tup (pv 1) pe_int (fun _ _ => rfl)) (pa_cons (pv 5) (pa_cons (pv 7) (pa_cons (pv 6) pa_nil))))))))))))))))) (pss_one (ps_ret pe_bl))))), ?_⟩
  refine q_newT fun t t0 => ?_
  have eT := Ex.new (o := .dT []) t0
  -- all but six, where all but five stood
  have e56 : ∀ H1, Ex (upd H t (.dT [])) H1 → Ex (off (A.S5 st) H) (off (A.S st t) H1) := fun H1 e c o q => by
    obtain ⟨q1, q2⟩ := off_some q
    have hct : c ≠ t := ne_of_none q2 t0
    rw [off_ne (fun m => by
      simp only [Ad.S, Ad.S5, List.mem_cons, List.not_mem_nil, or_false, not_or] at m q1
      rcases m with m | m | m | m | m | m
      · exact q1.1 m
      · exact q1.2.1 m
      · exact q1.2.2.1 m
      · exact q1.2.2.2.1 m
      · exact q1.2.2.2.2 m
      · exact hct m)]
    exact e _ _ (eT _ _ q2)
  have e65 : ∀ H1, Ex (off (A.S st t) H1) (off (A.S5 st) H1) := fun H1 c o q => by
    obtain ⟨q1, q2⟩ := off_some q
    rw [off_ne (fun m => q1 (by
      simp only [Ad.S, Ad.S5, List.mem_cons, List.not_mem_nil, or_false] at m ⊢
      rcases m with m | m | m | m | m
      · exact .inl m
      · exact .inr (.inl m)
      · exact .inr (.inr (.inl m))
      · exact .inr (.inr (.inr (.inl m)))
      · exact .inr (.inr (.inr (.inr (.inl m))))))]
    exact q2
  have fo5 : ∀ H1, Fo (A.S st t) (upd H t (.dT [])) H1 → Fo (A.S5 st) H H1 := fun H1 f c o n q => by
    have hct : c ≠ t := ne_of_none q t0
    refine f c o (fun m => ?_) (eT _ _ q)
    simp only [Ad.S, Ad.S5, List.mem_cons, List.not_mem_nil, or_false, not_or] at m n
    rcases m with m | m | m | m | m | m
    · exact n.1 m
    · exact n.2.1 m
    · exact n.2.2.1 m
    · exact n.2.2.2.1 m
    · exact n.2.2.2.2 m
    · exact hct m
  have n3 : t ≠ A.d := fun z => by
    have := S0.book.2
    rw [← z, t0] at this
    cases this
  have W0 : Lw CA CB A st t L most [] [] fi0 la0 (huD (hidO hd) L fi0 la0 hu0) (wiD L wi0) [[]] [] 0 .none (upd H t (.dT [])) :=
    ⟨S0.ex eT, ⟨kv0, .non, eT _ _ hst0, hkv0.ex (e56 _ (Ex.refl _)), .non⟩, upd_same, n1, n2, n3⟩
  have hh6 : ∀ H1, Fo (A.S st t) (upd H t (.dT [])) H1 → Im (off (A.S st t) H1) (hD L hd) vh := fun H1 f => (hh.ex (e56 _ (Ex.refl _))).ex (off_mono f)
  have hs6 : ∀ H1, Fo (A.S st t) (upd H t (.dT [])) H1 → isS K ns vsc (off (A.S st t) H1) := fun H1 f => mo_S K ns _ _ _ ((e56 _ (Ex.refl _)).trans (off_mono f)) hsc
  have hva' : ∃ i : Int, va = .int i ∧ i = (at_ : Int) := ⟨_, im_int hva, rfl⟩
  obtain ⟨_, rfl, rfl⟩ := hva'
  have hvm' : vm = .int (most : Int) := im_int hvm
  subst hvm'
  generalize hG0 : upd H t (.dT []) = G0 at W0 hh6 hs6 fo5 eT
  clear e56
  refine q_asg (d_int (i := 0)) fun v7 H1 e1 pv7 => ?_
  have pv7 : v7 = .int 0 := im_int pv7
  subst pv7
  refine q_forR (n := 900) (d_nat (n := 900) rfl) (by decide) fun H2 e2 => ⟨fun i σ' H' => ∃ (b : List (Word × Int)) (fi la : List Word) (hu : Hu) (asks : List Word) (hs kept : Nat) (wi : Wi) (kf kl : List Word) (shows : Nat) (hvD : PyData) (o8 o9 : Option V),
      i = asks.length + hs + shows ∧ Ready L most (hidO hd) b fi la hu asks hs kept wi ∧ Lw CA CB A st t L most b b fi la (huD (hidO hd) L fi la hu) (wiD L wi) kf kl shows hvD H' ∧ Fo (A.S st t) G0 H' ∧ kf <+: fi ∧ kl <+: la ∧ b.length ≤ i ∧ Stat L hd fi kept shows kf hvD wi ∧
      σ' = [some (.ref A.p), some vh, some vsc, some (.int (at_ : Int)), some (.ref st), some (.int (most : Int)), some (.ref t), some (.int ((asks.length + hs : Nat) : Int)), o8, o9],
    ⟨[], fi0, la0, hu0, [], 0, 0, wi0, [[]], [], 0, .none, none, none, rfl, R0, W0.ex (e1.trans e2), fo_ex (e1.trans e2), pf0, List.nil_prefix, Nat.le_refl _, .inr ⟨nd0, rfl, Nat.le_refl _, fun h => absurd h (Nat.lt_irrefl 0)⟩, rfl⟩, ?_, ?_⟩
  · rintro i σ' H' hi ⟨b, fi, la, hu, asks, hs, kept, wi, kf, kl, shows, hvD, o8, o9, hcnt, R, W, ff, q1, q2, bz, stt, rfl⟩
    have TB := R.inv.tab
    have hsh : shows ≤ 900 := by omega
    let x : AK := ⟨A, L, most, b, fi, la, huD (hidO hd) L fi la hu, wiD L wi⟩
    have ak : ∀ H2, Ex H' H2 → x.is CA CB (.ref A.p) H2 := fun H2 e => ⟨rfl, W.at_.ex e⟩
    -- wish = asker.wants()
    refine q_asg (P := isD (wiD L wi)) (e_meth (ps := fun x : AK => [x.is CA CB]) (post := fun x : AK => isD x.wi) (x := x) trivial (e_var rfl (ak H' (Ex.refl _)) mo_ask) mo_ask (ask_ins (by decide +kernel)) a_nil rfl) fun v9 H3 e3 pv9 => ?_
    have pv9 : Im H3 (wiD L wi) v9 := pv9
    have W3 := W.ex e3
    have hd3 : Im H3 (hD L hd) vh := (hh6 _ (ff.trans (fo_ex e3))).ex off_le
    refine q_no (t_oF (t_nT (t_B (e_call (x := (⟨L, b, wi⟩ : WG)) (wish_rdy R) (a_d (d_var rfl pv9) (a_d (d_ixT (K := K) (d_var rfl hd3) (d_int (i := 0)) (at_nat (i := 0) rfl)) (a_cons (e_var rfl W3.told (mo_T b)) (mo_T b) a_nil))))))
      (t_cmp (d_neD (K := K) (e_meth (ps := fun x : AK => [x.is CA CB]) (post := fun x : AK => isD x.wi) (x := x) trivial (e_var rfl (ak H3 e3) mo_ask) mo_ask (ask_ins (by decide +kernel)) a_nil rfl) (d_var rfl pv9) ((sh_wi L wi).ok (by decide)) ((sh_wi L wi).ok (by decide)) (b := false) (by show (!PyData.eqv (wiD L wi) (wiD L wi)) = false; rw [eqv_self (pl_wi L wi)]; rfl)))) fun H4 e4 => ?_
    have W4 := W3.ex e4
    have e34 := e3.trans e4
    have f4 : Fo (A.S st t) G0 H4 := ff.trans (fo_ex e34)
    have pv4 := pv9.ex e4
    rw [wi_eq] at pv4
    have w0 : ∀ (H8 : Hp) (σ : L2.St), Ex H4 H8 → σ[9]? = some (some v9) → EvP (tOp (rIxT K) (tVar 9) (tC (.int 0))) σ H8 (isD (.str (wnm wi))) := fun H8 σ e8 h0 => d_ixT (d_var h0 (pv4.ex e8)) (d_int (i := 0)) (at_nat (i := 0) rfl)
    have w1 : ∀ (H8 : Hp) (σ : L2.St), Im H8 (.tuple [.str (wnm wi), wrest L wi]) v9 → σ[9]? = some (some v9) → EvP (tOp (rIxT K) (tVar 9) (tC (.int 1))) σ H8 (isD (wrest L wi)) := fun H8 σ h8 h0 => d_ixT (d_var h0 h8) (d_int (i := 1)) (at_nat (i := 1) rfl)
    have hpt : pt (.tuple [.str (wnm wi), wrest L wi]) = true := by rw [← wi_eq]; exact pt_wi L wi
    -- what is said in the end
    have fin : ∀ H5, Ex H4 H5 → (∃ g, wi = .don g) ∨ (∃ w, wi = .spt w) → EvP (tAndV (tCall (sp_grows CA CB) [] E0 (tCons (tOp (rIxL K) (tVar 4) (tC (.int 0))) (tCons (tVar 0) (tCons (tC (.bl false)) tNil)))) (tCall (sp_end_good CA CB) [] E0 (tCons (tVar 0) (tCons (tOp (rIxT K) (tVar 1) (tC (.int 0))) (tCons (tVar 5) (tCons (tVar 7) (tCons (tVar 6) tNil)))))))
        [some (.ref A.p), some vh, some vsc, some (.int (at_ : Int)), some (.ref st), some (.int (most : Int)), some (.ref t), some (.int ((asks.length + hs : Nat) : Int)), some (.int (i : Int)), some v9] H5 (isD (.bool true)) := fun H5 e5 hw => by
      have W5 := W4.ex e5
      have hd5 : Im H5 (hD L hd) vh := (hh6 _ (f4.trans (fo_ex e5))).ex off_le
      have gwok : GW.ok ⟨x, kf, kl, false⟩ := ⟨q1, q2, fun z => nomatch z⟩
      have egok : EG.ok ⟨x, hidO hd, hu, asks, hs, kept, wi⟩ := ⟨rfl, R, hw, by show b.length ≤ 5000; omega⟩
      exact EvP.bl (d_andV (e_call (x := (⟨x, kf, kl, false⟩ : GW)) gwok (a_d (d_ixL (K := K) (d_var rfl W5.imst) (d_int (i := 0)) (at_nat (i := 0) rfl)) (a_cons (e_var rfl (ak _ (e34.trans e5)) mo_ask) mo_ask (a_d d_bl a_nil)))) fun _ =>
        e_call (x := (⟨x, hidO hd, hu, asks, hs, kept, wi⟩ : EG)) egok (a_cons (e_var rfl (ak _ (e34.trans e5)) mo_ask) mo_ask (a_d (d_ixT (K := K) (d_var rfl hd5) (d_int (i := 0)) (at_nat (i := 0) rfl)) (a_d (d_var rfl (.int _)) (a_d (d_var rfl (.int _)) (a_cons (e_var rfl W5.told (mo_T b)) (mo_T b) a_nil)))))) rfl
    have done : ∀ v H5, Ex H4 H5 → Im H5 (.bool true) v → Endf L hd fi shows hvD wi → Q v H5 := fun v H5 e5 pv he => by
      rw [im_bl pv]
      have W5 := W4.ex e5
      obtain ⟨kv5, hv5, hst5, i1, i2⟩ := W5.sl
      exact k H5 b fi la hu asks hs kept wi kf kl kv5 hv5 shows hvD (fo5 _ (f4.trans (fo_ex e5))) R W5.at_ hst5 (i1.ex (e65 _)) (i2.ex (e65 _)) he
    cases wi with
    | ask wd =>
      have R1 := R
      obtain ⟨I, hn, h0, hl, hz, _⟩ := R
      obtain ⟨m0, m1⟩ := HK.ans h0 hl
      have okW : HW.ok ⟨L, hd, wd⟩ := ⟨HK.ok, hl, by show wd.length ≤ 2000; omega⟩
      refine k_yes (c_yes (d_eqS (w0 _ _ (Ex.refl _) rfl) d_str) rfl) fun H5 e5 => ?_
      have W5 := W4.ex e5
      refine q_asg (EvP.eq (d_add (i := ((asks.length + hs : Nat) : Int)) (j := 1) (d_var rfl (.int _)) d_int) (show _ = ((asks.length + hs + 1 : Nat) : Int) by push_cast; rfl)) fun v10 H6 e6 pv10 => ?_
      have pv10 : v10 = .int ((asks.length + hs + 1 : Nat) : Int) := im_int pv10
      subst pv10
      have e46 := e5.trans e6
      have W6 := W4.ex e46
      have f6 : Fo (A.S st t) G0 H6 := f4.trans (fo_ex e46)
      have hd6 : Im H6 (hD L hd) vh := (hh6 _ f6).ex off_le
      refine q_dput W6.tl (v_var rfl) (w1 _ _ (pv4.ex e46) rfl) (d_ixL (K := K) (EvF.toL (f_call (ps := fun x : HW => [isD (hD x.L x.g), isD (wD x.wd)]) (ds := fun x : HW => (talk x.g 0 x.wd).map .int) (⟨L, hd, wd⟩ : HW) okW (a_d (d_var rfl hd6) (a_d (w1 _ _ (pv4.ex e46) rfl) a_nil)))) d_neg1 (at_neg (last_int (getLast_talk h0)))) hn (by omega) fun H7 e7 => ?_
      have W7 := W6.tput e7 (b ++ [(wd, hidO hd wd)])
      have f7 : Fo (A.S st t) G0 (upd H7 t (.dT (enc (b ++ [(wd, hidO hd wd)])))) := f6.trans (fo_upd e7 (by simp [Ad.S]))
      have p7 : Im (upd H7 t (.dT (enc (b ++ [(wd, hidO hd wd)])))) (.tuple [.str "ask", wD wd]) v9 := (pv4.ex (e46.trans e7)).kt (Kt.upd (Kt.refl _) (e7 _ _ W6.tl) fun _ z => nomatch z) hpt
      generalize upd H7 t (.dT (enc (b ++ [(wd, hidO hd wd)]))) = G7 at W7 f7 p7
      refine m_call W7.at_ rfl (by decide +kernel) (a_d (d_dget (e_var rfl W7.told (mo_T _)) (w1 _ _ p7 rfl) (told_snoc_eq hn)) a_nil) fun vs H8 e8 pa => ?_
      obtain ⟨x1, r1, rfl, g1, hr⟩ := pa
      have hr : r1 = [] := hr
      subst hr
      refine ⟨A, L, most, hidO hd, b, fi, la, hu, wd, asks, hs, kept, x1, rfl, W7.at_.ex e8, R1, g1, ⟨m0, m1⟩, by omega, fun H9 fi' la' hu' wi' asks' hs' f9 nd p1 p2 cnt R' S9 => ?_⟩
      refine ⟨b ++ [(wd, hidO hd wd)], fi', la', hu', asks', hs', kept, wi', kf, kl, shows, hvD, some (.int (i : Int)), some v9, by omega, R', (W7.ex e8).ask f9 S9, (f7.trans (fo_ex e8)).trans (fo_fq f9), q1.trans p1, q2.trans p2, by rw [List.length_append, List.length_singleton]; omega, ?_, ?_⟩
      · rcases stt with ⟨g, z, _⟩ | ⟨_, s2, s3, s4⟩
        · cases z
        · exact .inr ⟨nd, s2, s3, s4⟩
      · rw [cnt]
        rfl
    | shw gs =>
      have R1 := R
      obtain ⟨I, hun, _⟩ := R
      subst hun
      have hg := show_grows R1
      refine k_no (c_no (d_eqS (w0 _ _ (Ex.refl _) rfl) d_str) (by show ¬ (("show" : Str) = "ask"); decide +kernel)) fun H5 e5 => ?_
      refine k_yes (c_yes (d_eqS (w0 _ _ e5 rfl) d_str) rfl) fun H6 e6 => ?_
      have e46 := e5.trans e6
      have W6 := W4.ex e46
      have f6 : Fo (A.S st t) G0 H6 := f4.trans (fo_ex e46)
      have sr : NoDon (.shw gs) ∧ hvD = .none ∧ shows ≤ kept ∧ (0 < shows → kf.length ≤ kept) := by
        rcases stt with ⟨g, z, _⟩ | s
        · cases z
        · exact s
      obtain ⟨_, s2, s3, s4⟩ := sr
      refine neg_app ?_
      refine ⟨_, rfl, _, rfl, _, rfl, _, rfl, _, rfl, _, rfl, ?_⟩
      refine ⟨A, L, most, hd, ns, at_, st, t, b, fi, la, gs, asks, hs, kept, kf, kl, shows, hvD, vh, vsc, .int (at_ : Int), rfl, W6, R1, HK, hh6 _ f6, hs6 _ f6, .int _, q1, q2, s4, ⟨by omega, z2, by omega⟩, fun H7 f7 W7 ht => ⟨true, rfl, ?_⟩, fun H7 wd fi' la' hu' wi' f7 nd p1 p2 R' W7 => ⟨true, rfl, ?_⟩⟩
      · refine ⟨b, fi, la, none, asks, hs, kept, .don gs, fi, la, shows + 1, hD L gs, _, _, by omega, R1, W7, f6.trans f7, List.prefix_refl _, List.prefix_refl _, by omega, .inl ⟨gs, rfl, rfl, by omega, ht⟩, rfl⟩
      · refine ⟨b ++ [(wd, hidO hd wd)], fi', la', hu', asks, hs, fi.length, wi', fi, la, shows + 1, hvD, _, _, by omega, R', W7, f6.trans f7, p1, p2, by rw [List.length_append, List.length_singleton]; omega, .inr ⟨nd, s2, by omega, fun _ => Nat.le_refl _⟩, rfl⟩
    | don g =>
      refine k_no (c_no (d_eqS (w0 _ _ (Ex.refl _) rfl) d_str) (by show ¬ (("done" : Str) = "ask"); decide +kernel)) fun H5 e5 => ?_
      refine k_no (c_no (d_eqS (w0 _ _ e5 rfl) d_str) (by show ¬ (("done" : Str) = "show"); decide +kernel)) fun H6 e6 => ?_
      have e46 := e5.trans e6
      refine k_ret (fin H6 e46 (.inl ⟨g, rfl⟩)) fun v H7 e7 pv => done v H7 (e46.trans e7) pv ?_
      rcases stt with ⟨g', z, s2, s3, s4⟩ | ⟨nd, _⟩
      · cases z
        exact ⟨s3, .inl ⟨g, rfl, s2, s4⟩⟩
      · exact absurd rfl (nd g)
    | spt wd =>
      refine k_no (c_no (d_eqS (w0 _ _ (Ex.refl _) rfl) d_str) (by show ¬ (("spent" : Str) = "ask"); decide +kernel)) fun H5 e5 => ?_
      refine k_no (c_no (d_eqS (w0 _ _ e5 rfl) d_str) (by show ¬ (("spent" : Str) = "show"); decide +kernel)) fun H6 e6 => ?_
      have e46 := e5.trans e6
      refine k_ret (fin H6 e46 (.inr ⟨wd, rfl⟩)) fun v H7 e7 pv => done v H7 (e46.trans e7) pv ?_
      rcases stt with ⟨g', z, _⟩ | ⟨nd, s2, s3, s4⟩
      · cases z
      · have := R.inv.kl
        exact ⟨by omega, .inr ⟨wd, rfl, s2⟩⟩
  · rintro σ' H' ⟨b, fi, la, hu, asks, hs, kept, wi, kf, kl, shows, hvD, o8, o9, hcnt, R, W, ff, q1, q2, bz, stt, rfl⟩
    exfalso
    have I := R.inv
    have h1 := asked_any I
    have h2 := I.kl
    have h3 := I.tab.fiL
    have h4 := I.tab.m4
    rcases stt with ⟨_, _, _, s3, _⟩ | ⟨_, _, s3, _⟩ <;> omega
end
end Gr
end
section
set_option maxRecDepth 100000
set_option maxHeartbeats 4000000
/-! The law. -/
namespace Gr
open PySem L2 PySem.Spec PyProof.Rows Evl
section
variable {K : PySem.W.Frag} {σ : L2.St} {H : Hp} {ta tb te : TE} {R : VP}
theorem d_min2 {i j : Int} (ha : EvP ta σ H (isD (.int i))) (hb : EvP tb σ H (isD (.int j))) : EvP (tCB (fun xs H Q => ∃ i j, xs = [.int i, .int j] ∧ Q (.int (if j < i then j else i)) H) (tCons ta (tCons tb tNil))) σ H (isD (.int (if j < i then j else i))) := fun H1 e Q q =>
  (a_d ha (a_d hb a_nil)) H1 e _ fun vs H2 e2 pa => by
    obtain ⟨x, r, rfl, hx, y, r2, rfl, hy, rfl⟩ := pa
    exact ⟨i, j, by rw [im_int hx, im_int hy], q _ H2 e2 (.int _)⟩
theorem e_lenT {Pn : Nat → Prop} (h : EvP te σ H R) (hR : ∀ v H1, R v H1 → ∃ ds, Im H1 (.tuple ds) v ∧ Pn ds.length) : EvP (tCB (fun xs H Q => ∃ p ys, xs = [.ref p] ∧ (SqL K H p ys ∨ SqT K H p ys) ∧ Q (.int ys.length) H) (tCons te tNil)) σ H (fun v _ => ∃ n : Nat, v = .int (n : Int) ∧ Pn n) := fun H1 e Q q =>
  h H1 e _ fun v H2 e2 pv => by
    obtain ⟨ds, hd, hn⟩ := hR v H2 pv
    obtain ⟨a, xs, rfl, h1, h2⟩ := im_tup hd
    refine ⟨a, xs, rfl, .inr (st_of h1), q _ H2 e2 ⟨xs.length, rfl, ?_⟩⟩
    rw [h2.len]
    exact hn
end
theorem q_lstA {D : Ends} {tz : TS} {σ : L2.St} {H : Hp} {t : TA} {Ps : List VP} {i : Nat} (ha : EvPA t σ H Ps) (k : ∀ vs H1, Ex H H1 → Args Ps vs H1 → vs.length ≤ sizeLine ∧ ∀ l, H1 l = none → tz D (σ.set i (some (.ref l))) (upd H1 l (.lst vs))) : tSeq (tAsg (tLst t) (gName i)) tz D σ H :=
  ha H (Ex.refl H) _ fun vs H1 e1 pa => k vs H1 e1 pa
theorem q_ifCall {D : Ends} {tz tu : TS} {σ : L2.St} {H : Hp} {t : TA} {Ps : List VP} {sp : Sp} {E : XK} (ha : EvPA t σ H Ps) (k : ∀ vs H1, Ex H H1 → Args Ps vs H1 → sp vs H1 (fun x H2 => ∃ c, x = .bl c ∧ (if (!c) = true then tu { D with nx := tz D } σ H2 else tz D σ H2)) E) : tSeq (tIfS (tNot (tB (tCall sp [] E t))) tu tNext) tz D σ H :=
  ha H (Ex.refl H) _ fun vs H1 e1 pa => by
    rw [List.append_nil]
    exact k vs H1 e1 pa
theorem pick {a b c d e f : Int} {L : Nat} (h1 : 1 ≤ L) (h6 : L ≤ 6) : ∃ x, [a, b, c, d, e, f][L - 1]? = some x ∧ (x = a ∨ x = b ∨ x = c ∨ x = d ∨ x = e ∨ x = f) := by
  match L, h1, h6 with
  | 1, _, _ => exact ⟨a, rfl, .inl rfl⟩
  | 2, _, _ => exact ⟨b, rfl, .inr (.inl rfl)⟩
  | 3, _, _ => exact ⟨c, rfl, .inr (.inr (.inl rfl))⟩
  | 4, _, _ => exact ⟨d, rfl, .inr (.inr (.inr (.inl rfl)))⟩
  | 5, _, _ => exact ⟨e, rfl, .inr (.inr (.inr (.inr (.inl rfl))))⟩
  | 6, _, _ => exact ⟨f, rfl, .inr (.inr (.inr (.inr (.inr rfl))))⟩
  | n + 7, _, h => omega
theorem rowH_apart {L most : Nat} {hd : House} {fi la : List Word} (T : Tab L most (hidO hd) fi la) {u v : Word} (h : ∀ e, Lets L e → e ≠ [] → ans hd 0 (u ++ e) = ans hd 0 (v ++ e)) : rowH (hidO hd) la u = rowH (hidO hd) la v :=
  List.map_inj_left.mpr fun e he => h e (T.laO e he).2.1 (T.laO e he).1
/-- what n, the rooms of the least house, says of the end -/
theorem end_count {L most : Nat} {hd : House} {b : List (Word × Int)} {fi la : List Word} {hu : Hu} {asks : List Word} {hs kept : Nat} {wi : Wi} {shows n : Nat} {hvD : PyData} (HK : Hok L hd) (hn : NOf L hd n) (R : Ready L most (hidO hd) b fi la hu asks hs kept wi) (E : Endf L hd fi shows hvD wi) :
    shows ≤ n ∧ ((∃ g, wi = .don g ∧ hvD = hD L g ∧ n ≤ most ∧ Ok L g ∧ g.ways.length = n ∧ ∀ w, Lets L w → talk hd 0 w = talk g 0 w) ∨ ∃ w, wi = .spt w ∧ hvD = .none ∧ most < n) := by
  obtain ⟨c, C, rfl⟩ := hn
  have RR := rooms_reached HK.ok
  have T := R.inv.tab
  have fin : fi.length ≤ (uniq ((rooms L hd).map c)).length := apart_le HK.ok C RR fi (fun u hu => (T.fiMem hu).2) fun i j u v hi hj he => T.fiD i j u v hi hj (rowH_apart T he)
  obtain ⟨hsh, hE⟩ := E
  refine ⟨by omega, ?_⟩
  rcases hE with ⟨g, rfl, hv, ht⟩ | ⟨w, rfl, hv⟩
  · obtain ⟨I, _, _, hc, hg, _⟩ := R
    have G : Ok L g := by rw [hg]; exact guess_ok T hc
    have gl : g.ways.length = fi.length := by rw [hg]; exact guess_ways_len
    have h2 := classes_le HK.ok C RR G fun w hw _ => by unfold ans; rw [ht w hw]
    have := T.fiL
    exact .inl ⟨g, rfl, hv, by omega, G, by omega, ht⟩
  · refine .inr ⟨w, rfl, hv, ?_⟩
    have R1 := R
    obtain ⟨_, _, _, hl, hir, hne⟩ := R
    obtain ⟨_, hrow, hdif, _⟩ := end_rows R1 (.inr ⟨w, rfl⟩)
    have h3 : (fi ++ [w]).length ≤ (uniq ((rooms L hd).map c)).length := apart_le HK.ok C RR (fi ++ [w]) (fun u hu => (T.row (hrow u hu)).2) fun i j u v hi hj he => by
      rcases Nat.lt_trichotomy i j with q | q | q
      · exact absurd (rowH_apart T he) (hdif i j u v q hi hj)
      · exact q
      · exact absurd (rowH_apart T he).symm (hdif j i v u q hj hi)
    rw [List.length_append, List.length_singleton] at h3
    omega
def spLaw (K : PySem.W.Frag) : Sp := fun vs H Q _ => ∃ (a : Addr) (ns : List Int), vs = [.ref a] ∧ SqL K H a (ns.map V.int) ∧ ns.length ≤ 63 ∧ ∀ H', Q (.bl true) H'
section
variable {P : Program} {w : World} {K : PySem.W.Frag} {mg : Str → Option Value} {base : Heap} {CB CA : Addr}
theorem ok_law (T : All K mg CB CA) (D_law_cell : Df P w K mg base 1 "_law_cell" ["script", "k"] (sp_cell K)) (D_law_says : Df P w K mg base 3 "_law_says" ["script", "at", "letters", "rooms"] (sp_law_says K)) (M_SayAsker : Mb P w K mg base 7 "SayAsker" CA ["self", "letters", "most"] (sp_init CA CB)) (D_law_hunt : Df P w K mg base 9 "_law_hunt" ["asker", "hidden", "script", "at", "state", "most"] (sp_hunt K CA CB))
    (D_SayAsker_wants : Dm P w K mg base CA 1 "wants" ["self"] (sp_wants CA CB)) (D_says_least : Df P w K mg base 5 "says_least" ["house"] sp_says_least) (D_law_talk : Df P w K mg base 1 "_law_talk" ["house", "word"] sp_talk) {f : Addr} {fd : FuncData} (F : Fun K "law" "law" s_law f fd) : FnOk P w K mg base CX0 10 f fd ["script"] (spLaw K) := by
  refine F.ok sc_law (fun vs H Q E h => by obtain ⟨_, _, rfl, _⟩ := h; rfl) (fun cdv A outer s H vs Q E hr h => ?_)
  obtain ⟨a0, ns, rfl, hsc, hn63, k⟩ := h
  refine ⟨_, (pss_cons (ps_set (i := 1) sc_law.nd rfl (.inr rfl) (pe_op op_add (pe_op op_add pe_int (pe_op op_mod (pcall D_law_cell (hr.mono (by decide)) rfl (pa_cons (pv 0) (pa_cons pe_int pa_nil))) pe_int)) (pe_op op_mul (pe_op op_fdiv (pe_op op_mod (pe_op op_fdiv (pcall D_law_cell (hr.mono (by decide)) rfl (pa_cons (pv 0) (pa_cons pe_int pa_nil))) pe_int) pe_int) pe_int) pe_int))) (pss_cons (ps_set (i := 2) sc_law.nd rfl (.inl rfl) (pe_op op_add pe_int (pe_op op_mod (pcall D_law_cell (hr.mono (by decide)) rfl (pa_cons (pv 0) (pa_cons pe_int pa_nil))) (pe_ix ix_list (pe_lst (pa_cons pe_int (pa_cons pe_int (pa_cons pe_int (pa_cons pe_int (pa_cons pe_int (pa_cons pe_int pa_nil))))))) (pe_op op_sub (pv 1) pe_int) (fun _ _ => rfl))))) (pss_cons (ps_set (i := 3) sc_law.nd rfl (.inl rfl) (pcall D_law_says (hr.mono (by decide)) rfl (pa_cons (pv 0) (pa_cons pe_int (pa_cons (pv 1) (pa_cons (pv 2) pa_nil)))))) (pss_cons (ps_set (i := 4) sc_law.nd rfl (.inl rfl) (pe_op op_add pe_int (pe_op op_mod (pcall D_law_cell (hr.mono (by decide)) rfl (pa_cons (pv 0) (pa_cons pe_int pa_nil))) (pe_ix ix_list (pe_lst (pa_cons pe_int (pa_cons pe_int (pa_cons pe_int (pa_cons pe_int (pa_cons pe_int (pa_cons pe_int pa_nil))))))) (pe_op op_sub (pv 1) pe_int) (fun _ _ => rfl))))) (pss_cons (ps_set (i := 5) sc_law.nd rfl (.inl rfl) (pmake M_SayAsker (hr.mono (by decide)) rfl (pa_cons (pv 1) (pa_cons (pv 4) pa_nil)))) (pss_cons (ps_set (i := 6) sc_law.nd rfl (.inl rfl) (pe_lst (pa_cons (pe_tup (pa_cons (pe_lst (pa_cons (pe_tup pa_nil) pa_nil)) (pa_cons (pe_lst pa_nil) pa_nil))) (pa_cons pe_int (pa_cons pe_non pa_nil))))) (pss_cons (ps_if (pt_not (pt_val (pcall D_law_hunt (hr.mono (by decide)) rfl (pa_cons (pv 5) (pa_cons (pv 3) (pa_cons (pv 0) (pa_cons (pe_op op_add pe_int (pe_op op_mul (pe_op op_mul pe_int (pv 1)) (pv 2))) (pa_cons (pv 6) (pa_cons (pv 4) pa_nil))))))))) (pss_one (ps_ret pe_bl)) pss_nil) (pss_cons (ps_set (i := 7) sc_law.nd rfl (.inl rfl) (pmeth0 (pv 5) T.clCA D_SayAsker_wants (hr.mono (by decide)))) (pss_cons (ps_set (i := 8) sc_law.nd rfl (.inl rfl) (pe_callB call_len_seq (by rfl) T.b_len PySem.boot_len (pa_cons (pe_ix ix_tup (pcall D_says_least (hr.mono (by decide)) rfl (pa_cons (pv 3) pa_nil)) pe_int (fun _ _ => rfl)) pa_nil))) (pss_cons (ps_if (PW.pt (pw_or (pt_cmpR op_gt (pe_ix ix_list (pv 6) pe_int (fun _ _ => rfl)) (pv 8) (nomark _)) (pw_or1 (pt_cmpR op_ne (pe_cmpR op_eq (pe_ix ix_tup (pv 7) pe_int (fun _ _ => rfl)) pe_str (nomark _)) (pe_cmpR op_le (pv 8) (pv 4) (nomark _)) (nomark _))))) (pss_one (ps_ret pe_bl)) pss_nil) (pss_cons (ps_if (pt_cmpR op_eq (pe_ix ix_tup (pv 7) pe_int (fun _ _ => rfl)) pe_str (nomark _)) (pss_one (ps_ret (pe_cmp (pc_isN (pe_ix ix_list (pv 6) pe_int (fun _ _ => rfl))) rfl))) pss_nil) (pss_cons (ps_if (PW.pt (pw_or (pt_cmpR (op_neD hr.units) (pe_ix ix_tup (pv 7) pe_int (fun _ _ => rfl)) (pe_ix ix_list (pv 6) pe_int (fun _ _ => rfl)) (nomark _)) (pw_or1 (pt_cmpR op_ne (pe_callB call_len_seq (by rfl) T.b_len PySem.boot_len (pa_cons (pe_ix ix_tup (pe_ix ix_tup (pv 7) pe_int (fun _ _ => rfl)) pe_int (fun _ _ => rfl)) pa_nil)) (pv 8) (nomark _))))) (pss_one (ps_ret pe_bl)) pss_nil) (pss_cons (ps_set (i := 9) sc_law.nd rfl (.inl rfl) (pe_callTy call_tuple_of (by rfl) T.b_tuple (by decide +kernel) (pa_cons (pe_lc (own := [("k", 10)]) (g := gName 10) (tt := tYes) rfl sc_law.nd (pi_range1 (by rfl) T.b_range (pa_cons (pe_callB (call_min2 rfl) (by rfl) T.b_min (by decide +kernel) (pa_cons pe_int (pa_cons (pe_callB call_len_seq (by rfl) T.b_len PySem.boot_len (pa_cons (pv 0) pa_nil)) pa_nil))) pa_nil)) (blkOk_by (own := [("k", 10)]) (N := ["script", "letters", "rooms", "hidden", "most", "asker", "state", "wish", "least_rooms", "word", "k"]) (sc := defScope s_law) (by decide +kernel)) (fun _ _ _ _ _ => (pg_name (i := 10) sc_law.nd rfl (.inl rfl))) (fun _ _ _ _ _ => pts_nil) (fun _ _ _ _ _ => (pe_op op_mod (pe_op op_add (pe_op op_fdiv (pe_ix (r := rIxL K) ix_list (pv 0) (pv 10) (fun _ _ => rfl)) pe_int) (pv 10)) (pv 1)))) pa_nil))) (pss_one (ps_ret (pe_cmpR (op_eqD hr.units) (pcall D_law_talk (hr.mono (by decide)) rfl (pa_cons (pe_ix ix_tup (pv 7) pe_int (fun _ _ => rfl)) (pa_cons (pv 9) pa_nil))) (pcall D_law_talk (hr.mono (by decide)) rfl (pa_cons (pv 3) (pa_cons (pv 9) pa_nil))) (nomark _))))))))))))))))), ?_⟩
  have hS : ∀ H', Ex H H' → isS K ns (.ref a0) H' := fun H' e => ⟨a0, rfl, sq_ex e hsc⟩
  -- letters
  have cell : ∀ (i : Nat) (σ : L2.St) (H' : Hp), Ex H H' → σ[0]? = some (some (.ref a0)) → EvP (tCall (sp_cell K) [] E0 (tCons (tVar 0) (tCons (tC (.int (i : Int))) tNil))) σ H' (isD (.int (cellN ns i))) := fun i σ H' e h0 => e_call (x := (ns, i)) trivial (a_s (s_var h0 (hS H' e)) (a_d (d_nat rfl) a_nil))
  have c0 := cell 0
  have c1 := cell 1
  have c2 := cell 2
  generalize cellN ns 0 = n0 at c0
  generalize cellN ns 1 = n1 at c1
  generalize cellN ns 2 = n2 at c2
  refine q_asg (EvP.eq (d_add (d_add (i := 1) (j := n0 % 3) d_int (d_mod (c0 _ H (Ex.refl _) rfl) (d_int (i := 3)) (by decide))) (d_mul (i := n0 / 3 % 4 / 3) (j := 3) (d_fdiv (d_mod (d_fdiv (c0 _ H (Ex.refl _) rfl) (d_int (i := 3)) ⟨by decide, by decide⟩) (d_int (i := 4)) (by decide)) (d_int (i := 3)) ⟨by decide, by decide⟩) d_int (.inr ⟨by decide, by decide⟩)))
    (show (1 + n0 % 3 + n0 / 3 % 4 / 3 * 3 : Int) = (((1 + n0 % 3 + n0 / 3 % 4 / 3 * 3).toNat : Nat) : Int) by omega)) fun v1 H1 e1 pv1 => ?_
  have hL : 1 ≤ (1 + n0 % 3 + n0 / 3 % 4 / 3 * 3).toNat ∧ (1 + n0 % 3 + n0 / 3 % 4 / 3 * 3).toNat ≤ 6 := by omega
  have pv1 : Im H1 (nD (1 + n0 % 3 + n0 / 3 % 4 / 3 * 3).toNat) v1 := pv1
  generalize (1 + n0 % 3 + n0 / 3 % 4 / 3 * 3).toNat = L at hL pv1
  obtain ⟨l1, l6⟩ := hL
  -- rooms
  obtain ⟨x1, hx1, hx1'⟩ := pick (a := 5) (b := 4) (c := 3) (d := 2) (e := 2) (f := 2) l1 l6
  have hx1p : 0 < x1 ∧ x1 ≤ 5 := by omega
  refine q_asg (EvP.eq (d_add (i := 1) (j := n1 % x1) d_int (d_mod (c1 _ H1 e1 rfl) (d_ixL (K := K) (EvF.toL (f_lst (ds := [.int 5, .int 4, .int 3, .int 2, .int 2, .int 2]) (a_d d_int (a_d d_int (a_d d_int (a_d d_int (a_d d_int (a_d d_int a_nil)))))) (by show 6 ≤ 100000; decide))) (EvP.eq (d_sub (i := L) (j := 1) (d_var rfl pv1) d_int) (show _ = ((L - 1 : Nat) : Int) by omega)) (at_map (f := PyData.int) (l := [5, 4, 3, 2, 2, 2]) hx1)) hx1p.1))
    (show (1 + n1 % x1 : Int) = (((1 + n1 % x1).toNat : Nat) : Int) by have := Int.emod_nonneg n1 (show x1 ≠ 0 by omega); omega)) fun v2 H2 e2 pv2 => ?_
  have hrm : 0 < (1 + n1 % x1).toNat ∧ (1 + n1 % x1).toNat ≤ 5 := by
    have q1 := Int.emod_nonneg n1 (show x1 ≠ 0 by omega)
    have q2 := Int.emod_lt_of_pos n1 hx1p.1
    omega
  have pv2 : Im H2 (nD (1 + n1 % x1).toNat) v2 := pv2
  generalize (1 + n1 % x1).toNat = rm at hrm pv2
  have e02 := e1.trans e2
  -- hidden
  refine q_asg (P := isD (hD L (madeN ns 3 L rm))) (e_call (x := (⟨ns, 3, L, rm⟩ : LS)) ⟨by show 3 ≤ 1000; decide, l6, hrm.1, hrm.2⟩ (a_s (s_var rfl (hS _ e02)) (a_d (d_nat (n := 3) rfl) (a_d (d_var rfl (pv1.ex e2)) (a_d (d_var rfl pv2) a_nil))))) fun v3 H3 e3 pv3 => ?_
  have pv3 : Im H3 (hD L (madeN ns 3 L rm)) v3 := pv3
  have HK : Hok L (madeN ns 3 L rm) := by
    obtain ⟨q1, q2⟩ := madeN_ok ns 3 L hrm.1
    exact ⟨q1, by rw [madeN_len]; exact hrm.2, q2⟩
  generalize madeN ns 3 L rm = hd at pv3 HK
  have e03 := e02.trans e3
  -- most
  obtain ⟨x2, hx2, hx2'⟩ := pick (a := 4) (b := 4) (c := 4) (d := 2) (e := 2) (f := 2) l1 l6
  have hx2p : 0 < x2 ∧ x2 ≤ 4 := by omega
  refine q_asg (EvP.eq (d_add (i := 1) (j := n2 % x2) d_int (d_mod (c2 _ H3 e03 rfl) (d_ixL (K := K) (EvF.toL (f_lst (ds := [.int 4, .int 4, .int 4, .int 2, .int 2, .int 2]) (a_d d_int (a_d d_int (a_d d_int (a_d d_int (a_d d_int (a_d d_int a_nil)))))) (by show 6 ≤ 100000; decide))) (EvP.eq (d_sub (i := L) (j := 1) (d_var rfl (pv1.ex (e2.trans e3))) d_int) (show _ = ((L - 1 : Nat) : Int) by omega)) (at_map (f := PyData.int) (l := [4, 4, 4, 2, 2, 2]) hx2)) hx2p.1))
    (show (1 + n2 % x2 : Int) = (((1 + n2 % x2).toNat : Nat) : Int) by have := Int.emod_nonneg n2 (show x2 ≠ 0 by omega); omega)) fun v4 H4 e4 pv4 => ?_
  have hmo : 1 ≤ (1 + n2 % x2).toNat ∧ (1 + n2 % x2).toNat ≤ 4 := by
    have q1 := Int.emod_nonneg n2 (show x2 ≠ 0 by omega)
    have q2 := Int.emod_lt_of_pos n2 hx2p.1
    omega
  have pv4 : Im H4 (nD (1 + n2 % x2).toNat) v4 := pv4
  generalize (1 + n2 % x2).toNat = most at hmo pv4
  have e04 := e03.trans e4
  have pv1 : v1 = .int (L : Int) := im_int pv1
  have pv2 : v2 = .int (rm : Int) := im_int pv2
  have pv4 : v4 = .int (most : Int) := im_int pv4
  subst pv1
  subst pv2
  subst pv4
  have pv3 := pv3.ex e4
  -- the asker
  refine ⟨_, rfl, _, rfl, fun p dx p0 dx0 ndp => ?_⟩
  have eI : Ex H4 (upd (upd H4 dx (.own p)) p (.ins CA dx [])) := fun c o h => by rw [upd_ne (ne_of_none h p0), upd_ne (ne_of_none h dx0)]; exact h
  refine ⟨p, dx, L, most, hidO hd, _, _, rfl, upd_same, .int _, .int _, ⟨l1, l6, hmo.1, hmo.2⟩, fun H5 A fi la hu wi hAp d0 l10 l20 f5 nd pf R S => ⟨rfl, ?_⟩⟩
  subst hAp
  have e45 : Ex H4 H5 := fun c o h => f5 c o (ne_of_none h p0) (eI c o h)
  have dH : H4 A.d = none := fresh_back eI d0
  have l1H : H4 A.l1 = none := fresh_back eI l10
  have l2H : H4 A.l2 = none := fresh_back eI l20
  clear f5 eI d0 l10 l20 dx0 ndp
  -- the state
  have lv : Lv [A.p, A.d, A.l1, A.l2] H5 := fun c m => by
    obtain ⟨dx, hv, wv, hp, _⟩ := S.ins
    obtain ⟨_, hdd⟩ := S.book
    obtain ⟨_, h1, _⟩ := S.one
    obtain ⟨_, h2, _⟩ := S.two
    simp only [List.mem_cons, List.not_mem_nil, or_false] at m
    rcases m with rfl | rfl | rfl | rfl
    · exact ⟨_, hp, fun _ z => nomatch z⟩
    · exact ⟨_, hdd, fun _ z => nomatch z⟩
    · exact ⟨_, h1, fun _ z => nomatch z⟩
    · exact ⟨_, h2, fun _ z => nomatch z⟩
  refine q_lstA (a_cons (P := offP [A.p, A.d, A.l1, A.l2] (ktD [[]] [])) (o_tup2 (o_fresh (f_lst (ds := wsD [[]]) (a_d (d_tup (ds := []) a_nil (Nat.zero_le _)) a_nil) (by show 1 ≤ 100000; decide)) lv (ptAll_ws [[]])) (o_fresh (ds := wsD []) f_nil lv rfl) lv) (mo_off _ _) (a_d (d_int (i := 0)) (a_d d_non a_nil))) fun vs H6 e6 pa => ?_
  obtain ⟨kv, r1, rfl, hkv, z1, r2, rfl, hz1, z2, r3, rfl, hz2, hr3⟩ := pa
  have hr3 : r3 = [] := hr3
  subst hr3
  have hz1 : z1 = .int 0 := im_int hz1
  subst hz1
  have hz2 : z2 = .non := im_non hz2
  subst hz2
  refine ⟨by show 3 ≤ sizeLine; decide, fun st st0 => ?_⟩
  have e67 := Ex.new (o := .lst [kv, .int 0, .non]) st0
  have S7 := (S.ex e6).ex e67
  have st4 : H4 st = none := fresh_back (e45.trans e6) st0
  have n1 : st ≠ A.l1 := fun z => by obtain ⟨_, h1, _⟩ := S.one; rw [z, e6 _ _ h1] at st0; cases st0
  have n2 : st ≠ A.l2 := fun z => by obtain ⟨_, h1, _⟩ := S.two; rw [z, e6 _ _ h1] at st0; cases st0
  have e47 : Ex H4 (upd H6 st (.lst [kv, .int 0, .non])) := (e45.trans e6).trans e67
  have o47 : Ex H4 (off (A.S5 st) (upd H6 st (.lst [kv, .int 0, .non]))) := off_ex0 e47 fun c m => by
    simp only [Ad.S5, List.mem_cons, List.not_mem_nil, or_false] at m
    rcases m with rfl | rfl | rfl | rfl | rfl
    · exact p0
    · exact dH
    · exact l1H
    · exact l2H
    · exact st4
  have hkv7 : Im (off (A.S5 st) (upd H6 st (.lst [kv, .int 0, .non]))) (ktD [[]] []) kv := Im.ex hkv fun c o h => by
    obtain ⟨h1, h2⟩ := off_some h
    have hcs : c ≠ st := ne_of_none h2 st0
    rw [off_ne (fun m => by
      simp only [Ad.S5, List.mem_cons, List.not_mem_nil, or_false, not_or] at m h1
      rcases m with m | m | m | m | m
      · exact h1.1 m
      · exact h1.2.1 m
      · exact h1.2.2.1 m
      · exact h1.2.2.2 m
      · exact hcs m), upd_ne hcs]
    exact h2
  have hst7 : upd H6 st (.lst [kv, .int 0, .non]) st = some (.lst [kv, .int 0, .non]) := upd_same
  generalize upd H6 st (.lst [kv, .int 0, .non]) = H7 at S7 e47 o47 hkv7 hst7
  -- the hunt
  have hrL : rm * L ≤ 30 := Nat.le_trans (Nat.mul_le_mul hrm.2 l6) (by decide)
  refine q_ifCall (a_cons (v_var rfl) (mo_V (.ref A.p)) (a_cons (v_var rfl) (mo_V v3) (a_cons (v_var rfl) (mo_V (.ref a0)) (a_d (EvP.eq (d_add (i := 3) (j := 2 * L * rm) d_int (d_mul (i := 2 * L) (j := rm) (d_mul (i := 2) (j := L) d_int (d_var rfl (.int _)) (.inl ⟨by decide, by decide⟩)) (d_var rfl (.int _)) (.inl ⟨by omega, by omega⟩))) (show _ = ((3 + 2 * L * rm : Nat) : Int) by push_cast; rfl)) (a_cons (v_var rfl) (mo_V (.ref st)) (a_d (d_var (d := nD most) rfl (.int _)) a_nil)))))) fun vs H8 e8 pa => ?_
  obtain ⟨y1, r1, rfl, q1, y2, r2, rfl, q2, y3, r3, rfl, q3, y4, r4, rfl, q4, y5, r5, rfl, q5, y6, r6, rfl, q6, hr6⟩ := pa
  have q1 : y1 = .ref A.p := q1
  have q2 : y2 = v3 := q2
  have q3 : y3 = .ref a0 := q3
  have q5 : y5 = .ref st := q5
  have hr6 : r6 = [] := hr6
  subst q1
  subst q2
  subst q3
  subst q5
  subst hr6
  have o48 : Ex H4 (off (A.S5 st) H8) := o47.trans (off_mono (fo_ex e8))
  refine ⟨A, L, most, hd, ns, 3 + 2 * L * rm, st, fi, la, hu, wi, y2, .ref a0, y4, y6, kv, rfl, S7.ex e8, R, nd, pf, HK, ⟨e8 _ _ hst7, hkv7.ex (off_mono (fo_ex e8)), n1, n2⟩, pv3.ex o48, mo_S K ns _ _ _ o48 (hS _ e04), q4, q6, ?_, fun H9 b fi9 la9 hu9 asks hs kept wi9 kf kl kv9 hv9 shows hvD f9 R9 S9 hst9 hk9 hh9 E9 => ⟨true, rfl, ?_⟩⟩
  · have : L * rm ≤ 30 := by rw [Nat.mul_comm]; exact hrL
    have h2 : 2 * L * rm = 2 * (L * rm) := Nat.mul_assoc _ _ _
    omega
  have o49 : Ex H4 H9 := (o48.trans (off_mono f9)).trans off_le
  have hd9 := pv3.ex o49
  have hS9 : ∀ H', Ex H9 H' → isS K ns (.ref a0) H' := fun H' e => hS H' ((e04.trans o49).trans e)
  have ist9 : Im H9 (.list [ktD kf kl, nD shows, hvD]) (.ref st) := .lst hst9 (.cons (hk9.ex off_le) (.cons (.int _) (.cons (hh9.ex off_le) .nil)))
  let x : AK := ⟨A, L, most, b, fi9, la9, huD (hidO hd) L fi9 la9 hu9, wiD L wi9⟩
  have hh9 := hh9
  rw [if_neg (show ¬ ((!true) = true) from fun z => nomatch z)]
  -- wish = asker.wants()
  refine q_asg (P := isD (wiD L wi9)) (e_meth (ps := fun x : AK => [x.is CA CB]) (post := fun x : AK => isD x.wi) (x := x) trivial (e_var rfl ⟨rfl, S9⟩ mo_ask) mo_ask (ask_ins (by decide +kernel)) a_nil rfl) fun v7 H10 e10 pv7 => ?_
  have pv7 : Im H10 (wiD L wi9) v7 := pv7
  rw [wi_eq] at pv7
  refine q_asg (P := fun v _ => ∃ n : Nat, v = .int (n : Int) ∧ NOf L hd n) (e_lenT (K := K) (R := fun v H => ∃ sy, Im H (.tuple sy) v ∧ NOf L hd sy.length) (e_ixT (K := K) (P := fun v H => ∃ (sy : List PyData) (wy : PyData), Im H (.tuple [nD L, .tuple sy, wy]) v ∧ NOf L hd sy.length) (e_call (x := (L, hd)) ⟨HK.ok, by have := HK.wl; show hd.ways.length ≤ 10; omega, l6⟩ (a_d (d_var rfl (hd9.ex e10)) a_nil)) (fun v H1 H2 e ⟨sy, wy, a, b⟩ => ⟨sy, wy, a.ex e, b⟩) (d_int (i := 1)) (fun v H1 ⟨sy, wy, a, b⟩ => ⟨_, _, a, at_nat (i := 1) rfl, fun v' hv' => ⟨sy, hv', b⟩⟩)) (fun v H1 ⟨sy, a, b⟩ => ⟨sy, a, b⟩)) fun v8 H11 e11 ⟨n, hv8, hn⟩ => ?_
  subst hv8
  obtain ⟨hs1, hE⟩ := end_count HK hn R9 E9
  have e911 := e10.trans e11
  have ist := ist9.ex e911
  have pv7 := pv7.ex e11
  have w0 : ∀ (H8 : Hp) (σ : L2.St), Ex H11 H8 → σ[7]? = some (some v7) → EvP (tOp (rIxT K) (tVar 7) (tC (.int 0))) σ H8 (isD (.str (wnm wi9))) := fun H8 σ e8 h0 => d_ixT (d_var h0 (pv7.ex e8)) (d_int (i := 0)) (at_nat (i := 0) rfl)
  have w1 : ∀ (H8 : Hp) (σ : L2.St), Ex H11 H8 → σ[7]? = some (some v7) → EvP (tOp (rIxT K) (tVar 7) (tC (.int 1))) σ H8 (isD (wrest L wi9)) := fun H8 σ e8 h0 => d_ixT (d_var h0 (pv7.ex e8)) (d_int (i := 1)) (at_nat (i := 1) rfl)
  have stt : ∀ (H8 : Hp) (σ : L2.St), Ex H11 H8 → σ[6]? = some (some (.ref st)) → EvP (tOp (rIxL K) (tVar 6) (tC (.int 2))) σ H8 (isD hvD) := fun H8 σ e8 h0 => d_ixL (d_var h0 (ist.ex e8)) (d_int (i := 2)) (at_nat (i := 2) rfl)
  rcases hE with ⟨g, rfl, rfl, hnm, G, gl, ht⟩ | ⟨wd, rfl, rfl, hnm⟩
  · refine q_no (t_oF (c_no (d_gt (i := shows) (j := n) (d_ixL (K := K) (d_var rfl ist) (d_int (i := 1)) (at_nat (i := 1) rfl)) (d_var rfl (.int _))) (by omega)) (t_cmp (EvP.bl (c := false) (d_neB (d_eqS (w0 _ _ (Ex.refl _) rfl) d_str) (d_le (i := n) (j := most) (d_var rfl (.int _)) (d_var rfl (.int _)))) ?_))) fun H12 e12 => ?_
    · have q1 : decide (wnm (.don g) = ("done" : Str)) = true := decide_eq_true rfl
      have q2 : decide ((n : Int) ≤ (most : Int)) = true := decide_eq_true (by omega)
      rw [q1, q2]
      rfl
    refine q_no (c_no (d_eqS (w0 _ _ e12 rfl) d_str) (by show ¬ (("done" : Str) = "spent"); decide +kernel)) fun H13 e13 => ?_
    have e113 := e12.trans e13
    have gsl : g.says.length = n := by rw [G.sl]; exact gl
    refine q_no (t_oF (t_cmp (d_neD (K := K) (w1 _ _ e113 rfl) (stt _ _ e113 rfl) ((sh_hD L g).ok (by decide)) ((sh_hD L g).ok (by decide)) (b := false) (by show (!PyData.eqv (hD L g) (hD L g)) = false; rw [eqv_self (pl_hD L g)]; rfl))) (cn_no (d_neI (i := ((g.says.length : Nat) : Int)) (j := n) (d_lenMT (K := K) (d_ixT (K := K) (w1 _ _ e113 rfl) (d_int (i := 1)) (at_nat (i := 1) (x := PyData.tuple (g.says.map iD)) rfl))) (d_var rfl (.int _))) (by omega))) fun H14 e14 => ?_
    have e114 := e113.trans e14
    have e914 := e911.trans e114
    have hmn : (if ((ns.length : Nat) : Int) < 60 then ((ns.length : Nat) : Int) else 60) = ((min 60 ns.length : Nat) : Int) := by
      by_cases q : ns.length < 60
      · rw [if_pos (by omega)]; omega
      · rw [if_neg (by omega)]; omega
    let wd : Word := (List.range (min 60 ns.length)).map fun (k : Nat) => ((ns.getD k 0 / 3 + (k : Int)) % (L : Int)).toNat
    have wlen : wd.length = min 60 ns.length := by show ((List.range _).map _).length = _; rw [List.length_map, List.length_range]
    have wl : Lets L wd := fun y hy => by
      obtain ⟨j, _, rfl⟩ := List.mem_map.mp hy
      have h1 := Int.emod_nonneg (ns.getD j 0 / 3 + (j : Int)) (show (L : Int) ≠ 0 by omega)
      have h2 := Int.emod_lt_of_pos (ns.getD j 0 / 3 + (j : Int)) (show (0 : Int) < L by omega)
      omega
    refine q_asg (d_tupOf (K := K) (EvF.toL (c_R (n := min 60 ns.length) (rs := wd.map nD) (EvP.eq (d_min2 (i := 60) d_int (d_lenS (K := K) (s_var rfl (hS9 _ e914)))) hmn) (by rw [List.length_map, wlen]) (by omega) (fun _ => rfl) (fun _ _ _ _ => t_yes) (fun q rr H15 e15 hq hr' => ?_)))) fun v9 H15 e15 pv9 => ?_
    · rw [List.getElem?_map, List.getElem?_map, List.getElem?_range hq] at hr'
      cases hr'
      refine EvP.toG (EvP.eq (d_mod (i := ns.getD q 0 / 3 + (q : Int)) (j := L) (d_add (i := ns.getD q 0 / 3) (j := (q : Int)) (d_fdiv (d_ixS (K := K) (k := q) (s_var rfl (hS9 _ (e914.trans e15))) (d_var rfl (.int _)) (by omega)) (d_int (i := 3)) ⟨by decide, by decide⟩) (d_var rfl (.int _))) (d_var rfl (.int _)) (by omega)) ?_) rfl
      exact (Int.toNat_of_nonneg (Int.emod_nonneg _ (by omega))).symm
    have pv9 : Im H15 (wD wd) v9 := pv9
    have okG : HW.ok ⟨L, g, wd⟩ := ⟨G, wl, by rw [wlen]; omega⟩
    have okH : HW.ok ⟨L, hd, wd⟩ := ⟨HK.ok, wl, by rw [wlen]; omega⟩
    refine k_ret (d_eqD (K := K) (b := true) (EvF.toL (f_call (ps := fun x : HW => [isD (hD x.L x.g), isD (wD x.wd)]) (ds := fun x : HW => (talk x.g 0 x.wd).map .int) (⟨L, g, wd⟩ : HW) okG (a_d (w1 _ _ (e114.trans e15) rfl) (a_d (d_var rfl pv9) a_nil)))) (EvF.toL (f_call (ps := fun x : HW => [isD (hD x.L x.g), isD (wD x.wd)]) (ds := fun x : HW => (talk x.g 0 x.wd).map .int) (⟨L, hd, wd⟩ : HW) okH (a_d (d_var rfl (hd9.ex (e914.trans e15))) (a_d (d_var rfl pv9) a_nil)))) ((sh_lD (talk g 0 wd)).ok (by decide)) ((sh_lD (talk hd 0 wd)).ok (by decide)) ?_) fun v H16 e16 pv => ?_
    · show PyData.eqv (lD (talk g 0 wd)) (lD (talk hd 0 wd)) = true
      rw [ht wd wl]
      exact eqv_self (pl_lD _)
    · rw [im_bl pv]
      exact k H16
  · refine q_no (t_oF (c_no (d_gt (i := shows) (j := n) (d_ixL (K := K) (d_var rfl ist) (d_int (i := 1)) (at_nat (i := 1) rfl)) (d_var rfl (.int _))) (by omega)) (t_cmp (EvP.bl (c := false) (d_neB (d_eqS (w0 _ _ (Ex.refl _) rfl) d_str) (d_le (i := n) (j := most) (d_var rfl (.int _)) (d_var rfl (.int _)))) ?_))) fun H12 e12 => ?_
    · have q1 : decide (wnm (.spt wd) = ("done" : Str)) = false := decide_eq_false (by show ¬ (("spent" : Str) = "done"); decide +kernel)
      have q2 : decide ((n : Int) ≤ (most : Int)) = false := decide_eq_false (by omega)
      rw [q1, q2]
      rfl
    refine q_yes (c_yes (d_eqS (w0 _ _ e12 rfl) d_str) rfl) fun H13 e13 => ?_
    refine k_ret (d_isN (b := true) (stt _ _ (e12.trans e13) rfl) (fun v H1 p => by rw [im_non p]; rfl)) fun v H14 e14 pv => ?_
    rw [im_bl pv]
    exact k H14
end
end Gr
end
section
set_option maxRecDepth 100000
set_option maxHeartbeats 4000000
/-! All walks joined. -/
namespace Gr
open PySem L2 PySem.Spec PyProof.Rows Evl
theorem ok_all {P : Program} {w : World} {K : PySem.W.Frag} {mg : Str → Option Value} {base : Heap} {CB CA : Addr} (T : All K mg CB CA) {f : Addr} {fd : FuncData} (F : Fun K "law" "law" s_law f fd) : FnOk P w K mg base CX0 10 f fd ["script"] (spLaw K) := by
  have D_is_word := ok_is_word (P := P) (w := w) (base := base) T
  have D_room_reached := ok_room_reached (P := P) (w := w) (base := base) T
  have D_Book_told := ok_told (P := P) (w := w) (base := base) T
  have D_look_at := ok_look_at (P := P) (w := w) (base := base) T D_is_word
  have D_said := ok_said (P := P) (w := w) (base := base) T D_is_word
  have D_law_talk := ok_law_talk (P := P) (w := w) (base := base) T
  have D_last_said := ok_last_said (P := P) (w := w) (base := base) T D_said
  have D_law_whole := ok_law_whole (P := P) (w := w) (base := base) T
  have D_law_is_word := ok_law_is_word (P := P) (w := w) (base := base) T D_law_whole
  have D_law_words_good := ok_law_words_good (P := P) (w := w) (base := base) T D_law_is_word
  have D_law_access_good := ok_law_access_good (P := P) (w := w) (base := base) T D_law_words_good
  have D_law_ends_good := ok_law_ends_good (P := P) (w := w) (base := base) T D_law_words_good
  have D_rows_of := ok_rows_of (P := P) (w := w) (base := base) T
  have D_gap := ok_gap (P := P) (w := w) (base := base) T D_rows_of D_Book_told
  have D_marks_of := ok_marks_of (P := P) (w := w) (base := base) T D_Book_told
  have D_place_like := ok_place_like (P := P) (w := w) (base := base) T D_marks_of
  have D_stranger := ok_stranger (P := P) (w := w) (base := base) T D_rows_of D_marks_of D_place_like
  have D_row_places := ok_row_places (P := P) (w := w) (base := base) T D_marks_of
  have D_says_guess := ok_says_guess (P := P) (w := w) (base := base) T D_Book_told D_row_places
  have D_law_marks := ok_law_marks (P := P) (w := w) (base := base) T
  have D_law_rows_are := ok_law_rows_are (P := P) (w := w) (base := base) T D_law_whole
  have D_law_house_is := ok_law_house_is (P := P) (w := w) (base := base) T D_law_whole D_law_rows_are
  have D_law_due_guess := ok_law_due_guess (P := P) (w := w) (base := base) T D_law_marks
  have D_law_pairs := ok_law_pairs (P := P) (w := w) (base := base) T
  have D_law_unlike_words := ok_law_unlike_words (P := P) (w := w) (base := base) T D_law_pairs
  have D_numberedT := ok_numberedT (P := P) (w := w) (base := base) T
  have D_numberedP := ok_numberedP (P := P) (w := w) (base := base) T
  have D_reached := ok_reached (P := P) (w := w) (base := base) T
  have D_sorted_out := ok_sorted_out (P := P) (w := w) (base := base) T D_numberedT D_numberedP
  have D_homes := ok_homes (P := P) (w := w) (base := base) T D_sorted_out D_reached
  have D_least := ok_least (P := P) (w := w) (base := base) T D_homes D_reached
  have D_marked_rows := ok_marked_rows (P := P) (w := w) (base := base) T
  have D_says_least := ok_says_least (P := P) (w := w) (base := base) T D_least D_marked_rows
  have D_law_cell := ok_law_cell (P := P) (w := w) (base := base) T
  have D_law_big := ok_law_big (P := P) (w := w) (base := base) T D_law_cell
  have D_law_mark := ok_law_mark (P := P) (w := w) (base := base) T
  have D_law_says := ok_law_says (P := P) (w := w) (base := base) T D_law_big D_law_mark
  have D_law_objection := ok_law_objection (P := P) (w := w) (base := base) T D_law_big D_law_talk D_law_unlike_words
  have D_Book_init := ok_Book_init (P := P) (w := w) (base := base) T
  have M_Book : Mb P w K mg base 1 "Book" CB ["self", "letters"] (sp_Book_init CB) := ⟨D_Book_init, T.mkCB, T.kcCB, T.mgCB⟩
  have D_Book_put := ok_Book_put (P := P) (w := w) (base := base) T D_look_at
  have D_Book_heard := ok_Book_heard (P := P) (w := w) (base := base) T
  have D_SayAsker_wants := ok_wants (P := P) (w := w) (base := base) T
  have D_SayAsker_access := ok_access (P := P) (w := w) (base := base) T
  have D_SayAsker_tellers := ok_tellers (P := P) (w := w) (base := base) T
  have D_SayAsker_heard := ok_heard (P := P) (w := w) (base := base) T D_Book_heard
  have D_SayAsker_agree := ok_agree (P := P) (w := w) (base := base) T
  have D_SayAsker_take_in := ok_take_in (P := P) (w := w) (base := base) T
  have D_SayAsker_hunt_step := ok_hunt_step (P := P) (w := w) (base := base) T D_room_reached D_Book_told D_last_said
  have D_SayAsker_one_step := ok_one_step (P := P) (w := w) (base := base) T D_SayAsker_hunt_step D_gap D_stranger D_SayAsker_take_in D_says_guess D_Book_heard D_last_said
  have D_SayAsker_settle := ok_settle (P := P) (w := w) (base := base) T D_SayAsker_one_step
  have D_SayAsker_hear := ok_hear (P := P) (w := w) (base := base) T D_Book_put D_SayAsker_settle
  have D_SayAsker_differ := ok_differ (P := P) (w := w) (base := base) T D_is_word D_last_said D_Book_put D_SayAsker_settle
  have D_SayAsker_init := ok_init (P := P) (w := w) (base := base) T M_Book D_SayAsker_settle
  have M_SayAsker : Mb P w K mg base 7 "SayAsker" CA ["self", "letters", "most"] (sp_init CA CB) := ⟨D_SayAsker_init, T.mkCA, T.kcCA, T.mgCA⟩
  have D_law_grows := ok_law_grows (P := P) (w := w) (base := base) T D_SayAsker_access D_SayAsker_tellers
  have D_law_wish_good := ok_law_wish_good (P := P) (w := w) (base := base) T D_law_is_word
  have D_law_guess_good := ok_law_guess_good (P := P) (w := w) (base := base) T D_SayAsker_access D_SayAsker_tellers D_SayAsker_heard D_law_access_good D_law_ends_good D_law_due_guess D_law_house_is D_law_talk
  have D_law_end_good := ok_law_end_good (P := P) (w := w) (base := base) T D_SayAsker_access D_SayAsker_tellers D_SayAsker_wants D_SayAsker_heard D_law_access_good D_law_ends_good D_law_marks
  have D_law_shown := ok_law_shown (P := P) (w := w) (base := base) T D_SayAsker_wants D_SayAsker_access D_SayAsker_tellers D_SayAsker_heard D_law_guess_good D_law_grows D_law_objection D_SayAsker_agree D_law_talk D_SayAsker_differ
  have D_law_hunt := ok_law_hunt (P := P) (w := w) (base := base) T D_SayAsker_wants D_law_wish_good D_law_talk D_SayAsker_hear D_law_shown D_law_grows D_law_end_good
  exact ok_law T D_law_cell D_law_says M_SayAsker D_law_hunt D_SayAsker_wants D_says_least D_law_talk F
end Gr
end
set_option maxRecDepth 100000
set_option maxHeartbeats 4000000
namespace Gr
open PySem L2 PySem.Spec PyProof.Rows
theorem law_head {l : PySem.W.OpenLaw} {w : World} {K : PySem.W.Frag} {h : Heap} {mg : Str → Option Value} {fa CB CA : Addr} (X : K.In h) (hfa : mg "law" = some (.ref fa)) (T : All K mg CB CA) :
    ∃ fd : FuncData, (∀ (s : Shared) (v : Value), BindsTo s fd ⟨[v], []⟩ [("script", v)]) ∧ ∀ base : Heap, K.In base → base.Ns mainGlobals mg → FnOk l.prog w K mg base CX0 12 fa fd ["script"] (spLaw K) := by
  obtain ⟨f, fd, F, m, b⟩ := T.t_law
  have e := hfa.symm.trans m
  cases e
  obtain ⟨oc, od, kV, doc, pm, an, cdv, ct, osl, rfl, lk, hcd⟩ := F.ex
  exact ⟨PySem.W.fnOf "law" "law" (defArgs s_law) (defBody s_law) (defScope s_law) .none kV doc pm an cdv ct, fun s v => .of_eq rfl, fun base _ _ => (ok_all T F).mono (by decide)⟩
theorem all_mk {l : PySem.W.OpenLaw} {w : World} {K : PySem.W.Frag} {h : Heap} {mg : Str → Option Value} {fa CB CA : Addr} (X : K.In h) (G : h.Ns mainGlobals mg)
    (aCB : PySem.W.nsIn K mainGlobals "Book" = some (some (.ref CB))) (aCA : PySem.W.nsIn K mainGlobals "SayAsker" = some (some (.ref CA))) (hfa : mg "law" = some (.ref fa))
    {f0 f1 f2 f3 f4 f5 f6 f7 f8 f9 f10 f11 f12 f13 f14 f15 f16 f17 f18 f19 f20 f21 f22 f23 f24 f25 f26 f27 f28 f29 f30 f31 f32 f33 f34 f35 f36 f37 f38 f39 f40 f41 f42 f43 f44 f45 f46 f47 f48 f49 f50 f51 f52 f53 f54 f55 f56 f57 f58 : Addr}
    {od0 an0 od1 an1 od2 an2 od3 an3 od4 an4 od5 an5 od6 an6 od7 an7 od8 an8 od9 an9 od10 an10 od11 an11 od12 an12 od13 an13 od14 an14 od15 an15 od16 an16 od17 an17 od18 an18 od19 an19 od20 an20 od21 an21 od22 an22 od23 an23 od24 an24 od25 an25 od26 an26 od27 an27 od28 an28 od29 an29 od30 an30 od31 an31 od32 an32 od33 an33 od34 an34 od35 an35 od36 an36 od37 an37 od38 an38 od39 an39 od40 an40 od41 an41 od42 an42 od43 an43 od44 an44 od45 an45 od46 an46 od47 an47 od48 an48 od49 an49 od50 an50 od51 an51 od52 an52 od53 an53 od54 an54 od55 an55 od56 an56 od57 an57 od58 an58 : Option Addr}
    {sl0 sl1 sl2 sl3 sl4 sl5 sl6 sl7 sl8 sl9 sl10 sl11 sl12 sl13 sl14 sl15 sl16 sl17 sl18 sl19 sl20 sl21 sl22 sl23 sl24 sl25 sl26 sl27 sl28 sl29 sl30 sl31 sl32 sl33 sl34 sl35 sl36 sl37 sl38 sl39 sl40 sl41 sl42 sl43 sl44 sl45 sl46 sl47 sl48 sl49 sl50 sl51 sl52 sl53 sl54 sl55 sl56 sl57 sl58 : Array (Option Value)}
    {oc0 kV0 dc0 pm0 cd0 ct0 oc1 kV1 dc1 pm1 cd1 ct1 oc2 kV2 dc2 pm2 cd2 ct2 oc3 kV3 dc3 pm3 cd3 ct3 oc4 kV4 dc4 pm4 cd4 ct4 oc5 kV5 dc5 pm5 cd5 ct5 oc6 kV6 dc6 pm6 cd6 ct6 oc7 kV7 dc7 pm7 cd7 ct7 oc8 kV8 dc8 pm8 cd8 ct8 oc9 kV9 dc9 pm9 cd9 ct9 oc10 kV10 dc10 pm10 cd10 ct10 oc11 kV11 dc11 pm11 cd11 ct11 oc12 kV12 dc12 pm12 cd12 ct12 oc13 kV13 dc13 pm13 cd13 ct13 oc14 kV14 dc14 pm14 cd14 ct14 oc15 kV15 dc15 pm15 cd15 ct15 oc16 kV16 dc16 pm16 cd16 ct16 oc17 kV17 dc17 pm17 cd17 ct17 oc18 kV18 dc18 pm18 cd18 ct18 oc19 kV19 dc19 pm19 cd19 ct19 oc20 kV20 dc20 pm20 cd20 ct20 oc21 kV21 dc21 pm21 cd21 ct21 oc22 kV22 dc22 pm22 cd22 ct22 oc23 kV23 dc23 pm23 cd23 ct23 oc24 kV24 dc24 pm24 cd24 ct24 oc25 kV25 dc25 pm25 cd25 ct25 oc26 kV26 dc26 pm26 cd26 ct26 oc27 kV27 dc27 pm27 cd27 ct27 oc28 kV28 dc28 pm28 cd28 ct28 oc29 kV29 dc29 pm29 cd29 ct29 oc30 kV30 dc30 pm30 cd30 ct30 oc31 kV31 dc31 pm31 cd31 ct31 oc32 kV32 dc32 pm32 cd32 ct32 oc33 kV33 dc33 pm33 cd33 ct33 oc34 kV34 dc34 pm34 cd34 ct34 oc35 kV35 dc35 pm35 cd35 ct35 oc36 kV36 dc36 pm36 cd36 ct36 oc37 kV37 dc37 pm37 cd37 ct37 oc38 kV38 dc38 pm38 cd38 ct38 oc39 kV39 dc39 pm39 cd39 ct39 oc40 kV40 dc40 pm40 cd40 ct40 oc41 kV41 dc41 pm41 cd41 ct41 oc42 kV42 dc42 pm42 cd42 ct42 oc43 kV43 dc43 pm43 cd43 ct43 oc44 kV44 dc44 pm44 cd44 ct44 oc45 kV45 dc45 pm45 cd45 ct45 oc46 kV46 dc46 pm46 cd46 ct46 oc47 kV47 dc47 pm47 cd47 ct47 oc48 kV48 dc48 pm48 cd48 ct48 oc49 kV49 dc49 pm49 cd49 ct49 oc50 kV50 dc50 pm50 cd50 ct50 oc51 kV51 dc51 pm51 cd51 ct51 oc52 kV52 dc52 pm52 cd52 ct52 oc53 kV53 dc53 pm53 cd53 ct53 oc54 kV54 dc54 pm54 cd54 ct54 oc55 kV55 dc55 pm55 cd55 ct55 oc56 kV56 dc56 pm56 cd56 ct56 oc57 kV57 dc57 pm57 cd57 ct57 oc58 kV58 dc58 pm58 cd58 ct58 : Value}
    (a0 : PySem.W.nsIn K mainGlobals "is_word" = some (some (.ref f0))) (l0 : K.lookup f0 = some ⟨oc0, od0, .func (PySem.W.fnOf "is_word" "is_word" (defArgs s_is_word) (defBody s_is_word) (defScope s_is_word) .none kV0 dc0 pm0 an0 cd0 ct0), sl0⟩) (c0 : PySem.W.codeIn K cd0 "is_word" = true) (k0 : PySem.W.keepIn K (.ref f0) = true)
    (a1 : PySem.W.nsIn K mainGlobals "look_at" = some (some (.ref f1))) (l1 : K.lookup f1 = some ⟨oc1, od1, .func (PySem.W.fnOf "look_at" "look_at" (defArgs s_look_at) (defBody s_look_at) (defScope s_look_at) .none kV1 dc1 pm1 an1 cd1 ct1), sl1⟩) (c1 : PySem.W.codeIn K cd1 "look_at" = true) (k1 : PySem.W.keepIn K (.ref f1) = true)
    (a2 : PySem.W.findIn K (.ref CB) "__init__" = some (some (.ref f2))) (i2 : PySem.W.isFn K (.ref f2) = true) (l2 : K.lookup f2 = some ⟨oc2, od2, .func (PySem.W.fnOf "__init__" "Book.__init__" (defArgs s_Book_init) (defBody s_Book_init) (defScope s_Book_init) .none kV2 dc2 pm2 an2 cd2 ct2), sl2⟩) (c2 : PySem.W.codeIn K cd2 "Book.__init__" = true) (k2 : PySem.W.keepIn K (.ref f2) = true)
    (a3 : PySem.W.findIn K (.ref CB) "put" = some (some (.ref f3))) (i3 : PySem.W.isFn K (.ref f3) = true) (l3 : K.lookup f3 = some ⟨oc3, od3, .func (PySem.W.fnOf "put" "Book.put" (defArgs s_Book_put) (defBody s_Book_put) (defScope s_Book_put) .none kV3 dc3 pm3 an3 cd3 ct3), sl3⟩) (c3 : PySem.W.codeIn K cd3 "Book.put" = true) (k3 : PySem.W.keepIn K (.ref f3) = true)
    (a4 : PySem.W.findIn K (.ref CB) "told" = some (some (.ref f4))) (i4 : PySem.W.isFn K (.ref f4) = true) (l4 : K.lookup f4 = some ⟨oc4, od4, .func (PySem.W.fnOf "told" "Book.told" (defArgs s_Book_told) (defBody s_Book_told) (defScope s_Book_told) .none kV4 dc4 pm4 an4 cd4 ct4), sl4⟩) (c4 : PySem.W.codeIn K cd4 "Book.told" = true) (k4 : PySem.W.keepIn K (.ref f4) = true)
    (a5 : PySem.W.findIn K (.ref CB) "heard" = some (some (.ref f5))) (i5 : PySem.W.isFn K (.ref f5) = true) (l5 : K.lookup f5 = some ⟨oc5, od5, .func (PySem.W.fnOf "heard" "Book.heard" (defArgs s_Book_heard) (defBody s_Book_heard) (defScope s_Book_heard) .none kV5 dc5 pm5 an5 cd5 ct5), sl5⟩) (c5 : PySem.W.codeIn K cd5 "Book.heard" = true) (k5 : PySem.W.keepIn K (.ref f5) = true)
    (a6 : PySem.W.nsIn K mainGlobals "rows_of" = some (some (.ref f6))) (l6 : K.lookup f6 = some ⟨oc6, od6, .func (PySem.W.fnOf "rows_of" "rows_of" (defArgs s_rows_of) (defBody s_rows_of) (defScope s_rows_of) .none kV6 dc6 pm6 an6 cd6 ct6), sl6⟩) (c6 : PySem.W.codeIn K cd6 "rows_of" = true) (k6 : PySem.W.keepIn K (.ref f6) = true)
    (a7 : PySem.W.nsIn K mainGlobals "gap" = some (some (.ref f7))) (l7 : K.lookup f7 = some ⟨oc7, od7, .func (PySem.W.fnOf "gap" "gap" (defArgs s_gap) (defBody s_gap) (defScope s_gap) .none kV7 dc7 pm7 an7 cd7 ct7), sl7⟩) (c7 : PySem.W.codeIn K cd7 "gap" = true) (k7 : PySem.W.keepIn K (.ref f7) = true)
    (a8 : PySem.W.nsIn K mainGlobals "marks_of" = some (some (.ref f8))) (l8 : K.lookup f8 = some ⟨oc8, od8, .func (PySem.W.fnOf "marks_of" "marks_of" (defArgs s_marks_of) (defBody s_marks_of) (defScope s_marks_of) .none kV8 dc8 pm8 an8 cd8 ct8), sl8⟩) (c8 : PySem.W.codeIn K cd8 "marks_of" = true) (k8 : PySem.W.keepIn K (.ref f8) = true)
    (a9 : PySem.W.nsIn K mainGlobals "place_like" = some (some (.ref f9))) (l9 : K.lookup f9 = some ⟨oc9, od9, .func (PySem.W.fnOf "place_like" "place_like" (defArgs s_place_like) (defBody s_place_like) (defScope s_place_like) .none kV9 dc9 pm9 an9 cd9 ct9), sl9⟩) (c9 : PySem.W.codeIn K cd9 "place_like" = true) (k9 : PySem.W.keepIn K (.ref f9) = true)
    (a10 : PySem.W.nsIn K mainGlobals "stranger" = some (some (.ref f10))) (l10 : K.lookup f10 = some ⟨oc10, od10, .func (PySem.W.fnOf "stranger" "stranger" (defArgs s_stranger) (defBody s_stranger) (defScope s_stranger) .none kV10 dc10 pm10 an10 cd10 ct10), sl10⟩) (c10 : PySem.W.codeIn K cd10 "stranger" = true) (k10 : PySem.W.keepIn K (.ref f10) = true)
    (a11 : PySem.W.nsIn K mainGlobals "numbered" = some (some (.ref f11))) (l11 : K.lookup f11 = some ⟨oc11, od11, .func (PySem.W.fnOf "numbered" "numbered" (defArgs s_numbered) (defBody s_numbered) (defScope s_numbered) .none kV11 dc11 pm11 an11 cd11 ct11), sl11⟩) (c11 : PySem.W.codeIn K cd11 "numbered" = true) (k11 : PySem.W.keepIn K (.ref f11) = true)
    (a12 : PySem.W.nsIn K mainGlobals "sorted_out" = some (some (.ref f12))) (l12 : K.lookup f12 = some ⟨oc12, od12, .func (PySem.W.fnOf "sorted_out" "sorted_out" (defArgs s_sorted_out) (defBody s_sorted_out) (defScope s_sorted_out) .none kV12 dc12 pm12 an12 cd12 ct12), sl12⟩) (c12 : PySem.W.codeIn K cd12 "sorted_out" = true) (k12 : PySem.W.keepIn K (.ref f12) = true)
    (a13 : PySem.W.nsIn K mainGlobals "reached" = some (some (.ref f13))) (l13 : K.lookup f13 = some ⟨oc13, od13, .func (PySem.W.fnOf "reached" "reached" (defArgs s_reached) (defBody s_reached) (defScope s_reached) .none kV13 dc13 pm13 an13 cd13 ct13), sl13⟩) (c13 : PySem.W.codeIn K cd13 "reached" = true) (k13 : PySem.W.keepIn K (.ref f13) = true)
    (a14 : PySem.W.nsIn K mainGlobals "homes" = some (some (.ref f14))) (l14 : K.lookup f14 = some ⟨oc14, od14, .func (PySem.W.fnOf "homes" "homes" (defArgs s_homes) (defBody s_homes) (defScope s_homes) .none kV14 dc14 pm14 an14 cd14 ct14), sl14⟩) (c14 : PySem.W.codeIn K cd14 "homes" = true) (k14 : PySem.W.keepIn K (.ref f14) = true)
    (a15 : PySem.W.nsIn K mainGlobals "least" = some (some (.ref f15))) (l15 : K.lookup f15 = some ⟨oc15, od15, .func (PySem.W.fnOf "least" "least" (defArgs s_least) (defBody s_least) (defScope s_least) .none kV15 dc15 pm15 an15 cd15 ct15), sl15⟩) (c15 : PySem.W.codeIn K cd15 "least" = true) (k15 : PySem.W.keepIn K (.ref f15) = true)
    (a16 : PySem.W.nsIn K mainGlobals "said" = some (some (.ref f16))) (l16 : K.lookup f16 = some ⟨oc16, od16, .func (PySem.W.fnOf "said" "said" (defArgs s_said) (defBody s_said) (defScope s_said) .none kV16 dc16 pm16 an16 cd16 ct16), sl16⟩) (c16 : PySem.W.codeIn K cd16 "said" = true) (k16 : PySem.W.keepIn K (.ref f16) = true)
    (a17 : PySem.W.nsIn K mainGlobals "last_said" = some (some (.ref f17))) (l17 : K.lookup f17 = some ⟨oc17, od17, .func (PySem.W.fnOf "last_said" "last_said" (defArgs s_last_said) (defBody s_last_said) (defScope s_last_said) .none kV17 dc17 pm17 an17 cd17 ct17), sl17⟩) (c17 : PySem.W.codeIn K cd17 "last_said" = true) (k17 : PySem.W.keepIn K (.ref f17) = true)
    (a18 : PySem.W.nsIn K mainGlobals "marked_rows" = some (some (.ref f18))) (l18 : K.lookup f18 = some ⟨oc18, od18, .func (PySem.W.fnOf "marked_rows" "marked_rows" (defArgs s_marked_rows) (defBody s_marked_rows) (defScope s_marked_rows) .none kV18 dc18 pm18 an18 cd18 ct18), sl18⟩) (c18 : PySem.W.codeIn K cd18 "marked_rows" = true) (k18 : PySem.W.keepIn K (.ref f18) = true)
    (a19 : PySem.W.nsIn K mainGlobals "says_least" = some (some (.ref f19))) (l19 : K.lookup f19 = some ⟨oc19, od19, .func (PySem.W.fnOf "says_least" "says_least" (defArgs s_says_least) (defBody s_says_least) (defScope s_says_least) .none kV19 dc19 pm19 an19 cd19 ct19), sl19⟩) (c19 : PySem.W.codeIn K cd19 "says_least" = true) (k19 : PySem.W.keepIn K (.ref f19) = true)
    (a20 : PySem.W.nsIn K mainGlobals "row_places" = some (some (.ref f20))) (l20 : K.lookup f20 = some ⟨oc20, od20, .func (PySem.W.fnOf "row_places" "row_places" (defArgs s_row_places) (defBody s_row_places) (defScope s_row_places) .none kV20 dc20 pm20 an20 cd20 ct20), sl20⟩) (c20 : PySem.W.codeIn K cd20 "row_places" = true) (k20 : PySem.W.keepIn K (.ref f20) = true)
    (a21 : PySem.W.nsIn K mainGlobals "says_guess" = some (some (.ref f21))) (l21 : K.lookup f21 = some ⟨oc21, od21, .func (PySem.W.fnOf "says_guess" "says_guess" (defArgs s_says_guess) (defBody s_says_guess) (defScope s_says_guess) .none kV21 dc21 pm21 an21 cd21 ct21), sl21⟩) (c21 : PySem.W.codeIn K cd21 "says_guess" = true) (k21 : PySem.W.keepIn K (.ref f21) = true)
    (a22 : PySem.W.nsIn K mainGlobals "room_reached" = some (some (.ref f22))) (l22 : K.lookup f22 = some ⟨oc22, od22, .func (PySem.W.fnOf "room_reached" "room_reached" (defArgs s_room_reached) (defBody s_room_reached) (defScope s_room_reached) .none kV22 dc22 pm22 an22 cd22 ct22), sl22⟩) (c22 : PySem.W.codeIn K cd22 "room_reached" = true) (k22 : PySem.W.keepIn K (.ref f22) = true)
    (a23 : PySem.W.findIn K (.ref CA) "__init__" = some (some (.ref f23))) (i23 : PySem.W.isFn K (.ref f23) = true) (l23 : K.lookup f23 = some ⟨oc23, od23, .func (PySem.W.fnOf "__init__" "SayAsker.__init__" (defArgs s_SayAsker_init) (defBody s_SayAsker_init) (defScope s_SayAsker_init) .none kV23 dc23 pm23 an23 cd23 ct23), sl23⟩) (c23 : PySem.W.codeIn K cd23 "SayAsker.__init__" = true) (k23 : PySem.W.keepIn K (.ref f23) = true)
    (a24 : PySem.W.findIn K (.ref CA) "wants" = some (some (.ref f24))) (i24 : PySem.W.isFn K (.ref f24) = true) (l24 : K.lookup f24 = some ⟨oc24, od24, .func (PySem.W.fnOf "wants" "SayAsker.wants" (defArgs s_SayAsker_wants) (defBody s_SayAsker_wants) (defScope s_SayAsker_wants) .none kV24 dc24 pm24 an24 cd24 ct24), sl24⟩) (c24 : PySem.W.codeIn K cd24 "SayAsker.wants" = true) (k24 : PySem.W.keepIn K (.ref f24) = true)
    (a25 : PySem.W.findIn K (.ref CA) "access" = some (some (.ref f25))) (i25 : PySem.W.isFn K (.ref f25) = true) (l25 : K.lookup f25 = some ⟨oc25, od25, .func (PySem.W.fnOf "access" "SayAsker.access" (defArgs s_SayAsker_access) (defBody s_SayAsker_access) (defScope s_SayAsker_access) .none kV25 dc25 pm25 an25 cd25 ct25), sl25⟩) (c25 : PySem.W.codeIn K cd25 "SayAsker.access" = true) (k25 : PySem.W.keepIn K (.ref f25) = true)
    (a26 : PySem.W.findIn K (.ref CA) "tellers" = some (some (.ref f26))) (i26 : PySem.W.isFn K (.ref f26) = true) (l26 : K.lookup f26 = some ⟨oc26, od26, .func (PySem.W.fnOf "tellers" "SayAsker.tellers" (defArgs s_SayAsker_tellers) (defBody s_SayAsker_tellers) (defScope s_SayAsker_tellers) .none kV26 dc26 pm26 an26 cd26 ct26), sl26⟩) (c26 : PySem.W.codeIn K cd26 "SayAsker.tellers" = true) (k26 : PySem.W.keepIn K (.ref f26) = true)
    (a27 : PySem.W.findIn K (.ref CA) "heard" = some (some (.ref f27))) (i27 : PySem.W.isFn K (.ref f27) = true) (l27 : K.lookup f27 = some ⟨oc27, od27, .func (PySem.W.fnOf "heard" "SayAsker.heard" (defArgs s_SayAsker_heard) (defBody s_SayAsker_heard) (defScope s_SayAsker_heard) .none kV27 dc27 pm27 an27 cd27 ct27), sl27⟩) (c27 : PySem.W.codeIn K cd27 "SayAsker.heard" = true) (k27 : PySem.W.keepIn K (.ref f27) = true)
    (a28 : PySem.W.findIn K (.ref CA) "hear" = some (some (.ref f28))) (i28 : PySem.W.isFn K (.ref f28) = true) (l28 : K.lookup f28 = some ⟨oc28, od28, .func (PySem.W.fnOf "hear" "SayAsker.hear" (defArgs s_SayAsker_hear) (defBody s_SayAsker_hear) (defScope s_SayAsker_hear) .none kV28 dc28 pm28 an28 cd28 ct28), sl28⟩) (c28 : PySem.W.codeIn K cd28 "SayAsker.hear" = true) (k28 : PySem.W.keepIn K (.ref f28) = true)
    (a29 : PySem.W.findIn K (.ref CA) "agree" = some (some (.ref f29))) (i29 : PySem.W.isFn K (.ref f29) = true) (l29 : K.lookup f29 = some ⟨oc29, od29, .func (PySem.W.fnOf "agree" "SayAsker.agree" (defArgs s_SayAsker_agree) (defBody s_SayAsker_agree) (defScope s_SayAsker_agree) .none kV29 dc29 pm29 an29 cd29 ct29), sl29⟩) (c29 : PySem.W.codeIn K cd29 "SayAsker.agree" = true) (k29 : PySem.W.keepIn K (.ref f29) = true)
    (a30 : PySem.W.findIn K (.ref CA) "differ" = some (some (.ref f30))) (i30 : PySem.W.isFn K (.ref f30) = true) (l30 : K.lookup f30 = some ⟨oc30, od30, .func (PySem.W.fnOf "differ" "SayAsker.differ" (defArgs s_SayAsker_differ) (defBody s_SayAsker_differ) (defScope s_SayAsker_differ) .none kV30 dc30 pm30 an30 cd30 ct30), sl30⟩) (c30 : PySem.W.codeIn K cd30 "SayAsker.differ" = true) (k30 : PySem.W.keepIn K (.ref f30) = true)
    (a31 : PySem.W.findIn K (.ref CA) "settle" = some (some (.ref f31))) (i31 : PySem.W.isFn K (.ref f31) = true) (l31 : K.lookup f31 = some ⟨oc31, od31, .func (PySem.W.fnOf "settle" "SayAsker.settle" (defArgs s_SayAsker_settle) (defBody s_SayAsker_settle) (defScope s_SayAsker_settle) .none kV31 dc31 pm31 an31 cd31 ct31), sl31⟩) (c31 : PySem.W.codeIn K cd31 "SayAsker.settle" = true) (k31 : PySem.W.keepIn K (.ref f31) = true)
    (a32 : PySem.W.findIn K (.ref CA) "one_step" = some (some (.ref f32))) (i32 : PySem.W.isFn K (.ref f32) = true) (l32 : K.lookup f32 = some ⟨oc32, od32, .func (PySem.W.fnOf "one_step" "SayAsker.one_step" (defArgs s_SayAsker_one_step) (defBody s_SayAsker_one_step) (defScope s_SayAsker_one_step) .none kV32 dc32 pm32 an32 cd32 ct32), sl32⟩) (c32 : PySem.W.codeIn K cd32 "SayAsker.one_step" = true) (k32 : PySem.W.keepIn K (.ref f32) = true)
    (a33 : PySem.W.findIn K (.ref CA) "take_in" = some (some (.ref f33))) (i33 : PySem.W.isFn K (.ref f33) = true) (l33 : K.lookup f33 = some ⟨oc33, od33, .func (PySem.W.fnOf "take_in" "SayAsker.take_in" (defArgs s_SayAsker_take_in) (defBody s_SayAsker_take_in) (defScope s_SayAsker_take_in) .none kV33 dc33 pm33 an33 cd33 ct33), sl33⟩) (c33 : PySem.W.codeIn K cd33 "SayAsker.take_in" = true) (k33 : PySem.W.keepIn K (.ref f33) = true)
    (a34 : PySem.W.findIn K (.ref CA) "hunt_step" = some (some (.ref f34))) (i34 : PySem.W.isFn K (.ref f34) = true) (l34 : K.lookup f34 = some ⟨oc34, od34, .func (PySem.W.fnOf "hunt_step" "SayAsker.hunt_step" (defArgs s_SayAsker_hunt_step) (defBody s_SayAsker_hunt_step) (defScope s_SayAsker_hunt_step) .none kV34 dc34 pm34 an34 cd34 ct34), sl34⟩) (c34 : PySem.W.codeIn K cd34 "SayAsker.hunt_step" = true) (k34 : PySem.W.keepIn K (.ref f34) = true)
    (a35 : PySem.W.nsIn K mainGlobals "_law_cell" = some (some (.ref f35))) (l35 : K.lookup f35 = some ⟨oc35, od35, .func (PySem.W.fnOf "_law_cell" "_law_cell" (defArgs s_law_cell) (defBody s_law_cell) (defScope s_law_cell) .none kV35 dc35 pm35 an35 cd35 ct35), sl35⟩) (c35 : PySem.W.codeIn K cd35 "_law_cell" = true) (k35 : PySem.W.keepIn K (.ref f35) = true)
    (a36 : PySem.W.nsIn K mainGlobals "_law_whole" = some (some (.ref f36))) (l36 : K.lookup f36 = some ⟨oc36, od36, .func (PySem.W.fnOf "_law_whole" "_law_whole" (defArgs s_law_whole) (defBody s_law_whole) (defScope s_law_whole) .none kV36 dc36 pm36 an36 cd36 ct36), sl36⟩) (c36 : PySem.W.codeIn K cd36 "_law_whole" = true) (k36 : PySem.W.keepIn K (.ref f36) = true)
    (a37 : PySem.W.nsIn K mainGlobals "_law_big" = some (some (.ref f37))) (l37 : K.lookup f37 = some ⟨oc37, od37, .func (PySem.W.fnOf "_law_big" "_law_big" (defArgs s_law_big) (defBody s_law_big) (defScope s_law_big) .none kV37 dc37 pm37 an37 cd37 ct37), sl37⟩) (c37 : PySem.W.codeIn K cd37 "_law_big" = true) (k37 : PySem.W.keepIn K (.ref f37) = true)
    (a38 : PySem.W.nsIn K mainGlobals "_law_mark" = some (some (.ref f38))) (l38 : K.lookup f38 = some ⟨oc38, od38, .func (PySem.W.fnOf "_law_mark" "_law_mark" (defArgs s_law_mark) (defBody s_law_mark) (defScope s_law_mark) .none kV38 dc38 pm38 an38 cd38 ct38), sl38⟩) (c38 : PySem.W.codeIn K cd38 "_law_mark" = true) (k38 : PySem.W.keepIn K (.ref f38) = true)
    (a39 : PySem.W.nsIn K mainGlobals "_law_says" = some (some (.ref f39))) (l39 : K.lookup f39 = some ⟨oc39, od39, .func (PySem.W.fnOf "_law_says" "_law_says" (defArgs s_law_says) (defBody s_law_says) (defScope s_law_says) .none kV39 dc39 pm39 an39 cd39 ct39), sl39⟩) (c39 : PySem.W.codeIn K cd39 "_law_says" = true) (k39 : PySem.W.keepIn K (.ref f39) = true)
    (a40 : PySem.W.nsIn K mainGlobals "_law_rows_are" = some (some (.ref f40))) (l40 : K.lookup f40 = some ⟨oc40, od40, .func (PySem.W.fnOf "_law_rows_are" "_law_rows_are" (defArgs s_law_rows_are) (defBody s_law_rows_are) (defScope s_law_rows_are) .none kV40 dc40 pm40 an40 cd40 ct40), sl40⟩) (c40 : PySem.W.codeIn K cd40 "_law_rows_are" = true) (k40 : PySem.W.keepIn K (.ref f40) = true)
    (a41 : PySem.W.nsIn K mainGlobals "_law_house_is" = some (some (.ref f41))) (l41 : K.lookup f41 = some ⟨oc41, od41, .func (PySem.W.fnOf "_law_house_is" "_law_house_is" (defArgs s_law_house_is) (defBody s_law_house_is) (defScope s_law_house_is) .none kV41 dc41 pm41 an41 cd41 ct41), sl41⟩) (c41 : PySem.W.codeIn K cd41 "_law_house_is" = true) (k41 : PySem.W.keepIn K (.ref f41) = true)
    (a42 : PySem.W.nsIn K mainGlobals "_law_talk" = some (some (.ref f42))) (l42 : K.lookup f42 = some ⟨oc42, od42, .func (PySem.W.fnOf "_law_talk" "_law_talk" (defArgs s_law_talk) (defBody s_law_talk) (defScope s_law_talk) .none kV42 dc42 pm42 an42 cd42 ct42), sl42⟩) (c42 : PySem.W.codeIn K cd42 "_law_talk" = true) (k42 : PySem.W.keepIn K (.ref f42) = true)
    (a43 : PySem.W.nsIn K mainGlobals "_law_is_word" = some (some (.ref f43))) (l43 : K.lookup f43 = some ⟨oc43, od43, .func (PySem.W.fnOf "_law_is_word" "_law_is_word" (defArgs s_law_is_word) (defBody s_law_is_word) (defScope s_law_is_word) .none kV43 dc43 pm43 an43 cd43 ct43), sl43⟩) (c43 : PySem.W.codeIn K cd43 "_law_is_word" = true) (k43 : PySem.W.keepIn K (.ref f43) = true)
    (a44 : PySem.W.nsIn K mainGlobals "_law_pairs" = some (some (.ref f44))) (l44 : K.lookup f44 = some ⟨oc44, od44, .func (PySem.W.fnOf "_law_pairs" "_law_pairs" (defArgs s_law_pairs) (defBody s_law_pairs) (defScope s_law_pairs) .none kV44 dc44 pm44 an44 cd44 ct44), sl44⟩) (c44 : PySem.W.codeIn K cd44 "_law_pairs" = true) (k44 : PySem.W.keepIn K (.ref f44) = true)
    (a45 : PySem.W.nsIn K mainGlobals "_law_unlike_words" = some (some (.ref f45))) (l45 : K.lookup f45 = some ⟨oc45, od45, .func (PySem.W.fnOf "_law_unlike_words" "_law_unlike_words" (defArgs s_law_unlike_words) (defBody s_law_unlike_words) (defScope s_law_unlike_words) .none kV45 dc45 pm45 an45 cd45 ct45), sl45⟩) (c45 : PySem.W.codeIn K cd45 "_law_unlike_words" = true) (k45 : PySem.W.keepIn K (.ref f45) = true)
    (a46 : PySem.W.nsIn K mainGlobals "_law_words_good" = some (some (.ref f46))) (l46 : K.lookup f46 = some ⟨oc46, od46, .func (PySem.W.fnOf "_law_words_good" "_law_words_good" (defArgs s_law_words_good) (defBody s_law_words_good) (defScope s_law_words_good) .none kV46 dc46 pm46 an46 cd46 ct46), sl46⟩) (c46 : PySem.W.codeIn K cd46 "_law_words_good" = true) (k46 : PySem.W.keepIn K (.ref f46) = true)
    (a47 : PySem.W.nsIn K mainGlobals "_law_access_good" = some (some (.ref f47))) (l47 : K.lookup f47 = some ⟨oc47, od47, .func (PySem.W.fnOf "_law_access_good" "_law_access_good" (defArgs s_law_access_good) (defBody s_law_access_good) (defScope s_law_access_good) .none kV47 dc47 pm47 an47 cd47 ct47), sl47⟩) (c47 : PySem.W.codeIn K cd47 "_law_access_good" = true) (k47 : PySem.W.keepIn K (.ref f47) = true)
    (a48 : PySem.W.nsIn K mainGlobals "_law_ends_good" = some (some (.ref f48))) (l48 : K.lookup f48 = some ⟨oc48, od48, .func (PySem.W.fnOf "_law_ends_good" "_law_ends_good" (defArgs s_law_ends_good) (defBody s_law_ends_good) (defScope s_law_ends_good) .none kV48 dc48 pm48 an48 cd48 ct48), sl48⟩) (c48 : PySem.W.codeIn K cd48 "_law_ends_good" = true) (k48 : PySem.W.keepIn K (.ref f48) = true)
    (a49 : PySem.W.nsIn K mainGlobals "_law_marks" = some (some (.ref f49))) (l49 : K.lookup f49 = some ⟨oc49, od49, .func (PySem.W.fnOf "_law_marks" "_law_marks" (defArgs s_law_marks) (defBody s_law_marks) (defScope s_law_marks) .none kV49 dc49 pm49 an49 cd49 ct49), sl49⟩) (c49 : PySem.W.codeIn K cd49 "_law_marks" = true) (k49 : PySem.W.keepIn K (.ref f49) = true)
    (a50 : PySem.W.nsIn K mainGlobals "_law_due_guess" = some (some (.ref f50))) (l50 : K.lookup f50 = some ⟨oc50, od50, .func (PySem.W.fnOf "_law_due_guess" "_law_due_guess" (defArgs s_law_due_guess) (defBody s_law_due_guess) (defScope s_law_due_guess) .none kV50 dc50 pm50 an50 cd50 ct50), sl50⟩) (c50 : PySem.W.codeIn K cd50 "_law_due_guess" = true) (k50 : PySem.W.keepIn K (.ref f50) = true)
    (a51 : PySem.W.nsIn K mainGlobals "_law_guess_good" = some (some (.ref f51))) (l51 : K.lookup f51 = some ⟨oc51, od51, .func (PySem.W.fnOf "_law_guess_good" "_law_guess_good" (defArgs s_law_guess_good) (defBody s_law_guess_good) (defScope s_law_guess_good) .none kV51 dc51 pm51 an51 cd51 ct51), sl51⟩) (c51 : PySem.W.codeIn K cd51 "_law_guess_good" = true) (k51 : PySem.W.keepIn K (.ref f51) = true)
    (a52 : PySem.W.nsIn K mainGlobals "_law_grows" = some (some (.ref f52))) (l52 : K.lookup f52 = some ⟨oc52, od52, .func (PySem.W.fnOf "_law_grows" "_law_grows" (defArgs s_law_grows) (defBody s_law_grows) (defScope s_law_grows) .none kV52 dc52 pm52 an52 cd52 ct52), sl52⟩) (c52 : PySem.W.codeIn K cd52 "_law_grows" = true) (k52 : PySem.W.keepIn K (.ref f52) = true)
    (a53 : PySem.W.nsIn K mainGlobals "_law_wish_good" = some (some (.ref f53))) (l53 : K.lookup f53 = some ⟨oc53, od53, .func (PySem.W.fnOf "_law_wish_good" "_law_wish_good" (defArgs s_law_wish_good) (defBody s_law_wish_good) (defScope s_law_wish_good) .none kV53 dc53 pm53 an53 cd53 ct53), sl53⟩) (c53 : PySem.W.codeIn K cd53 "_law_wish_good" = true) (k53 : PySem.W.keepIn K (.ref f53) = true)
    (a54 : PySem.W.nsIn K mainGlobals "_law_end_good" = some (some (.ref f54))) (l54 : K.lookup f54 = some ⟨oc54, od54, .func (PySem.W.fnOf "_law_end_good" "_law_end_good" (defArgs s_law_end_good) (defBody s_law_end_good) (defScope s_law_end_good) .none kV54 dc54 pm54 an54 cd54 ct54), sl54⟩) (c54 : PySem.W.codeIn K cd54 "_law_end_good" = true) (k54 : PySem.W.keepIn K (.ref f54) = true)
    (a55 : PySem.W.nsIn K mainGlobals "_law_objection" = some (some (.ref f55))) (l55 : K.lookup f55 = some ⟨oc55, od55, .func (PySem.W.fnOf "_law_objection" "_law_objection" (defArgs s_law_objection) (defBody s_law_objection) (defScope s_law_objection) .none kV55 dc55 pm55 an55 cd55 ct55), sl55⟩) (c55 : PySem.W.codeIn K cd55 "_law_objection" = true) (k55 : PySem.W.keepIn K (.ref f55) = true)
    (a56 : PySem.W.nsIn K mainGlobals "_law_shown" = some (some (.ref f56))) (l56 : K.lookup f56 = some ⟨oc56, od56, .func (PySem.W.fnOf "_law_shown" "_law_shown" (defArgs s_law_shown) (defBody s_law_shown) (defScope s_law_shown) .none kV56 dc56 pm56 an56 cd56 ct56), sl56⟩) (c56 : PySem.W.codeIn K cd56 "_law_shown" = true) (k56 : PySem.W.keepIn K (.ref f56) = true)
    (a57 : PySem.W.nsIn K mainGlobals "_law_hunt" = some (some (.ref f57))) (l57 : K.lookup f57 = some ⟨oc57, od57, .func (PySem.W.fnOf "_law_hunt" "_law_hunt" (defArgs s_law_hunt) (defBody s_law_hunt) (defScope s_law_hunt) .none kV57 dc57 pm57 an57 cd57 ct57), sl57⟩) (c57 : PySem.W.codeIn K cd57 "_law_hunt" = true) (k57 : PySem.W.keepIn K (.ref f57) = true)
    (a58 : PySem.W.nsIn K mainGlobals "law" = some (some (.ref f58))) (l58 : K.lookup f58 = some ⟨oc58, od58, .func (PySem.W.fnOf "law" "law" (defArgs s_law) (defBody s_law) (defScope s_law) .none kV58 dc58 pm58 an58 cd58 ct58), sl58⟩) (c58 : PySem.W.codeIn K cd58 "law" = true) (k58 : PySem.W.keepIn K (.ref f58) = true)
    (pgCB : PySem.W.plainGet K CB Str.empty = true) (hdCB : PySem.W.hasDictIn K CB = true) (poCB : PySem.W.plainOver K CB = true) (saCB : PySem.W.findIn K (.ref CB) "__setattr__" = some (some (.builtin "object.__setattr__"))) (mkCB : PySem.W.makesIn K CB = true) (kcCB : PySem.W.keepIn K (.ref CB) = true)
    (nCB_letters : PySem.W.findIn K (.ref CB) "letters" = some none)
    (nCB_marks : PySem.W.findIn K (.ref CB) "marks" = some none)
    (pgCA : PySem.W.plainGet K CA Str.empty = true) (hdCA : PySem.W.hasDictIn K CA = true) (poCA : PySem.W.plainOver K CA = true) (saCA : PySem.W.findIn K (.ref CA) "__setattr__" = some (some (.builtin "object.__setattr__"))) (mkCA : PySem.W.makesIn K CA = true) (kcCA : PySem.W.keepIn K (.ref CA) = true)
    (nCA_letters : PySem.W.findIn K (.ref CA) "letters" = some none)
    (nCA_most : PySem.W.findIn K (.ref CA) "most" = some none)
    (nCA_book : PySem.W.findIn K (.ref CA) "book" = some none)
    (nCA_firsts : PySem.W.findIn K (.ref CA) "firsts" = some none)
    (nCA_lasts : PySem.W.findIn K (.ref CA) "lasts" = some none)
    (nCA_hunting : PySem.W.findIn K (.ref CA) "hunting" = some none)
    (nCA_wish : PySem.W.findIn K (.ref CA) "wish" = some none)
    (zlen : PySem.W.nsIn K mainGlobals "len" = some none)
    (zrange : PySem.W.nsIn K mainGlobals "range" = some none)
    (zlist : PySem.W.nsIn K mainGlobals "list" = some none)
    (ztuple : PySem.W.nsIn K mainGlobals "tuple" = some none)
    (zmax : PySem.W.nsIn K mainGlobals "max" = some none)
    (zmin : PySem.W.nsIn K mainGlobals "min" = some none)
    (zisinstance : PySem.W.nsIn K mainGlobals "isinstance" = some none)
    (zint : PySem.W.nsIn K mainGlobals "int" = some none)
    (zbool : PySem.W.nsIn K mainGlobals "bool" = some none)
    {tkGREATEST : Tok} (gGREATEST : PySem.W.nsIn K mainGlobals "GREATEST" = some (some (.int 1000000000 tkGREATEST)))
    {tkMOST_MARK : Tok} (gMOST_MARK : PySem.W.nsIn K mainGlobals "MOST_MARK" = some (some (.int 1000000000 tkMOST_MARK)))
    : ∃ fd : FuncData, (∀ (s : Shared) (v : Value), BindsTo s fd ⟨[v], []⟩ [("script", v)]) ∧ ∀ base : Heap, K.In base → base.Ns mainGlobals mg → FnOk l.prog w K mg base CX0 12 fa fd ["script"] (spLaw K) := by
  refine law_head (CB := CB) (CA := CA) X hfa ?_
  constructor
  · exact tf_mk X G (fun _ _ _ _ _ _ us hl => match us, hl with | [_, _], _ => rfl) a0 l0 c0 k0
  · exact tf_mk X G (fun _ _ _ _ _ _ us hl => match us, hl with | [_, _, _], _ => rfl) a1 l1 c1 k1
  · exact tm_mk (fun _ _ _ _ _ _ us hl => match us, hl with | [_, _], _ => rfl) a2 i2 l2 c2 k2
  · exact tm_mk (fun _ _ _ _ _ _ us hl => match us, hl with | [_, _, _], _ => rfl) a3 i3 l3 c3 k3
  · exact tm_mk (fun _ _ _ _ _ _ us hl => match us, hl with | [_, _], _ => rfl) a4 i4 l4 c4 k4
  · exact tm_mk (fun _ _ _ _ _ _ us hl => match us, hl with | [_], _ => rfl) a5 i5 l5 c5 k5
  · exact tf_mk X G (fun _ _ _ _ _ _ us hl => match us, hl with | [_, _], _ => rfl) a6 l6 c6 k6
  · exact tf_mk X G (fun _ _ _ _ _ _ us hl => match us, hl with | [_, _, _, _], _ => rfl) a7 l7 c7 k7
  · exact tf_mk X G (fun _ _ _ _ _ _ us hl => match us, hl with | [_, _, _], _ => rfl) a8 l8 c8 k8
  · exact tf_mk X G (fun _ _ _ _ _ _ us hl => match us, hl with | [_, _, _, _], _ => rfl) a9 l9 c9 k9
  · exact tf_mk X G (fun _ _ _ _ _ _ us hl => match us, hl with | [_, _, _, _], _ => rfl) a10 l10 c10 k10
  · exact tf_mk X G (fun _ _ _ _ _ _ us hl => match us, hl with | [_], _ => rfl) a11 l11 c11 k11
  · exact tf_mk X G (fun _ _ _ _ _ _ us hl => match us, hl with | [_], _ => rfl) a12 l12 c12 k12
  · exact tf_mk X G (fun _ _ _ _ _ _ us hl => match us, hl with | [_], _ => rfl) a13 l13 c13 k13
  · exact tf_mk X G (fun _ _ _ _ _ _ us hl => match us, hl with | [_], _ => rfl) a14 l14 c14 k14
  · exact tf_mk X G (fun _ _ _ _ _ _ us hl => match us, hl with | [_], _ => rfl) a15 l15 c15 k15
  · exact tf_mk X G (fun _ _ _ _ _ _ us hl => match us, hl with | [_, _], _ => rfl) a16 l16 c16 k16
  · exact tf_mk X G (fun _ _ _ _ _ _ us hl => match us, hl with | [_, _], _ => rfl) a17 l17 c17 k17
  · exact tf_mk X G (fun _ _ _ _ _ _ us hl => match us, hl with | [_, _], _ => rfl) a18 l18 c18 k18
  · exact tf_mk X G (fun _ _ _ _ _ _ us hl => match us, hl with | [_], _ => rfl) a19 l19 c19 k19
  · exact tf_mk X G (fun _ _ _ _ _ _ us hl => match us, hl with | [_, _, _, _], _ => rfl) a20 l20 c20 k20
  · exact tf_mk X G (fun _ _ _ _ _ _ us hl => match us, hl with | [_, _, _, _], _ => rfl) a21 l21 c21 k21
  · exact tf_mk X G (fun _ _ _ _ _ _ us hl => match us, hl with | [_, _], _ => rfl) a22 l22 c22 k22
  · exact tm_mk (fun _ _ _ _ _ _ us hl => match us, hl with | [_, _, _], _ => rfl) a23 i23 l23 c23 k23
  · exact tm_mk (fun _ _ _ _ _ _ us hl => match us, hl with | [_], _ => rfl) a24 i24 l24 c24 k24
  · exact tm_mk (fun _ _ _ _ _ _ us hl => match us, hl with | [_], _ => rfl) a25 i25 l25 c25 k25
  · exact tm_mk (fun _ _ _ _ _ _ us hl => match us, hl with | [_], _ => rfl) a26 i26 l26 c26 k26
  · exact tm_mk (fun _ _ _ _ _ _ us hl => match us, hl with | [_], _ => rfl) a27 i27 l27 c27 k27
  · exact tm_mk (fun _ _ _ _ _ _ us hl => match us, hl with | [_, _], _ => rfl) a28 i28 l28 c28 k28
  · exact tm_mk (fun _ _ _ _ _ _ us hl => match us, hl with | [_], _ => rfl) a29 i29 l29 c29 k29
  · exact tm_mk (fun _ _ _ _ _ _ us hl => match us, hl with | [_, _, _], _ => rfl) a30 i30 l30 c30 k30
  · exact tm_mk (fun _ _ _ _ _ _ us hl => match us, hl with | [_], _ => rfl) a31 i31 l31 c31 k31
  · exact tm_mk (fun _ _ _ _ _ _ us hl => match us, hl with | [_], _ => rfl) a32 i32 l32 c32 k32
  · exact tm_mk (fun _ _ _ _ _ _ us hl => match us, hl with | [_, _], _ => rfl) a33 i33 l33 c33 k33
  · exact tm_mk (fun _ _ _ _ _ _ us hl => match us, hl with | [_], _ => rfl) a34 i34 l34 c34 k34
  · exact tf_mk X G (fun _ _ _ _ _ _ us hl => match us, hl with | [_, _], _ => rfl) a35 l35 c35 k35
  · exact tf_mk X G (fun _ _ _ _ _ _ us hl => match us, hl with | [_], _ => rfl) a36 l36 c36 k36
  · exact tf_mk X G (fun _ _ _ _ _ _ us hl => match us, hl with | [_, _], _ => rfl) a37 l37 c37 k37
  · exact tf_mk X G (fun _ _ _ _ _ _ us hl => match us, hl with | [_], _ => rfl) a38 l38 c38 k38
  · exact tf_mk X G (fun _ _ _ _ _ _ us hl => match us, hl with | [_, _, _, _], _ => rfl) a39 l39 c39 k39
  · exact tf_mk X G (fun _ _ _ _ _ _ us hl => match us, hl with | [_, _], _ => rfl) a40 l40 c40 k40
  · exact tf_mk X G (fun _ _ _ _ _ _ us hl => match us, hl with | [_, _], _ => rfl) a41 l41 c41 k41
  · exact tf_mk X G (fun _ _ _ _ _ _ us hl => match us, hl with | [_, _], _ => rfl) a42 l42 c42 k42
  · exact tf_mk X G (fun _ _ _ _ _ _ us hl => match us, hl with | [_, _], _ => rfl) a43 l43 c43 k43
  · exact tf_mk X G (fun _ _ _ _ _ _ us hl => match us, hl with | [_, _], _ => rfl) a44 l44 c44 k44
  · exact tf_mk X G (fun _ _ _ _ _ _ us hl => match us, hl with | [_, _], _ => rfl) a45 l45 c45 k45
  · exact tf_mk X G (fun _ _ _ _ _ _ us hl => match us, hl with | [_, _], _ => rfl) a46 l46 c46 k46
  · exact tf_mk X G (fun _ _ _ _ _ _ us hl => match us, hl with | [_, _], _ => rfl) a47 l47 c47 k47
  · exact tf_mk X G (fun _ _ _ _ _ _ us hl => match us, hl with | [_, _], _ => rfl) a48 l48 c48 k48
  · exact tf_mk X G (fun _ _ _ _ _ _ us hl => match us, hl with | [_, _, _], _ => rfl) a49 l49 c49 k49
  · exact tf_mk X G (fun _ _ _ _ _ _ us hl => match us, hl with | [_, _, _, _], _ => rfl) a50 l50 c50 k50
  · exact tf_mk X G (fun _ _ _ _ _ _ us hl => match us, hl with | [_, _, _, _], _ => rfl) a51 l51 c51 k51
  · exact tf_mk X G (fun _ _ _ _ _ _ us hl => match us, hl with | [_, _, _], _ => rfl) a52 l52 c52 k52
  · exact tf_mk X G (fun _ _ _ _ _ _ us hl => match us, hl with | [_, _, _], _ => rfl) a53 l53 c53 k53
  · exact tf_mk X G (fun _ _ _ _ _ _ us hl => match us, hl with | [_, _, _, _, _], _ => rfl) a54 l54 c54 k54
  · exact tf_mk X G (fun _ _ _ _ _ _ us hl => match us, hl with | [_, _, _, _, _], _ => rfl) a55 l55 c55 k55
  · exact tf_mk X G (fun _ _ _ _ _ _ us hl => match us, hl with | [_, _, _, _, _, _], _ => rfl) a56 l56 c56 k56
  · exact tf_mk X G (fun _ _ _ _ _ _ us hl => match us, hl with | [_, _, _, _, _, _], _ => rfl) a57 l57 c57 k57
  · exact tf_mk X G (fun _ _ _ _ _ _ us hl => match us, hl with | [_], _ => rfl) a58 l58 c58 k58
  · exact ⟨pgCB, hdCB, poCB, saCB⟩
  · exact PySem.W.mg_of X G aCB
  · exact mkCB
  · exact kcCB
  · exact nCB_letters
  · exact nCB_marks
  · exact ⟨pgCA, hdCA, poCA, saCA⟩
  · exact PySem.W.mg_of X G aCA
  · exact mkCA
  · exact kcCA
  · exact nCA_letters
  · exact nCA_most
  · exact nCA_book
  · exact nCA_firsts
  · exact nCA_lasts
  · exact nCA_hunting
  · exact nCA_wish
  · exact PySem.W.mg_none_of X G zlen
  · exact PySem.W.mg_none_of X G zrange
  · exact PySem.W.mg_none_of X G zlist
  · exact PySem.W.mg_none_of X G ztuple
  · exact PySem.W.mg_none_of X G zmax
  · exact PySem.W.mg_none_of X G zmin
  · exact PySem.W.mg_none_of X G zisinstance
  · exact PySem.W.mg_none_of X G zint
  · exact PySem.W.mg_none_of X G zbool
  · exact ⟨_, PySem.W.mg_of X G gGREATEST⟩
  · exact ⟨_, PySem.W.mg_of X G gMOST_MARK⟩
theorem walk {l : PySem.W.OpenLaw} {q : Program} {loose : List Str} {XP : (Str → Option Value) → Heap → Prop} {YP : World → Heap → Prop} {d : DefRec} {K : Params → PySem.W.Frag} (hn : l.most = some 63) (hdf : d.params.defaults = [])
    (hY : ∀ (w : World) (h : Heap), YP w h → (K w.params).In h)
    (F : ∀ (w : World) (mg : Str → Option Value) (fa : Addr) (h : Heap), (K w.params).In h → h.Ns mainGlobals mg → mg d.name = some (.ref fa) →
      ∃ fd : FuncData, (∀ (s : Shared) (u : Value), BindsTo s fd ⟨[u], []⟩ [("script", u)]) ∧ ∀ base : Heap, (K w.params).In base → base.Ns mainGlobals mg → FnOk l.prog w (K w.params) mg base CX0 12 fa fd ["script"] (spLaw (K w.params))) :
    PySem.W.WalkO q loose XP YP l.row.toRowW d [] (fun f vs => PySem.call f vs) :=
  L2.walk_of (n := 63) (k := 12) (x := "script") (CX := fun _ => CX0) (sp := fun w => spLaw (K w.params)) hn (by decide) hdf ⟨rfl, by decide, by decide⟩ hY F (fun _ _ a ns hl _ hS => ⟨a, ns, rfl, hS, hl, fun _ => rfl⟩) fun _ _ _ _ _ z => z
end Gr
open PySem PySem.W PyProof.Rows
set_option maxRecDepth 100000 in
set_option maxHeartbeats 0 in
theorem PySem.Challenge.cw_guessroom_k58_whole_say_hunt_holds : PySem.Challenge.rw_guessroom_k58_whole_say_hunt.Holds := by
  w_on; o_law; k_head; (case hw => w_witness2)
  k_fill
  refine Gr.walk (l := PySem.Challenge.rw_guessroom_k58_whole_say_hunt) rfl rfl (fun w h Y => PySem.W.kIn_of Y) ?F
  case F =>
    intro w mg fa h KX G hmg
    refine' Gr.all_mk KX G ?aCB ?aCA hmg ?a0 ?l0 ?c0 ?k0 ?a1 ?l1 ?c1 ?k1 ?a2 ?i2 ?l2 ?c2 ?k2 ?a3 ?i3 ?l3 ?c3 ?k3 ?a4 ?i4 ?l4 ?c4 ?k4 ?a5 ?i5 ?l5 ?c5 ?k5 ?a6 ?l6 ?c6 ?k6 ?a7 ?l7 ?c7 ?k7 ?a8 ?l8 ?c8 ?k8 ?a9 ?l9 ?c9 ?k9 ?a10 ?l10 ?c10 ?k10 ?a11 ?l11 ?c11 ?k11 ?a12 ?l12 ?c12 ?k12 ?a13 ?l13 ?c13 ?k13 ?a14 ?l14 ?c14 ?k14 ?a15 ?l15 ?c15 ?k15 ?a16 ?l16 ?c16 ?k16 ?a17 ?l17 ?c17 ?k17 ?a18 ?l18 ?c18 ?k18 ?a19 ?l19 ?c19 ?k19 ?a20 ?l20 ?c20 ?k20 ?a21 ?l21 ?c21 ?k21 ?a22 ?l22 ?c22 ?k22 ?a23 ?i23 ?l23 ?c23 ?k23 ?a24 ?i24 ?l24 ?c24 ?k24 ?a25 ?i25 ?l25 ?c25 ?k25 ?a26 ?i26 ?l26 ?c26 ?k26 ?a27 ?i27 ?l27 ?c27 ?k27 ?a28 ?i28 ?l28 ?c28 ?k28 ?a29 ?i29 ?l29 ?c29 ?k29 ?a30 ?i30 ?l30 ?c30 ?k30 ?a31 ?i31 ?l31 ?c31 ?k31 ?a32 ?i32 ?l32 ?c32 ?k32 ?a33 ?i33 ?l33 ?c33 ?k33 ?a34 ?i34 ?l34 ?c34 ?k34 ?a35 ?l35 ?c35 ?k35 ?a36 ?l36 ?c36 ?k36 ?a37 ?l37 ?c37 ?k37 ?a38 ?l38 ?c38 ?k38 ?a39 ?l39 ?c39 ?k39 ?a40 ?l40 ?c40 ?k40 ?a41 ?l41 ?c41 ?k41 ?a42 ?l42 ?c42 ?k42 ?a43 ?l43 ?c43 ?k43 ?a44 ?l44 ?c44 ?k44 ?a45 ?l45 ?c45 ?k45 ?a46 ?l46 ?c46 ?k46 ?a47 ?l47 ?c47 ?k47 ?a48 ?l48 ?c48 ?k48 ?a49 ?l49 ?c49 ?k49 ?a50 ?l50 ?c50 ?k50 ?a51 ?l51 ?c51 ?k51 ?a52 ?l52 ?c52 ?k52 ?a53 ?l53 ?c53 ?k53 ?a54 ?l54 ?c54 ?k54 ?a55 ?l55 ?c55 ?k55 ?a56 ?l56 ?c56 ?k56 ?a57 ?l57 ?c57 ?k57 ?a58 ?l58 ?c58 ?k58 ?pgCB ?hdCB ?poCB ?saCB ?mkCB ?kcCB ?nCB_letters ?nCB_marks ?pgCA ?hdCA ?poCA ?saCA ?mkCA ?kcCA ?nCA_letters ?nCA_most ?nCA_book ?nCA_firsts ?nCA_lasts ?nCA_hunting ?nCA_wish ?zlen ?zrange ?zlist ?ztuple ?zmax ?zmin ?zisinstance ?zint ?zbool ?gGREATEST ?gMOST_MARK
    (case aCB => k_is)
    (case aCA => k_is)
    (case a0 => k_is); (case l0 => k_is); (case c0 => k_is); (case k0 => k_is)
    (case a1 => k_is); (case l1 => k_is); (case c1 => k_is); (case k1 => k_is)
    (case a2 => k_is); (case i2 => k_is); (case l2 => k_is); (case c2 => k_is); (case k2 => k_is)
    (case a3 => k_is); (case i3 => k_is); (case l3 => k_is); (case c3 => k_is); (case k3 => k_is)
    (case a4 => k_is); (case i4 => k_is); (case l4 => k_is); (case c4 => k_is); (case k4 => k_is)
    (case a5 => k_is); (case i5 => k_is); (case l5 => k_is); (case c5 => k_is); (case k5 => k_is)
    (case a6 => k_is); (case l6 => k_is); (case c6 => k_is); (case k6 => k_is)
    (case a7 => k_is); (case l7 => k_is); (case c7 => k_is); (case k7 => k_is)
    (case a8 => k_is); (case l8 => k_is); (case c8 => k_is); (case k8 => k_is)
    (case a9 => k_is); (case l9 => k_is); (case c9 => k_is); (case k9 => k_is)
    (case a10 => k_is); (case l10 => k_is); (case c10 => k_is); (case k10 => k_is)
    (case a11 => k_is); (case l11 => k_is); (case c11 => k_is); (case k11 => k_is)
    (case a12 => k_is); (case l12 => k_is); (case c12 => k_is); (case k12 => k_is)
    (case a13 => k_is); (case l13 => k_is); (case c13 => k_is); (case k13 => k_is)
    (case a14 => k_is); (case l14 => k_is); (case c14 => k_is); (case k14 => k_is)
    (case a15 => k_is); (case l15 => k_is); (case c15 => k_is); (case k15 => k_is)
    (case a16 => k_is); (case l16 => k_is); (case c16 => k_is); (case k16 => k_is)
    (case a17 => k_is); (case l17 => k_is); (case c17 => k_is); (case k17 => k_is)
    (case a18 => k_is); (case l18 => k_is); (case c18 => k_is); (case k18 => k_is)
    (case a19 => k_is); (case l19 => k_is); (case c19 => k_is); (case k19 => k_is)
    (case a20 => k_is); (case l20 => k_is); (case c20 => k_is); (case k20 => k_is)
    (case a21 => k_is); (case l21 => k_is); (case c21 => k_is); (case k21 => k_is)
    (case a22 => k_is); (case l22 => k_is); (case c22 => k_is); (case k22 => k_is)
    (case a23 => k_is); (case i23 => k_is); (case l23 => k_is); (case c23 => k_is); (case k23 => k_is)
    (case a24 => k_is); (case i24 => k_is); (case l24 => k_is); (case c24 => k_is); (case k24 => k_is)
    (case a25 => k_is); (case i25 => k_is); (case l25 => k_is); (case c25 => k_is); (case k25 => k_is)
    (case a26 => k_is); (case i26 => k_is); (case l26 => k_is); (case c26 => k_is); (case k26 => k_is)
    (case a27 => k_is); (case i27 => k_is); (case l27 => k_is); (case c27 => k_is); (case k27 => k_is)
    (case a28 => k_is); (case i28 => k_is); (case l28 => k_is); (case c28 => k_is); (case k28 => k_is)
    (case a29 => k_is); (case i29 => k_is); (case l29 => k_is); (case c29 => k_is); (case k29 => k_is)
    (case a30 => k_is); (case i30 => k_is); (case l30 => k_is); (case c30 => k_is); (case k30 => k_is)
    (case a31 => k_is); (case i31 => k_is); (case l31 => k_is); (case c31 => k_is); (case k31 => k_is)
    (case a32 => k_is); (case i32 => k_is); (case l32 => k_is); (case c32 => k_is); (case k32 => k_is)
    (case a33 => k_is); (case i33 => k_is); (case l33 => k_is); (case c33 => k_is); (case k33 => k_is)
    (case a34 => k_is); (case i34 => k_is); (case l34 => k_is); (case c34 => k_is); (case k34 => k_is)
    (case a35 => k_is); (case l35 => k_is); (case c35 => k_is); (case k35 => k_is)
    (case a36 => k_is); (case l36 => k_is); (case c36 => k_is); (case k36 => k_is)
    (case a37 => k_is); (case l37 => k_is); (case c37 => k_is); (case k37 => k_is)
    (case a38 => k_is); (case l38 => k_is); (case c38 => k_is); (case k38 => k_is)
    (case a39 => k_is); (case l39 => k_is); (case c39 => k_is); (case k39 => k_is)
    (case a40 => k_is); (case l40 => k_is); (case c40 => k_is); (case k40 => k_is)
    (case a41 => k_is); (case l41 => k_is); (case c41 => k_is); (case k41 => k_is)
    (case a42 => k_is); (case l42 => k_is); (case c42 => k_is); (case k42 => k_is)
    (case a43 => k_is); (case l43 => k_is); (case c43 => k_is); (case k43 => k_is)
    (case a44 => k_is); (case l44 => k_is); (case c44 => k_is); (case k44 => k_is)
    (case a45 => k_is); (case l45 => k_is); (case c45 => k_is); (case k45 => k_is)
    (case a46 => k_is); (case l46 => k_is); (case c46 => k_is); (case k46 => k_is)
    (case a47 => k_is); (case l47 => k_is); (case c47 => k_is); (case k47 => k_is)
    (case a48 => k_is); (case l48 => k_is); (case c48 => k_is); (case k48 => k_is)
    (case a49 => k_is); (case l49 => k_is); (case c49 => k_is); (case k49 => k_is)
    (case a50 => k_is); (case l50 => k_is); (case c50 => k_is); (case k50 => k_is)
    (case a51 => k_is); (case l51 => k_is); (case c51 => k_is); (case k51 => k_is)
    (case a52 => k_is); (case l52 => k_is); (case c52 => k_is); (case k52 => k_is)
    (case a53 => k_is); (case l53 => k_is); (case c53 => k_is); (case k53 => k_is)
    (case a54 => k_is); (case l54 => k_is); (case c54 => k_is); (case k54 => k_is)
    (case a55 => k_is); (case l55 => k_is); (case c55 => k_is); (case k55 => k_is)
    (case a56 => k_is); (case l56 => k_is); (case c56 => k_is); (case k56 => k_is)
    (case a57 => k_is); (case l57 => k_is); (case c57 => k_is); (case k57 => k_is)
    (case a58 => k_is); (case l58 => k_is); (case c58 => k_is); (case k58 => k_is)
    (case pgCB => k_is)
    (case hdCB => k_is)
    (case poCB => k_is)
    (case saCB => k_is)
    (case mkCB => k_is)
    (case kcCB => k_is)
    (case nCB_letters => k_is)
    (case nCB_marks => k_is)
    (case pgCA => k_is)
    (case hdCA => k_is)
    (case poCA => k_is)
    (case saCA => k_is)
    (case mkCA => k_is)
    (case kcCA => k_is)
    (case nCA_letters => k_is)
    (case nCA_most => k_is)
    (case nCA_book => k_is)
    (case nCA_firsts => k_is)
    (case nCA_lasts => k_is)
    (case nCA_hunting => k_is)
    (case nCA_wish => k_is)
    (case zlen => k_is)
    (case zrange => k_is)
    (case zlist => k_is)
    (case ztuple => k_is)
    (case zmax => k_is)
    (case zmin => k_is)
    (case zisinstance => k_is)
    (case zint => k_is)
    (case zbool => k_is)
    (case gGREATEST => k_is)
    (case gMOST_MARK => k_is)
