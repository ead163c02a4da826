import PyProof.Rows.All
import PySem.Str
import Wide.All
import OpenK.AllK
import Wide.FinOn
import HandS.ForMost
import HandS.Wide
import HandS.Flow
import HandS.Exc
import HandS.TryOnly
import HandS.TryMany
import HandS.ExcOwn
import HandS.IsInst
import HandS.Small
import HandS.Codes
import HandS.ExcIs
import HandS.Style
import HandS.Deep
import HandS.TupAny
import HandS.Sort
import HandS.SortRule
import HandS.SortInts
import HandS.Conv
import HandS.More
import HandS.TupLen
import HandS.WordsDict
import HandS.DictTup
import KE.GoesNew
import KE.GoesMore
import HandS.Zip
import KE.DataFind
import HandS.TupSets
import HandS.SetKeys
import HandS.SetFor
import HandS.Text
import PyProof.DictMoreH
import HandS.Finally
import HandS.Rev
import KE.KDictList
import KE.KDictSum
import KE.KDictWalk
import KE.KEqNest
import PyProof.NeKinds
import KE.DataMinMax
import HandS.SortKw
import HandS.DictComp
import HandS.WordsExc
import PySem.Challenge.RW_beatless_k26_neighbours_trees_clusters
set_option Elab.async false
set_option linter.all false
namespace L3
inductive Nm where
  | «AT_END» | «AT_SEND» | «AT_START» | «Expr» | «Less» | «MOST_DEEP» | «MOST_HANDS» | «MOST_HANDS_ways»
  | «MOST_HANDS_webs» | «MOST_NUMBER» | «MOST_REST» | «MOST_WORDS» | «Mod» | «Name» | «NoHand» | «NoProgram»
  | «NoWeb» | «Num» | «Program» | «TOO_GREAT» | «Two» | «WORDS» | «Way» | «Web»
  | «__init__» | «_law_both» | «_law_cell_at» | «_law_digit» | «_law_draws» | «_law_expr» | «_law_fits» | «_law_hands»
  | «_law_heard_names» | «_law_is_line» | «_law_is_whole» | «_law_lines» | «_law_made» | «_law_near» | «_law_number» | «_law_part»
  | «_law_right» | «_law_size» | «_law_steps» | «_law_take» | «_law_told» | «_law_up» | «_law_way» | «all_bridges»
  | «all_parents» | «append» | «are_hands» | «are_lines» | «at» | «bridges» | «bridges_fit» | «by_clusters»
  | «by_neighbours» | «by_tree» | «clear» | «clusters_joined» | «comes_to_leaders» | «count» | «depth» | «done»
  | «extend» | «first_worth» | «first_worths» | «fourth» | «get» | «hands» | «has_hand» | «has_line»
  | «heard_by_pieces» | «heard_in» | «index» | «inner» | «insert» | «is_good» | «is_line» | «is_line_ways»
  | «is_line_webs» | «is_whole» | «items» | «join» | «kept» | «laid» | «law» | «leader»
  | «lines» | «neighbours» | «next_worth» | «number» | «one» | «other» | «own_hands» | «own_lines»
  | «parent_by» | «parent_of» | «parents» | «parents_fit» | «parts» | «pop» | «remove» | «renew»
  | «reverse» | «room_left» | «row» | «run_of» | «send» | «setdefault» | «sides» | «split»
  | «stands_right» | «start» | «startswith» | «steps_from» | «take» | «third» | «up_from» | «update»
  | «value» | «values» | «when» | «word» | «word_to» | «words» | «worths_behind» | «worths_by_pieces»
  deriving DecidableEq
def Nm.s : Nm → PySem.Str
  | .«AT_END» => "AT_END"
  | .«AT_SEND» => "AT_SEND"
  | .«AT_START» => "AT_START"
  | .«Expr» => "Expr"
  | .«Less» => "Less"
  | .«MOST_DEEP» => "MOST_DEEP"
  | .«MOST_HANDS» => "MOST_HANDS"
  | .«MOST_HANDS_ways» => "MOST_HANDS_ways"
  | .«MOST_HANDS_webs» => "MOST_HANDS_webs"
  | .«MOST_NUMBER» => "MOST_NUMBER"
  | .«MOST_REST» => "MOST_REST"
  | .«MOST_WORDS» => "MOST_WORDS"
  | .«Mod» => "Mod"
  | .«Name» => "Name"
  | .«NoHand» => "NoHand"
  | .«NoProgram» => "NoProgram"
  | .«NoWeb» => "NoWeb"
  | .«Num» => "Num"
  | .«Program» => "Program"
  | .«TOO_GREAT» => "TOO_GREAT"
  | .«Two» => "Two"
  | .«WORDS» => "WORDS"
  | .«Way» => "Way"
  | .«Web» => "Web"
  | .«__init__» => "__init__"
  | .«_law_both» => "_law_both"
  | .«_law_cell_at» => "_law_cell_at"
  | .«_law_digit» => "_law_digit"
  | .«_law_draws» => "_law_draws"
  | .«_law_expr» => "_law_expr"
  | .«_law_fits» => "_law_fits"
  | .«_law_hands» => "_law_hands"
  | .«_law_heard_names» => "_law_heard_names"
  | .«_law_is_line» => "_law_is_line"
  | .«_law_is_whole» => "_law_is_whole"
  | .«_law_lines» => "_law_lines"
  | .«_law_made» => "_law_made"
  | .«_law_near» => "_law_near"
  | .«_law_number» => "_law_number"
  | .«_law_part» => "_law_part"
  | .«_law_right» => "_law_right"
  | .«_law_size» => "_law_size"
  | .«_law_steps» => "_law_steps"
  | .«_law_take» => "_law_take"
  | .«_law_told» => "_law_told"
  | .«_law_up» => "_law_up"
  | .«_law_way» => "_law_way"
  | .«all_bridges» => "all_bridges"
  | .«all_parents» => "all_parents"
  | .«append» => "append"
  | .«are_hands» => "are_hands"
  | .«are_lines» => "are_lines"
  | .«at» => "at"
  | .«bridges» => "bridges"
  | .«bridges_fit» => "bridges_fit"
  | .«by_clusters» => "by_clusters"
  | .«by_neighbours» => "by_neighbours"
  | .«by_tree» => "by_tree"
  | .«clear» => "clear"
  | .«clusters_joined» => "clusters_joined"
  | .«comes_to_leaders» => "comes_to_leaders"
  | .«count» => "count"
  | .«depth» => "depth"
  | .«done» => "done"
  | .«extend» => "extend"
  | .«first_worth» => "first_worth"
  | .«first_worths» => "first_worths"
  | .«fourth» => "fourth"
  | .«get» => "get"
  | .«hands» => "hands"
  | .«has_hand» => "has_hand"
  | .«has_line» => "has_line"
  | .«heard_by_pieces» => "heard_by_pieces"
  | .«heard_in» => "heard_in"
  | .«index» => "index"
  | .«inner» => "inner"
  | .«insert» => "insert"
  | .«is_good» => "is_good"
  | .«is_line» => "is_line"
  | .«is_line_ways» => "is_line_ways"
  | .«is_line_webs» => "is_line_webs"
  | .«is_whole» => "is_whole"
  | .«items» => "items"
  | .«join» => "join"
  | .«kept» => "kept"
  | .«laid» => "laid"
  | .«law» => "law"
  | .«leader» => "leader"
  | .«lines» => "lines"
  | .«neighbours» => "neighbours"
  | .«next_worth» => "next_worth"
  | .«number» => "number"
  | .«one» => "one"
  | .«other» => "other"
  | .«own_hands» => "own_hands"
  | .«own_lines» => "own_lines"
  | .«parent_by» => "parent_by"
  | .«parent_of» => "parent_of"
  | .«parents» => "parents"
  | .«parents_fit» => "parents_fit"
  | .«parts» => "parts"
  | .«pop» => "pop"
  | .«remove» => "remove"
  | .«renew» => "renew"
  | .«reverse» => "reverse"
  | .«room_left» => "room_left"
  | .«row» => "row"
  | .«run_of» => "run_of"
  | .«send» => "send"
  | .«setdefault» => "setdefault"
  | .«sides» => "sides"
  | .«split» => "split"
  | .«stands_right» => "stands_right"
  | .«start» => "start"
  | .«startswith» => "startswith"
  | .«steps_from» => "steps_from"
  | .«take» => "take"
  | .«third» => "third"
  | .«up_from» => "up_from"
  | .«update» => "update"
  | .«value» => "value"
  | .«values» => "values"
  | .«when» => "when"
  | .«word» => "word"
  | .«word_to» => "word_to"
  | .«words» => "words"
  | .«worths_behind» => "worths_behind"
  | .«worths_by_pieces» => "worths_by_pieces"
end L3
set_option maxRecDepth 100000
namespace L3
open PySem L2
/-- data as a tree; .ref: an object that may change (its content in the map M), or anything by its place -/
inductive D where
  | non | bl (b : Bool) | int (i : Int) | str (x : Str) | ref (a : Addr)
  | tup (ds : List D) | lst (ds : List D) | dct (t : Bool) (kvs : List (D × D)) | ins (c : Nm) (fs : List (Nm × D))
  | ro (t : Bool) (ds : List D) | exc (c : Nm) (fs : List (Nm × D))
/-- what stands at a place that may change -/
inductive Cell where
  | lst (ds : List D) | dct (t : Bool) (kvs : List (D × D)) | ins (c : Nm) (fs : List (Nm × D))
abbrev Mm := Addr → Option Cell
def up (M : Mm) (a : Addr) (c : Cell) : Mm := fun b => if b = a then some c else M b
def del (M : Mm) (a : Addr) : Mm := fun b => if b = a then none else M b
theorem up_same {M : Mm} {a : Addr} {c : Cell} : up M a c a = some c := if_pos rfl
theorem up_ne {M : Mm} {a b : Addr} {c : Cell} (h : b ≠ a) : up M a c b = M b := if_neg h
theorem del_same {M : Mm} {a : Addr} : del M a a = none := if_pos rfl
theorem del_ne {M : Mm} {a b : Addr} (h : b ≠ a) : del M a b = M b := if_neg h
theorem up_up {M : Mm} {a : Addr} {c c' : Cell} : up (up M a c) a c' = up M a c' := by
  funext b; unfold up; split <;> rfl
theorem del_up {M : Mm} {a : Addr} {c : Cell} (h : M a = none) : del (up M a c) a = M := by
  funext b; unfold del up; split
  · next e => subst e; exact h.symm
  · rfl
/-- a smaller map -/
def Sub (M M' : Mm) : Prop := ∀ a c, M a = some c → M' a = some c
theorem Sub.refl {M : Mm} : Sub M M := fun _ _ h => h
theorem Sub.trans {M M' M'' : Mm} (h : Sub M M') (h' : Sub M' M'') : Sub M M'' := fun a c e => h' a c (h a c e)
theorem Sub.up {M M' : Mm} {a : Addr} {c : Cell} (h : Sub M M') (n : M a = none) : Sub M (L3.up M' a c) := fun b d e => by
  have : b ≠ a := fun z => by subst z; rw [n] at e; cases e
  rw [up_ne this]; exact h b d e
theorem Sub.none {M M' : Mm} (h : Sub M M') {a : Addr} (n : M' a = none) : M a = none := by
  cases e : M a with
  | none => rfl
  | some c => rw [h a c e] at n; cases n
structure Cfg where
  K : PySem.W.Frag
  /-- classes that isinstance is asked of, that are raised; classes of instances -/
  cls : Nm → Option Addr
  icls : Nm → Option Addr
  fl : Nm → List Nm
  /-- places that are hidden: lists and dicts that are being made -/
  Z : Addr → Prop := fun _ => False
  /-- within an except's suite; and the name's place, the exception, its class and fields' place -/
  hot : Bool := false
  cur : Option (Nat × Addr × Nm × Option Addr) := none
/-- other hidden ones -/
def Cfg.z (c : Cfg) (Z : Addr → Prop) : Cfg := { c with Z := Z }
/-- in an except's suite, or out of it -/
def Cfg.su (c : Cfg) (h : Bool) (u : Option (Nat × Addr × Nm × Option Addr)) : Cfg := { c with hot := h, cur := u }
/-- a place that stands -/
def Fr (c : Cfg) (M : Mm) (a : Addr) : Prop := M a = none ∧ ¬ c.Z a
def keyD : Key → D
  | .inl i => .int i
  | .inr x => .str x
/-- a list of the module's own, a tuple -/
def KL (K : PySem.W.Frag) (a : Addr) (xs : List V) : Prop :=
  ∃ (o : Obj) (its : Array Value) (n : Nat), K.lookup a = some o ∧ o.cls = .type "list" ∧ o.dict = none ∧ o.data = .seq its n ∧ its.size ≤ sizeLine ∧ Vals xs its.toList
def KT (K : PySem.W.Frag) (a : Addr) (xs : List V) : Prop :=
  ∃ (o : Obj) (its : Array Value) (n : Nat), K.lookup a = some o ∧ o.cls = .type "tuple" ∧ o.data = .seq its n ∧ its.size ≤ sizeLine ∧ Vals xs its.toList
mutual
inductive Rep (c : Cfg) (H : Hp) (M : Mm) : V → D → Prop
  | non : Rep c H M .non .non
  | bl (b : Bool) : Rep c H M (.bl b) (.bl b)
  | int (i : Int) : Rep c H M (.int i) (.int i)
  | str (x : Str) : Rep c H M (.str x) (.str x)
  | ref (a : Addr) : Rep c H M (.ref a) (.ref a)
  | exc (a : Addr) (n : Nm) (fs : List (Nm × D)) : Rep c H M (.ref a) (.exc n fs)
  | lst {a : Addr} {vs : List V} {ds : List D} : H a = some (.lst vs) → Fr c M a → vs.length ≤ sizeLine → Reps c H M vs ds → Rep c H M (.ref a) (.lst ds)
  | tup {a : Addr} {vs : List V} {ds : List D} : H a = some (.tup vs) → Fr c M a → vs.length ≤ sizeLine → Reps c H M vs ds → Rep c H M (.ref a) (.tup ds)
  | roL {a : Addr} {vs : List V} {ds : List D} : (Rd H a (.lst vs) ∧ Fr c M a ∨ KL c.K a vs) → vs.length ≤ sizeLine → Reps c H M vs ds → Rep c H M (.ref a) (.ro false ds)
  | roT {a : Addr} {vs : List V} {ds : List D} : KT c.K a vs → vs.length ≤ sizeLine → Reps c H M vs ds → Rep c H M (.ref a) (.ro true ds)
  | dK {a : Addr} {ks : List (Key × V)} {kvs : List (D × D)} : Rd H a (.dK ks) → Fr c M a → ks.length ≤ sizeLine → RepK c H M ks kvs → Rep c H M (.ref a) (.dct false kvs)
  | dT {a : Addr} {ks : List (List Key × V)} {kvs : List (D × D)} : Rd H a (.dT ks) → Fr c M a → ks.length ≤ sizeLine → RepT c H M ks kvs → Rep c H M (.ref a) (.dct true kvs)
  | ins {a C dx : Addr} {vs : List (Str × V)} {n : Nm} {fs : List (Nm × D)} : H a = some (.ins C dx vs) → Fr c M a → c.icls n = some C → (∀ p ∈ fs, p.1 ∈ c.fl n) → RepF c H M vs fs → Rep c H M (.ref a) (.ins n fs)
inductive Reps (c : Cfg) (H : Hp) (M : Mm) : List V → List D → Prop
  | nil : Reps c H M [] []
  | cons {v : V} {d : D} {vs : List V} {ds : List D} : Rep c H M v d → Reps c H M vs ds → Reps c H M (v :: vs) (d :: ds)
inductive RepK (c : Cfg) (H : Hp) (M : Mm) : List (Key × V) → List (D × D) → Prop
  | nil : RepK c H M [] []
  | cons {k : Key} {v : V} {d : D} {ks : List (Key × V)} {kvs : List (D × D)} : Rep c H M v d → RepK c H M ks kvs → RepK c H M ((k, v) :: ks) ((keyD k, d) :: kvs)
inductive RepT (c : Cfg) (H : Hp) (M : Mm) : List (List Key × V) → List (D × D) → Prop
  | nil : RepT c H M [] []
  | cons {k : List Key} {v : V} {d : D} {ks : List (List Key × V)} {kvs : List (D × D)} : k.length ≤ sizeLine → Rep c H M v d → RepT c H M ks kvs → RepT c H M ((k, v) :: ks) ((.tup (k.map keyD), d) :: kvs)
inductive RepF (c : Cfg) (H : Hp) (M : Mm) : List (Str × V) → List (Nm × D) → Prop
  | nil : RepF c H M [] []
  | cons {n : Nm} {v : V} {d : D} {vs : List (Str × V)} {fs : List (Nm × D)} : Rep c H M v d → RepF c H M vs fs → RepF c H M ((n.s, v) :: vs) ((n, d) :: fs)
end
/-- a dict that stands: it may be locked for good -/
def Dc (o : HO) : Prop := (∃ ks, o = .dK ks) ∨ ∃ ks, o = .dT ks
/-- what a step may do: what is known and does not change stands -/
structure Stp (H : Hp) (M : Mm) (H' : Hp) (M' : Mm) : Prop where
  keep' : ∀ a o, H a = some o → M a = none → H' a = some o ∨ ∃ ob, H' a = some (.frz ob o) ∧ Dc o
  nn : ∀ a, H a ≠ none → M a = none → M' a = none
theorem Stp.keep {H H' : Hp} {M M' : Mm} (s : Stp H M H' M') (a : Addr) (o : HO) (h : H a = some o) (n : M a = none) (hd : ¬ Dc o := by rintro (⟨_, e⟩ | ⟨_, e⟩) <;> cases e) : H' a = some o := (s.keep' a o h n).elim id fun ⟨_, _, q⟩ => absurd q hd
theorem Stp.refl {H : Hp} {M : Mm} : Stp H M H M := ⟨fun _ _ h _ => .inl h, fun _ _ h => h⟩
theorem Stp.trans {H H1 H2 : Hp} {M M1 M2 : Mm} (a : Stp H M H1 M1) (b : Stp H1 M1 H2 M2) : Stp H M H2 M2 :=
  ⟨fun x o h n => by
    have n1 := a.nn x (by rw [h]; exact fun z => nomatch z) n
    rcases a.keep' x o h n with h1 | ⟨ob, h1, hd⟩
    · exact b.keep' x o h1 n1
    · rcases b.keep' x _ h1 n1 with h2 | ⟨_, _, q⟩
      · exact .inr ⟨ob, h2, hd⟩
      · rcases q with ⟨_, e⟩ | ⟨_, e⟩ <;> (cases e), fun x h n => by
    cases e : H x with
    | none => exact absurd e h
    | some o =>
      refine b.nn x ?_ (a.nn x h n)
      rcases a.keep' x o e n with h1 | ⟨ob, h1, _⟩ <;> (rw [h1]; exact fun z => nomatch z)⟩
theorem Stp.rd {H H' : Hp} {M M' : Mm} (s : Stp H M H' M') {a : Addr} {u : HO} (h : Rd H a u) (n : M a = none) : Rd H' a u ∧ M' a = none := by
  rcases h with h | ⟨o, h⟩
  · refine ⟨?_, s.nn a (by rw [h]; exact fun z => nomatch z) n⟩
    rcases s.keep' a _ h n with h1 | ⟨ob, h1, _⟩
    · exact .inl h1
    · exact .inr ⟨ob, h1⟩
  · exact ⟨.inr ⟨o, s.keep a _ h n⟩, s.nn a (by rw [h]; exact fun z => nomatch z) n⟩
/-- a general change of view: each known thing stays readable -/
structure View (c : Cfg) (H : Hp) (M : Mm) (H' : Hp) (M' : Mm) : Prop where
  exL : ∀ a vs, H a = some (.lst vs) → Fr c M a → H' a = some (.lst vs) ∧ Fr c M' a
  rdL : ∀ a vs, Rd H a (.lst vs) → Fr c M a → Rd H' a (.lst vs) ∧ Fr c M' a
  exT : ∀ a vs, H a = some (.tup vs) → Fr c M a → H' a = some (.tup vs) ∧ Fr c M' a
  rdK : ∀ a vs, Rd H a (.dK vs) → Fr c M a → Rd H' a (.dK vs) ∧ Fr c M' a
  rdD : ∀ a vs, Rd H a (.dT vs) → Fr c M a → Rd H' a (.dT vs) ∧ Fr c M' a
  rdI : ∀ a C dx vs, H a = some (.ins C dx vs) → Fr c M a → H' a = some (.ins C dx vs) ∧ Fr c M' a
theorem Stp.view {c : Cfg} {H H' : Hp} {M M' : Mm} (s : Stp H M H' M') : View c H M H' M' :=
  ⟨fun a vs h n => ⟨s.keep a _ h n.1, s.nn a (by rw [h]; exact fun z => nomatch z) n.1, n.2⟩, fun _ _ h n => let w := s.rd h n.1; ⟨w.1, w.2, n.2⟩, fun a vs h n => ⟨s.keep a _ h n.1, s.nn a (by rw [h]; exact fun z => nomatch z) n.1, n.2⟩, fun _ _ h n => let w := s.rd h n.1; ⟨w.1, w.2, n.2⟩, fun _ _ h n => let w := s.rd h n.1; ⟨w.1, w.2, n.2⟩, fun a C dx vs h n => ⟨s.keep a _ h n.1, s.nn a (by rw [h]; exact fun z => nomatch z) n.1, n.2⟩⟩
section
variable {c : Cfg} {H H' : Hp} {M M' : Mm}
mutual
theorem Rep.view (s : View c H M H' M') : ∀ {v : V} {d : D}, Rep c H M v d → Rep c H' M' v d
  | _, _, .non => .non
  | _, _, .bl b => .bl b
  | _, _, .int i => .int i
  | _, _, .str x => .str x
  | _, _, .ref a => .ref a
  | _, _, .exc a n fs => .exc a n fs
  | _, _, .lst h n z r => .lst (s.exL _ _ h n).1 (s.exL _ _ h n).2 z (Reps.view s r)
  | _, _, .tup h n z r => .tup (s.exT _ _ h n).1 (s.exT _ _ h n).2 z (Reps.view s r)
  | _, _, .roL h z r => .roL (h.imp (fun q => s.rdL _ _ q.1 q.2) id) z (Reps.view s r)
  | _, _, .roT h z r => .roT h z (Reps.view s r)
  | _, _, .dK h n z r => .dK (s.rdK _ _ h n).1 (s.rdK _ _ h n).2 z (RepK.view s r)
  | _, _, .dT h n z r => .dT (s.rdD _ _ h n).1 (s.rdD _ _ h n).2 z (RepT.view s r)
  | _, _, .ins h n z k r => .ins (s.rdI _ _ _ _ h n).1 (s.rdI _ _ _ _ h n).2 z k (RepF.view s r)
theorem Reps.view (s : View c H M H' M') : ∀ {v : List V} {d : List D}, Reps c H M v d → Reps c H' M' v d
  | _, _, .nil => .nil
  | _, _, .cons a b => .cons (Rep.view s a) (Reps.view s b)
theorem RepK.view (s : View c H M H' M') : ∀ {v : List (Key × V)} {d : List (D × D)}, RepK c H M v d → RepK c H' M' v d
  | _, _, .nil => .nil
  | _, _, .cons a b => .cons (Rep.view s a) (RepK.view s b)
theorem RepT.view (s : View c H M H' M') : ∀ {v : List (List Key × V)} {d : List (D × D)}, RepT c H M v d → RepT c H' M' v d
  | _, _, .nil => .nil
  | _, _, .cons z a b => .cons z (Rep.view s a) (RepT.view s b)
theorem RepF.view (s : View c H M H' M') : ∀ {v : List (Str × V)} {d : List (Nm × D)}, RepF c H M v d → RepF c H' M' v d
  | _, _, .nil => .nil
  | _, _, .cons a b => .cons (Rep.view s a) (RepF.view s b)
end
theorem Rep.stp (s : Stp H M H' M') {v : V} {d : D} (h : Rep c H M v d) : Rep c H' M' v d := h.view s.view
theorem Reps.stp (s : Stp H M H' M') {v : List V} {d : List D} (h : Reps c H M v d) : Reps c H' M' v d := h.view s.view
/-- a cell is held -/
inductive CellOk (c : Cfg) (H : Hp) (M : Mm) (a : Addr) : Cell → Prop
  | lst {vs : List V} {ds : List D} : H a = some (.lst vs) → vs.length ≤ sizeLine → Reps c H M vs ds → CellOk c H M a (.lst ds)
  | dK {ks : List (Key × V)} {kvs : List (D × D)} : H a = some (.dK ks) → ks.length ≤ sizeLine → RepK c H M ks kvs → CellOk c H M a (.dct false kvs)
  | dT {ks : List (List Key × V)} {kvs : List (D × D)} : H a = some (.dT ks) → ks.length ≤ sizeLine → RepT c H M ks kvs → CellOk c H M a (.dct true kvs)
  | ins {C dx : Addr} {vs : List (Str × V)} {n : Nm} {fs : List (Nm × D)} : H a = some (.ins C dx vs) → c.icls n = some C → (∀ p ∈ fs, p.1 ∈ c.fl n) → RepF c H M vs fs → CellOk c H M a (.ins n fs)
/-- what hides there -/
def Hid (H : Hp) (a : Addr) : Prop := (∃ vs, H a = some (.lst vs)) ∨ ∃ ks, H a = some (.dK ks)
structure Cells (c : Cfg) (H : Hp) (M : Mm) : Prop where
  at' : ∀ a x, M a = some x → CellOk c H M a x
  z : ∀ a, c.Z a → Hid H a ∧ M a = none
theorem CellOk.there {a : Addr} {x : Cell} (h : CellOk c H M a x) : ∃ o, H a = some o := by
  cases h with
  | lst h => exact ⟨_, h⟩
  | dK h => exact ⟨_, h⟩
  | dT h => exact ⟨_, h⟩
  | ins h => exact ⟨_, h⟩
theorem Cells.fresh (h : Cells c H M) {a : Addr} (n : H a = none) : M a = none := by
  cases e : M a with
  | none => rfl
  | some x =>
    obtain ⟨o, q⟩ := (h.at' a x e).there
    rw [n] at q; cases q
theorem Hid.there {H : Hp} {a : Addr} (h : Hid H a) : ∃ o, H a = some o := by
  rcases h with ⟨_, h⟩ | ⟨_, h⟩ <;> exact ⟨_, h⟩
theorem Hid.eq {H H' : Hp} {a : Addr} (h : Hid H a) (e : H' a = H a) : Hid H' a := by
  unfold Hid; rw [e]; exact h
theorem Cells.free (h : Cells c H M) {a : Addr} (n : H a = none) : Fr c M a := ⟨h.fresh n, fun z => by
  obtain ⟨o, q⟩ := (h.z a z).1.there
  rw [n] at q; cases q⟩
/-- a cell under another view -/
theorem CellOk.view (s : View c H M H' M') {a : Addr} {x : Cell} (h : CellOk c H M a x) (e : H' a = H a) : CellOk c H' M' a x := by
  cases h with
  | lst h z r => exact .lst (e.trans h) z (r.view s)
  | dK h z r => exact .dK (e.trans h) z (r.view s)
  | dT h z r => exact .dT (e.trans h) z (r.view s)
  | ins h z k r => exact .ins (e.trans h) z k (r.view s)
/-! ### the three changes: a new object, a change, a thing that stands from now on -/
theorem stp_new {a : Addr} {o : HO} (ok : Cells c H M) (n : H a = none) : Stp H M (upd H a o) M := by
  refine ⟨fun b u h _ => .inl (by rw [upd_ne (ne_of_none h n)]; exact h), fun _ _ h => h⟩
theorem cells_new {a : Addr} {o : HO} (ok : Cells c H M) (n : H a = none) : Cells c (upd H a o) M := ⟨fun b x e => by
  refine (ok.at' b x e).view (stp_new ok n).view (upd_ne ?_)
  obtain ⟨u, q⟩ := (ok.at' b x e).there
  exact ne_of_none q n, fun b z => by
  obtain ⟨h1, h2⟩ := ok.z b z
  obtain ⟨u, q⟩ := h1.there
  exact ⟨h1.eq (upd_ne (ne_of_none q n)), h2⟩⟩
/-- a new cell -/
theorem stp_newc {a : Addr} {o : HO} {x : Cell} (ok : Cells c H M) (n : H a = none) : Stp H M (upd H a o) (up M a x) := by
  refine ⟨fun b u h _ => .inl (by rw [upd_ne (ne_of_none h n)]; exact h), fun b h m => ?_⟩
  have : b ≠ a := fun z => by subst z; exact h n
  rw [up_ne this]; exact m
theorem cells_newc {a : Addr} {o : HO} {x : Cell} (ok : Cells c H M) (n : H a = none) (hx : CellOk c (upd H a o) (up M a x) a x) : Cells c (upd H a o) (up M a x) := ⟨fun b y e => by
  by_cases hb : b = a
  · subst hb; rw [up_same] at e; cases e; exact hx
  · rw [up_ne hb] at e
    exact (ok.at' b y e).view (stp_newc ok n).view (upd_ne hb), fun b z => by
  obtain ⟨h1, h2⟩ := ok.z b z
  obtain ⟨u, q⟩ := h1.there
  have hb := ne_of_none q n
  exact ⟨h1.eq (upd_ne hb), by rw [up_ne hb]; exact h2⟩⟩
/-- a cell changes -/
theorem stp_set {a : Addr} {o : HO} {x x' : Cell} (ok : Cells c H M) (n : M a = some x) : Stp H M (upd H a o) (up M a x') := by
  refine ⟨fun b u h m => .inl ?_, fun b h m => ?_⟩
  · have : b ≠ a := fun z => by subst z; rw [n] at m; cases m
    rw [upd_ne this]; exact h
  · have : b ≠ a := fun z => by subst z; rw [n] at m; cases m
    rw [up_ne this]; exact m
theorem cells_set {a : Addr} {o : HO} {x x' : Cell} (ok : Cells c H M) (n : M a = some x) (hx : CellOk c (upd H a o) (up M a x') a x') : Cells c (upd H a o) (up M a x') := ⟨fun b y e => by
  by_cases hb : b = a
  · subst hb; rw [up_same] at e; cases e; exact hx
  · rw [up_ne hb] at e
    exact (ok.at' b y e).view (stp_set ok n).view (upd_ne hb), fun b z => by
  obtain ⟨h1, h2⟩ := ok.z b z
  have hb : b ≠ a := fun w => by subst w; rw [n] at h2; cases h2
  exact ⟨h1.eq (upd_ne hb), by rw [up_ne hb]; exact h2⟩⟩
/-- fewer cells: what is dropped stands from now on -/
theorem stp_sub {M' : Mm} (h : ∀ a, M a = none → M' a = none) : Stp H M H M' := ⟨fun _ _ q _ => .inl q, fun a _ n => h a n⟩
theorem cells_sub {M' : Mm} (ok : Cells c H M) (h : Sub M' M) : Cells c H M' := ⟨fun a x e =>
  (ok.at' a x (h a x e)).view (stp_sub fun _ n => h.none n).view rfl, fun a z => ⟨(ok.z a z).1, h.none (ok.z a z).2⟩⟩
/-- a dict that stands is locked -/
theorem stp_lock {a : Addr} {ob : Obj} {u : HO} (h : H a = some u) (hd : Dc u) : Stp H M (upd H a (.frz ob u)) M := by
  refine ⟨fun b o e m => ?_, fun _ _ n => n⟩
  by_cases hb : b = a
  · subst hb
    rw [h] at e
    cases e
    exact .inr ⟨ob, upd_same, hd⟩
  · exact .inl (by rw [upd_ne hb]; exact e)
theorem cells_lock {a : Addr} {ob : Obj} {u : HO} (ok : Cells c H M) (n : Fr c M a) (h : H a = some u) (hd : Dc u) : Cells c (upd H a (.frz ob u)) M := ⟨fun b x e => by
  have hb : b ≠ a := fun z => by subst z; rw [n.1] at e; cases e
  exact (ok.at' b x e).view (stp_lock h hd).view (upd_ne hb), fun b z => by
  have hb : b ≠ a := fun q => n.2 (q ▸ z)
  obtain ⟨h1, h2⟩ := ok.z b z
  exact ⟨h1.eq (upd_ne hb), h2⟩⟩
/-- a hidden place is never locked -/
theorem keep_hid {H' : Hp} {M' : Mm} {a : Addr} {o : HO} (s : Stp H M H' M') (ok : Cells c H' M') (z : c.Z a) (h : H a = some o) (n : M a = none) : H' a = some o := by
  rcases s.keep' a o h n with h1 | ⟨ob, h1, _⟩
  · exact h1
  · rcases (ok.z a z).1 with ⟨_, e⟩ | ⟨_, e⟩ <;> (rw [h1] at e; cases e)
/-- a hidden place changes -/
theorem view_hid {a : Addr} {o : HO} (hz : c.Z a) : View c H M (upd H a o) M :=
  have ne : ∀ {b}, Fr c M b → b ≠ a := fun n e => n.2 (by rw [e]; exact hz)
  ⟨fun b vs h n => ⟨by rw [upd_ne (ne n)]; exact h, n⟩, fun b vs h n => ⟨by unfold Rd at h ⊢; rw [upd_ne (ne n)]; exact h, n⟩, fun b vs h n => ⟨by rw [upd_ne (ne n)]; exact h, n⟩, fun b vs h n => ⟨by unfold Rd at h ⊢; rw [upd_ne (ne n)]; exact h, n⟩, fun b vs h n => ⟨by unfold Rd at h ⊢; rw [upd_ne (ne n)]; exact h, n⟩, fun b C dx vs h n => ⟨by rw [upd_ne (ne n)]; exact h, n⟩⟩
theorem cells_hid {a : Addr} {o : HO} (ok : Cells c H M) (hz : c.Z a) (hh : Hid (upd H a o) a) : Cells c (upd H a o) M := ⟨fun b x e => by
  have ne : b ≠ a := fun q => by
    have := (ok.z a hz).2
    rw [← q, e] at this
    exact nomatch this
  exact (ok.at' b x e).view (view_hid hz) (upd_ne ne), fun b z => by
  by_cases q : b = a
  · subst q; exact ⟨hh, (ok.z b z).2⟩
  · exact ⟨(ok.z b z).1.eq (upd_ne q), (ok.z b z).2⟩⟩
/-! ### other hidden places -/
section
variable {Z : Addr → Prop}
mutual
theorem Rep.zset (hz : ∀ a, Z a → c.Z a ∨ H a = none) : ∀ {v : V} {d : D}, Rep c H M v d → Rep (c.z Z) H M v d
  | _, _, .non => .non
  | _, _, .bl b => .bl b
  | _, _, .int i => .int i
  | _, _, .str x => .str x
  | _, _, .ref a => .ref a
  | _, _, .exc a n fs => .exc a n fs
  | _, _, .lst h n z r => .lst h ⟨n.1, fun q => (hz _ q).elim n.2 fun e => by rw [h] at e; cases e⟩ z (Reps.zset hz r)
  | _, _, .tup h n z r => .tup h ⟨n.1, fun q => (hz _ q).elim n.2 fun e => by rw [h] at e; cases e⟩ z (Reps.zset hz r)
  | _, _, .roL h z r => .roL (h.imp (fun q => ⟨q.1, q.2.1, fun w => (hz _ w).elim q.2.2 fun e => by rcases q.1 with k | ⟨o, k⟩ <;> (rw [k] at e; cases e)⟩) id) z (Reps.zset hz r)
  | _, _, .roT h z r => .roT h z (Reps.zset hz r)
  | _, _, .dK h n z r => .dK h ⟨n.1, fun w => (hz _ w).elim n.2 fun e => by rcases h with k | ⟨o, k⟩ <;> (rw [k] at e; cases e)⟩ z (RepK.zset hz r)
  | _, _, .dT h n z r => .dT h ⟨n.1, fun w => (hz _ w).elim n.2 fun e => by rcases h with k | ⟨o, k⟩ <;> (rw [k] at e; cases e)⟩ z (RepT.zset hz r)
  | _, _, .ins h n z k r => .ins h ⟨n.1, fun q => (hz _ q).elim n.2 fun e => by rw [h] at e; cases e⟩ z k (RepF.zset hz r)
theorem Reps.zset (hz : ∀ a, Z a → c.Z a ∨ H a = none) : ∀ {v : List V} {d : List D}, Reps c H M v d → Reps (c.z Z) H M v d
  | _, _, .nil => .nil
  | _, _, .cons a b => .cons (Rep.zset hz a) (Reps.zset hz b)
theorem RepK.zset (hz : ∀ a, Z a → c.Z a ∨ H a = none) : ∀ {v : List (Key × V)} {d : List (D × D)}, RepK c H M v d → RepK (c.z Z) H M v d
  | _, _, .nil => .nil
  | _, _, .cons a b => .cons (Rep.zset hz a) (RepK.zset hz b)
theorem RepT.zset (hz : ∀ a, Z a → c.Z a ∨ H a = none) : ∀ {v : List (List Key × V)} {d : List (D × D)}, RepT c H M v d → RepT (c.z Z) H M v d
  | _, _, .nil => .nil
  | _, _, .cons z a b => .cons z (Rep.zset hz a) (RepT.zset hz b)
theorem RepF.zset (hz : ∀ a, Z a → c.Z a ∨ H a = none) : ∀ {v : List (Str × V)} {d : List (Nm × D)}, RepF c H M v d → RepF (c.z Z) H M v d
  | _, _, .nil => .nil
  | _, _, .cons a b => .cons (Rep.zset hz a) (RepF.zset hz b)
end
theorem CellOk.zset (hz : ∀ a, Z a → c.Z a ∨ H a = none) {a : Addr} {x : Cell} (h : CellOk c H M a x) : CellOk (c.z Z) H M a x := by
  cases h with
  | lst h z r => exact .lst h z (r.zset hz)
  | dK h z r => exact .dK h z (r.zset hz)
  | dT h z r => exact .dT h z (r.zset hz)
  | ins h z k r => exact .ins h z k (r.zset hz)
end
section
variable {h : Bool} {u : Option (Nat × Addr × Nm × Option Addr)}
mutual
theorem Rep.su : ∀ {v : V} {d : D}, Rep c H M v d → Rep (c.su h u) H M v d
  | _, _, .non => .non
  | _, _, .bl b => .bl b
  | _, _, .int i => .int i
  | _, _, .str x => .str x
  | _, _, .ref a => .ref a
  | _, _, .exc a n fs => .exc a n fs
  | _, _, .lst h n z r => .lst h n z (Reps.su r)
  | _, _, .tup h n z r => .tup h n z (Reps.su r)
  | _, _, .roL h z r => .roL h z (Reps.su r)
  | _, _, .roT h z r => .roT h z (Reps.su r)
  | _, _, .dK h n z r => .dK h n z (RepK.su r)
  | _, _, .dT h n z r => .dT h n z (RepT.su r)
  | _, _, .ins h n z k r => .ins h n z k (RepF.su r)
theorem Reps.su : ∀ {v : List V} {d : List D}, Reps c H M v d → Reps (c.su h u) H M v d
  | _, _, .nil => .nil
  | _, _, .cons a b => .cons (Rep.su a) (Reps.su b)
theorem RepK.su : ∀ {v : List (Key × V)} {d : List (D × D)}, RepK c H M v d → RepK (c.su h u) H M v d
  | _, _, .nil => .nil
  | _, _, .cons a b => .cons (Rep.su a) (RepK.su b)
theorem RepT.su : ∀ {v : List (List Key × V)} {d : List (D × D)}, RepT c H M v d → RepT (c.su h u) H M v d
  | _, _, .nil => .nil
  | _, _, .cons z a b => .cons z (Rep.su a) (RepT.su b)
theorem RepF.su : ∀ {v : List (Str × V)} {d : List (Nm × D)}, RepF c H M v d → RepF (c.su h u) H M v d
  | _, _, .nil => .nil
  | _, _, .cons a b => .cons (Rep.su a) (RepF.su b)
end
theorem CellOk.su {a : Addr} {x : Cell} (q : CellOk c H M a x) : CellOk (c.su h u) H M a x := by
  cases q with
  | lst h z r => exact .lst h z r.su
  | dK h z r => exact .dK h z r.su
  | dT h z r => exact .dT h z r.su
  | ins h z k r => exact .ins h z k r.su
theorem Cells.su (q : Cells c H M) : Cells (c.su h u) H M := ⟨fun a x e => (q.at' a x e).su, q.z⟩
end
end
end L3
set_option maxRecDepth 100000
set_option maxHeartbeats 4000000
namespace L3
open PySem PySem.Spec PyProof.Rows L2
/-! ### zip of a list and a tuple -/
def ItzM (K : PySem.W.Frag) (a b : Addr) : It :=
  ⟨fun i H => ∃ (us ws : List V) (u w : V), SqL K H a us ∧ SqT K H b ws ∧ us[i]? = some u ∧ ws[i]? = some w,
    fun i H v H' => ∃ T u w, v = .ref T ∧ H T = none ∧ H' = upd H T (.tup [u, w]) ∧ (∀ us, SqL K H a us → us[i]? = some u) ∧ ∀ ws, SqT K H b ws → ws[i]? = some w,
    fun i H => ∃ us ws : List V, SqL K H a us ∧ SqT K H b ws ∧ (us.length ≤ i ∨ ws.length ≤ i)⟩
theorem drop_l {P : Program} {w : World} {A : Around} (hh : A.handled = none) (it l : Addr) (its : Array Value) (i : Nat) (hx : its[i]? = none) :
    Draws P w A it [it, l] i (fun _ _ => True) (fun j h => j = i ∧ h.IsListIter it l i ∧ h.IsList l its) where
  live := fun _ _ st => let ⟨o, ho, _⟩ := st.2.1; ⟨o, ho⟩
  frame := fun _ _ _ st hk => ⟨st.1, st.2.1.at fun o e => hk it (by simp) o e, st.2.2.at fun o e => hk l (by simp) o e⟩
  item := fun j s Q E hj st _ => absurd st.1 (Nat.ne_of_lt hj)
  done := fun s Q E st hE => wpAny_nextOf_list_end hh st.2.1 st.2.2 hx hE
theorem drop_t {P : Program} {w : World} {A : Around} (hh : A.handled = none) (it l : Addr) (its : Array Value) (i : Nat) (hx : its[i]? = none) :
    Draws P w A it [it, l] i (fun _ _ => True) (fun j h => j = i ∧ h.IsTupleIter it l i ∧ h.IsTuple l its) where
  live := fun _ _ st => let ⟨o, ho, _⟩ := st.2.1; ⟨o, ho⟩
  frame := fun _ _ _ st hk => ⟨st.1, st.2.1.at fun o e => hk it (by simp) o e, st.2.2.at fun o e => hk l (by simp) o e⟩
  item := fun j s Q E hj st _ => absurd st.1 (Nat.ne_of_lt hj)
  done := fun s Q E st hE => wpAny_nextOf_tuple_end hh st.2.1 st.2.2 hx hE
theorem ne_li {h : Heap} {i1 a : Addr} {k : Nat} {its : Array Value} (u : h.IsListIter i1 a k) (p : h.IsList a its) : a ≠ i1 := fun e => by
  subst e
  obtain ⟨o, ho, hcl, _⟩ := u
  obtain ⟨o', ho', hcl', _⟩ := p
  rw [ho] at ho'
  cases ho'
  have q := hcl.symm.trans hcl'
  injection q with q
  exact absurd q (by decide)
theorem ne_ti {h : Heap} {i1 a : Addr} {k : Nat} {its : Array Value} (u : h.IsTupleIter i1 a k) (p : h.IsTuple a its) : a ≠ i1 := fun e => by
  subst e
  obtain ⟨o, ho, hcl, _⟩ := u
  obtain ⟨o', ho', hcl', _⟩ := p
  rw [ho] at ho'
  cases ho'
  have q := hcl.symm.trans hcl'
  injection q with q
  exact absurd q (by decide)
structure SepM (z ti tO i1 i2 a b : Addr) : Prop where
  s : ZipSep2 z ti tO i1 i2 [i1, a] [i2, b]
theorem turn_zipM {P : Program} {w : World} {K : PySem.W.Frag} {elts : List Expr} {kk : Nat} {tpos : Pos} {a b z ti tO i1 i2 : Addr} (D : SepM z ti tO i1 i2 a b) :
    Turn P w K (.Tuple elts kk tpos) (ItzM K a b) [z, ti, tO, i1, i2] z (fun i h => IsZip h z ti tO .none ∧ IsTupOf2 h ti (.ref i1) (.ref i2) ∧ (∃ x y, IsTupOf2 h tO x y) ∧ h.IsListIter i1 a i ∧ h.IsTupleIter i2 b i) where
  mem := List.mem_cons_self
  obj := fun i h st c hc => by
    obtain ⟨t1, t2, ⟨x, y, t3⟩, ⟨o1, e1, _, d1⟩, ⟨o2, e2, _, d2⟩⟩ := st
    simp only [List.mem_cons, List.not_mem_nil, or_false] at hc
    rcases hc with rfl | rfl | rfl | rfl | rfl
    · exact ⟨_, t1, fun v => (nomatch ·)⟩
    · exact ⟨_, t2, fun v => (nomatch ·)⟩
    · exact ⟨_, t3, fun v => (nomatch ·)⟩
    · exact ⟨o1, e1, fun v q => by simp [d1] at q⟩
    · exact ⟨o2, e2, fun v q => by simp [d2] at q⟩
  keep := fun i h h' st k => by
    obtain ⟨t1, t2, ⟨x, y, t3⟩, u1, u2⟩ := st
    exact ⟨k z (by simp) _ t1, k ti (by simp) _ t2, ⟨x, y, k tO (by simp) _ t3⟩, u1.at fun o q => k i1 (by simp) o q, u2.at fun o q => k i2 (by simp) o q⟩
  item := by
    intro X hP hw hK hc i pins s σ H E I hf st hg
    subst hP hw hK
    obtain ⟨t1, t2, t3, u1, u2⟩ := st
    obtain ⟨us, ws, u, v, hus, hws, hu, hv⟩ := hg
    obtain ⟨its, rv, p, _⟩ := I.list hus
    obtain ⟨its2, rv2, p2, _⟩ := I.tuple hws
    obtain ⟨x, gx, rx⟩ := rv.get hu
    obtain ⟨y, gy, ry⟩ := rv2.get hv
    have hh : X.A.in1.handled = none := I.ok.hd hc
    have gx' : its.toArray[i]? = some x := by simpa using gx
    have gy' : its2.toArray[i]? = some y := by simpa using gy
    have b1 : i < its.toArray.size := (Array.getElem?_eq_some_iff.mp gx').1
    have b2 : i < its2.toArray.size := (Array.getElem?_eq_some_iff.mp gy').1
    have na := ne_li u1 p.isList
    have nb := ne_ti u2 p2
    have G := GoesN.zip2 (elts := elts) (x1 := kk) (pos := tpos) D.s (Draws.list (prog := X.prog) (w := X.w) hh i1 a na its.toArray) (Draws.tuple (prog := X.prog) (w := X.w) hh i2 b nb its2.toArray)
    refine G.goes i s _ E (by omega) ⟨t1, t2, t3, ⟨u1, p.isList⟩, ⟨u2, p2⟩⟩ fun vv h' tk ⟨T, x', y', ev, hT, q1, q2, tup⟩ st' kp htk => ?_
    subst ev
    rw [gx'] at q1; cases q1
    rw [gy'] at q2; cases q2
    obtain ⟨oT, hoT, hcT, nT, hdT⟩ := tup
    have new : ObjOk X.prog X.w (upd H T (.tup [u, v])) h' T (.tup [u, v]) :=
      ⟨by show 2 ≤ sizeLine; decide, [x, y], .cons rx (.cons ry .nil), ⟨oT, hoT, hcT, nT, hdT⟩⟩
    have sub : ∀ c o, c ∉ [z, ti, tO, i1, i2] → s.heap.get? c = some o → h'.get? c = some o := fun c o hc e => kp c o (fun hm => hc (by
      simp only [List.mem_cons, List.not_mem_nil, or_false] at hm ⊢
      rcases hm with h | h | h | h <;> simp [h])) e
    have J : Inv X pins σ (upd H T (.tup [u, v])) { s with heap := h', toks := tk } := I.turnedNew (t' := tk) (ch := [z, ti, tO, i1, i2]) sub hf hT new
    refine ⟨.ref T, _, J, rfl, ⟨T, u, v, rfl, I.hok.fresh hT, rfl, fun l hl => by rw [I.list_inj hl hus]; exact hu, fun l hl => by rw [I.tuple_inj hl hws]; exact hv⟩, ⟨st'.1, st'.2.1, st'.2.2.1, st'.2.2.2.1.1, st'.2.2.2.2.1⟩, fun c hcm => ?_⟩
    have hlt : c < s.heap.objs.size := by
      simp only [List.mem_cons, List.not_mem_nil, or_false] at hcm
      obtain ⟨_, _, t3⟩ := t3
      rcases hcm with rfl | rfl | rfl | rfl | rfl
      · exact Heap.lt_size t1
      · exact Heap.lt_size t2
      · exact Heap.lt_size t3
      · obtain ⟨_, e, _⟩ := u1; exact Heap.lt_size e
      · obtain ⟨_, e, _⟩ := u2; exact Heap.lt_size e
    rw [upd_ne (Nat.ne_of_lt (Nat.lt_of_lt_of_le hlt hT))]
    exact (hf c hcm).1
  done := by
    intro X hP hw hK hc i pins s σ H E I hf st hg
    subst hP hw hK
    obtain ⟨t1, t2, t3, u1, u2⟩ := st
    obtain ⟨us, ws, hus, hws, hend⟩ := hg
    obtain ⟨its, rv, p, _⟩ := I.list hus
    obtain ⟨its2, rv2, p2, _⟩ := I.tuple hws
    have hh : X.A.in1.handled = none := I.ok.hd hc
    have l1 : its.toArray.size = us.length := by rw [rv.length]; simp
    have l2 : its2.toArray.size = ws.length := by rw [rv2.length]; simp
    have na := ne_li u1 p.isList
    have nb := ne_ti u2 p2
    have fin : ∀ (h' : Heap) (tk : Nat), (∀ c o, c ∉ [z, tO, i1, i2] → s.heap.get? c = some o → h'.get? c = some o) → s.toks ≤ tk → Inv X pins σ H { s with heap := h', toks := tk } := fun h' tk kp _ =>
      I.turnedL (t' := tk) (ch := [z, ti, tO, i1, i2]) (fun c o hc e => kp c o (fun hm => hc (by
        simp only [List.mem_cons, List.not_mem_nil, or_false] at hm ⊢
        rcases hm with h | h | h | h <;> simp [h])) e) hf
    by_cases h1 : us.length ≤ i
    · have x1 : its.toArray[i]? = none := Array.getElem?_eq_none (by omega)
      by_cases h2 : ws.length ≤ i
      · have x2 : its2.toArray[i]? = none := Array.getElem?_eq_none (by omega)
        have G := GoesN.zip2 (elts := elts) (x1 := kk) (pos := tpos) D.s (drop_l (P := X.prog) (w := X.w) hh i1 a its.toArray i x1) (drop_t (P := X.prog) (w := X.w) hh i2 b its2.toArray i x2)
        have e : min i i = i := Nat.min_self i
        exact G.stops s _ E (by rw [e]; exact ⟨t1, t2, t3, ⟨rfl, u1, p.isList⟩, ⟨rfl, u2, p2⟩⟩) fin
      · have G := GoesN.zip2 (elts := elts) (x1 := kk) (pos := tpos) D.s (drop_l (P := X.prog) (w := X.w) hh i1 a its.toArray i x1) (Draws.tuple (prog := X.prog) (w := X.w) hh i2 b nb its2.toArray)
        have e : min i its2.toArray.size = i := by omega
        exact G.stops s _ E (by rw [e]; exact ⟨t1, t2, t3, ⟨rfl, u1, p.isList⟩, ⟨u2, p2⟩⟩) fin
    · have h2 : ws.length ≤ i := hend.resolve_left h1
      have x2 : its2.toArray[i]? = none := Array.getElem?_eq_none (by omega)
      have G := GoesN.zip2 (elts := elts) (x1 := kk) (pos := tpos) D.s (Draws.list (prog := X.prog) (w := X.w) hh i1 a na its.toArray) (drop_t (P := X.prog) (w := X.w) hh i2 b its2.toArray i x2)
      have e : min its.toArray.size i = i := by omega
      exact G.stops s _ E (by rw [e]; exact ⟨t1, t2, t3, ⟨u1, p.isList⟩, ⟨rfl, u2, p2⟩⟩) fin
  self := fun A i s Q E st h => wpAny_pyIter_zip st.1 h
def iZipM (K : PySem.W.Frag) (ta : TA) : TI := fun σ H R => ta σ H fun vs H1 => ∃ a b us ws, vs = [.ref a, .ref b] ∧ SqL K H1 a us ∧ SqT K H1 b ws ∧ R (ItzM K a b) H1
theorem pi_zipM {X : Cx} {e e2 : Expr} {ta : TA} {p pos tpos : Pos} {elts : List Expr} {kk : Nat} (hg : Gl X "zip") (hm : X.mg "zip" = none) (ha : PA X [e, e2] ta)
    (hs : starEach [e, e2] X.env = (false, eval e X.env) :: starEach [e2] X.env := by rfl) (hpl : (backTo pos (starEach [e2] X.env)).any (·.1) = false := by rfl) :
    PI X (.Tuple elts kk tpos) (.Call (.Name "zip" p) [e, e2] [] pos) (iZipM X.K ta) := by
  refine ⟨fun pins s σ H R I h => Call_ (ld_blt I hg hm boot_zip (callWith_type1 (thn (ha.run pos pins s σ H _ I h) fun us s1 ⟨vs, H1, I1, r1, q1⟩ => ?_) hs hpl))⟩
  obtain ⟨a, b, xs, ys, rfl, hx, hy, q⟩ := q1
  cases r1 with
  | cons ra r1 =>
  cases r1 with
  | cons rb r1 =>
  cases r1
  cases ra
  cases rb
  obtain ⟨its, rv, p1, _⟩ := I1.list hx
  obtain ⟨its2, rv2, p2, _⟩ := I1.tuple hy
  have big : ∀ c, c ∈ [s1.heap.objs.size + 4, s1.heap.objs.size + 2, s1.heap.objs.size + 3, s1.heap.objs.size, s1.heap.objs.size + 1] → FpOk X pins H1 c := fun c hc => by
    have le : s1.heap.objs.size ≤ c := by
      simp only [List.mem_cons, List.not_mem_nil, or_false] at hc
      rcases hc with h | h | h | h | h <;> rw [h]
      · exact Nat.le_add_right _ _
      · exact Nat.le_add_right _ _
      · exact Nat.le_add_right _ _
      · exact Nat.le_refl _
      · exact Nat.le_add_right _ _
    exact I1.fpOk le (I1.hok.fresh le)
  have lt2 : b < s1.heap.objs.size := by obtain ⟨o, ho, _⟩ := id p2; exact Heap.lt_size ho
  have sep : SepM (s1.heap.objs.size + 4) (s1.heap.objs.size + 2) (s1.heap.objs.size + 3) s1.heap.objs.size (s1.heap.objs.size + 1) a b :=
    ⟨zip_sep2 (fp1 := [a]) (fp2 := [b]) (fun c hc => by rw [List.mem_singleton.mp hc]; exact p1.lt) (fun c hc => by rw [List.mem_singleton.mp hc]; exact lt2)⟩
  refine zip_begins2 (begins_list a its.toArray) (begins_tuple b its2.toArray) p1.isList p2 fun h' c1 c2 c3 c4 c5 _ hk => wpAny_pyIter_zip c1 ?_
  have J : Inv X pins σ H1 { s1 with heap := h' } := I1.kept (t' := s1.toks) hk
  exact ⟨s1.heap.objs.size + 4, [s1.heap.objs.size + 4, s1.heap.objs.size + 2, s1.heap.objs.size + 3, s1.heap.objs.size, s1.heap.objs.size + 1], _, _, H1, rfl, J, turn_zipM sep, ⟨c1, c2, ⟨_, _, c3⟩, ⟨_, c4, rfl, rfl⟩, ⟨_, c5, rfl, rfl⟩⟩, big, q⟩
end L3
set_option maxRecDepth 100000
namespace L3
open PySem L2
/-! ### the shadow syntax -/
inductive Ty1 where
  | bt (n : String) | own (c : Nm)
/-- what a for walks -/
inductive ItK where
  | seq | rng1 | rng2 | rng3 | enum | zip | zipM | items | values | rev | keys | str | svals | rev2
/-- built-in functions -/
inductive Bi where
  | len | all | any | sorted | list | dict | min | max | int | str | tuple | sum | abs | minD | maxD | lenSet | sortK | dictP
/-- built-in methods -/
inductive Bm where
  | append | get | pop | join | items | extend | setdefault | split | update | insert | clear | index | startswith | values | count | remove | clearK
inductive Tg where
  | nm (i : Nat) | tp (is : List Nat)
inductive SE where
  | non | bl (b : Bool) | int (i : Int) | str (x : Str)
  | var (i : Nat)
  | gl (n : Nm)
  | bin (op : Operator) (a b : SE)
  | cat (a b : SE)
  | neg (a : SE)
  | not (a : SE)
  | bop (k : Bool) (es : List SE)
  | cmp (op : CmpOp) (a b : SE)
  | chain (o1 o2 : CmpOp) (a b c : SE)
  | ix (a i : SE)
  | sl (a lo hi : SE)
  | rev (m : Bool) (a : SE)
  | lrng (m : Bool) (k : ItK) (es : List SE)
  | cmpK (ne : Bool) (a b : SE)
  | cmpS (ne : Bool) (a b : SE)
  | cmpV (ne : Bool) (a b : SE)
  | mnD (m : Bool) (a b : SE)
  | fld (a : SE) (f : Nm)
  | lst (m : Bool) (es : List SE)
  | tup (es : List SE)
  | dnew (m t : Bool)
  | dct (m : Bool) (ks : List PySem.Str) (vs : List SE)
  | dct1 (m : Bool) (k v : SE)
  | lset (a : SE)
  | comp (m : Bool) (tg : Tg) (k : ItK) (es : List SE) (c : SE) (e : SE)
  | call (m : Bool) (f : Nm) (es : List SE)
  | mk (m : Bool) (c : Nm) (es : List SE)
  | meth (m : Bool) (o : SE) (f : Nm) (es : List SE)
  | bi (m : Bool) (f : Bi) (es : List SE)
  | bm (m : Bool) (o : SE) (f : Bm) (es : List SE)
  | isi (e : SE) (tp : Bool) (ts : List Ty1)
  | isx (i : Nat) (tp : Bool) (ts : List Ty1)
  | fldx (i : Nat) (f : Nm)
inductive SS where
  | asg (i : Nat) (e : SE)
  | asgT (is : List Nat) (e : SE)
  | asgL (is : List Nat) (e : SE)
  | par (is : List Nat) (es : List SE)
  | asgF (o : SE) (f : Nm) (e : SE)
  | asgI (o i e : SE)
  | aug (i : Nat) (op : Operator) (e : SE)
  | augF (o : SE) (f : Nm) (op : Operator) (e : SE)
  | augI (o i : SE) (op : Operator) (e : SE)
  | exp (e : SE)
  | ret (e : SE)
  | retN
  | ifs (c : SE) (a b : List SS)
  | whl (c : SE) (b : List SS)
  | fors (tg : Tg) (k : ItK) (es : List SE) (b : List SS)
  | raise (c : Nm) (es : List SE)
  | tryx (b : List SS) (c : Nm) (n : Option Nat) (h : List SS)
  | pass | brk | cont
  | frz (i : Nat)
/-! ### helpers over data -/
abbrev Env := List (Option D)
structure XD where
  c : Nm
  fs : List (Nm × D)
abbrev QD := D → Mm → Prop
abbrev QX := XD → Mm → Prop
abbrev SpD := List D → Mm → QD → QX → Prop
def lk {α : Type} : List (Nm × α) → Nm → Option α
  | [], _ => none
  | (a, b) :: r, n => if a = n then some b else lk r n
def lk2 {α : Type} : List (Nm × Nm × α) → Nm → Nm → Option α
  | [], _, _ => none
  | (a, a', b) :: r, n, n' => if a = n ∧ a' = n' then some b else lk2 r n n'
/-- what a def's proof leans on -/
structure Tab where
  fn : List (Nm × SpD) := []
  mt : List (Nm × Nm × SpD) := []
  cl : List (Nm × SpD) := []
  gl : List (Nm × D) := []
  /-- classes and those above them, themselves too -/
  sub : List (Nm × List Nm) := []
  /-- classes and their fields -/
  fl : List (Nm × List Nm) := []
  /-- exception classes and their fields -/
  xc : List (Nm × List Nm) := []
  /-- classes of instances and those above them, themselves too -/
  isn : List (Nm × List Nm) := []
  /-- classes that isinstance may be asked of -/
  own : List Nm := []
def lstD (M : Mm) : D → Option (List D)
  | .lst ds => some ds
  | .ref a => match M a with
    | some (.lst ds) => some ds
    | _ => none
  | _ => none
def seqD (M : Mm) : D → Option (List D)
  | .lst ds => some ds
  | .ro _ ds => some ds
  | .tup ds => some ds
  | .ref a => match M a with
    | some (.lst ds) => some ds
    | _ => none
  | _ => none
def dctD (M : Mm) : D → Option (Bool × List (D × D))
  | .dct t ds => some (t, ds)
  | .ref a => match M a with
    | some (.dct t ds) => some (t, ds)
    | _ => none
  | _ => none
def insD (M : Mm) : D → Option (Nm × List (Nm × D))
  | .ins c fs => some (c, fs)
  | .ref a => match M a with
    | some (.ins c fs) => some (c, fs)
    | _ => none
  | _ => none
def truD (M : Mm) : D → Option Bool
  | .non => some false
  | .bl b => some b
  | .int i => some (i != 0)
  | .lst ds => some (!ds.isEmpty)
  | .ro _ ds => some (!ds.isEmpty)
  | .tup ds => some (!ds.isEmpty)
  | .ref a => match M a with
    | some (.lst ds) => some (!ds.isEmpty)
    | _ => none
  | _ => none
/-- data without places, to a depth -/
def pu : Nat → D → Bool
  | _, .non => true
  | _, .bl _ => true
  | _, .int _ => true
  | _, .str x => PyData.strOk x
  | _, .ref _ => false
  | n, .tup ds => decide (0 < n) && puL (n - 1) ds
  | n, .lst ds => decide (0 < n) && puL (n - 1) ds
  | _, .dct _ _ => false
  | _, .ins _ _ => false
  | _, .exc _ _ => false
  | _, .ro _ _ => false
where puL : Nat → List D → Bool
  | _, [] => true
  | n, d :: r => pu n d && puL n r
/-- Python's == over such -/
def eqv : D → D → Bool
  | .non, .non => true
  | .bl a, .bl b => a == b
  | .bl a, .int j => (if a then 1 else 0) == j
  | .int i, .bl b => i == (if b then 1 else 0)
  | .int i, .int j => i == j
  | .str x, .str y => x == y
  | .lst xs, .lst ys => eqvL xs ys
  | .tup xs, .tup ys => eqvL xs ys
  | _, _ => false
where eqvL : List D → List D → Bool
  | [], [] => true
  | x :: xs, y :: ys => eqv x y && eqvL xs ys
  | _, _ => false
/-- places read -/
def rs (M : Mm) : D → D
  | .non => .non
  | .bl b => .bl b
  | .int i => .int i
  | .str x => .str x
  | .ref a => match M a with
    | some (.lst ds) => .lst ds
    | _ => .ref a
  | .tup ds => .tup (rsL M ds)
  | .lst ds => .lst (rsL M ds)
  | .dct t kvs => .dct t kvs
  | .ins c fs => .ins c fs
  | .exc c fs => .exc c fs
  | .ro t ds => match t with
    | true => .tup (rsL M ds)
    | false => .lst (rsL M ds)
where rsL (M : Mm) : List D → List D
  | [] => []
  | d :: r => rs M d :: rsL M r
def flatD : D → Bool
  | .non => true
  | .bl _ => true
  | .int _ => true
  | .str _ => true
  | _ => false
def getF : List (Nm × D) → Nm → Option D := lk
def putF : List (Nm × D) → Nm → D → List (Nm × D)
  | [], n, d => [(n, d)]
  | (a, b) :: r, n, d => if a = n then (a, d) :: r else (a, b) :: putF r n d
/-- a key of a dict: an int, a text; with t a tuple of such -/
def flatKey : D → Bool
  | .int _ => true
  | .str _ => true
  | _ => false
def keyOk (t : Bool) : D → Bool
  | .int _ => !t
  | .str _ => !t
  | .tup ds => t && ds.all flatKey
  | _ => false
def eqKey : D → D → Bool
  | .int i, .int j => decide (i = j)
  | .str i, .str j => decide (i = j)
  | .tup xs, .tup ys => eqKeyL xs ys
  | _, _ => false
where eqKeyL : List D → List D → Bool
  | [], [] => true
  | x :: xs, y :: ys => eqKey x y && eqKeyL xs ys
  | _, _ => false
def getK : List (D × D) → D → Option D
  | [], _ => none
  | (a, b) :: r, k => if eqKey a k = true then some b else getK r k
def putK (kvs : List (D × D)) (k d : D) : List (D × D) :=
  if (kvs.any fun p => eqKey p.1 k) = true then kvs.map (fun p => if eqKey p.1 k = true then (p.1, d) else p) else kvs ++ [(k, d)]
def mrgK (ks ls : List (D × D)) : List (D × D) := ls.foldl (fun acc p => putK acc p.1 p.2) ks
/-! ### combinators that are run from the head on -/
def obn {α : Type} (o : Option α) (P : α → Prop) : Prop :=
  match o with
  | some a => P a
  | none => False
def br (b : Bool) (A B : Prop) : Prop :=
  match b with
  | true => A
  | false => B
def cnd (A B : Prop) : Prop := A ∧ B
theorem br_false {A B : Prop} : br false A B = B := rfl
/-! ### what comes of values -/
/-- a new list: one that may change, or one that stands -/
def alL (m : Bool) (ds : List D) (M : Mm) (Q : QD) : Prop :=
  match m with
  | true => ∀ a, M a = none → Q (.ref a) (up M a (.lst ds))
  | false => Q (.lst ds) M
def alK (m t : Bool) (kvs : List (D × D)) (M : Mm) (Q : QD) : Prop :=
  match m with
  | true => ∀ a, M a = none → Q (.ref a) (up M a (.dct t kvs))
  | false => Q (.dct t kvs) M
theorem alK_false {t : Bool} {ds : List (D × D)} {M : Mm} {Q : QD} : alK false t ds M Q = Q (.dct t ds) M := rfl
/-- what a call tells: with m as it is, else it stands from now on -/
def frz1 (m : Bool) (d : D) (M : Mm) (Q : QD) : Prop :=
  match m with
  | true => Q d M
  | false => match d with
    | .ref a => match M a with
      | some (.lst ds) => Q (.lst ds) (del M a)
      | some (.dct t kvs) => Q (.dct t kvs) (del M a)
      | some (.ins c fs) => Q (.ins c fs) (del M a)
      | none => Q (.ref a) M
    | d => Q d M
theorem frz1_up {a : Addr} {ds : List D} {M : Mm} {Q : QD} (h : M a = none) : frz1 false (.ref a) (up M a (.lst ds)) Q = Q (.lst ds) M := by
  simp [frz1, up_same, del_up h]
theorem frz1_upk {a : Addr} {t : Bool} {ds : List (D × D)} {M : Mm} {Q : QD} (h : M a = none) : frz1 false (.ref a) (up M a (.dct t ds)) Q = Q (.dct t ds) M := by
  simp [frz1, up_same, del_up h]
theorem frz1_upi {a : Addr} {c : Nm} {fs : List (Nm × D)} {M : Mm} {Q : QD} (h : M a = none) : frz1 false (.ref a) (up M a (.ins c fs)) Q = Q (.ins c fs) M := by
  simp [frz1, up_same, del_up h]
def intQ (x y : D) (P : Int → Int → Prop) : Prop :=
  match x with
  | .int i => match y with
    | .int j => P i j
    | _ => False
  | _ => False
def catD (m : Bool) (x y : D) (M : Mm) (Q : QD) : Prop :=
  obn (lstD M x) fun xs => obn (lstD M y) fun ys => cnd (xs.length + ys.length ≤ sizeLine) (alL m (xs ++ ys) M Q)
def addD (m : Bool) (x y : D) (M : Mm) (Q : QD) : Prop :=
  match x with
  | .int i => match y with
    | .int j => Q (.int (i + j)) M
    | _ => False
  | .str i => match y with
    | .str j => cnd (i.length + j.length ≤ sizeLine) (Q (.str (i ++ j)) M)
    | _ => False
  | .tup xs => match y with
    | .tup ys => cnd (xs.length + ys.length ≤ sizeLine) (Q (.tup (xs ++ ys)) M)
    | _ => False
  | .lst xs => catD m (.lst xs) y M Q
  | .ref a => catD m (.ref a) y M Q
  | _ => False
def binD (m : Bool) (op : Operator) (x y : D) (M : Mm) (Q : QD) : Prop :=
  match op with
  | .Add => addD m x y M Q
  | .Sub => intQ x y fun i j => Q (.int (i - j)) M
  | .Mult => intQ x y fun i j => cnd (CMul i j ∨ CMulW i j) (Q (.int (i * j)) M)
  | .FloorDiv => intQ x y fun i j => cnd (CDivW i j) (Q (.int (i / j)) M)
  | .Mod => intQ x y fun i j => cnd (0 < j) (Q (.int (i % j)) M)
  | .Pow => intQ x y fun i j => cnd (CPow i j) (Q (.int (i ^ j.toNat)) M)
  | .BitAnd => intQ x y fun i j => Q (.int (Builtin.bitAnd i j)) M
  | .RShift => intQ x y fun i j => cnd (0 ≤ j) (Q (.int (i / 2 ^ j.toNat)) M)
  | _ => False
def eqQ (x y : D) (M : Mm) (Q : Bool → Prop) : Prop :=
  cnd (pu 60 (rs M (rs M x)) = true) (cnd (pu 60 (rs M (rs M y)) = true) (Q (eqv (rs M (rs M x)) (rs M (rs M y)))))
def intsD : List D → Option (List Int)
  | [] => some []
  | .int i :: r => match intsD r with
    | some is => some (i :: is)
    | none => none
  | _ :: _ => none
def boolsD : List D → Option (List Bool)
  | [] => some []
  | .bl i :: r => match boolsD r with
    | some is => some (i :: is)
    | none => none
  | _ :: _ => none
theorem intsD_map (is : List Int) : intsD (is.map .int) = some is := by
  induction is with
  | nil => rfl
  | cons i r ih => simp [intsD, ih]
theorem boolsD_map (is : List Bool) : boolsD (is.map .bl) = some is := by
  induction is with
  | nil => rfl
  | cons i r ih => simp [boolsD, ih]
def ltQ (x y : D) (Q : Bool → Prop) : Prop :=
  match x with
  | .int i => match y with
    | .int j => Q (decide (i < j))
    | _ => False
  | .str i => match y with
    | .str j => Q (decide (i.cps.toList < j.cps.toList))
    | _ => False
  | .tup xs => match y with
    | .tup ys => obn (intsD xs) fun is => obn (intsD ys) fun js => Q (HT.lexLt is js)
    | _ => False
  | _ => False
def inQ (x y : D) (M : Mm) (Q : Bool → Prop) : Prop :=
  match dctD M y with
  | some (t, kvs) => cnd (keyOk t x = true) (Q (getK kvs x).isSome)
  | none => match y with
    | .str t => match x with
      | .str s => Q (!(Builtin.Str.occurrences t s 0 t.length 1).isEmpty)
      | _ => False
    | .tup ds => cnd (flatD x = true) (cnd (ds.all flatD = true) (Q (ds.any fun z => eqv z x)))
    | .ro true ds => cnd (flatD x = true) (cnd (ds.all flatD = true) (Q (ds.any fun z => eqv z x)))
    | y => obn (seqD M y) fun ds => cnd (pu 59 (rs M x) = true) (cnd (pu 59 (.lst ds) = true) (Q (ds.any fun z => eqv z (rs M x))))
def isQ (x y : D) (Q : Bool → Prop) : Prop :=
  match y with
  | .non => match x with
    | .non => Q true
    | _ => Q false
  | .bl b => match x with
    | .bl a => Q (decide (a = b))
    | _ => False
  | _ => False
def cmpD (op : CmpOp) (x y : D) (M : Mm) (Q : Bool → Prop) : Prop :=
  match op with
  | .Eq => eqQ x y M Q
  | .NotEq => eqQ x y M fun b => Q (!b)
  | .Lt => ltQ x y Q
  | .LtE => intQ x y fun i j => Q (decide (i ≤ j))
  | .Gt => intQ x y fun i j => Q (decide (j < i))
  | .GtE => intQ x y fun i j => Q (decide (j ≤ i))
  | .Is => isQ x y Q
  | .IsNot => isQ x y fun b => Q (!b)
  | .In => inQ x y M Q
  | .NotIn => inQ x y M fun b => Q (!b)
def ixD (x i : D) (M : Mm) (Q : D → Prop) : Prop :=
  match dctD M x with
  | some (t, kvs) => cnd (keyOk t i = true) (obn (getK kvs i) Q)
  | none => match i with
    | .int n => match x with
      | .str z => cnd (z.length ≤ sizeLine) (obn (atI z.cps.toList n) fun c => Q (.str ⟨#[c]⟩))
      | x => obn (seqD M x) fun ds => obn (atI ds n) Q
    | _ => False
def isNon : SE → Bool
  | .non => true
  | _ => false
def endD (s : SE) (d : D) : Option (Option Int) :=
  match isNon s with
  | true => some none
  | false => match d with
    | .int i => some (some i)
    | _ => none
def cut {α : Type} (xs : List α) (lo hi : Option Int) : List α := (xs.drop (HT.sIx xs.length 0 lo)).take (HT.sIx xs.length xs.length hi - HT.sIx xs.length 0 lo)
def slD (m : Bool) (x : D) (lo hi : Option Int) (M : Mm) (Q : QD) : Prop :=
  match x with
  | .str z => cnd (z.length ≤ sizeLine) (Q (.str ⟨(cut z.cps.toList lo hi).toArray⟩) M)
  | .tup ds => Q (.tup (cut ds lo hi)) M
  | .ro true _ => False
  | x => obn (seqD M x) fun ds => alL m (cut ds lo hi) M Q
def revD (m : Bool) (x : D) (M : Mm) (Q : QD) : Prop :=
  match x with
  | .tup _ => False
  | .ro true _ => False
  | x => obn (seqD M x) fun ds => alL m ds.reverse M Q
/-- dicts at places that may change, alike -/
def dkD (M : Mm) : D → Option (List (D × D))
  | .ref a => match M a with
    | some (.dct false kvs) => some kvs
    | _ => none
  | _ => none
def SameK (ks ls : List (D × D)) : Prop := ks.length = ls.length ∧ ∀ p ∈ ks, getK ls p.1 = some p.2 ∧ flatD p.2 = true
def eqK (x y : D) (M : Mm) (P : Prop) : Prop := obn (dkD M x) fun ks => obn (dkD M y) fun ls => cnd (SameK ks ls) P
/-- lists of the very same places -/
def SameR (xs ys : List D) : Prop := xs = ys ∧ ∀ d ∈ xs, ∃ a, d = .ref a
def eqS (x y : D) (M : Mm) (P : Prop) : Prop := obn (lstD M x) fun xs => obn (lstD M y) fun ys => cnd (SameR xs ys) P
/-- == tells True: to a depth -/
def AL (M : Mm) : Nat → D → D → Prop
  | 0, x, y => flatD x = true ∧ x = y
  | n + 1, x, y => (flatD x = true ∧ x = y) ∨ (∃ a, x = .ref a ∧ y = .ref a) ∨
    (∃ xs ys, lstD M x = some xs ∧ lstD M y = some ys ∧ xs.length = ys.length ∧ ∀ (j : Nat) u w, xs[j]? = some u → ys[j]? = some w → AL M n u w) ∨
    (∃ xs ys, x = .tup xs ∧ y = .tup ys ∧ xs.length = ys.length ∧ ∀ (j : Nat) u w, xs[j]? = some u → ys[j]? = some w → AL M n u w) ∨
    ∃ ks ls, dctD M x = some (false, ks) ∧ dctD M y = some (false, ls) ∧ ks.length = ls.length ∧ ∀ p ∈ ks, ∃ w, getK ls p.1 = some w ∧ AL M n p.2 w
/-- two lists, two tuples, two dicts that are alike -/
def AT (M : Mm) (n : Nat) (x y : D) : Prop :=
  (∃ xs ys, lstD M x = some xs ∧ lstD M y = some ys ∧ xs.length = ys.length ∧ ∀ (j : Nat) u w, xs[j]? = some u → ys[j]? = some w → AL M n u w) ∨
  (∃ xs ys, x = .tup xs ∧ y = .tup ys ∧ xs.length = ys.length ∧ ∀ (j : Nat) u w, xs[j]? = some u → ys[j]? = some w → AL M n u w) ∨
  ∃ ks ls, dctD M x = some (false, ks) ∧ dctD M y = some (false, ls) ∧ ks.length = ls.length ∧ ∀ p ∈ ks, ∃ w, getK ls p.1 = some w ∧ AL M n p.2 w
def alkQ (x y : D) (M : Mm) (P : Prop) : Prop := cnd (∃ n, n ≤ 60 ∧ AT M n x y) P
def sumI : List Int → Int
  | [] => 0
  | i :: r => i + sumI r
def minI : List Int → Int
  | [] => 0
  | [i] => i
  | i :: j :: r => min i (minI (j :: r))
def maxI : List Int → Int
  | [] => 0
  | [i] => i
  | i :: j :: r => max i (maxI (j :: r))
/-- min, max with a default: of no numbers -/
def mndQ (mx : Bool) (x y : D) (M : Mm) (Q : QD) : Prop := obn (lstD M x) fun ds => obn (intsD ds) fun is => br is.isEmpty (Q y M) (Q (.int (match mx with | true => maxI is | false => minI is)) M)
/-- each once -/
def nubL {α : Type} [DecidableEq α] : List α → List α
  | [] => []
  | x :: r => if x ∈ r then nubL r else x :: nubL r
/-- pairs of ints -/
def prs : List D → Option (List (Int × Int))
  | [] => some []
  | .tup [.int i, .int j] :: r => match prs r with
    | some is => some ((i, j) :: is)
    | none => none
  | _ :: _ => none
def leP (p q : Int × Int) : Bool := decide (p.1 < q.1) || (decide (p.1 = q.1) && decide (p.2 ≤ q.2))
def prD (p : Int × Int) : D := .tup [.int p.1, .int p.2]
theorem prs_map (ps : List (Int × Int)) : prs (ps.map prD) = some ps := by
  induction ps with
  | nil => rfl
  | cons i r ih => simp [prs, prD, ih]
/-- len(set(..)) of pairs, of a tuple of ints -/
def lsetQ (x : D) (M : Mm) (Q : QD) : Prop :=
  match x with
  | .tup ds => obn (intsD ds) fun is => cnd (is.length < 64) (Q (.int ((nubL is).length : Nat)) M)
  | x => obn (lstD M x) fun ds => obn (prs ds) fun ps => cnd (ps.length < 64) (Q (.int ((nubL ps).length : Nat)) M)
/-- len -/
def lenD (M : Mm) (x : D) : Option Int :=
  match dctD M x with
  | some (_, kvs) => some (kvs.length : Int)
  | none => match x with
    | .str z => if z.length ≤ sizeLine then some (z.length : Int) else none
    | x => match seqD M x with
      | some ds => some (ds.length : Int)
      | none => none
def srtD (ds : List D) : Option (List D) :=
  match intsD ds with
  | some is => some ((is.mergeSort fun a b => decide (a ≤ b)).map .int)
  | none => match prs ds with
    | some ps => some ((ps.mergeSort leP).map prD)
    | none => none
/-- pairs of keys and values -/
def prsK : List D → Option (List (D × D))
  | [] => some []
  | .tup [k, d] :: r => match flatKey k with
    | true => match prsK r with
      | some kvs => some ((k, d) :: kvs)
      | none => none
    | false => none
  | _ :: _ => none
def biD (m : Bool) (f : Bi) (xs : List D) (M : Mm) (Q : QD) : Prop :=
  match f with
  | .len => match xs with
    | [x] => obn (lenD M x) fun n => Q (.int n) M
    | _ => False
  | .all => match xs with
    | [x] => obn (lstD M x) fun ds => obn (boolsD ds) fun bs => Q (.bl (bs.all id)) M
    | _ => False
  | .any => match xs with
    | [x] => obn (lstD M x) fun ds => obn (boolsD ds) fun bs => Q (.bl (bs.any id)) M
    | _ => False
  | .sum => match xs with
    | [x] => obn (lstD M x) fun ds => obn (intsD ds) fun is => Q (.int (sumI is)) M
    | _ => False
  | .min => match xs with
    | [x] => obn (lstD M x) fun ds => obn (intsD ds) fun is => cnd (0 < is.length) (Q (.int (minI is)) M)
    | [x, y] => intQ x y fun i j => Q (.int (if j < i then j else i)) M
    | _ => False
  | .max => match xs with
    | [x] => obn (lstD M x) fun ds => obn (intsD ds) fun is => cnd (0 < is.length) (Q (.int (maxI is)) M)
    | [x, y] => intQ x y fun i j => Q (.int (if j > i then j else i)) M
    | _ => False
  | .abs => match xs with
    | [.int i] => Q (.int (if i < 0 then -i else i)) M
    | _ => False
  | .int => match xs with
    | [.int i] => Q (.int i) M
    | [.bl b] => Q (.int (if b then 1 else 0)) M
    | [.str x] => cnd (x.length ≤ 640) (obn (PySem.intText? x) fun n => Q (.int n) M)
    | _ => False
  | .str => match xs with
    | [.int i] => cnd (i.natAbs.log2 < 1920) (Q (.str (toString i)) M)
    | _ => False
  | .list => match xs with
    | [x] => match dctD M x with
      | some (_, kvs) => alL m (kvs.map (·.1)) M Q
      | none => obn (seqD M x) fun ds => alL m ds M Q
    | _ => False
  | .tuple => match xs with
    | [.ro true _] => False
    | [x] => obn (seqD M x) fun ds => Q (.tup ds) M
    | _ => False
  | .dict => match xs with
    | [x] => obn (dctD M x) fun p => cnd (p.1 = false) (alK m false p.2 M Q)
    | _ => False
  | .sorted => match xs with
    | [x] => obn (lstD M x) fun ds => obn (srtD ds) fun es => alL m es M Q
    | _ => False
  | .minD => False
  | .maxD => False
  | .lenSet => False
  | .dictP => match xs with
    | [x] => obn (lstD M x) fun ds => obn (prsK ds) fun kvs => alK m false (mrgK [] kvs) M Q
    | _ => False
  | .sortK => match xs with
    | [x] => obn (dctD M x) fun p => cnd (p.1 = false) (obn (intsD (p.2.map (·.1))) fun is => cnd (is.length < 64) (alL m ((is.mergeSort fun a b => decide (a ≤ b)).map .int) M Q))
    | _ => False
/-- a list at a place that may change, a dict -/
def celL (M : Mm) : D → Option (Addr × List D)
  | .ref a => match M a with
    | some (.lst ds) => some (a, ds)
    | _ => none
  | _ => none
def celK (M : Mm) : D → Option (Addr × List (D × D))
  | .ref a => match M a with
    | some (.dct false kvs) => some (a, kvs)
    | _ => none
  | _ => none
def celT (M : Mm) : D → Option (Addr × Bool × List (D × D))
  | .ref a => match M a with
    | some (.dct t kvs) => some (a, t, kvs)
    | _ => none
  | _ => none
def strsL : List D → Option (List PySem.Str)
  | [] => some []
  | .str x :: r => match strsL r with
    | some xs => some (x :: xs)
    | none => none
  | _ :: _ => none
/-- whose method it is -/
def rcvB (f : Bm) (M : Mm) (o : D) : Bool :=
  match f with
  | .append => (lstD M o).isSome
  | .extend => (lstD M o).isSome
  | .pop => (lstD M o).isSome
  | .insert => (lstD M o).isSome
  | .clear => (lstD M o).isSome
  | .index => (lstD M o).isSome
  | .count => (lstD M o).isSome
  | .remove => (lstD M o).isSome
  | .get => (dctD M o).isSome
  | .items => (dctD M o).isSome
  | .setdefault => (dctD M o).isSome
  | .update => (celK M o).isSome
  | .clearK => (celK M o).isSome
  | .values => (dctD M o).isSome
  | .join => strB o
  | .split => strB o
  | .startswith => strB o
where strB : D → Bool
  | .str _ => true
  | _ => false
/-- a built-in method: the receiver, what is handed in -/
def bmD (m : Bool) (f : Bm) (o : D) (xs : List D) (M : Mm) (Q : QD) : Prop :=
  match f with
  | .append => match xs with
    | [x] => obn (celL M o) fun p => cnd (p.2.length < sizeLine) (Q .non (up M p.1 (.lst (p.2 ++ [x]))))
    | _ => False
  | .extend => match xs with
    | [x] => obn (celL M o) fun p => obn (lstD M x) fun es => cnd (p.2.length + es.length ≤ sizeLine) (Q .non (up M p.1 (.lst (p.2 ++ es))))
    | _ => False
  | .clear => match xs with
    | [] => obn (celL M o) fun p => Q .non (up M p.1 (.lst []))
    | _ => False
  | .clearK => match xs with
    | [] => obn (celK M o) fun p => Q .non (up M p.1 (.dct false []))
    | _ => False
  | .setdefault => match xs with
    | [k, d] => obn (celT M o) fun p => cnd (keyOk p.2.1 k = true) (cnd (p.2.2.length < sizeLine) (match getK p.2.2 k with
      | some v => Q v M
      | none => Q d (up M p.1 (.dct p.2.1 (putK p.2.2 k d)))))
    | _ => False
  | .count => match xs with
    | [x] => obn (lstD M o) fun ds => cnd (pu 59 (rs M x) = true) (cnd (pu 59 (.lst ds) = true) (Q (.int (ds.countP fun z => eqv z (rs M x) : Nat)) M))
    | _ => False
  | .insert => match xs with
    | [.int i, x] => obn (celL M o) fun p => cnd (p.2.length < sizeLine) (cnd (0 ≤ i ∧ i < 2 ^ 63) (Q .non (up M p.1 (.lst (p.2.take i.toNat ++ [x] ++ p.2.drop i.toNat)))))
    | _ => False
  | .join => match o with
    | .str a => match xs with
      | [x] => obn (seqD M x) fun ds => obn (strsL ds) fun ys => cnd ((ys.map (·.length)).sum + ys.length * a.length ≤ 16777216) (Q (.str (Txt.join a ys)) M)
      | _ => False
    | _ => False
  | .split => match o with
    | .str a => match xs with
      | [.str b] => cnd ((b.length == 0) = false) (cnd (a.length + 2 ≤ sizeLine) (alL m ((Txt.split a b).map .str) M Q))
      | _ => False
    | _ => False
  | .startswith => match o with
    | .str a => match xs with
      | [.str b] => Q (.bl (Txt.startswith a b)) M
      | _ => False
    | _ => False
  | .pop => match xs with
    | [] => obn (celL M o) fun p => obn p.2[p.2.length - 1]? fun d => Q d (up M p.1 (.lst p.2.dropLast))
    | [.int i] => obn (celL M o) fun p => cnd (-(2 ^ 63) ≤ i ∧ i < 2 ^ 63) (obn (ixN p.2.length i) fun k => obn p.2[k]? fun d => Q d (up M p.1 (.lst (p.2.eraseIdx k))))
    | _ => False
  | .get => match xs with
    | [k] => obn (dctD M o) fun p => cnd (keyOk p.1 k = true) (Q ((getK p.2 k).getD .non) M)
    | [k, d] => obn (dctD M o) fun p => cnd (keyOk p.1 k = true) (Q ((getK p.2 k).getD d) M)
    | _ => False
  | .update => match xs with
    | [x] => obn (celK M o) fun p => obn (dctD M x) fun q => cnd (q.1 = false) (cnd (x ≠ o) (cnd (p.2.length + q.2.length ≤ sizeLine) (Q .non (up M p.1 (.dct false (mrgK p.2 q.2))))))
    | _ => False
  | _ => False
def rngL (lo : Int) (n : Nat) : List D := (List.range n).map fun i => .int (lo + (i : Nat))
def enumFrom : Nat → List D → List D
  | _, [] => []
  | n, d :: r => .tup [.int (n : Int), d] :: enumFrom (n + 1) r
def zipL : List D → List D → List D
  | x :: xs, y :: ys => .tup [x, y] :: zipL xs ys
  | _, _ => []
def itmD : D → Option (List D)
  | .dct t kvs => match t with
    | false => some (kvs.map fun p => .tup [p.1, p.2])
    | true => none
  | _ => none
def valD : D → Option (List D)
  | .dct t kvs => match t with
    | false => some (kvs.map (·.2))
    | true => none
  | _ => none
def keyL : D → Option (List D)
  | .dct _ kvs => some (kvs.map (·.1))
  | _ => none
def strL : D → Option (List D)
  | .str z => some (z.cps.toList.map fun c => .str ⟨#[c]⟩)
  | _ => none
def zpM (M : Mm) (x : D) : D → Option (List D)
  | .tup es => match lstD M x with
    | some ds => some (zipL ds es)
    | none => none
  | _ => none
/-- a, a + c, .. (n of them) -/
def rngC (a c : Int) (n : Nat) : List D := (List.range n).map fun (i : Nat) => D.int (a + (i : Int) * c)
def rng3D : List D → Option (List D)
  | [.int a, .int b, .int c] => if (decide (c ≠ 0) && decide (c.natAbs < 1073741824) && PySem.Builtin.Range.small a b c) = true then some (rngC a c (PySem.Builtin.Range.rangeSize a b c).toNat) else none
  | _ => none
/-- sorted(d.values()), the keys tuples, the values pairs of ints -/
def svalD (M : Mm) (x : D) : Option (List D) :=
  match dctD M x with
  | some (true, kvs) => match prs (kvs.map (·.2)) with
    | some ps => some ((ps.mergeSort leP).map prD)
    | none => none
  | _ => none
/-- what a walk tells, in order -/
def itD (k : ItK) (xs : List D) (M : Mm) : Option (List D) :=
  match k with
  | .seq => match xs with
    | [x] => seqD M x
    | _ => none
  | .rng1 => match xs with
    | [.int n] => if n < 2 ^ 62 ∧ -(2 ^ 62) ≤ n then some (rngL 0 n.toNat) else none
    | _ => none
  | .rng2 => match xs with
    | [.int a, .int b] => if (-(2 ^ 62) ≤ a ∧ a < 2 ^ 62) ∧ -(2 ^ 62) ≤ b ∧ b < 2 ^ 62 then some (rngL a (b - a).toNat) else none
    | _ => none
  | .enum => match xs with
    | [x] => match lstD M x with
      | some ds => some (enumFrom 0 ds)
      | none => none
    | _ => none
  | .zip => match xs with
    | [x, y] => match lstD M x with
      | some ds => match lstD M y with
        | some es => some (zipL ds es)
        | none => none
      | none => none
    | _ => none
  | .zipM => match xs with
    | [x, y] => zpM M x y
    | _ => none
  | .items => match xs with
    | [x] => itmD x
    | _ => none
  | .values => match xs with
    | [x] => valD x
    | _ => none
  | .keys => match xs with
    | [x] => keyL x
    | _ => none
  | .str => match xs with
    | [x] => strL x
    | _ => none
  | .rev => match xs with
    | [x] => match lstD M x with
      | some ds => some ds.reverse
      | none => none
    | _ => none
  | .rng3 => rng3D xs
  | .svals => match xs with
    | [x] => svalD M x
    | _ => none
  | .rev2 => match xs with
    | [x] => match lstD M x with
      | some ds => some ds.dropLast.reverse
      | none => none
    | _ => none
def setAll : List Nat → List D → Env → Option Env
  | [], [], env => some env
  | i :: is, d :: ds, env => setAll is ds (env.set i (some d))
  | _, _, _ => none
def bindT (tg : Tg) (d : D) (M : Mm) (env : Env) : Option Env :=
  match tg with
  | .nm i => some (env.set i (some d))
  | .tp is => match d with
    | .tup ds => setAll is ds env
    | _ => none
def insT (T : Tab) (n : Nm) : Option Ty1 := match lk T.isn n with
  | some _ => some (.own n)
  | none => none
def tyD (T : Tab) (M : Mm) : D → Option Ty1
  | .non => some (.bt "NoneType")
  | .bl _ => some (.bt "bool")
  | .int _ => some (.bt "int")
  | .str _ => some (.bt "str")
  | .lst _ => some (.bt "list")
  | .ro t _ => some (.bt (if t = true then "tuple" else "list"))
  | .tup _ => some (.bt "tuple")
  | .dct false _ => some (.bt "dict")
  | .dct true _ => none
  | .ref a => match M a with
    | some (.lst _) => some (.bt "list")
    | some (.dct _ _) => some (.bt "dict")
    | some (.ins n _) => insT T n
    | none => none
  | .ins n _ => insT T n
  | .exc _ _ => none
def isT (T : Tab) (a : Ty1) (t : Ty1) : Option Bool :=
  match a with
  | .bt x => match t with
    | .bt n => some (decide (x = n) || (decide (x = "bool") && decide (n = "int")))
    | .own _ => some false
  | .own n => match t with
    | .bt x => if x = "ValueError" then none else some false
    | .own c => match lk T.isn n with
      | some l => some (decide (c ∈ l))
      | none => none
/-- of an exception -/
def isXT (T : Tab) (n : Nm) (t : Ty1) : Option Bool :=
  match t with
  | .bt x => some (decide (x = "ValueError"))
  | .own c => match lk T.sub n with
    | some l => some (decide (c ∈ l))
    | none => none
def anyT (f : Ty1 → Option Bool) : List Ty1 → Option Bool
  | [] => some false
  | t :: r => match f t with
    | some true => some true
    | some false => anyT f r
    | none => none
def isA (T : Tab) (M : Mm) (d : D) (ts : List Ty1) : Option Bool := match tyD T M d with
  | some a => anyT (isT T a) ts
  | none => none
def ownOk (T : Tab) (ts : List Ty1) : Bool := ts.all fun t => match t with
  | .bt _ => true
  | .own n => decide (n ∈ T.own)
def excE (env : Env) (i : Nat) : Option (Nm × List (Nm × D)) :=
  match env[i]? with
  | some (some (.exc n fs)) => some (n, fs)
  | _ => none
/-- a comprehension's walk -/
def compL (chk : Mm → Prop) (wc : Env → Mm → (D → Mm → Prop) → Prop) (we : Env → Mm → (D → Mm → Prop) → Prop) (tg : Tg) (env : Env) : List D → List D → Mm → (List D → Mm → Prop) → Prop
  | [], acc, M, Q => chk M ∧ Q acc M
  | x :: xs, acc, M, Q => chk M ∧ obn (bindT tg x M env) fun env' => wc env' M fun b M1 => obn (truD M1 b) fun k =>
      br k (we env' M1 fun d M2 => compL chk wc we tg env xs (acc ++ [d]) M2 Q) (compL chk wc we tg env xs acc M1 Q)
/-- a contract used -/
def ap (sp : SpD) (ds : List D) (M : Mm) (Q : QD) (E : QX) : Prop := sp ds M Q E
/-- a comprehension's and a loop's walk, not run by itself -/
def compQ (chk : List D → Mm → Prop) (wc : Env → Mm → (D → Mm → Prop) → Prop) (we : Env → Mm → (D → Mm → Prop) → Prop) (tg : Tg) (env : Env) (items : Option (List D)) (M : Mm) (Q : List D → Mm → Prop) : Prop :=
  obn items fun items => cnd (items.length ≤ sizeLine) (compL (chk items) wc we tg env items [] M Q)
def varE (env : Env) (i : Nat) : Option D :=
  match env[i]? with
  | some (some d) => some d
  | _ => none
def negD : D → Option Int
  | .int i => some (-i)
  | _ => none
def fldD (M : Mm) (x : D) (f : Nm) : Option D :=
  match insD M x with
  | some (_, fs) => getF fs f
  | none => none
mutual
def wE (T : Tab) : SE → Env → Mm → QD → QX → Prop
  | .non, _, M, Q, _ => Q .non M
  | .bl b, _, M, Q, _ => Q (.bl b) M
  | .int i, _, M, Q, _ => Q (.int i) M
  | .str x, _, M, Q, _ => Q (.str x) M
  | .var i, env, M, Q, _ => obn (varE env i) fun d => Q d M
  | .gl n, _, M, Q, _ => obn (lk T.gl n) fun d => Q d M
  | .bin op a b, env, M, Q, E => wE T a env M (fun x M1 => wE T b env M1 (fun y M2 => binD false op x y M2 Q) E) E
  | .cat a b, env, M, Q, E => wE T a env M (fun x M1 => wE T b env M1 (fun y M2 => binD true .Add x y M2 Q) E) E
  | .neg a, env, M, Q, E => wE T a env M (fun x M1 => obn (negD x) fun i => Q (.int i) M1) E
  | .not a, env, M, Q, E => wE T a env M (fun x M1 => obn (truD M1 x) fun b => Q (.bl (!b)) M1) E
  | .bop k es, env, M, Q, E => wBop T k es env M Q E
  | .cmp op a b, env, M, Q, E => wE T a env M (fun x M1 => wE T b env M1 (fun y M2 => cmpD op x y M2 fun r => Q (.bl r) M2) E) E
  | .chain o1 o2 a b c, env, M, Q, E => wE T a env M (fun x M1 => wE T b env M1 (fun y M2 => cmpD o1 x y M2 fun r =>
      br r (wE T c env M2 (fun z M3 => cmpD o2 y z M3 fun r2 => Q (.bl r2) M3) E) (Q (.bl false) M2)) E) E
  | .ix a i, env, M, Q, E => wE T a env M (fun x M1 => wE T i env M1 (fun y M2 => ixD x y M2 fun v => Q v M2) E) E
  | .sl a lo hi, env, M, Q, E => wE T a env M (fun x M1 => wE T lo env M1 (fun y M2 => obn (endD lo y) fun l => wE T hi env M2 (fun z M3 => obn (endD hi z) fun h => slD false x l h M3 Q) E) E) E
  | .rev m a, env, M, Q, E => wE T a env M (fun x M1 => revD m x M1 Q) E
  | .lrng m k es, env, M, Q, E => wEs T es env M (fun ds M1 => obn (itD k ds M1) fun xs => cnd (xs.length ≤ 1000000) (alL m xs M1 Q)) E
  | .cmpK ne a b, env, M, Q, E => wE T a env M (fun x M1 => wE T b env M1 (fun y M2 => eqK x y M2 (Q (.bl (!ne)) M2)) E) E
  | .cmpS ne a b, env, M, Q, E => wE T a env M (fun x M1 => wE T b env M1 (fun y M2 => eqS x y M2 (Q (.bl (!ne)) M2)) E) E
  | .cmpV ne a b, env, M, Q, E => wE T a env M (fun x M1 => wE T b env M1 (fun y M2 => alkQ x y M2 (Q (.bl (!ne)) M2)) E) E
  | .mnD m a b, env, M, Q, E => wE T a env M (fun x M1 => wE T b env M1 (fun y M2 => mndQ m x y M2 Q) E) E
  | .fld a f, env, M, Q, E => wE T a env M (fun x M1 => obn (fldD M1 x f) fun v => Q v M1) E
  | .lst m es, env, M, Q, E => wEs T es env M (fun ds M1 => cnd (ds.length ≤ 1000) (alL m ds M1 Q)) E
  | .tup es, env, M, Q, E => wEs T es env M (fun ds M1 => cnd (ds.length ≤ 1000) (Q (.tup ds) M1)) E
  | .dnew m t, _, M, Q, _ => alK m t [] M Q
  | .dct m ks vs, env, M, Q, E => wEs T vs env M (fun ds M1 => alK m false ((ks.map D.str).zip ds) M1 Q) E
  | .dct1 m k v, env, M, Q, E => wE T k env M (fun x M1 => wE T v env M1 (fun y M2 => cnd (keyOk false x = true) (alK m false [(x, y)] M2 Q)) E) E
  | .lset a, env, M, Q, E => wE T a env M (fun x M1 => lsetQ x M1 Q) E
  | .comp m tg k es c e, env, M, Q, E => wEs T es env M (fun ds M1 => compQ (fun items M' => itD k ds M' = some items) (fun env M Q => wE T c env M Q (fun _ _ => False)) (fun env M Q => wE T e env M Q (fun _ _ => False)) tg env (itD k ds M1) M1 fun acc M2 => alL m acc M2 Q) E
  | .call m f es, env, M, Q, E => obn (lk T.fn f) fun sp => wEs T es env M (fun ds M1 => ap sp ds M1 (fun d M2 => frz1 m d M2 Q) E) E
  | .mk m c es, env, M, Q, E => obn (lk T.cl c) fun sp => wEs T es env M (fun ds M1 => ap sp ds M1 (fun d M2 => frz1 m d M2 Q) E) E
  | .meth m o f es, env, M, Q, E => wE T o env M (fun x M1 => obn (insD M1 x) fun p => obn (lk2 T.mt p.1 f) fun sp => wEs T es env M1 (fun ds M2 => ap sp (x :: ds) M2 (fun d M3 => frz1 m d M3 Q) E) E) E
  | .bi m f es, env, M, Q, E => wEs T es env M (fun ds M1 => biD m f ds M1 Q) E
  | .bm m o f es, env, M, Q, E => wE T o env M (fun x M1 => cnd (rcvB f M1 x = true) (wEs T es env M1 (fun ds M2 => bmD m f x ds M2 Q) E)) E
  | .isi e tp ts, env, M, Q, E => cnd (ownOk T ts = true) (wE T e env M (fun x M1 => obn (isA T M1 x ts) fun b => Q (.bl b) M1) E)
  | .isx i tp ts, env, M, Q, _ => cnd (ownOk T ts = true) (obn (excE env i) fun p => cnd (p.2 = []) (obn (anyT (isXT T p.1) ts) fun b => Q (.bl b) M))
  | .fldx i f, env, M, Q, _ => obn (excE env i) fun p => obn (getF p.2 f) fun v => Q v M
def wEs (T : Tab) : List SE → Env → Mm → (List D → Mm → Prop) → QX → Prop
  | [], _, M, Q, _ => Q [] M
  | e :: r, env, M, Q, E => wE T e env M (fun d M1 => wEs T r env M1 (fun ds M2 => Q (d :: ds) M2) E) E
def wBop (T : Tab) (k : Bool) : List SE → Env → Mm → QD → QX → Prop
  | [], _, _, _, _ => False
  | [e], env, M, Q, E => wE T e env M Q E
  | e :: e' :: r, env, M, Q, E => wE T e env M (fun x M1 => obn (truD M1 x) fun b => br (b == k) (wBop T k (e' :: r) env M1 Q E) (Q x M1)) E
end
/-! ### statements -/
structure KD where
  nx : Env → Mm → Prop
  rt : D → Mm → Prop
  bk : Env → Mm → Prop := fun _ _ => False
  ct : Env → Mm → Prop := fun _ _ => False
  ex : XD → Env → Mm → Prop
def setI (o i d : D) (M : Mm) (Q : Mm → Prop) : Prop :=
  match o with
  | .ref a => match M a with
    | some (.dct t kvs) => cnd (keyOk t i = true) (cnd (kvs.length < sizeLine) (Q (up M a (.dct t (putK kvs i d)))))
    | some (.lst ds) => match i with
      | .int n => obn (ixN ds.length n) fun k => Q (up M a (.lst (ds.set k d)))
      | _ => False
    | _ => False
  | _ => False
def augD (op : Operator) (x y : D) (M : Mm) (Q : QD) : Prop :=
  match op with
  | .Add => match x with
    | .int i => match y with
      | .int j => Q (.int (i + j)) M
      | _ => False
    | _ => False
  | .Sub => intQ x y fun i j => Q (.int (i - j)) M
  | _ => False
def forL (chk : Mm → Prop) (body : KD → Env → Mm → Prop) (tg : Tg) (K : KD) : List D → Env → Mm → Prop
  | [], env, M => chk M ∧ K.nx env M
  | x :: xs, env, M => chk M ∧ obn (bindT tg x M env) fun env' =>
      body { nx := forL chk body tg K xs, rt := K.rt, bk := K.nx, ct := forL chk body tg K xs, ex := K.ex } env' M
def whN (c : Env → Mm → QD → Prop) (body : KD → Env → Mm → Prop) (K : KD) : Nat → Env → Mm → Prop
  | 0, _, _ => False
  | n + 1, env, M => c env M fun d M' => obn (truD M' d) fun b =>
      br b (body { nx := whN c body K n, rt := K.rt, bk := K.nx, ct := whN c body K n, ex := K.ex } env M') (K.nx env M')
/-- a loop, not run by itself -/
def forQ (chk : List D → Mm → Prop) (body : KD → Env → Mm → Prop) (tg : Tg) (K : KD) (items : Option (List D)) (env : Env) (M : Mm) : Prop :=
  obn items fun items => forL (chk items) body tg K items env M
def whQ (c : Env → Mm → QD → Prop) (body : KD → Env → Mm → Prop) (K : KD) (env : Env) (M : Mm) : Prop := ∃ n, whN c body K n env M
def insR (M : Mm) : D → Option (Addr × Nm × List (Nm × D))
  | .ref a => match M a with
    | some (.ins c fs) => some (a, c, fs)
    | _ => none
  | _ => none
def tupD : D → Option (List D)
  | .tup ds => some ds
  | _ => none
def KD.out (K : KD) (i : Nat) : KD := { nx := fun env M => K.nx (env.set i none) M, rt := K.rt, bk := fun env M => K.bk (env.set i none) M, ct := fun env M => K.ct (env.set i none) M, ex := K.ex }
def KD.sui (K : KD) : KD := { nx := K.nx, rt := K.rt, bk := K.bk, ct := K.ct, ex := fun _ _ _ => False }
def frzQ (i : Nat) (env : Env) (M : Mm) (Q : Env → Mm → Prop) : Prop :=
  obn (varE env i) fun d => frz1 false d M fun d' M' => Q (env.set i (some d')) M'
mutual
def wS (T : Tab) : SS → KD → Env → Mm → Prop
  | .asg i e, K, env, M => wE T e env M (fun d M' => K.nx (env.set i (some d)) M') (fun x M' => K.ex x env M')
  | .asgT is e, K, env, M => wE T e env M (fun d M' => obn (tupD d) fun ds => obn (setAll is ds env) fun env' => K.nx env' M') (fun x M' => K.ex x env M')
  | .asgL is e, K, env, M => wE T e env M (fun d M' => obn (lstD M' d) fun ds => obn (setAll is ds env) fun env' => K.nx env' M') (fun x M' => K.ex x env M')
  | .par is es, K, env, M => wEs T es env M (fun ds M' => obn (setAll is ds env) fun env' => K.nx env' M') (fun x M' => K.ex x env M')
  | .asgF o f e, K, env, M => wE T e env M (fun d M1 => wE T o env M1 (fun x M2 => obn (insR M2 x) fun p => cnd (p.2.2.length < 1000) (obn (lk T.fl p.2.1) fun l => cnd (f ∈ l) (K.nx env (up M2 p.1 (.ins p.2.1 (putF p.2.2 f d)))))) (fun x M' => K.ex x env M')) (fun x M' => K.ex x env M')
  | .asgI o i e, K, env, M => wE T e env M (fun d M1 => wE T o env M1 (fun x M2 => wE T i env M2 (fun y M3 => setI x y d M3 fun M' => K.nx env M') (fun x M' => K.ex x env M')) (fun x M' => K.ex x env M')) (fun x M' => K.ex x env M')
  | .aug i op e, K, env, M => obn (varE env i) fun x => wE T e env M (fun y M1 => augD op x y M1 fun z M' => K.nx (env.set i (some z)) M') (fun x M' => K.ex x env M')
  | .augF o f op e, K, env, M => wE T o env M (fun x M1 => obn (insR M1 x) fun p => cnd (p.2.2.length < 1000) (obn (getF p.2.2 f) fun d =>
      wE T e env M1 (fun y M2 => cnd (M2 p.1 = some (.ins p.2.1 p.2.2)) (augD op d y M2 fun z M' => K.nx env (up M' p.1 (.ins p.2.1 (putF p.2.2 f z))))) (fun x M' => K.ex x env M'))) (fun x M' => K.ex x env M')
  | .augI o i op e, K, env, M => False
  | .exp e, K, env, M => wE T e env M (fun _ M' => K.nx env M') (fun x M' => K.ex x env M')
  | .ret e, K, env, M => wE T e env M K.rt (fun x M' => K.ex x env M')
  | .retN, K, _, M => K.rt .non M
  | .ifs c a b, K, env, M => wE T c env M (fun d M' => obn (truD M' d) fun t => br t (wSs T a K env M') (wSs T b K env M')) (fun x M' => K.ex x env M')
  | .whl c b, K, env, M => whQ (fun env M Q => wE T c env M Q (fun x M' => K.ex x env M')) (fun K env M => wSs T b K env M) K env M
  | .fors tg k es b, K, env, M => wEs T es env M (fun ds M1 => forQ (fun items M' => itD k ds M' = some items) (fun K env M => wSs T b K env M) tg K (itD k ds M1) env M1) (fun x M' => K.ex x env M')
  | .raise c es, K, env, M => wEs T es env M (fun ds M' => obn (lk T.xc c) fun fs => K.ex ⟨c, fs.zip ds⟩ env M') (fun x M' => K.ex x env M')
  | .tryx b c n h, K, env, M => cnd ((lk T.sub c).isSome = true) (wSs T b { nx := K.nx, rt := K.rt, bk := K.bk, ct := K.ct, ex := (fun x env' M' => obn (lk T.sub x.c) fun l => br (decide (c ∈ l)) (match n with
        | some i => cnd (i < env'.length) (wSs T h (K.out i).sui (env'.set i (some (.exc x.c x.fs))) M')
        | none => wSs T h K.sui env' M') (K.ex x env' M')) } env M)
  | .pass, K, env, M => K.nx env M
  | .brk, K, env, M => K.bk env M
  | .cont, K, env, M => K.ct env M
  | .frz i, K, env, M => frzQ i env M K.nx
def wSs (T : Tab) : List SS → KD → Env → Mm → Prop
  | [], K, env, M => K.nx env M
  | s :: r, K, env, M => wS T s { nx := fun env M => wSs T r K env M, rt := K.rt, bk := K.bk, ct := K.ct, ex := K.ex } env M
end
/-- behind a def's end: what is told may be seen otherwise, what isn't needed is let go -/
def Frz (c : Cfg) (d : D) (M : Mm) (d' : D) (M' : Mm) : Prop :=
  ∀ Z H v, Cells (c.z Z) H M → Rep (c.z Z) H M v d → Cells (c.z Z) H M' ∧ Rep (c.z Z) H M' v d' ∧ ∀ a, M a = none → M' a = none
theorem Frz.sub {c : Cfg} {d : D} {M M' : Mm} (h : Sub M' M) : Frz c d M d M' := fun Z H v ok r => ⟨cells_sub ok h, r.stp (stp_sub fun _ n => h.none n), fun _ n => h.none n⟩
/-- what a def's body must show -/
def fnK (c : Cfg) (Q : QD) (E : QX) : KD where
  nx := fun _ M => ∃ d' M', Frz c .non M d' M' ∧ Q d' M'
  rt := fun d M => ∃ d' M', Frz c d M d' M' ∧ Q d' M'
  ex := fun x _ M => ∃ M', Sub M' M ∧ E x M'
def env0 (n : Nat) (ds : List D) : Env := ds.map some ++ List.replicate (n - ds.length) none
end L3
set_option maxRecDepth 100000
set_option maxHeartbeats 4000000
namespace L3
open PySem L2
/-! ### the shadow of a text -/
def visB (sc : Scope) (x : PySem.Str) : Bool := match sc.names.lookup x with
  | some .local => true
  | some .cell => true
  | some .free => true
  | _ => false
def locB (sc : Scope) (x : PySem.Str) : Bool := match sc.names.lookup x with
  | some .local => true
  | some .cell => true
  | _ => false
def glB (sc : Scope) (x : PySem.Str) : Bool := match sc.names.lookup x with
  | some .globalImplicit => true
  | _ => false
def nmB (x : PySem.Str) : Bool := !(x == ("__debug__" : PySem.Str)) && !(x == ("__classdict__" : PySem.Str)) && !(x == ("__name__" : PySem.Str))
def supB : Expr → Bool
  | .Call (.Name x _) [] [] _ => !(x == ("super" : PySem.Str))
  | _ => true
def Bi.s : Bi → PySem.Str
  | .len => "len" | .all => "all" | .any => "any" | .sorted => "sorted" | .list => "list" | .dict => "dict" | .min => "min" | .max => "max" | .int => "int" | .str => "str"
  | .tuple => "tuple" | .sum => "sum" | .abs => "abs" | .minD => "min" | .maxD => "max" | .lenSet => "len" | .sortK => "sorted" | .dictP => "dict"
def Bm.s : Bm → PySem.Str
  | .append => "append" | .get => "get" | .pop => "pop" | .join => "join" | .items => "items" | .extend => "extend" | .setdefault => "setdefault" | .split => "split"
  | .update => "update" | .insert => "insert" | .clear => "clear" | .index => "index" | .startswith => "startswith" | .values => "values" | .count => "count" | .remove => "remove" | .clearK => "clear"
/-- built-in names that the texts use -/
def bnames : List PySem.Str := ["len", "all", "any", "sorted", "list", "dict", "min", "max", "int", "str", "tuple", "sum", "abs", "isinstance", "range", "enumerate", "zip", "reversed", "set", "bool", "ValueError"]
def isTru : SE → Bool
  | .bl true => true
  | _ => false
def mNm (N : List PySem.Str) (sc : Scope) (i : Nat) (e : Expr) : Bool := match e with
  | .Name x _ => decide (N[i]? = some x) && locB sc x
  | _ => false
def mNms (N : List PySem.Str) (sc : Scope) : List Nat → List Expr → Bool
  | [], [] => true
  | i :: is, e :: es => mNm N sc i e && mNms N sc is es
  | _, _ => false
def mTg (N : List PySem.Str) (sc : Scope) (tg : Tg) (e : Expr) : Bool := match tg with
  | .nm i => mNm N sc i e
  | .tp is => match e with
    | .Tuple es _ _ => mNms N sc is es && decide is.Nodup
    | _ => false
def tgIx : Tg → List Nat
  | .nm i => [i]
  | .tp is => is
def ownOf (N : List PySem.Str) : Tg → List (PySem.Str × Nat)
  | .nm i => [(N.getD i "", i)]
  | .tp is => is.map fun i => (N.getD i "", i)
def tyN : Ty1 → PySem.Str
  | .bt n => PySem.Str.ofString n
  | .own c => c.s
/-- types that a value may have; that isinstance is asked of -/
def btn : List String := ["NoneType", "bool", "int", "str", "list", "tuple", "dict"]
def btt : List String := ["bool", "int", "str", "list", "tuple", "dict", "ValueError"]
def bttB : Ty1 → Bool
  | .bt n => decide (n ∈ btt)
  | .own _ => true
def mTy1 (sc : Scope) (t : Ty1) (e : Expr) : Bool := match e with
  | .Name x _ => decide (x = tyN t) && glB sc x && nmB x && bttB t
  | _ => false
def mTys (sc : Scope) : List Ty1 → List Expr → Bool
  | [], [] => true
  | t :: ts, e :: es => mTy1 sc t e && mTys sc ts es
  | _, _ => false
def mTy (sc : Scope) (tp : Bool) (ts : List Ty1) (e : Expr) : Bool := match tp with
  | false => mTys sc ts [e]
  | true => match e with
    | .Tuple es _ _ => mTys sc ts es && decide (ts.length ≤ 1000)
    | _ => false
def bmB (f : Bm) (n : Nat) : Bool := match f with
  | .append => n == 1
  | .extend => n == 1
  | .clear => n == 0
  | .setdefault => n == 2
  | .count => n == 1
  | .insert => n == 2
  | .join => n == 1
  | .split => n == 1
  | .startswith => n == 1
  | .clearK => n == 0
  | .pop => n == 0 || n == 1
  | .get => n == 1 || n == 2
  | .update => n == 1
  | _ => false
def mKs : List PySem.Str → List (Option Expr) → Bool
  | [], [] => true
  | k :: ks, some (.Constant (.str y) _ _) :: es => decide (y = k) && mKs ks es
  | _, _ => false
def isTp : Tg → Bool
  | .tp _ => true
  | .nm _ => false
/-- what a walk's source is handed -/
def itArgs (k : ItK) (tg : Tg) (sc : Scope) (it : Expr) : Option (List Expr) := match k with
  | .seq => some [it]
  | .rng1 => match it with
    | .Call (.Name f _) [b] [] _ => if (decide (f = "range") && glB sc f) = true then some [b] else none
    | _ => none
  | .rng2 => match it with
    | .Call (.Name f _) [b, d] [] _ => if (decide (f = "range") && glB sc f) = true then some [b, d] else none
    | _ => none
  | .rng3 => match it with
    | .Call (.Name f _) [b, d, e] [] _ => if (decide (f = "range") && glB sc f) = true then some [b, d, e] else none
    | _ => none
  | .enum => match it with
    | .Call (.Name f _) [b] [] _ => if (decide (f = "enumerate") && glB sc f && isTp tg) = true then some [b] else none
    | _ => none
  | .zip => match it with
    | .Call (.Name f _) [b, d] [] _ => if (decide (f = "zip") && glB sc f && isTp tg) = true then some [b, d] else none
    | _ => none
  | .zipM => match it with
    | .Call (.Name f _) [b, d] [] _ => if (decide (f = "zip") && glB sc f && isTp tg) = true then some [b, d] else none
    | _ => none
  | .keys => some [it]
  | .str => some [it]
  | .items => match it with
    | .Call (.Attribute o f p) [] [] cp => if (decide (f = "items") && supB o && (p.endLine == cp.line) && isTp tg) = true then some [o] else none
    | _ => none
  | .values => match it with
    | .Call (.Attribute o f p) [] [] cp => if (decide (f = "values") && supB o && (p.endLine == cp.line)) = true then some [o] else none
    | _ => none
  | .rev => match it with
    | .Call (.Name f _) [b] [] _ => if (decide (f = "reversed") && glB sc f) = true then some [b] else none
    | _ => none
  | .svals => none
  | .rev2 => none
mutual
def mE (N : List PySem.Str) : SE → Scope → Expr → Bool
  | .non, _, e => (match e with
    | .Constant .none _ _ => true
    | _ => false)
  | .bl b, _, e => (match e with
    | .Constant (.bool b') _ _ => decide (b' = b)
    | _ => false)
  | .int i, _, e => (match e with
    | .Constant (.int j) _ _ => decide (j = i)
    | _ => false)
  | .str x, _, e => (match e with
    | .Constant (.str y) _ _ => decide (y = x)
    | _ => false)
  | .var i, sc, e => (match e with
    | .Name x _ => decide (N[i]? = some x) && visB sc x && nmB x
    | _ => false)
  | .gl n, sc, e => (match e with
    | .Name x _ => decide (x = n.s) && glB sc x && nmB x
    | _ => false)
  | .bin op a b, sc, e => (match e with
    | .BinOp l o r _ => decide (o = op) && mE N a sc l && mE N b sc r
    | _ => false)
  | .cat a b, sc, e => (match e with
    | .BinOp l o r _ => decide (o = .Add) && mE N a sc l && mE N b sc r
    | _ => false)
  | .neg a, sc, e => (match e with
    | .UnaryOp .USub x _ => mE N a sc x
    | _ => false)
  | .not a, sc, e => (match e with
    | .UnaryOp .Not x _ => mE N a sc x
    | _ => false)
  | .bop k es, sc, e => (match e with
    | .BoolOp o vs _ => decide (o = if k = true then .And else .Or) && mEs N es sc vs
    | _ => false)
  | .cmp op a b, sc, e => (match e with
    | .Compare l [o] [r] _ => decide (o = op) && mE N a sc l && mE N b sc r
    | _ => false)
  | .chain o1 o2 a b c, sc, e => (match e with
    | .Compare l [p, q] [r, s] _ => decide (p = o1) && decide (q = o2) && mE N a sc l && mE N b sc r && mE N c sc s
    | _ => false)
  | .ix a i, sc, e => (match e with
    | .Subscript v j _ => mE N a sc v && mE N i sc j
    | _ => false)
  | .sl a lo hi, sc, e => (match e with
    | .Subscript v (.Slice l u none _) _ => mE N a sc v && (match l with
        | none => isNon lo
        | some l => !isNon lo && mE N lo sc l) && (match u with
        | none => isNon hi
        | some u => !isNon hi && mE N hi sc u)
    | _ => false)
  | .rev _ a, sc, e => (match e with
    | .Subscript v (.Slice none none (some (.UnaryOp .USub (.Constant (.int 1) _ _) _)) _) _ => mE N a sc v
    | _ => false)
  | .lrng _ k es, sc, e => (match k with
    | .svals => (match e with
      | .Call (.Name f _) [.Call (.Attribute o g p) [] [] cp] [] _ => decide (f = "sorted") && glB sc f && decide (g = "values") && supB o && (p.endLine == cp.line) && mEs N es sc [o]
      | _ => false)
    | .rev2 => (match e with
      | .Subscript v (.Slice (some (.UnaryOp .USub (.Constant (.int 2) _ _) _)) none (some (.UnaryOp .USub (.Constant (.int 1) _ _) _)) _) _ => mEs N es sc [v]
      | _ => false)
    | k => (match e with
    | .Call (.Name f _) [it] [] _ => decide (f = "list") && glB sc f && (match k with
      | .rng1 => match it with
        | .Call (.Name g _) [b] [] _ => decide (g = "range") && glB sc g && mEs N es sc [b]
        | _ => false
      | .rng2 => match it with
        | .Call (.Name g _) [b, d] [] _ => decide (g = "range") && glB sc g && mEs N es sc [b, d]
        | _ => false
      | .values => match it with
        | .Call (.Attribute o g p) [] [] cp => decide (g = "values") && supB o && (p.endLine == cp.line) && mEs N es sc [o]
        | _ => false
      | _ => false)
    | _ => false))
  | .cmpK ne a b, sc, e => (match e with
    | .Compare l [o] [r] _ => decide (o = if ne = true then .NotEq else .Eq) && mE N a sc l && mE N b sc r
    | _ => false)
  | .cmpS ne a b, sc, e => (match e with
    | .Compare l [o] [r] _ => decide (o = if ne = true then .NotEq else .Eq) && mE N a sc l && mE N b sc r
    | _ => false)
  | .cmpV ne a b, sc, e => (match e with
    | .Compare l [o] [r] _ => decide (o = if ne = true then .NotEq else .Eq) && mE N a sc l && mE N b sc r
    | _ => false)
  | .mnD m a b, sc, e => (match e with
    | .Call (.Name f _) [x] [⟨some k, y, _⟩] _ => decide (f = if m = true then "max" else "min") && decide (k = "default") && glB sc f && mE N a sc x && mE N b sc y
    | _ => false)
  | .fld a f, sc, e => (match e with
    | .Attribute v x _ => decide (x = f.s) && supB v && mE N a sc v
    | _ => false)
  | .lst _ es, sc, e => (match e with
    | .List vs _ => mEs N es sc vs
    | _ => false)
  | .tup es, sc, e => (match e with
    | .Tuple vs _ _ => mEs N es sc vs
    | _ => false)
  | .dnew _ _, _, e => (match e with
    | .Dict [] [] _ => true
    | _ => false)
  | .dct _ ks vs, sc, e => (match e with
    | .Dict ks' vs' _ => mKs ks ks' && decide (ks.Nodup) && decide (0 < ks.length) && decide (ks.length ≤ 15) && decide (ks.length = vs.length) && mEs N vs sc vs'
    | _ => false)
  | .dct1 _ k v, sc, e => (match e with
    | .Dict [some x] [y] _ => mE N k sc x && mE N v sc y
    | _ => false)
  | .lset a, sc, e => (match e with
    | .Call (.Name f _) [.Call (.Name g _) [x] [] _] [] _ => decide (f = "len") && decide (g = "set") && glB sc f && glB sc g && mE N a sc x
    | _ => false)
  | .comp _ tg k es c x, sc, e => (match e with
    | .ListComp elt [⟨t, it, ifs, a⟩] scope _ => decide (a = 0) && mTg N scope tg t && blkC N sc scope (ownOf N tg) && (match itArgs k tg sc it with
        | some as => mEs N es sc as
        | none => false) && (match ifs with
        | [] => isTru c
        | [y] => mE N c (relS scope sc) y
        | _ => false) && mE N x (relS scope sc) elt
    | _ => false)
  | .call _ f es, sc, e => (match e with
    | .Call (.Name x _) as [] _ => decide (x = f.s) && glB sc x && nmB x && mEs N es sc as
    | _ => false)
  | .mk _ f es, sc, e => (match e with
    | .Call (.Name x _) as [] _ => decide (x = f.s) && glB sc x && nmB x && mEs N es sc as
    | _ => false)
  | .meth _ o f es, sc, e => (match e with
    | .Call (.Attribute v x p) as [] cp => decide (x = f.s) && supB v && (p.endLine == cp.line) && decide (as.length < 29) && mE N o sc v && mEs N es sc as
    | _ => false)
  | .bi _ f es, sc, e => (match e with
    | .Call (.Name x _) as [] _ => decide (x = f.s) && glB sc x && nmB x && mEs N es sc as
    | _ => false)
  | .bm _ o f es, sc, e => (match e with
    | .Call (.Attribute v x p) as [] cp => bmB f es.length && decide (x = f.s) && supB v && (p.endLine == cp.line) && decide (as.length < 29) && mE N o sc v && mEs N es sc as
    | _ => false)
  | .isx i tp ts, sc, e => (match e with
    | .Call (.Name f _) [.Name x _, t] [] _ => decide (f = "isinstance") && glB sc f && decide (N[i]? = some x) && visB sc x && nmB x && mTy sc tp ts t
    | _ => false)
  | .fldx i f, sc, e => (match e with
    | .Attribute (.Name x _) y _ => decide (y = f.s) && decide (N[i]? = some x) && visB sc x && nmB x
    | _ => false)
  | .isi x tp ts, sc, e => (match e with
    | .Call (.Name f _) [y, t] [] _ => decide (f = "isinstance") && glB sc f && mE N x sc y && mTy sc tp ts t
    | _ => false)
def mEs (N : List PySem.Str) : List SE → Scope → List Expr → Bool
  | [], _, es => (match es with
    | [] => true
    | _ => false)
  | s :: ss, sc, es => (match es with
    | e :: es => mE N s sc e && mEs N ss sc es
    | _ => false)
end
/-- no star, no set, no slice, nothing that is not read here -/
def fine : Expr → Bool
  | .Starred _ _ => false
  | .Set _ _ _ => false
  | .Slice _ _ _ _ => false
  | .NamedExpr _ _ _ => false
  | .IfExp _ _ _ _ => false
  | _ => true
theorem mE_fine {N : List PySem.Str} {s : SE} {sc : Scope} {e : Expr} (h : mE N s sc e = true) : fine e = true := by
  cases e with
  | Starred _ _ => cases s <;> first | (simp [mE] at h; done) | (rename_i m k es; cases k <;> simp [mE] at h)
  | Set _ _ _ => cases s <;> first | (simp [mE] at h; done) | (rename_i m k es; cases k <;> simp [mE] at h)
  | Slice _ _ _ _ => cases s <;> first | (simp [mE] at h; done) | (rename_i m k es; cases k <;> simp [mE] at h)
  | NamedExpr _ _ _ => cases s <;> first | (simp [mE] at h; done) | (rename_i m k es; cases k <;> simp [mE] at h)
  | IfExp _ _ _ _ => cases s <;> first | (simp [mE] at h; done) | (rename_i m k es; cases k <;> simp [mE] at h)
  | _ => rfl
theorem star_cons {e : Expr} {es : List Expr} {env : PySem.Env} (h : fine e = true) : starEach (e :: es) env = (false, eval e env) :: starEach es env := by
  cases e <;> first | rfl | simp [fine] at h
theorem mEs_any {N : List PySem.Str} : ∀ {ss : List SE} {sc : Scope} {es : List Expr}, mEs N ss sc es = true → ∀ (pos : Pos) (env : PySem.Env), (backTo pos (starEach es env)).any (·.1) = false
  | [], sc, [], _ => fun _ _ => rfl
  | [], sc, e :: es, h => by simp [mEs] at h
  | s :: ss, sc, [], h => by simp [mEs] at h
  | s :: ss, sc, e :: es, h => fun pos env => by
    simp only [mEs, Bool.and_eq_true] at h
    rw [star_cons (mE_fine h.1)]
    simp only [backTo, List.map_cons, List.any_cons, Bool.false_or]
    exact mEs_any h.2 pos env
theorem nobe {op : CmpOp} {b : Expr} (h : fine b = true) : behindInMarks op b = false := by
  cases b <;> first | rfl | simp [fine] at h
theorem plainIx {b : Expr} (h : fine b = true) : PlainIx b := fun o i => by
  cases b <;> first | rfl | simp [fine] at h
theorem noSet {e : Expr} {env : PySem.Env} (h : fine e = true) (x : Value) : foldedSetIterable e env x = pure x := by
  cases e <;> first | rfl | simp [fine] at h
theorem attrB {e : Expr} {f : PySem.Str} {env : PySem.Env} (h : supB e = true) : attributeBase e f env (eval e env) = eval e env := by
  unfold attributeBase
  split
  · next id p q =>
    have e : (id != ("super" : PySem.Str)) = true := by simpa [supB] using h
    simp only [e, Bool.true_or]
    rfl
  · rfl
/-- a test that is a value's truth -/
def tstB : Expr → Bool
  | .UnaryOp .Not _ _ => false
  | .BoolOp _ _ _ => false
  | .IfExp _ _ _ _ => false
  | .Compare _ _ _ _ => false
  | _ => true
theorem tst_of {e : Expr} {env : PySem.Env} (h : tstB e = true) (whole : Sem Value) : isTrue e env whole = (do let v ← whole; standAt e.pos; holding [v] (truthy v)) := by
  cases e with
  | UnaryOp op x p => cases op <;> first | rfl | simp [tstB] at h
  | _ => first | rfl | simp [tstB] at h
end L3
set_option maxRecDepth 100000
set_option maxHeartbeats 4000000
namespace L3
open PySem L2
/-! ### representation: lists, reading -/
section
variable {c : Cfg} {H H' : Hp} {M M' : Mm}
theorem Reps.len : ∀ {vs : List V} {ds : List D}, Reps c H M vs ds → vs.length = ds.length
  | _, _, .nil => rfl
  | _, _, .cons _ r => by simp [Reps.len r]
theorem RepK.len : ∀ {vs : List (Key × V)} {ds : List (D × D)}, RepK c H M vs ds → vs.length = ds.length
  | _, _, .nil => rfl
  | _, _, .cons _ r => by simp [RepK.len r]
theorem RepT.len : ∀ {vs : List (List Key × V)} {ds : List (D × D)}, RepT c H M vs ds → vs.length = ds.length
  | _, _, .nil => rfl
  | _, _, .cons _ _ r => by simp [RepT.len r]
theorem Reps.get : ∀ {vs : List V} {ds : List D}, Reps c H M vs ds → ∀ {i : Nat} {d : D}, ds[i]? = some d → ∃ v, vs[i]? = some v ∧ Rep c H M v d
  | _, _, .nil, i, d, h => by simp at h
  | _, _, .cons a r, 0, d, h => by simp at h; subst h; exact ⟨_, rfl, a⟩
  | _, _, .cons a r, i + 1, d, h => by
    obtain ⟨v, h1, h2⟩ := Reps.get r (i := i) (d := d) (by simpa using h)
    exact ⟨v, by simpa using h1, h2⟩
theorem Reps.append : ∀ {vs : List V} {ds : List D} {ws : List V} {es : List D}, Reps c H M vs ds → Reps c H M ws es → Reps c H M (vs ++ ws) (ds ++ es)
  | _, _, _, _, .nil, h => h
  | _, _, _, _, .cons a r, h => .cons a (Reps.append r h)
theorem Reps.take : ∀ {vs : List V} {ds : List D} (n : Nat), Reps c H M vs ds → Reps c H M (vs.take n) (ds.take n)
  | _, _, 0, _ => by simp; exact .nil
  | _, _, n + 1, .nil => .nil
  | _, _, n + 1, .cons a r => .cons a (Reps.take n r)
theorem Reps.drop : ∀ {vs : List V} {ds : List D} (n : Nat), Reps c H M vs ds → Reps c H M (vs.drop n) (ds.drop n)
  | _, _, 0, h => h
  | _, _, n + 1, .nil => .nil
  | _, _, n + 1, .cons a r => Reps.drop n r
theorem Reps.set : ∀ {vs : List V} {ds : List D} (n : Nat) {v : V} {d : D}, Rep c H M v d → Reps c H M vs ds → Reps c H M (vs.set n v) (ds.set n d)
  | _, _, _, _, _, _, .nil => .nil
  | _, _, 0, _, _, h, .cons a r => .cons h r
  | _, _, n + 1, _, _, h, .cons a r => .cons a (Reps.set n h r)
theorem Reps.erase : ∀ {vs : List V} {ds : List D} (n : Nat), Reps c H M vs ds → Reps c H M (vs.eraseIdx n) (ds.eraseIdx n)
  | _, _, _, .nil => .nil
  | _, _, 0, .cons a r => r
  | _, _, n + 1, .cons a r => .cons a (Reps.erase n r)
theorem Reps.one {v : V} {d : D} (h : Rep c H M v d) : Reps c H M [v] [d] := .cons h .nil
theorem Reps.mapI : ∀ (is : List Int), Reps c H M (is.map V.int) (is.map D.int)
  | [] => .nil
  | i :: r => .cons (.int i) (Reps.mapI r)
/-- what is read as a list, a tuple, a dict -/
theorem KL.sq {a : Addr} {vs : List V} {P : Prop} (h : Rd H a (.lst vs) ∧ P ∨ KL c.K a vs) : SqL c.K H a vs := h.imp (fun q => q.1) id
theorem rep_seq (ok : Cells c H M) {v : V} {d : D} {ds : List D} (r : Rep c H M v d) (h : seqD M d = some ds) :
    ∃ a vs, v = .ref a ∧ (SqL c.K H a vs ∨ SqT c.K H a vs) ∧ vs.length ≤ sizeLine ∧ Reps c H M vs ds := by
  cases r with
  | lst h1 n z q => cases h; exact ⟨_, _, rfl, .inl (SqL.of h1), z, q⟩
  | tup h1 n z q => cases h; exact ⟨_, _, rfl, .inr (SqT.of h1), z, q⟩
  | roL h1 z q => cases h; exact ⟨_, _, rfl, .inl (KL.sq h1), z, q⟩
  | roT h1 z q => cases h; exact ⟨_, _, rfl, .inr (.inr h1), z, q⟩
  | ref a =>
    cases e : M a with
    | none => simp [seqD, e] at h
    | some x =>
      cases x with
      | lst es =>
        simp [seqD, e] at h; subst h
        cases ok.at' a _ e with
        | lst h1 z q => exact ⟨a, _, rfl, .inl (SqL.of h1), z, q⟩
      | dct t k => simp [seqD, e] at h
      | ins n f => simp [seqD, e] at h
  | _ => cases h
theorem rep_lst (ok : Cells c H M) {v : V} {d : D} {ds : List D} (r : Rep c H M v d) (h : lstD M d = some ds) :
    ∃ a vs, v = .ref a ∧ H a = some (.lst vs) ∧ vs.length ≤ sizeLine ∧ Reps c H M vs ds := by
  cases r with
  | lst h1 n z q => cases h; exact ⟨_, _, rfl, h1, z, q⟩
  | ref a =>
    cases e : M a with
    | none => simp [lstD, e] at h
    | some x =>
      cases x with
      | lst es =>
        simp [lstD, e] at h; subst h
        cases ok.at' a _ e with
        | lst h1 z q => exact ⟨a, _, rfl, h1, z, q⟩
      | dct t k => simp [lstD, e] at h
      | ins n f => simp [lstD, e] at h
  | _ => cases h
theorem rep_dct (ok : Cells c H M) {v : V} {d : D} {t : Bool} {ds : List (D × D)} (r : Rep c H M v d) (h : dctD M d = some (t, ds)) :
    ∃ a, v = .ref a ∧ ((t = false ∧ ∃ ks, Rd H a (.dK ks) ∧ ks.length ≤ sizeLine ∧ RepK c H M ks ds) ∨ (t = true ∧ ∃ ks, Rd H a (.dT ks) ∧ ks.length ≤ sizeLine ∧ RepT c H M ks ds)) := by
  cases r with
  | dK h1 n z q => cases h; exact ⟨_, rfl, .inl ⟨rfl, _, h1, z, q⟩⟩
  | dT h1 n z q => cases h; exact ⟨_, rfl, .inr ⟨rfl, _, h1, z, q⟩⟩
  | ref a =>
    cases e : M a with
    | none => simp [dctD, e] at h
    | some x =>
      cases x with
      | dct t k =>
        simp [dctD, e] at h; obtain ⟨rfl, rfl⟩ := h
        cases ok.at' a _ e with
        | dK h1 z q => exact ⟨a, rfl, .inl ⟨rfl, _, .inl h1, z, q⟩⟩
        | dT h1 z q => exact ⟨a, rfl, .inr ⟨rfl, _, .inl h1, z, q⟩⟩
      | lst k => simp [dctD, e] at h
      | ins n f => simp [dctD, e] at h
  | _ => cases h
theorem rep_ins (ok : Cells c H M) {v : V} {d : D} {n : Nm} {fs : List (Nm × D)} (r : Rep c H M v d) (h : insD M d = some (n, fs)) :
    ∃ a C dx vs, v = .ref a ∧ H a = some (.ins C dx vs) ∧ c.icls n = some C ∧ (∀ p ∈ fs, p.1 ∈ c.fl n) ∧ RepF c H M vs fs := by
  cases r with
  | ins h1 m z k q => cases h; exact ⟨_, _, _, _, rfl, h1, z, k, q⟩
  | ref a =>
    cases e : M a with
    | none => simp [insD, e] at h
    | some x =>
      cases x with
      | ins n' f =>
        simp [insD, e] at h; obtain ⟨rfl, rfl⟩ := h
        cases ok.at' a _ e with
        | ins h1 z k q => exact ⟨a, _, _, _, rfl, h1, z, k, q⟩
      | lst k => simp [insD, e] at h
      | dct t f => simp [insD, e] at h
  | _ => cases h
end
/-! ### contexts -/
/-- an exception's data -/
def XRep (c : Cfg) (H : Hp) (M : Mm) (cls : Value) (d : Option Addr) (x : XD) : Prop :=
  ∃ C, c.cls x.c = some C ∧ cls = .ref C ∧ ((d = none ∧ x.fs = []) ∨ ∃ a vs, d = some a ∧ H a = some (.xd vs) ∧ M a = none ∧ RepF c H M vs x.fs ∧ x.fs ≠ [])
/-- a contract as HandS has it -/
def toSp (c : Cfg) (sp : SpD) : Sp := fun vs H Q E => ∃ Z ds M Qd Ed, Reps (c.z Z) H M vs ds ∧ Cells (c.z Z) H M ∧ sp ds M Qd Ed ∧
  (∀ v H' d M', Stp H M H' M' → Cells (c.z Z) H' M' → Rep (c.z Z) H' M' v d → Qd d M' → Q v H') ∧
  (∀ cls dd H' x M', Stp H M H' M' → Cells (c.z Z) H' M' → XRep (c.z Z) H' M' cls dd x → Ed x M' → E cls dd H')
/-- a def that keeps its contract -/
def FnE (X : Cx) (c : Cfg) (n : Nm) (sp : SpD) : Prop := ∃ f fd k ps, FnOk X.prog X.w X.K X.mg X.base (CX X.prog X.w) k f fd ps (toSp c sp) ∧ Room k X.A ∧
  X.mg n.s = some (.ref f) ∧ PySem.W.keepIn X.K (.ref f) = true ∧ Binds X.K fd ps []
def MtE (X : Cx) (c : Cfg) (n m : Nm) (sp : SpD) : Prop := ∀ C, c.icls n = some C → ∃ f fd k ps, FnOk X.prog X.w X.K X.mg X.base (CX X.prog X.w) k f fd ps (toSp c sp) ∧ Room k X.A ∧
  Meth X.K C m.s f ∧ Binds X.K fd ps []
/-- a class whose instances are made: __init__'s contract gives the making's -/
def MkE (X : Cx) (c : Cfg) (n : Nm) (sp : SpD) : Prop := (∃ C f fd k ps spI, c.icls n = some C ∧ FnOk X.prog X.w X.K X.mg X.base (CX X.prog X.w) k f fd ps (toSp c spI) ∧ Room (k + 1) X.A ∧
  Mk X.K C f ∧ X.mg n.s = some (.ref C) ∧ Binds X.K fd ps [] ∧
  ∀ ds M Q E, sp ds M Q E → ∀ x, M x = none → spI (.ref x :: ds) (up M x (.ins n [])) (fun r M' => r = .non ∧ ∃ d2 M2, Frz c (.ref x) M' d2 M2 ∧ Q d2 M2) E) ∨
  (∃ C, c.icls n = some C ∧ PySem.W.makesIn X.K C = true ∧ PySem.W.findIn X.K (.ref C) "__init__" = some (some (.builtin "object.__init__")) ∧ PySem.W.keepIn X.K (.ref C) = true ∧ X.mg n.s = some (.ref C) ∧ ∀ ds M Q E, sp ds M Q E → ds = [] ∧ ∀ x, M x = none → Q (.ref x) (up M x (.ins n [])))
/-- a constant of the module -/
def GlE (X : Cx) (c : Cfg) (n : Nm) (d : D) : Prop := ∃ u v, X.mg n.s = some u ∧ RelV v u ∧ ∀ Z H M, Rep (c.z Z) H M v d
def xcB (T : Tab) (n : Nm) : Bool := (lk T.sub n).isSome
structure COk (c : Cfg) (T : Tab) (N : List PySem.Str) (sc : Scope) (X : Cx) (W : WX) : Prop where
  N : X.N = N
  nd : X.N.Nodup
  sc : X.env.scope = sc
  calm : c.hot = false → X.calm = true ∧ c.cur = none
  K : X.K = c.K
  bi : ∀ n ∈ bnames, X.mg n = none
  tk : Takes X W
  hu : X.A.units + 70 < cLine
  fn : c.hot = false → ∀ n sp, lk T.fn n = some sp → FnE X c n sp
  mt : c.hot = false → ∀ n m sp, lk2 T.mt n m = some sp → MtE X c n m sp
  cl : c.hot = false → ∀ n sp, lk T.cl n = some sp → MkE X c n sp
  gl : ∀ n d, lk T.gl n = some d → GlE X c n d
  cls : ∀ n C, c.icls n = some C → Cls X.K C
  fl : ∀ n C, c.icls n = some C → ((c.fl n).map Nm.s).Nodup ∧ ∀ f ∈ c.fl n, NoAttr X.K C f.s
  flT : ∀ n l, lk T.fl n = some l → c.fl n = l
  sub : ∀ n l, lk T.sub n = some l → (c.cls n).isSome = true
  own : ∀ n ∈ T.own, (c.cls n).isSome = true
  icl : ∀ n C, c.icls n = some C → (lk T.isn n).isSome = true → c.cls n = some C
  clsG : ∀ n C, c.cls n = some C → X.mg n.s = some (.ref C)
  isO : ∀ n l, lk T.isn n = some l → ∀ C, c.cls n = some C → C8.InsC X.K C ∧ ∀ m C', c.cls m = some C' → PySem.W.kitOne X.K (.ref C) (.ref C') = some (decide (m ∈ l))
  isI : ∀ m C', c.cls m = some C' → (∀ b ∈ btn, PySem.W.kitOne X.K (.type b) (.ref C') = some false) ∧ ∀ b ∈ btt, PySem.W.kitOne X.K (.ref C') (.type b) = some (decide (b = "ValueError") && xcB T m)
  isX : ∀ n l, lk T.sub n = some l → ∀ C, c.cls n = some C → ExcC X.K C ∧ ∀ m C', c.cls m = some C' → PySem.W.kitOne X.K (.ref C) (.ref C') = some (decide (m ∈ l))
  exm : ∀ n l, lk T.sub n = some l → ∀ C, c.cls n = some C → ∀ m C', c.cls m = some C' → (lk T.sub m).isSome = true → PySem.W.exmOne X.K (.ref C) (.ref C') = some (decide (m ∈ l))
  xc : ∀ n fs, lk T.xc n = some fs → fs = [] ∧ ∃ C newId initId bmB B, c.cls n = some C ∧ ExcBaseFacts B newId initId bmB ∧ PySem.W.excIn X.K C bmB newId = true ∧ PySem.W.keepIn X.K (.ref C) = true ∧ Raises X (.ref C)
  cur : ∀ i a n dd, c.cur = some (i, a, n, dd) → ∃ X' oe pn C, X = Cx.suite X' a ((a, oe) :: pn) ∧ c.cls n = some C ∧ Zc (.ref C) dd oe ∧ (∃ vs, oe.data = .fields vs) ∧ (lk T.sub n).isSome
  flM : ∀ n m sp, lk2 T.mt n m = some sp → ∀ f ∈ c.fl n, f.s ≠ m.s
/-- a frame's values -/
structure Sta (c : Cfg) (σ : St) (H : Hp) (env : Env) (M : Mm) : Prop where
  cells : Cells c H M
  len : σ.length = env.length
  env' : ∀ (i : Nat) (d : D), env[i]? = some (some d) → ∃ v, σ[i]? = some (some v) ∧ Rep c H M v d
  cur : ∀ i a n dd, c.cur = some (i, a, n, dd) → σ[i]? = some (some (.ref a)) ∧ ∃ fs, env[i]? = some (some (.exc n fs)) ∧ ((dd = none ∧ fs = []) ∨ ∃ x vs, dd = some x ∧ H x = some (.xd vs) ∧ M x = none ∧ RepF c H M vs fs ∧ fs ≠ [])
section
variable {c : Cfg} {σ : St} {H H' : Hp} {env : Env} {M M' : Mm} {W : WX}
theorem Sta.stp (s : Sta c σ H env M) (h : Stp H M H' M') (ok : Cells c H' M') : Sta c σ H' env M' :=
  ⟨ok, s.len, fun i d e => let ⟨v, q, r⟩ := s.env' i d e; ⟨v, q, r.stp h⟩, fun i a n dd e => by
    obtain ⟨h1, fs, h2, h3⟩ := s.cur i a n dd e
    refine ⟨h1, fs, h2, h3.imp id ?_⟩
    rintro ⟨x, vs, e1, e2, e3, e4, ne⟩
    exact ⟨x, vs, e1, h.keep _ _ e2 e3, h.nn _ (by rw [e2]; exact fun z => nomatch z) e3, e4.view h.view, ne⟩⟩
/-- a place that is not the exception's -/
def Cfg.at (c : Cfg) (i : Nat) : Bool := match c.cur with
  | some (j, _) => decide (j = i)
  | none => false
theorem Cfg.at_ne {c : Cfg} {i j : Nat} {a : Addr} {n : Nm} {dd : Option Addr} (h : c.at i = false) (e : c.cur = some (j, a, n, dd)) : i ≠ j := by
  unfold Cfg.at at h; rw [e] at h; simp at h; exact fun q => h q.symm
theorem Sta.set (s : Sta c σ H env M) {v : V} {d : D} (r : Rep c H M v d) (i : Nat) (hi : c.at i = false := by rfl) : Sta c (σ.set i (some v)) H (env.set i (some d)) M := by
  refine ⟨s.cells, by simp [s.len], fun j e h => ?_, fun j a n dd e => by
    obtain ⟨h1, fs, h2, h3⟩ := s.cur j a n dd e
    have hj := Cfg.at_ne hi e
    exact ⟨by rw [List.getElem?_set_ne hj]; exact h1, fs, by rw [List.getElem?_set_ne hj]; exact h2, h3⟩⟩
  by_cases hj : i = j
  · subst hj
    by_cases hl : i < env.length
    · rw [List.getElem?_set_self hl] at h
      cases h
      exact ⟨v, by rw [List.getElem?_set_self (by rw [s.len]; exact hl)], r⟩
    · rw [List.getElem?_eq_none (by simpa using hl)] at h; cases h
  · rw [List.getElem?_set_ne hj] at h
    obtain ⟨w, q, r'⟩ := s.env' j e h
    exact ⟨w, by rw [List.getElem?_set_ne hj]; exact q, r'⟩
theorem Sta.unset (s : Sta c σ H env M) (i : Nat) (o : Option V) (hi : c.at i = false := by rfl) : Sta c (σ.set i o) H (env.set i none) M := by
  refine ⟨s.cells, by simp [s.len], fun j e h => ?_, fun j a n dd e => by
    obtain ⟨h1, fs, h2, h3⟩ := s.cur j a n dd e
    have hj := Cfg.at_ne hi e
    exact ⟨by rw [List.getElem?_set_ne hj]; exact h1, fs, by rw [List.getElem?_set_ne hj]; exact h2, h3⟩⟩
  by_cases hj : i = j
  · subst hj
    by_cases hl : i < env.length
    · rw [List.getElem?_set_self hl] at h
      cases h
    · rw [List.getElem?_eq_none (by simpa using hl)] at h; cases h
  · rw [List.getElem?_set_ne hj] at h
    obtain ⟨w, q, r'⟩ := s.env' j e h
    exact ⟨w, by rw [List.getElem?_set_ne hj]; exact q, r'⟩
/-- what is wanted of an exception -/
def Exc (c : Cfg) (W : WX) (σ : St) (H : Hp) (M : Mm) (E : QX) : Prop := ∀ cls d H' x M', Stp H M H' M' → Cells c H' M' → XRep c H' M' cls d x → E x M' → W cls d σ H'
theorem Exc.stp {E : QX} (h : Exc c W σ H M E) (s : Stp H M H' M') : Exc c W σ H' M' E := fun cls d H2 x M2 s2 ok r e => h cls d H2 x M2 (s.trans s2) ok r e
theorem Exc.none : Exc c W σ H M (fun _ _ => False) := fun _ _ _ _ _ _ _ _ e => e.elim
end
/-- what is wanted behind a value -/
def Cont (c : Cfg) (H : Hp) (M : Mm) (Q : QD) (k : VK) : Prop := ∀ v H' d M', Stp H M H' M' → Cells c H' M' → Rep c H' M' v d → Q d M' → k v H'
def ContB (c : Cfg) (H : Hp) (M : Mm) (Q : Bool → Mm → Prop) (k : Bool → Hp → Prop) : Prop := ∀ b H' M', Stp H M H' M' → Cells c H' M' → Q b M' → k b H'
def ContA (c : Cfg) (H : Hp) (M : Mm) (Q : List D → Mm → Prop) (k : List V → Hp → Prop) : Prop := ∀ vs H' ds M', Stp H M H' M' → Cells c H' M' → Reps c H' M' vs ds → Q ds M' → k vs H'
abbrev WE := Env → Mm → QD → QX → Prop
def SatE (c : Cfg) (W : WX) (t : TE) (w : WE) : Prop := ∀ Z σ H env M Q E k, Sta (c.z Z) σ H env M → w env M Q E → Exc (c.z Z) W σ H M E → Cont (c.z Z) H M Q k → t σ H k
def SatT (c : Cfg) (W : WX) (t : TT) (w : WE) : Prop := ∀ Z σ H env M (Q : Bool → Mm → Prop) E k, Sta (c.z Z) σ H env M → w env M (fun d M' => obn (truD M' d) fun b => Q b M') E → Exc (c.z Z) W σ H M E → ContB (c.z Z) H M Q k → t σ H k
def SatA (c : Cfg) (W : WX) (t : TA) (w : Env → Mm → (List D → Mm → Prop) → QX → Prop) : Prop := ∀ Z σ H env M Q E k, Sta (c.z Z) σ H env M → w env M Q E → Exc (c.z Z) W σ H M E → ContA (c.z Z) H M Q k → t σ H k
theorem Cont.stp {c : Cfg} {H H' : Hp} {M M' : Mm} {Q : QD} {k : VK} (h : Cont c H M Q k) (s : Stp H M H' M') : Cont c H' M' Q k := fun v H2 d M2 s2 ok r q => h v H2 d M2 (s.trans s2) ok r q
theorem ContB.stp {c : Cfg} {H H' : Hp} {M M' : Mm} {Q : Bool → Mm → Prop} {k : Bool → Hp → Prop} (h : ContB c H M Q k) (s : Stp H M H' M') : ContB c H' M' Q k := fun v H2 M2 s2 ok q => h v H2 M2 (s.trans s2) ok q
theorem ContA.stp {c : Cfg} {H H' : Hp} {M M' : Mm} {Q : List D → Mm → Prop} {k : List V → Hp → Prop} (h : ContA c H M Q k) (s : Stp H M H' M') : ContA c H' M' Q k := fun v H2 d M2 s2 ok r q => h v H2 d M2 (s.trans s2) ok r q
/-- a new list, whichever -/
theorem al_ok {c : Cfg} {H : Hp} {M : Mm} {m : Bool} {vs : List V} {ds : List D} {Q : QD} {k : VK} (ok : Cells c H M) (r : Reps c H M vs ds) (hz : vs.length ≤ sizeLine) (h : alL m ds M Q) (hk : Cont c H M Q k) :
    ∀ p, H p = none → k (.ref p) (upd H p (.lst vs)) := fun p hp => by
  have hM : M p = none := ok.fresh hp
  cases m with
  | true =>
    have s := stp_newc (o := .lst vs) (x := .lst ds) ok hp
    exact hk _ _ _ _ s (cells_newc ok hp (.lst upd_same hz (r.stp s))) (.ref p) (h p hM)
  | false =>
    have s := stp_new (o := .lst vs) ok hp
    exact hk _ _ _ _ s (cells_new ok hp) (.lst upd_same (ok.free hp) hz (r.stp s)) h
theorem tup_ok {c : Cfg} {H : Hp} {M : Mm} {vs : List V} {ds : List D} {Q : QD} {k : VK} (ok : Cells c H M) (r : Reps c H M vs ds) (hz : vs.length ≤ sizeLine) (h : Q (.tup ds) M) (hk : Cont c H M Q k) :
    ∀ p, H p = none → k (.ref p) (upd H p (.tup vs)) := fun p hp => by
  have s := stp_new (o := .tup vs) ok hp
  exact hk _ _ _ _ s (cells_new ok hp) (.tup upd_same (ok.free hp) hz (r.stp s)) h
end L3
set_option maxRecDepth 100000
set_option maxHeartbeats 4000000
namespace L3
open PySem L2
/-! ### operators by values -/
def OpSat (c : Cfg) (r : R2) (w : D → D → Mm → QD → Prop) : Prop := ∀ Z x y H M dx dy Q k, Cells (c.z Z) H M → Rep (c.z Z) H M x dx → Rep (c.z Z) H M y dy → w dx dy M Q → Cont (c.z Z) H M Q k → r x y H k
def CmpSat (c : Cfg) (r : R2) (w : D → D → Mm → (Bool → Prop) → Prop) : Prop := ∀ Z x y H M dx dy Q (k : VK), Cells (c.z Z) H M → Rep (c.z Z) H M x dx → Rep (c.z Z) H M y dy → w dx dy M Q → (∀ b, Q b → k (.bl b) H) → r x y H k
section
variable {c : Cfg} {W : WX} {ta tb : TE} {wa wb : WE}
theorem sat_op {r : R2} {w : D → D → Mm → QD → Prop} (hr : OpSat c r w) (ha : SatE c W ta wa) (hb : SatE c W tb wb) :
    SatE c W (tOp r ta tb) (fun env M Q E => wa env M (fun x M1 => wb env M1 (fun y M2 => w x y M2 Q) E) E) := fun Z σ H env M Q E k st h he hk => by
  refine ha Z σ H env M _ E _ st h he fun x H1 dx M1 s1 ok1 r1 q1 => ?_
  refine hb Z σ H1 env M1 _ E _ (st.stp s1 ok1) q1 (he.stp s1) fun y H2 dy M2 s2 ok2 r2 q2 => ?_
  exact hr Z x y H2 M2 dx dy Q k ok2 (r1.stp s2) r2 q2 (hk.stp (s1.trans s2))
theorem sat_cmp {r : R2} {w : D → D → Mm → (Bool → Prop) → Prop} (hr : CmpSat c r w) (ha : SatE c W ta wa) (hb : SatE c W tb wb) :
    SatE c W (tOp r ta tb) (fun env M Q E => wa env M (fun x M1 => wb env M1 (fun y M2 => w x y M2 fun b => Q (.bl b) M2) E) E) := fun Z σ H env M Q E k st h he hk => by
  refine ha Z σ H env M _ E _ st h he fun x H1 dx M1 s1 ok1 r1 q1 => ?_
  refine hb Z σ H1 env M1 _ E _ (st.stp s1 ok1) q1 (he.stp s1) fun y H2 dy M2 s2 ok2 r2 q2 => ?_
  exact hr Z x y H2 M2 dx dy _ k ok2 (r1.stp s2) r2 q2 fun b qb => hk _ _ _ _ (s1.trans s2) ok2 (.bl b) qb
theorem sat_cmpT {r : R2} {w : D → D → Mm → (Bool → Prop) → Prop} (hr : CmpSat c r w) (ha : SatE c W ta wa) (hb : SatE c W tb wb) :
    SatT c W (tTest (tOp r ta tb)) (fun env M Q E => wa env M (fun x M1 => wb env M1 (fun y M2 => w x y M2 fun b => Q (.bl b) M2) E) E) := fun Z σ H env M Q E k st h he hk => by
  refine ha Z σ H env M _ E _ st h he fun x H1 dx M1 s1 ok1 r1 q1 => ?_
  refine hb Z σ H1 env M1 _ E _ (st.stp s1 ok1) q1 (he.stp s1) fun y H2 dy M2 s2 ok2 r2 q2 => ?_
  exact hr Z x y H2 M2 dx dy _ _ ok2 (r1.stp s2) r2 q2 fun b qb => ⟨b, rfl, hk _ _ _ (s1.trans s2) ok2 qb⟩
end
section
variable {X : Cx} {c : Cfg} {H : Hp} {M : Mm}
theorem rep_int {v : V} {i : Int} (r : Rep c H M v (.int i)) : v = .int i := by cases r; rfl
theorem rep_bl {v : V} {i : Bool} (r : Rep c H M v (.bl i)) : v = .bl i := by cases r; rfl
theorem rep_str {v : V} {i : PySem.Str} (r : Rep c H M v (.str i)) : v = .str i := by cases r; rfl
theorem rep_non {v : V} (r : Rep c H M v .non) : v = .non := by cases r; rfl
def rNo : R2 := fun _ _ _ _ => False
theorem op_no {f : Value → Value → Sem Value} : OpR X f rNo := fun _ _ _ _ _ _ _ _ _ _ _ _ h => h.elim
theorem sat_no {w : D → D → Mm → QD → Prop} (h : ∀ x y M Q, ¬ w x y M Q) : OpSat c rNo w := fun _ _ _ _ _ _ _ _ _ _ _ _ q _ => (h _ _ _ _ q).elim
theorem intQ_of {x y : D} {P : Int → Int → Prop} (h : intQ x y P) : ∃ i j, x = .int i ∧ y = .int j ∧ P i j := by
  cases x with
  | int i => cases y with
    | int j => exact ⟨i, j, rfl, rfl, h⟩
    | _ => exact False.elim h
  | _ => exact False.elim h
theorem obn_of {α : Type} {o : Option α} {P : α → Prop} (h : obn o P) : ∃ a, o = some a ∧ P a := by
  cases o with
  | some a => exact ⟨a, rfl, h⟩
  | none => exact False.elim h
/-- a + b, whichever -/
def rAddU (K : PySem.W.Frag) : R2 := fun x y H Q => rI0 (fun i j => .int (i + j)) x y H Q ∨ (∃ i j, x = .str i ∧ y = .str j ∧ i.length + j.length ≤ sizeLine ∧ Q (.str (i ++ j)) H) ∨ rCat x y H Q ∨ rCatA K x y H Q
theorem op_addU : OpR X (binaryOp .Add) (rAddU X.K) := op_add.or (op_add_str.or (op_cat.or op_catA))
theorem cat_sat {m : Bool} {K : PySem.W.Frag} {x y : V} {dx dy : D} {Q : QD} {k : VK} (ok : Cells c H M) (rx : Rep c H M x dx) (ry : Rep c H M y dy) (h : catD m dx dy M Q) (hk : Cont c H M Q k) : rAddU K x y H k := by
  obtain ⟨xs, e1, h⟩ := obn_of h
  obtain ⟨ys, e2, h⟩ := obn_of h
  obtain ⟨hz, h⟩ := h
  obtain ⟨a, vs, rfl, ha, _, ra⟩ := rep_lst ok rx e1
  obtain ⟨b, ws, rfl, hb, _, rb⟩ := rep_lst ok ry e2
  have hl : vs.length + ws.length ≤ sizeLine := by rw [ra.len, rb.len]; exact hz
  exact .inr (.inr (.inl ⟨a, b, vs, ws, rfl, rfl, ha, hb, hl, al_ok ok (ra.append rb) (by rw [List.length_append]; exact hl) h hk⟩))
theorem sat_addU (hK : X.K = c.K) {m : Bool} : OpSat c (rAddU X.K) (addD m) := fun Z x y H M dx dy Q k ok rx ry h hk => by
  cases dx with
  | int i => cases dy with
    | int j =>
      rw [rep_int rx, rep_int ry]
      exact .inl ⟨i, j, rfl, rfl, hk _ _ _ _ .refl ok (.int _) h⟩
    | _ => exact False.elim h
  | str i => cases dy with
    | str j =>
      rw [rep_str rx, rep_str ry]
      exact .inr (.inl ⟨i, j, rfl, rfl, h.1, hk _ _ _ _ .refl ok (.str _) h.2⟩)
    | _ => exact False.elim h
  | tup xs => cases dy with
    | tup ys =>
      obtain ⟨hz, h⟩ := h
      cases rx with
      | tup h1 n1 z1 r1 => cases ry with
        | tup h2 n2 z2 r2 =>
          rename_i a vs b ws
          have hl : vs.length + ws.length ≤ sizeLine := by rw [r1.len, r2.len]; exact hz
          refine .inr (.inr (.inr ⟨a, b, vs, ws, rfl, rfl, SqT.of h1, SqT.of h2, hl, fun e => ?_, fun _ e => ?_, fun _ _ => ?_⟩))
          · subst e
            cases r1
            exact hk _ _ _ _ .refl ok (.tup h2 n2 z2 r2) h
          · subst e
            cases r2
            rw [List.append_nil] at h
            exact hk _ _ _ _ .refl ok (.tup h1 n1 z1 r1) h
          · exact tup_ok ok (r1.append r2) (by rw [List.length_append]; exact hl) h hk
    | _ => exact False.elim h
  | lst xs => exact cat_sat ok rx ry h hk
  | ref a => exact cat_sat ok rx ry h hk
  | _ => exact False.elim h
theorem sat_int {C : Int → Int → Prop} {g : Int → Int → Int} {w : D → D → Mm → QD → Prop} (h : ∀ x y M Q, w x y M Q → intQ x y fun i j => C i j ∧ Q (.int (g i j)) M) :
    OpSat c (rI C fun i j => .int (g i j)) w := fun Z x y H M dx dy Q k ok rx ry q hk => by
  obtain ⟨i, j, rfl, rfl, hc, q⟩ := intQ_of (h _ _ _ _ q)
  rw [rep_int rx, rep_int ry]
  exact ⟨i, j, rfl, rfl, hc, hk _ _ _ _ .refl ok (.int _) q⟩
theorem sat_int0 {g : Int → Int → Int} {w : D → D → Mm → QD → Prop} (h : ∀ x y M Q, w x y M Q → intQ x y fun i j => Q (.int (g i j)) M) :
    OpSat c (rI0 fun i j => .int (g i j)) w := fun Z x y H M dx dy Q k ok rx ry q hk => by
  obtain ⟨i, j, rfl, rfl, q'⟩ := intQ_of (h _ _ _ _ q)
  rw [rep_int rx, rep_int ry]
  exact ⟨i, j, rfl, rfl, hk _ _ _ _ .refl ok (.int _) q'⟩
theorem bin_ok (hK : X.K = c.K) (m : Bool) (op : Operator) : ∃ r, OpR X (binaryOp op) r ∧ OpSat c r (binD m op) := by
  cases op with
  | Add => exact ⟨_, op_addU, sat_addU hK⟩
  | Sub => exact ⟨_, op_sub, sat_int0 fun _ _ _ _ h => h⟩
  | Mult =>
    refine ⟨_, op_mul.or op_mulW, fun Z x y H M dx dy Q k ok rx ry q hk => ?_⟩
    obtain ⟨i, j, rfl, rfl, hc, q⟩ := intQ_of q
    rw [rep_int rx, rep_int ry]
    exact hc.imp (fun hc => ⟨i, j, rfl, rfl, hc, hk _ _ _ _ .refl ok (.int _) q⟩) fun hc => ⟨i, j, rfl, rfl, hc, hk _ _ _ _ .refl ok (.int _) q⟩
  | Mod => exact ⟨_, op_mod, sat_int fun _ _ _ _ h => h⟩
  | FloorDiv => exact ⟨_, op_fdivW, sat_int fun _ _ _ _ h => h⟩
  | Pow => exact ⟨_, op_pow, sat_int fun _ _ _ _ h => h⟩
  | BitAnd => exact ⟨_, op_and, sat_int0 fun _ _ _ _ h => h⟩
  | RShift => exact ⟨_, op_shr, sat_int fun _ _ _ _ h => h⟩
  | _ => exact ⟨_, op_no, sat_no fun _ _ _ _ h => h⟩
/-! ### data read as data -/
def toP : D → PyData
  | .bl b => .bool b
  | .int i => .int i
  | .str x => .str x
  | .tup ds => .tuple (toPL ds)
  | .lst ds => .list (toPL ds)
  | _ => .none
where toPL : List D → List PyData
  | [] => []
  | d :: r => toP d :: toPL r
mutual
inductive DR (c : Cfg) (H : Hp) : V → D → Prop
  | non : DR c H .non .non
  | bl (b : Bool) : DR c H (.bl b) (.bl b)
  | int (i : Int) : DR c H (.int i) (.int i)
  | str (x : PySem.Str) : DR c H (.str x) (.str x)
  | ref (a : Addr) : DR c H (.ref a) (.ref a)
  | lst {a : Addr} {vs : List V} {ds : List D} : SqL c.K H a vs → DRs c H vs ds → DR c H (.ref a) (.lst ds)
  | roL {a : Addr} {vs : List V} {ds : List D} : SqL c.K H a vs → DRs c H vs ds → DR c H (.ref a) (.ro false ds)
  | tup {a : Addr} {vs : List V} {ds : List D} : SqT c.K H a vs → DRs c H vs ds → DR c H (.ref a) (.tup ds)
  | roT {a : Addr} {vs : List V} {ds : List D} : SqT c.K H a vs → DRs c H vs ds → DR c H (.ref a) (.ro true ds)
  | dct {v : V} {t : Bool} {k : List (D × D)} : DR c H v (.dct t k)
  | ins {v : V} {n : Nm} {k : List (Nm × D)} : DR c H v (.ins n k)
  | exc {v : V} {n : Nm} {k : List (Nm × D)} : DR c H v (.exc n k)
inductive DRs (c : Cfg) (H : Hp) : List V → List D → Prop
  | nil : DRs c H [] []
  | cons {v : V} {d : D} {vs : List V} {ds : List D} : DR c H v d → DRs c H vs ds → DRs c H (v :: vs) (d :: ds)
end
mutual
theorem Rep.dr : ∀ {v : V} {d : D}, Rep c H M v d → DR c H v d
  | _, _, .non => .non
  | _, _, .bl b => .bl b
  | _, _, .int i => .int i
  | _, _, .str x => .str x
  | _, _, .ref a => .ref a
  | _, _, .lst h n z r => .lst (SqL.of h) (Reps.dr r)
  | _, _, .tup h n z r => .tup (SqT.of h) (Reps.dr r)
  | _, _, .roL h z r => .roL (KL.sq h) (Reps.dr r)
  | _, _, .roT h z r => .roT (.inr h) (Reps.dr r)
  | _, _, .dK h n z r => .dct
  | _, _, .dT h n z r => .dct
  | _, _, .ins h n z k r => .ins
  | _, _, .exc _ _ _ => .exc
theorem Reps.dr : ∀ {v : List V} {d : List D}, Reps c H M v d → DRs c H v d
  | _, _, .nil => .nil
  | _, _, .cons a b => .cons (Rep.dr a) (Reps.dr b)
end
mutual
theorem DR.rs (ok : Cells c H M) : ∀ {v : V} {d : D}, DR c H v d → DR c H v (rs M d)
  | _, _, .non => .non
  | _, _, .bl b => .bl b
  | _, _, .int i => .int i
  | _, _, .str x => .str x
  | _, _, .ref a => by
    unfold L3.rs
    cases e : M a with
    | none => exact .ref a
    | some x => cases x with
      | lst ds => cases ok.at' a _ e with
        | lst h z r => exact .lst (SqL.of h) r.dr
      | _ => exact .ref a
  | _, _, .lst h r => .lst h (DRs.rs ok r)
  | _, _, .tup h r => .tup h (DRs.rs ok r)
  | _, _, .roL h r => .lst h (DRs.rs ok r)
  | _, _, .roT h r => .tup h (DRs.rs ok r)
  | _, _, .dct => .dct
  | _, _, .ins => .ins
  | _, _, .exc => .exc
theorem DRs.rs (ok : Cells c H M) : ∀ {v : List V} {d : List D}, DRs c H v d → DRs c H v (rs.rsL M d)
  | _, _, .nil => .nil
  | _, _, .cons a b => .cons (DR.rs ok a) (DRs.rs ok b)
end
mutual
theorem DR.dp : ∀ {n : Nat} {v : V} {d : D}, DR c H v d → pu n d = true → Dp c.K H v (toP d)
  | _, _, _, .non, _ => .non
  | _, _, _, .bl b, _ => .bl b
  | _, _, _, .int i, _ => .int i
  | _, _, _, .str x, _ => .str x
  | _, _, _, .ref a, h => by simp [pu] at h
  | _, _, _, .lst h r, q => by
    simp only [pu, Bool.and_eq_true] at q
    exact .lst h (DRs.dp r q.2)
  | _, _, _, .tup h r, q => by
    simp only [pu, Bool.and_eq_true] at q
    exact .tup h (DRs.dp r q.2)
  | _, _, _, .roL h r, q => by simp [pu] at q
  | _, _, _, .roT h r, q => by simp [pu] at q
  | _, _, _, .dct, q => by simp [pu] at q
  | _, _, _, .ins, q => by simp [pu] at q
  | _, _, _, .exc, q => by simp [pu] at q
theorem DRs.dp : ∀ {n : Nat} {v : List V} {d : List D}, DRs c H v d → pu.puL n d = true → DpAll c.K H v (toP.toPL d)
  | _, _, _, .nil, _ => .nil
  | _, _, _, .cons a b, q => by
    simp only [pu.puL, Bool.and_eq_true] at q
    exact .cons (DR.dp a q.1) (DRs.dp b q.2)
end
end
mutual
theorem pu_lay : ∀ {n : Nat} (d : D), pu n d = true → (toP d).canLay0 = true ∧ (toP d).depth ≤ n
  | n, .non, _ => ⟨rfl, Nat.zero_le _⟩
  | n, .bl _, _ => ⟨rfl, Nat.zero_le _⟩
  | n, .int _, _ => ⟨rfl, Nat.zero_le _⟩
  | n, .str x, h => ⟨h, Nat.zero_le _⟩
  | n, .ref _, h => by simp [pu] at h
  | n, .tup ds, h => by
    simp only [pu, Bool.and_eq_true, decide_eq_true_eq] at h
    have := pu_layL ds h.2
    refine ⟨this.1, ?_⟩
    show PyData.depthAll (toP.toPL ds) + 1 ≤ n
    omega
  | n, .lst ds, h => by
    simp only [pu, Bool.and_eq_true, decide_eq_true_eq] at h
    have := pu_layL ds h.2
    refine ⟨this.1, ?_⟩
    show PyData.depthAll (toP.toPL ds) + 1 ≤ n
    omega
  | n, .dct _ _, h => by simp [pu] at h
  | n, .ins _ _, h => by simp [pu] at h
  | n, .exc _ _, h => by simp [pu] at h
  | n, .ro _ _, h => by simp [pu] at h
theorem pu_layL : ∀ {n : Nat} (ds : List D), pu.puL n ds = true → PyData.canLayAll0 (toP.toPL ds) = true ∧ PyData.depthAll (toP.toPL ds) ≤ n
  | n, [], _ => ⟨rfl, Nat.zero_le _⟩
  | n, d :: r, h => by
    simp only [pu.puL, Bool.and_eq_true] at h
    have h1 := pu_lay d h.1
    have h2 := pu_layL r h.2
    refine ⟨?_, ?_⟩
    · show ((toP d).canLay0 && PyData.canLayAll0 (toP.toPL r)) = true
      rw [h1.1, h2.1]; rfl
    · show max (toP d).depth (PyData.depthAll (toP.toPL r)) ≤ n
      exact Nat.max_le.mpr ⟨h1.2, h2.2⟩
end
theorem pu_shaped {n : Nat} {d : D} (hn : n ≤ 64) (h : pu n d = true) : SeqAt.shaped (toP d) = true := by
  have := pu_lay d h
  unfold SeqAt.shaped
  rw [this.1, decide_eq_true (show (toP d).depth ≤ 64 by omega)]
  rfl
mutual
theorem eqv_toP : ∀ {n m : Nat} (d e : D), pu n d = true → pu m e = true → PyData.eqv (toP d) (toP e) = eqv d e
  | n, m, d, e, h, h' => by
    cases d with
    | non => cases e <;> first | rfl | (simp [pu] at h')
    | bl b => cases e <;> first | rfl | (simp [pu] at h')
    | int i => cases e <;> first | rfl | (simp [pu] at h')
    | str x => cases e <;> first | rfl | (simp [pu] at h')
    | tup ds => cases e with
      | tup es =>
        simp only [pu, Bool.and_eq_true] at h h'
        exact eqv_toPL ds es h.2 h'.2
      | _ => first | rfl | (simp [pu] at h')
    | lst ds => cases e with
      | lst es =>
        simp only [pu, Bool.and_eq_true] at h h'
        exact eqv_toPL ds es h.2 h'.2
      | _ => first | rfl | (simp [pu] at h')
    | _ => simp [pu] at h
theorem eqv_toPL : ∀ {n m : Nat} (d e : List D), pu.puL n d = true → pu.puL m e = true → PyData.eqvAll (toP.toPL d) (toP.toPL e) = eqv.eqvL d e
  | n, m, [], [], _, _ => rfl
  | n, m, [], _ :: _, _, _ => rfl
  | n, m, _ :: _, [], _, _ => rfl
  | n, m, d :: r, e :: r', h, h' => by
    simp only [pu.puL, Bool.and_eq_true] at h h'
    show (PyData.eqv (toP d) (toP e) && PyData.eqvAll (toP.toPL r) (toP.toPL r')) = (eqv d e && eqv.eqvL r r')
    rw [eqv_toP d e h.1 h'.1, eqv_toPL r r' h.2 h'.2]
end
end L3
set_option maxRecDepth 100000
set_option maxHeartbeats 4000000
namespace L3
open PySem L2
/-! ### keys -/
theorem eqKey_keyD (a b : Key) : eqKey (keyD a) (keyD b) = decide (a = b) := by
  cases a <;> cases b <;> simp [keyD, eqKey]
theorem eqKey_keys : ∀ (a b : List Key), eqKey.eqKeyL (a.map keyD) (b.map keyD) = decide (a = b)
  | [], [] => rfl
  | [], _ :: _ => rfl
  | _ :: _, [] => rfl
  | x :: a, y :: b => by
    show (eqKey (keyD x) (keyD y) && eqKey.eqKeyL (a.map keyD) (b.map keyD)) = _
    rw [eqKey_keyD, eqKey_keys a b]
    by_cases h : x = y <;> by_cases h2 : a = b <;> simp [h, h2]
theorem eqKey_tup (a b : List Key) : eqKey (.tup (a.map keyD)) (.tup (b.map keyD)) = decide (a = b) := eqKey_keys a b
section
variable {c : Cfg} {H : Hp} {M : Mm}
/-- a key handed in: its value -/
theorem key_flat {v : V} {d : D} (r : Rep c H M v d) (h : keyOk false d = true) : ∃ k, v = kV k ∧ d = keyD k := by
  cases r with
  | int i => exact ⟨.inl i, rfl, rfl⟩
  | str x => exact ⟨.inr x, rfl, rfl⟩
  | _ => simp [keyOk] at h
theorem keys_of : ∀ {vs : List V} {ds : List D}, Reps c H M vs ds → ds.all flatKey = true → ∃ ks : List Key, vs = ks.map kV ∧ ds = ks.map keyD
  | _, _, .nil, _ => ⟨[], rfl, rfl⟩
  | _, _, .cons (d := d) a r, h => by
    simp only [List.all_cons, Bool.and_eq_true] at h
    obtain ⟨ks, rfl, rfl⟩ := keys_of r h.2
    obtain ⟨k, rfl, rfl⟩ := key_flat a (by cases d <;> simp [flatKey] at h <;> rfl)
    exact ⟨k :: ks, rfl, rfl⟩
theorem key_tup {v : V} {d : D} (r : Rep c H M v d) (h : keyOk true d = true) : ∃ (b : Addr) (ks : List Key), v = .ref b ∧ H b = some (.tup (ks.map kV)) ∧ d = .tup (ks.map keyD) := by
  cases r with
  | tup h1 n z q =>
    obtain ⟨ks, rfl, rfl⟩ := keys_of q (by simpa [keyOk] using h)
    exact ⟨_, ks, rfl, h1, rfl⟩
  | _ => simp [keyOk] at h
theorem getK_K : ∀ {ks : List (Key × V)} {kvs : List (D × D)}, RepK c H M ks kvs → ∀ k, (valV ks k = none ∧ getK kvs (keyD k) = none) ∨ ∃ v d, valV ks k = some v ∧ getK kvs (keyD k) = some d ∧ Rep c H M v d
  | _, _, .nil, k => .inl ⟨rfl, rfl⟩
  | _, _, .cons (k := a) (v := v) (d := d) r q, k => by
    by_cases e : a = k
    · subst e
      refine .inr ⟨v, d, valV_pos rfl, ?_, r⟩
      show (if eqKey (keyD a) (keyD a) = true then some d else _) = some d
      rw [eqKey_keyD, if_pos (decide_eq_true rfl)]
    · have e1 : ∀ x y, valV ((a, x) :: y) k = valV y k := fun x y => valV_neg e
      have e2 : ∀ x y, getK ((keyD a, x) :: y) (keyD k) = getK y (keyD k) := fun x y => by
        show (if eqKey (keyD a) (keyD k) = true then _ else _) = _
        rw [eqKey_keyD, decide_eq_false e, if_neg Bool.false_ne_true]
      rw [e1, e2]
      exact getK_K q k
theorem getK_T : ∀ {ks : List (List Key × V)} {kvs : List (D × D)}, RepT c H M ks kvs → ∀ k, (valV ks k = none ∧ getK kvs (.tup (k.map keyD)) = none) ∨ ∃ v d, valV ks k = some v ∧ getK kvs (.tup (k.map keyD)) = some d ∧ Rep c H M v d
  | _, _, .nil, k => .inl ⟨rfl, rfl⟩
  | _, _, .cons (k := a) (v := v) (d := d) _ r q, k => by
    by_cases e : a = k
    · subst e
      refine .inr ⟨v, d, valV_pos rfl, ?_, r⟩
      show (if eqKey (.tup (a.map keyD)) (.tup (a.map keyD)) = true then some d else _) = some d
      rw [eqKey_tup, if_pos (decide_eq_true rfl)]
    · have e1 : ∀ x y, valV ((a, x) :: y) k = valV y k := fun x y => valV_neg e
      have e2 : ∀ x y, getK ((.tup (a.map keyD), x) :: y) (.tup (k.map keyD)) = getK y (.tup (k.map keyD)) := fun x y => by
        show (if eqKey (.tup (a.map keyD)) (.tup (k.map keyD)) = true then _ else _) = _
        rw [eqKey_tup, decide_eq_false e, if_neg Bool.false_ne_true]
      rw [e1, e2]
      exact getK_T q k
/-- what a dict has at a key -/
theorem dget_of (ok : Cells c H M) {v w : V} {d e : D} {t : Bool} {kvs : List (D × D)} (r : Rep c H M v d) (h : dctD M d = some (t, kvs)) (rk : Rep c H M w e) (hk : keyOk t e = true) :
    ∃ a, v = .ref a ∧ ((getK kvs e = none ∧ DGet H a w none) ∨ ∃ x dx, getK kvs e = some dx ∧ DGet H a w (some x) ∧ Rep c H M x dx) := by
  obtain ⟨a, rfl, h⟩ := rep_dct ok r h
  refine ⟨a, rfl, ?_⟩
  rcases h with ⟨rfl, ks, h1, _, q⟩ | ⟨rfl, ks, h1, _, q⟩
  · obtain ⟨k, rfl, rfl⟩ := key_flat rk hk
    rcases getK_K q k with ⟨e1, e2⟩ | ⟨x, dx, e1, e2, rx⟩
    · exact .inl ⟨e2, .inl ⟨ks, k, h1, rfl, e1.symm⟩⟩
    · exact .inr ⟨x, dx, e2, .inl ⟨ks, k, h1, rfl, e1.symm⟩, rx⟩
  · obtain ⟨b, k, rfl, hb, rfl⟩ := key_tup rk hk
    rcases getK_T q k with ⟨e1, e2⟩ | ⟨x, dx, e1, e2, rx⟩
    · exact .inl ⟨e2, .inr ⟨ks, k, b, h1, rfl, hb, e1.symm⟩⟩
    · exact .inr ⟨x, dx, e2, .inr ⟨ks, k, b, h1, rfl, hb, e1.symm⟩, rx⟩
end
/-! ### comparisons -/
section
variable {X : Cx} {c : Cfg}
def rDIn : R2 := fun x y H Q => ∃ a o, y = .ref a ∧ DGet H a x o ∧ Q (.bl o.isSome) H
def rDNotIn : R2 := fun x y H Q => ∃ a o, y = .ref a ∧ DGet H a x o ∧ Q (.bl (!o.isSome)) H
theorem op_dIn (hu : X.A.units + 1 < cLine) : OpR X (compareOp .In) rDIn := fun pins s σ H x y v u Q I rx ry ⟨a, o, e, g, q⟩ => by
  subst e
  obtain rfl : u = Value.ref a := ry
  exact d_in hu I g rx fun s3 I3 => ⟨.bl o.isSome, H, I3, rfl, q⟩
theorem op_dNotIn (hu : X.A.units + 1 < cLine) : OpR X (compareOp .NotIn) rDNotIn := fun pins s σ H x y v u Q I rx ry ⟨a, o, e, g, q⟩ => by
  subst e
  obtain rfl : u = Value.ref a := ry
  exact d_notIn hu I g rx fun s3 I3 => ⟨.bl (!o.isSome), H, I3, rfl, q⟩
theorem eq_dat (hK : X.K = c.K) {x y : V} {H : Hp} {M : Mm} {dx dy : D} {Q : Bool → Prop} (ok : Cells c H M) (rx : Rep c H M x dx) (ry : Rep c H M y dy) (h : eqQ dx dy M Q) :
    ∃ d e, Dp X.K H x d ∧ Dp X.K H y e ∧ SeqAt.shaped d = true ∧ SeqAt.shaped e = true ∧ Q (PyData.eqv d e) := by
  obtain ⟨h1, h2, h⟩ := h
  rw [hK]
  exact ⟨_, _, DR.dp ((rx.dr.rs ok).rs ok) h1, DR.dp ((ry.dr.rs ok).rs ok) h2, pu_shaped (by decide) h1, pu_shaped (by decide) h2, by rw [eqv_toP _ _ h1 h2]; exact h⟩
theorem flat_rep {H : Hp} {M : Mm} {x : V} {d : D} (r : Rep c H M x d) (h : flatD d = true) : flatV x = true := by
  cases r <;> first | rfl | simp [flatD] at h
theorem flat_eq {H : Hp} {M : Mm} {x y : V} {d e : D} (r : Rep c H M x d) (r' : Rep c H M y e) (h : flatD d = true) (h' : flatD e = true) : eqV x y = eqv d e := by
  cases r <;> first | (simp [flatD] at h; done) | (cases r' <;> first | rfl | (simp [flatD] at h'; done))
theorem flats_rep {H : Hp} {M : Mm} {x : V} {d : D} (r : Rep c H M x d) (h : flatD d = true) : ∀ {vs : List V} {ds : List D}, Reps c H M vs ds → ds.all flatD = true → vs.all flatV = true ∧ inV x vs = ds.any fun z => eqv z d
  | _, _, .nil, _ => ⟨rfl, rfl⟩
  | _, _, .cons (v := v) (vs := vs) a q, h' => by
    simp only [List.all_cons, Bool.and_eq_true] at h'
    obtain ⟨h1, h2⟩ := flats_rep r h q h'.2
    refine ⟨by rw [List.all_cons, flat_rep a h'.1, h1]; rfl, ?_⟩
    show (eqV v x || inV x vs) = _
    rw [flat_eq a r h'.1 h, h2, List.any_cons]
theorem any_toP {n m : Nat} {d : D} (h : pu m d = true) : ∀ (ds : List D), pu.puL n ds = true → ((toP.toPL ds).any fun z => PyData.eqv z (toP d)) = ds.any fun z => eqv z d
  | [], _ => rfl
  | e :: r, q => by
    simp only [pu.puL, Bool.and_eq_true] at q
    show (PyData.eqv (toP e) (toP d) || (toP.toPL r).any fun z => PyData.eqv z (toP d)) = _
    rw [eqv_toP e d q.1 h, any_toP h r q.2, List.any_cons]
/-- x in y, whichever, by P of the answer -/
theorem in_sat (hK : X.K = c.K) {x y : V} {H : Hp} {M : Mm} {dx dy : D} {Q : Bool → Prop} (ok : Cells c H M) (rx : Rep c H M x dx) (ry : Rep c H M y dy) (h : inQ dx dy M Q) :
    (∃ a o, y = .ref a ∧ DGet H a x o ∧ Q o.isSome) ∨ (∃ i j, x = .str i ∧ y = .str j ∧ Q (!(Builtin.Str.occurrences j i 0 j.length 1).isEmpty)) ∨
    (∃ p xs, y = .ref p ∧ (SqL X.K H p xs ∨ SqT X.K H p xs) ∧ flatV x = true ∧ xs.all flatV = true ∧ Q (inV x xs)) ∨
    (∃ d ds, Dp X.K H x d ∧ Dp X.K H y (.list ds) ∧ SeqAt.shaped d = true ∧ SeqAt.shaped (.list ds) = true ∧ Q (ds.any fun z => PyData.eqv z d)) := by
  unfold inQ at h
  cases e : dctD M dy with
  | some p =>
    obtain ⟨t, kvs⟩ := p
    rw [e] at h
    obtain ⟨hk, h⟩ := h
    obtain ⟨a, rfl, g⟩ := dget_of ok ry e rx hk
    rcases g with ⟨g1, g2⟩ | ⟨w, dw, g1, g2, _⟩
    · rw [g1] at h; exact .inl ⟨a, _, rfl, g2, h⟩
    · rw [g1] at h; exact .inl ⟨a, _, rfl, g2, h⟩
  | none =>
    rw [e] at h
    have seq : ∀ {dy : D}, Rep c H M y dy → (obn (seqD M dy) fun ds => cnd (pu 59 (rs M dx) = true) (cnd (pu 59 (.lst ds) = true) (Q (ds.any fun z => eqv z (rs M dx))))) → (∀ ds, dy ≠ .tup ds) → (∀ ds, dy ≠ .ro true ds) →
        ∃ d ds, Dp X.K H x d ∧ Dp X.K H y (.list ds) ∧ SeqAt.shaped d = true ∧ SeqAt.shaped (.list ds) = true ∧ Q (ds.any fun z => PyData.eqv z d) := fun {dy} ry h nt nr => by
      obtain ⟨ds, e1, h1, h2, h⟩ := obn_of h
      have hl : ∃ a vs, y = .ref a ∧ SqL c.K H a vs ∧ Reps c H M vs ds := by
        cases ry with
        | lst h1 n z q => cases e1; exact ⟨_, _, rfl, SqL.of h1, q⟩
        | roL h1 z q => cases e1; exact ⟨_, _, rfl, KL.sq h1, q⟩
        | roT h1 z q => exact absurd rfl (nr _)
        | tup h1 n z q => exact absurd rfl (nt _)
        | ref a =>
          cases e2 : M a with
          | none => simp [seqD, e2] at e1
          | some x =>
            cases x with
            | lst es =>
              simp [seqD, e2] at e1; subst e1
              cases ok.at' a _ e2 with
              | lst h1 z q => exact ⟨a, _, rfl, SqL.of h1, q⟩
            | _ => simp [seqD, e2] at e1
        | _ => cases e1
      obtain ⟨a, vs, rfl, hs, q⟩ := hl
      rw [hK]
      refine ⟨_, _, DR.dp (rx.dr.rs ok) h1, DR.dp (d := .lst ds) (n := 59) (.lst hs q.dr) h2, pu_shaped (by decide) h1, pu_shaped (n := 59) (d := .lst ds) (by decide) h2, ?_⟩
      have h2' : pu.puL 58 ds = true := by
        simp only [pu, Bool.and_eq_true] at h2
        exact h2.2
      rw [show (toP.toPL ds).any (fun z => PyData.eqv z (toP (rs M dx))) = _ from any_toP h1 ds h2']
      exact h
    have flat : ∀ {ds : List D} {p : Addr} {xs : List V}, y = .ref p → SqT c.K H p xs → Reps c H M xs ds → (cnd (flatD dx = true) (cnd (ds.all flatD = true) (Q (ds.any fun z => eqv z dx)))) →
        ∃ p xs, y = .ref p ∧ (SqL X.K H p xs ∨ SqT X.K H p xs) ∧ flatV x = true ∧ xs.all flatV = true ∧ Q (inV x xs) := fun {ds p xs} ey hs q h => by
      obtain ⟨h1, h2, h⟩ := h
      obtain ⟨f1, f2⟩ := flats_rep rx h1 q h2
      rw [hK]
      exact ⟨p, xs, ey, .inr hs, flat_rep rx h1, f1, by rw [f2]; exact h⟩
    cases dy with
    | str t => cases dx with
      | str s =>
        rw [rep_str rx, rep_str ry]
        exact .inr (.inl ⟨s, t, rfl, rfl, h⟩)
      | _ => exact False.elim h
    | tup ds => cases ry with
      | tup h1 n z q => exact .inr (.inr (.inl (flat rfl (SqT.of h1) q h)))
    | ro t ds => cases t with
      | true => cases ry with
        | roT h1 z q => exact .inr (.inr (.inl (flat rfl (.inr h1) q h)))
      | false => exact .inr (.inr (.inr (seq ry h (by simp) (by simp))))
    | lst ds => exact .inr (.inr (.inr (seq ry h (by simp) (by simp))))
    | ref a => exact .inr (.inr (.inr (seq ry h (by simp) (by simp))))
    | _ => obtain ⟨_, e1, _⟩ := obn_of h; cases e1
theorem is_sat {x y : V} {H : Hp} {M : Mm} {dx dy : D} {Q : Bool → Prop} (rx : Rep c H M x dx) (ry : Rep c H M y dy) (h : isQ dx dy Q) :
    (y = .non ∧ Q (decide (x = .non))) ∨ ∃ a b, x = .bl a ∧ y = .bl b ∧ Q (decide (a = b)) := by
  cases dy with
  | non =>
    rw [rep_non ry]
    refine .inl ⟨rfl, ?_⟩
    have e : decide (x = .non) = (match dx with | .non => true | _ => false) := by
      cases rx <;> simp
    rw [e]
    cases dx <;> exact h
  | bl b => cases dx with
    | bl a => exact .inr ⟨a, b, rep_bl rx, rep_bl ry, h⟩
    | _ => exact False.elim h
  | _ => exact False.elim h
theorem intsD_rep {H : Hp} {M : Mm} : ∀ {vs : List V} {ds : List D} {is : List Int}, Reps c H M vs ds → intsD ds = some is → vs = is.map V.int
  | _, _, _, .nil, h => by cases h; rfl
  | _, _, _, .cons (d := d) (ds := ds) a r, h => by
    cases d with
    | int i =>
      cases e : intsD ds with
      | none => simp [intsD, e] at h
      | some js =>
        simp [intsD, e] at h; subst h
        rw [rep_int a, intsD_rep r e]; rfl
    | _ => simp [intsD] at h
theorem boolsD_rep {H : Hp} {M : Mm} : ∀ {vs : List V} {ds : List D} {is : List Bool}, Reps c H M vs ds → boolsD ds = some is → vs = is.map V.bl
  | _, _, _, .nil, h => by cases h; rfl
  | _, _, _, .cons (d := d) (ds := ds) a r, h => by
    cases d with
    | bl i =>
      cases e : boolsD ds with
      | none => simp [boolsD, e] at h
      | some js =>
        simp [boolsD, e] at h; subst h
        rw [rep_bl a, boolsD_rep r e]; rfl
    | _ => simp [boolsD] at h
def rLtU (K : PySem.W.Frag) : R2 := fun x y H Q => rI0 (fun i j => .bl (decide (i < j))) x y H Q ∨ (∃ i j, x = .str i ∧ y = .str j ∧ Q (.bl (decide (i.cps.toList < j.cps.toList))) H) ∨ rLtT K x y H Q
theorem cmp_ok (hK : X.K = c.K) (hu : X.A.units + 70 < cLine) (op : CmpOp) : ∃ r, OpR X (compareOp op) r ∧ CmpSat c r (cmpD op) := by
  cases op with
  | Eq => exact ⟨_, op_eqD (by omega), fun Z x y H M dx dy Q k ok rx ry h hk => let ⟨d, e, h1, h2, h3, h4, h⟩ := eq_dat (c := c.z Z) hK ok rx ry h; ⟨d, e, h1, h2, h3, h4, hk _ h⟩⟩
  | NotEq => exact ⟨_, op_neD (by omega), fun Z x y H M dx dy Q k ok rx ry h hk => let ⟨d, e, h1, h2, h3, h4, h⟩ := eq_dat (c := c.z Z) (Q := fun b => Q (!b)) hK ok rx ry h; ⟨d, e, h1, h2, h3, h4, hk _ h⟩⟩
  | Lt =>
    refine ⟨rLtU X.K, op_lt.or (op_lt_str.or (op_ltT (by omega))), fun Z x y H M dx dy Q k ok rx ry h hk => ?_⟩
    cases dx with
    | int i => cases dy with
      | int j => rw [rep_int rx, rep_int ry]; exact .inl ⟨i, j, rfl, rfl, hk _ h⟩
      | _ => exact False.elim h
    | str i => cases dy with
      | str j => rw [rep_str rx, rep_str ry]; exact .inr (.inl ⟨i, j, rfl, rfl, hk _ h⟩)
      | _ => exact False.elim h
    | tup xs => cases dy with
      | tup ys =>
        obtain ⟨is, e1, h⟩ := obn_of h
        obtain ⟨js, e2, h⟩ := obn_of h
        cases rx with
        | tup h1 n1 z1 r1 => cases ry with
          | tup h2 n2 z2 r2 =>
            rw [intsD_rep r1 e1] at h1
            rw [intsD_rep r2 e2] at h2
            exact .inr (.inr ⟨_, _, is, js, rfl, rfl, SqT.of h1, SqT.of h2, hk _ h⟩)
      | _ => exact False.elim h
    | _ => exact False.elim h
  | LtE => exact ⟨_, op_le, fun Z x y H M dx dy Q k ok rx ry h hk => let ⟨i, j, e1, e2, q⟩ := intQ_of h; ⟨i, j, rep_int (e1 ▸ rx), rep_int (e2 ▸ ry), hk _ q⟩⟩
  | Gt => exact ⟨_, op_gt, fun Z x y H M dx dy Q k ok rx ry h hk => let ⟨i, j, e1, e2, q⟩ := intQ_of h; ⟨i, j, rep_int (e1 ▸ rx), rep_int (e2 ▸ ry), hk _ q⟩⟩
  | GtE => exact ⟨_, op_ge, fun Z x y H M dx dy Q k ok rx ry h hk => let ⟨i, j, e1, e2, q⟩ := intQ_of h; ⟨i, j, rep_int (e1 ▸ rx), rep_int (e2 ▸ ry), hk _ q⟩⟩
  | Is =>
    refine ⟨_, op_isN.or op_isBl, fun Z x y H M dx dy Q k ok rx ry h hk => ?_⟩
    rcases is_sat rx ry h with ⟨e, q⟩ | ⟨a, b, e1, e2, q⟩
    · exact .inl ⟨e, hk _ q⟩
    · exact .inr ⟨a, b, e1, e2, hk _ q⟩
  | IsNot =>
    refine ⟨_, op_notN.or op_notBl, fun Z x y H M dx dy Q k ok rx ry h hk => ?_⟩
    rcases is_sat (Q := fun b => Q (!b)) rx ry h with ⟨e, q⟩ | ⟨a, b, e1, e2, q⟩
    · exact .inl ⟨e, hk _ q⟩
    · exact .inr ⟨a, b, e1, e2, hk _ q⟩
  | In =>
    refine ⟨_, (op_dIn (by omega)).or (op_in_str.or (op_in_seq.or (op_inD (by omega)))), fun Z x y H M dx dy Q k ok rx ry h hk => ?_⟩
    rcases in_sat (c := c.z Z) hK ok rx ry h with ⟨a, o, e, g, q⟩ | ⟨i, j, e1, e2, q⟩ | ⟨p, xs, e, s, f1, f2, q⟩ | ⟨d, ds, h1, h2, h3, h4, q⟩
    · exact .inl ⟨a, o, e, g, hk _ q⟩
    · exact .inr (.inl ⟨i, j, e1, e2, hk _ q⟩)
    · exact .inr (.inr (.inl ⟨p, xs, e, s, f1, f2, hk _ q⟩))
    · exact .inr (.inr (.inr ⟨d, ds, h1, h2, h3, h4, hk _ q⟩))
  | NotIn =>
    refine ⟨_, (op_dNotIn (by omega)).or (op_notin_str.or (op_notIn_seq.or (op_notInD (by omega)))), fun Z x y H M dx dy Q k ok rx ry h hk => ?_⟩
    rcases in_sat (c := c.z Z) (Q := fun b => Q (!b)) hK ok rx ry h with ⟨a, o, e, g, q⟩ | ⟨i, j, e1, e2, q⟩ | ⟨p, xs, e, s, f1, f2, q⟩ | ⟨d, ds, h1, h2, h3, h4, q⟩
    · exact .inl ⟨a, o, e, g, hk _ q⟩
    · exact .inr (.inl ⟨i, j, e1, e2, hk _ q⟩)
    · exact .inr (.inr (.inl ⟨p, xs, e, s, f1, f2, hk _ q⟩))
    · exact .inr (.inr (.inr ⟨d, ds, h1, h2, h3, h4, hk _ q⟩))
end
end L3
set_option maxRecDepth 100000
set_option maxHeartbeats 4000000
namespace L3
open PySem L2
section
variable {X : Cx} {c : Cfg}
/-! ### subscripts -/
def rDIx : R2 := fun x y H Q => ∃ a v, x = .ref a ∧ DGet H a y (some v) ∧ Q v H
theorem ix_dict (hu : X.A.units + 1 < cLine) : IxR X rDIx := fun value slice pins s σ H x y v u Q I rx ry ⟨a, w, ex, g, q⟩ hs => by
  subst ex
  obtain rfl : v = Value.ref a := rx
  have hT := dict_typeIs I g
  have core : wpAny (model X.prog X.w) X.A (getItem (.ref a) u) (EP X pins σ Q) X.xe s := d_getItem hu I g ry fun w' s3 I3 rw' => ⟨w, H, I3, rw', q⟩
  have tail : wpAny (model X.prog X.w) X.A (subscripted slice false (.ref a) u) (fun r s₃ => wpAny (model X.prog X.w) X.A (letTemporaryGo value (.ref a) r >>= fun _ => pure r) (EP X pins σ Q) X.xe s₃) X.xe s := by
    rw [hs]; exact wpAny_operating (wpAny_mono core (fun r s₃ h₃ => wpAny_bind (wpAny_letTemporaryGo (wpAny_pure h₃))) fun _ _ z => z)
  unfold PyProof.Rows.subscriptTail; refine wpAny_bind ?_
  rw [getitemInPython_of_ne hT.not_modules]; refine wpAny_bind (wpAny_specialOf hT PySem.F.slot_dict_getitem.lookup ?_)
  first
    | exact wpAny_pure (wpAny_bind tail)
    | exact wpAny_bind tail
    | exact wpAny_pure tail
theorem atI_rep {H : Hp} {M : Mm} {vs : List V} {ds : List D} {i : Int} {d : D} (r : Reps c H M vs ds) (h : atI ds i = some d) : ∃ v, atI vs i = some v ∧ Rep c H M v d := by
  unfold atI at h ⊢
  rw [r.len]
  cases e : ixN ds.length i with
  | none => rw [e] at h; cases h
  | some j =>
    rw [e] at h
    exact r.get h
theorem ix_ok (hK : X.K = c.K) (hu : X.A.units + 70 < cLine) : ∃ r, IxR X r ∧ OpSat c r (fun x y M Q => ixD x y M fun v => Q v M) := by
  refine ⟨_, (ix_dict (by omega)).or ix_seq, fun Z x y H M dx dy Q k ok rx ry h hk => ?_⟩
  change ixD dx dy M (fun v => Q v M) at h
  unfold ixD at h
  cases e : dctD M dx with
  | some p =>
    obtain ⟨t, kvs⟩ := p
    rw [e] at h
    obtain ⟨h1, h⟩ := h
    obtain ⟨d, e2, h⟩ := obn_of h
    obtain ⟨a, rfl, g⟩ := dget_of ok rx e ry h1
    rcases g with ⟨g1, _⟩ | ⟨w, dw, g1, g2, rw'⟩
    · rw [g1] at e2; cases e2
    · rw [g1] at e2; cases e2
      exact .inl ⟨a, w, rfl, g2, hk _ _ _ _ .refl ok rw' h⟩
  | none =>
    rw [e] at h
    cases dy with
    | int n =>
      rw [rep_int ry]
      have seq : (obn (seqD M dx) fun ds => obn (atI ds n) fun v => Q v M) → rIx X.K x (.int n) H k := fun h => by
        obtain ⟨ds, e1, h⟩ := obn_of h
        obtain ⟨d, e2, h⟩ := obn_of h
        obtain ⟨a, vs, rfl, hs, hz, r⟩ := rep_seq ok rx e1
        obtain ⟨v, ev, rv⟩ := atI_rep r e2
        rw [hK]
        exact hs.elim (fun s => .inl ⟨a, vs, n, v, rfl, rfl, s, ev, hk _ _ _ _ .refl ok rv h⟩) fun s => .inr (.inl ⟨a, vs, n, v, rfl, rfl, s, ev, hk _ _ _ _ .refl ok rv h⟩)
      cases dx with
      | str z =>
        obtain ⟨h1, h⟩ := h
        obtain ⟨ch, e2, h⟩ := obn_of h
        rw [rep_str rx]
        exact .inr (.inr (.inr ⟨z, n, ch, rfl, rfl, h1, e2, hk _ _ _ _ .refl ok (.str _) h⟩))
      | _ => exact .inr (seq h)
    | _ => exact False.elim h
/-! ### slices -/
def rSlU (K : PySem.W.Frag) : V → Option Int → Option Int → Hp → VK → Prop := fun x lo hi H Q => rSlL K x lo hi H Q ∨ rSlS x lo hi H Q ∨ rSlA K x lo hi H Q
theorem sl_U : SlR X (rSlU X.K) := sl_list.or (sl_str.or sl_tupA)
theorem cut_rep {H : Hp} {M : Mm} {vs : List V} {ds : List D} (r : Reps c H M vs ds) (lo hi : Option Int) : Reps c H M (cutV vs lo hi) (cut ds lo hi) := by
  unfold cutV cut
  rw [r.len]
  exact Reps.take _ (Reps.drop _ r)
theorem cut_all {α : Type} (ds : List α) (lo hi : Option Int) (h : HT.sIx ds.length 0 lo = 0 ∧ HT.sIx ds.length ds.length hi = ds.length) : cut ds lo hi = ds := by
  unfold cut
  rw [h.1, h.2]
  simp
theorem sl_sat (hK : X.K = c.K) {m : Bool} {x : V} {lo hi : Option Int} {H : Hp} {M : Mm} {dx : D} {Q : QD} {k : VK} (ok : Cells c H M) (rx : Rep c H M x dx)
    (h : slD m dx lo hi M Q) (hk : Cont c H M Q k) : rSlU X.K x lo hi H k := by
  have seq : (∀ ds, dx ≠ .tup ds) → (∀ ds, dx ≠ .ro true ds) → (obn (seqD M dx) fun ds => alL m (cut ds lo hi) M Q) → rSlU X.K x lo hi H k := fun nt nr h => by
    obtain ⟨ds, e1, h⟩ := obn_of h
    have hl : ∃ a vs, x = .ref a ∧ SqL c.K H a vs ∧ vs.length ≤ sizeLine ∧ Reps c H M vs ds := by
      cases rx with
      | lst h1 n z q => cases e1; exact ⟨_, _, rfl, SqL.of h1, z, q⟩
      | roL h1 z q => cases e1; exact ⟨_, _, rfl, KL.sq h1, z, q⟩
      | roT h1 z q => exact absurd rfl (nr _)
      | tup h1 n z q => exact absurd rfl (nt _)
      | ref a =>
        cases e2 : M a with
        | none => simp [seqD, e2] at e1
        | some x =>
          cases x with
          | lst es =>
            simp [seqD, e2] at e1; subst e1
            cases ok.at' a _ e2 with
            | lst h1 z q => exact ⟨a, _, rfl, SqL.of h1, z, q⟩
          | _ => simp [seqD, e2] at e1
      | _ => cases e1
    obtain ⟨a, vs, rfl, hs, hz, q⟩ := hl
    rw [hK]
    exact .inl ⟨a, vs, rfl, hs, al_ok ok (cut_rep q lo hi) (Nat.le_trans (cutV_length vs lo hi) hz) h hk⟩
  cases dx with
  | str z =>
    obtain ⟨h1, h⟩ := h
    rw [rep_str rx]
    exact .inr (.inl ⟨z, rfl, h1, hk _ _ _ _ .refl ok (.str _) h⟩)
  | tup ds => cases rx with
    | tup h1 n z q =>
      rename_i a vs
      refine .inr (.inr ⟨a, vs, rfl, SqT.of h1, fun e => ?_, fun _ => ?_⟩)
      · rw [q.len] at e
        have h : Q (.tup (cut ds lo hi)) M := h
        rw [cut_all ds lo hi e] at h
        exact hk _ _ _ _ .refl ok (.tup h1 n z q) h
      · exact tup_ok ok (cut_rep q lo hi) (Nat.le_trans (cutV_length vs lo hi) z) h hk
  | ro t ds => cases t with
    | true => exact False.elim h
    | false => exact seq (by simp) (by simp) h
  | lst ds => exact seq (by simp) (by simp) h
  | ref a => exact seq (by simp) (by simp) h
  | _ => exact absurd h (by simp [slD, obn, seqD])
end
/-! ### sorting -/
theorem perm_sorted_eq {α : Type} {le : α → α → Prop} (anti : ∀ a b, le a b → le b a → a = b) : ∀ {l m : List α}, l.Perm m → l.Pairwise le → m.Pairwise le → l = m
  | [], m, p, _, _ => by rw [List.nil_perm.mp p]
  | a :: l, [], p, _, _ => by have := p.length_eq; simp at this
  | a :: l, b :: m, p, hl, hm => by
    have ha : a ∈ b :: m := p.subset (List.mem_cons_self)
    have hb : b ∈ a :: l := p.symm.subset (List.mem_cons_self)
    have e : a = b := by
      rcases List.mem_cons.mp ha with e | ha
      · exact e
      · rcases List.mem_cons.mp hb with e | hb
        · exact e.symm
        · exact anti a b ((List.pairwise_cons.mp hl).1 b hb) ((List.pairwise_cons.mp hm).1 a ha)
    subst e
    rw [perm_sorted_eq anti (List.perm_cons a |>.mp p) (List.pairwise_cons.mp hl).2 (List.pairwise_cons.mp hm).2]
theorem sortI_uniq {ns ms : List Int} (p : ms.Perm ns) (h : ms.Pairwise (· ≤ ·)) : ms = ns.mergeSort fun a b => decide (a ≤ b) := by
  refine perm_sorted_eq (le := (· ≤ ·)) (fun a b h1 h2 => Int.le_antisymm h1 h2) (p.trans (List.mergeSort_perm ns _).symm) h ?_
  refine (List.pairwise_mergeSort (le := fun a b : Int => decide (a ≤ b)) (fun a b c h1 h2 => ?_) (fun a b => ?_) ns).imp fun h => of_decide_eq_true h
  · simp at h1 h2 ⊢; omega
  · simp; omega
theorem leP_trans (a b c : Int × Int) (h1 : leP a b = true) (h2 : leP b c = true) : leP a c = true := by
  simp [leP] at h1 h2 ⊢; omega
theorem leP_total (a b : Int × Int) : (leP a b || leP b a) = true := by
  simp [leP]; omega
theorem leP_anti (a b : Int × Int) (h1 : leP a b = true) (h2 : leP b a = true) : a = b := by
  simp [leP] at h1 h2
  obtain ⟨a1, a2⟩ := a
  obtain ⟨b1, b2⟩ := b
  simp at h1 h2 ⊢; omega
theorem sortP_uniq {ns ms : List (Int × Int)} (p : ms.Perm ns) (h : ms.Pairwise fun a b => leP a b = true) : ms = ns.mergeSort leP :=
  perm_sorted_eq (le := fun a b => leP a b = true) leP_anti (p.trans (List.mergeSort_perm ns _).symm) h (List.pairwise_mergeSort leP_trans leP_total ns)
end L3
set_option maxRecDepth 100000
set_option maxHeartbeats 4000000
namespace L3
open PySem L2
section
variable {X : Cx} {c : Cfg}
/-! ### a dict brought up to date -/
def rDUpd : V → List V → Hp → VK → Prop := fun x xs H Q => ∃ d o kvs more, x = .ref d ∧ xs = [.ref o] ∧ d ≠ o ∧ H d = some (.dK kvs) ∧ Rd H o (.dK more) ∧ kvs.length + more.length ≤ sizeLine ∧ Q .non (upd H d (.dK (mergeK kvs more)))
theorem mt_dupd : MtR X "dict.update" rDUpd := by
  intro pins s σ H x xs v us Q I rv rs q
  obtain ⟨d, o, kvs, more, rfl, rfl, ne, hd, ho, hl, hQ⟩ := q
  cases rv
  obtain ⟨u, rfl, ru⟩ := vals1 rs
  cases ru
  obtain ⟨z1, hm1, ys, r1, d1⟩ := dk_of I.hok hd
  obtain ⟨z2, hm2, zs, r2, d2⟩ := dk_rd I.hok ho
  refine call_meetsIn (T := "dict") PySem.F.slot_dict_update d1.typeIs PySem.F.entry_dict_update (PySem.F.args_dict_update_2 _ _) (meets_dict_update (mixKind X.prog X.w) d o ne hm2) ⟨ys, zs, d1, d2, ?_, fun h' g1 g2 sb => ?_⟩
  · rw [← r1.length, ← r2.length]; exact hl
  · have he : ∃ q, h'.get? d = some q := let ⟨q, _, _, hq, _⟩ := g1; ⟨q, hq⟩
    exact ⟨.non, _, d_write I (by rw [hd]; exact True.intro) sb he (dk_new (Nat.le_trans (length_mergeK more kvs) hl) hm1 (KV.merge r2 r1) g1), rfl, hQ⟩
theorem putK_K {H : Hp} {M : Mm} {v : V} {d : D} (rv : Rep c H M v d) (k : Key) : ∀ {ks : List (Key × V)} {kvs : List (D × D)}, RepK c H M ks kvs → RepK c H M (L2.putK ks k v) (L3.putK kvs (keyD k) d) := fun {ks kvs} r => by
  have ha : (ks.any fun kv => decide (kv.1 = k)) = kvs.any fun p => eqKey p.1 (keyD k) := by
    have : ∀ {ks : List (Key × V)} {kvs : List (D × D)}, RepK c H M ks kvs → (ks.any fun kv => decide (kv.1 = k)) = kvs.any fun p => eqKey p.1 (keyD k) := by
      intro ks
      induction ks with
      | nil => intro kvs r; cases r; rfl
      | cons a b ih => intro kvs r; cases r with
        | cons x y => simp only [List.any_cons, eqKey_keyD, ih y]
    exact this r
  have hm : ∀ {ks : List (Key × V)} {kvs : List (D × D)}, RepK c H M ks kvs → RepK c H M (ks.map fun kv => if kv.1 = k then (kv.1, v) else kv) (kvs.map fun p => if eqKey p.1 (keyD k) = true then (p.1, d) else p) := by
    intro ks
    induction ks with
    | nil => intro kvs r; cases r; exact .nil
    | cons a b ih => intro kvs r; cases r with
      | @cons k' v' d' _ _ x y =>
        simp only [List.map_cons, eqKey_keyD, decide_eq_true_eq]
        by_cases e : k' = k
        · simp only [e, if_true]; exact .cons rv (ih y)
        · simp only [e, if_false]; exact .cons x (ih y)
  have hap : ∀ {ks : List (Key × V)} {kvs : List (D × D)}, RepK c H M ks kvs → RepK c H M (ks ++ [(k, v)]) (kvs ++ [(keyD k, d)]) := by
    intro ks
    induction ks with
    | nil => intro kvs r; cases r; exact .cons rv .nil
    | cons a b ih => intro kvs r; cases r with
      | cons x y => exact .cons x (ih y)
  unfold L2.putK L3.putK
  rw [ha]
  split
  · exact hm r
  · exact hap r
theorem putK_len {κ : Type} [DecidableEq κ] (kvs : List (κ × V)) (k : κ) (v : V) : (L2.putK kvs k v).length ≤ kvs.length + 1 := by
  unfold L2.putK
  split <;> simp
theorem mrg_K {H : Hp} {M : Mm} : ∀ (ls : List (Key × V)) {lds : List (D × D)} {ks : List (Key × V)} {kvs : List (D × D)}, RepK c H M ls lds → RepK c H M ks kvs → RepK c H M (mergeK ks ls) (mrgK kvs lds) := by
  intro ls
  induction ls with
  | nil => intro lds ks kvs r r2; cases r; exact r2
  | cons p r ih => intro lds ks kvs r r2; cases r with
    | @cons k v d _ kvs' a r' =>
      show RepK c H M (mergeK (L2.putK ks k v) r) (mrgK (L3.putK kvs (keyD k) d) kvs')
      exact ih r' (putK_K a k r2)
theorem celK_rep {H : Hp} {M : Mm} {x : V} {d : D} {a : Addr} {kvs : List (D × D)} (ok : Cells c H M) (r : Rep c H M x d) (h : celK M d = some (a, kvs)) : x = .ref a ∧ d = .ref a ∧ M a = some (.dct false kvs) ∧ ∃ ks, H a = some (.dK ks) ∧ ks.length ≤ sizeLine ∧ RepK c H M ks kvs := by
  cases r with
  | ref b =>
    cases e : M b with
    | none => simp [celK, e] at h
    | some y => cases y with
      | dct t es =>
        cases t with
        | true => simp [celK, e] at h
        | false =>
          simp [celK, e] at h
          obtain ⟨rfl, rfl⟩ := h
          cases ok.at' _ _ e with
          | dK h1 z q => exact ⟨rfl, rfl, e, _, h1, z, q⟩
      | _ => simp [celK, e] at h
  | _ => simp [celK] at h
end
end L3
set_option maxRecDepth 100000
set_option maxHeartbeats 4000000
namespace L3
open PySem L2
/-- a built-in called, by values -/
def BiSat (c : Cfg) (r : List V → Hp → VK → Prop) (w : List D → Mm → QD → Prop) : Prop := ∀ Z vs H M ds Q k, Cells (c.z Z) H M → Reps (c.z Z) H M vs ds → w ds M Q → Cont (c.z Z) H M Q k → r vs H k
section
variable {X : Cx} {c : Cfg}
theorem reps1 {H : Hp} {M : Mm} {vs : List V} {d : D} (r : Reps c H M vs [d]) : ∃ v, vs = [v] ∧ Rep c H M v d := by
  cases r with
  | cons a q => cases q; exact ⟨_, rfl, a⟩
theorem reps2 {H : Hp} {M : Mm} {vs : List V} {d e : D} (r : Reps c H M vs [d, e]) : ∃ v w, vs = [v, w] ∧ Rep c H M v d ∧ Rep c H M w e := by
  cases r with
  | cons a q => cases q with
    | cons b q => cases q; exact ⟨_, _, rfl, a, b⟩
def rLenR : List V → Hp → VK → Prop := fun xs H Q => ∃ a kvs, xs = [V.ref a] ∧ Rd H a (.dK kvs) ∧ Q (.int kvs.length) H
theorem call_lenR : CallR X (.builtin "len") rLenR := fun pins s σ H xs us Q I r ⟨a, kvs, e, ha, q⟩ => by
  subst e
  obtain ⟨u, rfl, ru⟩ := vals1 r
  cases ru; exact d_len I ha fun t s' I' => ⟨.int kvs.length, H, I', ⟨t, rfl⟩, q⟩
def rLenTR : List V → Hp → VK → Prop := fun xs H Q => ∃ (p : Addr) (kvs : List (List Key × V)), xs = [.ref p] ∧ Rd H p (.dT kvs) ∧ Q (.int ((kvs.length : Nat) : Int)) H
theorem call_lenTR : CallR X (.builtin "len") rLenTR := fun pins s σ H xs us Q I r ⟨p, kvs, e, hp, q⟩ => by
  subst e
  obtain ⟨u, rfl, rx⟩ := vals1 r
  cases rx; obtain ⟨z, hd, ys, rel, dd⟩ := dt_rd I.hok hp
  have hl : ys.length = kvs.length := (Paired.length rel).symm
  refine call_len_dictH hd dd (by rw [hl]; rw [sizeLine_eq] at z; omega) ?_
  rw [hl]; exact ⟨.int ((kvs.length : Nat) : Int), H, I.tok _, ⟨_, rfl⟩, q⟩
theorem len_sat (hK : X.K = c.K) {vs : List V} {H : Hp} {M : Mm} {d : D} {n : Int} {k : VK} (ok : Cells c H M) (r : Reps c H M vs [d]) (h : lenD M d = some n) (q : k (.int n) H) :
    (∃ x n, vs = [x] ∧ LenV X.K x H n ∧ k (.int n) H) ∨ rLenR vs H k ∨ rLenTR vs H k := by
  obtain ⟨v, rfl, r0⟩ := reps1 r
  have r := r0
  unfold lenD at h
  cases e : dctD M d with
  | some p =>
    obtain ⟨t, kvs⟩ := p
    rw [e] at h
    cases h
    obtain ⟨a, rfl, g⟩ := rep_dct ok r e
    rcases g with ⟨_, ks, h1, _, q1⟩ | ⟨_, ks, h1, _, q1⟩
    · exact .inr (.inl ⟨a, ks, rfl, h1, by rw [q1.len]; exact q⟩)
    · exact .inr (.inr ⟨a, ks, rfl, h1, by rw [q1.len]; exact q⟩)
  | none =>
    rw [e] at h
    refine .inl ⟨v, ?_⟩
    have seq : (match seqD M d with
        | some ds => some (ds.length : Int)
        | none => none) = some n → ∃ n, [v] = [v] ∧ LenV X.K v H n ∧ k (.int n) H := fun h => by
      cases e1 : seqD M d with
      | none => rw [e1] at h; cases h
      | some ds =>
        rw [e1] at h; cases h
        obtain ⟨a, vs, rfl, hs, hz, q1⟩ := rep_seq ok r e1
        rw [hK]
        exact ⟨vs.length, rfl, hs.imp (fun s => ⟨vs, s, rfl⟩) fun s => ⟨vs, s, rfl⟩, by rw [q1.len]; exact q⟩
    cases d with
    | str z =>
      rw [rep_str r]
      simp only at h
      split at h
      · cases h
        exact ⟨z.length, rfl, ⟨by assumption, rfl⟩, q⟩
      · cases h
    | _ => exact seq h
theorem minI_le : ∀ (ns : List Int), ∀ y ∈ ns, minI ns ≤ y
  | [], _, h => nomatch h
  | [i], y, h => by simp at h; subst h; exact Int.le_refl _
  | i :: j :: r, y, h => by
    show min i (minI (j :: r)) ≤ y
    rcases List.mem_cons.mp h with e | h
    · subst e; exact Int.min_le_left _ _
    · exact Int.le_trans (Int.min_le_right _ _) (minI_le (j :: r) y h)
theorem minI_mem : ∀ (ns : List Int), ns ≠ [] → minI ns ∈ ns
  | [], h => absurd rfl h
  | [i], _ => by simp [minI]
  | i :: j :: r, _ => by
    show min i (minI (j :: r)) ∈ _
    have := minI_mem (j :: r) (by simp)
    rcases Int.le_total i (minI (j :: r)) with h | h
    · rw [Int.min_eq_left h]; exact List.mem_cons_self
    · rw [Int.min_eq_right h]; exact List.mem_cons_of_mem _ this
theorem maxI_le : ∀ (ns : List Int), ∀ y ∈ ns, y ≤ maxI ns
  | [], _, h => nomatch h
  | [i], y, h => by simp at h; subst h; exact Int.le_refl _
  | i :: j :: r, y, h => by
    show y ≤ max i (maxI (j :: r))
    rcases List.mem_cons.mp h with e | h
    · subst e; exact Int.le_max_left _ _
    · exact Int.le_trans (maxI_le (j :: r) y h) (Int.le_max_right _ _)
theorem maxI_mem : ∀ (ns : List Int), ns ≠ [] → maxI ns ∈ ns
  | [], h => absurd rfl h
  | [i], _ => by simp [maxI]
  | i :: j :: r, _ => by
    show max i (maxI (j :: r)) ∈ _
    have := maxI_mem (j :: r) (by simp)
    rcases Int.le_total i (maxI (j :: r)) with h | h
    · rw [Int.max_eq_right h]; exact List.mem_cons_of_mem _ this
    · rw [Int.max_eq_left h]; exact List.mem_cons_self
theorem sumI_eq : ∀ ns : List Int, sumI ns = ns.sum
  | [] => rfl
  | i :: r => by rw [List.sum_cons]; show i + sumI r = _; rw [sumI_eq r]
/-- the ints of a list handed in -/
theorem ints_arg (hK : X.K = c.K) {vs : List V} {H : Hp} {M : Mm} {d : D} {ds : List D} {is : List Int} (ok : Cells c H M) (r : Reps c H M vs [d]) (e : lstD M d = some ds) (e2 : intsD ds = some is) :
    ∃ a, vs = [V.ref a] ∧ SqL X.K H a (is.map V.int) := by
  obtain ⟨v, rfl, r0⟩ := reps1 r
  have r := r0
  obtain ⟨a, ws, rfl, ha, _, q⟩ := rep_lst ok r e
  rw [intsD_rep q e2] at ha
  exact ⟨a, rfl, SqL.of ha⟩
theorem bools_arg (hK : X.K = c.K) {vs : List V} {H : Hp} {M : Mm} {d : D} {ds : List D} {is : List Bool} (ok : Cells c H M) (r : Reps c H M vs [d]) (e : lstD M d = some ds) (e2 : boolsD ds = some is) :
    ∃ a, vs = [V.ref a] ∧ SqL X.K H a (is.map V.bl) := by
  obtain ⟨v, rfl, r0⟩ := reps1 r
  have r := r0
  obtain ⟨a, ws, rfl, ha, _, q⟩ := rep_lst ok r e
  rw [boolsD_rep q e2] at ha
  exact ⟨a, rfl, SqL.of ha⟩
/-- pairs -/
def pkV (H : Hp) : V → Int × Int
  | .ref t => match H t with
    | some (.tup [.int i, .int j]) => (i, j)
    | _ => (0, 0)
  | _ => (0, 0)
theorem prs_rep {H : Hp} {M : Mm} : ∀ {vs : List V} {ds : List D} {ps : List (Int × Int)}, Reps c H M vs ds → prs ds = some ps →
    (∀ x ∈ vs, ∃ t, x = V.ref t ∧ H t = some (.tup [.int (pkV H x).1, .int (pkV H x).2]) ∧ Rep c H M x (prD (pkV H x))) ∧ vs.map (pkV H) = ps
  | _, _, _, .nil, h => by cases h; exact ⟨fun x hx => (nomatch hx), rfl⟩
  | _, _, _, .cons (d := d) (ds := ds) (v := v) a r, h => by
    unfold prs at h
    split at h
    · rename_i heq; cases heq
    · rename_i i j r' heq
      cases heq
      split at h
      · rename_i qs e
        cases h
        obtain ⟨h1, h2⟩ := prs_rep r e
        cases a with
        | tup ha n z q =>
          rename_i t ws
          obtain ⟨w1, w2, rfl, r1, r2⟩ := reps2 q
          rw [rep_int r1, rep_int r2] at ha
          have ek : pkV H (.ref t) = (i, j) := by simp [pkV, ha]
          refine ⟨fun x hx => ?_, by rw [List.map_cons, h2, ek]⟩
          rcases List.mem_cons.mp hx with e | hx
          · subst e
            rw [ek]
            exact ⟨t, rfl, ha, .tup ha n (by show 2 ≤ sizeLine; decide) (.cons (.int i) (.cons (.int j) .nil))⟩
          · exact h1 x hx
      · cases h
    · cases h
theorem reps_map {H : Hp} {M : Mm} {f : V → D} : ∀ (vs : List V), (∀ x ∈ vs, Rep c H M x (f x)) → Reps c H M vs (vs.map f)
  | [], _ => .nil
  | v :: r, h => .cons (h v List.mem_cons_self) (reps_map r fun x hx => h x (List.mem_cons_of_mem _ hx))
theorem sort_sat (hK : X.K = c.K) {m : Bool} {vs : List V} {H : Hp} {M : Mm} {d : D} {Q : QD} {k : VK} (ok : Cells c H M) (r : Reps c H M vs [d])
    (h : obn (lstD M d) fun ds => obn (srtD ds) fun es => alL m es M Q) (hk : Cont c H M Q k) : rSortedI X.K vs H k ∨ rSortedPO X.K vs H k := by
  obtain ⟨v, rfl, r0⟩ := reps1 r
  have r := r0
  obtain ⟨ds, e, h⟩ := obn_of h
  obtain ⟨es, e2, h⟩ := obn_of h
  obtain ⟨a, ws, rfl, ha, hz, q⟩ := rep_lst ok r e
  unfold srtD at e2
  cases e3 : intsD ds with
  | some is =>
    rw [e3] at e2; cases e2
    have ew := intsD_rep q e3
    subst ew
    refine .inl ⟨a, is, rfl, SqL.of ha, fun ns' p hp hs hn => ?_⟩
    rw [sortI_uniq hp hs]
    have hl : (is.mergeSort fun a b => decide (a ≤ b)).length = is.length := (List.mergeSort_perm is _).length_eq
    exact al_ok ok (Reps.mapI _) (by rw [List.length_map, hl, ← List.length_map (f := V.int)]; exact hz) h hk p hn
  | none =>
    rw [e3] at e2
    cases e4 : prs ds with
    | none => rw [e4] at e2; cases e2
    | some ps =>
      rw [e4] at e2; cases e2
      obtain ⟨h1, h2⟩ := prs_rep q e4
      refine .inr ⟨a, ws, pkV H, rfl, SqL.of ha, fun x hx => let ⟨t, z1, z2, _⟩ := h1 x hx; ⟨t, z1, z2⟩, fun ys p hs hb hn => ?_⟩
      have hp : (ys.map (pkV H)).Perm ps := by rw [← h2]; exact hb.perm.map _
      have hs2 : (ys.map (pkV H)).Pairwise fun a b => leP a b = true := by
        refine List.pairwise_map.mpr (hs.imp fun {x y} z => ?_)
        have z : SrtO.lexB (pkV H y) (pkV H x) = false := z
        have z' : ¬ (SrtO.lexB (pkV H y) (pkV H x) = true) := by rw [z]; exact Bool.false_ne_true
        rw [SrtO.lexB_iff] at z'
        simp [leP]; omega
      have e5 := sortP_uniq hp hs2
      rw [← e5, List.map_map] at h
      have rr : Reps c H M ys (ys.map (prD ∘ pkV H)) := reps_map ys fun x hx => let ⟨_, _, _, z⟩ := h1 x (hb.perm.subset hx); z
      exact al_ok ok rr (by rw [hb.perm.length_eq]; exact hz) h hk p hn
theorem dkeys_K {H : Hp} {M : Mm} : ∀ {ks : List (Key × V)} {kvs : List (D × D)}, RepK c H M ks kvs → Reps c H M (ks.map fun kv => kV kv.1) (kvs.map (·.1))
  | _, _, .nil => .nil
  | _, _, .cons (k := k) a r => .cons (by cases k with | inl i => exact .int i | inr x => exact .str x) (dkeys_K r)
theorem keys_ints {H : Hp} {M : Mm} : ∀ {ks : List (Key × V)} {kvs : List (D × D)} {is : List Int}, RepK c H M ks kvs → intsD (kvs.map (·.1)) = some is → ks.map (·.1) = is.map Sum.inl
  | _, _, _, .nil, e => by simp [intsD] at e; subst e; rfl
  | _, _, _, .cons (k := k) (kvs := kvs) a r, e => by
    cases k with
    | inr x => simp [keyD, intsD] at e
    | inl i =>
      simp only [List.map_cons, keyD, intsD] at e
      cases q : intsD (kvs.map (·.1)) with
      | none => rw [q] at e; cases e
      | some js =>
        rw [q] at e; cases e
        simp [keys_ints r q]
theorem reps_keys {H : Hp} {M : Mm} : ∀ (ks : List Key), Reps c H M (ks.map kV) (ks.map keyD)
  | [] => .nil
  | k :: r => .cons (by cases k with | inl i => exact .int i | inr x => exact .str x) (reps_keys r)
theorem dkeys_T {H : Hp} {M : Mm} (ok : Cells c H M) : ∀ {ks : List (List Key × V)} {kvs : List (D × D)} {bs : List Addr}, RepT c H M ks kvs → IsKeys H ks bs → Reps c H M (bs.map V.ref) (kvs.map (·.1)) ∧ bs.length = ks.length
  | _, _, _, .nil, hb => by cases hb; exact ⟨.nil, rfl⟩
  | _, _, _, .cons (k := k) z a r, hb => by
    cases hb with
    | cons hx hr =>
      obtain ⟨i1, i2⟩ := dkeys_T ok r hr
      refine ⟨.cons ?_ i1, by simp [i2]⟩
      rename_i b bs
      have hM : M b = none := by
        cases e : M b with
        | none => rfl
        | some x =>
          have := ok.at' b x e
          cases this with
          | lst h => rw [hx] at h; cases h
          | dK h => rw [hx] at h; cases h
          | dT h => rw [hx] at h; cases h
          | ins h => rw [hx] at h; cases h
      exact .tup hx ⟨hM, fun q => by rcases (ok.z b q).1 with ⟨_, w⟩ | ⟨_, w⟩ <;> (rw [hx] at w; cases w)⟩ (by rw [List.length_map]; exact z) (reps_keys k)
theorem CallR.no {f : Value} : CallR X f (fun _ _ _ => False) := fun _ _ _ _ _ _ _ _ _ h => h.elim
/-- a built-in: what it is, and its rule -/
theorem prsK_cons {x : D} {r : List D} {kvs : List (D × D)} (h : prsK (x :: r) = some kvs) : ∃ (k : Key) (d : D) (rest : List (D × D)), x = .tup [keyD k, d] ∧ prsK r = some rest ∧ kvs = (keyD k, d) :: rest := by
  unfold prsK at h
  split at h
  · rename_i e; cases e
  · rename_i k d r' e
    cases e
    split at h
    · rename_i hf
      split at h
      · rename_i rest e2
        cases h
        cases k with
        | int i => exact ⟨.inl i, d, rest, rfl, e2, rfl⟩
        | str z => exact ⟨.inr z, d, rest, rfl, e2, rfl⟩
        | _ => cases hf
      · cases h
    · cases h
  · cases h
theorem prsK_len : ∀ {ds : List D} {kvs : List (D × D)}, prsK ds = some kvs → kvs.length = ds.length
  | [], _, h => by cases h; rfl
  | d :: r, kvs, h => by
    obtain ⟨k, d, rest, rfl, e, rfl⟩ := prsK_cons h
    simp [prsK_len e]
theorem repk_key {H : Hp} {M : Mm} {v : V} (k : Key) (r : Rep c H M v (keyD k)) : v = kV k := by
  cases k with
  | inl i => cases r; rfl
  | inr z => cases r; rfl
theorem pairs_of {K : PySem.W.Frag} {H : Hp} {M : Mm} : ∀ {vs : List V} {ds : List D} {kvs : List (D × D)}, Reps c H M vs ds → prsK ds = some kvs →
    ∃ (ps : List Addr) (ks : List (Key × V)), vs = ps.map V.ref ∧ Paired (fun p kv => SqT K H p [kV kv.1, kv.2]) ps ks ∧ RepK c H M ks kvs
  | _, _, _, .nil, h => by cases h; exact ⟨[], [], rfl, .nil, .nil⟩
  | _, _, kvs, .cons r q, h => by
    obtain ⟨k, d, rest, rfl, e, rfl⟩ := prsK_cons h
    obtain ⟨ps, ks, rfl, h1, h2⟩ := pairs_of (K := K) q e
    cases r with
    | @tup a us _ g n z q2 =>
      obtain ⟨v1, v2, rfl, r1, r2⟩ := reps2 q2
      have e1 := repk_key k r1
      subst e1
      exact ⟨a :: ps, (k, v2) :: ks, rfl, .cons (SqT.of g) h1, .cons r2 h2⟩
theorem one_arg {P : D → Prop} {ds : List D} (h : match ds with | [x] => P x | _ => False) : ∃ d, ds = [d] ∧ P d := by
  cases ds with
  | nil => cases h
  | cons d r => cases r with
    | nil => exact ⟨d, rfl, h⟩
    | cons _ _ => cases h
theorem bi_ok (hK : X.K = c.K) (hc : X.calm = true) (m : Bool) (f : Bi) : ∃ (t : Bool) (id : String) (r : List V → Hp → VK → Prop),
    bootBuiltins f.s = some (if t = true then .type id else .builtin id) ∧ CallR X (if t = true then .type id else .builtin id) r ∧ BiSat c r (biD m f) := by
  cases f with
  | len =>
    refine ⟨false, "len", _, PySem.boot_len, call_len.or (call_lenR.or call_lenTR), fun Z vs H M ds Q k ok r h hk => ?_⟩
    obtain ⟨d, rfl, h⟩ := one_arg h
    obtain ⟨n, e, h⟩ := obn_of h
    exact len_sat (c := c.z Z) hK ok r e (hk _ _ _ _ .refl ok (.int _) h)
  | all =>
    refine ⟨false, "all", _, PyProof.Rows.boot_all, cr_all hc, fun Z vs H M ds Q k ok r h hk => ?_⟩
    obtain ⟨d, rfl, h⟩ := one_arg h
    obtain ⟨es, e, h⟩ := obn_of h
    obtain ⟨bs, e2, h⟩ := obn_of h
    obtain ⟨a, rfl, hs⟩ := bools_arg (c := c.z Z) hK ok r e e2
    exact ⟨a, bs, rfl, hs, hk _ _ _ _ .refl ok (.bl _) h⟩
  | any =>
    refine ⟨false, "any", _, PyProof.Rows.boot_any, cr_any hc, fun Z vs H M ds Q k ok r h hk => ?_⟩
    obtain ⟨d, rfl, h⟩ := one_arg h
    obtain ⟨es, e, h⟩ := obn_of h
    obtain ⟨bs, e2, h⟩ := obn_of h
    obtain ⟨a, rfl, hs⟩ := bools_arg (c := c.z Z) hK ok r e e2
    exact ⟨a, bs, rfl, hs, hk _ _ _ _ .refl ok (.bl _) h⟩
  | sum =>
    refine ⟨false, "sum", _, PyProof.Rows.boot_sum, cr_sum hc, fun Z vs H M ds Q k ok r h hk => ?_⟩
    obtain ⟨d, rfl, h⟩ := one_arg h
    obtain ⟨es, e, h⟩ := obn_of h
    obtain ⟨bs, e2, h⟩ := obn_of h
    obtain ⟨a, rfl, hs⟩ := ints_arg (c := c.z Z) hK ok r e e2
    rw [sumI_eq] at h
    exact ⟨a, bs, rfl, hs, hk _ _ _ _ .refl ok (.int _) h⟩
  | min =>
    refine ⟨false, "min", _, PyProof.Rows.boot_min, (cr_min hc).or (call_min2 hc), fun Z vs H M ds Q k ok r h hk => ?_⟩
    match ds, h, r with
    | [d], h, r =>
      obtain ⟨es, e, h⟩ := obn_of h
      obtain ⟨bs, e2, hl, h⟩ := obn_of h
      obtain ⟨a, rfl, hs⟩ := ints_arg (c := c.z Z) hK ok r e e2
      refine .inl ⟨a, bs, rfl, hs, hl, fun n hn hle => ?_⟩
      have : n = minI bs := Int.le_antisymm (hle _ (minI_mem bs fun z => by subst z; simp at hl)) (minI_le bs n hn)
      rw [this]
      exact hk _ _ _ _ .refl ok (.int _) h
    | [d, e], h, r =>
      obtain ⟨i, j, rfl, rfl, h⟩ := intQ_of h
      obtain ⟨v, w, rfl, r1, r2⟩ := reps2 r
      rw [rep_int r1, rep_int r2]
      exact .inr ⟨i, j, rfl, hk _ _ _ _ .refl ok (.int _) h⟩
  | max =>
    refine ⟨false, "max", _, PyProof.Rows.boot_max, (cr_max hc).or (call_max2 hc), fun Z vs H M ds Q k ok r h hk => ?_⟩
    match ds, h, r with
    | [d], h, r =>
      obtain ⟨es, e, h⟩ := obn_of h
      obtain ⟨bs, e2, hl, h⟩ := obn_of h
      obtain ⟨a, rfl, hs⟩ := ints_arg (c := c.z Z) hK ok r e e2
      refine .inl ⟨a, bs, rfl, hs, hl, fun n hn hle => ?_⟩
      have : n = maxI bs := Int.le_antisymm (maxI_le bs n hn) (hle _ (maxI_mem bs fun z => by subst z; simp at hl))
      rw [this]
      exact hk _ _ _ _ .refl ok (.int _) h
    | [d, e], h, r =>
      obtain ⟨i, j, rfl, rfl, h⟩ := intQ_of h
      obtain ⟨v, w, rfl, r1, r2⟩ := reps2 r
      rw [rep_int r1, rep_int r2]
      exact .inr ⟨i, j, rfl, hk _ _ _ _ .refl ok (.int _) h⟩
  | abs =>
    refine ⟨false, "abs", _, PyProof.Rows.boot_abs, call_abs, fun Z vs H M ds Q k ok r h hk => ?_⟩
    match ds, h, r with
    | [.int i], h, r =>
      obtain ⟨v, rfl, r0⟩ := reps1 r
      have r := r0
      rw [rep_int r]
      exact ⟨i, rfl, hk _ _ _ _ .refl ok (.int _) h⟩
  | int =>
    refine ⟨true, "int", _, PyProof.Rows.boot_int, call_int1.or call_int_str, fun Z vs H M ds Q k ok r h hk => ?_⟩
    match ds, h, r with
    | [.int i], h, r =>
      obtain ⟨v, rfl, r0⟩ := reps1 r
      have r := r0
      rw [rep_int r]
      exact .inl (.inl ⟨i, rfl, hk _ _ _ _ .refl ok (.int _) h⟩)
    | [.bl i], h, r =>
      obtain ⟨v, rfl, r0⟩ := reps1 r
      have r := r0
      rw [rep_bl r]
      exact .inl (.inr ⟨i, rfl, hk _ _ _ _ .refl ok (.int _) h⟩)
    | [.str x], h, r =>
      obtain ⟨v, rfl, r0⟩ := reps1 r
      have r := r0
      rw [rep_str r]
      obtain ⟨hl, h⟩ := h
      obtain ⟨n, e, h⟩ := obn_of h
      exact .inr ⟨x, n, rfl, e, hl, hk _ _ _ _ .refl ok (.int _) h⟩
  | str =>
    refine ⟨true, "str", _, PyProof.Rows.boot_str, call_str_int, fun Z vs H M ds Q k ok r h hk => ?_⟩
    match ds, h, r with
    | [.int i], h, r =>
      obtain ⟨v, rfl, r0⟩ := reps1 r
      have r := r0
      rw [rep_int r]
      exact ⟨i, rfl, h.1, hk _ _ _ _ .refl ok (.str _) h.2⟩
  | list =>
    refine ⟨true, "list", _, PyProof.Rows.boot_list, call_list_of.or ((call_listD hc).or (call_list_dT hc)), fun Z vs H M ds Q k ok r h hk => ?_⟩
    obtain ⟨d, rfl, h⟩ := one_arg h
    obtain ⟨v, rfl, r0⟩ := reps1 r
    have r := r0
    change (match dctD M d with
      | some (_, kvs) => alL m (kvs.map (·.1)) M Q
      | none => obn (seqD M d) fun ds => alL m ds M Q) at h
    cases e : dctD M d with
    | some p =>
      obtain ⟨t, kvs⟩ := p
      rw [e] at h
      obtain ⟨a, rfl, g⟩ := rep_dct ok r e
      rcases g with ⟨_, ks, h1, z, q1⟩ | ⟨_, ks, h1, z, q1⟩
      · exact .inr (.inl ⟨a, ks, rfl, h1, al_ok ok (dkeys_K q1) (by rw [List.length_map]; exact z) h hk⟩)
      · refine .inr (.inr ⟨a, ks, rfl, h1, fun p bs hp hb => ?_⟩)
        obtain ⟨k1, k2⟩ := dkeys_T ok q1 hb
        exact al_ok ok k1 (by rw [List.length_map, k2]; exact z) h hk p hp
    | none =>
      rw [e] at h
      obtain ⟨es, e1, h⟩ := obn_of h
      obtain ⟨a, ws, rfl, hs, z, q1⟩ := rep_seq ok r e1
      exact .inl ⟨a, ws, rfl, by rw [hK]; exact hs, al_ok ok q1 z h hk⟩
  | tuple =>
    refine ⟨true, "tuple", _, PyProof.Rows.boot_tuple, call_tuple_of, fun Z vs H M ds Q k ok r h hk => ?_⟩
    match ds, h, r with
    | _ :: _ :: _, h, r => exact absurd h (by simp [biD])
    | [d], h, r =>
      obtain ⟨v, rfl, r0⟩ := reps1 r
      cases r0 with
      | tup h1 n z q => exact ⟨_, _, rfl, .inr ⟨SqT.of h1, hk _ _ _ _ .refl ok (.tup h1 n z q) h⟩⟩
      | lst h1 n z q => exact ⟨_, _, rfl, .inl ⟨SqL.of h1, tup_ok ok q z h hk⟩⟩
      | roL h1 z q => exact ⟨_, _, rfl, .inl ⟨by rw [hK]; exact KL.sq h1, tup_ok ok q z h hk⟩⟩
      | roT h1 z q => exact False.elim h
      | ref a =>
        have h : obn (seqD M (.ref a)) fun ds => Q (.tup ds) M := h
        obtain ⟨es, e1, h⟩ := obn_of h
        cases e2 : M a with
        | none => simp [seqD, e2] at e1
        | some x =>
          cases x with
          | lst es =>
            simp [seqD, e2] at e1; subst e1
            cases ok.at' a _ e2 with
            | lst h1 z q => exact ⟨a, _, rfl, .inl ⟨SqL.of h1, tup_ok ok q z h hk⟩⟩
          | _ => simp [seqD, e2] at e1
      | _ => exact absurd h (by simp [biD, obn, seqD])
  | dict =>
    refine ⟨true, "dict", _, PyProof.Rows.boot_dict, call_dictD, fun Z vs H M ds Q k ok r h hk => ?_⟩
    obtain ⟨d, rfl, h⟩ := one_arg h
    obtain ⟨v, rfl, r0⟩ := reps1 r
    have r := r0
    obtain ⟨⟨t, kvs⟩, e, h1, h⟩ := obn_of h
    obtain rfl : t = false := h1
    obtain ⟨a, rfl, g⟩ := rep_dct ok r e
    rcases g with ⟨_, ks, h1, z, q1⟩ | ⟨z, _⟩
    · refine ⟨a, ks, rfl, h1, fun p hp => ?_⟩
      have hM : M p = none := ok.fresh hp
      cases m with
      | true =>
        have s := stp_newc (o := .dK ks) (x := .dct false kvs) ok hp
        exact hk _ _ _ _ s (cells_newc ok hp (.dK upd_same z (q1.view s.view))) (.ref p) (h p hM)
      | false =>
        have s := stp_new (o := .dK ks) ok hp
        exact hk _ _ _ _ s (cells_new ok hp) (.dK (.inl upd_same) (ok.free hp) z (q1.view s.view)) h
    · cases z
  | sorted =>
    refine ⟨false, "sorted", _, PyProof.Rows.boot_sorted, cr_sortedI.or cr_sortedPO, fun Z vs H M ds Q k ok r h hk => ?_⟩
    obtain ⟨d, rfl, h⟩ := one_arg h
    exact sort_sat (c := c.z Z) hK ok r h hk
  | minD => exact ⟨false, "min", _, PyProof.Rows.boot_min, CallR.no, fun Z vs H M ds Q k ok r h hk => False.elim h⟩
  | maxD => exact ⟨false, "max", _, PyProof.Rows.boot_max, CallR.no, fun Z vs H M ds Q k ok r h hk => False.elim h⟩
  | lenSet => exact ⟨false, "len", _, PySem.boot_len, CallR.no, fun Z vs H M ds Q k ok r h hk => False.elim h⟩
  | dictP =>
    refine ⟨true, "dict", _, PyProof.Rows.boot_dict, call_dictP hc, fun Z vs H M ds Q k ok r h hk => ?_⟩
    obtain ⟨d, rfl, h⟩ := one_arg h
    obtain ⟨v, rfl, r0⟩ := reps1 r
    have r := r0
    obtain ⟨ds', e, h⟩ := obn_of h
    obtain ⟨kvs, e2, h⟩ := obn_of h
    obtain ⟨a, vs, rfl, h1, z, q⟩ := rep_lst ok r e
    obtain ⟨ps, ks, rfl, h2, h3⟩ := pairs_of (K := X.K) q e2
    have hl : ks.length ≤ sizeLine := by rw [h3.len, prsK_len e2, ← q.len]; exact z
    have z2 : (mergeK [] ks).length ≤ sizeLine := Nat.le_trans (length_mergeK ks []) (by simpa using hl)
    have rm : RepK (c.z Z) H M (mergeK [] ks) (mrgK [] kvs) := mrg_K (c := c.z Z) ks h3 .nil
    refine ⟨a, ps, ks, rfl, SqL.of h1, h2, fun p hp => ?_⟩
    have hM : M p = none := ok.fresh hp
    cases m with
    | true =>
      have s := stp_newc (o := .dK (mergeK [] ks)) (x := .dct false (mrgK [] kvs)) ok hp
      exact hk _ _ _ _ s (cells_newc ok hp (.dK upd_same z2 (rm.view s.view))) (.ref p) (h p hM)
    | false =>
      have s := stp_new (o := .dK (mergeK [] ks)) ok hp
      exact hk _ _ _ _ s (cells_new ok hp) (.dK (.inl upd_same) (ok.free hp) z2 (rm.view s.view)) h
  | sortK =>
    refine ⟨false, "sorted", _, PyProof.Rows.boot_sorted, call_sortedDI hc, fun Z vs H M ds Q k ok r h hk => ?_⟩
    obtain ⟨d, rfl, h⟩ := one_arg h
    obtain ⟨v, rfl, r0⟩ := reps1 r
    have r := r0
    obtain ⟨⟨t, kvs⟩, e, h1, h⟩ := obn_of h
    obtain rfl : t = false := h1
    obtain ⟨is, e2, h2, h⟩ := obn_of h
    obtain ⟨a, rfl, g⟩ := rep_dct ok r e
    rcases g with ⟨_, ks, h1, z, q1⟩ | ⟨z, _⟩
    · refine ⟨a, ks, is, rfl, h1, keys_ints q1 e2, h2, fun ns' p hp hs hn => ?_⟩
      rw [sortI_uniq hp hs]
      have hl : (is.mergeSort fun a b => decide (a ≤ b)).length = is.length := (List.mergeSort_perm is _).length_eq
      exact al_ok ok (Reps.mapI _) (by rw [List.length_map, hl]; exact Nat.le_trans (Nat.le_of_lt h2) (by decide)) h hk p hn
    · cases z
end
end L3
set_option maxRecDepth 100000
set_option maxHeartbeats 4000000
namespace L3
open PySem L2
/-- an expression read as its shadow tells -/
def Snd (c : Cfg) (T : Tab) (N : List PySem.Str) (sc : Scope) (s : SE) (e : Expr) : Prop := ∀ X W, COk c T N sc X W →
  (∃ t, PE X e t ∧ SatE c W t (wE T s)) ∧ ∃ t, PT X e t ∧ SatT c W t (wE T s)
inductive SndL (c : Cfg) (T : Tab) (N : List PySem.Str) (sc : Scope) : List SE → List Expr → Prop
  | nil : SndL c T N sc [] []
  | cons {s : SE} {e : Expr} {ss : List SE} {es : List Expr} : Snd c T N sc s e → mE N s sc e = true → SndL c T N sc ss es → SndL c T N sc (s :: ss) (e :: es)
section
variable {X : Cx} {c : Cfg} {T : Tab} {N : List PySem.Str} {sc : Scope} {W : WX}
theorem SndL.m : ∀ {ss : List SE} {es : List Expr}, SndL c T N sc ss es → mEs N ss sc es = true
  | _, _, .nil => rfl
  | _, _, .cons a h r => by simp only [mEs, h, r.m, Bool.and_self]
theorem SndL.pa (O : COk c T N sc X W) : ∀ {ss : List SE} {es : List Expr}, SndL c T N sc ss es → ∃ t, PA X es t ∧ SatA c W t (wEs T ss)
  | _, _, .nil => ⟨_, pa_nil, fun Z σ H env M Q E k st h he hk => hk _ _ _ _ .refl st.cells .nil h⟩
  | _, _, .cons a h r => by
    obtain ⟨⟨t, h1, h2⟩, _⟩ := a X W O
    obtain ⟨u, g1, g2⟩ := r.pa O
    refine ⟨_, pa_cons h1 g1 (star_cons (mE_fine h)), fun Z σ H env M Q E k st q he hk => ?_⟩
    refine h2 Z σ H env M _ E _ st q he fun v H1 d M1 s1 ok1 r1 q1 => ?_
    refine g2 Z σ H1 env M1 _ E _ (st.stp s1 ok1) q1 (he.stp s1) fun vs H2 ds M2 s2 ok2 r2 q2 => ?_
    exact hk _ _ _ _ (s1.trans s2) ok2 (.cons (r1.stp s2) r2) q2
theorem Reps.emp {H : Hp} {M : Mm} {vs : List V} {ds : List D} (r : Reps c H M vs ds) : (!ds.isEmpty) = !vs.isEmpty := by cases r <;> rfl
theorem tru_rep (hK : X.K = c.K) {H : Hp} {M : Mm} {v : V} {d : D} {b : Bool} (ok : Cells c H M) (r : Rep c H M v d) (h : truD M d = some b) : TruV X.K v H b := by
  cases r with
  | non => cases h; rfl
  | bl _ => cases h; rfl
  | int i => cases h; rfl
  | lst h1 n z q => cases h; exact .inl ⟨_, SqL.of h1, q.emp⟩
  | tup h1 n z q => cases h; exact .inr (.inl ⟨_, SqT.of h1, q.emp⟩)
  | roL h1 z q => cases h; exact .inl ⟨_, by rw [hK]; exact KL.sq h1, q.emp⟩
  | roT h1 z q => cases h; exact .inr (.inl ⟨_, by rw [hK]; exact .inr h1, q.emp⟩)
  | ref a =>
    cases e : M a with
    | none => simp [truD, e] at h
    | some x => cases x with
      | lst ds =>
        have h : some (!ds.isEmpty) = some b := by rw [← h]; simp [truD, e]
        cases h
        cases ok.at' a _ e with
        | lst h1 z q => exact .inl ⟨_, SqL.of h1, q.emp⟩
      | _ => simp [truD, e] at h
  | _ => cases h
/-- an expression as a test -/
theorem test_of (O : COk c T N sc X W) {e : Expr} {t : TE} {w : WE} (ht : tstB e = true) (h : PE X e t) (s : SatE c W t w) : ∃ t, PT X e t ∧ SatT c W t w :=
  ⟨_, pt_truth h (tst_of ht), fun Z σ H env M Q E k st q he hk => by
    refine s Z σ H env M _ E _ st q he fun v H1 d M1 s1 ok1 r1 q1 => ?_
    obtain ⟨b, e1, q1⟩ := obn_of q1
    exact ⟨b, tru_rep (c := c.z Z) O.K ok1 r1 e1, hk _ _ _ s1 ok1 q1⟩⟩
theorem Snd.mk (O : COk c T N sc X W) {s : SE} {e : Expr} {t : TE} (ht : tstB e = true) (h : PE X e t) (hs : SatE c W t (wE T s)) :
    (∃ t, PE X e t ∧ SatE c W t (wE T s)) ∧ ∃ t, PT X e t ∧ SatT c W t (wE T s) := ⟨⟨t, h, hs⟩, test_of O ht h hs⟩
/-! ### leaves -/
theorem snd_non {j : Nat} {p : Pos} : Snd c T N sc .non (.Constant .none j p) := fun X W O => Snd.mk O rfl pe_non fun Z σ H env M Q E k st h he hk => hk _ _ _ _ .refl st.cells .non h
theorem snd_bl {b : Bool} {j : Nat} {p : Pos} : Snd c T N sc (.bl b) (.Constant (.bool b) j p) := fun X W O => Snd.mk O rfl pe_bl fun Z σ H env M Q E k st h he hk => hk _ _ _ _ .refl st.cells (.bl _) h
theorem snd_int {b : Int} {j : Nat} {p : Pos} : Snd c T N sc (.int b) (.Constant (.int b) j p) := fun X W O => Snd.mk O rfl pe_int fun Z σ H env M Q E k st h he hk => hk _ _ _ _ .refl st.cells (.int _) h
theorem snd_str {b : PySem.Str} {j : Nat} {p : Pos} : Snd c T N sc (.str b) (.Constant (.str b) j p) := fun X W O => Snd.mk O rfl pe_str fun Z σ H env M Q E k st h he hk => hk _ _ _ _ .refl st.cells (.str _) h
theorem nmB_of {x : PySem.Str} (h : nmB x = true) : (x == ("__debug__" : PySem.Str)) = false ∧ (x == ("__classdict__" : PySem.Str)) = false ∧ x ≠ "__name__" := by
  simp only [nmB, Bool.and_eq_true, Bool.not_eq_true'] at h
  exact ⟨h.1.1, h.1.2, fun e => by subst e; simp at h⟩
theorem vis_of {x : PySem.Str} (h : visB sc x = true) : Vis sc x := by
  unfold visB at h
  unfold Vis
  split at h <;> simp_all
theorem gl_of (O : COk c T N sc X W) {x : PySem.Str} (h : glB sc x = true) : Gl X x := by
  unfold glB at h
  show X.env.scope.names.lookup x = some .globalImplicit
  rw [O.sc]
  split at h
  · assumption
  · cases h
theorem snd_var {i : Nat} {x : PySem.Str} {p : Pos} (h : N[i]? = some x) (hv : visB sc x = true) (hn : nmB x = true) : Snd c T N sc (.var i) (.Name x p) := fun X W O => by
  obtain ⟨n1, n2, n3⟩ := nmB_of hn
  refine Snd.mk O rfl (pe_var (by rw [O.N]; exact h) (by rw [O.sc]; exact vis_of hv) n1 n2) fun Z σ H env M Q E k st h he hk => ?_
  obtain ⟨d, e, h⟩ := obn_of h
  unfold varE at e
  split at e
  · rename_i d' e'
    cases e
    obtain ⟨v, hv, r⟩ := st.env' i d e'
    exact ⟨v, hv, hk _ _ _ _ .refl st.cells r h⟩
  · cases e
theorem snd_gl {n : Nm} {p : Pos} (hg : glB sc n.s = true) (hn : nmB n.s = true) : Snd c T N sc (.gl n) (.Name n.s p) := fun X W O => by
  obtain ⟨n1, n2, n3⟩ := nmB_of hn
  cases e : lk T.gl n with
  | none =>
    refine Snd.mk (t := fun _ _ _ => False) O rfl ⟨fun _ _ _ _ _ _ h => h.elim⟩ fun Z σ H env M Q E k st h he hk => ?_
    obtain ⟨d, e1, h⟩ := obn_of h
    rw [e] at e1; cases e1
  | some d =>
    obtain ⟨u, v, hm, rv, rp⟩ := O.gl n d e
    refine Snd.mk O rfl (pe_glob (gl_of O hg) hm rv n1) fun Z σ H env M Q E k st h he hk => ?_
    obtain ⟨d', e1, h⟩ := obn_of h
    rw [e] at e1; cases e1
    exact hk _ _ _ _ .refl st.cells (rp Z H M) h
/-! ### operators -/
theorem snd_bin {op : Operator} {a b : SE} {l r : Expr} {p : Pos} (ha : Snd c T N sc a l) (hb : Snd c T N sc b r) : Snd c T N sc (.bin op a b) (.BinOp l op r p) := fun X W O => by
  obtain ⟨⟨ta, a1, a2⟩, _⟩ := ha X W O
  obtain ⟨⟨tb, b1, b2⟩, _⟩ := hb X W O
  obtain ⟨rr, r1, r2⟩ := bin_ok (X := X) O.K false op
  exact Snd.mk O rfl (pe_op r1 a1 b1) (sat_op r2 a2 b2)
theorem snd_cat {a b : SE} {l r : Expr} {p : Pos} (ha : Snd c T N sc a l) (hb : Snd c T N sc b r) : Snd c T N sc (.cat a b) (.BinOp l .Add r p) := fun X W O => by
  obtain ⟨⟨ta, a1, a2⟩, _⟩ := ha X W O
  obtain ⟨⟨tb, b1, b2⟩, _⟩ := hb X W O
  obtain ⟨rr, r1, r2⟩ := bin_ok (X := X) O.K true .Add
  exact Snd.mk O rfl (pe_op r1 a1 b1) (sat_op r2 a2 b2)
theorem snd_neg {a : SE} {l : Expr} {p : Pos} (ha : Snd c T N sc a l) : Snd c T N sc (.neg a) (.UnaryOp .USub l p) := fun X W O => by
  obtain ⟨⟨ta, a1, a2⟩, _⟩ := ha X W O
  refine Snd.mk O rfl (pe_un un_neg a1) fun Z σ H env M Q E k st h he hk => ?_
  refine a2 Z σ H env M _ E _ st h he fun v H1 d M1 s1 ok1 r1 q1 => ?_
  obtain ⟨i, e, q1⟩ := obn_of q1
  cases d with
  | int j =>
    cases e
    rw [rep_int r1]
    exact ⟨j, rfl, hk _ _ _ _ s1 ok1 (.int _) q1⟩
  | _ => cases e
theorem snd_not {a : SE} {l : Expr} {p : Pos} (ha : Snd c T N sc a l) : Snd c T N sc (.not a) (.UnaryOp .Not l p) := fun X W O => by
  obtain ⟨⟨ta, a1, a2⟩, tt, t1, t2⟩ := ha X W O
  refine ⟨⟨_, pe_notT a1, fun Z σ H env M Q E k st h he hk => ?_⟩, _, pt_not t1, fun Z σ H env M Q E k st h he hk => ?_⟩
  · refine a2 Z σ H env M _ E _ st h he fun v H1 d M1 s1 ok1 r1 q1 => ?_
    obtain ⟨b, e, q1⟩ := obn_of q1
    exact ⟨b, tru_rep (c := c.z Z) O.K ok1 r1 e, hk _ _ _ _ s1 ok1 (.bl _) q1⟩
  · refine t2 Z σ H env M (fun b M1 => Q (!b) M1) E _ st h he fun b H1 M1 s1 ok1 q1 => ?_
    exact hk _ _ _ s1 ok1 q1
theorem snd_cmp {op : CmpOp} {a b : SE} {l r : Expr} {p : Pos} (ha : Snd c T N sc a l) (hb : Snd c T N sc b r) (hf : fine r = true) : Snd c T N sc (.cmp op a b) (.Compare l [op] [r] p) := fun X W O => by
  obtain ⟨⟨ta, a1, a2⟩, _⟩ := ha X W O
  obtain ⟨⟨tb, b1, b2⟩, _⟩ := hb X W O
  obtain ⟨rr, r1, r2⟩ := cmp_ok (X := X) O.K O.hu op
  exact ⟨⟨_, pe_cmpR r1 a1 b1 (nobe hf), sat_cmp r2 a2 b2⟩, _, pt_cmpR r1 a1 b1 (nobe hf), sat_cmpT r2 a2 b2⟩
theorem snd_chain {o1 o2 : CmpOp} {a b d : SE} {l r s : Expr} {p : Pos} (ha : Snd c T N sc a l) (hb : Snd c T N sc b r) (hd : Snd c T N sc d s) (hf : fine s = true) :
    Snd c T N sc (.chain o1 o2 a b d) (.Compare l [o1, o2] [r, s] p) := fun X W O => by
  obtain ⟨⟨ta, a1, a2⟩, _⟩ := ha X W O
  obtain ⟨⟨tb, b1, b2⟩, _⟩ := hb X W O
  obtain ⟨⟨td, d1, d2⟩, _⟩ := hd X W O
  obtain ⟨rr, r1, r2⟩ := cmp_ok (X := X) O.K O.hu o1
  obtain ⟨rq, q1, q2⟩ := cmp_ok (X := X) O.K O.hu o2
  have hm : lastMarks [o1, o2] [r, s] = false := nobe hf
  have core : ∀ Z σ H env M Q E (k : VK), Sta (c.z Z) σ H env M → wE T (.chain o1 o2 a b d) env M Q E → Exc (c.z Z) W σ H M E →
      (∀ b H' M', Stp H M H' M' → Cells (c.z Z) H' M' → Q (.bl b) M' → k (.bl b) H') → tChain rr rq ta tb td σ H k := fun Z σ H env M Q E k st h he hk => by
    refine a2 Z σ H env M _ E _ st h he fun x H1 dx M1 s1 ok1 rx g1 => ?_
    refine b2 Z σ H1 env M1 _ E _ (st.stp s1 ok1) g1 (he.stp s1) fun y H2 dy M2 s2 ok2 ry g2 => ?_
    refine r2 Z x y H2 M2 dx dy _ _ ok2 (rx.stp s2) ry g2 fun bb qb => ⟨bb, rfl, ?_⟩
    cases bb with
    | true =>
      rw [if_pos rfl]
      refine d2 Z σ H2 env M2 _ E _ (st.stp (s1.trans s2) ok2) qb (he.stp (s1.trans s2)) fun u H3 du M3 s3 ok3 ru g3 => ?_
      exact q2 Z y u H3 M3 dy du _ _ ok3 (ry.stp s3) ru g3 fun b3 q3 => hk _ _ _ ((s1.trans s2).trans s3) ok3 q3
    | false =>
      rw [if_neg Bool.false_ne_true]
      exact hk _ _ _ (s1.trans s2) ok2 qb
  refine ⟨⟨_, pe_chain r1 q1 a1 b1 d1 hm, fun Z σ H env M Q E k st h he hk => ?_⟩, _, pt_chain r1 q1 a1 b1 d1 hm, fun Z σ H env M Q E k st h he hk => ?_⟩
  · exact core Z σ H env M Q E k st h he fun b H' M' s ok q => hk _ _ _ _ s ok (.bl b) q
  · exact core Z σ H env M _ E _ st h he fun b H' M' s ok q => ⟨b, rfl, hk _ _ _ s ok q⟩
end
end L3
set_option maxRecDepth 100000
set_option maxHeartbeats 4000000
namespace L3
open PySem L2
section
variable {X : Cx} {c : Cfg} {T : Tab} {N : List PySem.Str} {sc : Scope} {W : WX}
/-! ### and, or -/
theorem tru_eq (P : Mm → Prop) (k : Bool) (Q : Bool → Mm → Prop) : (fun (x : D) (M1 : Mm) => obn (truD M1 x) fun b => br (b == k) (P M1) (obn (truD M1 x) fun b => Q b M1)) = fun x M1 => obn (truD M1 x) fun b => br (b == k) (P M1) (Q b M1) := by
  funext x M1
  cases e : truD M1 x with
  | none => rfl
  | some b => rfl
theorem SndL.bop (O : COk c T N sc X W) (k : Bool) {p : Pos} : ∀ {ss : List SE} {es : List Expr}, SndL c T N sc ss es →
    (∃ t, PE X (.BoolOp (if k = true then .And else .Or) es p) t ∧ SatE c W t (wBop T k ss)) ∧ (∃ t, PW X (.BoolOp (if k = true then .And else .Or) es p) t ∧ SatT c W t (wBop T k ss))
  | _, _, .nil => by
    refine ⟨⟨fun _ _ _ => False, ⟨fun _ _ _ _ _ _ h => h.elim⟩, fun _ _ _ _ _ _ _ _ _ h _ _ => (show False from h).elim⟩, ⟨fun _ _ _ => False, ⟨fun _ _ _ _ _ _ _ h => h.elim⟩, fun _ _ _ _ _ _ _ _ _ h _ _ => (show False from h).elim⟩⟩
  | _, _, .cons a h .nil => by
    obtain ⟨⟨t, h1, h2⟩, u, g1, g2⟩ := a X W O
    refine ⟨⟨t, pe_one h1, h2⟩, u, ?_, g2⟩
    cases k with
    | true => exact pw_and1 g1
    | false => exact pw_or1 g1
  | _, _, .cons (s := s) a h (.cons (s := s') (ss := r) b hb q) => by
    obtain ⟨⟨t, h1, h2⟩, u, g1, g2⟩ := a X W O
    obtain ⟨⟨t', i1, i2⟩, u', j1, j2⟩ := (SndL.cons b hb q).bop O k (p := p)
    cases k with
    | true =>
      refine ⟨⟨_, pe_andT h1 i1, fun Z σ H env M Q E k st q he hk => ?_⟩, _, pw_and g1 j1, fun Z σ H env M Q E k st q he hk => ?_⟩
      · refine h2 Z σ H env M _ E _ st q he fun v H1 d M1 s1 ok1 r1 q1 => ?_
        obtain ⟨b, e, q1⟩ := obn_of q1
        refine ⟨b, tru_rep (c := c.z Z) O.K ok1 r1 e, ?_⟩
        cases b with
        | true => rw [if_pos rfl]; exact i2 Z σ H1 env M1 Q E k (st.stp s1 ok1) q1 (he.stp s1) (hk.stp s1)
        | false => rw [if_neg Bool.false_ne_true]; exact hk _ _ _ _ s1 ok1 r1 q1
      · change wE T s env M (fun x M1 => obn (truD M1 x) fun b => br (b == true) (wBop T true (s' :: r) env M1 (fun d M' => obn (truD M' d) fun b => Q b M') E) (obn (truD M1 x) fun b => Q b M1)) E at q
        rw [tru_eq (fun M1 => wBop T true (s' :: r) env M1 (fun d M' => obn (truD M' d) fun b => Q b M') E) true Q] at q
        refine g2 Z σ H env M _ E _ st q he fun b H1 M1 s1 ok1 q1 => ?_
        cases b with
        | true => rw [if_pos rfl]; exact j2 Z σ H1 env M1 Q E k (st.stp s1 ok1) q1 (he.stp s1) (hk.stp s1)
        | false => rw [if_neg Bool.false_ne_true]; exact hk _ _ _ s1 ok1 q1
    | false =>
      refine ⟨⟨_, pe_orT h1 i1, fun Z σ H env M Q E k st q he hk => ?_⟩, _, pw_or g1 j1, fun Z σ H env M Q E k st q he hk => ?_⟩
      · refine h2 Z σ H env M _ E _ st q he fun v H1 d M1 s1 ok1 r1 q1 => ?_
        obtain ⟨b, e, q1⟩ := obn_of q1
        refine ⟨b, tru_rep (c := c.z Z) O.K ok1 r1 e, ?_⟩
        cases b with
        | false => rw [if_neg Bool.false_ne_true]; exact i2 Z σ H1 env M1 Q E k (st.stp s1 ok1) q1 (he.stp s1) (hk.stp s1)
        | true => rw [if_pos rfl]; exact hk _ _ _ _ s1 ok1 r1 q1
      · change wE T s env M (fun x M1 => obn (truD M1 x) fun b => br (b == false) (wBop T false (s' :: r) env M1 (fun d M' => obn (truD M' d) fun b => Q b M') E) (obn (truD M1 x) fun b => Q b M1)) E at q
        rw [tru_eq (fun M1 => wBop T false (s' :: r) env M1 (fun d M' => obn (truD M' d) fun b => Q b M') E) false Q] at q
        refine g2 Z σ H env M _ E _ st q he fun b H1 M1 s1 ok1 q1 => ?_
        cases b with
        | false => rw [if_neg Bool.false_ne_true]; exact j2 Z σ H1 env M1 Q E k (st.stp s1 ok1) q1 (he.stp s1) (hk.stp s1)
        | true => rw [if_pos rfl]; exact hk _ _ _ s1 ok1 q1
theorem snd_bop {k : Bool} {ss : List SE} {es : List Expr} {p : Pos} (h : SndL c T N sc ss es) : Snd c T N sc (.bop k ss) (.BoolOp (if k = true then .And else .Or) es p) := fun X W O =>
  let ⟨h1, u, g1, g2⟩ := h.bop O k (p := p)
  ⟨h1, u, g1.pt, g2⟩
/-! ### subscripts, slices, fields -/
theorem snd_ix {a i : SE} {l r : Expr} {p : Pos} (ha : Snd c T N sc a l) (hb : Snd c T N sc i r) (hf : fine r = true) : Snd c T N sc (.ix a i) (.Subscript l r p) := fun X W O => by
  obtain ⟨⟨ta, a1, a2⟩, _⟩ := ha X W O
  obtain ⟨⟨tb, b1, b2⟩, _⟩ := hb X W O
  obtain ⟨rr, r1, r2⟩ := ix_ok (X := X) O.K O.hu
  exact Snd.mk O rfl (pe_ix r1 a1 b1 (plainIx hf)) (sat_op r2 a2 b2)
/-- a slice's end -/
def SndO (c : Cfg) (T : Tab) (N : List PySem.Str) (sc : Scope) (s : SE) (e : Option Expr) : Prop := (e = none ∧ s = .non) ∨ ∃ e', e = some e' ∧ isNon s = false ∧ Snd c T N sc s e'
theorem SndO.ok (O : COk c T N sc X W) {s : SE} {e : Option Expr} (h : SndO c T N sc s e) : ∃ t, PO X e t ∧ ∀ Z σ H env M (Q : Option Int → Mm → Prop) E (k : Option Int → Hp → Prop), Sta (c.z Z) σ H env M →
    wE T s env M (fun d M' => obn (endD s d) fun o => Q o M') E → Exc (c.z Z) W σ H M E → (∀ o H' M', Stp H M H' M' → Cells (c.z Z) H' M' → Q o M' → k o H') → t σ H k := by
  rcases h with ⟨rfl, rfl⟩ | ⟨e', rfl, hn, h⟩
  · exact ⟨_, po_none, fun Z σ H env M Q E k st h he hk => hk none H M .refl st.cells h⟩
  · obtain ⟨⟨t, h1, h2⟩, _⟩ := h X W O
    refine ⟨_, po_some h1, fun Z σ H env M Q E k st h he hk => ?_⟩
    refine h2 Z σ H env M _ E _ st h he fun v H1 d M1 s1 ok1 r1 q1 => ?_
    obtain ⟨o, e, q1⟩ := obn_of q1
    unfold endD at e
    rw [hn] at e
    cases d with
    | int i =>
      cases e
      rw [rep_int r1]
      exact ⟨i, rfl, hk _ _ _ s1 ok1 q1⟩
    | _ => cases e
theorem snd_sl {a lo hi : SE} {l : Expr} {u w : Option Expr} {p p2 : Pos} (ha : Snd c T N sc a l) (hl : SndO c T N sc lo u) (hh : SndO c T N sc hi w) : Snd c T N sc (.sl a lo hi) (.Subscript l (.Slice u w none p2) p) := fun X W O => by
  obtain ⟨⟨ta, a1, a2⟩, _⟩ := ha X W O
  obtain ⟨tl, l1, l2⟩ := hl.ok O
  obtain ⟨th, g1, g2⟩ := hh.ok O
  refine Snd.mk O rfl (pe_slice sl_U a1 l1 g1) fun Z σ H env M Q E k st h he hk => ?_
  refine a2 Z σ H env M _ E _ st h he fun x H1 dx M1 s1 ok1 r1 q1 => ?_
  refine l2 Z σ H1 env M1 _ E _ (st.stp s1 ok1) q1 (he.stp s1) fun lo H2 M2 s2 ok2 q2 => ?_
  refine g2 Z σ H2 env M2 _ E _ (st.stp (s1.trans s2) ok2) q2 (he.stp (s1.trans s2)) fun hi H3 M3 s3 ok3 q3 => ?_
  exact sl_sat (c := c.z Z) O.K ok3 (r1.stp (s2.trans s3)) q3 (hk.stp ((s1.trans s2).trans s3))
theorem lk_mem {α : Type} : ∀ {l : List (Nm × α)} {n : Nm} {d : α}, lk l n = some d → ∃ p ∈ l, p.1 = n
  | [], _, _, h => by cases h
  | (a, b) :: r, n, d, h => by
    by_cases e : a = n
    · exact ⟨(a, b), List.mem_cons_self, e⟩
    · have h : lk r n = some d := by rw [← h]; simp [lk, e]
      obtain ⟨p, hp, q⟩ := lk_mem h
      exact ⟨p, List.mem_cons_of_mem _ hp, q⟩
theorem nodup_s {l : List Nm} (h : (l.map Nm.s).Nodup) {a b : Nm} (ha : a ∈ l) (hb : b ∈ l) (e : a.s = b.s) : a = b := by
  induction l with
  | nil => cases ha
  | cons x r ih =>
    simp only [List.map_cons, List.nodup_cons] at h
    by_cases e1 : a = x
    · by_cases e2 : b = x
      · rw [e1, e2]
      · exact absurd (List.mem_map.mpr ⟨b, (List.mem_cons.mp hb).resolve_left e2, by rw [← e, e1]⟩) h.1
    · by_cases e2 : b = x
      · exact absurd (List.mem_map.mpr ⟨a, (List.mem_cons.mp ha).resolve_left e1, by rw [e, e2]⟩) h.1
      · exact ih h.2 ((List.mem_cons.mp ha).resolve_left e1) ((List.mem_cons.mp hb).resolve_left e2)
theorem getF_rep {l : List Nm} (nd : (l.map Nm.s).Nodup) {f : Nm} (hf : f ∈ l) {H : Hp} {M : Mm} : ∀ {vs : List (PySem.Str × V)} {fs : List (Nm × D)}, RepF c H M vs fs → (∀ p ∈ fs, p.1 ∈ l) → ∀ {d : D}, getF fs f = some d → ∃ v, vs.lookup f.s = some v ∧ Rep c H M v d
  | _, _, .nil, _, d, h => by cases h
  | _, _, .cons (n := n) (v := v) (d := d) (vs := vs) (fs := fs) a r, hk, e, h => by
    by_cases q : n = f
    · subst q
      have h : some d = some e := by rw [← h]; simp [getF, lk]
      cases h
      exact ⟨v, by simp [List.lookup], a⟩
    · have h : getF fs f = some e := by rw [← h]; simp [getF, lk, q]
      obtain ⟨w, h1, h2⟩ := getF_rep nd hf r (fun p hp => hk p (List.mem_cons_of_mem _ hp)) h
      refine ⟨w, ?_, h2⟩
      have ne : (f.s == n.s) = false := by
        rw [beq_eq_false_iff_ne]
        exact fun e => q (nodup_s nd (hk _ List.mem_cons_self) hf e.symm)
      simp [List.lookup, ne, h1]
theorem lookF_none {m : PySem.Str} {H : Hp} {M : Mm} : ∀ {vs : List (PySem.Str × V)} {fs : List (Nm × D)}, RepF c H M vs fs → (∀ p ∈ fs, p.1.s ≠ m) → vs.lookup m = none
  | _, _, .nil, _ => rfl
  | _, _, .cons (n := n) a r, hk => by
    have ne : (m == n.s) = false := by
      rw [beq_eq_false_iff_ne]
      exact fun e => hk _ List.mem_cons_self e.symm
    simp [List.lookup, ne, lookF_none r fun p hp => hk p (List.mem_cons_of_mem _ hp)]
theorem snd_fld {a : SE} {l : Expr} {f : Nm} {p : Pos} (ha : Snd c T N sc a l) (hs : supB l = true) : Snd c T N sc (.fld a f) (.Attribute l f.s p) := fun X W O => by
  obtain ⟨⟨ta, a1, a2⟩, _⟩ := ha X W O
  refine Snd.mk O rfl (pe_fld a1 (attrB hs)) fun Z σ H env M Q E k st h he hk => ?_
  refine a2 Z σ H env M _ E _ st h he fun v H1 d M1 s1 ok1 r1 q1 => ?_
  obtain ⟨e, e1, q2⟩ := obn_of q1
  unfold fldD at e1
  cases e2 : insD M1 d with
  | some q =>
    obtain ⟨n, fs⟩ := q
    rw [e2] at e1
    obtain ⟨a, C, dx, vs, rfl, g1, g2, g3, g4⟩ := rep_ins ok1 r1 e2
    obtain ⟨nd, na⟩ := O.fl n C g2
    obtain ⟨q, hq, rfl⟩ := lk_mem e1
    obtain ⟨w, w1, w2⟩ := getF_rep nd (g3 q hq) g4 g3 e1
    exact ⟨a, C, dx, vs, w, rfl, g1, O.cls n C g2, na _ (g3 q hq), w1, hk _ _ _ _ s1 ok1 w2 q2⟩
  | none =>
    rw [e2] at e1
    cases e1
/-! ### displays -/
theorem le1000 {n : Nat} (h : n ≤ 1000) : n ≤ sizeLine := Nat.le_trans h (by decide)
theorem snd_lst {m : Bool} {ss : List SE} {es : List Expr} {p : Pos} (h : SndL c T N sc ss es) : Snd c T N sc (.lst m ss) (.List es p) := fun X W O => by
  obtain ⟨t, h1, h2⟩ := h.pa O
  refine Snd.mk O rfl (pe_lst h1) fun Z σ H env M Q E k st q he hk => ?_
  refine h2 Z σ H env M _ E _ st q he fun vs H1 ds M1 s1 ok1 r1 q1 => ?_
  have hl : vs.length ≤ sizeLine := le1000 (by rw [r1.len]; exact q1.1)
  exact ⟨hl, al_ok ok1 r1 hl q1.2 (hk.stp s1)⟩
theorem snd_tup {ss : List SE} {es : List Expr} {p : Pos} {kk : Nat} (h : SndL c T N sc ss es) : Snd c T N sc (.tup ss) (.Tuple es kk p) := fun X W O => by
  obtain ⟨t, h1, h2⟩ := h.pa O
  refine Snd.mk O rfl (pe_tup h1) fun Z σ H env M Q E k st q he hk => ?_
  refine h2 Z σ H env M _ E _ st q he fun vs H1 ds M1 s1 ok1 r1 q1 => ?_
  have hl : vs.length ≤ sizeLine := le1000 (by rw [r1.len]; exact q1.1)
  exact ⟨hl, tup_ok ok1 r1 hl q1.2 (hk.stp s1)⟩
theorem snd_dnew {m t : Bool} {p : Pos} : Snd c T N sc (.dnew m t) (.Dict [] [] p) := fun X W O => by
  cases t with
  | false =>
    refine Snd.mk O rfl pe_dnewK fun Z σ H env M Q E k st q he hk => fun p hp => ?_
    have hM : M p = none := st.cells.fresh hp
    cases m with
    | true => exact hk _ _ _ _ (stp_newc st.cells hp) (cells_newc st.cells hp (.dK upd_same (Nat.zero_le _) .nil)) (.ref p) (q p hM)
    | false => exact hk _ _ _ _ (stp_new st.cells hp) (cells_new st.cells hp) (.dK (.inl upd_same) (st.cells.free hp) (Nat.zero_le _) .nil) q
  | true =>
    refine Snd.mk O rfl pe_dnewT fun Z σ H env M Q E k st q he hk => fun p hp => ?_
    have hM : M p = none := st.cells.fresh hp
    cases m with
    | true => exact hk _ _ _ _ (stp_newc st.cells hp) (cells_newc st.cells hp (.dT upd_same (Nat.zero_le _) .nil)) (.ref p) (q p hM)
    | false => exact hk _ _ _ _ (stp_new st.cells hp) (cells_new st.cells hp) (.dT (.inl upd_same) (st.cells.free hp) (Nat.zero_le _) .nil) q
/-! ### what a call tells -/
theorem stp_del {H : Hp} {M : Mm} {a : Addr} : Stp H M H (del M a) := ⟨fun _ _ h _ => .inl h, fun b _ h => by
  by_cases e : b = a
  · subst e; exact del_same
  · rw [del_ne e]; exact h⟩
theorem cells_del {H : Hp} {M : Mm} {a : Addr} (ok : Cells c H M) : Cells c H (del M a) := ⟨fun b x e => by
  have hb : b ≠ a := fun z => by subst z; rw [del_same] at e; cases e
  rw [del_ne hb] at e
  exact (ok.at' b x e).view stp_del.view rfl, fun b z => ⟨(ok.z b z).1, (stp_del (H := H) (M := M) (a := a)).nn b (let ⟨o, h⟩ := (ok.z b z).1.there; by rw [h]; exact fun q => nomatch q) (ok.z b z).2⟩⟩
theorem Cells.cellFr {H : Hp} {M : Mm} {a : Addr} {x : Cell} (ok : Cells c H M) (e : M a = some x) : Fr c (del M a) a := ⟨del_same, fun z => by
  have := (ok.z a z).2
  rw [e] at this; cases this⟩
/-- a cell seen as data from now on -/
def celD : Cell → D
  | .lst ds => .lst ds
  | .dct t kvs => .dct t kvs
  | .ins n fs => .ins n fs
theorem rep_frz {H : Hp} {M : Mm} {a : Addr} {x : Cell} (ok : Cells c H M) (e : M a = some x) : Rep c H (del M a) (.ref a) (celD x) := by
  cases ok.at' a x e with
  | lst h z r => exact .lst h (ok.cellFr e) z (r.view stp_del.view)
  | dK h z r => exact .dK (.inl h) (ok.cellFr e) z (r.view stp_del.view)
  | dT h z r => exact .dT (.inl h) (ok.cellFr e) z (r.view stp_del.view)
  | ins h z k r => exact .ins h (ok.cellFr e) z k (r.view stp_del.view)
theorem frz_sat {H : Hp} {M : Mm} {m : Bool} {v : V} {d : D} {Q : QD} {k : VK} (ok : Cells c H M) (r : Rep c H M v d) (h : frz1 m d M Q) (hk : Cont c H M Q k) : k v H := by
  cases m with
  | true => exact hk _ _ _ _ .refl ok r h
  | false =>
    cases d with
    | ref a =>
      cases e : M a with
      | none =>
        have h : Q (.ref a) M := by simpa [frz1, e] using h
        exact hk _ _ _ _ .refl ok r h
      | some x =>
        have h : Q (celD x) (del M a) := by cases x <;> simpa [frz1, e, celD] using h
        cases r
        exact hk _ _ _ _ stp_del (cells_del ok) (rep_frz ok e) h
    | _ => exact hk _ _ _ _ .refl ok r h
end
end L3
set_option maxRecDepth 100000
set_option maxHeartbeats 4000000
namespace L3
open PySem L2
section
variable {X : Cx} {c : Cfg} {T : Tab} {N : List PySem.Str} {sc : Scope} {W : WX}
/-! ### calls of one's own defs -/
/-- the arguments of a call, whichever: the reading, and the call behind it -/
theorem SndL.args (O : COk c T N sc X W) {ss : List SE} {es : List Expr} (h : SndL c T N sc ss es) : ∃ t, SatA c W t (wEs T ss) ∧
    ∀ (f : Value) (first : List Value) (pos : Pos) (pins : List (Addr × Obj)) (s : Shared) (σ : St) (H : Hp) (R : List V → Hp → Prop) (Q : Value → Shared → Prop), PySem.W.keepIn X.K f = true → Inv X pins σ H s → t σ H R →
      (∀ us s2 vs H2, Inv X pins σ H2 s2 → Vals vs us → R vs H2 → wpAny (model X.prog X.w) X.A (call f (first ++ us)) Q X.xe s2) →
      wpAny (model X.prog X.w) X.A (callWith pos f first (backTo pos (starEach es X.env)) (backToKw pos (keywordEach [] X.env))) Q X.xe s := by
  cases h with
  | nil => exact ⟨tNil, fun Z σ H env M Q E k st h he hk => hk _ _ _ _ .refl st.cells .nil h, fun f first pos pins s σ H R Q hk I q run => PySem.W.callWith_K0 I.kIn hk (run [] s [] H I .nil q)⟩
  | cons a ha r =>
    obtain ⟨t, h1, h2⟩ := (SndL.cons a ha r).pa O
    exact ⟨t, h2, fun f first pos pins s σ H R Q hk I q run => PySem.W.callWith_K (h₀ := X.base) I.ok.mod.kin hk
      (thn (h1.run pos pins s σ H _ I q) fun us s1 ⟨vs, H1, I1, rv, q1⟩ => ⟨I1.kIn, run us s1 vs H1 I1 rv q1⟩) (star_cons (mE_fine ha)) (mEs_any r.m pos X.env)⟩
/-- a contract used where its wants are known -/
theorem sp_use {Z : Addr → Prop} {sp : SpD} {m : Bool} {σ : St} {H : Hp} {M : Mm} {vs : List V} {ds : List D} {Q : QD} {E : QX} {k : VK} (ok : Cells (c.z Z) H M) (r : Reps (c.z Z) H M vs ds) (h : ap sp ds M (fun d M2 => frz1 m d M2 Q) E)
    (he : Exc (c.z Z) W σ H M E) (hk : Cont (c.z Z) H M Q k) : toSp c sp vs H k (L2.WE W σ) :=
  ⟨Z, ds, M, _, E, r, ok, h, fun v H' d M' s ok' r' q => frz_sat ok' r' q (hk.stp s), fun cls dd H' x M' s ok' xr e => he cls dd H' x M' s ok' xr e⟩
theorem snd_no {s : SE} {e : Expr} (O : COk c T N sc X W) (ht : tstB e = true) (h : ∀ env M Q E, ¬ wE T s env M Q E) : (∃ t, PE X e t ∧ SatE c W t (wE T s)) ∧ ∃ t, PT X e t ∧ SatT c W t (wE T s) :=
  Snd.mk (t := fun _ _ _ => False) O ht ⟨fun _ _ _ _ _ _ h => h.elim⟩ fun Z σ H env M Q E k st q he hk => (h _ _ _ _ q).elim
/-- arguments, and what follows that has no way -/
theorem snd_call {m : Bool} {n : Nm} {ss : List SE} {es : List Expr} {p pos : Pos} (hh : c.hot = false) (h : SndL c T N sc ss es) (hg : glB sc n.s = true) (hn : nmB n.s = true) : Snd c T N sc (.call m n ss) (.Call (.Name n.s p) es [] pos) := fun X W O => by
  obtain ⟨n1, n2, n3⟩ := nmB_of hn
  obtain ⟨t, h2, run⟩ := h.args O
  cases e : lk T.fn n with
  | none =>
    refine snd_no O rfl fun env M Q E q => ?_
    change obn (lk T.fn n) _ at q
    rw [e] at q; exact q
  | some sp =>
    obtain ⟨f, fd, kk, ps, F, hr, hm, hk, hb⟩ := O.fn hh n sp e
    refine Snd.mk (t := fun σ H Q => t σ H fun vs H1 => toSp c sp vs H1 Q (L2.WE W σ)) O rfl ⟨fun pins s σ H Q I q => ?_⟩ fun Z σ H env M Q E k st q he hk => ?_
    · refine wpAny_Call_Name_kw (ld_glob I (gl_of O hg) hm ?_ n1)
      exact run (.ref f) [] pos pins s σ H _ _ hk I q fun us s2 vs H2 I2 rv q2 => run_fnS (E := L2.WE W) F hr hb (passAt O.tk σ) I2 rv q2
    · have q : obn (lk T.fn n) fun sp => wEs T ss env M (fun ds M1 => ap sp ds M1 (fun d M2 => frz1 m d M2 Q) E) E := q
      rw [e] at q
      refine h2 Z σ H env M _ E _ st q he fun vs H1 ds M1 s1 ok1 r1 q1 => ?_
      exact sp_use ok1 r1 q1 (he.stp s1) (hk.stp s1)
/-! ### own methods -/
theorem meth_eval {o : Expr} {m : PySem.Str} {apos pos : Pos} {args : List Expr} {env : PySem.Env} (h1 : attributeBase o m env (eval o env) = eval o env)
    (h2 : methodCallForm (args.length + 0) (backTo pos (starEach args env)) [] = true) (h3 : (apos.endLine == pos.line) = true) :
    eval (.Call (.Attribute o m apos) args [] pos) env = (do
      let ov ← eval o env
      standAt apos.atName
      let (f, first) ← holding [ov] (getMethod ov m (do return (← importBound o env).getD true))
      callWith pos f first (backTo pos (starEach args env)) (backToKw pos (keywordEach [] env))) := by
  show (do
    let ov ← attributeBase o m env (eval o env)
    standAt apos.atName
    methodCall o m apos pos env ov (args.length + 0) (backTo pos (starEach args env)) (backToKw pos (keywordEach [] env))) = _
  rw [h1]
  unfold methodCall
  show (do
    let ov ← eval o env
    standAt apos.atName
    let (f, first) ← holding [ov] (calleeOf (methodCallForm (args.length + 0) (backTo pos (starEach args env)) []) o env ov m)
    let callPos ← methodCallPos (methodCallForm (args.length + 0) (backTo pos (starEach args env)) []) o env apos pos
    callWith callPos f first (backTo pos (starEach args env)) []) = _
  rw [h2]
  unfold methodCallPos calleeOf
  rw [h3]
  rfl
theorem form_ok {ss : List SE} {es : List Expr} (h : mEs N ss sc es = true) (hl : es.length < 29) (pos : Pos) (env : PySem.Env) : methodCallForm (es.length + 0) (backTo pos (starEach es env)) [] = true := by
  have h1 : (backTo pos (starEach es env)).all (!·.1) = true := by
    have := mEs_any h pos env
    rw [List.all_eq_not_any_not]
    simpa using this
  unfold methodCallForm
  rw [h1]
  simp
  omega
theorem snd_meth {m : Bool} {a : SE} {n : Nm} {ss : List SE} {o : Expr} {es : List Expr} {p pos : Pos} (hh : c.hot = false) (ha : Snd c T N sc a o) (h : SndL c T N sc ss es) (hs : supB o = true) (hp : (p.endLine == pos.line) = true) (hl : es.length < 29) :
    Snd c T N sc (.meth m a n ss) (.Call (.Attribute o n.s p) es [] pos) := fun X W O => by
  obtain ⟨⟨ta, a1, a2⟩, _⟩ := ha X W O
  obtain ⟨t, h2, run⟩ := h.args O
  refine Snd.mk (t := fun σ H Q => ta σ H fun x H1 => ∃ a C dx fs g, x = .ref a ∧ H1 a = some (.ins C dx fs) ∧ Cls X.K C ∧ Meth X.K C n.s g ∧ fs.lookup n.s = none ∧
    ∃ fd kk ps sp, FnOk X.prog X.w X.K X.mg X.base (CX X.prog X.w) kk g fd ps (toSp c sp) ∧ Room kk X.A ∧ Binds X.K fd ps [] ∧ t σ H1 fun vs H2 => toSp c sp (.ref a :: vs) H2 Q (L2.WE W σ)) O rfl ⟨fun pins s σ H Q I q => ?_⟩ fun Z σ H env M Q E k st q he hk => ?_
  · refine PySem.W.methodCall_KW (thn (a1.run pins s σ H _ I q) fun u s1 ⟨x, H1, I1, rx, a, C, dx, fs, g, ex, ea, cl, hm, l, fd, kk, ps, sp, F, hr, hb, q1⟩ => ?_) (meth_eval (attrB hs) (form_ok h.m hl pos X.env) hp)
    subst ex; obtain rfl : u = Value.ref a := rx
    refine getmeth_ok I1 ea cl hm l ?_
    exact run (.ref g) [.ref a] pos pins s1 σ H1 _ _ hm.kp I1 q1 fun us s2 vs H2 I2 rv q2 => run_fnS (us := .ref a :: us) (vs := .ref a :: vs) (E := L2.WE W) F hr hb (passAt O.tk σ) I2 (.cons (show RelV (.ref a) (.ref a) from rfl) rv) q2
  · refine a2 Z σ H env M _ E _ st q he fun v H1 d M1 s1 ok1 r1 q1 => ?_
    obtain ⟨⟨n', fs⟩, e1, q1⟩ := obn_of q1
    obtain ⟨sp, e2, q1⟩ := obn_of q1
    obtain ⟨a, C, dx, vs, rfl, g1, g2, g3, g4⟩ := rep_ins ok1 r1 e1
    obtain ⟨f, fd, kk, ps, F, hr, hm, hb⟩ := O.mt hh n' n sp e2 C g2
    refine ⟨a, C, dx, vs, f, rfl, g1, O.cls n' C g2, hm, lookF_none g4 fun p hp => O.flM n' n sp e2 _ (g3 p hp), fd, kk, ps, sp, F, hr, hb, ?_⟩
    refine h2 Z σ H1 env M1 _ E _ (st.stp s1 ok1) q1 (he.stp s1) fun vs H2 ds M2 s2 ok2 r2 q2 => ?_
    exact sp_use ok2 (.cons (r1.stp s2) r2) q2 (he.stp (s1.trans s2)) (hk.stp (s1.trans s2))
/-! ### instances made -/
theorem run_mk {pins : List (Addr × Obj)} {σ : St} {H : Hp} {s : Shared} {Q : VK} {us : List Value} {vs : List V} {C f : Addr} {fd : FuncData} {k : Nat} {ps : List PySem.Str} {sp : Sp} {E : XK}
    (hM : Mk X.K C f) (F : FnOk X.prog X.w X.K X.mg X.base (CX X.prog X.w) k f fd ps sp) (hr : Room (k + 1) X.A) (hb : Binds X.K fd ps []) (hx : PassesAt (CX X.prog X.w) X σ E) (I : Inv X pins σ H s) (r : Vals vs us)
    (h : ∀ x dx, H x = none → H dx = none → dx ≠ x → sp (.ref x :: vs) (upd (upd H dx (.own x)) x (.ins C dx [])) (fun v H2 => v = .non ∧ Q (.ref x) H2) E) :
    wpAny (model X.prog X.w) X.A (call (.ref C) us) (EP X pins σ Q) X.xe s := by
  let n := s.heap.objs.size
  have want := h (n + 1) n (I.hok.fresh (Nat.le_succ _)) (I.hok.fresh (Nat.le_refl _)) (Nat.ne_of_lt (Nat.lt_succ_self _))
  have J := Inv.made (C := C) I
  have rv : Vals (V.ref (n + 1) :: vs) (Value.ref (n + 1) :: us) := .cons rfl r
  have hl : (Value.ref (n + 1) :: us).length = ps.length := rv.length.symm.trans (F.len _ _ _ _ want)
  have bd := hb _ (Value.ref (n + 1) :: us) J.kIn (by rw [List.append_nil]; exact hl); rw [List.append_nil] at bd
  have body := F.run _ X.stack _ _ ⟨Value.ref (n + 1) :: us, []⟩ (Value.ref (n + 1) :: us) _ _ E (hr.make C us []) (J.env0.make C us []) bd rv want
  refine wpAny_call (make_map (f := f) I.kIn hM.makes hM.init (beq_iff_eq.mp hM.fn) (codeAny_mono body fun res t hq => ?_))
  match res, hq with
  | .error e, hq => exact hx pins _ _ e t J hq
  | .ok (.ret u), hq =>
    obtain ⟨v, H', K', rw', ev, q3⟩ := J.after hq
    subst ev; exact ⟨rw', ⟨V.ref (n + 1), H', K', rfl, q3⟩⟩
  | .ok .next, hq => exact hq.elim
  | .ok .brk, hq => exact hq.elim
  | .ok .cont, hq => exact hq.elim
open PySem.Calls PyProof.Rows in
theorem run_mk0 {X : Cx} {pins : List (Addr × Obj)} {σ : L2.St} {H : Hp} {s : Shared} {Q : VK} {C : Addr} (hm : PySem.W.makesIn X.K C = true) (hi : PySem.W.findIn X.K (.ref C) "__init__" = some (some (.builtin "object.__init__"))) (I : Inv X pins σ H s)
    (h : ∀ x dx, H x = none → H dx = none → dx ≠ x → Q (.ref x) (upd (upd H dx (.own x)) x (.ins C dx []))) :
    wpAny (model X.prog X.w) X.A (call (.ref C) []) (EP X pins σ Q) X.xe s := by
  let n := s.heap.objs.size
  have want := h (n + 1) n (I.hok.fresh (Nat.le_succ _)) (I.hok.fresh (Nat.le_refl _)) (Nat.ne_of_lt (Nat.lt_succ_self _))
  have J := Inv.made (C := C) I
  have top := (PySem.W.makes_of (M := model X.prog X.w) I.kIn hm).top
  refine wpAny_call (make_map0 I.kIn hm hi (fun v => PySem.W.Looks.of_pure (PySem.W.oi_bind v)) ?_)
  have at1 : ((s.heap.push PySem.W.emptyDict).push (PySem.W.instObj C n)).get? (n + 1) = some (PySem.W.instObj C n) := by
    have := Heap.get?_push_size (o := PySem.W.instObj C n) (s.heap.push PySem.W.emptyDict) rfl
    rwa [Heap.size_push] at this
  have cl1 : PySem.W.Looks (model X.prog X.w) ((s.heap.push PySem.W.emptyDict).push (PySem.W.instObj C n)) (typeOf (.ref (n + 1))) (.ref C) := (PySem.W.Looks.ld at1).andThen .now
  have is1 : PySem.W.Looks (model X.prog X.w) ((s.heap.push PySem.W.emptyDict).push (PySem.W.instObj C n)) (isInstance (.ref (n + 1)) (.type "object")) true := cl1.andThen (top.keeps fun b o e => Heap.get?_push_of_some (PySem.W.instObj C n) (Heap.get?_push_of_some PySem.W.emptyDict e))
  refine codeAny_call_builtin PySem.W.oi_plain PySem.W.entry_oi (@PySem.W.check_slot (model X.prog X.w) _ _ _ "object.__init__" "object" "__init__" (.ref (n + 1)) [] [] _ PySem.W.oi_kind PySem.W.oi_split is1 (PySem.W.oi_args (.ref (n + 1))) ?_)
  rw [PySem.W.oi_run]
  exact wpAny_pure ⟨rfl, V.ref (n + 1), _, J, rfl, want⟩
theorem snd_mk {m : Bool} {n : Nm} {ss : List SE} {es : List Expr} {p pos : Pos} (hh : c.hot = false) (h : SndL c T N sc ss es) (hg : glB sc n.s = true) (hn : nmB n.s = true) : Snd c T N sc (.mk m n ss) (.Call (.Name n.s p) es [] pos) := fun X W O => by
  obtain ⟨n1, n2, n3⟩ := nmB_of hn
  obtain ⟨t, h2, run⟩ := h.args O
  cases e : lk T.cl n with
  | none =>
    refine snd_no O rfl fun env M Q E q => ?_
    change obn (lk T.cl n) _ at q
    rw [e] at q; exact q
  | some sp =>
    rcases O.cl hh n sp e with ⟨C, f, fd, kk, ps, spI, hC, F, hr, hM, hm, hb, hsp⟩ | ⟨C, hC, mk, ini, kp, hm, hsp⟩
    refine Snd.mk (t := fun σ H Q => t σ H fun vs H1 => ∀ x dx, H1 x = none → H1 dx = none → dx ≠ x → toSp c spI (.ref x :: vs) (upd (upd H1 dx (.own x)) x (.ins C dx [])) (fun v H2 => v = .non ∧ Q (.ref x) H2) (L2.WE W σ)) O rfl
      ⟨fun pins s σ H Q I q => ?_⟩ fun Z σ H env M Q E k st q he hk => ?_
    · refine wpAny_Call_Name_kw (ld_glob I (gl_of O hg) hm ?_ n1)
      exact run (.ref C) [] pos pins s σ H _ _ hM.kp I q fun us s2 vs H2 I2 rv q2 => run_mk hM F hr hb (passAt O.tk σ) I2 rv q2
    · have q : obn (lk T.cl n) fun sp => wEs T ss env M (fun ds M1 => ap sp ds M1 (fun d M2 => frz1 m d M2 Q) E) E := q
      rw [e] at q
      refine h2 Z σ H env M _ E _ st q he fun vs H1 ds M1 s1 ok1 r1 q1 => fun x dx hx hd hne => ?_
      have hxM : M1 x = none := ok1.fresh hx
      have hx' : upd H1 dx (.own x) x = none := by rw [upd_ne (Ne.symm hne)]; exact hx
      have okd := cells_new (o := .own x) ok1 hd
      have sd := stp_new (o := .own x) ok1 hd
      have sx := stp_newc (o := .ins C dx []) (x := .ins n []) okd hx'
      have okx : Cells (c.z Z) (upd (upd H1 dx (.own x)) x (.ins C dx [])) (up M1 x (.ins n [])) := cells_newc okd hx' (.ins upd_same hC (fun p hp => nomatch hp) .nil)
      have sA := sd.trans sx
      refine ⟨Z, .ref x :: ds, up M1 x (.ins n []), _, E, .cons (.ref x) (r1.stp sA), okx, hsp ds M1 _ E q1 x hxM, fun v H' d M' s ok' r' q => ?_, fun cls dd H' y M' s ok' xr e => (he.stp s1) cls dd H' y M' (sA.trans s) ok' xr e⟩
      obtain ⟨rfl, d2, M2, fz, q⟩ := q
      obtain ⟨ok2, r2, sub⟩ := fz Z H' (.ref x) ok' (.ref x)
      refine ⟨rep_non r', ?_⟩
      exact frz_sat ok2 r2 q (hk.stp (s1.trans (sA.trans (s.trans (stp_sub sub)))))
    refine Snd.mk (t := fun σ H Q => t σ H fun vs H1 => vs = [] ∧ ∀ x dx, H1 x = none → H1 dx = none → dx ≠ x → Q (.ref x) (upd (upd H1 dx (.own x)) x (.ins C dx []))) O rfl
      ⟨fun pins s σ H Q I q => ?_⟩ fun Z σ H env M Q E k st q he hk => ?_
    · refine wpAny_Call_Name_kw (ld_glob I (gl_of O hg) hm ?_ n1)
      refine run (.ref C) [] pos pins s σ H _ _ kp I q fun us s2 vs H2 I2 rv q2 => ?_
      obtain ⟨rfl, q3⟩ := q2
      cases rv
      exact run_mk0 mk ini I2 q3
    · have q : obn (lk T.cl n) fun sp => wEs T ss env M (fun ds M1 => ap sp ds M1 (fun d M2 => frz1 m d M2 Q) E) E := q
      rw [e] at q
      refine h2 Z σ H env M _ E _ st q he fun vs H1 ds M1 s1 ok1 r1 q1 => ?_
      obtain ⟨rfl, q2⟩ := hsp ds M1 _ E q1
      cases r1
      refine ⟨rfl, fun x dx hx hd hne => ?_⟩
      have hxM : M1 x = none := ok1.fresh hx
      have hx' : upd H1 dx (.own x) x = none := by rw [upd_ne (Ne.symm hne)]; exact hx
      have okd := cells_new (o := .own x) ok1 hd
      have sd := stp_new (o := .own x) ok1 hd
      have sx := stp_newc (o := .ins C dx []) (x := .ins n []) okd hx'
      have okx : Cells (c.z Z) (upd (upd H1 dx (.own x)) x (.ins C dx [])) (up M1 x (.ins n [])) := cells_newc okd hx' (.ins upd_same hC (fun p hp => nomatch hp) .nil)
      exact frz_sat okx (.ref x) (q2 x hxM) (hk.stp (s1.trans (sd.trans sx)))
end
end L3
set_option maxRecDepth 100000
set_option maxHeartbeats 8000000
namespace L3
open PySem PySem.Spec PyProof.Rows L2
section
variable {X : Cx}
/-! ### lists of data: count, remove -/
def rCntD (K : PySem.W.Frag) : V → List V → Hp → VK → Prop := fun x xs H Q => ∃ (a : Addr) (y : V) (d : PyData) (ds : List PyData), x = V.ref a ∧ xs = [y] ∧ Dp K H (V.ref a) (.list ds) ∧ Dp K H y d ∧
  SeqAt.shaped (.list ds) = true ∧ SeqAt.shaped d = true ∧ Q (.int (ds.countP fun z => PyData.eqv z d : Nat)) H
theorem mt_countD (hu : X.A.units + 65 < cLine) : MtR X "list.count" (rCntD X.K) := by
  intro pins s σ H x xs v us Q I rx rxs h
  obtain ⟨a, y, d, ds, rfl, rfl, hl, hy, sl, sd, q⟩ := h
  cases rx
  cases rxs with
  | cons ry rt =>
    rename_i uy ut
    cases rt
    obtain ⟨bs, r1⟩ := Dp.reads I d y uy hy ry
    have hxs : PyData.canLayAll0 ds = true := SeqAt.canLay_of_shaped sl
    have hroom : X.A.units + 1 + min (PyData.depthAll ds) d.depth < cLine := room_in_shaped sd hu
    cases hl with
    | lst hs ha =>
      obtain ⟨its, rv, ⟨⟨cls, dd, data, sls⟩, n, ho, hc, hdn, hdt⟩, hlen⟩ := I.list hs
      simp only at hc hdt
      subst hc hdt
      obtain ⟨as, h4⟩ := Dp.readsAll I ds _ its ha rv
      have hmap : its.map (SeqAt.readOf s.heap) = ds := SeqAt.readsAll_map ds its as hxs h4
      refine call_meets PySem.F.slot_list_count ⟨_, ho, rfl⟩ PySem.F.entry_list_count (PySem.F.args_list_count_2 _ _)
        (SeqAt.list_countAt a its.toArray n dd sls uy (fun u => PyData.eqv (SeqAt.readOf s.heap u) d)) ⟨ho, SeqAt.items_eqAt (vs := its.toArray) (show ReadsAll s.heap its.toArray.toList ds as from h4) r1 hxs (SeqAt.canLay_of_shaped sd) hroom, ?_⟩
      refine ⟨.int (ds.countP fun z => PyData.eqv z d : Nat), H, I.tok _, ⟨s.toks, ?_⟩, q⟩
      show Value.int ((its.toArray.toList.countP fun u => PyData.eqv (SeqAt.readOf s.heap u) d : Nat) : Int) s.toks = _
      have e : (its.toArray.toList.countP fun u => PyData.eqv (SeqAt.readOf s.heap u) d) = ds.countP fun z => PyData.eqv z d := by
        rw [← hmap, List.countP_map]
        rfl
      rw [e]
/-! ### len(set(xs)), xs a list of pairs of ints -/
def rLenSetT (K : PySem.W.Frag) : V → Hp → VK → Prop := fun x H1 Q => (∃ (l : Addr) (ks : List (Addr × List Int)), x = V.ref l ∧ SqL K H1 l (ks.map fun p => V.ref p.1) ∧ (∀ p ∈ ks, SqT K H1 p.1 (p.2.map V.int)) ∧ ks.length < 64 ∧
  ∀ L : List (List Int), L.Nodup → (∀ n ∈ L, n ∈ ks.map (·.2)) → (∀ n ∈ ks.map (·.2), n ∈ L) → Q (.int L.length) H1) ∨
  ∃ (l : Addr) (ns : List Int), x = V.ref l ∧ SqT K H1 l (ns.map V.int) ∧ ns.length < 64 ∧ ∀ L : List Int, L.Nodup → (∀ n, n ∈ L ↔ n ∈ ns) → Q (.int L.length) H1
def tLenSetT (K : PySem.W.Frag) (ta : TE) : TE := fun σ H Q => ta σ H fun x H1 => rLenSetT K x H1 Q
theorem pe_lenSetT {a : Expr} {ta : TE} {p p2 q pos : Pos} (hc : X.calm = true) (hu : X.A.units + 64 < cLine) (hg : Gl X "len") (hm : X.mg "len" = none) (hg2 : Gl X "set") (hm2 : X.mg "set" = none) (ha : PE X a ta)
    (na : starEach [a] X.env = (false, eval a X.env) :: starEach [] X.env) : PE X (.Call (.Name "len" p) [.Call (.Name "set" p2) [a] [] q] [] pos) (tLenSetT X.K ta) := by
  refine ⟨fun pins s σ H Q I h => ?_⟩
  refine Call_ (ld_blt I hg hm PySem.boot_len ?_)
  refine PyProof.Rows.callWith_builtin1 (PyProof.Rows.args_cons ?_ rfl) rfl rfl
  refine Call_ (ld_blt I hg2 hm2 PyProof.Rows.boot_set ?_)
  refine PyProof.Rows.callWith_type1 (PyProof.Rows.args_cons (thn (ha.run pins s σ H _ I h) fun v s1 ⟨x, H1, I1, r1, q1⟩ => PyProof.Rows.args_nil ?_) na) na rfl
  rcases q1 with ⟨l, ks, rfl, hq, hk, h1, q1⟩ | ⟨l, ns, rfl, hq, h1, q1⟩
  · cases r1
    obtain ⟨its, rv, pl, hz⟩ := I1.list hq
    refine call_set_tups (P := X.prog) (w := X.w) ks (I1.ok.hd hc) pl.isList (by simpa using refs_of_vals rv) (fun p hp => I1.isT (hk p hp)) h1 (by omega) fun h' tk L es ep t R g k => ?_
    refine PyProof.Rows.args_nil ?_
    obtain ⟨o, ho, hex, hd⟩ := R.ob
    have I2 : Inv X pins σ H1 { s1 with heap := h', toks := tk } := I1.kept fun b o e => k b o e
    have sz := SetTR.size (s := { s1 with heap := h', toks := tk }) R
    have hL : L.length < 64 := R.few
    refine call_len_set ho hex hd (SetTR.fits (s := { s1 with heap := h', toks := tk }) R) (by rw [sz]; omega) ⟨.int L.length, H1, I2.tok _, ⟨_, by rw [sz]⟩, ?_⟩
    have e : (L.map (·.2)).length = L.length := List.length_map ..
    rw [← e]
    refine q1 (L.map (·.2)) R.nd (fun n hn => ?_) fun n hn => ?_
    · obtain ⟨p, hp, rfl⟩ := List.mem_map.mp hn
      exact List.mem_map_of_mem (List.mem_of_mem_take (g.sub p hp))
    · obtain ⟨p, hp, rfl⟩ := List.mem_map.mp hn
      exact g.all p (by rw [List.take_length]; exact hp)
  · cases r1
    obtain ⟨its, rv, pl, hz⟩ := I1.tuple hq
    refine call_set_tupI (P := X.prog) (w := X.w) ns (I1.ok.hd hc) pl (by simpa using rv.ints) (by unfold scanBound; omega) fun h' tk c R hc' k => ?_
    refine PyProof.Rows.args_nil ?_
    obtain ⟨o, es, ep, t, ho, hex, hd, _, nd, mem, _, hf, hn, _⟩ := R
    have I2 : Inv X pins σ H1 { s1 with heap := h', toks := tk } := I1.kept fun b o e => k b o e
    have e : ((es.toList.map keyOf).length : Int) = es.size := by rw [List.length_map, Array.length_toList]
    refine call_len_set ho hex hd hf (by rw [hn]; omega) ⟨.int es.size, H1, I2.tok _, ⟨_, rfl⟩, ?_⟩
    rw [← e]
    exact q1 _ nd fun n => by rw [← mem n]; simp
/-! ### d.setdefault(k, x), whichever the keys -/
theorem d_setdG {pins : List (Addr × Obj)} {σ : L2.St} {H : Hp} {s : Shared} {a : Addr} {y z : V} {u r : Value} {o : Option V} {A : Around} {E : Value → Shared → Prop} {Q : Value → Shared → Prop} (hu : A.units + 1 < cLine) (I : Inv X pins σ H s) (g : DGet H a y o) (ry : RelV y u) (rz : RelV z r)
    (h1 : ∀ v, o = some v → ∀ w' s', Inv X pins σ H s' → RelV v w' → Q w' s') (h2 : o = none → ∃ H4, DPut H a y z H4 ∧ ∀ s', Inv X pins σ H4 s' → Q r s') :
    wpAny (model X.prog X.w) A (call (.builtin "dict.setdefault") [.ref a, u, r]) Q E s := by
  rcases g with ⟨kvs, k, e, ey, l⟩ | ⟨kvs, k, b, e, ey, eb, l⟩
  · subst ey l
    obtain ⟨hz, hd, vs, rel, dd⟩ := dk_rd I.hok e
    have hzv : vs.length ≤ sizeLine := by rw [← rel.length]; exact hz
    refine call_meetsIn PySem.F.slot_dict_setdefault dd.typeIs PySem.F.entry_dict_setdefault (PySem.F.args_dict_setdefault_3 _ _ _) (kt_meets_setdefault (mixKind X.prog X.w) a (kV_is ry) hd r) ⟨vs, dd, hzv, fun v hv => ?_, fun hn h' dd' hs => ?_⟩
    · have q := rel.val k
      rw [hv] at q
      cases q0 : valV kvs k with
      | none => rw [q0] at q; exact (show False from q).elim
      | some v0 => rw [q0] at q; exact h1 v0 q0 _ _ (I.tok _) q
    · have q := rel.val k
      rw [hn] at q
      cases q0 : valV kvs k with
      | some v0 => rw [q0] at q; exact (show False from q).elim
      | none =>
        obtain ⟨H4, g4, h3⟩ := h2 q0
        rcases g4 with ⟨kvs', k', e', ey', hl, rfl⟩ | ⟨kvs', k', b', e', ey', eb', hl, rfl⟩
        · have e0 : kvs' = kvs ∧ k' = k := by
            rcases e with e | ⟨_, e⟩
            · rw [e] at e'; cases e'
              refine ⟨rfl, ?_⟩
              cases k <;> cases k' <;> cases ey' <;> rfl
            · rw [e] at e'; cases e'
          obtain ⟨rfl, rfl⟩ := e0
          have hl2 : (L2.putK kvs' k' z).length ≤ sizeLine := by have := L2.length_putK kvs' k' z; omega
          have he : ∃ q, h'.get? a = some q := let ⟨q, _, _, hq, _⟩ := dd'; ⟨q, hq⟩
          exact h3 _ (d_write (t' := s.toks + 1) I (by rw [e']; exact True.intro) hs he (dk_new hl2 hd (rel.put k' rz) dd'))
        · cases k <;> cases ey'
  · subst ey l
    cases (show u = Value.ref b from ry)
    obtain ⟨hz, hd, xs, rel, dd⟩ := dt_rd I.hok e
    have hzv : xs.length ≤ sizeLine := by rw [← Paired.length rel]; exact hz
    refine call_setdefault_heap (hsz := hzv) (tupleKind_room_in1 hu) (key_of I.hok eb) hd dd (fun p hp => ?_) fun hn h' dd' hs => ?_
    · have q := rel.val k
      rw [hp] at q
      cases q0 : valV kvs k with
      | none => rw [q0] at q; exact (show False from q).elim
      | some v0 => rw [q0] at q; exact h1 v0 q0 _ _ (I.tok _) q
    · have q := rel.val k
      rw [hn] at q
      cases q0 : valV kvs k with
      | some v0 => rw [q0] at q; exact (show False from q).elim
      | none =>
        obtain ⟨H4, g4, h3⟩ := h2 q0
        rcases g4 with ⟨kvs', k', e', ey', hl, rfl⟩ | ⟨kvs', k', b', e', ey', eb', hl, rfl⟩
        · cases k' <;> cases ey'
        · cases ey'
          have e0 : kvs' = kvs := by
            rcases e with e | ⟨_, e⟩
            · rw [e] at e'; cases e'; rfl
            · rw [e] at e'; cases e'
          have e1 : k' = k := by
            rw [eb] at eb'
            injection eb' with eb'
            injection eb' with eb'
            exact (List.map_inj_right (fun a b h => by cases a <;> cases b <;> cases h <;> rfl)).mp eb'.symm
          subst e0 e1
          have hl2 : (L2.putK kvs' k' z).length ≤ sizeLine := by have := L2.length_putK kvs' k' z; omega
          obtain ⟨q, es, ep, hq, g2, g3, g4, _, g5⟩ := dd'
          refine h3 _ (d_write I (by rw [e']; exact True.intro) hs ⟨q, hq⟩ ⟨hl2, hd, _, (rel.put k' eb rz).keeps fun c ys ec => ?_, q, es, ep, hq, g2, g3, g4, g5⟩)
          rw [upd_ne (ne_of ec e' (fun z => nomatch z))]
          exact ec
def tDSetG (td ty tx : TE) : TE := fun σ H Q => td σ H fun x H1 => ∃ a, x = .ref a ∧ IsD H1 a ∧ ty σ H1 fun y H2 => tx σ H2 fun z H3 => ∃ o, DGet H3 a y o ∧ (∀ v, o = some v → Q v H3) ∧ (o = none → ∃ H4, DPut H3 a y z H4 ∧ Q z H4)
theorem pe_dsetG {o e f : Expr} {td ty tx : TE} {apos cpos : Pos} (hu : X.A.units + 1 < cLine) (ho : PE X o td) (he : PE X e ty) (hf : PE X f tx) (m : M2 X o "setdefault" apos e f cpos) : PE X (.Call (.Attribute o "setdefault" apos) [e, f] [] cpos) (tDSetG td ty tx) := by
  refine ⟨fun pins s σ H Q I h => ?_⟩
  refine wpAny_Call_method m.base m.few m.line PySem.F.plainAttrs_dict PySem.F.slot_dict_setdefault PySem.F.type_dict_setdefault (thn (ho.run pins s σ H _ I h) fun u s1 ⟨x, H1, I1, rx, a, ex, d, q1⟩ => ?_)
  subst ex
  obtain rfl : u = Value.ref a := rx
  obtain ⟨t1, t2, _⟩ := isD_at I1 d
  refine ⟨t1, t2, ?_⟩
  rw [m.trees]
  refine Calls.callWith_builtin rfl (Calls.evalArgs_plain (Calls.spliced_cons (thn (he.run pins s1 σ H1 _ I1 q1) fun iv s2 ⟨y, H2, I2, ry, q2⟩ =>
    Calls.spliced_cons (thn (hf.run pins s2 σ H2 _ I2 q2) fun fv s3 ⟨z, H3, I3, rz, o, g, q3, q4⟩ => Calls.spliced_nil ?_))))
  exact d_setdG hu I3 g ry rz (fun v hv w' s4 I4 rw' => ⟨v, _, I4, rw', q3 v hv⟩) fun hn => by
    obtain ⟨H4, p4, q5⟩ := q4 hn
    exact ⟨H4, p4, fun s4 I4 => ⟨z, _, I4, rz, q5⟩⟩
end
end L3
set_option maxRecDepth 100000
set_option maxHeartbeats 4000000
namespace L3
open PySem L2
section
variable {X : Cx} {c : Cfg} {T : Tab} {N : List PySem.Str} {sc : Scope} {W : WX}
/-! ### built-in functions -/
theorem bi_name (f : Bi) : (f.s == ("__debug__" : PySem.Str)) = false ∧ f.s ≠ "__name__" ∧ f.s ∈ bnames := by cases f <;> decide +kernel
theorem snd_bi {m : Bool} {f : Bi} {ss : List SE} {es : List Expr} {p pos : Pos} (hh : c.hot = false) (h : SndL c T N sc ss es) (hg : glB sc f.s = true) : Snd c T N sc (.bi m f ss) (.Call (.Name f.s p) es [] pos) := fun X W O => by
  obtain ⟨t, id, r, hb, hc, hs⟩ := bi_ok (X := X) (c := c) O.K (O.calm hh).1 m f
  obtain ⟨b1, b2, b3⟩ := bi_name f
  cases h with
  | nil =>
    refine snd_no O rfl fun env M Q E q => ?_
    change biD m f [] M Q at q
    cases f <;> exact q
  | @cons s e ss es a ha r' =>
    obtain ⟨u, h1, h2⟩ := (SndL.cons a ha r').pa O
    have sat : SatE c W (tCB r u) (wE T (.bi m f (s :: ss))) := fun Z σ H env M Q E k st q he hk => by
      refine h2 Z σ H env M _ E _ st q he fun vs H1 ds M1 s1 ok1 r1 q1 => ?_
      exact hs Z vs H1 M1 ds Q k ok1 r1 q1 (hk.stp s1)
    cases t with
    | true => exact Snd.mk O rfl (pe_callTy hc (gl_of O hg) (O.bi _ b3) hb h1 b2 b1 (star_cons (mE_fine ha)) (mEs_any r'.m pos X.env)) sat
    | false => exact Snd.mk O rfl (pe_callB hc (gl_of O hg) (O.bi _ b3) hb h1 b2 b1 (star_cons (mE_fine ha)) (mEs_any r'.m pos X.env)) sat
/-! ### built-in methods -/
theorem bm_genT {T' : String} {m : Bool} {f : Bm} {id : String} {r : V → List V → Hp → VK → Prop} {a : SE} {o : Expr} {ss : List SE} {es : List Expr} {p pos : Pos} (pa : PlainAttrs T') (slot : Slot T' f.s id) (hty : typeOf (.builtin id) = pure (.type "method_descriptor"))
    (hm : ∀ X : Cx, MtR X id r) (ty : ∀ {c' : Cfg} {K : PySem.W.Frag} {x : V} {d : D} {H : Hp} {M : Mm}, Cells c' H M → Rep c' H M x d → rcvB f M d = true → tyV K T' x H)
    (sat : ∀ (c : Cfg) x vs H M d ds Q k, Cells c H M → Rep c H M x d → Reps c H M vs ds → bmD m f d ds M Q → Cont c H M Q k → r x vs H k)
    (ha : Snd c T N sc a o) (h : SndL c T N sc ss es) (hs : supB o = true) (hp : (p.endLine == pos.line) = true) (hl : es.length < 29) : Snd c T N sc (.bm m a f ss) (.Call (.Attribute o f.s p) es [] pos) := fun X W O => by
  obtain ⟨⟨ta, a1, a2⟩, _⟩ := ha X W O
  cases h with
  | nil =>
    refine Snd.mk O rfl (pe_bm0 pa slot hty (hm X) a1 (attrB hs) hp) fun Z σ H env M Q E k st q he hk => ?_
    refine a2 Z σ H env M _ E _ st q he fun x H1 dx M1 s1 ok1 r1 q1 => ?_
    exact ⟨ty ok1 r1 q1.1, sat (c.z Z) _ _ _ _ _ _ _ _ ok1 r1 .nil q1.2 (hk.stp s1)⟩
  | @cons s e ss es b hb r' =>
    obtain ⟨u, h1, h2⟩ := (SndL.cons b hb r').pa O
    refine Snd.mk O rfl (pe_bm pa slot hty (hm X) a1 h1 (attrB hs) (form_ok (SndL.cons b hb r').m hl pos X.env) hp (star_cons (mE_fine hb)) (mEs_any r'.m pos X.env)) fun Z σ H env M Q E k st q he hk => ?_
    refine a2 Z σ H env M _ E _ st q he fun x H1 dx M1 s1 ok1 r1 q1 => ⟨ty ok1 r1 q1.1, ?_⟩
    refine h2 Z σ H1 env M1 _ E _ (st.stp s1 ok1) q1.2 (he.stp s1) fun vs H2 ds M2 s2 ok2 r2 q2 => ?_
    exact sat (c.z Z) _ _ _ _ _ _ _ _ ok2 (r1.stp s2) r2 q2 (hk.stp (s1.trans s2))
/-- a list's -/
theorem bm_gen {m : Bool} {f : Bm} {id : String} {r : V → List V → Hp → VK → Prop} {a : SE} {o : Expr} {ss : List SE} {es : List Expr} {p pos : Pos} (pa : PlainAttrs "list") (slot : Slot "list" f.s id) (hty : typeOf (.builtin id) = pure (.type "method_descriptor"))
    (hm : ∀ X : Cx, MtR X id r) (rc : ∀ M d, rcvB f M d = (lstD M d).isSome)
    (sat : ∀ (c : Cfg) x vs H M d ds Q k, Cells c H M → Rep c H M x d → Reps c H M vs ds → bmD m f d ds M Q → Cont c H M Q k → r x vs H k)
    (ha : Snd c T N sc a o) (h : SndL c T N sc ss es) (hs : supB o = true) (hp : (p.endLine == pos.line) = true) (hl : es.length < 29) : Snd c T N sc (.bm m a f ss) (.Call (.Attribute o f.s p) es [] pos) :=
  bm_genT pa slot hty hm (fun ok rx e => by
    rw [rc] at e
    obtain ⟨es, e⟩ := Option.isSome_iff_exists.mp e
    obtain ⟨a, vs, rfl, h1, _, _⟩ := rep_lst ok rx e
    exact .inl ⟨rfl, _, SqL.of h1⟩) sat ha h hs hp hl
theorem cel_rep {H : Hp} {M : Mm} {x : V} {d : D} {a : Addr} {ds : List D} (ok : Cells c H M) (r : Rep c H M x d) (h : celL M d = some (a, ds)) : x = .ref a ∧ M a = some (.lst ds) ∧ ∃ vs, H a = some (.lst vs) ∧ vs.length ≤ sizeLine ∧ Reps c H M vs ds := by
  cases r with
  | ref b =>
    cases e : M b with
    | none => simp [celL, e] at h
    | some y => cases y with
      | lst es =>
        simp [celL, e] at h
        obtain ⟨rfl, rfl⟩ := h
        cases ok.at' _ _ e with
        | lst h1 z q => exact ⟨rfl, e, _, h1, z, q⟩
      | _ => simp [celL, e] at h
  | _ => simp [celL] at h
/-- a list changed -/
theorem cel_set {H : Hp} {M : Mm} {a : Addr} {ds es : List D} {ws : List V} {v : V} {d : D} {Q : QD} {k : VK} (ok : Cells c H M) (e : M a = some (.lst ds)) (z : ws.length ≤ sizeLine) (r : Reps c H M ws es) (rv : Rep c H M v d)
    (h : Q d (up M a (.lst es))) (hk : Cont c H M Q k) : k v (upd H a (.lst ws)) := by
  have s := stp_set (o := .lst ws) (x' := .lst es) ok e
  exact hk _ _ _ _ s (cells_set ok e (.lst upd_same z (r.stp s))) (rv.stp s) h
theorem sat_append (c : Cfg) {m : Bool} (x : V) (vs : List V) (H : Hp) (M : Mm) (d : D) (ds : List D) (Q : QD) (k : VK) (ok : Cells c H M) (rx : Rep c H M x d) (r : Reps c H M vs ds) (h : bmD m .append d ds M Q) (hk : Cont c H M Q k) : rAppend x vs H k := by
  cases r with
  | nil => exact False.elim h
  | cons ry rr => cases rr with
    | cons _ _ => exact False.elim h
    | nil =>
      obtain ⟨⟨a, es⟩, e, hz, h⟩ := obn_of h
      obtain ⟨rfl, e2, ws, h1, z, q⟩ := cel_rep ok rx e
      exact ⟨a, ws, _, rfl, rfl, h1, by rw [q.len]; exact hz, cel_set ok e2 (by rw [List.length_append, q.len]; exact hz) (q.append (.one ry)) .non h hk⟩
theorem sat_extend (c : Cfg) {m : Bool} (x : V) (vs : List V) (H : Hp) (M : Mm) (d : D) (ds : List D) (Q : QD) (k : VK) (ok : Cells c H M) (rx : Rep c H M x d) (r : Reps c H M vs ds) (h : bmD m .extend d ds M Q) (hk : Cont c H M Q k) : rExtend x vs H k := by
  cases r with
  | nil => exact False.elim h
  | cons ry rr => cases rr with
    | cons _ _ => exact False.elim h
    | nil =>
      obtain ⟨⟨a, es⟩, e, h⟩ := obn_of h
      obtain ⟨fs, e3, hz, h⟩ := obn_of h
      obtain ⟨rfl, e2, ws, h1, z, q⟩ := cel_rep ok rx e
      obtain ⟨b, us, rfl, g1, _, g2⟩ := rep_lst ok ry e3
      have hl : ws.length + us.length ≤ sizeLine := by rw [q.len, g2.len]; exact hz
      exact ⟨a, b, ws, us, rfl, rfl, h1, g1, hl, cel_set ok e2 (by rw [List.length_append]; exact hl) (q.append g2) .non h hk⟩
theorem sat_clear (c : Cfg) {m : Bool} (x : V) (vs : List V) (H : Hp) (M : Mm) (d : D) (ds : List D) (Q : QD) (k : VK) (ok : Cells c H M) (rx : Rep c H M x d) (r : Reps c H M vs ds) (h : bmD m .clear d ds M Q) (hk : Cont c H M Q k) : rClear x vs H k := by
  cases r with
  | cons _ _ => exact False.elim h
  | nil =>
    obtain ⟨⟨a, es⟩, e, h⟩ := obn_of h
    obtain ⟨rfl, e2, ws, h1, z, q⟩ := cel_rep ok rx e
    exact ⟨a, ws, rfl, rfl, h1, cel_set ok e2 (Nat.zero_le _) .nil .non h hk⟩
def rPopU : V → List V → Hp → VK → Prop := fun x xs H Q => rPop x xs H Q ∨ rPopAt x xs H Q
theorem Reps.dropLast {H : Hp} {M : Mm} {vs : List V} {ds : List D} (r : Reps c H M vs ds) : Reps c H M vs.dropLast ds.dropLast := by
  rw [List.dropLast_eq_take, List.dropLast_eq_take, r.len]
  exact r.take _
theorem ixN_eq {n : Nat} {i : Int} {k : Nat} (h : ixN n i = some k) : seqIndex? i n = some k := (ixN_seq h).1
theorem sat_pop (c : Cfg) {m : Bool} (x : V) (vs : List V) (H : Hp) (M : Mm) (d : D) (ds : List D) (Q : QD) (k : VK) (ok : Cells c H M) (rx : Rep c H M x d) (r : Reps c H M vs ds) (h : bmD m .pop d ds M Q) (hk : Cont c H M Q k) : rPopU x vs H k := by
  cases r with
  | nil =>
    obtain ⟨⟨a, es⟩, e, h⟩ := obn_of h
    obtain ⟨y, e3, h⟩ := obn_of h
    obtain ⟨rfl, e2, ws, h1, z, q⟩ := cel_rep ok rx e
    obtain ⟨w, g1, g2⟩ := q.get e3
    exact .inl ⟨a, ws, w, rfl, rfl, h1, by rw [q.len]; exact g1, cel_set ok e2 (Nat.le_trans (by rw [List.length_dropLast]; omega) z) q.dropLast g2 h hk⟩
  | cons ry rr => cases rr with
    | cons _ _ => cases ry <;> exact False.elim h
    | nil => cases ry with
      | int i =>
        obtain ⟨⟨a, es⟩, e, h⟩ := obn_of h
        obtain ⟨hi, h⟩ := h
        obtain ⟨j, e4, h⟩ := obn_of h
        obtain ⟨y, e3, h⟩ := obn_of h
        obtain ⟨rfl, e2, ws, h1, z, q⟩ := cel_rep ok rx e
        obtain ⟨w, g1, g2⟩ := q.get e3
        exact .inr ⟨a, ws, i, j, w, rfl, rfl, h1, hi.1, hi.2, by rw [q.len]; exact ixN_eq e4, g1, cel_set ok e2 (Nat.le_trans (List.length_eraseIdx_le _ _) z) (q.erase _) g2 h hk⟩
      | _ => exact False.elim h
/-! ### dict.get -/
theorem isD_rep {H : Hp} {M : Mm} {x : V} {d : D} (ok : Cells c H M) (r : Rep c H M x d) (h : (dctD M d).isSome = true) : ∃ a, x = .ref a ∧ IsD H a := by
  obtain ⟨⟨t, ds⟩, e⟩ := Option.isSome_iff_exists.mp h
  obtain ⟨a, rfl, ⟨_, ks, g, _⟩ | ⟨_, ks, g, _⟩⟩ := rep_dct ok r e
  · exact ⟨a, rfl, .inl ⟨ks, g⟩⟩
  · exact ⟨a, rfl, .inr ⟨ks, g⟩⟩
theorem snd_get {m : Bool} {a : SE} {o : Expr} {ss : List SE} {es : List Expr} {p pos : Pos} (ha : Snd c T N sc a o) (h : SndL c T N sc ss es) (hb : bmB .get ss.length = true) (hs : supB o = true) (hp : (p.endLine == pos.line) = true) (hl : es.length < 29) :
    Snd c T N sc (.bm m a .get ss) (.Call (.Attribute o Bm.get.s p) es [] pos) := fun X W O => by
  obtain ⟨⟨ta, a1, a2⟩, _⟩ := ha X W O
  have hu : X.A.units + 1 < cLine := by have := O.hu; omega
  cases h with
  | nil => simp [bmB] at hb
  | @cons s e ss es b he' r =>
    obtain ⟨⟨u, h1, h2⟩, _⟩ := b X W O
    cases r with
    | nil =>
      have f1 := form_ok (SndL.cons b he' .nil).m hl pos X.env
      have t1 : backTo pos (starEach [e] X.env) = [(false, eval e X.env)] := by rw [star_cons (mE_fine he')]; rfl
      refine Snd.mk O rfl (pe_dget1 hu a1 h1 ⟨attrB hs, f1, hp, t1⟩) fun Z σ H env M Q E k st q he hk => ?_
      refine a2 Z σ H env M _ E _ st q he fun x H1 dx M1 s1 ok1 r1 q1 => ?_
      obtain ⟨q0, q1⟩ := q1
      obtain ⟨y, rfl, hd⟩ := isD_rep ok1 r1 q0
      refine ⟨y, rfl, hd, h2 Z σ H1 env M1 _ E _ (st.stp s1 ok1) q1 (he.stp s1) fun w H2 dw M2 s2 ok2 r2 q2 => ?_⟩
      obtain ⟨⟨t, kvs⟩, e1, hk', q2⟩ := obn_of q2
      obtain ⟨z, ez, ⟨g1, g2⟩ | ⟨v, dv, g1, g2, g3⟩⟩ := dget_of ok2 (r1.stp s2) e1 r2 hk'
      · cases ez
        refine ⟨_, g2, ?_⟩
        rw [g1] at q2
        exact hk _ _ _ _ (s1.trans s2) ok2 .non q2
      · cases ez
        refine ⟨_, g2, ?_⟩
        rw [g1] at q2
        exact hk _ _ _ _ (s1.trans s2) ok2 g3 q2
    | @cons s' e' ss es b' hb' r =>
      cases r with
      | cons _ _ _ => simp [bmB] at hb
      | nil =>
        obtain ⟨⟨u', i1, i2⟩, _⟩ := b' X W O
        have f1 := form_ok (SndL.cons b he' (SndL.cons b' hb' .nil)).m hl pos X.env
        have t1 : backTo pos (starEach [e, e'] X.env) = [(false, eval e X.env), (false, eval e' X.env)] := by rw [star_cons (mE_fine he'), star_cons (mE_fine hb')]; rfl
        refine Snd.mk O rfl (pe_dget2 hu a1 h1 i1 ⟨attrB hs, f1, hp, t1⟩) fun Z σ H env M Q E k st q he hk => ?_
        refine a2 Z σ H env M _ E _ st q he fun x H1 dx M1 s1 ok1 r1 q1 => ?_
        obtain ⟨q0, q1⟩ := q1
        obtain ⟨y, rfl, hd⟩ := isD_rep ok1 r1 q0
        refine ⟨y, rfl, hd, h2 Z σ H1 env M1 _ E _ (st.stp s1 ok1) q1 (he.stp s1) fun w H2 dw M2 s2 ok2 r2 q2 => ?_⟩
        refine i2 Z σ H2 env M2 _ E _ (st.stp (s1.trans s2) ok2) q2 (he.stp (s1.trans s2)) fun w' H3 dw' M3 s3 ok3 r3 q3 => ?_
        obtain ⟨⟨t, kvs⟩, e1, hk', q3⟩ := obn_of q3
        obtain ⟨z, ez, ⟨g1, g2⟩ | ⟨v, dv, g1, g2, g3⟩⟩ := dget_of ok3 (r1.stp (s2.trans s3)) e1 (r2.stp s3) hk'
        · cases ez
          refine ⟨_, g2, ?_⟩
          rw [g1] at q3
          exact hk _ _ _ _ ((s1.trans s2).trans s3) ok3 r3 q3
        · cases ez
          refine ⟨_, g2, ?_⟩
          rw [g1] at q3
          exact hk _ _ _ _ ((s1.trans s2).trans s3) ok3 g3 q3
/-! ### dict.update -/
theorem sat_upd (c : Cfg) {m : Bool} (x : V) (vs : List V) (H : Hp) (M : Mm) (d : D) (ds : List D) (Q : QD) (k : VK) (ok : Cells c H M) (rx : Rep c H M x d) (r : Reps c H M vs ds) (h : bmD m .update d ds M Q) (hk : Cont c H M Q k) : rDUpd x vs H k := by
  cases r with
  | nil => exact False.elim h
  | cons ry rr => cases rr with
    | cons _ _ => exact False.elim h
    | nil =>
      obtain ⟨⟨a, kvs⟩, e, h⟩ := obn_of h
      obtain ⟨⟨t, lds⟩, e3, ht, hne, hz, hq⟩ := obn_of h
      obtain rfl : t = false := ht
      obtain ⟨rfl, rfl, e2, ks, h1, z, q⟩ := celK_rep ok rx e
      obtain ⟨b, rfl, g⟩ := rep_dct ok ry e3
      rcases g with ⟨_, ls, g1, g2, g3⟩ | ⟨z, _⟩
      · have nab : a ≠ b := by
          rintro rfl
          cases ry with
          | ref b => exact hne rfl
          | dK g4 g5 => exact absurd (g5.1) (by rw [e2]; exact fun z => nomatch z)
          | _ => simp [dctD] at e3
        have hl : ks.length + ls.length ≤ sizeLine := by rw [q.len, g3.len]; exact hz
        have s := stp_set (o := .dK (mergeK ks ls)) (x' := .dct false (mrgK kvs lds)) ok e2
        exact ⟨a, b, ks, ls, rfl, rfl, nab, h1, g1, hl, hk _ _ _ _ s (cells_set ok e2 (.dK upd_same (Nat.le_trans (length_mergeK ls ks) hl) (mrg_K ls (g3.view s.view) (q.view s.view)))) .non hq⟩
      · cases z
/-! ### setdefault, count, insert; texts -/
theorem putK_T {H : Hp} {M : Mm} {v : V} {d : D} (rv : Rep c H M v d) (k : List Key) (hk : k.length ≤ sizeLine) : ∀ {ks : List (List Key × V)} {kvs : List (D × D)}, RepT c H M ks kvs → RepT c H M (L2.putK ks k v) (L3.putK kvs (.tup (k.map keyD)) d) := fun {ks kvs} r => by
  have ha : (ks.any fun kv => decide (kv.1 = k)) = kvs.any fun p => eqKey p.1 (.tup (k.map keyD)) := by
    have : ∀ {ks : List (List Key × V)} {kvs : List (D × D)}, RepT c H M ks kvs → (ks.any fun kv => decide (kv.1 = k)) = kvs.any fun p => eqKey p.1 (.tup (k.map keyD)) := by
      intro ks
      induction ks with
      | nil => intro kvs r; cases r; rfl
      | cons a b ih => intro kvs r; cases r with
        | cons z x y => simp only [List.any_cons, eqKey_tup, ih y]
    exact this r
  have hm : ∀ {ks : List (List Key × V)} {kvs : List (D × D)}, RepT c H M ks kvs → RepT c H M (ks.map fun kv => if kv.1 = k then (kv.1, v) else kv) (kvs.map fun p => if eqKey p.1 (.tup (k.map keyD)) = true then (p.1, d) else p) := by
    intro ks
    induction ks with
    | nil => intro kvs r; cases r; exact .nil
    | cons a b ih => intro kvs r; cases r with
      | @cons k' v' d' _ _ z x y =>
        simp only [List.map_cons, eqKey_tup, decide_eq_true_eq]
        by_cases e : k' = k
        · simp only [e, if_true]; exact .cons hk rv (ih y)
        · simp only [e, if_false]; exact .cons z x (ih y)
  have hap : ∀ {ks : List (List Key × V)} {kvs : List (D × D)}, RepT c H M ks kvs → RepT c H M (ks ++ [(k, v)]) (kvs ++ [(.tup (k.map keyD), d)]) := by
    intro ks
    induction ks with
    | nil => intro kvs r; cases r; exact .cons hk rv .nil
    | cons a b ih => intro kvs r; cases r with
      | cons z x y => exact .cons z x (ih y)
  unfold L2.putK L3.putK
  rw [ha]
  split
  · exact hm r
  · exact hap r
theorem setK_put {H : Hp} {M : Mm} {a : Addr} {t : Bool} {kvs : List (D × D)} {i v : V} {d2 d : D} (ok : Cells c H M) (e : M a = some (.dct t kvs)) (h1 : keyOk t d2 = true) (h2 : kvs.length < sizeLine) (ri : Rep c H M i d2) (rv : Rep c H M v d) :
    ∃ H4, DPut H a i v H4 ∧ Stp H M H4 (up M a (.dct t (putK kvs d2 d))) ∧ Cells c H4 (up M a (.dct t (putK kvs d2 d))) ∧ True := by
  cases t with
  | false =>
    obtain ⟨k', rfl, rfl⟩ := key_flat ri h1
    cases ok.at' _ _ e with
    | @dK ks0 _ g z q =>
      have s := stp_set (o := .dK (L2.putK ks0 k' v)) (x' := .dct false (putK kvs (keyD k') d)) ok e
      refine ⟨_, .k g (by rw [q.len]; exact h2), s, cells_set ok e (.dK upd_same ?_ (putK_K (rv.stp s) k' (q.view s.view))), trivial⟩
      exact Nat.le_trans (putK_len _ k' v) (by rw [q.len]; exact h2)
  | true =>
    have hz : ∃ (b : Addr) (ks : List Key), i = .ref b ∧ H b = some (.tup (ks.map kV)) ∧ d2 = .tup (ks.map keyD) ∧ ks.length ≤ sizeLine := by
      obtain ⟨b, ks, e1, e2, e3⟩ := key_tup ri h1
      refine ⟨b, ks, e1, e2, e3, ?_⟩
      subst e3
      cases ri with
      | tup g n z q => rw [q.len, List.length_map] at z; exact z
    obtain ⟨b, ks, rfl, hb, rfl, hkl⟩ := hz
    cases ok.at' _ _ e with
    | @dT ks0 _ g z q =>
      have s := stp_set (o := .dT (L2.putK ks0 ks v)) (x' := .dct true (putK kvs (.tup (ks.map keyD)) d)) ok e
      refine ⟨_, .t g hb (by rw [q.len]; exact h2), s, cells_set ok e (.dT upd_same ?_ (putK_T (rv.stp s) ks hkl (q.view s.view))), trivial⟩
      exact Nat.le_trans (putK_len _ ks v) (by rw [q.len]; exact h2)
theorem celT_rep {H : Hp} {M : Mm} {x : V} {d : D} {a : Addr} {t : Bool} {kvs : List (D × D)} (r : Rep c H M x d) (h : celT M d = some (a, t, kvs)) : x = .ref a ∧ d = .ref a ∧ M a = some (.dct t kvs) := by
  cases r with
  | ref b =>
    cases e : M b with
    | none => simp [celT, e] at h
    | some y => cases y with
      | dct t' ks =>
        simp [celT, e] at h
        obtain ⟨rfl, rfl, rfl⟩ := h
        exact ⟨rfl, rfl, e⟩
      | _ => simp [celT, e] at h
  | _ => simp [celT] at h
theorem snd_setd {m : Bool} {a : SE} {o : Expr} {ss : List SE} {es : List Expr} {p pos : Pos} (ha : Snd c T N sc a o) (h : SndL c T N sc ss es) (hb : bmB .setdefault ss.length = true) (hs : supB o = true) (hp : (p.endLine == pos.line) = true) (hl : es.length < 29) :
    Snd c T N sc (.bm m a .setdefault ss) (.Call (.Attribute o Bm.setdefault.s p) es [] pos) := fun X W O => by
  obtain ⟨⟨ta, a1, a2⟩, _⟩ := ha X W O
  have hu : X.A.units + 1 < cLine := by have := O.hu; omega
  cases h with
  | nil => simp [bmB] at hb
  | @cons s e ss es b he' r =>
    obtain ⟨⟨u, h1, h2⟩, _⟩ := b X W O
    cases r with
    | nil => simp [bmB] at hb
    | @cons s' e' ss es b' hb' r =>
      cases r with
      | cons _ _ _ => simp [bmB] at hb
      | nil =>
        obtain ⟨⟨u', i1, i2⟩, _⟩ := b' X W O
        have f1 := form_ok (SndL.cons b he' (SndL.cons b' hb' .nil)).m hl pos X.env
        have t1 : backTo pos (starEach [e, e'] X.env) = [(false, eval e X.env), (false, eval e' X.env)] := by rw [star_cons (mE_fine he'), star_cons (mE_fine hb')]; rfl
        refine Snd.mk O rfl (pe_dsetG hu a1 h1 i1 ⟨attrB hs, f1, hp, t1⟩) fun Z σ H env M Q E k st q he hk => ?_
        refine a2 Z σ H env M _ E _ st q he fun x H1 dx M1 s1 ok1 r1 q1 => ?_
        obtain ⟨q0, q1⟩ := q1
        obtain ⟨y, rfl, hd⟩ := isD_rep ok1 r1 q0
        refine ⟨y, rfl, hd, h2 Z σ H1 env M1 _ E _ (st.stp s1 ok1) q1 (he.stp s1) fun w H2 dw M2 s2 ok2 r2 q2 => ?_⟩
        refine i2 Z σ H2 env M2 _ E _ (st.stp (s1.trans s2) ok2) q2 (he.stp (s1.trans s2)) fun w' H3 dw' M3 s3 ok3 r3 q3 => ?_
        obtain ⟨⟨a, t, kvs⟩, e1, hk', hz, q4⟩ := obn_of q3
        have r1' := r1.stp (s2.trans s3)
        have r2' := r2.stp s3
        obtain ⟨e2, rfl, e3⟩ := celT_rep r1' e1
        cases e2
        have ed : dctD M3 (.ref y) = some (t, kvs) := by simp [dctD, e3]
        obtain ⟨z, ez, g⟩ := dget_of ok3 r1' ed r2' hk'
        cases ez
        rcases g with ⟨g1, g2⟩ | ⟨v, dv, g1, g2, g3⟩
        · refine ⟨none, g2, (fun v hv => nomatch hv), fun _ => ?_⟩
          have q3 : Q dw' (up M3 y (.dct t (putK kvs dw dw'))) := by
            rw [g1] at q4
            exact q4
          obtain ⟨H4, p1, s4, ok4, _⟩ := setK_put ok3 e3 hk' hz r2' r3
          exact ⟨H4, p1, hk _ _ _ _ (((s1.trans s2).trans s3).trans s4) ok4 (r3.stp s4) q3⟩
        · refine ⟨some v, g2, fun v' hv => ?_, fun z => nomatch z⟩
          cases hv
          have q3 : Q dv M3 := by
            rw [g1] at q4
            exact q4
          exact hk _ _ _ _ ((s1.trans s2).trans s3) ok3 g3 q3
theorem bm_genH {m : Bool} {f : Bm} {id : String} {r : Cx → V → List V → Hp → VK → Prop} {T' : String} {a : SE} {o : Expr} {ss : List SE} {es : List Expr} {p pos : Pos} (pa : PlainAttrs T') (slot : Slot T' f.s id) (hty : typeOf (.builtin id) = pure (.type "method_descriptor"))
    (hm : ∀ X : Cx, X.A.units + 70 < cLine → MtR X id (r X)) (ty : ∀ {c' : Cfg} {K : PySem.W.Frag} {x : V} {d : D} {H : Hp} {M : Mm}, Cells c' H M → Rep c' H M x d → rcvB f M d = true → tyV K T' x H)
    (sat : ∀ (X : Cx) (c : Cfg), X.K = c.K → ∀ x vs H M d ds Q k, Cells c H M → Rep c H M x d → Reps c H M vs ds → bmD m f d ds M Q → Cont c H M Q k → r X x vs H k)
    (ha : Snd c T N sc a o) (h : SndL c T N sc ss es) (h0 : 0 < ss.length) (hs : supB o = true) (hp : (p.endLine == pos.line) = true) (hl : es.length < 29) : Snd c T N sc (.bm m a f ss) (.Call (.Attribute o f.s p) es [] pos) := fun X W O => by
  obtain ⟨⟨ta, a1, a2⟩, _⟩ := ha X W O
  cases h with
  | nil => simp at h0
  | @cons s e ss es b hb r' =>
    obtain ⟨u, h1, h2⟩ := (SndL.cons b hb r').pa O
    refine Snd.mk O rfl (pe_bm pa slot hty (hm X O.hu) a1 h1 (attrB hs) (form_ok (SndL.cons b hb r').m hl pos X.env) hp (star_cons (mE_fine hb)) (mEs_any r'.m pos X.env)) fun Z σ H env M Q E k st q he hk => ?_
    refine a2 Z σ H env M _ E _ st q he fun x H1 dx M1 s1 ok1 r1 q1 => ⟨ty ok1 r1 q1.1, ?_⟩
    refine h2 Z σ H1 env M1 _ E _ (st.stp s1 ok1) q1.2 (he.stp s1) fun vs H2 ds M2 s2 ok2 r2 q2 => ?_
    exact sat X (c.z Z) O.K _ _ _ _ _ _ _ _ ok2 (r1.stp s2) r2 q2 (hk.stp (s1.trans s2))
theorem cntP_toP {n m : Nat} {d : D} (h : pu m d = true) : ∀ (ds : List D), pu.puL n ds = true → ((toP.toPL ds).countP fun z => PyData.eqv z (toP d)) = ds.countP fun z => eqv z d
  | [], _ => rfl
  | e :: r, q => by
    simp only [pu.puL, Bool.and_eq_true] at q
    show ((toP e :: toP.toPL r).countP fun z => PyData.eqv z (toP d)) = _
    rw [List.countP_cons, List.countP_cons, cntP_toP h r q.2, eqv_toP e d q.1 h]
theorem sat_count (X : Cx) (c : Cfg) (hK : X.K = c.K) {m : Bool} (x : V) (vs : List V) (H : Hp) (M : Mm) (d : D) (ds : List D) (Q : QD) (k : VK) (ok : Cells c H M) (rx : Rep c H M x d) (r : Reps c H M vs ds) (h : bmD m .count d ds M Q) (hk : Cont c H M Q k) : rCntD X.K x vs H k := by
  cases r with
  | nil => exact False.elim h
  | cons ry rr => cases rr with
    | cons _ _ => exact False.elim h
    | nil =>
      obtain ⟨es, e1, h1, h2, hq⟩ := obn_of h
      obtain ⟨b, us, rfl, g1, _, g2⟩ := rep_lst ok rx e1
      rw [hK]
      have h2' : pu.puL 58 es = true := by
        simp only [pu, Bool.and_eq_true] at h2
        exact h2.2
      refine ⟨b, _, _, _, rfl, rfl, DR.dp (d := .lst es) (n := 59) (.lst (SqL.of g1) g2.dr) h2, DR.dp (ry.dr.rs ok) h1, pu_shaped (n := 59) (d := .lst es) (by decide) h2, pu_shaped (by decide) h1, ?_⟩
      have e := cntP_toP h1 es h2'
      rw [show ((toP.toPL es).countP fun z => PyData.eqv z (toP (rs M _))) = _ from e]
      exact hk _ _ _ _ .refl ok (.int _) hq
def rInsert : V → List V → Hp → VK → Prop := fun x vs H Q => ∃ (l : Addr) (xs : List V) (i : Int) (y : V), x = .ref l ∧ vs = [.int i, y] ∧ H l = some (.lst xs) ∧ xs.length < sizeLine ∧ 0 ≤ i ∧ i < 2 ^ 63 ∧ Q .non (upd H l (.lst (xs.take i.toNat ++ [y] ++ xs.drop i.toNat)))
theorem sat_insert (c : Cfg) {m : Bool} (x : V) (vs : List V) (H : Hp) (M : Mm) (d : D) (ds : List D) (Q : QD) (k : VK) (ok : Cells c H M) (rx : Rep c H M x d) (r : Reps c H M vs ds) (h : bmD m .insert d ds M Q) (hk : Cont c H M Q k) : rInsert x vs H k := by
  cases r with
  | nil => exact False.elim h
  | cons ry rr => cases rr with
    | nil => cases ry <;> exact False.elim h
    | cons rz rr => cases rr with
      | cons _ _ => cases ry <;> exact False.elim h
      | nil => cases ry with
        | int i =>
          obtain ⟨⟨a, es⟩, e, hz, hi, hq⟩ := obn_of h
          obtain ⟨rfl, e2, ws, h1, z, q⟩ := cel_rep ok rx e
          refine ⟨a, ws, i, _, rfl, rfl, h1, by rw [q.len]; exact hz, hi.1, hi.2, cel_set ok e2 ?_ (((q.take _).append (.one rz)).append (q.drop _)) .non hq hk⟩
          have l1 := q.len
          have hz : es.length < sizeLine := hz
          simp only [List.length_append, List.length_take, List.length_drop, List.length_singleton]
          omega
        | _ => exact False.elim h
theorem strs_rep {H : Hp} {M : Mm} : ∀ {vs : List V} {ds : List D} {ys : List PySem.Str}, Reps c H M vs ds → strsL ds = some ys → vs = ys.map V.str
  | _, _, _, .nil, h => by cases h; rfl
  | _, d :: r, ys, .cons rv q, h => by
    cases d with
    | str x =>
      unfold strsL at h
      cases e : strsL r with
      | none => rw [e] at h; cases h
      | some zs =>
        rw [e] at h
        cases h
        rw [rep_str rv, strs_rep q e]
        rfl
    | _ => cases h
theorem strs_new {H : Hp} {M : Mm} : ∀ (ys : List PySem.Str), Reps c H M (ys.map V.str) (ys.map .str)
  | [] => .nil
  | y :: r => .cons (.str y) (strs_new r)
def rJoin (K : PySem.W.Frag) : V → List V → Hp → VK → Prop := fun x xs H Q => ∃ a p, ∃ ys : List PySem.Str, x = .str a ∧ xs = [.ref p] ∧ (SqL K H p (ys.map V.str) ∨ SqT K H p (ys.map V.str)) ∧ (ys.map (·.length)).sum + ys.length * a.length ≤ 16777216 ∧ Q (.str (Txt.join a ys)) H
theorem sat_join (X : Cx) (c : Cfg) (hK : X.K = c.K) {m : Bool} (x : V) (vs : List V) (H : Hp) (M : Mm) (d : D) (ds : List D) (Q : QD) (k : VK) (ok : Cells c H M) (rx : Rep c H M x d) (r : Reps c H M vs ds) (h : bmD m .join d ds M Q) (hk : Cont c H M Q k) : rJoin X.K x vs H k := by
  cases d with
  | str a => cases r with
    | nil => exact False.elim h
    | cons ry rr => cases rr with
      | cons _ _ => exact False.elim h
      | nil =>
        obtain ⟨es, e1, h⟩ := obn_of h
        obtain ⟨ys, e2, hz, hq⟩ := obn_of h
        obtain ⟨b, us, rfl, hs, _, q⟩ := rep_seq ok ry e1
        rw [hK, rep_str rx]
        rw [strs_rep q e2] at hs
        exact ⟨a, b, ys, rfl, rfl, hs, hz, hk _ _ _ _ .refl ok (.str _) hq⟩
  | _ => exact False.elim h
def rSplit : V → List V → Hp → VK → Prop := fun x xs H Q => ∃ a b, x = .str a ∧ xs = [.str b] ∧ (b.length == 0) = false ∧ a.length + 2 ≤ sizeLine ∧ rNewStrs (Txt.split a b) H Q
theorem sat_split (c : Cfg) {m : Bool} (x : V) (vs : List V) (H : Hp) (M : Mm) (d : D) (ds : List D) (Q : QD) (k : VK) (ok : Cells c H M) (rx : Rep c H M x d) (r : Reps c H M vs ds) (h : bmD m .split d ds M Q) (hk : Cont c H M Q k) : rSplit x vs H k := by
  cases d with
  | str a => cases r with
    | nil => exact False.elim h
    | cons ry rr => cases rr with
      | cons _ _ => cases ry <;> exact False.elim h
      | nil => cases ry with
        | str b =>
          obtain ⟨h1, h2, hq⟩ := h
          rw [rep_str rx]
          refine ⟨a, b, rfl, rfl, h1, h2, fun p hp => al_ok ok (strs_new _) ?_ hq hk p hp⟩
          rw [List.length_map]
          exact Nat.le_trans (PyProof.Rows.split_le a b) (by omega)
        | _ => exact False.elim h
  | _ => exact False.elim h
def rStarts : V → List V → Hp → VK → Prop := fun x xs H Q => ∃ a b, x = .str a ∧ xs = [.str b] ∧ Q (.bl (Txt.startswith a b)) H
theorem sat_starts (c : Cfg) {m : Bool} (x : V) (vs : List V) (H : Hp) (M : Mm) (d : D) (ds : List D) (Q : QD) (k : VK) (ok : Cells c H M) (rx : Rep c H M x d) (r : Reps c H M vs ds) (h : bmD m .startswith d ds M Q) (hk : Cont c H M Q k) : rStarts x vs H k := by
  cases d with
  | str a => cases r with
    | nil => exact False.elim h
    | cons ry rr => cases rr with
      | cons _ _ => cases ry <;> exact False.elim h
      | nil => cases ry with
        | str b =>
          rw [rep_str rx]
          exact ⟨a, b, rfl, rfl, hk _ _ _ _ .refl ok (.bl _) h⟩
        | _ => exact False.elim h
  | _ => exact False.elim h
theorem ty_list {c' : Cfg} {K : PySem.W.Frag} {x : V} {d : D} {H : Hp} {M : Mm} (ok : Cells c' H M) (rx : Rep c' H M x d) (e : (lstD M d).isSome = true) : tyV K "list" x H := by
  obtain ⟨es, e⟩ := Option.isSome_iff_exists.mp e
  obtain ⟨a, vs, rfl, h1, _, _⟩ := rep_lst ok rx e
  exact .inl ⟨rfl, _, SqL.of h1⟩
theorem ty_str {c' : Cfg} {K : PySem.W.Frag} {x : V} {d : D} {H : Hp} {M : Mm} (rx : Rep c' H M x d) (e : rcvB.strB d = true) : tyV K "str" x H := by
  cases d with
  | str z => rw [rep_str rx]; rfl
  | _ => cases e
theorem sat_clearK (c : Cfg) {m : Bool} (x : V) (vs : List V) (H : Hp) (M : Mm) (d : D) (ds : List D) (Q : QD) (k : VK) (ok : Cells c H M) (rx : Rep c H M x d) (r : Reps c H M vs ds) (h : bmD m .clearK d ds M Q) (hk : Cont c H M Q k) : rDClear x vs H k := by
  cases r with
  | cons _ _ => exact False.elim h
  | nil =>
    obtain ⟨⟨a, kvs⟩, e, hq⟩ := obn_of h
    obtain ⟨rfl, rfl, e2, ks, h1, z, q⟩ := celK_rep ok rx e
    have s := stp_set (o := .dK []) (x' := .dct false []) ok e2
    exact ⟨a, ks, rfl, rfl, h1, hk _ _ _ _ s (cells_set ok e2 (.dK upd_same (Nat.zero_le _) .nil)) .non hq⟩
theorem snd_bm {m : Bool} {f : Bm} {a : SE} {o : Expr} {ss : List SE} {es : List Expr} {p pos : Pos} (ha : Snd c T N sc a o) (h : SndL c T N sc ss es) (hb : bmB f ss.length = true) (hs : supB o = true) (hp : (p.endLine == pos.line) = true) (hl : es.length < 29) :
    Snd c T N sc (.bm m a f ss) (.Call (.Attribute o f.s p) es [] pos) := by
  cases f with
  | append => exact bm_gen F.plainAttrs_list F.slot_list_append F.type_list_append (fun X => mt_append) (fun _ _ => rfl) (fun c => sat_append c) ha h hs hp hl
  | extend => exact bm_gen F.plainAttrs_list F.slot_list_extend F.type_list_extend (fun X => mt_extend) (fun _ _ => rfl) (fun c => sat_extend c) ha h hs hp hl
  | clear => exact bm_gen F.plainAttrs_list F.slot_list_clear F.type_list_clear (fun X => mt_clear) (fun _ _ => rfl) (fun c => sat_clear c) ha h hs hp hl
  | pop => exact bm_gen F.plainAttrs_list F.slot_list_pop F.type_list_pop (fun X => MtR.or mt_pop mt_popAt) (fun _ _ => rfl) (fun c => sat_pop c) ha h hs hp hl
  | get => exact snd_get ha h hb hs hp hl
  | update =>
    refine bm_genT (T' := "dict") F.plainAttrs_dict F.slot_dict_update F.type_dict_update (fun X => mt_dupd) (fun ok rx e => ?_) (fun c => sat_upd c) ha h hs hp hl
    obtain ⟨⟨a, kvs⟩, e⟩ := Option.isSome_iff_exists.mp e
    obtain ⟨rfl, rfl, e2, ks, h1, _, _⟩ := celK_rep ok rx e
    exact .inr (.inr (.inl ⟨rfl, .inl ⟨_, h1⟩⟩))
  | setdefault => exact snd_setd ha h hb hs hp hl
  | count => exact bm_genH (r := fun X => rCntD X.K) F.plainAttrs_list F.slot_list_count F.type_list_count (fun X hu => mt_countD (by omega)) (fun ok rx e => ty_list ok rx e) (fun X c hK => sat_count X c hK) ha h (by simp [bmB] at hb; omega) hs hp hl
  | insert => exact bm_gen F.plainAttrs_list F.slot_list_insert F.type_list_insert (fun X => mt_insert) (fun _ _ => rfl) (fun c => sat_insert c) ha h hs hp hl
  | join => exact bm_genH (r := fun X => rJoin X.K) F.plainAttrs_str F.slot_str_join F.type_str_join (fun X hu => mt_join) (fun ok rx e => ty_str rx e) (fun X c hK => sat_join X c hK) ha h (by simp [bmB] at hb; omega) hs hp hl
  | split => exact bm_genT F.plainAttrs_str F.slot_str_split F.type_str_split (fun X => mt_split) (fun ok rx e => ty_str rx e) (fun c => sat_split c) ha h hs hp hl
  | startswith => exact bm_genT F.plainAttrs_str F.slot_str_startswith F.type_str_startswith (fun X => mt_startswith) (fun ok rx e => ty_str rx e) (fun c => sat_starts c) ha h hs hp hl
  | clearK =>
    refine bm_genT (T' := "dict") F.plainAttrs_dict F.slot_dict_clear F.type_dict_clear (fun X => mtd_clear) (fun ok rx e => ?_) (fun c => sat_clearK c) ha h hs hp hl
    obtain ⟨⟨a, kvs⟩, e⟩ := Option.isSome_iff_exists.mp e
    obtain ⟨rfl, rfl, e2, ks, h1, _, _⟩ := celK_rep ok rx e
    exact .inr (.inr (.inl ⟨rfl, .inl ⟨_, h1⟩⟩))
  | _ => simp [bmB] at hb
end
end L3
set_option maxRecDepth 100000
set_option maxHeartbeats 4000000
namespace L3
open PySem L2
section
variable {X : Cx} {c : Cfg} {T : Tab} {N : List PySem.Str} {sc : Scope} {W : WX}
/-! ### isinstance -/
def kitB (a b : String) : Option Bool := if (Value.type a == Value.type b) = true then some true else if PySem.W.kitMeta b = true then (fastBuiltinMro a).map (·.contains (.type b)) else none
theorem kit_bb (K : PySem.W.Frag) (a b : String) : PySem.W.kitOne K (.type a) (.type b) = kitB a b := rfl
theorem kit_tab : ∀ a ∈ btn, ∀ b ∈ btt, kitB a b = some (decide (a = b) || (decide (a = "bool") && decide (b = "int"))) := by decide +kernel
/-- the answers, one class after the other -/
inductive Ans (K : PySem.W.Frag) (t : Value) : List V → List Value → List (Option Bool) → Prop
  | nil : Ans K t [] [] []
  | cons {v : V} {u : Value} {b : Option Bool} {vs us bs} : ClsV v u → (∀ x, b = some x → PySem.W.kitOne K t u = some x) → Ans K t vs us bs → Ans K t (v :: vs) (u :: us) (b :: bs)
theorem Ans.pair {K : PySem.W.Frag} {t : Value} : ∀ {vs us bs}, Ans K t vs us bs → Paired ClsV vs us
  | _, _, _, .nil => .nil
  | _, _, _, .cons h _ r => .cons h r.pair
theorem Ans.any {K : PySem.W.Frag} {t : Value} {f : Ty1 → Option Bool} : ∀ {ts : List Ty1} {vs us}, Ans K t vs us (ts.map f) → ∀ {b}, anyT f ts = some b → PySem.W.kitAny K t us = some b
  | [], _, _, .nil, b, h => h
  | t1 :: r, _, _, .cons h1 h2 h3, b, h => by
    unfold anyT at h
    unfold PySem.W.kitAny
    cases e : f t1 with
    | none => rw [e] at h; cases h
    | some x =>
      rw [e] at h
      rw [h2 x e]
      cases x with
      | true => exact h
      | false => exact h3.any h
theorem Ans.one {K : PySem.W.Frag} {t : Value} {f : Ty1 → Option Bool} {t1 : Ty1} {v : V} {u : Value} {b : Bool} (h : ∀ x, f t1 = some x → PySem.W.kitOne K t u = some x) (e : anyT f [t1] = some b) : PySem.W.kitOne K t u = some b := by
  unfold anyT at e
  cases e1 : f t1 with
  | none => rw [e1] at e; cases e
  | some x =>
    rw [e1] at e
    rw [h x e1]
    cases x with
    | true => exact e
    | false => exact e
def tyV1 (c : Cfg) : Ty1 → V
  | .bt n => .ty n
  | .own n => .ref ((c.cls n).getD 0)
def tyU1 (c : Cfg) : Ty1 → Value
  | .bt n => .type n
  | .own n => .ref ((c.cls n).getD 0)
theorem tyCls (c : Cfg) (t : Ty1) : ClsV (tyV1 c t) (tyU1 c t) := by
  cases t with
  | bt n => exact .ty n
  | own n => exact .own _
theorem ty_boot : ∀ n ∈ btt, bootBuiltins (PySem.Str.ofString n) = some (.type n) ∧ PySem.Str.ofString n ∈ bnames := by decide +kernel
theorem ty_pe (O : COk c T N sc X W) {t : Ty1} {e : Expr} (h : mTy1 sc t e = true) (ho : ownOk T [t] = true) : PE X e (tC (tyV1 c t)) ∧ fine e = true := by
  cases e with
  | Name x p =>
    simp only [mTy1, Bool.and_eq_true, decide_eq_true_eq] at h
    obtain ⟨⟨⟨rfl, hg⟩, hn⟩, hb⟩ := h
    obtain ⟨n1, n2, n3⟩ := nmB_of hn
    refine ⟨?_, rfl⟩
    cases t with
    | bt n =>
      obtain ⟨b1, b2⟩ := ty_boot n (by simpa [bttB] using hb)
      exact pe_bltn (gl_of O hg) (O.bi _ b2) b1 (show RelV (.ty n) (.type n) from rfl) n3 n1
    | own n =>
      simp only [ownOk, List.all_cons, List.all_nil, Bool.and_true, decide_eq_true_eq] at ho
      obtain ⟨C, hC⟩ := Option.isSome_iff_exists.mp (O.own n ho)
      have := O.clsG n C hC
      refine pe_glob (gl_of O hg) this ?_ n1
      show Value.ref C = Value.ref ((c.cls n).getD 0)
      rw [hC]; rfl
  | _ => simp [mTy1] at h
theorem ownOk_cons {t : Ty1} {ts : List Ty1} (h : ownOk T (t :: ts) = true) : ownOk T [t] = true ∧ ownOk T ts = true := by
  simp only [ownOk, List.all_cons, List.all_nil, Bool.and_true, Bool.and_eq_true] at h ⊢
  exact h
/-- several -/
def tTys : List V → TA
  | [] => tNil
  | v :: vs => tCons (tC v) (tTys vs)
theorem tys_pa (O : COk c T N sc X W) : ∀ {ts : List Ty1} {es : List Expr}, mTys sc ts es = true → ownOk T ts = true → PA X es (tTys (ts.map (tyV1 c))) ∧ ∀ pos, (backTo pos (starEach es X.env)).any (·.1) = false
  | [], [], _, _ => ⟨pa_nil, fun _ => rfl⟩
  | [], _ :: _, h, _ => by simp [mTys] at h
  | _ :: _, [], h, _ => by simp [mTys] at h
  | t :: ts, e :: es, h, ho => by
    simp only [mTys, Bool.and_eq_true] at h
    obtain ⟨h1, h2⟩ := ownOk_cons ho
    obtain ⟨p1, f⟩ := ty_pe O h.1 h1
    obtain ⟨p2, g⟩ := tys_pa O h.2 h2
    refine ⟨pa_cons p1 p2 (star_cons f), fun pos => ?_⟩
    rw [star_cons f]
    simp only [backTo, List.map_cons, List.any_cons, Bool.false_or]
    exact g pos
theorem tTys_run {vs : List V} {σ : St} {H : Hp} {Q : List V → Hp → Prop} (h : Q vs H) : tTys vs σ H Q := by
  induction vs generalizing Q with
  | nil => exact h
  | cons v r ih =>
    refine (?_ : tTys r σ H fun ws H2 => Q (v :: ws) H2)
    exact ih h
/-- the type of what is read -/
def tyKnown (c : Cfg) : Ty1 → Prop
  | .bt x => x ∈ btn
  | .own n => ∃ C, c.cls n = some C
theorem insT_of {n : Nm} {a : Ty1} (h : insT T n = some a) : a = .own n ∧ ∃ l, lk T.isn n = some l := by
  unfold insT at h
  cases e : lk T.isn n with
  | none => rw [e] at h; cases h
  | some l => rw [e] at h; cases h; exact ⟨rfl, l, rfl⟩
theorem tyx_ins (O : COk c T N sc X W) {H : Hp} {a C dx : Addr} {vs : List (PySem.Str × V)} {n : Nm} {t : Ty1} (h1 : H a = some (.ins C dx vs)) (hI : c.icls n = some C) (h : insT T n = some t) : TyX X.K H (.ref a) (tyU1 c t) ∧ tyKnown c t := by
  obtain ⟨rfl, l, hl⟩ := insT_of h
  have hC := O.icl n C hI (by rw [hl]; rfl)
  obtain ⟨I, _⟩ := O.isO n l hl C hC
  refine ⟨?_, C, hC⟩
  show TyX X.K H (.ref a) (.ref ((c.cls n).getD 0))
  rw [hC]
  exact .base (.ins h1 I.cl I.ha I.hn I.htk I.hm)
theorem tyx_rep (O : COk c T N sc X W) {Z : Addr → Prop} {H : Hp} {M : Mm} {v : V} {d : D} {a : Ty1} (ok : Cells (c.z Z) H M) (r : Rep (c.z Z) H M v d) (h : tyD T M d = some a) : TyX X.K H v (tyU1 c a) ∧ tyKnown c a := by
  cases r with
  | non => cases h; exact ⟨.base .non, by show _ ∈ btn; decide⟩
  | bl b => cases h; exact ⟨.base (.bl b), by show _ ∈ btn; decide⟩
  | int b => cases h; exact ⟨.base (.int b), by show _ ∈ btn; decide⟩
  | str b => cases h; exact ⟨.base (.str b), by show _ ∈ btn; decide⟩
  | lst h1 n z q => cases h; exact ⟨.base (.lst h1), by show _ ∈ btn; decide⟩
  | tup h1 n z q => cases h; exact ⟨.base (.tup h1), by show _ ∈ btn; decide⟩
  | roL h1 z q =>
    cases h
    refine ⟨?_, by show _ ∈ btn; decide⟩
    rcases h1 with ⟨h1 | ⟨o, h1⟩, _⟩ | h1
    · exact .base (.lst h1)
    · exact .base (.frz h1)
    · obtain ⟨o, its, n, h1, h2, _⟩ := h1
      exact .kList (by rw [O.K]; exact h1) h2
  | roT h1 z q =>
    cases h
    obtain ⟨o, its, n, h1, h2, _⟩ := h1
    exact ⟨.kTuple (by rw [O.K]; exact h1) h2, by show _ ∈ btn; decide⟩
  | dK h1 n z q =>
    cases h
    refine ⟨?_, by show _ ∈ btn; decide⟩
    rcases h1 with h1 | ⟨o, h1⟩
    · exact .base (.dK h1)
    · exact .fDict h1
  | dT h1 n z q => cases h
  | ins h1 n z k q => exact tyx_ins O h1 z h
  | exc a n fs => cases h
  | ref a =>
    cases e : M a with
    | none => simp [tyD, e] at h
    | some x => cases x with
      | lst ds =>
        simp [tyD, e] at h; subst h
        cases ok.at' _ _ e with
        | lst h1 z q => exact ⟨.base (.lst h1), by show _ ∈ btn; decide⟩
      | dct t ds =>
        simp [tyD, e] at h; subst h
        cases ok.at' _ _ e with
        | dK h1 z q => exact ⟨.base (.dK h1), by show _ ∈ btn; decide⟩
        | dT h1 z q => exact ⟨.base (.dT h1), by show _ ∈ btn; decide⟩
      | ins n fs =>
        simp [tyD, e] at h
        cases ok.at' _ _ e with
        | ins h1 z k q => exact tyx_ins O h1 z h
theorem kit_isT (O : COk c T N sc X W) {a t : Ty1} {b : Bool} (ha : tyKnown c a) (ht : bttB t = true) (ho : ownOk T [t] = true) (h : isT T a t = some b) : PySem.W.kitOne X.K (tyU1 c a) (tyU1 c t) = some b := by
  have own : ∀ {n}, ownOk T [.own n] = true → ∃ C, c.cls n = some C := fun {n} ho => by
    simp only [ownOk, List.all_cons, List.all_nil, Bool.and_true, decide_eq_true_eq] at ho
    exact Option.isSome_iff_exists.mp (O.own n ho)
  cases a with
  | bt x => cases t with
    | bt n =>
      have h : some (decide (x = n) || (decide (x = "bool") && decide (n = "int"))) = some b := h
      rw [← h]
      exact (kit_bb X.K x n).trans (kit_tab x ha n (by simpa [bttB] using ht))
    | own n =>
      obtain ⟨C, hC⟩ := own ho
      cases h
      show PySem.W.kitOne X.K (.type x) (.ref ((c.cls n).getD 0)) = _
      rw [hC]
      exact (O.isI n C hC).1 x ha
  | own m =>
    obtain ⟨C, hC⟩ := ha
    cases t with
    | bt n =>
      have h : (if n = "ValueError" then none else some false) = some b := h
      split at h
      · cases h
      · rename_i hn
        cases h
        show PySem.W.kitOne X.K (.ref ((c.cls m).getD 0)) (.type n) = _
        rw [hC]
        have := (O.isI m C hC).2 n (by simpa [bttB] using ht)
        simpa [hn] using this
    | own n =>
      obtain ⟨C', hC'⟩ := own ho
      unfold isT at h
      cases e : lk T.isn m with
      | none => simp [e] at h
      | some l =>
        simp [e] at h
        show PySem.W.kitOne X.K (.ref ((c.cls m).getD 0)) (.ref ((c.cls n).getD 0)) = _
        rw [hC, hC']
        rw [← h]
        exact (O.isO m l e C hC).2 n C' hC'
theorem mTys_btt : ∀ {ts : List Ty1} {es : List Expr}, mTys sc ts es = true → ∀ t ∈ ts, bttB t = true
  | [], _, _, t, h => by cases h
  | t :: ts, [], h, _, _ => by simp [mTys] at h
  | t :: ts, e :: es, h, u, hu => by
    simp only [mTys, Bool.and_eq_true] at h
    rcases List.mem_cons.mp hu with rfl | hu
    · cases e <;> simp_all [mTy1]
    · exact mTys_btt h.2 u hu
theorem ans_of {K : PySem.W.Frag} {u : Value} {f : Ty1 → Option Bool} : ∀ {ts : List Ty1}, (∀ t ∈ ts, ∀ b, f t = some b → PySem.W.kitOne K u (tyU1 c t) = some b) → Ans K u (ts.map (tyV1 c)) (ts.map (tyU1 c)) (ts.map f)
  | [], _ => .nil
  | t :: r, h => .cons (tyCls c t) (h t List.mem_cons_self) (ans_of fun t ht => h t (List.mem_cons_of_mem _ ht))
theorem ownOk_mem {ts : List Ty1} (h : ownOk T ts = true) {t : Ty1} (ht : t ∈ ts) : ownOk T [t] = true := by
  simp only [ownOk, List.all_eq_true, List.all_cons, List.all_nil, Bool.and_true] at h ⊢
  exact h t ht
end
end L3
set_option maxRecDepth 100000
set_option maxHeartbeats 4000000
namespace L3
open PySem L2
section
variable {X : Cx} {c : Cfg} {T : Tab} {N : List PySem.Str} {sc : Scope} {W : WX}
theorem isi_name : (("isinstance" : PySem.Str) == ("__debug__" : PySem.Str)) = false ∧ ("isinstance" : PySem.Str) ≠ "__name__" ∧ ("isinstance" : PySem.Str) ∈ bnames := by decide +kernel
theorem isA_of {M : Mm} {d : D} {ts : List Ty1} {b : Bool} (h : isA T M d ts = some b) : ∃ a, tyD T M d = some a ∧ anyT (isT T a) ts = some b := by
  unfold isA at h
  cases e : tyD T M d with
  | none => rw [e] at h; cases h
  | some a => rw [e] at h; exact ⟨a, rfl, h⟩
theorem snd_isi {x : SE} {tp : Bool} {ts : List Ty1} {y e' : Expr} {p pos : Pos} (hx : Snd c T N sc x y) (hm : mE N x sc y = true) (hg : glB sc "isinstance" = true) (ht : mTy sc tp ts e' = true) :
    Snd c T N sc (.isi x tp ts) (.Call (.Name "isinstance" p) [y, e'] [] pos) := fun X W O => by
  obtain ⟨b1, b2, b3⟩ := isi_name
  cases ho : ownOk T ts with
  | false =>
    refine snd_no O rfl fun env M Q E q => ?_
    have q : cnd (ownOk T ts = true) _ := q
    exact absurd (q.1.symm.trans ho) (by decide)
  | true =>
    obtain ⟨⟨tx, h1, h2⟩, _⟩ := hx X W O
    cases tp with
    | false =>
      have ht : mTys sc ts [e'] = true := ht
      cases ts with
      | nil => simp [mTys] at ht
      | cons t ts => cases ts with
        | cons _ _ => simp [mTys] at ht
        | nil =>
          have ht1 : mTy1 sc t e' = true := by simpa [mTys] using ht
          obtain ⟨p1, f⟩ := ty_pe O ht1 ho
          have pl : (backTo pos (starEach [e'] X.env)).any (·.1) = false := by rw [star_cons f]; rfl
          refine Snd.mk O rfl (pe_callB call_isi (gl_of O hg) (O.bi _ b3) PyProof.Rows.boot_isinstance (pa_cons h1 (pa_cons p1 pa_nil (star_cons f)) (star_cons (mE_fine hm))) b2 b1 (star_cons (mE_fine hm)) pl) fun Z σ H env M Q E k st q he hk => ?_
          refine h2 Z σ H env M _ E _ st q.2 he fun v H1 d M1 s1 ok1 r1 q1 => ?_
          obtain ⟨b, e1, q1⟩ := obn_of q1
          obtain ⟨a, e2, e3⟩ := isA_of e1
          obtain ⟨ty, kn⟩ := tyx_rep O ok1 r1 e2
          refine ⟨v, tyV1 c t, tyU1 c a, tyU1 c t, b, rfl, tyCls c t, ty, ?_, hk _ _ _ _ s1 ok1 (.bl b) q1⟩
          exact Ans.one (v := .non) (fun x hx => kit_isT O kn (mTys_btt ht t List.mem_cons_self) ho hx) e3
    | true =>
      cases e' with
      | Tuple es' kk p2 =>
        have ht : (mTys sc ts es' && decide (ts.length ≤ 1000)) = true := ht
        simp only [Bool.and_eq_true, decide_eq_true_eq] at ht
        obtain ⟨pa, pl0⟩ := tys_pa O ht.1 ho
        have pl : (backTo pos (starEach [.Tuple es' kk p2] X.env)).any (·.1) = false := rfl
        refine Snd.mk O rfl (pe_callB call_isiT (gl_of O hg) (O.bi _ b3) PyProof.Rows.boot_isinstance (pa_cons h1 (pa_cons (pe_tup pa) pa_nil rfl) (star_cons (mE_fine hm))) b2 b1 (star_cons (mE_fine hm)) pl) fun Z σ H env M Q E k st q he hk => ?_
        refine h2 Z σ H env M _ E _ st q.2 he fun v H1 d M1 s1 ok1 r1 q1 => ?_
        obtain ⟨b, e1, q1⟩ := obn_of q1
        obtain ⟨a, e2, e3⟩ := isA_of e1
        refine tTys_run ⟨by rw [List.length_map]; exact le1000 ht.2, fun tp htp => ?_⟩
        have s2 := stp_new (o := .tup (ts.map (tyV1 c))) ok1 htp
        have ok2 := cells_new (o := .tup (ts.map (tyV1 c))) ok1 htp
        obtain ⟨ty, kn⟩ := tyx_rep O ok2 (r1.stp s2) e2
        have an := ans_of (K := X.K) (u := tyU1 c a) (c := c) (f := isT T a) (ts := ts) fun t htm b hb => kit_isT O kn (mTys_btt ht.1 t htm) (ownOk_mem ho htm) hb
        exact ⟨v, tp, _, tyU1 c a, _, b, rfl, upd_same, an.pair, ty, an.any e3, hk _ _ _ _ (s1.trans s2) ok2 (.bl b) q1⟩
      | _ => simp [mTy] at ht
/-! ### a dict written out -/
/-- the pairs of a display with texts for keys -/
theorem disp_pps (O : COk c T N sc X W) {pos : Pos} : ∀ {ks : List PySem.Str} {kes : List (Option Expr)} {ss : List SE} {es : List Expr}, mKs ks kes = true → SndL c T N sc ss es → ks.length = ss.length → ∃ trs, PPs X pos kes es trs ∧ kes.length = es.length ∧ kes.all (·.isSome) = true ∧
    ∀ Z σ H env M (Q : List D → Mm → Prop) E (k : List (V × V) → Hp → Prop), Sta (c.z Z) σ H env M → wEs T ss env M Q E → Exc (c.z Z) W σ H M E →
      (∀ (vs : List V) H' ds M', Stp H M H' M' → Cells (c.z Z) H' M' → Reps (c.z Z) H' M' vs ds → ks.length = vs.length → Q ds M' → k ((ks.map V.str).zip vs) H') → tPairs trs σ H k
  | [], [], [], [], _, .nil, _ => ⟨_, pps_nil, rfl, rfl, fun Z σ H env M Q E k st q he hk => hk [] H [] M .refl st.cells .nil rfl q⟩
  | [], [], _ :: _, _ :: _, _, .cons _ _ _, h => by simp at h
  | [], _ :: _, _, _, h, _, _ => by simp [mKs] at h
  | _ :: _, [], _, _, h, _, _ => by simp [mKs] at h
  | _ :: _, _, [], [], _, .nil, h => by simp at h
  | y :: ks, ke :: kes, s :: ss, e :: es, h, .cons a ha r, hl => by
    cases ke with
    | none => simp [mKs] at h
    | some ke =>
      cases ke with
      | Constant v j p =>
        cases v with
        | str x =>
          simp only [mKs, Bool.and_eq_true, decide_eq_true_eq] at h
          obtain ⟨rfl, h⟩ := h
          obtain ⟨trs, t1, t2, t3, t4⟩ := disp_pps O (pos := pos) h r (by simpa using hl)
          obtain ⟨⟨t, h1, h2⟩, _⟩ := a X W O
          refine ⟨_, pps_cons pe_str h1 t1, by simp [t2], by simp [t3], fun Z σ H env M Q E k st q he hk => ?_⟩
          refine h2 Z σ H env M _ E _ st q he fun v H1 d M1 s1 ok1 r1 q1 => ?_
          refine t4 Z σ H1 env M1 _ E _ (st.stp s1 ok1) q1 (he.stp s1) fun vs H2 ds M2 s2 ok2 r2 z2 q2 => ?_
          exact hk (v :: vs) H2 (d :: ds) M2 (s1.trans s2) ok2 (.cons (r1.stp s2) r2) (by simp [z2]) q2
        | _ => simp [mKs] at h
      | _ => simp [mKs] at h
theorem put_new {kvs : List (Key × V)} {k : Key} {v : V} (h : ∀ p ∈ kvs, p.1 ≠ k) : L2.putK kvs k v = kvs ++ [(k, v)] := by
  have : (kvs.any fun kv => decide (kv.1 = k)) = false := by
    rw [List.any_eq_false]
    intro p hp
    simpa using h p hp
  unfold L2.putK
  rw [this]
  simp
theorem merge_new : ∀ {more kvs : List (Key × V)}, (more.map (·.1)).Nodup → (∀ p ∈ kvs, p.1 ∉ more.map (·.1)) → mergeK kvs more = kvs ++ more
  | [], kvs, _, _ => by simp [mergeK]
  | (a, b) :: r, kvs, nd, h => by
    simp only [List.map_cons, List.nodup_cons] at nd
    have e : L2.putK kvs a b = kvs ++ [(a, b)] := put_new fun p hp q => h p hp (by rw [q]; simp)
    show mergeK (L2.putK kvs a b) r = _
    rw [e, merge_new nd.2]
    · simp
    · intro p hp q
      rcases List.mem_append.mp hp with hp | hp
      · exact h p hp (by simp only [List.map_cons]; exact List.mem_cons_of_mem _ q)
      · simp at hp; subst hp; exact nd.1 q
theorem zip_keys : ∀ (ks : List PySem.Str) (vs : List V), ks.length = vs.length → ((ks.map Sum.inr).zip vs : List (Key × V)).map (fun kv => (kV kv.1, kv.2)) = (ks.map V.str).zip vs
  | [], [], _ => rfl
  | [], _ :: _, h => by simp at h
  | _ :: _, [], h => by simp at h
  | k :: ks, v :: vs, h => by
    simp only [List.map_cons, List.zip_cons_cons, zip_keys ks vs (by simpa using h)]
    rfl
theorem zip_fst : ∀ (ks : List PySem.Str) (vs : List V), ks.length = vs.length → ((ks.map Sum.inr).zip vs : List (Key × V)).map (·.1) = ks.map Sum.inr
  | [], [], _ => rfl
  | [], _ :: _, h => by simp at h
  | _ :: _, [], h => by simp at h
  | k :: ks, v :: vs, h => by simp only [List.map_cons, List.zip_cons_cons, zip_fst ks vs (by simpa using h)]
theorem repk_zip {H : Hp} {M : Mm} : ∀ (ks : List PySem.Str) {vs : List V} {ds : List D}, ks.length = vs.length → Reps c H M vs ds → RepK c H M ((ks.map Sum.inr).zip vs) ((ks.map D.str).zip ds)
  | [], [], _, _, .nil => .nil
  | [], _ :: _, _, h, _ => by simp at h
  | _ :: _, [], _, h, _ => by simp at h
  | k :: ks, v :: vs, _, h, .cons a r => .cons (k := .inr k) a (repk_zip ks (by simpa using h) r)
/-- a hidden place that comes to light -/
theorem Cells.unhide {H : Hp} {M : Mm} {Z Z' : Addr → Prop} (ok : Cells (c.z Z') H M) (h : ∀ a, Z a → Z' a) : Cells (c.z Z) H M :=
  ⟨fun a x e => (ok.at' a x e).zset (c := c.z Z') (Z := Z) fun b z => .inl (h b z), fun a z => ok.z a (h a z)⟩
theorem Cells.hide {H : Hp} {M : Mm} {Z : Addr → Prop} {p : Addr} {o : HO} (ok : Cells (c.z Z) H M) (hp : H p = none) (ho : Hid (upd H p o) p) : Cells (c.z fun a => Z a ∨ a = p) (upd H p o) M := by
  have okn := cells_new (o := o) ok hp
  refine ⟨fun b x e => ?_, fun b z => ?_⟩
  · obtain ⟨u, q⟩ := (ok.at' b x e).there
    have hb := ne_of_none q hp
    refine CellOk.view (H := H) (M := M) ?_ ?_ (upd_ne hb)
    · exact (stp_new ok hp).view
    · exact (ok.at' b x e).zset (c := c.z Z) fun a z => z.imp id fun e => by rw [e]; exact hp
  · rcases z with z | rfl
    · exact okn.z b z
    · exact ⟨ho, ok.fresh hp⟩
theorem Sta.hide {σ : St} {H : Hp} {env : Env} {M : Mm} {Z : Addr → Prop} {p : Addr} {o : HO} (st : Sta (c.z Z) σ H env M) (hp : H p = none) (ho : Hid (upd H p o) p) : Sta (c.z fun a => Z a ∨ a = p) σ (upd H p o) env M := by
  have ok := st.cells.hide hp ho
  have s := stp_new (o := o) st.cells hp
  have hz : ∀ a, (Z a ∨ a = p) → Z a ∨ H a = none := fun a z => z.imp id fun e => by rw [e]; exact hp
  refine ⟨ok, st.len, fun i d e => ?_, fun i a n dd e => ?_⟩
  · obtain ⟨v, h1, h2⟩ := st.env' i d e
    exact ⟨v, h1, (h2.zset (c := c.z Z) hz).view s.view⟩
  · obtain ⟨h1, fs, h2, h3⟩ := st.cur i a n dd e
    refine ⟨h1, fs, h2, h3.imp id ?_⟩
    rintro ⟨x, vs, e1, e2, e3, e4, ne⟩
    exact ⟨x, vs, e1, s.keep _ _ e2 e3, e3, (e4.zset (c := c.z Z) hz).view s.view, ne⟩
/-- a hidden place takes its content -/
theorem view_rev {H2 : Hp} {M2 M3 : Mm} {Z : Addr → Prop} {a : Addr} {o : HO} (hM : ∀ b, b ≠ a → M3 b = M2 b) : View (c.z fun b => Z b ∨ b = a) H2 M2 (upd H2 a o) M3 :=
  have ne : ∀ {b}, Fr (c.z fun b => Z b ∨ b = a) M2 b → b ≠ a := fun n e => n.2 (.inr e)
  have fr : ∀ {b}, Fr (c.z fun b => Z b ∨ b = a) M2 b → Fr (c.z fun b => Z b ∨ b = a) M3 b := fun n => ⟨by rw [hM _ (ne n)]; exact n.1, n.2⟩
  ⟨fun b vs h n => ⟨by rw [upd_ne (ne n)]; exact h, fr n⟩, fun b vs h n => ⟨by unfold Rd at h ⊢; rw [upd_ne (ne n)]; exact h, fr n⟩, fun b vs h n => ⟨by rw [upd_ne (ne n)]; exact h, fr n⟩, fun b vs h n => ⟨by unfold Rd at h ⊢; rw [upd_ne (ne n)]; exact h, fr n⟩, fun b vs h n => ⟨by unfold Rd at h ⊢; rw [upd_ne (ne n)]; exact h, fr n⟩, fun b C dx vs h n => ⟨by rw [upd_ne (ne n)]; exact h, fr n⟩⟩
theorem cells_rev {H2 : Hp} {M2 M3 : Mm} {Z : Addr → Prop} {a : Addr} {o : HO} (nz : ¬ Z a) (ok : Cells (c.z fun b => Z b ∨ b = a) H2 M2) (hM : ∀ b, b ≠ a → M3 b = M2 b)
    (ha : ∀ x, M3 a = some x → CellOk (c.z Z) (upd H2 a o) M3 a x) : Cells (c.z Z) (upd H2 a o) M3 := ⟨fun b x e => by
  by_cases hb : b = a
  · subst hb; exact ha x e
  · rw [hM b hb] at e
    exact ((ok.at' b x e).view (view_rev hM) (upd_ne hb)).zset (c := c.z fun b => Z b ∨ b = a) (Z := Z) fun b z => .inl (.inl z), fun b z => by
  have hb : b ≠ a := fun e => nz (e ▸ z)
  obtain ⟨h1, h2⟩ := ok.z b (.inl z)
  exact ⟨h1.eq (upd_ne hb), by rw [hM b hb]; exact h2⟩⟩
theorem stp_rev {H H2 : Hp} {M M2 M3 : Mm} {Z : Addr → Prop} {a : Addr} {o : HO} (ok : Cells (c.z Z) H M) (ha : H a = none) (s : Stp H M H2 M2) (hM : ∀ b, b ≠ a → M3 b = M2 b) : Stp H M (upd H2 a o) M3 :=
  ⟨fun b u h n => by rw [upd_ne (ne_of_none h ha)]; exact s.keep' b u h n, fun b h n => by
    have hb : b ≠ a := fun e => h (e ▸ ha)
    rw [hM b hb]; exact s.nn b h n⟩
/-- an exception's data under other hidden places -/
theorem XRep.unhide {H : Hp} {M : Mm} {cls : Value} {d : Option Addr} {x : XD} {Z Z' : Addr → Prop} (h : XRep (c.z Z') H M cls d x) (hz : ∀ a, Z a → Z' a) : XRep (c.z Z) H M cls d x := by
  obtain ⟨C, h1, h2, h3⟩ := h
  refine ⟨C, h1, h2, h3.imp id ?_⟩
  rintro ⟨a, vs, e1, e2, e3, e4, ne⟩
  exact ⟨a, vs, e1, e2, e3, e4.zset (c := c.z Z') (Z := Z) (fun b z => .inl (hz b z)), ne⟩
theorem Exc.hide {σ : St} {H H' : Hp} {M M' : Mm} {E : QX} {Z Z' : Addr → Prop} (h : Exc (c.z Z) W σ H M E) (s : Stp H M H' M') (hz : ∀ a, Z a → Z' a) : Exc (c.z Z') W σ H' M' E := fun cls d H2 x M2 s2 ok r e =>
  h cls d H2 x M2 (s.trans s2) (ok.unhide hz) (r.unhide hz) e
theorem snd_dct {m : Bool} {ks : List PySem.Str} {ss : List SE} {kes : List (Option Expr)} {es : List Expr} {p : Pos} (h : SndL c T N sc ss es) (hk : mKs ks kes = true) (nd : ks.Nodup) (h0 : 0 < ks.length) (h15 : ks.length ≤ 15) (hl : ks.length = ss.length) :
    Snd c T N sc (.dct m ks ss) (.Dict kes es p) := fun X W O => by
  obtain ⟨trs, t1, t2, t3, t4⟩ := disp_pps O (pos := p) hk h hl
  have lks : ∀ {ks : List PySem.Str} {kes : List (Option Expr)}, mKs ks kes = true → ks.length = kes.length := by
    intro ks
    induction ks with
    | nil => intro kes h; cases kes with
      | nil => rfl
      | cons a r => cases a <;> simp [mKs] at h
    | cons k r ih => intro kes h; cases kes with
      | nil => simp [mKs] at h
      | cons a r' => cases a with
        | none => simp [mKs] at h
        | some e => cases e with
          | Constant v j p => cases v with
            | str y => simp only [mKs, Bool.and_eq_true] at h; simp [ih h.2]
            | _ => simp [mKs] at h
          | _ => simp [mKs] at h
  have hlk := lks hk
  have hne : kes ≠ [] := fun e => by rw [e] at hlk; simp at hlk; rw [hlk] at h0; simp at h0
  refine Snd.mk O rfl (pe_disp t1 t3 t2 hne (by rw [← hlk]; exact h15)) fun Z σ H env M Q E k st q he hk' => fun a ha => ?_
  have hid : Hid (upd H a (.dK [])) a := .inr ⟨_, upd_same⟩
  have s0 := stp_new (o := .dK []) st.cells ha
  refine t4 (fun b => Z b ∨ b = a) σ (upd H a (.dK [])) env M _ E _ (st.hide ha hid) q (he.hide s0 fun _ z => .inl z) fun vs H2 ds M2 s2 ok2 r2 hv q2 => ?_
  have eA : H2 a = some (.dK []) := keep_hid s2 ok2 (.inr rfl) upd_same (st.cells.fresh ha)
  refine ⟨eA, (ks.map Sum.inr).zip vs, (zip_keys ks vs hv).symm, by simp; omega, ?_⟩
  rw [merge_new (by rw [zip_fst ks vs hv]; exact List.Pairwise.map _ (fun a b h q => h (Sum.inr.inj q)) nd) (by simp), List.nil_append]
  have nz : ¬ Z a := fun z => by
    obtain ⟨o, h⟩ := (st.cells.z a z).1.there
    rw [ha] at h; cases h
  have zl : ((ks.map Sum.inr).zip vs : List (Key × V)).length ≤ sizeLine := by
    rw [List.length_zip, List.length_map]
    exact le1000 (by omega)
  cases m with
  | true =>
    have s3 := stp_rev (o := .dK ((ks.map Sum.inr).zip vs)) (M3 := up M2 a (.dct false ((ks.map D.str).zip ds))) st.cells ha (s0.trans s2) fun b hb => up_ne hb
    have vw := view_rev (c := c) (H2 := H2) (Z := Z) (a := a) (o := .dK ((ks.map Sum.inr).zip vs)) (M2 := M2) (M3 := up M2 a (.dct false ((ks.map D.str).zip ds))) fun b hb => up_ne hb
    have r3 := ((repk_zip ks hv r2).view vw).zset (c := c.z fun b => Z b ∨ b = a) (Z := Z) fun b z => .inl (.inl z)
    exact hk' _ _ _ _ s3 (cells_rev nz ok2 (fun b hb => up_ne hb) fun x e => by rw [up_same] at e; cases e; exact .dK upd_same zl r3) (.ref a) (q2 a (ok2.z a (.inr rfl)).2)
  | false =>
    have hM2 : M2 a = none := (ok2.z a (.inr rfl)).2
    have s3 := stp_rev (o := .dK ((ks.map Sum.inr).zip vs)) (M3 := M2) st.cells ha (s0.trans s2) fun b hb => rfl
    have vw := view_rev (c := c) (H2 := H2) (Z := Z) (a := a) (o := .dK ((ks.map Sum.inr).zip vs)) (M2 := M2) (M3 := M2) fun b hb => rfl
    have r3 := ((repk_zip ks hv r2).view vw).zset (c := c.z fun b => Z b ∨ b = a) (Z := Z) fun b z => .inl (.inl z)
    exact hk' _ _ _ _ s3 (cells_rev nz ok2 (fun b hb => rfl) fun x e => by rw [hM2] at e; cases e) (.dK (.inl upd_same) ⟨hM2, nz⟩ zl r3) q2
theorem snd_dct1 {m : Bool} {s s' : SE} {e f : Expr} {p : Pos} (hs : Snd c T N sc s e) (hs' : Snd c T N sc s' f) : Snd c T N sc (.dct1 m s s') (.Dict [some e] [f] p) := fun X W O => by
  obtain ⟨⟨tk, k1, k2⟩, _⟩ := hs X W O
  obtain ⟨⟨tv, v1, v2⟩, _⟩ := hs' X W O
  refine Snd.mk O rfl (pe_disp (pps_cons k1 v1 pps_nil) rfl rfl (fun z => nomatch z) (by show 1 ≤ 15; decide)) fun Z σ H env M Q E k st q he hk' => fun a ha => ?_
  have hid : Hid (upd H a (.dK [])) a := .inr ⟨_, upd_same⟩
  have s0 := stp_new (o := .dK []) st.cells ha
  have st0 := st.hide ha hid
  have he0 : Exc (c.z fun b => Z b ∨ b = a) W σ (upd H a (.dK [])) M E := he.hide s0 fun _ z => .inl z
  refine k2 (fun b => Z b ∨ b = a) σ (upd H a (.dK [])) env M _ E _ st0 q he0 fun x H1 dx M1 s1 ok1 r1 q1 => ?_
  refine v2 (fun b => Z b ∨ b = a) σ H1 env M1 _ E _ (st0.stp s1 ok1) q1 (he0.stp s1) fun y H2 dy M2 s2 ok2 r2 q2 => ?_
  obtain ⟨hkey, q2⟩ := q2
  have r1' := r1.stp s2
  have s12 := s1.trans s2
  have eA : H2 a = some (.dK []) := keep_hid s12 ok2 (.inr rfl) upd_same (st.cells.fresh ha)
  obtain ⟨ky, rfl, rfl⟩ := key_flat r1' hkey
  refine ⟨eA, [(ky, y)], rfl, by simp, ?_⟩
  have em : mergeK [] [(ky, y)] = [(ky, y)] := by rw [merge_new (by simp) (by simp), List.nil_append]
  rw [em]
  have nz : ¬ Z a := fun z => by
    obtain ⟨o, h⟩ := (st.cells.z a z).1.there
    rw [ha] at h; cases h
  have zl : ([(ky, y)] : List (Key × V)).length ≤ sizeLine := le1000 (by simp)
  have rk : RepK (c.z fun b => Z b ∨ b = a) H2 M2 [(ky, y)] [(keyD ky, dy)] := .cons r2 .nil
  cases m with
  | true =>
    have s3 := stp_rev (o := .dK [(ky, y)]) (M3 := up M2 a (.dct false [(keyD ky, dy)])) st.cells ha (s0.trans s12) fun b hb => up_ne hb
    have vw := view_rev (c := c) (H2 := H2) (Z := Z) (a := a) (o := .dK [(ky, y)]) (M2 := M2) (M3 := up M2 a (.dct false [(keyD ky, dy)])) fun b hb => up_ne hb
    have r3 := (rk.view vw).zset (c := c.z fun b => Z b ∨ b = a) (Z := Z) fun b z => .inl (.inl z)
    exact hk' _ _ _ _ s3 (cells_rev nz ok2 (fun b hb => up_ne hb) fun x e => by rw [up_same] at e; cases e; exact .dK upd_same zl r3) (.ref a) (q2 a (ok2.z a (.inr rfl)).2)
  | false =>
    have hM2 : M2 a = none := (ok2.z a (.inr rfl)).2
    have s3 := stp_rev (o := .dK [(ky, y)]) (M3 := M2) st.cells ha (s0.trans s12) fun b hb => rfl
    have vw := view_rev (c := c) (H2 := H2) (Z := Z) (a := a) (o := .dK [(ky, y)]) (M2 := M2) (M3 := M2) fun b hb => rfl
    have r3 := (rk.view vw).zset (c := c.z fun b => Z b ∨ b = a) (Z := Z) fun b z => .inl (.inl z)
    exact hk' _ _ _ _ s3 (cells_rev nz ok2 (fun b hb => rfl) fun x e => by rw [hM2] at e; cases e) (.dK (.inl upd_same) ⟨hM2, nz⟩ zl r3) q2
/-! ### len(set(..)) -/
theorem nubL_mem {α : Type} [DecidableEq α] : ∀ (xs : List α) (x : α), x ∈ nubL xs ↔ x ∈ xs
  | [], _ => Iff.rfl
  | y :: r, x => by
    unfold nubL
    split
    · rename_i h
      rw [nubL_mem r x, List.mem_cons]
      exact ⟨.inr, fun q => q.elim (fun e => e ▸ h) id⟩
    · rw [List.mem_cons, List.mem_cons, nubL_mem r x]
theorem nubL_nd {α : Type} [DecidableEq α] : ∀ (xs : List α), (nubL xs).Nodup
  | [] => List.nodup_nil
  | y :: r => by
    unfold nubL
    split
    · exact nubL_nd r
    · rename_i h
      exact List.nodup_cons.mpr ⟨fun q => h ((nubL_mem r y).mp q), nubL_nd r⟩
theorem len_same {α : Type} [DecidableEq α] {xs ys : List α} (h1 : xs.Nodup) (h2 : ys.Nodup) (h : ∀ x, x ∈ xs ↔ x ∈ ys) : xs.length = ys.length := ((List.perm_ext_iff_of_nodup h1 h2).mpr h).length_eq
theorem prs_addr {H : Hp} {M : Mm} : ∀ {vs : List V} {ds : List D} {ps : List (Int × Int)}, Reps c H M vs ds → prs ds = some ps → ∃ ks : List (Addr × List Int), vs = ks.map (fun p => V.ref p.1) ∧ ks.map (·.2) = ps.map (fun p => [p.1, p.2]) ∧ ∀ p ∈ ks, H p.1 = some (.tup (p.2.map V.int))
  | _, _, _, .nil, h => by cases h; exact ⟨[], rfl, rfl, fun _ h => nomatch h⟩
  | _, _, _, .cons (d := d) (ds := ds) (v := v) a r, h => by
    unfold prs at h
    split at h
    · rename_i heq; cases heq
    · rename_i i j r' heq
      cases heq
      split at h
      · rename_i qs e
        cases h
        obtain ⟨ks, e1, e2, e3⟩ := prs_addr r e
        cases a with
        | tup ha n z q =>
          rename_i t ws
          obtain ⟨w1, w2, rfl, r1, r2⟩ := reps2 q
          rw [rep_int r1, rep_int r2] at ha
          refine ⟨(t, [i, j]) :: ks, by rw [e1]; rfl, by rw [List.map_cons, e2]; rfl, fun p hp => ?_⟩
          rcases List.mem_cons.mp hp with rfl | hp
          · exact ha
          · exact e3 p hp
      · cases h
    · cases h
theorem snd_lset {a : SE} {e : Expr} {p p2 q pos : Pos} (hh : c.hot = false) (ha : Snd c T N sc a e) (hm : mE N a sc e = true) (h1 : glB sc "len" = true) (h2 : glB sc "set" = true) : Snd c T N sc (.lset a) (.Call (.Name "len" p) [.Call (.Name "set" p2) [e] [] q] [] pos) := fun X W O => by
  obtain ⟨⟨ta, a1, a2⟩, _⟩ := ha X W O
  have n1 : ("len" : PySem.Str) ∈ bnames := by decide +kernel
  have n2 : ("set" : PySem.Str) ∈ bnames := by decide +kernel
  have hu := O.hu
  refine Snd.mk O rfl (pe_lenSetT (O.calm hh).1 (by omega) (gl_of O h1) (O.bi _ n1) (gl_of O h2) (O.bi _ n2) a1 (star_cons (mE_fine hm))) fun Z σ H env M Q E k st q he hk => ?_
  refine a2 Z σ H env M _ E _ st q he fun x H1 dx M1 s1 ok1 r1 q1 => ?_
  have seq : (obn (lstD M1 dx) fun ds => obn (prs ds) fun ps => cnd (ps.length < 64) (Q (.int ((nubL ps).length : Nat)) M1)) → rLenSetT X.K x H1 k := fun h => by
    obtain ⟨ds, e1, h⟩ := obn_of h
    obtain ⟨ps, e2, hl, h⟩ := obn_of h
    obtain ⟨l, vs, rfl, g1, _, g2⟩ := rep_lst ok1 r1 e1
    obtain ⟨ks, f1, f2, f3⟩ := prs_addr g2 e2
    have hkl : ks.length = ps.length := by have := congrArg List.length f2; simpa using this
    refine .inl ⟨l, ks, rfl, by rw [← f1]; exact SqL.of g1, fun p hp => SqT.of (f3 p hp), by omega, fun L nd m1 m2 => ?_⟩
    have hL : L.length = (nubL ps).length := by
      have e3 : L.length = ((nubL ps).map fun p => [p.1, p.2]).length := by
        refine len_same nd ?_ fun x => ?_
        · refine (nubL_nd ps).map _ ?_
          intro a b hab e
          exact hab (by obtain ⟨a1, a2⟩ := a; obtain ⟨b1, b2⟩ := b; simp at e; simp [e])
        · constructor
          · intro hx
            have := m1 x hx
            rw [f2] at this
            obtain ⟨p, hp, rfl⟩ := List.mem_map.mp this
            exact List.mem_map_of_mem (f := fun p : Int × Int => [p.1, p.2]) ((nubL_mem ps p).mpr hp)
          · intro hx
            obtain ⟨p, hp, rfl⟩ := List.mem_map.mp hx
            refine m2 _ ?_
            rw [f2]
            exact List.mem_map_of_mem (f := fun p : Int × Int => [p.1, p.2]) ((nubL_mem ps p).mp hp)
      rw [e3, List.length_map]
    rw [hL]
    exact hk _ _ _ _ s1 ok1 (.int _) h
  cases dx with
  | tup ds =>
    obtain ⟨is, e1, hl, h⟩ := obn_of q1
    cases r1 with
    | tup g n z qq =>
      have hv := intsD_rep qq e1
      subst hv
      refine .inr ⟨_, is, rfl, SqT.of g, by omega, fun L nd mm => ?_⟩
      rw [len_same nd (nubL_nd is) fun x => by rw [mm x, nubL_mem]]
      exact hk _ _ _ _ s1 ok1 (.int _) h
  | _ => exact seq q1
end
end L3
set_option maxRecDepth 100000
set_option maxHeartbeats 4000000
namespace L3
open PySem L2
section
variable {X : Cx} {c : Cfg} {T : Tab} {N : List PySem.Str} {sc : Scope} {W : WX}
/-! ### readings that are the same in each context -/
def rdE (c : Cfg) (W : WX) (w : WE) : TE := fun σ H k => ∃ Z env M Q E, Sta (c.z Z) σ H env M ∧ w env M Q E ∧ Exc (c.z Z) W σ H M E ∧ Cont (c.z Z) H M Q k
def rdT (c : Cfg) (W : WX) (w : WE) : TT := fun σ H k => ∃ Z env M, ∃ (Q : Bool → Mm → Prop), ∃ E, Sta (c.z Z) σ H env M ∧ w env M (fun d M' => obn (truD M' d) fun b => Q b M') E ∧ Exc (c.z Z) W σ H M E ∧ ContB (c.z Z) H M Q k
theorem Snd.pe {s : SE} {e : Expr} (h : Snd c T N sc s e) (O : COk c T N sc X W) : PE X e (rdE c W (wE T s)) := by
  obtain ⟨⟨t, h1, h2⟩, _⟩ := h X W O
  exact ⟨fun pins s σ H Q I ⟨Z, env, M, Qd, E, st, w, he, hk⟩ => h1.run pins s σ H Q I (h2 Z σ H env M Qd E Q st w he hk)⟩
theorem Snd.pt {s : SE} {e : Expr} (h : Snd c T N sc s e) (O : COk c T N sc X W) : PT X e (rdT c W (wE T s)) := by
  obtain ⟨_, t, h1, h2⟩ := h X W O
  exact ⟨fun pins s σ H Q I ⟨Z, env, M, Qd, E, st, w, he, hk⟩ => h1.run pins s σ H Q I (h2 Z σ H env M Qd E Q st w he hk)⟩
theorem rdE_sat {w : WE} : SatE c W (rdE c W w) w := fun Z σ H env M Q E k st q he hk => ⟨Z, env, M, Q, E, st, q, he, hk⟩
theorem rdT_sat {w : WE} : SatT c W (rdT c W w) w := fun Z σ H env M Q E k st q he hk => ⟨Z, env, M, Q, E, st, q, he, hk⟩
/-! ### what is walked -/
def ItS (c : Cfg) (J : It) (H : Hp) (M : Mm) (items : List D) (chk : Mm → Prop) : Prop :=
  ∀ H' M', Stp H M H' M' → Cells c H' M' → chk M' →
    (∀ i d, items[i]? = some d → J.go i H' ∧ ∀ x H'', J.yld i H' x H'' → Stp H' M' H'' M' ∧ Cells c H'' M' ∧ Rep c H'' M' x d) ∧ ∀ i, items.length ≤ i → J.stop i H'
def SatI (c : Cfg) (T : Tab) (W : WX) (t : TI) (k : ItK) (ss : List SE) : Prop := ∀ Z σ H env M (Q : List D → List D → Mm → Prop) E R, Sta (c.z Z) σ H env M →
  wEs T ss env M (fun ds M1 => obn (itD k ds M1) fun items => Q ds items M1) E → Exc (c.z Z) W σ H M E →
  (∀ J H1 M1 ds items, Stp H M H1 M1 → Cells (c.z Z) H1 M1 → itD k ds M1 = some items → Q ds items M1 →
    (∀ Z', (∀ a, Z' a → Z a ∨ H1 a = none) → ItS (c.z Z') J H1 M1 items (fun M' => itD k ds M' = some items)) → R J H1) → t σ H R
/-- a list or a tuple -/
def iSeq (K : PySem.W.Frag) (tl : TE) : TI := fun σ H R => tl σ H fun x H1 => ∃ a, x = .ref a ∧ (((∃ xs, SqL K H1 a xs) ∧ R (Itl K a) H1) ∨ ((∃ xs, SqT K H1 a xs) ∧ R (Itt K a) H1))
theorem pi_seq {tg l : Expr} {tl : TE} (hl : PE X l tl) : PI X tg l (iSeq X.K tl) := by
  refine ⟨fun pins s σ H R I h => ?_⟩
  refine thn (hl.run pins s σ H _ I h) fun v s1 ⟨x, H1, I1, r1, q1⟩ => ?_
  obtain ⟨a, rfl, q1⟩ := q1
  cases r1
  have fr : ∀ b ∈ [s1.heap.objs.size], FpOk X pins H1 b := fun b hb => by
    obtain rfl : b = s1.heap.objs.size := by simpa using hb
    exact I1.fpOk (Nat.le_refl _) (I1.hok.fresh (Nat.le_refl _))
  rcases q1 with ⟨⟨xs, hq⟩, q⟩ | ⟨⟨xs, hq⟩, q⟩
  · obtain ⟨its, rv, p, hz⟩ := I1.list hq
    exact wpAny_pyIter_list p.isList ⟨s1.heap.objs.size, [s1.heap.objs.size], _, _, H1, rfl, I1.kept (t' := s1.toks) fun b o e => Heap.get?_push_of_some _ e, turn_list a _, ⟨_, Heap.get?_push_size _ rfl, rfl, rfl⟩, fr, q⟩
  · obtain ⟨its, rv, p, hz⟩ := I1.tuple hq
    exact wpAny_pyIter_tuple (show s1.heap.IsTuple a its.toArray from p) ⟨s1.heap.objs.size, [s1.heap.objs.size], _, _, H1, rfl, I1.kept (t' := s1.toks) fun b o e => Heap.get?_push_of_some _ e, turn_tuple a _, ⟨_, Heap.get?_push_size _ rfl, rfl, rfl⟩, fr, q⟩
def isTupD : D → Bool
  | .tup _ => true
  | .ro t _ => t
  | _ => false
theorem rep_seqK {H : Hp} {M : Mm} (ok : Cells c H M) {v : V} {d : D} {ds : List D} (r : Rep c H M v d) (h : seqD M d = some ds) :
    ∃ a vs, v = .ref a ∧ (isTupD d = false → SqL c.K H a vs) ∧ (isTupD d = true → SqT c.K H a vs) ∧ vs.length ≤ sizeLine ∧ Reps c H M vs ds := by
  cases r with
  | lst h1 n z q => cases h; exact ⟨_, _, rfl, fun _ => SqL.of h1, (fun e => nomatch e), z, q⟩
  | tup h1 n z q => cases h; exact ⟨_, _, rfl, (fun e => nomatch e), fun _ => SqT.of h1, z, q⟩
  | roL h1 z q => cases h; exact ⟨_, _, rfl, fun _ => KL.sq h1, (fun e => nomatch e), z, q⟩
  | roT h1 z q => cases h; exact ⟨_, _, rfl, (fun e => nomatch e), fun _ => .inr h1, z, q⟩
  | ref a =>
    cases e : M a with
    | none => simp [seqD, e] at h
    | some x =>
      cases x with
      | lst es =>
        simp [seqD, e] at h; subst h
        cases ok.at' a _ e with
        | lst h1 z q => exact ⟨a, _, rfl, fun _ => SqL.of h1, (fun e => nomatch e), z, q⟩
      | dct t k => simp [seqD, e] at h
      | ins n f => simp [seqD, e] at h
  | _ => cases h
theorem get_len {α : Type} {xs : List α} {i : Nat} {x : α} (h : xs[i]? = some x) : i < xs.length := by
  rcases Nat.lt_or_ge i xs.length with h' | h'
  · exact h'
  · rw [List.getElem?_eq_none h'] at h; cases h
theorem it_seqL {K : PySem.W.Frag} (hK : K = c.K) {H : Hp} {M : Mm} {a : Addr} {d : D} {items : List D} (r : Rep c H M (.ref a) d) (ht : isTupD d = false) :
    ItS c (Itl K a) H M items (fun M' => seqD M' d = some items) := fun H' M' s ok ch => by
  subst hK
  obtain ⟨b, vs, e, h1, _, _, q⟩ := rep_seqK ok (r.stp s) ch
  cases e
  have hs := h1 ht
  refine ⟨fun i d' hi => ?_, fun i hi => ⟨vs, hs, by rw [q.len]; exact hi⟩⟩
  obtain ⟨v, g1, g2⟩ := q.get hi
  refine ⟨⟨vs, v, hs, g1⟩, fun x H'' y => ?_⟩
  obtain ⟨rfl, y⟩ := y
  have := y vs hs
  rw [g1] at this; cases this
  exact ⟨.refl, ok, g2⟩
theorem it_seqT {K : PySem.W.Frag} (hK : K = c.K) {H : Hp} {M : Mm} {a : Addr} {d : D} {items : List D} (r : Rep c H M (.ref a) d) (ht : isTupD d = true) :
    ItS c (Itt K a) H M items (fun M' => seqD M' d = some items) := fun H' M' s ok ch => by
  subst hK
  obtain ⟨b, vs, e, _, h1, _, q⟩ := rep_seqK ok (r.stp s) ch
  cases e
  have hs := h1 ht
  refine ⟨fun i d' hi => ?_, fun i hi => ⟨vs, hs, by rw [q.len]; exact hi⟩⟩
  obtain ⟨v, g1, g2⟩ := q.get hi
  refine ⟨⟨vs, v, hs, g1⟩, fun x H'' y => ?_⟩
  obtain ⟨rfl, y⟩ := y
  have := y vs hs
  rw [g1] at this; cases this
  exact ⟨.refl, ok, g2⟩
theorem it_rng {H : Hp} {M : Mm} {lo : Int} {n : Nat} {chk : Mm → Prop} : ItS c (Itr lo n) H M (rngL lo n) chk := fun H' M' s ok ch => by
  refine ⟨fun i d' hi => ?_, fun i hi => by show n ≤ i; simpa [rngL] using hi⟩
  have hl : i < n := by simpa [rngL] using get_len hi
  refine ⟨hl, fun x H'' y => ?_⟩
  obtain ⟨rfl, rfl⟩ := y
  have e : d' = .int (lo + i) := by simpa [rngL, hl] using hi.symm
  subst e
  exact ⟨.refl, ok, .int _⟩
theorem enum_get : ∀ {ds : List D} {n i : Nat} {d : D}, (enumFrom n ds)[i]? = some d → ∃ e, ds[i]? = some e ∧ d = .tup [.int ((n + i : Nat) : Int), e]
  | [], _, _, _, h => by simp [enumFrom] at h
  | e :: r, n, 0, d, h => by simp [enumFrom] at h; exact ⟨e, rfl, h.symm⟩
  | e :: r, n, i + 1, d, h => by
    obtain ⟨e', h1, h2⟩ := enum_get (ds := r) (n := n + 1) (i := i) (d := d) (by simpa [enumFrom] using h)
    exact ⟨e', by simpa using h1, by rw [h2, show n + 1 + i = n + (i + 1) by omega]⟩
theorem enum_len : ∀ {ds : List D} {n : Nat}, (enumFrom n ds).length = ds.length
  | [], _ => rfl
  | e :: r, n => by simp [enumFrom, enum_len (ds := r)]
theorem zip_get : ∀ {ds es : List D} {i : Nat} {d : D}, (zipL ds es)[i]? = some d → ∃ x y, ds[i]? = some x ∧ es[i]? = some y ∧ d = .tup [x, y]
  | [], _, _, _, h => by simp [zipL] at h
  | _ :: _, [], _, _, h => by simp [zipL] at h
  | x :: r, y :: t, 0, d, h => by simp [zipL] at h; exact ⟨x, y, rfl, rfl, h.symm⟩
  | x :: r, y :: t, i + 1, d, h => by
    obtain ⟨x', y', h1, h2, h3⟩ := zip_get (ds := r) (es := t) (i := i) (d := d) (by simpa [zipL] using h)
    exact ⟨x', y', by simpa using h1, by simpa using h2, h3⟩
theorem zip_len : ∀ {ds es : List D}, (zipL ds es).length = min ds.length es.length
  | [], _ => by simp [zipL]
  | _ :: _, [] => by simp [zipL]
  | x :: r, y :: t => by simp only [zipL, List.length_cons, zip_len (ds := r) (es := t)]; omega
theorem pair_new {H : Hp} {M : Mm} {p : Addr} {v w : V} {d e : D} (ok : Cells c H M) (hp : H p = none) (r1 : Rep c H M v d) (r2 : Rep c H M w e) :
    Stp H M (upd H p (.tup [v, w])) M ∧ Cells c (upd H p (.tup [v, w])) M ∧ Rep c (upd H p (.tup [v, w])) M (.ref p) (.tup [d, e]) := by
  have s := stp_new (o := .tup [v, w]) ok hp
  exact ⟨s, cells_new ok hp, .tup upd_same (ok.free hp) (le1000 (by show 2 ≤ 1000; decide)) (.cons (r1.stp s) (.cons (r2.stp s) .nil))⟩
theorem it_enum {K : PySem.W.Frag} (hK : K = c.K) {H : Hp} {M : Mm} {a : Addr} {d : D} {ds : List D} (r : Rep c H M (.ref a) d) :
    ItS c (Ite K a) H M (enumFrom 0 ds) (fun M' => ∃ es, lstD M' d = some es ∧ enumFrom 0 es = enumFrom 0 ds) := fun H' M' s ok ⟨es, ch, ee⟩ => by
  subst hK
  obtain ⟨b, vs, e, h1, _, q⟩ := rep_lst ok (r.stp s) ch
  cases e
  have hs : SqL c.K H' a vs := SqL.of h1
  rw [← ee]
  refine ⟨fun i d' hi => ?_, fun i hi => ⟨vs, hs, by rw [q.len]; rw [enum_len] at hi; exact hi⟩⟩
  obtain ⟨e, g0, rfl⟩ := enum_get hi
  obtain ⟨v, g1, g2⟩ := q.get g0
  refine ⟨⟨vs, v, hs, g1⟩, fun x H'' y => ?_⟩
  obtain ⟨p, x', rfl, hp, rfl, y⟩ := y
  have := y vs hs
  rw [g1] at this; cases this
  rw [Nat.zero_add]
  exact pair_new ok hp (.int _) g2
theorem it_zip {K : PySem.W.Frag} (hK : K = c.K) {H : Hp} {M : Mm} {a b : Addr} {d d2 : D} {items : List D} (r : Rep c H M (.ref a) d) (r2 : Rep c H M (.ref b) d2) :
    ItS c (Itz K a b) H M items (fun M' => ∃ ds es, lstD M' d = some ds ∧ lstD M' d2 = some es ∧ zipL ds es = items) := fun H' M' s ok ⟨ds, es, ch, ch2, ee⟩ => by
  subst hK
  obtain ⟨a', vs, e, h1, _, q⟩ := rep_lst ok (r.stp s) ch
  cases e
  obtain ⟨b', ws, e, h2, _, q2⟩ := rep_lst ok (r2.stp s) ch2
  cases e
  have hs : SqL c.K H' a vs := SqL.of h1
  have hs2 : SqL c.K H' b ws := SqL.of h2
  rw [← ee]
  refine ⟨fun i d' hi => ?_, fun i hi => ⟨vs, ws, hs, hs2, by rw [q.len, q2.len]; rw [zip_len] at hi; omega⟩⟩
  obtain ⟨x, y, g0, k0, rfl⟩ := zip_get hi
  obtain ⟨v, g1, g2⟩ := q.get g0
  obtain ⟨w, k1, k2⟩ := q2.get k0
  refine ⟨⟨vs, ws, v, w, hs, hs2, g1, k1⟩, fun x H'' y => ?_⟩
  obtain ⟨p, x', y', rfl, hp, rfl, y1, y2⟩ := y
  have := y1 vs hs
  rw [g1] at this; cases this
  have := y2 ws hs2
  rw [k1] at this; cases this
  exact pair_new ok hp g2 k2
theorem it_zipM {K : PySem.W.Frag} (hK : K = c.K) {H : Hp} {M : Mm} {a b : Addr} {d : D} {es items : List D} (r : Rep c H M (.ref a) d) (r2 : Rep c H M (.ref b) (.tup es)) :
    ItS c (ItzM K a b) H M items (fun M' => ∃ ds, lstD M' d = some ds ∧ zipL ds es = items) := fun H' M' s ok ⟨ds, ch, ee⟩ => by
  subst hK
  obtain ⟨a', vs, e, h1, _, q⟩ := rep_lst ok (r.stp s) ch
  cases e
  have r2' := r2.stp s
  cases r2' with
  | tup h2 n2 z2 q2 =>
    rename_i ws
    have hs : SqL c.K H' a vs := SqL.of h1
    have hs2 : SqT c.K H' b ws := SqT.of h2
    rw [← ee]
    refine ⟨fun i d' hi => ?_, fun i hi => ⟨vs, ws, hs, hs2, by rw [q.len, q2.len]; rw [zip_len] at hi; omega⟩⟩
    obtain ⟨x, y, g0, k0, rfl⟩ := zip_get hi
    obtain ⟨v, g1, g2⟩ := q.get g0
    obtain ⟨w, k1, k2⟩ := q2.get k0
    refine ⟨⟨vs, ws, v, w, hs, hs2, g1, k1⟩, fun x H'' y => ?_⟩
    obtain ⟨p, x', y', rfl, hp, rfl, y1, y2⟩ := y
    have := y1 vs hs
    rw [g1] at this; cases this
    have := y2 ws hs2
    rw [k1] at this; cases this
    exact pair_new ok hp g2 k2
end
end L3
set_option maxRecDepth 100000
set_option maxHeartbeats 4000000
namespace L3
open PySem L2
/-! ### dicts that stand, walked: locked first; texts; lists from their end -/
def lockE (td : TE) : TE := fun σ H Q => td σ H fun x H1 => ∃ d u, x = .ref d ∧ Dc u ∧ ((H1 d = some u ∧ ∀ ob, Q x (upd H1 d (.frz ob u))) ∨ ∃ ob, H1 d = some (.frz ob u) ∧ Q x H1)
section
variable {X : Cx} {c : Cfg} {T : Tab} {N : List PySem.Str} {sc : Scope} {W : WX}
theorem Dc.mut {u : HO} (h : Dc u) : Mut (some u) := by
  rcases h with ⟨_, rfl⟩ | ⟨_, rfl⟩ <;> exact True.intro
theorem pe_lockx {e : Expr} {td : TE} (h : PE X e td) : PE X e (lockE td) := by
  refine ⟨fun pins s σ H Q I hw => ?_⟩
  refine thn (h.run pins s σ H _ I hw) fun v s1 ⟨x, H1, I1, r1, d, u, e1, hd, q⟩ => ?_
  rcases q with ⟨h1, q⟩ | ⟨ob, h1, q⟩
  · obtain ⟨od, I2⟩ := I1.lock h1 hd.mut
    exact ⟨x, _, I2, r1, q od⟩
  · exact ⟨x, _, I1, r1, q⟩
theorem repk_at {H : Hp} {M : Mm} : ∀ {ks : List (Key × V)} {kvs : List (D × D)}, RepK c H M ks kvs → ∀ {i : Nat} {p : D × D}, kvs[i]? = some p → ∃ k v, ks[i]? = some (k, v) ∧ p.1 = keyD k ∧ Rep c H M v p.2
  | _, _, .nil, _, _, e => by simp at e
  | _, _, .cons (k := k) (v := v) r _, 0, _, e => by simp at e; subst e; exact ⟨k, v, rfl, rfl, r⟩
  | _, _, .cons _ q, j + 1, p, e => by
    obtain ⟨k, v, h1, h2⟩ := repk_at q (i := j) (p := p) (by simpa using e)
    exact ⟨k, v, by simpa using h1, h2⟩
theorem rept_at {H : Hp} {M : Mm} : ∀ {ks : List (List Key × V)} {kvs : List (D × D)}, RepT c H M ks kvs → ∀ {i : Nat} {p : D × D}, kvs[i]? = some p → ∃ k v, ks[i]? = some (k, v) ∧ p.1 = .tup (k.map keyD) ∧ k.length ≤ sizeLine ∧ Rep c H M v p.2
  | _, _, .nil, _, _, e => by simp at e
  | _, _, .cons (k := k) (v := v) z r _, 0, _, e => by simp at e; subst e; exact ⟨k, v, rfl, rfl, z, r⟩
  | _, _, .cons _ _ q, j + 1, p, e => by
    obtain ⟨k, v, h1, h2⟩ := rept_at q (i := j) (p := p) (by simpa using e)
    exact ⟨k, v, by simpa using h1, h2⟩
theorem rept_len {H : Hp} {M : Mm} : ∀ {ks : List (List Key × V)} {kvs : List (D × D)}, RepT c H M ks kvs → ks.length = kvs.length
  | _, _, .nil => rfl
  | _, _, .cons _ _ q => by simp [rept_len q]
theorem rep_key {H : Hp} {M : Mm} (k : Key) : Rep c H M (kV k) (keyD k) := by
  cases k with
  | inl i => exact .int i
  | inr x => exact .str x
theorem reps_keysW {H : Hp} {M : Mm} : ∀ ks : List Key, Reps c H M (ks.map kV) (ks.map keyD)
  | [] => .nil
  | k :: r => .cons (rep_key k) (reps_keysW r)
/-- a tuple that is held stands by itself -/
theorem tup_free {H : Hp} {M : Mm} (ok : Cells c H M) {a : Addr} {vs : List V} (h : H a = some (.tup vs)) : Fr c M a := by
  refine ⟨?_, fun z => ?_⟩
  · cases e : M a with
    | none => rfl
    | some x => cases ok.at' a x e with
      | lst g => rw [h] at g; cases g
      | dK g => rw [h] at g; cases g
      | dT g => rw [h] at g; cases g
      | ins g => rw [h] at g; cases g
  · rcases (ok.z a z).1 with ⟨_, e⟩ | ⟨_, e⟩ <;> (rw [h] at e; cases e)
theorem frz_keep {H H' : Hp} {M M' : Mm} {a : Addr} {ob : Obj} {u : HO} (s : Stp H M H' M') (h : H a = some (.frz ob u)) (n : M a = none) : H' a = some (.frz ob u) := s.keep a _ h n
theorem it_keysK {H : Hp} {M : Mm} {d : Addr} {ob : Obj} {ks : List (Key × V)} {kvs : List (D × D)} {chk : Mm → Prop} (h : H d = some (.frz ob (.dK ks))) (n : M d = none) (r : RepK c H M ks kvs) : ItS c (Itk d ob ks) H M (kvs.map (·.1)) chk := fun H' M' s ok _ => by
  have h' := frz_keep s h n
  refine ⟨fun i d' hi => ?_, fun i hi => ⟨h', by rw [r.len]; simpa using hi⟩⟩
  rw [List.getElem?_map] at hi
  obtain ⟨p, hp, rfl⟩ := Option.map_eq_some_iff.mp hi
  obtain ⟨k, v, e1, e2, _⟩ := repk_at r hp
  refine ⟨⟨h', get_len e1⟩, fun x H'' y => ?_⟩
  obtain ⟨rfl, k', v', e3, rfl⟩ := y
  rw [e1] at e3
  cases e3
  exact ⟨.refl, ok, by rw [e2]; exact rep_key k⟩
theorem it_keysT {H : Hp} {M : Mm} {d : Addr} {ob : Obj} {ks : List (List Key × V)} {kvs : List (D × D)} {chk : Mm → Prop} (h : H d = some (.frz ob (.dT ks))) (n : M d = none) (r : RepT c H M ks kvs) : ItS c (Itkt d ob ks) H M (kvs.map (·.1)) chk := fun H' M' s ok _ => by
  have h' := frz_keep s h n
  refine ⟨fun i d' hi => ?_, fun i hi => ⟨h', by rw [rept_len r]; simpa using hi⟩⟩
  rw [List.getElem?_map] at hi
  obtain ⟨p, hp, rfl⟩ := Option.map_eq_some_iff.mp hi
  obtain ⟨k, v, e1, e2, z, _⟩ := rept_at r hp
  refine ⟨⟨h', get_len e1⟩, fun x H'' y => ?_⟩
  obtain ⟨rfl, k', v', q, e3, rfl, hq⟩ := y
  rw [e1] at e3
  cases e3
  exact ⟨.refl, ok, by rw [e2]; exact .tup hq (tup_free ok hq) (by rw [List.length_map]; exact z) (reps_keysW k)⟩
theorem it_vals {H : Hp} {M : Mm} {d : Addr} {ob : Obj} {ks : List (Key × V)} {kvs : List (D × D)} {chk : Mm → Prop} (h : H d = some (.frz ob (.dK ks))) (n : M d = none) (r : RepK c H M ks kvs) : ItS c (Itd d ob ks) H M (kvs.map (·.2)) chk := fun H' M' s ok _ => by
  have h' := frz_keep s h n
  refine ⟨fun i d' hi => ?_, fun i hi => ⟨h', by rw [r.len]; simpa using hi⟩⟩
  rw [List.getElem?_map] at hi
  obtain ⟨p, hp, rfl⟩ := Option.map_eq_some_iff.mp hi
  obtain ⟨k, v, e1, e2, rv⟩ := repk_at r hp
  refine ⟨⟨h', get_len e1⟩, fun x H'' y => ?_⟩
  obtain ⟨rfl, k', e3⟩ := y
  rw [e1] at e3
  cases e3
  exact ⟨.refl, ok, rv.stp s⟩
theorem it_items {H : Hp} {M : Mm} {d : Addr} {ob : Obj} {ks : List (Key × V)} {kvs : List (D × D)} {chk : Mm → Prop} (h : H d = some (.frz ob (.dK ks))) (n : M d = none) (r : RepK c H M ks kvs) : ItS c (Iti d ob ks) H M (kvs.map fun p => .tup [p.1, p.2]) chk := fun H' M' s ok _ => by
  have h' := frz_keep s h n
  refine ⟨fun i d' hi => ?_, fun i hi => ⟨h', by rw [r.len]; simpa using hi⟩⟩
  rw [List.getElem?_map] at hi
  obtain ⟨p, hp, rfl⟩ := Option.map_eq_some_iff.mp hi
  obtain ⟨k, v, e1, e2, rv⟩ := repk_at r hp
  refine ⟨⟨h', get_len e1⟩, fun x H'' y => ?_⟩
  obtain ⟨Ta, k', v', e3, rfl, hT, rfl⟩ := y
  rw [e1] at e3
  cases e3
  rw [e2]
  exact pair_new ok hT (rep_key k) (rv.stp s)
theorem it_str {H : Hp} {M : Mm} {x : PySem.Str} {chk : Mm → Prop} : ItS c (Its x) H M (x.cps.toList.map fun c => .str ⟨#[c]⟩) chk := fun H' M' s ok _ => by
  refine ⟨fun i d' hi => ?_, fun i hi => by show x.cps.size ≤ i; simpa using hi⟩
  rw [List.getElem?_map] at hi
  obtain ⟨p, hp, rfl⟩ := Option.map_eq_some_iff.mp hi
  have hp' : x.cps[i]? = some p := by rw [← Array.getElem?_toList]; exact hp
  have hl : i < x.cps.size := by have := get_len hp; simpa using this
  refine ⟨hl, fun v H'' y => ?_⟩
  obtain ⟨rfl, c', e3, rfl⟩ := y
  rw [hp'] at e3
  cases e3
  exact ⟨.refl, ok, .str _⟩
theorem it_rev {K : PySem.W.Frag} (hK : K = c.K) {H : Hp} {M : Mm} {a : Addr} {d : D} {ds : List D} (r : Rep c H M (.ref a) d) :
    ItS c (Itv K a ds.length) H M ds.reverse (fun M' => ∃ es, lstD M' d = some es ∧ es.reverse = ds.reverse) := fun H' M' s ok ⟨es, ch, ee⟩ => by
  subst hK
  have e0 : es = ds := by rw [← List.reverse_reverse es, ee, List.reverse_reverse]
  subst e0
  obtain ⟨b, vs, e, h1, _, q⟩ := rep_lst ok (r.stp s) ch
  cases e
  have hs : SqL c.K H' a vs := SqL.of h1
  refine ⟨fun i d' hi => ?_, fun i hi => by show es.length ≤ i; simpa using hi⟩
  have hl : i < es.length := by have := get_len hi; simpa using this
  rw [List.getElem?_reverse hl] at hi
  obtain ⟨v, g1, g2⟩ := q.get hi
  refine ⟨⟨hl, vs, v, hs, g1⟩, fun x H'' y => ?_⟩
  obtain ⟨rfl, y⟩ := y
  have := y vs hs
  rw [g1] at this; cases this
  exact ⟨.refl, ok, g2⟩
end
end L3
set_option maxRecDepth 100000
set_option maxHeartbeats 4000000
namespace L3
open PySem PySem.Spec PyProof.Rows L2 PySem.W
/-! ### list(d.values()) of a dict that is locked -/
theorem vals_kv : ∀ {kvs : List (Key × V)} {vs : List (Key × Value)}, KV kvs vs → Vals (kvs.map (·.2)) (vs.map (·.2))
  | _, _, .nil => .nil
  | _, _, .cons h t => .cons h.2 (vals_kv t)
def rLV : V → Hp → VK → Prop := fun x H Q => ∃ (d : Addr) (o : Obj) (kvs : List (Key × V)), x = .ref d ∧ H d = some (.frz o (.dK kvs)) ∧ kvs.length ≤ sizeLine ∧ ∀ p, H p = none → Q (.ref p) (upd H p (.lst (kvs.map (·.2))))
def tLV (te : TE) : TE := fun σ H Q => te σ H fun x H1 => rLV x H1 Q
section
variable {X : Cx} {e : Expr} {te : TE} {p apos cpos pos : Pos}
theorem pe_listVals (hc : X.calm = true) (he : PE X e te) (hg : Gl X "list") (hm : X.mg "list" = none) (hv : bootBuiltins "list" = some (.type "list")) (hbase : attributeBase e "values" X.env (eval e X.env) = eval e X.env) (hline : (apos.endLine == cpos.line) = true)
    (hs : starEach [.Call (.Attribute e "values" apos) [] [] cpos] X.env = (false, eval (.Call (.Attribute e "values" apos) [] [] cpos) X.env) :: starEach [] X.env) :
    PE X (.Call (.Name "list" p) [.Call (.Attribute e "values" apos) [] [] cpos] [] pos) (tLV te) := by
  refine ⟨fun pins s σ H Q I hq => ?_⟩
  refine wpAny_Call_Name_kw (ld_blt I hg hm hv ?_)
  refine PyProof.Rows.callWith_type1 ?_ hs rfl
  rw [hs]
  show wpAny _ _ (spliced ((false, eval (.Call (.Attribute e "values" apos) [] [] cpos) X.env) :: backTo pos (starEach [] X.env))) _ _ s
  refine Calls.spliced_cons ?_
  refine wpAny_Call_method (T := "dict") (id := "dict.values") hbase rfl hline F.plainAttrs_dict F.slot_dict_values F.type_dict_values (thn (he.run pins s σ H _ I hq) fun u s1 ⟨x, H1, I1, rx, d, o, kvs, ex, hd, hz, q⟩ => ?_)
  subst ex
  obtain rfl : u = Value.ref d := rx
  obtain ⟨hs0, hgd, hx, es, ep, vs, hdt, hsz, kv, hm'⟩ := I1.frzK hd
  have hl : kvs.length = vs.length := Paired.length kv
  have I2 : Inv X pins σ H1 { s1 with heap := s1.heap.push { cls := .type "dict_values", data := .fields #[.ref d] } } := I1.kept (t' := s1.toks) fun b ob q => Heap.get?_push_of_some _ q
  refine ⟨hm'.dictOf.typeIs, hm'.dictOf.mapOf.noDict, ?_⟩
  show wpAny _ _ (callWith cpos (.builtin "dict.values") [.ref d] [] []) _ X.xe s1
  refine method_meetsIn F.slot_dict_values F.entry_dict_values rfl (PySem.evalArgs_none ⟨rfl, hm'.dictOf.typeIs, F.args_dict_values_1 _, _, meets_dict_values (mixKind X.prog X.w) d hs0, ⟨vs, hm'.dictOf⟩, ?_⟩)
  refine Calls.spliced_nil ?_
  refine kdl_call (kdl_values (knd := mixKind X.prog X.w) (kvs := vs) (ep := ep)) (I1.ok.hd hc) ⟨⟨_, Heap.get?_push_size _ rfl, rfl, rfl⟩, hm'.push _⟩ (by omega) fun h' tk acc c hk hS hacc => ?_
  have ea : acc.toList = vs.map (·.2) := kdl_vals_eq acc.toList (by rw [Array.length_toList]; exact hacc.1) fun j v ev => hacc.2 j v (by rw [← Array.getElem?_toList]; exact ev)
  refine ⟨.ref _, upd H1 (s1.heap.push { cls := .type "dict_values", data := .fields #[.ref d] }).objs.size (.lst (kvs.map (·.2))), I2.laid hk (Nat.le_refl _) ⟨by rw [List.length_map]; exact hz, acc.toList, c, ?_, by rw [Array.toArray_toList]; exact hS⟩, rfl, q _ (I2.hok.fresh (Nat.le_refl _))⟩
  rw [ea]
  exact vals_kv kv
end
end L3
set_option maxRecDepth 100000
set_option maxHeartbeats 4000000
namespace L3
open PySem PySem.Spec PyProof.Rows L2 PySem.W
/-! ### sorted(d.values()) of a dict whose keys are tuples, the values pairs of ints -/
section
variable {prog : Program} {w : World} {r d : Addr} {es : Array DictEntry} {ep : Nat}
theorem kdl_valuesR : KdlSrc prog w "dict_values" r d es.size (fun i v => ∃ hi : i < es.size, v = es[i].val) (fun h => h.IsValuesView r d ∧ h.DictRaw d es ep) where
  type := fun _ hm => let ⟨o, ho, hc, _⟩ := hm.1; ⟨o, ho, hc⟩
  there := fun _ hm => ⟨let ⟨_, ho, _⟩ := hm.1; Heap.lt_size ho, let ⟨_, ho, _⟩ := hm.2; Heap.lt_size ho⟩
  keep := fun _ _ hm hk => ⟨let ⟨o, ho, x⟩ := hm.1; ⟨o, hk r (.inl rfl) o ho, x⟩, hm.2.at fun o e => hk d (.inr rfl) o e⟩
  notList := by decide
  notTuple := by decide
  hint := fun _ _ _ _ hm hq => kdl_hint_values (let ⟨o, ho, hc, _⟩ := hm.1; ⟨o, ho, hc⟩) hq
  iter := fun A s hh hm => ⟨_, _, (fun _ _ hq => wpAny_pyIter_values_raw hm.1 hm.2 hq), Walks.rawValues hh _ d (Nat.ne_of_lt (let ⟨_, ho, _⟩ := hm.2; Heap.lt_size ho)) es ep, ⟨⟨_, Heap.get?_push_size _ rfl, rfl, rfl⟩, hm.2.at fun o e => Heap.get?_push_of_some _ e⟩⟩
end
theorem vals_T {H : Hp} : ∀ {kvs : List (List Key × V)} {xs : List (List Key × Addr × Value)}, Paired (fun (p : List Key × V) (q : List Key × Addr × Value) => p.1 = q.1 ∧ H q.2.1 = some (.tup (p.1.map kV)) ∧ RelV p.2 q.2.2) kvs xs → Vals (kvs.map (·.2)) (xs.map (·.2.2))
  | _, _, .nil => .nil
  | _, _, .cons h t => .cons h.2.2 (vals_T t)
def rSV : V → Hp → VK → Prop := fun x H Q => ∃ (d : Addr) (kvs : List (List Key × V)) (k : V → Int × Int), x = .ref d ∧ Rd H d (.dT kvs) ∧ (∀ x ∈ kvs.map (·.2), ∃ t, x = V.ref t ∧ H t = some (.tup [.int (k x).1, .int (k x).2])) ∧
  ∀ ys p, SrtO.Srtd (ltP k) ys → SrtO.Stb (ltP k) ys (kvs.map (·.2)) → H p = none → Q (.ref p) (upd H p (.lst ys))
def tSV (te : TE) : TE := fun σ H Q => te σ H fun x H1 => rSV x H1 Q
section
variable {X : Cx} {e : Expr} {te : TE} {p apos cpos pos : Pos}
theorem pe_sortVals (hc : X.calm = true) (he : PE X e te) (hg : Gl X "sorted") (hm : X.mg "sorted" = none) (hbase : attributeBase e "values" X.env (eval e X.env) = eval e X.env) (hline : (apos.endLine == cpos.line) = true)
    (hs : starEach [.Call (.Attribute e "values" apos) [] [] cpos] X.env = (false, eval (.Call (.Attribute e "values" apos) [] [] cpos) X.env) :: starEach [] X.env) :
    PE X (.Call (.Name "sorted" p) [.Call (.Attribute e "values" apos) [] [] cpos] [] pos) (tSV te) := by
  refine ⟨fun pins s σ H Q I hq => ?_⟩
  refine Call_ (ld_blt I hg hm PyProof.Rows.boot_sorted ?_)
  refine PyProof.Rows.callWith_builtin1 ?_ hs rfl
  refine PyProof.Rows.args_cons ?_ hs
  refine wpAny_Call_method (T := "dict") (id := "dict.values") hbase rfl hline F.plainAttrs_dict F.slot_dict_values F.type_dict_values (thn (he.run pins s σ H _ I hq) fun u s1 ⟨x, H1, I1, rx, d, kvs, k, ex, hd, hx, q⟩ => ?_)
  subst ex
  obtain rfl : u = Value.ref d := rx
  obtain ⟨hz, hsys, xs, pr, ob, es, ep, ho, hex, hdt, hes, _⟩ := (show ObjOk X.prog X.w H1 s1.heap d (.dT kvs) from hd.ok I1.hok)
  have raw : s1.heap.DictRaw d es ep := ⟨ob, ho, hex, hdt⟩
  have l1 : es.size = xs.length := size_of_entries hes
  have l2 : kvs.length = xs.length := Paired.length pr
  refine ⟨raw.typeIs, fun a e => by cases e; exact ⟨ob, ho, hex.2.1⟩, ?_⟩
  show wpAny _ _ (callWith cpos (.builtin "dict.values") [.ref d] [] []) _ X.xe s1
  refine method_meetsIn F.slot_dict_values F.entry_dict_values rfl (PySem.evalArgs_none ⟨rfl, raw.typeIs, F.args_dict_values_1 _, _, meets_dict_values_raw d hsys, ⟨_, _, raw⟩, ?_⟩)
  have I2 : Inv X pins σ H1 { s1 with heap := s1.heap.push { cls := .type "dict_values", data := .fields #[.ref d] } } := I1.kept (t' := s1.toks) fun b ob q => Heap.get?_push_of_some _ q
  have raw2 : (s1.heap.push { cls := .type "dict_values", data := .fields #[.ref d] }).DictRaw d es ep := raw.at fun o e => Heap.get?_push_of_some _ e
  have rv : Vals (kvs.map (·.2)) (xs.map (·.2.2)) := vals_T pr
  obtain ⟨e1, e2⟩ := refs_back rv fun x m => by
    obtain ⟨t, e, _⟩ := hx x m
    exact ⟨t, e⟩
  refine PyProof.Rows.args_nil ?_
  refine Calls.call_function_entry kind_sorted plain_sorted entry_sorted (args_sorted1 _) ?_
  unfold Builtin.«sorted»
  refine wpAny_bind (m := checkCount "sorted" 1 1 _) (wpAny_pure ?_)
  refine wpAny_bind (kdu_collect (A := X.A.in1) (kdl_valuesR (prog := X.prog) (w := X.w) (r := s1.heap.objs.size) (d := d) (es := es) (ep := ep)) (I1.ok.hd hc) ⟨⟨_, Heap.get?_push_size _ rfl, rfl, rfl⟩, raw2⟩ (by omega) fun h' tk acc hk hacc => ?_)
  have ea : acc.toList = xs.map (·.2.2) := by
    have hl : acc.toList.length = xs.length := by rw [Array.length_toList, hacc.1]; exact l1
    apply List.ext_getElem?
    intro j
    rw [List.getElem?_map]
    cases hj : acc.toList[j]? with
    | none =>
      have h1 := List.getElem?_eq_none_iff.mp hj
      rw [List.getElem?_eq_none (by omega)]
      all_goals rfl
    | some v =>
      obtain ⟨hi, hv⟩ := hacc.2 j v (by rw [← Array.getElem?_toList]; exact hj)
      have qe := entry_at hes j
      rw [Array.getElem?_eq_getElem hi] at qe
      cases hb : xs[j]? with
      | none =>
        rw [hb] at qe
        exact nomatch (show some es[j] = none from qe)
      | some b =>
        rw [hb] at qe
        have e2 : es[j] = entryOfKey (tupleKind (mixKind X.prog X.w)) b := Option.some.inj qe
        rw [hv, e2]
        all_goals rfl
  have hla : acc.toList.length = kvs.length := by rw [ea, List.length_map]; exact l2.symm
  have I3 : Inv X pins σ H1 { s1 with heap := h', toks := tk } := I1.kept fun b o e => hk b o (Heap.get?_push_of_some _ e)
  refine wpAny_bind (wpAny_newList ?_ (by rw [hla]; exact hz))
  have hoL : (h'.push (seqObj "list" acc.toList.toArray 0)).get? h'.objs.size = some (seqObj "list" acc.toList.toArray 0) := Heap.get?_push_size _ rfl
  have I4 : Inv X pins σ H1 { s1 with heap := h'.push (seqObj "list" acc.toList.toArray 0), toks := tk } := I3.kept fun b o e => Heap.get?_push_of_some _ e
  show wpAny _ _ _ _ _ { s1 with heap := h'.push (seqObj "list" acc.toList.toArray 0), toks := tk }
  rw [ea] at hoL I4 ⊢
  have hp : ∀ v ∈ xs.map (·.2.2), Srt.IsPair (h'.push (seqObj "list" (xs.map (·.2.2)).toArray 0)) v (k (backV v)).1 (k (backV v)).2 := fun v hv => by
    obtain ⟨t, rfl⟩ := e2 v hv
    have hm : V.ref t ∈ kvs.map (·.2) := by rw [e1]; exact List.mem_map.mpr ⟨_, hv, rfl⟩
    obtain ⟨t', e, ht⟩ := hx _ hm
    cases e
    obtain ⟨_, its2, r2, o, ho, hc, n, hd⟩ := I4.hok _ _ ht
    obtain ⟨u1, u2, rfl, ri, rj⟩ := vals2 r2
    obtain ⟨t1, rfl⟩ := ri
    obtain ⟨t2, rfl⟩ := rj
    exact ⟨t, o, t1, t2, n, rfl, ho, hc, hd⟩
  have hzx : (xs.map (·.2.2)).length ≤ sizeLine := by rw [List.length_map]; omega
  refine wpAny_bind (wpAny_holding (wpAny_call_entry slot_list_sort ⟨_, hoL, rfl⟩ entry_list_sort (SrtO.list_sort_ord (s := { s1 with heap := h'.push (seqObj "list" (xs.map (·.2.2)).toArray 0), toks := tk }) (SrtO.swo_lex fun u => k (backV u)) hoL hzx
    (fun h2 => SrtO.pairs_sortableO (s := { s1 with heap := h'.push (seqObj "list" (xs.map (·.2.2)).toArray 0), toks := tk }) (by omega) hp fun o e => ?_) fun out h1 h2 => ⟨_, rfl, ?_⟩) (args_list_sort _)))
  · have e' : some o = some (seqObj "list" (xs.map (·.2.2)).toArray 0) := e.symm.trans hoL
    cases e'
    intro c
    exact absurd (Value.type.inj c) (by decide)
  have kp : ∀ b o, h'.get? b = some o → (sortedHeap (h'.push (seqObj "list" (xs.map (·.2.2)).toArray 0)) h'.objs.size (xs.map (·.2.2)) out.toArray).get? b = some o := fun b o e => by
    have hlt : b < h'.objs.size := Heap.lt_size e
    rw [sortedHeap_old (Nat.ne_of_lt hlt) (by rw [size_push']; exact Nat.lt_succ_of_lt hlt)]
    exact Heap.get?_push_of_some _ e
  obtain ⟨n, hn⟩ := sortedHeap_at (out := out.toArray) hoL
  have h3 : ∀ u ∈ out, ∃ a, u = Value.ref a := fun u hu => e2 u (h2.perm.mem_iff.mp hu)
  have hb : SrtO.Stb (ltP k) (out.map backV) (kvs.map (·.2)) := by
    rw [e1]
    exact SrtO.Stb.map (ltP_swo k) backV h2
  refine wpAny_pure ⟨_, rfl, .ref h'.objs.size, upd H1 h'.objs.size (.lst (out.map backV)), I3.laid (t' := tk) kp (Nat.le_refl _) ⟨?_, out, n, vals_back h3, hn⟩, rfl, q _ _ (SrtO.srtd_map h1) hb (I3.hok.fresh (Nat.le_refl _))⟩
  rw [hb.len, List.length_map]
  exact hz
end
/-! ### xs[-2::-1] -/
theorem pick_m2 (items : Array Value) : slicePick items (some (-2)) none (some (-1)) = items.toList.dropLast.reverse.toArray := by
  have hb : sliceBounds (some (-2)) none (some (-1)) items.size = (max (-1) (min (-2 + (items.size : Int)) ((items.size : Int) - 1)), -1, -1) := rfl
  unfold slicePick
  rw [hb]
  show ((sliceRange (max (-1) (min (-2 + (items.size : Int)) ((items.size : Int) - 1))) (-1) (-1)).filterMap (items[·]?)).toArray = _
  have hl : items.toList.length = items.size := Array.length_toList
  cases hn : items.size with
  | zero =>
    rw [hn] at hl
    have e : items.toList = [] := List.eq_nil_of_length_eq_zero hl
    rw [e]
    rfl
  | succ m =>
    have e : max (-1) (min (-2 + ((m + 1 : Nat) : Int)) (((m + 1 : Nat) : Int) - 1)) = (m : Int) - 1 := by omega
    rw [e, krv_sliceRange, krv_range, List.filterMap_reverse]
    have h := pick_run items 0 m
    have e2 : (List.range m).map (0 + ·) = List.range m := by
      rw [show ((0 + ·) : Nat → Nat) = id from funext fun k => Nat.zero_add k, List.map_id]
    rw [e2, List.drop_zero] at h
    rw [h, List.dropLast_eq_take, hl, hn]
    rfl
def tRev2 (K : PySem.W.Frag) (te : TE) : TE := fun σ H Q => te σ H fun x H1 => ∃ a xs, x = .ref a ∧ SqL K H1 a xs ∧ ∀ p, H1 p = none → Q (.ref p) (upd H1 p (.lst xs.dropLast.reverse))
section
variable {X : Cx}
theorem pe_rev2 {e : Expr} {te : TE} {k k0 : Nat} {p0 p00 p1 p2 p3 pos : Pos} (he : PE X e te) : PE X (.Subscript e (.Slice (some (.UnaryOp .USub (.Constant (.int 2) k0 p0) p00)) none (some (.UnaryOp .USub (.Constant (.int 1) k p1) p2)) p3) pos) (tRev2 X.K te) := by
  refine ⟨fun pins s σ H Q I h => ?_⟩
  refine Subscript_ (thn (he.run pins s σ H _ I h) fun v s1 ⟨x, H1, I1, r1, q1⟩ => ?_)
  obtain ⟨a, xs, ex, hx, q⟩ := q1
  subst ex
  cases r1
  have hst : PO X (some (.UnaryOp .USub (.Constant (.int 1) k p1) p2)) (tPart (tUn (rU fun i => .int (-i)) (tC (.int 1)))) := po_some (pe_un un_neg pe_int)
  have hlo : PO X (some (.UnaryOp .USub (.Constant (.int 2) k0 p0) p00)) (tPart (tUn (rU fun i => .int (-i)) (tC (.int 2)))) := po_some (pe_un un_neg pe_int)
  refine wpAny_Slice (thn (hlo.run pins s1 σ H1 (fun o H2 => o = some (-2) ∧ H2 = H1) I1 ⟨2, rfl, -2, rfl, rfl, rfl⟩) fun vl s2 ⟨l, H2, I2, pl, el, e2⟩ => ?_)
  subst el e2
  refine thn (po_none.run pins s2 σ H2 (fun o H3 => o = none ∧ H3 = H2) I2 ⟨rfl, rfl⟩) fun vu s3 ⟨u, H3, I3, pu, eu, e3⟩ => ?_
  subst eu e3
  refine thn (hst.run pins s3 σ H3 (fun o H4 => o = some (-1) ∧ H4 = H3) I3 ⟨1, rfl, -1, rfl, rfl, rfl⟩) fun vs s4 ⟨o, H4, I4, ps, eo, e4⟩ => ?_
  subst eo e4
  have I5 : Inv X pins σ H4 { s4 with heap := s4.heap.push { cls := .type "slice", data := .fields #[vl, vu, vs] } } := I4.kept (t' := s4.toks) fun b ob q => Heap.get?_push_of_some _ q
  obtain ⟨its, r, ht, hz⟩ := I5.list hx
  have hlen := r.length
  show wpAny (model X.prog X.w) X.A (subscriptTail e (.Slice (some (.UnaryOp .USub (.Constant (.int 2) k0 p0) p00)) none (some (.UnaryOp .USub (.Constant (.int 1) k p1) p2)) p3) (.ref a) (.ref s4.heap.objs.size)) (EP X pins σ Q) X.xe { s4 with heap := s4.heap.push { cls := .type "slice", data := .fields #[vl, vu, vs] } }
  refine tail_any (ops := [.ref a, .ref s4.heap.objs.size]) ht.isList.typeIs (PySem.slot_list_getitem.lookup) ?_ (by with_unfolding_all rfl)
  refine wpAny_getItem_list_slice ht.isList (Heap.IsSliceOf.new _ vl vu vs) pl pu ps (by decide) ?_ (by rw [List.size_toArray]; omega)
  rw [pick_m2]
  have rd : Vals xs.dropLast its.dropLast := by
    rw [List.dropLast_eq_take, List.dropLast_eq_take, ← hlen]
    exact r.take _
  refine ⟨.ref _, _, I5.laid (t' := s4.toks) (o := .lst xs.dropLast.reverse) (fun b ob q => Heap.get?_push_of_some _ q) (Nat.le_refl _) ?_, rfl, q _ (I5.hok.fresh (Nat.le_refl _))⟩
  exact ⟨by rw [List.length_reverse, List.length_dropLast]; omega, _, 0, rd.reverse, Heap.get?_push_size _ rfl⟩
end
end L3
set_option maxRecDepth 100000
set_option maxHeartbeats 4000000
namespace L3
open PySem L2
section
variable {X : Cx} {c : Cfg} {T : Tab} {N : List PySem.Str} {sc : Scope} {W : WX}
inductive ItE (c : Cfg) (T : Tab) (N : List PySem.Str) (sc : Scope) : ItK → Tg → List SE → Expr → Prop
  | seq {s : SE} {it : Expr} {tg : Tg} : Snd c T N sc s it → mE N s sc it = true → ItE c T N sc .seq tg [s] it
  | rng1 {s : SE} {b : Expr} {tg : Tg} {p pos : Pos} : SndL c T N sc [s] [b] → glB sc "range" = true → ItE c T N sc .rng1 tg [s] (.Call (.Name "range" p) [b] [] pos)
  | rng2 {s s' : SE} {b d : Expr} {tg : Tg} {p pos : Pos} : SndL c T N sc [s, s'] [b, d] → glB sc "range" = true → ItE c T N sc .rng2 tg [s, s'] (.Call (.Name "range" p) [b, d] [] pos)
  | rng3 {s s' s'' : SE} {b d e : Expr} {tg : Tg} {p pos : Pos} : SndL c T N sc [s, s', s''] [b, d, e] → glB sc "range" = true → ItE c T N sc .rng3 tg [s, s', s''] (.Call (.Name "range" p) [b, d, e] [] pos)
  | enum {s : SE} {b : Expr} {tg : Tg} {p pos : Pos} : SndL c T N sc [s] [b] → glB sc "enumerate" = true → isTp tg = true → ItE c T N sc .enum tg [s] (.Call (.Name "enumerate" p) [b] [] pos)
  | zip {s s' : SE} {b d : Expr} {tg : Tg} {p pos : Pos} : SndL c T N sc [s, s'] [b, d] → glB sc "zip" = true → isTp tg = true → ItE c T N sc .zip tg [s, s'] (.Call (.Name "zip" p) [b, d] [] pos)
  | zipM {s s' : SE} {b d : Expr} {tg : Tg} {p pos : Pos} : SndL c T N sc [s, s'] [b, d] → glB sc "zip" = true → isTp tg = true → ItE c T N sc .zipM tg [s, s'] (.Call (.Name "zip" p) [b, d] [] pos)
  | keys {s : SE} {it : Expr} {tg : Tg} : Snd c T N sc s it → mE N s sc it = true → ItE c T N sc .keys tg [s] it
  | str {s : SE} {it : Expr} {tg : Tg} : Snd c T N sc s it → mE N s sc it = true → ItE c T N sc .str tg [s] it
  | items {s : SE} {o : Expr} {tg : Tg} {p pos : Pos} : Snd c T N sc s o → supB o = true → (p.endLine == pos.line) = true → isTp tg = true → ItE c T N sc .items tg [s] (.Call (.Attribute o "items" p) [] [] pos)
  | values {s : SE} {o : Expr} {tg : Tg} {p pos : Pos} : Snd c T N sc s o → supB o = true → (p.endLine == pos.line) = true → ItE c T N sc .values tg [s] (.Call (.Attribute o "values" p) [] [] pos)
  | rev {s : SE} {b : Expr} {tg : Tg} {p pos : Pos} : Snd c T N sc s b → mE N s sc b = true → glB sc "reversed" = true → ItE c T N sc .rev tg [s] (.Call (.Name "reversed" p) [b] [] pos)
theorem rev_name : ("reversed" : PySem.Str) ∈ bnames := by decide +kernel
theorem it_names : ("range" : PySem.Str) ∈ bnames ∧ ("enumerate" : PySem.Str) ∈ bnames ∧ ("zip" : PySem.Str) ∈ bnames := by decide +kernel
theorem SndL.h1 : ∀ {s : SE} {b : Expr}, SndL c T N sc [s] [b] → mE N s sc b = true
  | _, _, .cons _ h _ => h
theorem SndL.h2 : ∀ {s s' : SE} {b d : Expr}, SndL c T N sc [s, s'] [b, d] → mE N s sc b = true ∧ mE N s' sc d = true
  | _, _, _, _, .cons _ h (.cons _ h' _) => ⟨h, h'⟩
theorem SndL.h3 : ∀ {s s' s'' : SE} {b d e : Expr}, SndL c T N sc [s, s', s''] [b, d, e] → mE N s sc b = true ∧ mE N s' sc d = true ∧ mE N s'' sc e = true
  | _, _, _, _, _, _, .cons _ h (.cons _ h' (.cons _ h'' _)) => ⟨h, h', h''⟩
theorem Reps.zset' {H : Hp} {M : Mm} {Z Z' : Addr → Prop} {vs : List V} {ds : List D} (h : Reps (c.z Z) H M vs ds) (hz : ∀ a, Z' a → Z a ∨ H a = none) : Reps (c.z Z') H M vs ds := h.zset (c := c.z Z) hz
theorem Rep.zset' {H : Hp} {M : Mm} {Z Z' : Addr → Prop} {v : V} {d : D} (h : Rep (c.z Z) H M v d) (hz : ∀ a, Z' a → Z a ∨ H a = none) : Rep (c.z Z') H M v d := h.zset (c := c.z Z) hz
theorem lst_ref {H : Hp} {M : Mm} {v : V} {d : D} {ds : List D} (ok : Cells c H M) (r : Rep c H M v d) (h : lstD M d = some ds) : ∃ a vs, v = .ref a ∧ SqL c.K H a vs := by
  obtain ⟨a, vs, rfl, h1, _⟩ := rep_lst ok r h
  exact ⟨a, vs, rfl, SqL.of h1⟩
theorem rng1_of {ds items : List D} {M : Mm} (h : itD .rng1 ds M = some items) : ∃ n, ds = [.int n] ∧ n < 2 ^ 62 ∧ -(2 ^ 62) ≤ n ∧ items = rngL 0 n.toNat := by
  cases ds with
  | nil => cases h
  | cons d r => cases r with
    | cons _ _ => cases d <;> cases h
    | nil => cases d with
      | int n =>
        change (if n < 2 ^ 62 ∧ -(2 ^ 62) ≤ n then some (rngL 0 n.toNat) else none) = some items at h
        split at h
        · rename_i hn; cases h; exact ⟨n, rfl, hn.1, hn.2, rfl⟩
        · cases h
      | _ => cases h
theorem rng2_of {ds items : List D} {M : Mm} (h : itD .rng2 ds M = some items) : ∃ a b, ds = [.int a, .int b] ∧ ((-(2 ^ 62) ≤ a ∧ a < 2 ^ 62) ∧ -(2 ^ 62) ≤ b ∧ b < 2 ^ 62) ∧ items = rngL a (b - a).toNat := by
  cases ds with
  | nil => cases h
  | cons d r => cases r with
    | nil => cases d <;> cases h
    | cons e r => cases r with
      | cons _ _ => cases d <;> cases e <;> cases h
      | nil => cases d with
        | int a => cases e with
          | int b =>
            change (if (-(2 ^ 62) ≤ a ∧ a < 2 ^ 62) ∧ -(2 ^ 62) ≤ b ∧ b < 2 ^ 62 then some (rngL a (b - a).toNat) else none) = some items at h
            split at h
            · rename_i hn; cases h; exact ⟨a, b, rfl, hn, rfl⟩
            · cases h
          | _ => cases h
        | _ => cases h
theorem rng3_of {ds items : List D} {M : Mm} (h : itD .rng3 ds M = some items) : ∃ a b k, ds = [.int a, .int b, .int k] ∧ RgC a b k (PySem.Builtin.Range.rangeSize a b k).toNat ∧ items = rngC a k (PySem.Builtin.Range.rangeSize a b k).toNat := by
  replace h : rng3D ds = some items := h
  unfold rng3D at h
  split at h
  · rename_i a b k
    split at h
    · rename_i hn
      cases h
      simp only [Bool.and_eq_true, decide_eq_true_eq] at hn
      exact ⟨a, b, k, rfl, ⟨hn.1.1, hn.1.2, hn.2, PyProof.Rows.rangeSize_toNat a b k⟩, rfl⟩
    · cases h
  · cases h
theorem it_rngC {H : Hp} {M : Mm} {lo k : Int} {n : Nat} {chk : Mm → Prop} : ItS c (Itc lo k n) H M (rngC lo k n) chk := fun H' M' s ok ch => by
  refine ⟨fun i d' hi => ?_, fun i hi => by show n ≤ i; simpa [rngC] using hi⟩
  have hl : i < n := by simpa [rngC] using get_len hi
  refine ⟨hl, fun x H'' y => ?_⟩
  obtain ⟨rfl, rfl⟩ := y
  have e : d' = .int (lo + i * k) := by simpa [rngC, hl] using hi.symm
  subst e
  exact ⟨.refl, ok, .int _⟩
theorem reps3' {H : Hp} {M : Mm} {vs : List V} {d e f : D} (r : Reps c H M vs [d, e, f]) : ∃ v w u, vs = [v, w, u] ∧ Rep c H M v d ∧ Rep c H M w e ∧ Rep c H M u f := by
  cases r with
  | cons a q => cases q with
    | cons b q => cases q with
      | cons b' q => cases q; exact ⟨_, _, _, rfl, a, b, b'⟩
theorem enum_of {ds items : List D} {M : Mm} (h : itD .enum ds M = some items) : ∃ d es, ds = [d] ∧ lstD M d = some es ∧ items = enumFrom 0 es := by
  cases ds with
  | nil => cases h
  | cons d r => cases r with
    | cons _ _ => cases h
    | nil =>
      change (match lstD M d with | some ds => some (enumFrom 0 ds) | none => none) = some items at h
      cases e : lstD M d with
      | none => rw [e] at h; cases h
      | some es => rw [e] at h; cases h; exact ⟨d, es, rfl, e, rfl⟩
theorem one_of {f : D → Option (List D)} {ds items : List D} (h : (match ds with | [x] => f x | _ => none) = some items) : ∃ d, ds = [d] ∧ f d = some items := by
  cases ds with
  | nil => cases h
  | cons d r => cases r with
    | nil => exact ⟨d, rfl, h⟩
    | cons _ _ => cases h
theorem zipM_of {ds items : List D} {M : Mm} (h : itD .zipM ds M = some items) : ∃ d xs ys, ds = [d, .tup ys] ∧ lstD M d = some xs ∧ zipL xs ys = items := by
  cases ds with
  | nil => cases h
  | cons d r => cases r with
    | nil => cases h
    | cons e r => cases r with
      | cons _ _ => cases h
      | nil =>
        have h : zpM M d e = some items := h
        unfold zpM at h
        split at h
        · cases e1 : lstD M d with
          | none => rw [e1] at h; cases h
          | some xs => rw [e1] at h; cases h; exact ⟨d, xs, _, rfl, e1, rfl⟩
        · cases h
theorem zip_of {ds items : List D} {M : Mm} (h : itD .zip ds M = some items) : ∃ d e xs ys, ds = [d, e] ∧ lstD M d = some xs ∧ lstD M e = some ys ∧ zipL xs ys = items := by
  cases ds with
  | nil => cases h
  | cons d r => cases r with
    | nil => cases h
    | cons e r => cases r with
      | cons _ _ => cases h
      | nil =>
        change (match lstD M d with | some ds => (match lstD M e with | some es => some (zipL ds es) | none => none) | none => none) = some items at h
        cases e1 : lstD M d with
        | none => rw [e1] at h; cases h
        | some xs => cases e2 : lstD M e with
          | none => rw [e1, e2] at h; cases h
          | some ys => rw [e1, e2] at h; cases h; exact ⟨d, e, xs, ys, rfl, e1, e2, rfl⟩
theorem keys_ofW {ds items : List D} {M : Mm} (h : itD .keys ds M = some items) : ∃ t kvs, ds = [.dct t kvs] ∧ items = kvs.map (·.1) := by
  obtain ⟨d, rfl, h⟩ := one_of (f := keyL) h
  have h : keyL d = some items := h
  unfold keyL at h
  split at h
  · cases h; exact ⟨_, _, rfl, rfl⟩
  · cases h
theorem items_of {ds items : List D} {M : Mm} (h : itD .items ds M = some items) : ∃ kvs, ds = [.dct false kvs] ∧ items = kvs.map fun p => .tup [p.1, p.2] := by
  obtain ⟨d, rfl, h⟩ := one_of (f := itmD) h
  have h : itmD d = some items := h
  unfold itmD at h
  split at h
  · split at h
    · cases h; exact ⟨_, rfl, rfl⟩
    · cases h
  · cases h
theorem values_of {ds items : List D} {M : Mm} (h : itD .values ds M = some items) : ∃ kvs, ds = [.dct false kvs] ∧ items = kvs.map (·.2) := by
  obtain ⟨d, rfl, h⟩ := one_of (f := valD) h
  have h : valD d = some items := h
  unfold valD at h
  split at h
  · split at h
    · cases h; exact ⟨_, rfl, rfl⟩
    · cases h
  · cases h
theorem str_of {ds items : List D} {M : Mm} (h : itD .str ds M = some items) : ∃ z, ds = [.str z] ∧ items = z.cps.toList.map fun c => .str ⟨#[c]⟩ := by
  obtain ⟨d, rfl, h⟩ := one_of (f := strL) h
  have h : strL d = some items := h
  unfold strL at h
  split at h
  · cases h; exact ⟨_, rfl, rfl⟩
  · cases h
theorem rev_of {ds items : List D} {M : Mm} (h : itD .rev ds M = some items) : ∃ d es, ds = [d] ∧ lstD M d = some es ∧ items = es.reverse := by
  match ds, h with
  | [d], h =>
    change (match lstD M d with | some ds => some ds.reverse | none => none) = some items at h
    cases e : lstD M d with
    | none => rw [e] at h; cases h
    | some es => rw [e] at h; cases h; exact ⟨d, es, rfl, e, rfl⟩
/-- a dict that stands, locked -/
theorem lock_use {H H1 : Hp} {M M1 : Mm} {Z : Addr → Prop} {x : V} {kvs : List (D × D)} {t : Bool} (s1 : Stp H M H1 M1) (ok1 : Cells (c.z Z) H1 M1) (r : Rep (c.z Z) H1 M1 x (.dct t kvs)) {Q : V → Hp → Prop}
    (hQ : ∀ d ob u H2, x = .ref d → H2 d = some (.frz ob u) → Dc u → (t = false → ∃ ks, u = .dK ks ∧ RepK (c.z Z) H2 M1 ks kvs) → (t = true → ∃ ks, u = .dT ks ∧ RepT (c.z Z) H2 M1 ks kvs) → M1 d = none → Stp H M H2 M1 → Cells (c.z Z) H2 M1 → (∀ b, H1 b = none → H2 b = none) → Q x H2) :
    ∃ d u, x = .ref d ∧ Dc u ∧ ((H1 d = some u ∧ ∀ ob, Q x (upd H1 d (.frz ob u))) ∨ ∃ ob, H1 d = some (.frz ob u) ∧ Q x H1) := by
  cases r with
  | @dK a ks kvs h n z q =>
    have hd : Dc (.dK ks) := .inl ⟨_, rfl⟩
    rcases h with h | ⟨ob, h⟩
    · refine ⟨a, _, rfl, hd, .inl ⟨h, fun ob => ?_⟩⟩
      have sl := stp_lock (M := M1) (ob := ob) h hd
      exact hQ a ob _ _ rfl upd_same hd (fun _ => ⟨ks, rfl, q.view sl.view⟩) (fun e => nomatch e) n.1 (s1.trans sl) (cells_lock ok1 n h hd) fun b hb => by rw [upd_ne (fun e => by rw [e, h] at hb; cases hb)]; exact hb
    · exact ⟨a, _, rfl, hd, .inr ⟨ob, h, hQ a ob _ _ rfl h hd (fun _ => ⟨ks, rfl, q⟩) (fun e => nomatch e) n.1 s1 ok1 fun _ h => h⟩⟩
  | @dT a ks kvs h n z q =>
    have hd : Dc (.dT ks) := .inr ⟨_, rfl⟩
    rcases h with h | ⟨ob, h⟩
    · refine ⟨a, _, rfl, hd, .inl ⟨h, fun ob => ?_⟩⟩
      have sl := stp_lock (M := M1) (ob := ob) h hd
      exact hQ a ob _ _ rfl upd_same hd (fun e => nomatch e) (fun _ => ⟨ks, rfl, q.view sl.view⟩) n.1 (s1.trans sl) (cells_lock ok1 n h hd) fun b hb => by rw [upd_ne (fun e => by rw [e, h] at hb; cases hb)]; exact hb
    · exact ⟨a, _, rfl, hd, .inr ⟨ob, h, hQ a ob _ _ rfl h hd (fun e => nomatch e) (fun _ => ⟨ks, rfl, q⟩) n.1 s1 ok1 fun _ h => h⟩⟩
theorem RepK.zset' {H : Hp} {M : Mm} {Z Z' : Addr → Prop} {ks : List (Key × V)} {kvs : List (D × D)} (h : RepK (c.z Z) H M ks kvs) (hz : ∀ a, Z' a → Z a ∨ H a = none) : RepK (c.z Z') H M ks kvs := h.zset (c := c.z Z) hz
theorem RepT.zset' {H : Hp} {M : Mm} {Z Z' : Addr → Prop} {ks : List (List Key × V)} {kvs : List (D × D)} (h : RepT (c.z Z) H M ks kvs) (hz : ∀ a, Z' a → Z a ∨ H a = none) : RepT (c.z Z') H M ks kvs := h.zset (c := c.z Z) hz
theorem it_ok (O : COk c T N sc X W) {k : ItK} {tg : Tg} {ss : List SE} {it tgE : Expr} (h : ItE c T N sc k tg ss it) (ht : isTp tg = true → ∃ elts kk tpos, tgE = .Tuple elts kk tpos) : ∃ wi, PI X tgE it wi ∧ SatI c T W wi k ss := by
  obtain ⟨nr, ne, nz⟩ := it_names
  cases h with
  | seq hs hm =>
    obtain ⟨⟨t, h1, h2⟩, _⟩ := hs X W O
    refine ⟨_, pi_seq h1, fun Z σ H env M Q E R st q he hk => ?_⟩
    refine h2 Z σ H env M _ E _ st q he fun v H1 d M1 s1 ok1 r1 q1 => ?_
    obtain ⟨items, e1, q1⟩ := obn_of q1
    have e1' : seqD M1 d = some items := e1
    obtain ⟨a, vs, rfl, g1, g2, _, _⟩ := rep_seqK ok1 r1 e1'
    refine ⟨a, rfl, ?_⟩
    cases tt : isTupD d with
    | false => exact .inl ⟨⟨vs, by rw [O.K]; exact g1 tt⟩, hk _ H1 M1 [d] items s1 ok1 e1 q1 fun Z' hz => it_seqL (c := c.z Z') O.K (r1.zset' hz) tt⟩
    | true => exact .inr ⟨⟨vs, by rw [O.K]; exact g2 tt⟩, hk _ H1 M1 [d] items s1 ok1 e1 q1 fun Z' hz => it_seqT (c := c.z Z') O.K (r1.zset' hz) tt⟩
  | rng1 hs hg =>
    obtain ⟨t, h1, h2⟩ := hs.pa O
    refine ⟨_, pi_range1 (gl_of O hg) (O.bi _ nr) h1 (star_cons (mE_fine hs.h1)), fun Z σ H env M Q E R st q he hk => ?_⟩
    refine h2 Z σ H env M _ E _ st q he fun vs H1 ds M1 s1 ok1 r1 q1 => ?_
    obtain ⟨items, e1, q1⟩ := obn_of q1
    have e0 := e1
    obtain ⟨n, rfl, h3, h4, rfl⟩ := rng1_of e1
    obtain ⟨v, rfl, rv⟩ := reps1 r1
    rw [rep_int rv]
    exact ⟨n, rfl, h4, h3, hk _ H1 M1 [.int n] _ s1 ok1 e0 q1 fun Z' hz => it_rng⟩
  | rng2 hs hg =>
    obtain ⟨t, h1, h2⟩ := hs.pa O
    obtain ⟨m1, m2⟩ := hs.h2
    refine ⟨_, pi_range2 (gl_of O hg) (O.bi _ nr) h1 (by rw [star_cons (mE_fine m1), star_cons (mE_fine m2)]; rfl) (by rw [star_cons (mE_fine m2)]; rfl), fun Z σ H env M Q E R st q he hk => ?_⟩
    refine h2 Z σ H env M _ E _ st q he fun vs H1 ds M1 s1 ok1 r1 q1 => ?_
    obtain ⟨items, e1, q1⟩ := obn_of q1
    have e0 := e1
    obtain ⟨a, b, rfl, hn, rfl⟩ := rng2_of e1
    obtain ⟨v, w, rfl, rv, rw'⟩ := reps2 r1
    rw [rep_int rv, rep_int rw']
    exact ⟨a, b, rfl, ⟨hn.1.1, hn.1.2, hn.2.1, hn.2.2⟩, hk _ H1 M1 [.int a, .int b] _ s1 ok1 e0 q1 fun Z' hz => it_rng⟩
  | rng3 hs hg =>
    obtain ⟨t, h1, h2⟩ := hs.pa O
    obtain ⟨m1, m2, m3⟩ := hs.h3
    refine ⟨_, pi_range3 (gl_of O hg) (O.bi _ nr) h1 (star_cons (mE_fine m1)) (by rw [star_cons (mE_fine m2), star_cons (mE_fine m3)]; rfl), fun Z σ H env M Q E R st q he hk => ?_⟩
    refine h2 Z σ H env M _ E _ st q he fun vs H1 ds M1 s1 ok1 r1 q1 => ?_
    obtain ⟨items, e1, q1⟩ := obn_of q1
    have e0 := e1
    obtain ⟨a, b, k, rfl, hn, rfl⟩ := rng3_of e1
    obtain ⟨v, w, u, rfl, rv, rw', ru⟩ := reps3' r1
    rw [rep_int rv, rep_int rw', rep_int ru]
    exact ⟨a, b, k, _, rfl, hn, hk _ H1 M1 [.int a, .int b, .int k] _ s1 ok1 e0 q1 fun Z' hz => it_rngC⟩
  | enum hs hg htp =>
    obtain ⟨elts, kk, tpos, rfl⟩ := ht htp
    obtain ⟨t, h1, h2⟩ := hs.pa O
    refine ⟨_, pi_enum (gl_of O hg) (O.bi _ ne) h1 (star_cons (mE_fine hs.h1)), fun Z σ H env M Q E R st q he hk => ?_⟩
    refine h2 Z σ H env M _ E _ st q he fun vs H1 ds M1 s1 ok1 r1 q1 => ?_
    obtain ⟨items, e1, q1⟩ := obn_of q1
    have e0 := e1
    obtain ⟨d, es, rfl, el, rfl⟩ := enum_of e1
    obtain ⟨v, rfl, rv⟩ := reps1 r1
    obtain ⟨a, ws, rfl, hs'⟩ := lst_ref ok1 rv el
    refine ⟨a, ws, rfl, by rw [O.K]; exact hs', hk _ H1 M1 [d] _ s1 ok1 e0 q1 fun Z' hz => ?_⟩
    intro H' M' s ok ch
    refine it_enum (c := c.z Z') (ds := es) O.K (rv.zset' hz) H' M' s ok ?_
    obtain ⟨d', es', ed, el', ee⟩ := enum_of ch
    cases ed
    exact ⟨es', el', ee.symm⟩
  | zip hs hg htp =>
    obtain ⟨elts, kk, tpos, rfl⟩ := ht htp
    obtain ⟨t, h1, h2⟩ := hs.pa O
    obtain ⟨m1, m2⟩ := hs.h2
    refine ⟨_, pi_zip (gl_of O hg) (O.bi _ nz) h1 (star_cons (mE_fine m1)) (by rw [star_cons (mE_fine m2)]; rfl), fun Z σ H env M Q E R st q he hk => ?_⟩
    refine h2 Z σ H env M _ E _ st q he fun vs H1 ds M1 s1 ok1 r1 q1 => ?_
    obtain ⟨items, e1, q1⟩ := obn_of q1
    have e0 := e1
    obtain ⟨d, d2, es, fs, rfl, el, el2, rfl⟩ := zip_of e1
    obtain ⟨v, w, rfl, rv, rw'⟩ := reps2 r1
    obtain ⟨a, ws, rfl, hs'⟩ := lst_ref ok1 rv el
    obtain ⟨b, us, rfl, hs2⟩ := lst_ref ok1 rw' el2
    refine ⟨a, b, ws, us, rfl, by rw [O.K]; exact hs', by rw [O.K]; exact hs2, hk _ H1 M1 [d, d2] _ s1 ok1 e0 q1 fun Z' hz => ?_⟩
    intro H' M' s ok ch
    refine it_zip (c := c.z Z') O.K (rv.zset' hz) (rw'.zset' hz) H' M' s ok ?_
    obtain ⟨d', d2', es', fs', ed, el', el2', ee⟩ := zip_of ch
    cases ed
    exact ⟨es', fs', el', el2', ee⟩
  | zipM hs hg htp =>
    obtain ⟨elts, kk, tpos, rfl⟩ := ht htp
    obtain ⟨t, h1, h2⟩ := hs.pa O
    obtain ⟨m1, m2⟩ := hs.h2
    refine ⟨_, pi_zipM (gl_of O hg) (O.bi _ nz) h1 (star_cons (mE_fine m1)) (by rw [star_cons (mE_fine m2)]; rfl), fun Z σ H env M Q E R st q he hk => ?_⟩
    refine h2 Z σ H env M _ E _ st q he fun vs H1 ds M1 s1 ok1 r1 q1 => ?_
    obtain ⟨items, e1, q1⟩ := obn_of q1
    have e0 := e1
    obtain ⟨d, es, fs, rfl, el, rfl⟩ := zipM_of e1
    obtain ⟨v, w, rfl, rv, rw'⟩ := reps2 r1
    obtain ⟨a, ws, rfl, hs'⟩ := lst_ref ok1 rv el
    have rw2 := rw'
    cases rw' with
    | tup g2 n2 z2 q2 =>
    refine ⟨_, _, ws, _, rfl, by rw [O.K]; exact hs', SqT.of g2, hk _ H1 M1 [d, .tup fs] _ s1 ok1 e0 q1 fun Z' hz => ?_⟩
    intro H' M' s ok ch
    refine it_zipM (c := c.z Z') (es := fs) O.K (rv.zset' hz) (rw2.zset' hz) H' M' s ok ?_
    obtain ⟨d', es', fs', ed, el', ee⟩ := zipM_of ch
    cases ed
    exact ⟨es', el', ee⟩
  | keys hs hm =>
    obtain ⟨⟨t, h1, h2⟩, _⟩ := hs X W O
    refine ⟨_, pi_keys (pe_lockx h1), fun Z σ H env M Q E R st q he hk => ?_⟩
    refine h2 Z σ H env M _ E _ st q he fun v H1 d M1 s1 ok1 r1 q1 => ?_
    obtain ⟨items, e1, q1⟩ := obn_of q1
    have e0 := e1
    obtain ⟨t, kvs, ed, rfl⟩ := keys_ofW e1
    cases ed
    refine lock_use (Q := fun x H1 => ∃ d o, x = V.ref d ∧ ((∃ kvs, H1 d = some (HO.frz o (HO.dK kvs)) ∧ R (Itk d o kvs) H1) ∨ ∃ kvs, H1 d = some (HO.frz o (HO.dT kvs)) ∧ R (Itkt d o kvs) H1)) s1 ok1 r1 fun d ob u H2 ex hd hdc hK hT n s2 ok2 _ => ?_
    refine ⟨d, ob, ex, ?_⟩
    cases t with
    | false =>
      obtain ⟨ks, rfl, rk⟩ := hK rfl
      exact .inl ⟨ks, hd, hk _ H2 M1 [.dct false kvs] _ s2 ok2 e0 q1 fun Z' hz => it_keysK hd n (rk.zset' hz)⟩
    | true =>
      obtain ⟨ks, rfl, rk⟩ := hT rfl
      exact .inr ⟨ks, hd, hk _ H2 M1 [.dct true kvs] _ s2 ok2 e0 q1 fun Z' hz => it_keysT hd n (rk.zset' hz)⟩
  | items hs hb hp htp =>
    obtain ⟨elts, kk, tpos, rfl⟩ := ht htp
    obtain ⟨⟨t, h1, h2⟩, _⟩ := hs X W O
    refine ⟨_, pi_items (pe_lockx h1) (attrB hb) hp, fun Z σ H env M Q E R st q he hk => ?_⟩
    refine h2 Z σ H env M _ E _ st q he fun v H1 d M1 s1 ok1 r1 q1 => ?_
    obtain ⟨items, e1, q1⟩ := obn_of q1
    have e0 := e1
    obtain ⟨kvs, ed, rfl⟩ := items_of e1
    cases ed
    refine lock_use (Q := fun x H1 => ∃ d o kvs, x = V.ref d ∧ H1 d = some (HO.frz o (HO.dK kvs)) ∧ R (Iti d o kvs) H1) s1 ok1 r1 fun d ob u H2 ex hd hdc hK hT n s2 ok2 _ => ?_
    obtain ⟨ks, rfl, rk⟩ := hK rfl
    exact ⟨d, ob, ks, ex, hd, hk _ H2 M1 [.dct false kvs] _ s2 ok2 e0 q1 fun Z' hz => it_items hd n (rk.zset' hz)⟩
  | values hs hb hp =>
    obtain ⟨⟨t, h1, h2⟩, _⟩ := hs X W O
    refine ⟨_, pi_values (pe_lockx h1) (attrB hb) hp, fun Z σ H env M Q E R st q he hk => ?_⟩
    refine h2 Z σ H env M _ E _ st q he fun v H1 d M1 s1 ok1 r1 q1 => ?_
    obtain ⟨items, e1, q1⟩ := obn_of q1
    have e0 := e1
    obtain ⟨kvs, ed, rfl⟩ := values_of e1
    cases ed
    refine lock_use (Q := fun x H1 => ∃ d o kvs, x = V.ref d ∧ H1 d = some (HO.frz o (HO.dK kvs)) ∧ R (Itd d o kvs) H1) s1 ok1 r1 fun d ob u H2 ex hd hdc hK hT n s2 ok2 _ => ?_
    obtain ⟨ks, rfl, rk⟩ := hK rfl
    exact ⟨d, ob, ks, ex, hd, hk _ H2 M1 [.dct false kvs] _ s2 ok2 e0 q1 fun Z' hz => it_vals hd n (rk.zset' hz)⟩
  | str hs hm =>
    obtain ⟨⟨t, h1, h2⟩, _⟩ := hs X W O
    refine ⟨_, pi_str h1, fun Z σ H env M Q E R st q he hk => ?_⟩
    refine h2 Z σ H env M _ E _ st q he fun v H1 d M1 s1 ok1 r1 q1 => ?_
    obtain ⟨items, e1, q1⟩ := obn_of q1
    have e0 := e1
    obtain ⟨z, ed, rfl⟩ := str_of e1
    cases ed
    exact ⟨z, rep_str r1, hk _ H1 M1 [.str z] _ s1 ok1 e0 q1 fun Z' hz => it_str⟩
  | rev hs hm hg =>
    obtain ⟨⟨t, h1, h2⟩, _⟩ := hs X W O
    refine ⟨_, RT.pi_revA (gl_of O hg) (O.bi _ rev_name) h1 (star_cons (mE_fine hm)), fun Z σ H env M Q E R st q he hk => ?_⟩
    refine h2 Z σ H env M _ E _ st q he fun v H1 d M1 s1 ok1 r1 q1 => ?_
    obtain ⟨items, e1, q1⟩ := obn_of q1
    have e0 := e1
    obtain ⟨d', es, ed, el, rfl⟩ := rev_of e1
    cases ed
    obtain ⟨a, ws, rfl, g1, g2, qq⟩ := rep_lst ok1 r1 el
    refine ⟨a, ws, rfl, .inl ⟨by rw [O.K]; exact SqL.of g1, ?_⟩⟩
    rw [qq.len]
    refine hk _ H1 M1 [d] _ s1 ok1 e0 q1 fun Z' hz => ?_
    intro H' M' s ok ch
    refine it_rev (c := c.z Z') O.K (r1.zset' hz) H' M' s ok ?_
    obtain ⟨d2, es', ed, el', ee⟩ := rev_of ch
    cases ed
    exact ⟨es', el', ee.symm⟩
/-! ### targets -/
theorem wipe_set {σ : St} {i : Nat} {v : V} : ∀ {vs : List Nat}, i ∈ vs → wipe (σ.set i (some v)) vs = wipe σ vs
  | [], h => by cases h
  | j :: vs, h => by
    show (wipe (σ.set i (some v)) vs).set j none = (wipe σ vs).set j none
    by_cases hi : i ∈ vs
    · rw [wipe_set hi]
    · have e : j = i := ((List.mem_cons.mp h).resolve_right hi).symm
      subst e
      rw [wipe_comm hi, List.set_set]
where wipe_comm {σ : St} {i : Nat} {v : V} : ∀ {vs : List Nat}, i ∉ vs → wipe (σ.set i (some v)) vs = (wipe σ vs).set i (some v)
  | [], _ => rfl
  | j :: vs, h => by
    simp only [List.mem_cons, not_or] at h
    show (wipe (σ.set i (some v)) vs).set j none = ((wipe σ vs).set j none).set i (some v)
    rw [wipe_comm h.2, List.set_comm _ _ h.1]
def wipeE (env : Env) : List Nat → Env
  | [] => env
  | v :: vs => (wipeE env vs).set v none
theorem wipeE_comm {env : Env} {i : Nat} {v : Option D} : ∀ {vs : List Nat}, i ∉ vs → wipeE (env.set i v) vs = (wipeE env vs).set i v
  | [], _ => rfl
  | j :: vs, h => by
    simp only [List.mem_cons, not_or] at h
    show (wipeE (env.set i v) vs).set j none = ((wipeE env vs).set j none).set i v
    rw [wipeE_comm h.2, List.set_comm _ _ h.1]
theorem setAll_wipe : ∀ {is : List Nat} {ds : List D} {env env' : Env}, is.Nodup → setAll is ds env = some env' → setAll is ds (wipeE env is) = some env'
  | [], [], env, env', _, h => h
  | [], _ :: _, _, _, _, h => by cases h
  | _ :: _, [], _, _, _, h => by cases h
  | i :: is, d :: ds, env, env', nd, h => by
    simp only [List.nodup_cons] at nd
    show setAll is ds (((wipeE env is).set i none).set i (some d)) = some env'
    rw [List.set_set, ← wipeE_comm nd.1]
    exact setAll_wipe nd.2 h
theorem bindT_wipe {tg : Tg} {d : D} {M : Mm} {env env' : Env} (nd : (tgIx tg).Nodup) (h : bindT tg d M env = some env') : bindT tg d M (wipeE env (tgIx tg)) = some env' := by
  cases tg with
  | nm i =>
    show some (((env.set i none)).set i (some d)) = some env'
    rw [List.set_set]; exact h
  | tp is =>
    unfold bindT at h ⊢
    cases d with
    | tup ds => exact setAll_wipe nd h
    | _ => cases h
theorem Sta.wipe {σ : St} {H : Hp} {env : Env} {M : Mm} (st : Sta c σ H env M) (hc : c.cur = none) : ∀ (vs : List Nat), Sta c (L2.wipe σ vs) H (wipeE env vs) M
  | [] => st
  | v :: vs => (Sta.wipe st hc vs).unset v none (by unfold Cfg.at; rw [hc])
def SatG (c : Cfg) (g : TG) (tg : Tg) : Prop := ∀ Z σ H env M v d env' k, Sta (c.z Z) σ H env M → Rep (c.z Z) H M v d → bindT tg d M env = some env' →
  (∀ σ', Sta (c.z Z) σ' H env' M → L2.wipe σ' (tgIx tg) = L2.wipe σ (tgIx tg) → k σ' H) → g v σ H k
def SatGs (c : Cfg) (g : TGs) (is : List Nat) : Prop := ∀ Z σ H env M vs ds env' k, Sta (c.z Z) σ H env M → Reps (c.z Z) H M vs ds → setAll is ds env = some env' →
  (∀ σ', Sta (c.z Z) σ' H env' M → (∀ js, (∀ i ∈ is, i ∈ js) → L2.wipe σ' js = L2.wipe σ js) → k σ' H) → g vs σ H k
theorem sat_gs (h : ∀ i ∈ ([] : List Nat), True) : SatGs c gNil [] := fun Z σ H env M vs ds env' k st r e hk => by
  cases ds with
  | nil => cases r; cases e; exact ⟨rfl, hk σ st fun _ _ => rfl⟩
  | cons _ _ => cases e
theorem sat_gcons {i : Nat} {is : List Nat} {g : TGs} (hi : c.at i = false) (h : SatGs c g is) : SatGs c (gCons (gName i) g) (i :: is) := fun Z σ H env M vs ds env' k st r e hk => by
  cases ds with
  | nil => cases e
  | cons d ds =>
    cases r with
    | cons a r =>
      refine ⟨_, _, rfl, ?_⟩
      refine h Z _ H _ M _ ds env' k (st.set a i hi) r e fun σ' st' hw => hk σ' st' fun js hj => ?_
      rw [hw js fun x hx => hj x (List.mem_cons_of_mem _ hx), wipe_set (hj i List.mem_cons_self)]
theorem sat_gname {i : Nat} (hi : c.at i = false) : SatG c (gName i) (.nm i) := fun Z σ H env M v d env' k st r e hk => by
  cases e
  exact hk _ (st.set r i hi) (wipe_set List.mem_cons_self)
theorem sat_gtup {K : PySem.W.Frag} (hK : K = c.K) {is : List Nat} {g : TGs} (h : SatGs c g is) : SatG c (gTup K is.length g) (.tp is) := fun Z σ H env M v d env' k st r e hk => by
  subst hK
  unfold bindT at e
  cases d with
  | tup ds =>
    cases r with
    | tup h1 n z q =>
      refine ⟨_, _, rfl, SqT.of h1, ?_, h Z σ H env M _ ds env' k st q e fun σ' st' hw => hk σ' st' (hw _ fun _ h => h)⟩
      rw [q.len]
      exact setAll_len e
  | _ => cases e
where setAll_len : ∀ {is : List Nat} {ds : List D} {env env' : Env}, setAll is ds env = some env' → ds.length = is.length
  | [], [], _, _, _ => rfl
  | [], _ :: _, _, _, h => by cases h
  | _ :: _, [], _, _, h => by cases h
  | _ :: is, _ :: ds, _, _, h => by simp [setAll_len (is := is) (ds := ds) h]
end
end L3
set_option maxRecDepth 100000
set_option maxHeartbeats 4000000
namespace L3
open PySem L2
section
variable {X : Cx} {c : Cfg} {T : Tab} {N : List PySem.Str} {sc : Scope} {W : WX}
/-! ### targets as read -/
theorem N_get {i : Nat} {x : PySem.Str} (O : COk c T N sc X W) (h : N[i]? = some x) : X.N[i]? = some x := by rw [O.N]; exact h
/-- a name that is set in a context -/
def SetB (X : Cx) (x : PySem.Str) : Prop := Loc X.env.scope x ∧ (X.fn x = true ∨ X.env.scope.names.lookup x = some .local)
theorem gname_ok {i : Nat} {x : PySem.Str} {p : Pos} (nd : X.N.Nodup) (h : X.N[i]? = some x) (hs : SetB X x) : PG X (.Name x p) (gName i) := pg_name nd h hs.1 hs.2
theorem mNm_of {s : Scope} {i : Nat} {e : Expr} (h : mNm N s i e = true) : ∃ x p, e = .Name x p ∧ N[i]? = some x ∧ locB s x = true := by
  cases e with
  | Name x p => simp only [mNm, Bool.and_eq_true, decide_eq_true_eq] at h; exact ⟨x, p, rfl, h.1, h.2⟩
  | _ => simp [mNm] at h
def gNms : List Nat → TGs
  | [] => gNil
  | i :: is => gCons (gName i) (gNms is)
theorem gnms_ok (nd : X.N.Nodup) {s : Scope} (hs : ∀ x, locB s x = true → SetB X x) (hN : X.N = N) : ∀ {is : List Nat} {es : List Expr}, mNms N s is es = true →
    PGs X es (gNms is) ∧ (assignEach es X.env).length = is.length ∧ (assignEach es X.env).findIdx? (·.1) = none
  | [], [], _ => ⟨pgs_nil, rfl, rfl⟩
  | [], _ :: _, h => by simp [mNms] at h
  | _ :: _, [], h => by simp [mNms] at h
  | i :: is, e :: es, h => by
    simp only [mNms, Bool.and_eq_true] at h
    obtain ⟨x, p, rfl, h1, h2⟩ := mNm_of h.1
    obtain ⟨g1, g2, g3⟩ := gnms_ok nd hs hN (is := is) (es := es) h.2
    refine ⟨pgs_cons (gname_ok nd (by rw [hN]; exact h1) (hs x h2)) g1, ?_, ?_⟩
    · show (_ :: assignEach es X.env).length = _
      simp [g2]
    · show List.findIdx? _ ((false, _) :: assignEach es X.env) = none
      rw [List.findIdx?_cons]
      simp [g3]
def gTg (K : PySem.W.Frag) : Tg → TG
  | .nm i => gName i
  | .tp is => gTup K is.length (gNms is)
theorem gtg_ok (hc : X.calm = true) (nd : X.N.Nodup) {s : Scope} (hs : ∀ x, locB s x = true → SetB X x) (hN : X.N = N) {tg : Tg} {e : Expr} (h : mTg N s tg e = true) : PG X e (gTg X.K tg) := by
  cases tg with
  | nm i =>
    obtain ⟨x, p, rfl, h1, h2⟩ := mNm_of h
    exact gname_ok nd (by rw [hN]; exact h1) (hs x h2)
  | tp is =>
    cases e with
    | Tuple es kk p =>
      simp only [mTg, Bool.and_eq_true, decide_eq_true_eq] at h
      obtain ⟨g1, g2, g3⟩ := gnms_ok nd hs hN h.1
      exact pg_tup hc g1 g2 g3
    | _ => simp [mTg] at h
theorem mTg_tp {s : Scope} {tg : Tg} {e : Expr} (h : mTg N s tg e = true) : (isTp tg = true → ∃ elts kk tpos, e = .Tuple elts kk tpos) ∧ (tgIx tg).Nodup := by
  cases tg with
  | nm i => exact ⟨fun e => (nomatch e), by simp [tgIx]⟩
  | tp is =>
    cases e with
    | Tuple es kk p =>
      simp only [mTg, Bool.and_eq_true, decide_eq_true_eq] at h
      exact ⟨fun _ => ⟨_, _, _, rfl⟩, h.2⟩
    | _ => simp [mTg] at h
theorem sat_gnms (hc : c.cur = none) : ∀ (is : List Nat), SatGs c (gNms is) is
  | [] => sat_gs fun _ h => nomatch h
  | i :: is => sat_gcons (by unfold Cfg.at; rw [hc]) (sat_gnms hc is)
theorem sat_gtg {K : PySem.W.Frag} (hK : K = c.K) (hc : c.cur = none) : ∀ (tg : Tg), SatG c (gTg K tg) tg
  | .nm i => sat_gname (by unfold Cfg.at; rw [hc])
  | .tp is => sat_gtup hK (sat_gnms hc is)
/-! ### a comprehension's block -/
abbrev Wno : WX := fun _ _ _ _ => False
theorem COk.blk (O : COk c T N sc X W) (hh : c.hot = false) (scope : Scope) (s : Shared) (H : Hp) (C : Addr) (cl : List (PySem.Str × Addr)) (fp : List Addr) : COk c T N (relS scope sc) (X.blk s H scope (compEnvC scope cl C X.env) fp) Wno where
  N := O.N
  nd := O.nd
  sc := by
    show (compEnvC scope cl C X.env).scope = _
    rw [← O.sc]; rfl
  calm := O.calm
  K := O.K
  bi := O.bi
  tk := takes_none5
  hu := O.hu
  fn := O.fn
  mt := O.mt
  cl := O.cl
  gl := O.gl
  cls := O.cls
  fl := O.fl
  flT := O.flT
  flM := O.flM
  sub := O.sub
  own := O.own
  icl := O.icl
  clsG := O.clsG
  isO := O.isO
  isI := O.isI
  isX := O.isX
  exm := O.exm
  xc := O.xc
  cur := fun i a n dd e => by rw [(O.calm hh).2] at e; cases e
theorem blk_set (O : COk c T N sc X W) (scope : Scope) (s : Shared) (H : Hp) (C : Addr) (cl : List (PySem.Str × Addr)) (fp : List Addr) : ∀ x, locB scope x = true → SetB (X.blk s H scope (compEnvC scope cl C X.env) fp) x := fun x h => by
  have e : ∀ k, k ≠ .free → scope.names.lookup x = some k → (compEnvC scope cl C X.env).scope.names.lookup x = some k := fun k hk hx => lookup_relS_keep (sc := X.env.scope) hk hx
  unfold locB at h
  split at h
  · rename_i hx
    exact ⟨.inl (e _ (by decide) hx), .inr (e _ (by decide) hx)⟩
  · rename_i hx
    refine ⟨.inr (e _ (by decide) hx), .inl ?_⟩
    show (scope.names.lookup x == some .cell) = true
    rw [hx]; rfl
  · cases h
theorem upd_self {H : Hp} {a : Addr} {o : HO} (h : H a = some o) : upd H a o = H := by
  funext b
  by_cases e : b = a
  · subst e; rw [upd_same, h]
  · rw [upd_ne e]
theorem drop_cons {α : Type} {xs : List α} {i : Nat} (h : i < xs.length) : xs.drop i = xs[i] :: xs.drop (i + 1) := by
  rw [List.drop_eq_getElem_cons h]
theorem wipe_skip {v : Nat} {o x : Option V} : ∀ {vs : List Nat} {τ : St}, (L2.wipe (τ.set v o) vs).set v x = (L2.wipe τ vs).set v x
  | [], τ => by show (τ.set v o).set v x = τ.set v x; rw [List.set_set]
  | j :: vs, τ => by
    show ((L2.wipe (τ.set v o) vs).set j none).set v x = ((L2.wipe τ vs).set j none).set v x
    by_cases e : j = v
    · subst e; rw [List.set_set, List.set_set, wipe_skip]
    · rw [List.set_comm _ _ e, wipe_skip, List.set_comm _ _ e]
theorem wipe_wipe {σ : St} : ∀ {vs : List Nat}, L2.wipe (L2.wipe σ vs) vs = L2.wipe σ vs
  | [] => rfl
  | v :: vs => by
    show (L2.wipe ((L2.wipe σ vs).set v none) vs).set v none = (L2.wipe σ vs).set v none
    rw [wipe_skip, wipe_wipe]
theorem Sta.zstp {σ : St} {H H' : Hp} {env : Env} {M M' : Mm} {Z Z' : Addr → Prop} (st : Sta (c.z Z) σ H env M) (hz : ∀ a, Z' a → Z a ∨ H a = none) (s : Stp H M H' M') (ok : Cells (c.z Z') H' M') : Sta (c.z Z') σ H' env M' :=
  ⟨ok, st.len, fun i d e => let ⟨v, h1, h2⟩ := st.env' i d e; ⟨v, h1, (h2.zset' hz).stp s⟩, fun i a n dd e => by
    obtain ⟨h1, fs, h2, h3⟩ := st.cur i a n dd e
    refine ⟨h1, fs, h2, h3.imp id ?_⟩
    rintro ⟨x, vs, e1, e2, e3, e4, ne⟩
    exact ⟨x, vs, e1, s.keep _ _ e2 e3, s.nn _ (by rw [e2]; exact fun z => nomatch z) e3, (e4.zset (c := c.z Z) hz).view s.view, ne⟩⟩
/-- one clause, with tests or none -/
theorem lc_sat (O : COk c T N sc X W) (hh : c.hot = false) {m : Bool} {tg : Tg} {k : ItK} {ss : List SE} {cs es : SE} {wi : TI} {tt : TT} {te : TE} (hi : SatI c T W wi k ss) (ht : SatT c Wno tt (wE T cs)) (he' : SatE c Wno te (wE T es)) (nd : (tgIx tg).Nodup) :
    SatE c W (tLc wi (gTg X.K tg) tt te (tgIx tg)) (wE T (.comp m tg k ss cs es)) := fun Z σ H env M Q E kk st q he hk => by
  have hcur := (O.calm hh).2
  have hg := sat_gtg (c := c) O.K hcur tg
  have q : wEs T ss env M (fun ds M1 => compQ (fun items M' => itD k ds M' = some items) (fun env M Q => wE T cs env M Q (fun _ _ => False)) (fun env M Q => wE T es env M Q (fun _ _ => False)) tg env (itD k ds M1) M1 fun acc M2 => alL m acc M2 Q) E := q
  refine hi Z σ H env M (fun ds items M1 => cnd (items.length ≤ sizeLine) (compL (fun M' => itD k ds M' = some items) (fun env M Q => wE T cs env M Q (fun _ _ => False)) (fun env M Q => wE T es env M Q (fun _ _ => False)) tg env items [] M1 fun acc M2 => alL m acc M2 Q)) E _ st q he fun J H1 M1 ds items s1 ok1 e1 q1 its => fun D hD => ?_
  obtain ⟨hlen, q1⟩ := q1
  have st1 := st.stp s1 ok1
  have J0 := its (fun b => Z b ∨ b = D) fun a z => z.imp id fun e => by rw [e]; exact hD
  have hid : Hid (upd H1 D (.lst [])) D := .inl ⟨_, upd_same⟩
  have stD := st1.hide hD hid
  have hM1D : M1 D = none := ok1.fresh hD
  have nzD : ¬ Z D := fun z => by
    obtain ⟨o, h⟩ := (ok1.z D z).1.there
    rw [hD] at h; cases h
  refine ⟨fun i n H2 => n = items.length - i ∧ i ≤ items.length ∧ ∃ M2 vacc acc, Stp H1 M1 H2 M2 ∧ Cells (c.z fun b => Z b ∨ b = D) H2 M2 ∧ H2 D = some (.lst vacc) ∧ Reps (c.z fun b => Z b ∨ b = D) H2 M2 vacc acc ∧ acc.length ≤ i ∧
    compL (fun M' => itD k ds M' = some items) (fun env M Q => wE T cs env M Q (fun _ _ => False)) (fun env M Q => wE T es env M Q (fun _ _ => False)) tg env (items.drop i) acc M2 fun acc M2 => alL m acc M2 Q, ⟨_, rfl, Nat.zero_le _, M1, [], [], stp_new ok1 hD, stD.cells, upd_same, .nil, Nat.le_refl _, q1⟩, ?_⟩
  rintro i n H2 ⟨rfl, hle, M2, vacc, acc, s2, ok2, hD2, racc, hacc, q2⟩
  by_cases hlt : i < items.length
  · rw [drop_cons hlt] at q2
    obtain ⟨ch, q2⟩ := q2
    obtain ⟨env', eb, q2⟩ := obn_of q2
    obtain ⟨J1, _⟩ := J0 H2 M2 s2 ok2 ch
    obtain ⟨go, yl⟩ := J1 i items[i] (by rw [List.getElem?_eq_getElem hlt])
    refine .inr ⟨go, fun H' => ∃ M2 vacc acc, Stp H1 M1 H' M2 ∧ Cells (c.z fun b => Z b ∨ b = D) H' M2 ∧ H' D = some (.lst vacc) ∧ Reps (c.z fun b => Z b ∨ b = D) H' M2 vacc acc ∧ acc.length ≤ i + 1 ∧
      compL (fun M' => itD k ds M' = some items) (fun env M Q => wE T cs env M Q (fun _ _ => False)) (fun env M Q => wE T es env M Q (fun _ _ => False)) tg env (items.drop (i + 1)) acc M2 fun acc M2 => alL m acc M2 Q, fun H' w => ⟨items.length - (i + 1), by omega, rfl, hlt, w⟩, fun x H3 y => ?_⟩
    obtain ⟨s3, ok3, rx⟩ := yl x H3 y
    have stw : Sta (c.z fun b => Z b ∨ b = D) (L2.wipe σ (tgIx tg)) H3 (wipeE env (tgIx tg)) M2 := (st1.zstp (Z' := fun b => Z b ∨ b = D) (fun a z => z.imp id fun e => by rw [e]; exact hD) (s2.trans s3) ok3).wipe hcur (tgIx tg)
    refine hg _ _ H3 _ M2 x _ env' _ stw rx (bindT_wipe nd eb) fun σ' st' hw => ⟨by rw [hw]; exact wipe_wipe, ?_⟩
    refine ht _ σ' H3 env' M2 _ _ _ st' q2 Exc.none fun b H4 M4 s4 ok4 q4 => ?_
    have hM4 : M4 D = none := (ok4.z D (.inr rfl)).2
    cases b with
    | false =>
      rw [if_neg Bool.false_ne_true]
      exact ⟨M4, vacc, acc, s2.trans (s3.trans s4), ok4, s4.keep _ _ (s3.keep _ _ hD2 (ok2.z D (.inr rfl)).2) (ok3.z D (.inr rfl)).2, (racc.stp s3).stp s4, Nat.le_succ_of_le hacc, q4⟩
    | true =>
      rw [if_pos rfl]
      refine he' _ σ' H4 env' M4 _ _ _ (st'.stp s4 ok4) q4 Exc.none fun v H5 d M5 s5 ok5 r5 q5 => ?_
      have k5 : H5 D = some (.lst vacc) := s5.keep _ _ (s4.keep _ _ (s3.keep _ _ hD2 (ok2.z D (.inr rfl)).2) (ok3.z D (.inr rfl)).2) hM4
      have ra5 := ((racc.stp s3).stp s4).stp s5
      refine ⟨vacc, k5, by rw [racc.len]; exact Nat.lt_of_le_of_lt hacc (Nat.lt_of_lt_of_le hlt hlen), M5, vacc ++ [v], acc ++ [d], stp_rev ok1 hD (s2.trans (s3.trans (s4.trans s5))) fun _ _ => rfl, cells_hid ok5 (.inr rfl) (.inl ⟨_, upd_same⟩), upd_same, ?_, by simp; omega, q5⟩
      exact (ra5.append (.one r5)).view (view_hid (c := c.z fun b => Z b ∨ b = D) (.inr rfl))
  · have e : i = items.length := by omega
    subst e
    rw [List.drop_length] at q2
    obtain ⟨ch, q2⟩ := q2
    obtain ⟨_, J2⟩ := J0 H2 M2 s2 ok2 ch
    refine .inl ⟨J2 _ (Nat.le_refl _), ?_⟩
    have hM2 : M2 D = none := (ok2.z D (.inr rfl)).2
    have zl : vacc.length ≤ sizeLine := by rw [racc.len]; omega
    rw [← upd_self hD2]
    cases m with
    | true =>
      have s3 := stp_rev (o := .lst vacc) (M3 := up M2 D (.lst acc)) ok1 hD s2 fun b hb => up_ne hb
      have vw := view_rev (c := c) (H2 := H2) (Z := Z) (a := D) (o := .lst vacc) (M2 := M2) (M3 := up M2 D (.lst acc)) fun b hb => up_ne hb
      have r3 := (racc.view vw).zset (c := c.z fun b => Z b ∨ b = D) (Z := Z) fun b z => .inl (.inl z)
      exact hk _ _ _ _ (s1.trans s3) (cells_rev nzD ok2 (fun b hb => up_ne hb) fun x e => by rw [up_same] at e; cases e; exact .lst upd_same zl r3) (.ref D) (q2 D hM2)
    | false =>
      have s3 := stp_rev (o := .lst vacc) (M3 := M2) ok1 hD s2 fun b hb => rfl
      have vw := view_rev (c := c) (H2 := H2) (Z := Z) (a := D) (o := .lst vacc) (M2 := M2) (M3 := M2) fun b hb => rfl
      have r3 := (racc.view vw).zset (c := c.z fun b => Z b ∨ b = D) (Z := Z) fun b z => .inl (.inl z)
      exact hk _ _ _ _ (s1.trans s3) (cells_rev nzD ok2 (fun b hb => rfl) fun x e => by rw [hM2] at e; cases e) (.lst upd_same ⟨hM2, nzD⟩ zl r3) q2
end
end L3
set_option maxRecDepth 100000
set_option maxHeartbeats 8000000
namespace L3
open PySem L2 PySem.SeqAt
open PySem.AutoSeq1 (wpAny_loadPart')
open PySem.MeetsSeq PySem.MeetsSeq2 PySem.MeetsSeq3
/-! ### != of lists and tuples whose items are alike -/
section
variable {prog : Program} {w : World}
def LAt (h : Heap) (T : String) (a : Addr) (us : Array Value) (d : Option Addr) (m : Nat) (sl : Array (Option Value)) : Prop := h.get? a = some { cls := .type T, dict := d, data := .seq us m, slots := sl }
def Same2 (prog : Program) (w : World) (A : Around) (s : Shared) (us ws : Array Value) : Prop := ∀ j (h1 : j < us.size) (h2 : j < ws.size), EqIn prog w A s us[j] ws[j] true
theorem neL_loop {l r : Addr} {us ws : Array Value} {m m' : Nat} {d d' : Option Addr} {sl sl' : Array (Option Value)} (sz : us.size = ws.size) : ∀ k i : Nat, i + k = us.size →
    MeetsIn prog w (Builtin.«list.__eq__.loop» ⟨[.ref l, .ref r, rawInt i, rawInt 3], []⟩) fun A R s => LAt s.heap "list" l us d m sl ∧ LAt s.heap "list" r ws d' m' sl' ∧ Same2 prog w A.in1 s us ws ∧ R (.ok (.ret (.bool false))) s
  | 0, i, hk, A, R, s, h => by
    obtain ⟨hp, g, q, tk, os⟩ := s; obtain ⟨h1, h2, he, hR⟩ := h
    unfold LAt at h1 h2
    have n1 : us[((i : Nat) : Int).toNat]? = none := by simp; omega
    have n2 : ws[((i : Nat) : Int).toNat]? = none := by simp; omega
    wp_walk using wpAny_loadPart' h1, wpAny_loadPart' h2
    rw [n1, n2]; wp_walk using wpAny_loadPart' h1, wpAny_loadPart' h2
    have e : (us.size != ws.size) = false := by simp [sz]
    show R (.ok (.ret (.bool (us.size != ws.size)))) ⟨hp, g, q, tk, os⟩
    rw [e]; exact hR
  | k + 1, i, hk, A, R, s, h => by
    obtain ⟨hp, g, q, tk, os⟩ := s; obtain ⟨h1, h2, he, hR⟩ := h
    unfold LAt at h1 h2
    have t1 : i < us.size := by omega
    have t2 : i < ws.size := by omega
    have n1 : us[((i : Nat) : Int).toNat]? = some us[i] := by simp [t1]
    have n2 : ws[((i : Nat) : Int).toNat]? = some ws[i] := by simp [t2]
    have up : ((i : Int) + 1) = ((i + 1 : Nat) : Int) := by omega
    wp_walk using wpAny_loadPart' h1, wpAny_loadPart' h2
    rw [n1, n2]
    refine wpAny_bind (he i t1 t2 _ _ ?_)
    wp_walk; rw [up]
    refine ⟨plainId_quiet plain_eq_loop _, codeAny_builtin entry_eq_loop ?_⟩
    rw [Around.under_plainId plain_eq_loop _]; exact neL_loop sz k (i + 1) (by omega) A R _ ⟨h1, h2, he, hR⟩
theorem neL {l r : Addr} {us ws : Array Value} {m m' : Nat} {d d' : Option Addr} {sl sl' : Array (Option Value)} (sz : us.size = ws.size) :
    MeetsIn prog w (Builtin.«list.__ne__» ⟨[.ref l, .ref r], []⟩) fun A R s => LAt s.heap "list" l us d m sl ∧ LAt s.heap "list" r ws d' m' sl' ∧ Same2 prog w A.in1 s us ws ∧ R (.ok (.ret (.bool false))) s := by
  intro A R s h
  obtain ⟨hp, g, q, tk, os⟩ := s; obtain ⟨h1, h2, he, hR⟩ := h
  unfold LAt at h1 h2
  have f := AutoSeq1.sub_list_list
  have ne : ¬ (us.size != ws.size) = true := by simp [sz]
  wp_walk using wpAny_loadPart' h1, wpAny_loadPart' h2
  refine ⟨plainId_quiet plain_eq_loop _, codeAny_builtin entry_eq_loop ?_⟩
  rw [Around.under_plainId plain_eq_loop _]; exact neL_loop sz us.size 0 (by omega) A R _ ⟨h1, h2, he, hR⟩
theorem neT {l r : Addr} {us ws : Array Value} {m m' : Nat} {d d' : Option Addr} {sl sl' : Array (Option Value)} (sz : us.size = ws.size) :
    MeetsIn prog w (Builtin.«tuple.__ne__» ⟨[.ref l, .ref r], []⟩) fun A R s => LAt s.heap "tuple" l us d m sl ∧ LAt s.heap "tuple" r ws d' m' sl' ∧ Same2 prog w A.in1 s us ws ∧ R (.ok (.ret (.bool false))) s := .of_wp fun A R s h => by
  obtain ⟨hp, g, q, tk, os⟩ := s; obtain ⟨h1, h2, he, hR⟩ := h
  unfold LAt at h1 h2
  have f := AutoSeq1.sub_tuple_tuple
  wp_walk using wpAny_loadPart' h1, wpAny_loadPart' h2, wpAny_forIn_list _ (fun rest t s' => t.1 = none ∧ s' = ⟨hp, g, q, tk, os⟩ ∧ ∃ i, rest = (us.toList.zip ws.toList).drop i) _
  case turn =>
    rintro ⟨y, x⟩ rest t s' ⟨ht, rfl, i, hz⟩
    have lt : i < (us.toList.zip ws.toList).length := Nat.lt_of_not_le fun h' => by rw [List.drop_of_length_le h'] at hz; cases hz
    rw [List.drop_eq_getElem_cons lt] at hz
    have hi : i < us.size ∧ i < ws.size := by simp at lt; omega
    have e := (List.cons.inj hz).1
    rw [List.getElem_zip] at e
    have e1 : y = us[i] := (congrArg Prod.fst e).trans (by simp)
    have e2 : x = ws[i] := (congrArg Prod.snd e).trans (by simp)
    subst e1; subst e2
    refine wpAny_bind (he i hi.1 hi.2 _ _ ?_)
    wp_walk
    exact ⟨rfl, rfl, i + 1, (List.cons.inj hz).2⟩
  case fin =>
    rintro ⟨t1, t2⟩ s' ⟨ht, rfl, _⟩
    have ht : t1 = none := ht
    subst ht; wp_walk
    have e : (us.size == ws.size) = true := by simp [sz]
    exact ⟨_, rfl, by simpa [Builtin.Tuple.tupleCompareSizes, bne, e] using hR⟩
  case h => exact ⟨rfl, rfl, 0, rfl⟩
end
/-! ### data that is alike -/
section
variable {c : Cfg} {H : Hp} {M : Mm} {X : Cx} {pins : List (Addr × Obj)} {σ : St} {s : Shared}
theorem Reps.at : ∀ {vs : List V} {ds : List D}, Reps c H M vs ds → ∀ {j : Nat} {v : V}, vs[j]? = some v → ∃ d, ds[j]? = some d ∧ Rep c H M v d
  | _, _, .nil, _, _, e => by simp at e
  | _, _, .cons r _, 0, _, e => by simp at e; subst e; exact ⟨_, rfl, r⟩
  | _, _, .cons _ q, j + 1, v, e => by
    obtain ⟨d, h1, h2⟩ := Reps.at q (j := j) (v := v) (by simpa using e)
    exact ⟨d, by simpa using h1, h2⟩
theorem Vals.at {vs : List V} {us : List Value} (q : Vals vs us) {j : Nat} {u : Value} (e : us[j]? = some u) : ∃ v, vs[j]? = some v ∧ RelV v u := by
  have hl := q.length
  obtain ⟨h1, h2⟩ := List.getElem?_eq_some_iff.mp e
  have hv : vs[j]? = some (vs[j]'(by omega)) := List.getElem?_eq_getElem (by omega)
  obtain ⟨u', e', r⟩ := q.get hv
  rw [e] at e'
  cases e'
  exact ⟨_, hv, r⟩
theorem KV.at : ∀ {ks : List (Key × V)} {vs : List (Key × Value)}, KV ks vs → ∀ {k : Key} {u : Value}, (k, u) ∈ vs → ∃ v, (k, v) ∈ ks ∧ RelV v u
  | _, _, .nil, _, _, h => nomatch h
  | p :: _, q :: _, .cons r t, k, u, h => by
    rcases List.mem_cons.mp h with e | h
    · subst e
      obtain ⟨r1, r2⟩ := r
      have : p.1 = k := r1
      subst this
      exact ⟨p.2, List.mem_cons_self, r2⟩
    · obtain ⟨v, h1, h2⟩ := KV.at t h
      exact ⟨v, List.mem_cons_of_mem _ h1, h2⟩
theorem RepK.mem : ∀ {ks : List (Key × V)} {kvs : List (D × D)}, RepK c H M ks kvs → ∀ {k : Key} {v : V}, (k, v) ∈ ks → ∃ d, (keyD k, d) ∈ kvs ∧ Rep c H M v d
  | _, _, .nil, _, _, h => nomatch h
  | _, _, .cons r t, k, v, h => by
    rcases List.mem_cons.mp h with e | h
    · cases e; exact ⟨_, List.mem_cons_self, r⟩
    · obtain ⟨d, h1, h2⟩ := RepK.mem t h
      exact ⟨d, List.mem_cons_of_mem _ h1, h2⟩
theorem leaf_flat {v w : V} {x : D} {u r : Value} (hf : flatD x = true) (rv : Rep c H M v x) (rw' : Rep c H M w x) (r1 : RelV v u) (r2 : RelV w r) {n : Nat} : PySem.W.EqTree X.prog X.w s n u r true := by
  cases rv with
  | non => cases rw'; cases r1; cases r2; exact .same
  | bl b => cases rw'; cases r1; cases r2; exact .same
  | int i =>
    cases rw'
    obtain ⟨t, rfl⟩ := r1
    obtain ⟨t', rfl⟩ := r2
    refine .leaf fun A _ => ?_
    have := EqAt.int_int (A := A) (s := s) i t i t'
    rwa [beq_self_eq_true] at this
  | str z =>
    cases rw'
    obtain ⟨t, rfl⟩ := r1
    obtain ⟨t', rfl⟩ := r2
    refine .leaf fun A _ => ?_
    have := EqAt.str_str (A := A) (s := s) z t z t'
    rwa [beq_self_eq_true] at this
  | _ => cases hf
theorem all_t (n : Nat) : ((List.range n).all fun _ => true) = true := List.all_eq_true.mpr fun _ _ => rfl
/-- what the two hold, item by item -/
theorem items_at {vs ws : List V} {ds es : List D} {us rs : List Value} {P : D → D → Prop} {R : Value → Value → Prop} (qa : Reps c H M vs ds) (qb : Reps c H M ws es) (ra : Vals vs us) (rb : Vals ws rs)
    (hP : ∀ (j : Nat) x y, ds[j]? = some x → es[j]? = some y → P x y) (hR : ∀ v w x y u r, Rep c H M v x → Rep c H M w y → RelV v u → RelV w r → P x y → R u r) :
    ∀ j (h1 : j < us.toArray.size) (h2 : j < rs.toArray.size), R us.toArray[j] rs.toArray[j] := fun j h1 h2 => by
  have e1 : us[j]? = some us.toArray[j] := by simp at h1; simp [h1]
  have e2 : rs[j]? = some rs.toArray[j] := by simp at h2; simp [h2]
  obtain ⟨v, f1, g1⟩ := Vals.at ra e1
  obtain ⟨w, f2, g2⟩ := Vals.at rb e2
  obtain ⟨x, k1, l1⟩ := Reps.at qa f1
  obtain ⟨y, k2, l2⟩ := Reps.at qb f2
  exact hR v w x y _ _ l1 l2 g1 g2 (hP j x y k1 k2)
theorem rep_tupv {v : V} {xs : List D} (r : Rep c H M v (.tup xs)) : ∃ a vs, v = .ref a ∧ H a = some (.tup vs) ∧ vs.length ≤ sizeLine ∧ Reps c H M vs xs := by
  cases r with
  | tup h n z q => exact ⟨_, _, rfl, h, z, q⟩
theorem tree_of (ok : Cells c H M) (I : Inv X pins σ H s) : ∀ (n : Nat) (x y : D) (v w : V) (u r : Value), Rep c H M v x → Rep c H M w y → RelV v u → RelV w r → AL M n x y → PySem.W.EqTree X.prog X.w s n u r true
  | 0, x, y, v, w, u, r, rv, rw', r1, r2, ⟨h1, h2⟩ => by subst h2; exact leaf_flat h1 rv rw' r1 r2
  | n + 1, x, y, v, w, u, r, rv, rw', r1, r2, h => by
    rcases h with ⟨h1, h2⟩ | ⟨a, rfl, rfl⟩ | ⟨xs, ys, e1, e2, hl, hh⟩ | ⟨xs, ys, rfl, rfl, hl, hh⟩ | ⟨ks, ls, e1, e2, hl, hh⟩
    · subst h2; exact leaf_flat h1 rv rw' r1 r2
    · cases rv
      cases rw'
      cases r1
      cases r2
      exact .same
    · obtain ⟨a, vs, rfl, ha, _, qa⟩ := rep_lst ok rv e1
      obtain ⟨b, ws, rfl, hb, _, qb⟩ := rep_lst ok rw' e2
      cases r1
      cases r2
      by_cases hab : a = b
      · subst hab; exact .same
      obtain ⟨us, ra, pa, _⟩ := I.list (SqL.of ha)
      obtain ⟨rs, rb, pb, _⟩ := I.list (SqL.of hb)
      have hs : us.toArray.size = rs.toArray.size := by simp [← ra.length, ← rb.length, qa.len, qb.len, hl]
      have t := PySem.W.EqTree.lists (prog := X.prog) (w := X.w) (n := n) (e := fun _ => true) hab pa.isList pb.isList hs (items_at qa qb ra rb hh fun v w x y u r p1 p2 p3 p4 p5 => tree_of ok I n x y v w u r p1 p2 p3 p4 p5)
      rwa [all_t] at t
    · obtain ⟨a, vs, rfl, ha, _, qa⟩ := rep_tupv rv
      obtain ⟨b, ws, rfl, hb, _, qb⟩ := rep_tupv rw'
      cases r1
      cases r2
      by_cases hab : a = b
      · subst hab; exact .same
      obtain ⟨us, ra, pa, _⟩ := I.tuple (SqT.of ha)
      obtain ⟨rs, rb, pb, _⟩ := I.tuple (SqT.of hb)
      have hs : us.toArray.size = rs.toArray.size := by simp [← ra.length, ← rb.length, qa.len, qb.len, hl]
      have t := PySem.W.EqTree.tuples (prog := X.prog) (w := X.w) (n := n) (e := fun _ => true) hab pa pb (items_at qa qb ra rb hh fun v w x y u r p1 p2 p3 p4 p5 => tree_of ok I n x y v w u r p1 p2 p3 p4 p5)
      rw [all_t, hs, beq_self_eq_true] at t
      exact t
    · obtain ⟨a, rfl, ⟨_, ka, ha, _, qa⟩ | ⟨e, _⟩⟩ := rep_dct ok rv e1
      · obtain ⟨b, rfl, ⟨_, kb, hb, _, qb⟩ | ⟨e, _⟩⟩ := rep_dct ok rw' e2
        · cases r1
          cases r2
          by_cases hab : a = b
          · subst hab; exact .same
          obtain ⟨_, ya, va, ra, da⟩ := dk_rd I.hok ha
          obtain ⟨_, yb, vb, rb, db⟩ := dk_rd I.hok hb
          have hs : va.length = vb.length := by rw [← Paired.length ra, ← Paired.length rb, qa.len, qb.len, hl]
          have key : ∀ k u, (k, u) ∈ va → ∃ y, valueAt vb k = some y ∧ PySem.W.EqTree X.prog X.w s n u y true := fun k u hm => by
            obtain ⟨v, m1, rv⟩ := KV.at ra hm
            obtain ⟨d, m2, rd⟩ := qa.mem m1
            obtain ⟨e, g1, al⟩ := hh _ m2
            rcases getK_K qb k with ⟨_, g2⟩ | ⟨v2, d2, g2, g3, r3⟩
            · rw [g1] at g2; cases g2
            · rw [g1] at g3
              cases g3
              have rr := rb.val k
              rw [g2] at rr
              obtain ⟨y, hy, ry⟩ := rr.some_of
              exact ⟨y, hy, tree_of ok I n d _ v v2 u y rd r3 rv ry al⟩
          have t := PySem.W.EqTree.dicts (prog := X.prog) (w := X.w) (n := n) (e := fun _ => true) hab ya yb da db fun k u y hm hv => by
            obtain ⟨y', h1, h2⟩ := key k u hm
            rw [hv] at h1
            cases h1
            exact h2
          have e3 : (va.all fun p => (valueAt vb p.1).isSome && true) = true := List.all_eq_true.mpr fun p hp => by
            obtain ⟨y, h1, _⟩ := key p.1 p.2 hp
            simp [h1]
          rw [e3, hs, beq_self_eq_true] at t
          exact t
        · cases e
      · cases e
/-- what each of the three gives -/
theorem at_cases {n : Nat} {x y : D} {v w : V} {u r : Value} (ok : Cells c H M) (I : Inv X pins σ H s) (rv : Rep c H M v x) (rw' : Rep c H M w y) (r1 : RelV v u) (r2 : RelV w r) (h : AT M n x y) (hn : n ≤ 60) (hu : X.A.units + 70 < cLine) :
    ∃ a b, u = .ref a ∧ r = .ref b ∧ ((∃ us rs : Array Value, s.heap.IsList a us ∧ s.heap.IsList b rs ∧ us.size = rs.size ∧ Same2 X.prog X.w X.A.in1 s us rs) ∨
      (∃ us rs : Array Value, s.heap.IsTuple a us ∧ s.heap.IsTuple b rs ∧ us.size = rs.size ∧ Same2 X.prog X.w X.A.in1 s us rs) ∨
      ∃ va vb : List (Key × Value), (a == sysModules) = false ∧ (b == sysModules) = false ∧ s.heap.DictOf (mixKind X.prog X.w) a va ∧ s.heap.DictOf (mixKind X.prog X.w) b vb ∧ va.length = vb.length ∧ PySem.W.KeqHitsIn X.prog X.w X.A.in1 s vb va true) := by
  have at1 : ∀ {u r : Value}, PySem.W.EqTree X.prog X.w s n u r true → EqIn X.prog X.w X.A.in1 s u r true := fun t => t.at X.A.in1 (by show X.A.units + 1 + _ < cLine; omega)
  rcases h with ⟨xs, ys, e1, e2, hl, hh⟩ | ⟨xs, ys, rfl, rfl, hl, hh⟩ | ⟨ks, ls, e1, e2, hl, hh⟩
  · obtain ⟨a, vs, rfl, ha, _, qa⟩ := rep_lst ok rv e1
    obtain ⟨b, ws, rfl, hb, _, qb⟩ := rep_lst ok rw' e2
    cases r1
    cases r2
    obtain ⟨us, ra, pa, _⟩ := I.list (SqL.of ha)
    obtain ⟨rs, rb, pb, _⟩ := I.list (SqL.of hb)
    exact ⟨a, b, rfl, rfl, .inl ⟨_, _, pa.isList, pb.isList, by simp [← ra.length, ← rb.length, qa.len, qb.len, hl], items_at qa qb ra rb hh fun v w x y u r p1 p2 p3 p4 p5 => at1 (tree_of ok I n x y v w u r p1 p2 p3 p4 p5)⟩⟩
  · obtain ⟨a, vs, rfl, ha, _, qa⟩ := rep_tupv rv
    obtain ⟨b, ws, rfl, hb, _, qb⟩ := rep_tupv rw'
    cases r1
    cases r2
    obtain ⟨us, ra, pa, _⟩ := I.tuple (SqT.of ha)
    obtain ⟨rs, rb, pb, _⟩ := I.tuple (SqT.of hb)
    exact ⟨a, b, rfl, rfl, .inr (.inl ⟨_, _, pa, pb, by simp [← ra.length, ← rb.length, qa.len, qb.len, hl], items_at qa qb ra rb hh fun v w x y u r p1 p2 p3 p4 p5 => at1 (tree_of ok I n x y v w u r p1 p2 p3 p4 p5)⟩)⟩
  · obtain ⟨a, rfl, ⟨_, ka, ha, _, qa⟩ | ⟨e, _⟩⟩ := rep_dct ok rv e1
    · obtain ⟨b, rfl, ⟨_, kb, hb, _, qb⟩ | ⟨e, _⟩⟩ := rep_dct ok rw' e2
      · cases r1
        cases r2
        obtain ⟨_, ya, va, ra, da⟩ := dk_rd I.hok ha
        obtain ⟨_, yb, vb, rb, db⟩ := dk_rd I.hok hb
        refine ⟨a, b, rfl, rfl, .inr (.inr ⟨va, vb, ya, yb, da, db, by rw [← Paired.length ra, ← Paired.length rb, qa.len, qb.len, hl], ?_⟩)⟩
        have key : ∀ k u, (k, u) ∈ va → ∃ y, valueAt vb k = some y ∧ EqIn X.prog X.w X.A.in1 s u y true := fun k u hm => by
          obtain ⟨v, m1, rv⟩ := KV.at ra hm
          obtain ⟨d, m2, rd⟩ := qa.mem m1
          obtain ⟨e, g1, al⟩ := hh _ m2
          rcases getK_K qb k with ⟨_, g2⟩ | ⟨v2, d2, g2, g3, r3⟩
          · rw [g1] at g2; cases g2
          · rw [g1] at g3
            cases g3
            have rr := rb.val k
            rw [g2] at rr
            obtain ⟨y, hy, ry⟩ := rr.some_of
            exact ⟨y, hy, at1 (tree_of ok I n d _ v v2 u y rd r3 rv ry al)⟩
        have all : ∀ l : List (Key × Value), (∀ p ∈ l, p ∈ va) → PySem.W.KeqHitsIn X.prog X.w X.A.in1 s vb l true := fun l => by
          induction l with
          | nil => intro _; exact .nil
          | cons p l ih =>
            intro hp
            obtain ⟨k, u⟩ := p
            obtain ⟨y, h1, h2⟩ := key k u (hp _ List.mem_cons_self)
            have := PySem.W.KeqHitsIn.hit (r := l) (b := true) (k := k) (v := u) h1 h2 (ih fun p hm => hp p (List.mem_cons_of_mem _ hm))
            exact this
        exact all va fun _ h => h
      · cases e
    · cases e
def rAlike (b : Bool) (c : Cfg) : R2 := fun x y H Q => ∃ Z M n dx dy, Cells (c.z Z) H M ∧ Rep (c.z Z) H M x dx ∧ Rep (c.z Z) H M y dy ∧ AT M n dx dy ∧ n ≤ 60 ∧ Q (.bl b) H
theorem op_alikeEq (hu : X.A.units + 70 < cLine) : OpR X (compareOp .Eq) (rAlike true c) := by
  intro pins s σ H x y v u Q I rx ry ⟨Z, M, n, dx, dy, ok, r1, r2, al, hn, q⟩
  have fin : ∀ b : Bool, b = true → ∃ y' H', Inv X pins σ H' s ∧ RelV y' (Value.bool b) ∧ Q y' H' := fun b e => by subst e; exact ⟨.bl true, H, I, rfl, q⟩
  obtain ⟨a, b, rfl, rfl, ⟨us, rs, g1, g2, g3, g4⟩ | ⟨us, rs, g1, g2, g3, g4⟩ | ⟨va, vb, y1, y2, d1, d2, g3, g4⟩⟩ := at_cases ok I r1 r2 rx ry al hn hu
  · exact rcIn_lists (e := fun _ => true) g1 g2 g3 (by omega) g4 (fin _ (all_t _))
  · exact rcIn_tuples (e := fun _ => true) g1 g2 (by omega) g4 (fin _ (by rw [all_t, g3]; simp))
  · exact PySem.W.keq_eqIn y1 y2 d1 d2 (by omega) (fun _ => g4) (fin _ (by simp [g3]))
theorem ne_dict {a b : Addr} {va vb : List (Key × Value)} {A : Around} {prog : Program} {w : World} {E Q : Value → Shared → Prop} (y1 : (a == sysModules) = false) (y2 : (b == sysModules) = false) (d1 : s.heap.DictOf (mixKind prog w) a va) (d2 : s.heap.DictOf (mixKind prog w) b vb) (hl : va.length = vb.length)
    (hu : A.units < cLine) (hits : PySem.W.KeqHitsIn prog w A.in1 s vb va true) (h : Q (.bool false) s) : wpAny (model prog w) A (compareOp .NotEq (.ref a) (.ref b)) Q E s := by
  refine wpAny_richCompare_same_room (op := .NotEq) d1.typeIs d2.typeIs F.slot_dict_ne (wpAny_call_entry F.slot_dict_ne d1.typeIs F.entry_dict_ne ?_ (F.args_dict_ne_2 _ _)) hu
  show wpAny _ _ (Builtin.Dict.dictSlotArgs "__ne__" ⟨[.ref a, .ref b], []⟩ >>= fun p => _) _ _ s
  refine wpAny_bind ?_
  show wpAny _ _ (Builtin.Dict.dictSlotArgs "__ne__" ⟨[.ref a, .ref b], []⟩) (fun r s' => _) _ s
  unfold Builtin.Dict.dictSlotArgs
  refine wpAny_bind (wpAny_notOrdered_dict d1.typeIs (wpAny_pure (wpAny_bind (wpAny_isInstance (T := "dict") d2.typeIs F.sub_dict_dict ?_))))
  rw [if_neg (by decide)]
  refine wpAny_bind (wpAny_pure (wpAny_bind (wpAny_pure (wpAny_bind (PySem.W.keq_samePairsIn y1 y2 d1 d2 (fun _ => hits) ?_)))))
  refine wpAny_pure ⟨_, rfl, (fun x => nomatch x), ?_⟩
  simpa [hl] using h
theorem op_alikeNe (hu : X.A.units + 70 < cLine) : OpR X (compareOp .NotEq) (rAlike false c) := by
  intro pins s σ H x y v u Q I rx ry ⟨Z, M, n, dx, dy, ok, r1, r2, al, hn, q⟩
  have fin : ∃ y' H', Inv X pins σ H' s ∧ RelV y' (Value.bool false) ∧ Q y' H' := ⟨.bl false, H, I, rfl, q⟩
  obtain ⟨a, b, rfl, rfl, ⟨us, rs, g1, g2, g3, g4⟩ | ⟨us, rs, g1, g2, g3, g4⟩ | ⟨va, vb, y1, y2, d1, d2, g3, g4⟩⟩ := at_cases ok I r1 r2 rx ry al hn hu
  · obtain ⟨⟨cl, dd, dt, sl⟩, o1, c1, m1, t1⟩ := id g1
    obtain ⟨⟨cl', dd', dt', sl'⟩, o2, c2, m2, t2⟩ := id g2
    dsimp only at c1 t1 c2 t2
    subst c1 t1 c2 t2
    exact wpAny_richCompare_same_room (T := "list") (op := .NotEq) ⟨_, o1, rfl⟩ ⟨_, o2, rfl⟩ F.slot_list_ne (call_meetsIn F.slot_list_ne ⟨_, o1, rfl⟩ F.entry_list_ne (F.args_list_ne_2 _ _) (neL g3) ⟨o1, o2, g4, (fun x => nomatch x), fin⟩) (by omega)
  · obtain ⟨⟨cl, dd, dt, sl⟩, o1, c1, m1, t1⟩ := id g1
    obtain ⟨⟨cl', dd', dt', sl'⟩, o2, c2, m2, t2⟩ := id g2
    dsimp only at c1 t1 c2 t2
    subst c1 t1 c2 t2
    exact wpAny_richCompare_same_room (T := "tuple") (op := .NotEq) ⟨_, o1, rfl⟩ ⟨_, o2, rfl⟩ F.slot_tuple_ne (call_meetsIn F.slot_tuple_ne ⟨_, o1, rfl⟩ F.entry_tuple_ne (F.args_tuple_ne_2 _ _) (neT g3) ⟨o1, o2, g4, (fun x => nomatch x), fin⟩) (by omega)
  · exact ne_dict y1 y2 d1 d2 g3 (by omega) g4 fin
end
end L3
set_option maxRecDepth 100000
set_option maxHeartbeats 8000000
namespace L3
open PySem L2
/-! ### min, max with a default -/
theorem minI_foldl : ∀ (ns : List Int) (n : Int), ns.foldl min n = minI (n :: ns)
  | [], n => rfl
  | m :: r, n => by
    show r.foldl min (min n m) = min n (minI (m :: r))
    rw [minI_foldl r (min n m)]
    cases r with
    | nil => rfl
    | cons k r => show min (min n m) (minI (k :: r)) = min n (min m (minI (k :: r))); omega
theorem maxI_foldl : ∀ (ns : List Int) (n : Int), ns.foldl max n = maxI (n :: ns)
  | [], n => rfl
  | m :: r, n => by
    show r.foldl max (max n m) = max n (maxI (m :: r))
    rw [maxI_foldl r (max n m)]
    cases r with
    | nil => rfl
    | cons k r => show max (max n m) (maxI (k :: r)) = max n (max m (maxI (k :: r))); omega
theorem depth_ints : ∀ ns : List Int, PyData.depthAll (ns.map PyData.int) = 0
  | [] => rfl
  | n :: r => by
    show max (PyData.depth (.int n)) (PyData.depthAll (r.map PyData.int)) = 0
    rw [depth_ints r]
    rfl
theorem alike_ints (ns : List Int) : PySem.W.AlikeAll (ns.map PyData.int) := by
  refine ⟨fun x hx y hy => ?_, fun x hx e => ?_⟩
  · obtain ⟨i, _, rfl⟩ := List.mem_map.mp hx
    obtain ⟨j, _, rfl⟩ := List.mem_map.mp hy
    rfl
  · obtain ⟨i, _, rfl⟩ := List.mem_map.mp hx
    cases e
def mnI (mx : Bool) (ns : List Int) : Int := match mx with | true => maxI ns | false => minI ns
def rMnD (mx : Bool) (K : PySem.W.Frag) : List V → List V → Hp → VK → Prop := fun xs zs H Q => ∃ (a : Addr) (ns : List Int) (d : V), xs = [.ref a] ∧ zs = [d] ∧ SqL K H a (ns.map V.int) ∧ (ns = [] → Q d H) ∧ (ns ≠ [] → Q (.int (mnI mx ns)) H)
theorem cr_mnD {X : Cx} (hc : X.calm = true) (hu : X.A.units + 70 < cLine) (mx : Bool) : CallRK X (.builtin (if mx = true then "max" else "min")) ["default"] (rMnD mx X.K) := by
  intro pins s σ H xs zs us ws Q I r1 r2 ⟨a, ns, d, e1, e2, hs, q0, q1⟩
  subst e1 e2
  obtain ⟨its, rv, hl, _⟩ := I.list hs
  rw [Vals.ref1 r1]
  cases r2 with
  | @cons _ w _ _ rd t =>
  cases t
  have hi := rv.ints
  have hr := PySem.W.readsAll_of_ints (h := s.heap) hi
  have k0 : ns.map PyData.int = [] → ns = [] := fun e => by cases ns <;> simp_all
  show wpAny _ _ (call _ [.ref a] [(PySem.Str.ofString "default", w)]) _ _ _
  cases mx with
  | false =>
    refine PySem.W.min_list_default (I.ok.hd hc) hl.isList (by simpa using hr) (alike_ints ns) (by rw [depth_ints]; omega) (fun e h' tk k => ⟨d, H, I.kept k, rd, q0 (k0 e)⟩) fun y ys i v h' tk bs e hv rd' k => ?_
    cases ns with
    | nil => cases e
    | cons n r =>
      rw [List.map_cons] at e
      cases e
      rw [PySem.W.minD_ints] at rd'
      cases rd' with
      | int _ t => exact ⟨.int _, H, I.kept k, ⟨_, by rw [minI_foldl]; rfl⟩, q1 (fun e => by cases e)⟩
  | true =>
    refine PySem.W.max_list_default (I.ok.hd hc) hl.isList (by simpa using hr) (alike_ints ns) (by rw [depth_ints]; omega) (fun e h' tk k => ⟨d, H, I.kept k, rd, q0 (k0 e)⟩) fun y ys i v h' tk bs e hv rd' k => ?_
    cases ns with
    | nil => cases e
    | cons n r =>
      rw [List.map_cons] at e
      cases e
      rw [PySem.W.maxD_ints] at rd'
      cases rd' with
      | int _ t => exact ⟨.int _, H, I.kept k, ⟨_, by rw [maxI_foldl]; rfl⟩, q1 (fun e => by cases e)⟩
section
variable {X : Cx} {c : Cfg} {T : Tab} {N : List PySem.Str} {sc : Scope} {W : WX}
theorem mn_name : ("min" : PySem.Str) ∈ bnames ∧ ("max" : PySem.Str) ∈ bnames := by decide +kernel
theorem snd_mnD {m : Bool} {a b : SE} {e f : Expr} {p q pos : Pos} (hh : c.hot = false) (ha : Snd c T N sc a e) (hb : Snd c T N sc b f) (hm : mE N a sc e = true) (hg : glB sc (PySem.Str.ofString (if m = true then "max" else "min")) = true) : Snd c T N sc (.mnD m a b) (.Call (.Name (PySem.Str.ofString (if m = true then "max" else "min")) p) [e] [⟨some "default", f, q⟩] pos) := fun X W O => by
  obtain ⟨⟨ta, a1, a2⟩, _⟩ := ha X W O
  obtain ⟨⟨tb, b1, b2⟩, _⟩ := hb X W O
  have hc := (O.calm hh).1
  have fe := mE_fine hm
  have pa : PA X [e] (tCons ta tNil) := pa_cons a1 pa_nil (star_cons fe)
  have pk : PK X [⟨some "default", f, q⟩] (tCons tb tNil) := pk_cons b1 pk_nil
  have key : ∀ Z σ H env M Q E (k : VK), Sta (c.z Z) σ H env M → wE T (.mnD m a b) env M Q E → Exc (c.z Z) W σ H M E → Cont (c.z Z) H M Q k → tCKw (rMnD m X.K) (tCons ta tNil) (tCons tb tNil) σ H k := fun Z σ H env M Q E k st q he hk => by
    refine a2 Z σ H env M _ E _ st q he fun x H1 dx M1 s1 ok1 rx g1 => ?_
    refine b2 Z σ H1 env M1 _ E _ (st.stp s1 ok1) g1 (he.stp s1) fun y H2 dy M2 s2 ok2 ry g2 => ?_
    obtain ⟨ds, e1, g2⟩ := obn_of g2
    obtain ⟨is, e2, g2⟩ := obn_of g2
    obtain ⟨a', vs, rfl, h1, _, qq⟩ := rep_lst ok2 (rx.stp s2) e1
    have ev := intsD_rep qq e2
    subst ev
    show rMnD m X.K [V.ref a'] [y] H2 k
    refine ⟨a', is, y, rfl, rfl, by rw [O.K]; exact SqL.of h1, fun e => ?_, fun e => ?_⟩
    · subst e
      exact hk _ _ _ _ (s1.trans s2) ok2 ry g2
    · cases is with
      | nil => exact absurd rfl e
      | cons n r => cases m <;> exact hk _ _ _ _ (s1.trans s2) ok2 (.int _) g2
  obtain ⟨n1, n2⟩ := mn_name
  have hst : backTo pos (starEach [e] X.env) = (false, eval e X.env) :: backTo pos (starEach [] X.env) := by rw [star_cons fe]; rfl
  have hany : (backTo pos (starEach [e] X.env)).any (·.1) = false := by rw [hst]; rfl
  cases m with
  | false => exact Snd.mk O rfl (pe_callBK (cr_mnD hc O.hu false) (gl_of O hg) (O.bi _ n1) PyProof.Rows.boot_min pa pk (by decide +kernel) (by decide +kernel) hst hany) key
  | true => exact Snd.mk O rfl (pe_callBK (cr_mnD hc O.hu true) (gl_of O hg) (O.bi _ n2) PyProof.Rows.boot_max pa pk (by decide +kernel) (by decide +kernel) hst hany) key
end
end L3
set_option maxRecDepth 100000
set_option maxHeartbeats 8000000
namespace L3
open PySem L2
section
variable {X : Cx} {c : Cfg} {T : Tab} {N : List PySem.Str} {sc : Scope} {W : WX}
theorem own_ix (tg : Tg) : (ownOf N tg).map (·.2) = tgIx tg := by
  cases tg with
  | nm i => rfl
  | tp is =>
    show (is.map fun i => (N.getD i "", i)).map (·.2) = is
    rw [List.map_map]
    exact List.map_id is
theorem comp_parts (O : COk c T N sc X W) {m : Bool} {tg : Tg} {k : ItK} {ss : List SE} {cs x : SE} {elt t it : Expr} {ifs : List Expr} {scope : Scope} (hh : c.hot = false) (hi : ItE c T N sc k tg ss it) (htg : mTg N scope tg t = true)
    (hb : blkC N sc scope (ownOf N tg) = true) (hc : (ifs = [] ∧ cs = .bl true) ∨ ∃ y, ifs = [y] ∧ Snd c T N (relS scope sc) cs y) (hx : Snd c T N (relS scope sc) x elt) : ∃ wi tt te, PI X t it wi ∧ BlkOk X.N X.env.scope scope (ownOf N tg) ∧
    (∀ (s : Shared) (H : Hp) (C : Addr) (cl : List (PySem.Str × Addr)) (fp : List Addr), PG (X.blk s H scope (compEnvC scope cl C X.env) fp) t (gTg X.K tg)) ∧
    (∀ (s : Shared) (H : Hp) (C : Addr) (cl : List (PySem.Str × Addr)) (fp : List Addr), PTs (X.blk s H scope (compEnvC scope cl C X.env) fp) ifs tt) ∧
    (∀ (s : Shared) (H : Hp) (C : Addr) (cl : List (PySem.Str × Addr)) (fp : List Addr), PE (X.blk s H scope (compEnvC scope cl C X.env) fp) elt te) ∧
    SatE c W (tLc wi (gTg X.K tg) tt te ((ownOf N tg).map (·.2))) (wE T (.comp m tg k ss cs x)) := by
  obtain ⟨htp, nd⟩ := mTg_tp htg
  obtain ⟨wi, p1, p2⟩ := it_ok (tgE := t) O hi htp
  have ob : BlkOk X.N X.env.scope scope (ownOf N tg) := by rw [O.N, O.sc]; exact blkOk_by hb
  have g : ∀ (s : Shared) (H : Hp) (C : Addr) (cl : List (PySem.Str × Addr)) (fp : List Addr), PG (X.blk s H scope (compEnvC scope cl C X.env) fp) t (gTg X.K tg) := fun s H C cl fp =>
    gtg_ok (X := X.blk s H scope (compEnvC scope cl C X.env) fp) (O.calm hh).1 O.nd (blk_set O scope s H C cl fp) O.N htg
  have te : ∀ (s : Shared) (H : Hp) (C : Addr) (cl : List (PySem.Str × Addr)) (fp : List Addr), PE (X.blk s H scope (compEnvC scope cl C X.env) fp) elt (rdE c Wno (wE T x)) := fun s H C cl fp => hx.pe (O.blk hh scope s H C cl fp)
  rw [own_ix]
  rcases hc with ⟨rfl, rfl⟩ | ⟨y, rfl, hy⟩
  · have sat : SatT c Wno tYes (wE T (.bl true)) := fun Z σ H env M Q E k st q he hk => hk _ _ _ .refl st.cells q
    exact ⟨wi, _, _, p1, ob, g, (fun _ _ _ _ _ => pts_nil), te, lc_sat O hh p2 sat rdE_sat nd⟩
  · have tt : ∀ (s : Shared) (H : Hp) (C : Addr) (cl : List (PySem.Str × Addr)) (fp : List Addr), PTs (X.blk s H scope (compEnvC scope cl C X.env) fp) [y] (rdT c Wno (wE T cs)) := fun s H C cl fp => pts_one (hy.pt (O.blk hh scope s H C cl fp))
    exact ⟨wi, _, _, p1, ob, g, tt, te, lc_sat O hh p2 rdT_sat rdE_sat nd⟩
theorem snd_comp {m : Bool} {tg : Tg} {k : ItK} {ss : List SE} {cs x : SE} {elt t it : Expr} {ifs : List Expr} {scope : Scope} {pos : Pos} (hh : c.hot = false) (hi : ItE c T N sc k tg ss it) (hf : fine it = true) (htg : mTg N scope tg t = true)
    (hb : blkC N sc scope (ownOf N tg) = true) (hc : (ifs = [] ∧ cs = .bl true) ∨ ∃ y, ifs = [y] ∧ Snd c T N (relS scope sc) cs y) (hx : Snd c T N (relS scope sc) x elt) :
    Snd c T N sc (.comp m tg k ss cs x) (.ListComp elt [⟨t, it, ifs, 0⟩] scope pos) := fun X W O => by
  obtain ⟨wi, tt, te, p1, ob, g, h1, h2, sat⟩ := comp_parts (m := m) O hh hi htg hb hc hx
  exact Snd.mk O rfl (pe_lc (pos := pos) (O.calm hh).1 O.nd p1 ob g h1 h2 (noSet hf)) sat
/-! ### isinstance of the exception that is held -/
theorem kit_isXT (O : COk c T N sc X W) {n : Nm} {C : Addr} {t : Ty1} {b : Bool} (hC : c.cls n = some C) (hs : (lk T.sub n).isSome = true) (ht : bttB t = true) (ho : ownOk T [t] = true) (h : isXT T n t = some b) : PySem.W.kitOne X.K (.ref C) (tyU1 c t) = some b := by
  cases t with
  | bt x =>
    have h : some (decide (x = "ValueError")) = some b := h
    rw [← h]
    have := (O.isI n C hC).2 x (by simpa [bttB] using ht)
    rw [xcB, hs, Bool.and_true] at this
    exact this
  | own m =>
    simp only [ownOk, List.all_cons, List.all_nil, Bool.and_true, decide_eq_true_eq] at ho
    obtain ⟨C', hC'⟩ := Option.isSome_iff_exists.mp (O.own m ho)
    obtain ⟨l, hl⟩ := Option.isSome_iff_exists.mp hs
    have h : (match lk T.sub n with | some l => some (decide (m ∈ l)) | none => none) = some b := h
    rw [hl] at h
    show PySem.W.kitOne X.K (.ref C) (.ref ((c.cls m).getD 0)) = some b
    rw [hC', ← h]
    exact (O.isX n l hl C hC).2 m C' hC'
theorem snd_isx {i : Nat} {ts : List Ty1} {x : PySem.Str} {p p2 pos : Pos} {e' : Expr} {a : Addr} {n : Nm} {dd : Option Addr} (hcur : c.cur = some (i, a, n, dd)) (hN : N[i]? = some x) (hv : visB sc x = true) (hn : nmB x = true) (hg : glB sc "isinstance" = true) (ht : mTy sc false ts e' = true) :
    Snd c T N sc (.isx i false ts) (.Call (.Name "isinstance" p) [.Name x p2, e'] [] pos) := fun X W O => by
  obtain ⟨b1, b2, b3⟩ := isi_name
  obtain ⟨n1, n2, n3⟩ := nmB_of hn
  cases ho : ownOk T ts with
  | false =>
    refine snd_no O rfl fun env M Q E q => ?_
    have q : cnd (ownOk T ts = true) _ := q
    exact absurd (q.1.symm.trans ho) (by decide)
  | true =>
    have h1 := pe_var (pos := p2) (N_get O hN) (by rw [O.sc]; exact vis_of hv) n1 n2
    have ht : mTys sc ts [e'] = true := ht
    cases ts with
    | nil => simp [mTys] at ht
    | cons t ts => cases ts with
      | cons _ _ => simp [mTys] at ht
      | nil =>
        have ht1 : mTy1 sc t e' = true := by simpa [mTys] using ht
        obtain ⟨p1, f⟩ := ty_pe O ht1 ho
        have pl : (backTo pos (starEach [e'] X.env)).any (·.1) = false := by rw [star_cons f]; rfl
        have keyq : ∀ {Z σ H env M}, Sta (c.z Z) σ H env M → ∀ {pr : Nm × List (Nm × D)}, excE env i = some pr → pr.1 = n ∧ (pr.2 = [] → dd = none) := fun {Z σ H env M} st {pr} e1 => by
          obtain ⟨hσ, fs, he2, h3⟩ := st.cur i a n dd hcur
          unfold excE at e1
          rw [he2] at e1
          cases e1
          refine ⟨rfl, fun e => ?_⟩
          rcases h3 with h3 | ⟨_, _, _, _, _, _, h3⟩
          · exact h3.1
          · exact absurd e h3
        cases dd with
        | some dd =>
          refine Snd.mk (t := fun _ _ _ => False) O rfl ⟨fun _ _ _ _ _ _ h => h.elim⟩ fun Z σ H env M Q E k st q he hk => ?_
          obtain ⟨_, q⟩ := q
          obtain ⟨pr, e1, hne, q⟩ := obn_of q
          exact absurd ((keyq st e1).2 hne) (by simp)
        | none =>
        obtain ⟨X', oe, pn, C, rfl, hC, hz, hf, hs⟩ := O.cur i a n none hcur
        obtain ⟨l, hl⟩ := Option.isSome_iff_exists.mp hs
        have XC := (O.isX n l hl C hC).1
        refine Snd.mk O rfl (pe_callB (call_isE (pn := pn) XC hz hf) (gl_of O hg) (O.bi _ b3) PyProof.Rows.boot_isinstance (pa_cons h1 (pa_cons p1 pa_nil (star_cons f)) rfl) b2 b1 rfl pl) fun Z σ H env M Q E k st q he hk => ?_
        obtain ⟨_, q⟩ := q
        obtain ⟨pr, e1, hne, q⟩ := obn_of q
        obtain ⟨b, e2, q⟩ := obn_of q
        have hσ := (st.cur i a n none hcur).1
        have := (keyq st e1).1
        refine ⟨_, hσ, tyV1 c t, tyU1 c t, b, rfl, fun u hu => (tyCls c t).eq hu, ?_, hk _ _ _ _ .refl st.cells (.bl b) q⟩
        rw [this] at e2
        exact Ans.one (v := .non) (fun x hx => kit_isXT O hC hs (mTys_btt ht t List.mem_cons_self) ho hx) e2
/-! ### turned lists, lists of a range -/
theorem Reps.reverse {H : Hp} {M : Mm} : ∀ {vs : List V} {ds : List D}, Reps c H M vs ds → Reps c H M vs.reverse ds.reverse
  | _, _, .nil => .nil
  | _, _, .cons a r => by simp only [List.reverse_cons]; exact (Reps.reverse r).append (.one a)
theorem snd_rev {m : Bool} {a : SE} {l : Expr} {k : Nat} {p1 p2 p3 p : Pos} (ha : Snd c T N sc a l) : Snd c T N sc (.rev m a) (.Subscript l (.Slice none none (some (.UnaryOp .USub (.Constant (.int 1) k p1) p2)) p3) p) := fun X W O => by
  obtain ⟨⟨ta, a1, a2⟩, _⟩ := ha X W O
  refine Snd.mk O rfl (pe_revL a1) fun Z σ H env M Q E k st h he hk => ?_
  refine a2 Z σ H env M _ E _ st h he fun x H1 dx M1 s1 ok1 rx q1 => ?_
  have seq : (∀ ds, dx ≠ .tup ds) → (∀ ds, dx ≠ .ro true ds) → (obn (seqD M1 dx) fun ds => alL m ds.reverse M1 Q) → ∃ a xs, x = .ref a ∧ SqL X.K H1 a xs ∧ ∀ p, H1 p = none → k (.ref p) (upd H1 p (.lst xs.reverse)) := fun nt nr h => by
    obtain ⟨ds, e1, h⟩ := obn_of h
    have hl : ∃ a vs, x = .ref a ∧ SqL c.K H1 a vs ∧ vs.length ≤ sizeLine ∧ Reps (c.z Z) H1 M1 vs ds := by
      cases rx with
      | lst h1 n z q => cases e1; exact ⟨_, _, rfl, SqL.of h1, z, q⟩
      | roL h1 z q => cases e1; exact ⟨_, _, rfl, KL.sq h1, z, q⟩
      | roT h1 z q => exact absurd rfl (nr _)
      | tup h1 n z q => exact absurd rfl (nt _)
      | ref a =>
        cases e2 : M1 a with
        | none => simp [seqD, e2] at e1
        | some x =>
          cases x with
          | lst es =>
            simp [seqD, e2] at e1; subst e1
            cases ok1.at' a _ e2 with
            | lst h1 z q => exact ⟨a, _, rfl, SqL.of h1, z, q⟩
          | _ => simp [seqD, e2] at e1
      | _ => cases e1
    obtain ⟨a, vs, rfl, hs, hz, q⟩ := hl
    rw [O.K]
    exact ⟨a, vs, rfl, hs, al_ok ok1 q.reverse (by rw [List.length_reverse]; exact hz) h (hk.stp s1)⟩
  cases dx with
  | tup ds => exact False.elim q1
  | ro t ds => cases t with
    | true => exact False.elim q1
    | false => exact seq (by simp) (by simp) q1
  | lst ds => exact seq (by simp) (by simp) q1
  | ref a => exact seq (by simp) (by simp) q1
  | _ => exact absurd q1 (by simp [revD, obn, seqD])
theorem rng_reps {H : Hp} {M : Mm} (a : Int) (n : Nat) : Reps c H M ((List.range n).map fun i => V.int (a + (i : Nat))) (rngL a n) := by
  unfold rngL
  generalize List.range n = l
  induction l with
  | nil => exact .nil
  | cons i r ih => exact .cons (.int _) ih
theorem snd_lrng {m : Bool} {k : ItK} {ss : List SE} {it : Expr} {es : List Expr} {p pos : Pos} (hh : c.hot = false) (h : SndL c T N sc ss es) (hg : glB sc "list" = true)
    (hk : (k = .rng1 ∧ ∃ b p2 p3, it = .Call (.Name "range" p2) [b] [] p3 ∧ es = [b]) ∨ (k = .rng2 ∧ ∃ b d p2 p3, it = .Call (.Name "range" p2) [b, d] [] p3 ∧ es = [b, d])) (hr : glB sc "range" = true) :
    Snd c T N sc (.lrng m k ss) (.Call (.Name "list" p) [it] [] pos) := fun X W O => by
  have n1 : ("list" : PySem.Str) ∈ bnames ∧ ("range" : PySem.Str) ∈ bnames := by decide +kernel
  have lim : ∀ {a : Int} {n : Nat}, (rngL a n).length = n := fun {a n} => by simp [rngL]
  rcases hk with ⟨rfl, b, p2, p3, rfl, rfl⟩ | ⟨rfl, b, d, p2, p3, rfl, rfl⟩
  · cases h with
    | @cons s _ _ _ hb mb r =>
      cases r
      obtain ⟨⟨tb, b1, b2⟩, _⟩ := hb X W O
      refine Snd.mk O rfl (pe_listRg (O.calm hh).1 (gl_of O hg) (O.bi _ n1.1) (prg_1 (gl_of O hr) (O.bi _ n1.2) b1 (star_cons (mE_fine mb)))) fun Z σ H env M Q E k st q he hk => ?_
      refine b2 Z σ H env M _ E _ st q he fun x H1 dx M1 s1 ok1 rx q1 => ?_
      have q1 : obn (itD .rng1 [dx] M1) fun xs => cnd (xs.length ≤ 1000000) (alL m xs M1 Q) := q1
      obtain ⟨xs, e1, l1, q1⟩ := obn_of q1
      cases dx with
      | int n =>
        rw [rep_int rx]
        have e1 : (if n < 2 ^ 62 ∧ -(2 ^ 62) ≤ n then some (rngL 0 n.toNat) else none) = some xs := e1
        split at e1
        · rename_i hn
          cases e1
          rw [lim] at l1
          refine ⟨n, rfl, ⟨by decide, by decide, by omega, by omega, by omega⟩, ?_⟩
          refine al_ok ok1 ?_ ?_ q1 (hk.stp s1)
          · unfold rgV
            rw [Int.sub_zero]
            exact rng_reps 0 _
          · rw [rgV_length, Int.sub_zero]
            exact Nat.le_trans l1 (by decide)
        · cases e1
      | _ => cases e1
  · cases h with
    | @cons s _ _ _ hb mb r =>
      cases r with
      | @cons s' _ _ _ hd md r =>
        cases r
        obtain ⟨⟨tb, b1, b2⟩, _⟩ := hb X W O
        obtain ⟨⟨td, d1, d2⟩, _⟩ := hd X W O
        refine Snd.mk O rfl (pe_listRg (O.calm hh).1 (gl_of O hg) (O.bi _ n1.1) (prg_2 (gl_of O hr) (O.bi _ n1.2) b1 d1 (star_cons (mE_fine mb)) (star_cons (mE_fine md)) (by rw [star_cons (mE_fine md)]; rfl))) fun Z σ H env M Q E k st q he hk => ?_
        refine b2 Z σ H env M _ E _ st q he fun x H1 dx M1 s1 ok1 rx q1 => ?_
        refine d2 Z σ H1 env M1 _ E _ (st.stp s1 ok1) q1 (he.stp s1) fun y H2 dy M2 s2 ok2 ry q2 => ?_
        have q2 : obn (itD .rng2 [dx, dy] M2) fun xs => cnd (xs.length ≤ 1000000) (alL m xs M2 Q) := q2
        obtain ⟨xs, e1, l1, q2⟩ := obn_of q2
        cases dx with
        | int i =>
          cases dy with
          | int j =>
            rw [rep_int rx, rep_int ry]
            have e1 : (if (-(2 ^ 62) ≤ i ∧ i < 2 ^ 62) ∧ -(2 ^ 62) ≤ j ∧ j < 2 ^ 62 then some (rngL i (j - i).toNat) else none) = some xs := e1
            split at e1
            · rename_i hn
              cases e1
              rw [lim] at l1
              refine ⟨i, j, rfl, rfl, ⟨by omega, by omega, by omega, by omega, by omega⟩, ?_⟩
              refine al_ok ok2 (rng_reps i _) ?_ q2 (hk.stp (s1.trans s2))
              rw [rgV_length]
              exact Nat.le_trans l1 (by decide)
            · cases e1
          | _ => cases e1
        | _ => cases e1
theorem reps_vals {H : Hp} {M : Mm} : ∀ {ks : List (Key × V)} {kvs : List (D × D)}, RepK c H M ks kvs → Reps c H M (ks.map (·.2)) (kvs.map (·.2))
  | _, _, .nil => .nil
  | _, _, .cons rv r => .cons rv (reps_vals r)
theorem snd_lvals {m : Bool} {s : SE} {o : Expr} {p p2 p3 pos : Pos} (hh : c.hot = false) (h : Snd c T N sc s o) (hg : glB sc "list" = true) (hb : supB o = true) (hp : (p2.endLine == p3.line) = true) :
    Snd c T N sc (.lrng m .values [s]) (.Call (.Name "list" p) [.Call (.Attribute o "values" p2) [] [] p3] [] pos) := fun X W O => by
  have n1 : ("list" : PySem.Str) ∈ bnames := by decide +kernel
  obtain ⟨⟨t, h1, h2⟩, _⟩ := h X W O
  refine Snd.mk O rfl (pe_listVals (O.calm hh).1 (pe_lockx h1) (gl_of O hg) (O.bi _ n1) (by decide +kernel) (attrB hb) hp rfl) fun Z σ H env M Q E k st q he hk => ?_
  refine h2 Z σ H env M _ E _ st q he fun v H1 d M1 s1 ok1 r1 q1 => ?_
  have q2 : obn (itD .values [d] M1) fun xs => cnd (xs.length ≤ 1000000) (alL m xs M1 Q) := q1
  obtain ⟨xs, e1, l1, q3⟩ := obn_of q2
  obtain ⟨kvs, ed, rfl⟩ := values_of e1
  cases ed
  refine lock_use (Q := fun x H1 => rLV x H1 k) s1 ok1 r1 fun d ob u H2 ex hd hdc hK hT n s2 ok2 _ => ?_
  obtain ⟨ks, rfl, rk⟩ := hK rfl
  have rr := reps_vals rk
  have lz : (ks.map (·.2)).length ≤ sizeLine := by
    rw [rr.len]
    exact Nat.le_trans l1 (by decide)
  exact ⟨d, ob, ks, ex, hd, by rw [List.length_map] at lz; exact lz, al_ok ok2 rr lz q3 (hk.stp s2)⟩
/-! ### sorted(d.values()), xs[-2::-1] -/
theorem rept_vals {H : Hp} {M : Mm} : ∀ {ks : List (List Key × V)} {kvs : List (D × D)}, RepT c H M ks kvs → Reps c H M (ks.map (·.2)) (kvs.map (·.2))
  | _, _, .nil => .nil
  | _, _, .cons _ rv r => .cons rv (rept_vals r)
theorem snd_svals {m : Bool} {s : SE} {o : Expr} {p p2 p3 pos : Pos} (hh : c.hot = false) (h : Snd c T N sc s o) (hg : glB sc "sorted" = true) (hb : supB o = true) (hp : (p2.endLine == p3.line) = true) :
    Snd c T N sc (.lrng m .svals [s]) (.Call (.Name "sorted" p) [.Call (.Attribute o "values" p2) [] [] p3] [] pos) := fun X W O => by
  have n1 : ("sorted" : PySem.Str) ∈ bnames := by decide +kernel
  obtain ⟨⟨t, h1, h2⟩, _⟩ := h X W O
  refine Snd.mk O rfl (pe_sortVals (O.calm hh).1 h1 (gl_of O hg) (O.bi _ n1) (attrB hb) hp rfl) fun Z σ H env M Q E k st q he hk => ?_
  refine h2 Z σ H env M _ E _ st q he fun v H1 d M1 s1 ok1 r1 q1 => ?_
  have q2 : obn (svalD M1 d) fun xs => cnd (xs.length ≤ 1000000) (alL m xs M1 Q) := q1
  obtain ⟨xs, e1, l1, q3⟩ := obn_of q2
  unfold svalD at e1
  split at e1
  · rename_i kvs e3
    obtain ⟨a, rfl, hD⟩ := rep_dct ok1 r1 e3
    rcases hD with ⟨z, _⟩ | ⟨_, ks, h3, z, rk⟩
    · cases z
    cases e4 : prs (kvs.map (·.2)) with
    | none => rw [e4] at e1; cases e1
    | some ps =>
      rw [e4] at e1; cases e1
      obtain ⟨g1, g2⟩ := prs_rep (rept_vals rk) e4
      refine ⟨a, ks, pkV H1, rfl, h3, fun x hx => let ⟨t, z1, z2, _⟩ := g1 x hx; ⟨t, z1, z2⟩, fun ys p hs hb hn => ?_⟩
      have hp : (ys.map (pkV H1)).Perm ps := by rw [← g2]; exact hb.perm.map _
      have hs2 : (ys.map (pkV H1)).Pairwise fun a b => leP a b = true := by
        refine List.pairwise_map.mpr (hs.imp fun {x y} z => ?_)
        have z : SrtO.lexB (pkV H1 y) (pkV H1 x) = false := z
        have z' : ¬ (SrtO.lexB (pkV H1 y) (pkV H1 x) = true) := by rw [z]; exact Bool.false_ne_true
        rw [SrtO.lexB_iff] at z'
        simp [leP]; omega
      have e5 := sortP_uniq hp hs2
      rw [← e5, List.map_map] at q3
      have rr : Reps (c.z Z) H1 M1 ys (ys.map (prD ∘ pkV H1)) := reps_map ys fun x hx => let ⟨_, _, _, z⟩ := g1 x (hb.perm.subset hx); z
      exact al_ok ok1 rr (by rw [hb.perm.length_eq, List.length_map]; exact z) q3 (hk.stp s1) p hn
  · cases e1
theorem snd_rev2 {m : Bool} {a : SE} {l : Expr} {k k0 : Nat} {p0 p00 p1 p2 p3 p : Pos} (ha : Snd c T N sc a l) : Snd c T N sc (.lrng m .rev2 [a]) (.Subscript l (.Slice (some (.UnaryOp .USub (.Constant (.int 2) k0 p0) p00)) none (some (.UnaryOp .USub (.Constant (.int 1) k p1) p2)) p3) p) := fun X W O => by
  obtain ⟨⟨ta, a1, a2⟩, _⟩ := ha X W O
  refine Snd.mk O rfl (pe_rev2 a1) fun Z σ H env M Q E k st h he hk => ?_
  refine a2 Z σ H env M _ E _ st h he fun x H1 dx M1 s1 ok1 rx q1 => ?_
  have q2 : obn (match lstD M1 dx with | some ds => some ds.dropLast.reverse | none => none) fun xs => cnd (xs.length ≤ 1000000) (alL m xs M1 Q) := q1
  obtain ⟨xs, e1, l1, q3⟩ := obn_of q2
  cases e2 : lstD M1 dx with
  | none => rw [e2] at e1; cases e1
  | some ds =>
    rw [e2] at e1; cases e1
    obtain ⟨a, vs, rfl, hs, hz, q⟩ := rep_lst ok1 rx e2
    rw [O.K]
    refine ⟨a, vs, rfl, SqL.of hs, al_ok ok1 q.dropLast.reverse (by rw [List.length_reverse, List.length_dropLast]; omega) q3 (hk.stp s1)⟩
/-! ### dicts alike, lists of the same places -/
theorem flat_one {H : Hp} {M : Mm} {v w : V} {d : D} (r : Rep c H M v d) (r' : Rep c H M w d) (h : flatD d = true) : w = v ∧ flatB v = true := by
  cases r <;> first | (simp [flatD] at h; done) | (cases r'; exact ⟨rfl, rfl⟩)
theorem same_vals {H : Hp} {M : Mm} {ls : List (Key × V)} {ls' : List (D × D)} (q : RepK c H M ls ls') : ∀ {ks : List (Key × V)} {ks' : List (D × D)}, RepK c H M ks ks' → (∀ p ∈ ks', getK ls' p.1 = some p.2 ∧ flatD p.2 = true) → ∀ p ∈ ks, valV ls p.1 = some p.2 ∧ flatB p.2 = true
  | _, _, .nil, _ => fun _ h => nomatch h
  | _, _, .cons (k := k) (v := v) (d := d) rv r, h => fun p hp => by
    rcases List.mem_cons.mp hp with rfl | hp
    · obtain ⟨h1, h2⟩ := h (keyD k, d) List.mem_cons_self
      rcases getK_K q k with ⟨_, e⟩ | ⟨w, dw, e1, e2, rw'⟩
      · rw [e] at h1; cases h1
      · rw [e2] at h1
        cases h1
        obtain ⟨e3, e4⟩ := flat_one rv rw' h2
        exact ⟨by rw [e1, e3], e4⟩
    · exact same_vals q r (fun p hp => h p (List.mem_cons_of_mem _ hp)) p hp
theorem dk_rep {H : Hp} {M : Mm} {x : V} {d : D} {kvs : List (D × D)} (ok : Cells c H M) (r : Rep c H M x d) (h : dkD M d = some kvs) : ∃ a ks, x = .ref a ∧ H a = some (.dK ks) ∧ RepK c H M ks kvs := by
  cases r with
  | ref a =>
    cases e : M a with
    | none => simp [dkD, e] at h
    | some y => cases y with
      | dct t es => cases t with
        | false =>
          simp [dkD, e] at h
          subst h
          cases ok.at' _ _ e with
          | dK h1 z q => exact ⟨a, _, rfl, h1, q⟩
        | true => simp [dkD, e] at h
      | _ => simp [dkD, e] at h
  | _ => cases h
theorem snd_cmpK {ne : Bool} {a b : SE} {l r : Expr} {p : Pos} (ha : Snd c T N sc a l) (hb : Snd c T N sc b r) (hf : fine r = true) : Snd c T N sc (.cmpK ne a b) (.Compare l [if ne = true then .NotEq else .Eq] [r] p) := fun X W O => by
  obtain ⟨⟨ta, a1, a2⟩, _⟩ := ha X W O
  obtain ⟨⟨tb, b1, b2⟩, _⟩ := hb X W O
  have hu := O.hu
  have core : ∀ {dx dy x y Z H M} {P : Prop}, Cells (c.z Z) H M → Rep (c.z Z) H M x dx → Rep (c.z Z) H M y dy → eqK dx dy M P → P ∧ ∃ a b ks ls, x = .ref a ∧ y = .ref b ∧ H a = some (.dK ks) ∧ H b = some (.dK ls) ∧ ks.length = ls.length ∧ ∀ p ∈ ks, valV ls p.1 = some p.2 ∧ flatB p.2 = true := fun {dx dy x y Z H M P} ok rx ry h => by
    obtain ⟨ks, e1, h⟩ := obn_of h
    obtain ⟨ls, e2, h1, h⟩ := obn_of h
    obtain ⟨a, ks', rfl, ha, qa⟩ := dk_rep ok rx e1
    obtain ⟨b, ls', rfl, hb, qb⟩ := dk_rep ok ry e2
    exact ⟨h, a, b, ks', ls', rfl, rfl, ha, hb, by rw [qa.len, qb.len]; exact h1.1, same_vals qb qa h1.2⟩
  cases ne with
  | true =>
    have r1 := op_ne_dictA (X := X) (by omega)
    have f : ∀ Z σ H env M (k : Bool → Hp → Prop) Q E (KK : VK), Sta (c.z Z) σ H env M → wE T (.cmpK true a b) env M Q E → Exc (c.z Z) W σ H M E → (∀ H' M', Stp H M H' M' → Cells (c.z Z) H' M' → Q (.bl false) M' → KK (.bl false) H') → ta σ H fun x H1 => tb σ H1 fun y H2 => rNeDA x y H2 KK := fun Z σ H env M _ Q E KK st h he hk => by
      refine a2 Z σ H env M _ E _ st h he fun x H1 dx M1 s1 ok1 rx g1 => ?_
      refine b2 Z σ H1 env M1 _ E _ (st.stp s1 ok1) g1 (he.stp s1) fun y H2 dy M2 s2 ok2 ry g2 => ?_
      obtain ⟨q, u1, u2, u3, u4, e1, e2, e3, e4, e5, e6⟩ := core ok2 (rx.stp s2) ry g2
      exact ⟨u1, u2, u3, u4, e1, e2, e3, e4, e5, e6, hk _ _ (s1.trans s2) ok2 q⟩
    exact ⟨⟨_, pe_cmpR r1 a1 b1 (nobe hf), fun Z σ H env M Q E k st h he hk => f Z σ H env M (fun _ _ => True) Q E _ st h he fun H' M' s ok q => hk _ _ _ _ s ok (.bl _) q⟩, _, pt_cmpR r1 a1 b1 (nobe hf), fun Z σ H env M Q E k st h he hk => f Z σ H env M (fun _ _ => True) _ E _ st h he fun H' M' s ok q => ⟨false, rfl, hk _ _ _ s ok q⟩⟩
  | false =>
    have r1 := op_eq_dictA (X := X) (by omega)
    have f : ∀ Z σ H env M (k : Bool → Hp → Prop) Q E (KK : VK), Sta (c.z Z) σ H env M → wE T (.cmpK false a b) env M Q E → Exc (c.z Z) W σ H M E → (∀ H' M', Stp H M H' M' → Cells (c.z Z) H' M' → Q (.bl true) M' → KK (.bl true) H') → ta σ H fun x H1 => tb σ H1 fun y H2 => rEqDA x y H2 KK := fun Z σ H env M _ Q E KK st h he hk => by
      refine a2 Z σ H env M _ E _ st h he fun x H1 dx M1 s1 ok1 rx g1 => ?_
      refine b2 Z σ H1 env M1 _ E _ (st.stp s1 ok1) g1 (he.stp s1) fun y H2 dy M2 s2 ok2 ry g2 => ?_
      obtain ⟨q, u1, u2, u3, u4, e1, e2, e3, e4, e5, e6⟩ := core ok2 (rx.stp s2) ry g2
      exact ⟨u1, u2, u3, u4, e1, e2, e3, e4, e5, e6, hk _ _ (s1.trans s2) ok2 q⟩
    exact ⟨⟨_, pe_cmpR r1 a1 b1 (nobe hf), fun Z σ H env M Q E k st h he hk => f Z σ H env M (fun _ _ => True) Q E _ st h he fun H' M' s ok q => hk _ _ _ _ s ok (.bl _) q⟩, _, pt_cmpR r1 a1 b1 (nobe hf), fun Z σ H env M Q E k st h he hk => f Z σ H env M (fun _ _ => True) _ E _ st h he fun H' M' s ok q => ⟨true, rfl, hk _ _ _ s ok q⟩⟩
theorem refs_vals : ∀ {xs : List V} {us ws : List Value}, Vals xs us → Vals xs ws → (∀ v ∈ xs, ∃ c, v = V.ref c) → us = ws
  | _, _, _, .nil, .nil, _ => rfl
  | _, _, _, .cons a r, .cons b q, h => by
    obtain ⟨c, rfl⟩ := h _ List.mem_cons_self
    cases a
    cases b
    rw [refs_vals r q fun v hv => h v (List.mem_cons_of_mem _ hv)]
def rSameL (b : Bool) (K : PySem.W.Frag) : R2 := fun x y H Q => ∃ a d xs, x = .ref a ∧ y = .ref d ∧ SqL K H a xs ∧ SqL K H d xs ∧ (∀ v ∈ xs, ∃ c, v = V.ref c) ∧ Q (.bl b) H
theorem op_sameNe (hu : X.A.units + 70 < cLine) : OpR X (compareOp .NotEq) (rSameL false X.K) := by
  intro pins s σ H x y v u Q I rx ry h
  obtain ⟨a, d, xs, rfl, rfl, ha, hd, hr, q⟩ := h
  cases (show v = Value.ref a from rx)
  cases (show u = Value.ref d from ry)
  obtain ⟨us, r1, p1, _⟩ := I.list ha
  obtain ⟨ws, r2, p2, _⟩ := I.list hd
  have e := refs_vals r1 r2 hr
  subst e
  have z := SeqAt.RcNeAt.lists (A := X.A) (e := fun _ => true) p1.isList p2.isList rfl (by omega) (fun j h1 h2 => SeqAt.EqAt.same _) X.prog X.w X.xe
  refine z _ ?_
  rw [show ((List.range us.toArray.size).all fun _ => true) = true from List.all_eq_true.mpr fun _ _ => rfl]
  exact ⟨.bl false, H, I, rfl, q⟩
theorem op_sameEq (hu : X.A.units + 70 < cLine) : OpR X (compareOp .Eq) (rSameL true X.K) := by
  intro pins s σ H x y v u Q I rx ry h
  obtain ⟨a, d, xs, rfl, rfl, ha, hd, hr, q⟩ := h
  cases (show v = Value.ref a from rx)
  cases (show u = Value.ref d from ry)
  obtain ⟨us, r1, p1, _⟩ := I.list ha
  obtain ⟨ws, r2, p2, _⟩ := I.list hd
  have e := refs_vals r1 r2 hr
  subst e
  have z := SeqAt.RcAt.lists (A := X.A) (e := fun _ => true) p1.isList p2.isList rfl (by omega) (fun j h1 h2 => SeqAt.EqAt.same _) X.prog X.w X.xe
  refine z _ ?_
  rw [show ((List.range us.toArray.size).all fun _ => true) = true from List.all_eq_true.mpr fun _ _ => rfl]
  exact ⟨.bl true, H, I, rfl, q⟩
theorem Reps.refs {H : Hp} {M : Mm} : ∀ {vs : List V} {ds : List D}, Reps c H M vs ds → (∀ d ∈ ds, ∃ a, d = D.ref a) → ∀ {ws : List V}, Reps c H M ws ds → ws = vs ∧ ∀ v ∈ vs, ∃ a, v = V.ref a
  | _, _, .nil, _ => fun q => by cases q; exact ⟨rfl, fun _ h => nomatch h⟩
  | _, _, .cons r q, h => fun q' => by
    cases q' with
    | cons r' q' =>
      obtain ⟨a, rfl⟩ := h _ List.mem_cons_self
      cases r
      cases r'
      obtain ⟨rfl, h2⟩ := Reps.refs q (fun d hd => h d (List.mem_cons_of_mem _ hd)) q'
      exact ⟨rfl, fun v hv => by
        rcases List.mem_cons.mp hv with rfl | hv
        · exact ⟨_, rfl⟩
        · exact h2 v hv⟩
theorem snd_cmpS {ne : Bool} {a b : SE} {l r : Expr} {p : Pos} (ha : Snd c T N sc a l) (hb : Snd c T N sc b r) (hf : fine r = true) : Snd c T N sc (.cmpS ne a b) (.Compare l [if ne = true then .NotEq else .Eq] [r] p) := fun X W O => by
  obtain ⟨⟨ta, a1, a2⟩, _⟩ := ha X W O
  obtain ⟨⟨tb, b1, b2⟩, _⟩ := hb X W O
  have hu := O.hu
  obtain ⟨rr, r1, hr⟩ : ∃ rr : R2, OpR X (compareOp (if ne = true then .NotEq else .Eq)) rr ∧ rr = rSameL (!ne) X.K := by
    cases ne with
    | true => exact ⟨_, op_sameNe hu, rfl⟩
    | false => exact ⟨_, op_sameEq hu, rfl⟩
  have f : ∀ Z σ H env M Q E (KK : VK), Sta (c.z Z) σ H env M → wE T (.cmpS ne a b) env M Q E → Exc (c.z Z) W σ H M E → (∀ H' M', Stp H M H' M' → Cells (c.z Z) H' M' → Q (.bl (!ne)) M' → KK (.bl (!ne)) H') → ta σ H fun x H1 => tb σ H1 fun y H2 => rr x y H2 KK := fun Z σ H env M Q E KK st h he hk => by
    refine a2 Z σ H env M _ E _ st h he fun x H1 dx M1 s1 ok1 rx g1 => ?_
    refine b2 Z σ H1 env M1 _ E _ (st.stp s1 ok1) g1 (he.stp s1) fun y H2 dy M2 s2 ok2 ry g2 => ?_
    obtain ⟨xs, e1, g2⟩ := obn_of g2
    obtain ⟨ys, e2, ⟨rfl, hs⟩, g2⟩ := obn_of g2
    obtain ⟨u, vs, rfl, h1, _, q1⟩ := rep_lst ok2 (rx.stp s2) e1
    obtain ⟨w, ws, rfl, h2, _, q2⟩ := rep_lst ok2 ry e2
    obtain ⟨rfl, h3⟩ := q1.refs hs q2
    rw [hr]
    exact ⟨u, w, ws, rfl, rfl, SqL.of h1, SqL.of h2, h3, hk _ _ (s1.trans s2) ok2 g2⟩
  exact ⟨⟨_, pe_cmpR r1 a1 b1 (nobe hf), fun Z σ H env M Q E k st h he hk => f Z σ H env M Q E _ st h he fun H' M' s ok q => hk _ _ _ _ s ok (.bl _) q⟩, _, pt_cmpR r1 a1 b1 (nobe hf), fun Z σ H env M Q E k st h he hk => f Z σ H env M _ E _ st h he fun H' M' s ok q => ⟨!ne, rfl, hk _ _ _ s ok q⟩⟩
/-! ### data alike -/
theorem snd_cmpV {ne : Bool} {a b : SE} {l r : Expr} {p : Pos} (ha : Snd c T N sc a l) (hb : Snd c T N sc b r) (hf : fine r = true) : Snd c T N sc (.cmpV ne a b) (.Compare l [if ne = true then .NotEq else .Eq] [r] p) := fun X W O => by
  obtain ⟨⟨ta, a1, a2⟩, _⟩ := ha X W O
  obtain ⟨⟨tb, b1, b2⟩, _⟩ := hb X W O
  have hu := O.hu
  obtain ⟨rr, r1, hr⟩ : ∃ rr : R2, OpR X (compareOp (if ne = true then .NotEq else .Eq)) rr ∧ rr = rAlike (!ne) c := by
    cases ne with
    | true => exact ⟨_, op_alikeNe hu, rfl⟩
    | false => exact ⟨_, op_alikeEq hu, rfl⟩
  have f : ∀ Z σ H env M Q E (KK : VK), Sta (c.z Z) σ H env M → wE T (.cmpV ne a b) env M Q E → Exc (c.z Z) W σ H M E → (∀ H' M', Stp H M H' M' → Cells (c.z Z) H' M' → Q (.bl (!ne)) M' → KK (.bl (!ne)) H') → ta σ H fun x H1 => tb σ H1 fun y H2 => rr x y H2 KK := fun Z σ H env M Q E KK st h he hk => by
    refine a2 Z σ H env M _ E _ st h he fun x H1 dx M1 s1 ok1 rx g1 => ?_
    refine b2 Z σ H1 env M1 _ E _ (st.stp s1 ok1) g1 (he.stp s1) fun y H2 dy M2 s2 ok2 ry g2 => ?_
    obtain ⟨⟨n, hn, al⟩, g2⟩ := g2
    rw [hr]
    exact ⟨Z, M2, n, dx, dy, ok2, rx.stp s2, ry, al, hn, hk _ _ (s1.trans s2) ok2 g2⟩
  exact ⟨⟨_, pe_cmpR r1 a1 b1 (nobe hf), fun Z σ H env M Q E k st h he hk => f Z σ H env M Q E _ st h he fun H' M' s ok q => hk _ _ _ _ s ok (.bl _) q⟩, _, pt_cmpR r1 a1 b1 (nobe hf), fun Z σ H env M Q E k st h he hk => f Z σ H env M _ E _ st h he fun H' M' s ok q => ⟨!ne, rfl, hk _ _ _ s ok q⟩⟩
/-! ### each expression -/
mutual
/-- what may stand in a suite of an except; the exception is asked for where it is held -/
def okE (hot : Bool) (cur : Option Nat) : SE → Bool
  | .non => true
  | .bl _ => true
  | .int _ => true
  | .str _ => true
  | .var _ => true
  | .gl _ => true
  | .bin _ a b => okE hot cur a && okE hot cur b
  | .cat a b => okE hot cur a && okE hot cur b
  | .neg a => okE hot cur a
  | .not a => okE hot cur a
  | .bop _ es => okEs hot cur es
  | .cmp _ a b => okE hot cur a && okE hot cur b
  | .chain _ _ a b c => okE hot cur a && okE hot cur b && okE hot cur c
  | .ix a i => okE hot cur a && okE hot cur i
  | .sl a lo hi => okE hot cur a && okE hot cur lo && okE hot cur hi
  | .rev _ a => okE hot cur a
  | .lrng _ _ es => !hot && okEs hot cur es
  | .cmpK _ a b => okE hot cur a && okE hot cur b
  | .cmpS _ a b => okE hot cur a && okE hot cur b
  | .cmpV _ a b => okE hot cur a && okE hot cur b
  | .mnD _ a b => !hot && okE hot cur a && okE hot cur b
  | .fld a _ => okE hot cur a
  | .lst _ es => okEs hot cur es
  | .tup es => okEs hot cur es
  | .dnew _ _ => true
  | .dct _ _ vs => okEs hot cur vs
  | .dct1 _ k v => okE hot cur k && okE hot cur v
  | .lset a => !hot && okE hot cur a
  | .comp _ _ _ es c e => !hot && okEs hot cur es && okE hot cur c && okE hot cur e
  | .call _ _ es => !hot && okEs hot cur es
  | .mk _ _ es => !hot && okEs hot cur es
  | .meth _ o _ es => !hot && okE hot cur o && okEs hot cur es
  | .bi _ _ es => !hot && okEs hot cur es
  | .bm _ o _ es => okE hot cur o && okEs hot cur es
  | .isi e _ _ => okE hot cur e
  | .isx i tp _ => decide (cur = some i) && !tp
  | .fldx _ _ => false
def okEs (hot : Bool) (cur : Option Nat) : List SE → Bool
  | [] => true
  | e :: r => okE hot cur e && okEs hot cur r
end
def Cfg.cu (c : Cfg) : Option Nat := c.cur.map (·.1)
theorem cu_of {i : Nat} (h : c.cu = some i) : ∃ a n dd, c.cur = some (i, a, n, dd) := by
  unfold Cfg.cu at h
  cases e : c.cur with
  | none => rw [e] at h; cases h
  | some p =>
    obtain ⟨j, a, n, dd⟩ := p
    rw [e] at h
    cases h
    exact ⟨a, n, dd, rfl⟩
theorem SndL.ite {tg : Tg} {k : ItK} {ss : List SE} {it : Expr} {as : List Expr} (h : itArgs k tg sc it = some as) (hs : SndL c T N sc ss as) : ItE c T N sc k tg ss it ∧ (k ≠ .seq → fine it = true) := by
  unfold itArgs at h
  split at h
  · cases h
    cases hs with
    | cons a m r => cases r; exact ⟨.seq a m, fun e => absurd rfl e⟩
  · split at h
    · split at h
      · rename_i hg; cases h
        simp only [Bool.and_eq_true, decide_eq_true_eq] at hg
        obtain ⟨rfl, hg⟩ := hg
        cases hs with
        | cons a m r => cases r; exact ⟨.rng1 (.cons a m .nil) hg, fun _ => rfl⟩
      · cases h
    · cases h
  · split at h
    · split at h
      · rename_i hg; cases h
        simp only [Bool.and_eq_true, decide_eq_true_eq] at hg
        obtain ⟨rfl, hg⟩ := hg
        cases hs with
        | cons a m r => cases r with
          | cons a' m' r => cases r; exact ⟨.rng2 (.cons a m (.cons a' m' .nil)) hg, fun _ => rfl⟩
      · cases h
    · cases h
  · split at h
    · split at h
      · rename_i hg; cases h
        simp only [Bool.and_eq_true, decide_eq_true_eq] at hg
        obtain ⟨rfl, hg⟩ := hg
        cases hs with
        | cons a m r => cases r with
          | cons a' m' r => cases r with
            | cons a2 m2 r => cases r; exact ⟨.rng3 (.cons a m (.cons a' m' (.cons a2 m2 .nil))) hg, fun _ => rfl⟩
      · cases h
    · cases h
  · split at h
    · split at h
      · rename_i hg; cases h
        simp only [Bool.and_eq_true, decide_eq_true_eq] at hg
        obtain ⟨⟨rfl, hg⟩, ht⟩ := hg
        cases hs with
        | cons a m r => cases r; exact ⟨.enum (.cons a m .nil) hg ht, fun _ => rfl⟩
      · cases h
    · cases h
  · split at h
    · split at h
      · rename_i hg; cases h
        simp only [Bool.and_eq_true, decide_eq_true_eq] at hg
        obtain ⟨⟨rfl, hg⟩, ht⟩ := hg
        cases hs with
        | cons a m r => cases r with
          | cons a' m' r => cases r; exact ⟨.zip (.cons a m (.cons a' m' .nil)) hg ht, fun _ => rfl⟩
      · cases h
    · cases h
  · split at h
    · split at h
      · rename_i hg; cases h
        simp only [Bool.and_eq_true, decide_eq_true_eq] at hg
        obtain ⟨⟨rfl, hg⟩, ht⟩ := hg
        cases hs with
        | cons a m r => cases r with
          | cons a' m' r => cases r; exact ⟨.zipM (.cons a m (.cons a' m' .nil)) hg ht, fun _ => rfl⟩
      · cases h
    · cases h
  · cases h
    cases hs with
    | cons a m r => cases r; exact ⟨.keys a m, fun _ => mE_fine m⟩
  · cases h
    cases hs with
    | cons a m r => cases r; exact ⟨.str a m, fun _ => mE_fine m⟩
  · split at h
    · split at h
      · rename_i hg; cases h
        simp only [Bool.and_eq_true, decide_eq_true_eq] at hg
        obtain ⟨⟨⟨rfl, hb⟩, hp⟩, ht⟩ := hg
        cases hs with
        | cons a m r => cases r; exact ⟨.items a hb hp ht, fun _ => rfl⟩
      · cases h
    · cases h
  · split at h
    · split at h
      · rename_i hg; cases h
        simp only [Bool.and_eq_true, decide_eq_true_eq] at hg
        obtain ⟨⟨rfl, hb⟩, hp⟩ := hg
        cases hs with
        | cons a m r => cases r; exact ⟨.values a hb hp, fun _ => rfl⟩
      · cases h
    · cases h
  · split at h
    · split at h
      · rename_i hg; cases h
        simp only [Bool.and_eq_true, decide_eq_true_eq] at hg
        obtain ⟨rfl, hg⟩ := hg
        cases hs with
        | cons a m r => cases r; exact ⟨.rev a m hg, fun _ => rfl⟩
      · cases h
    · cases h
  · cases h
  · cases h
theorem SndL.it_fine {k : ItK} {tg : Tg} {ss : List SE} {it : Expr} (h : ItE c T N sc k tg ss it) : fine it = true := by
  cases h with
  | seq _ m => exact mE_fine m
  | keys _ m => exact mE_fine m
  | str _ m => exact mE_fine m
  | _ => rfl
end
end L3
set_option maxRecDepth 100000
set_option maxHeartbeats 8000000
namespace L3
open PySem L2
theorem SndL.len {c : Cfg} {T : Tab} {N : List PySem.Str} {sc : Scope} : ∀ {ss : List SE} {es : List Expr}, SndL c T N sc ss es → ss.length = es.length
  | _, _, .nil => rfl
  | _, _, .cons _ _ r => by simp [r.len]
theorem isTru_of {s : SE} (h : isTru s = true) : s = .bl true := by
  unfold isTru at h
  split at h
  · rfl
  · cases h
mutual
theorem sndE {c : Cfg} {T : Tab} {N : List PySem.Str} : ∀ (s : SE) (sc : Scope) (e : Expr), mE N s sc e = true → okE c.hot c.cu s = true → Snd c T N sc s e
  | .non, sc, e, h, ok => by
    unfold mE at h; split at h
    · exact snd_non
    · cases h
  | .bl b, sc, e, h, ok => by
    unfold mE at h; split at h
    · rw [of_decide_eq_true h]; exact snd_bl
    · cases h
  | .int b, sc, e, h, ok => by
    unfold mE at h; split at h
    · rw [of_decide_eq_true h]; exact snd_int
    · cases h
  | .str b, sc, e, h, ok => by
    unfold mE at h; split at h
    · rw [of_decide_eq_true h]; exact snd_str
    · cases h
  | .var i, sc, e, h, ok => by
    unfold mE at h; split at h
    · simp only [Bool.and_eq_true, decide_eq_true_eq] at h
      exact snd_var h.1.1 h.1.2 h.2
    · cases h
  | .gl n, sc, e, h, ok => by
    unfold mE at h; split at h
    · simp only [Bool.and_eq_true, decide_eq_true_eq] at h
      obtain ⟨⟨rfl, h1⟩, h2⟩ := h
      exact snd_gl h1 h2
    · cases h
  | .bin op a b, sc, e, h, ok => by
    unfold mE at h; split at h
    · simp only [Bool.and_eq_true, decide_eq_true_eq] at h
      simp only [okE, Bool.and_eq_true] at ok
      obtain ⟨⟨rfl, h1⟩, h2⟩ := h
      exact snd_bin (sndE a _ _ h1 ok.1) (sndE b _ _ h2 ok.2)
    · cases h
  | .cat a b, sc, e, h, ok => by
    unfold mE at h; split at h
    · simp only [Bool.and_eq_true, decide_eq_true_eq] at h
      simp only [okE, Bool.and_eq_true] at ok
      obtain ⟨⟨rfl, h1⟩, h2⟩ := h
      exact snd_cat (sndE a _ _ h1 ok.1) (sndE b _ _ h2 ok.2)
    · cases h
  | .neg a, sc, e, h, ok => by
    unfold mE at h; split at h
    · exact snd_neg (sndE a _ _ h ok)
    · cases h
  | .not a, sc, e, h, ok => by
    unfold mE at h; split at h
    · exact snd_not (sndE a _ _ h ok)
    · cases h
  | .bop k es, sc, e, h, ok => by
    unfold mE at h; split at h
    · simp only [Bool.and_eq_true, decide_eq_true_eq] at h
      obtain ⟨rfl, h1⟩ := h
      exact snd_bop (sndEs es _ _ h1 ok)
    · cases h
  | .cmp op a b, sc, e, h, ok => by
    unfold mE at h; split at h
    · simp only [Bool.and_eq_true, decide_eq_true_eq] at h
      simp only [okE, Bool.and_eq_true] at ok
      obtain ⟨⟨rfl, h1⟩, h2⟩ := h
      exact snd_cmp (sndE a _ _ h1 ok.1) (sndE b _ _ h2 ok.2) (mE_fine h2)
    · cases h
  | .chain o1 o2 a b d, sc, e, h, ok => by
    unfold mE at h; split at h
    · simp only [Bool.and_eq_true, decide_eq_true_eq] at h
      simp only [okE, Bool.and_eq_true] at ok
      obtain ⟨⟨⟨⟨rfl, rfl⟩, h1⟩, h2⟩, h3⟩ := h
      exact snd_chain (sndE a _ _ h1 ok.1.1) (sndE b _ _ h2 ok.1.2) (sndE d _ _ h3 ok.2) (mE_fine h3)
    · cases h
  | .ix a i, sc, e, h, ok => by
    unfold mE at h; split at h
    · simp only [Bool.and_eq_true, decide_eq_true_eq] at h
      simp only [okE, Bool.and_eq_true] at ok
      exact snd_ix (sndE a _ _ h.1 ok.1) (sndE i _ _ h.2 ok.2) (mE_fine h.2)
    · cases h
  | .sl a lo hi, sc, e, h, ok => by
    unfold mE at h; split at h
    · simp only [Bool.and_eq_true] at h
      simp only [okE, Bool.and_eq_true] at ok
      obtain ⟨⟨h1, h2⟩, h3⟩ := h
      have g : ∀ {s : SE} {o : Option Expr}, (match o with | none => isNon s | some l => !isNon s && mE N s sc l) = true → (∀ e, mE N s sc e = true → Snd c T N sc s e) → SndO c T N sc s o := fun {s o} h f => by
        cases o with
        | none =>
          refine .inl ⟨rfl, ?_⟩
          cases s <;> first | rfl | cases h
        | some e' =>
          simp only [Bool.and_eq_true, Bool.not_eq_true'] at h
          exact .inr ⟨e', rfl, h.1, f e' h.2⟩
      exact snd_sl (sndE a _ _ h1 ok.1.1) (g h2 fun e he => sndE lo _ _ he ok.1.2) (g h3 fun e he => sndE hi _ _ he ok.2)
    · cases h
  | .rev m a, sc, e, h, ok => by
    unfold mE at h; split at h
    · exact snd_rev (sndE a _ _ h ok)
    · cases h
  | .lrng m k es, sc, e, h, ok => by
    unfold mE at h
    simp only [okE, Bool.and_eq_true, Bool.not_eq_true'] at ok
    split at h
    · split at h
      · simp only [Bool.and_eq_true, decide_eq_true_eq] at h
        obtain ⟨⟨⟨⟨⟨rfl, h1⟩, rfl⟩, h3⟩, h5⟩, h4⟩ := h
        cases sndEs es _ _ h4 ok.2 with
        | cons a m r => cases r; exact snd_svals ok.1 a h1 h3 h5
      · cases h
    · split at h
      · cases sndEs es _ _ h ok.2 with
        | cons a m r => cases r; exact snd_rev2 a
      · cases h
    · split at h
      · simp only [Bool.and_eq_true, decide_eq_true_eq] at h
        obtain ⟨⟨rfl, h1⟩, h2⟩ := h
        split at h2
        · split at h2
          · simp only [Bool.and_eq_true, decide_eq_true_eq] at h2
            obtain ⟨⟨rfl, h3⟩, h4⟩ := h2
            exact snd_lrng ok.1 (sndEs es _ _ h4 ok.2) h1 (.inl ⟨rfl, _, _, _, rfl, rfl⟩) h3
          · cases h2
        · split at h2
          · simp only [Bool.and_eq_true, decide_eq_true_eq] at h2
            obtain ⟨⟨rfl, h3⟩, h4⟩ := h2
            exact snd_lrng ok.1 (sndEs es _ _ h4 ok.2) h1 (.inr ⟨rfl, _, _, _, _, rfl, rfl⟩) h3
          · cases h2
        · split at h2
          · simp only [Bool.and_eq_true, decide_eq_true_eq] at h2
            obtain ⟨⟨⟨rfl, h3⟩, h5⟩, h4⟩ := h2
            cases sndEs es _ _ h4 ok.2 with
            | cons a m r => cases r; exact snd_lvals ok.1 a h1 h3 h5
          · cases h2
        · cases h2
      · cases h
  | .cmpK ne a b, sc, e, h, ok => by
    unfold mE at h; split at h
    · simp only [Bool.and_eq_true, decide_eq_true_eq] at h
      simp only [okE, Bool.and_eq_true] at ok
      obtain ⟨⟨rfl, h1⟩, h2⟩ := h
      exact snd_cmpK (sndE a _ _ h1 ok.1) (sndE b _ _ h2 ok.2) (mE_fine h2)
    · cases h
  | .cmpS ne a b, sc, e, h, ok => by
    unfold mE at h; split at h
    · simp only [Bool.and_eq_true, decide_eq_true_eq] at h
      simp only [okE, Bool.and_eq_true] at ok
      obtain ⟨⟨rfl, h1⟩, h2⟩ := h
      exact snd_cmpS (sndE a _ _ h1 ok.1) (sndE b _ _ h2 ok.2) (mE_fine h2)
    · cases h
  | .cmpV ne a b, sc, e, h, ok => by
    unfold mE at h; split at h
    · simp only [Bool.and_eq_true, decide_eq_true_eq] at h
      simp only [okE, Bool.and_eq_true] at ok
      obtain ⟨⟨rfl, h1⟩, h2⟩ := h
      exact snd_cmpV (sndE a _ _ h1 ok.1) (sndE b _ _ h2 ok.2) (mE_fine h2)
    · cases h
  | .mnD m a b, sc, e, h, ok => by
    unfold mE at h; split at h
    · simp only [Bool.and_eq_true, decide_eq_true_eq] at h
      simp only [okE, Bool.and_eq_true, Bool.not_eq_true'] at ok
      obtain ⟨⟨⟨⟨rfl, rfl⟩, hg⟩, h1⟩, h2⟩ := h
      exact snd_mnD ok.1.1 (sndE a _ _ h1 ok.1.2) (sndE b _ _ h2 ok.2) h1 hg
    · cases h
  | .fld a f, sc, e, h, ok => by
    unfold mE at h; split at h
    · simp only [Bool.and_eq_true, decide_eq_true_eq] at h
      obtain ⟨⟨rfl, h1⟩, h2⟩ := h
      exact snd_fld (sndE a _ _ h2 ok) h1
    · cases h
  | .lst m es, sc, e, h, ok => by
    unfold mE at h; split at h
    · exact snd_lst (sndEs es _ _ h ok)
    · cases h
  | .tup es, sc, e, h, ok => by
    unfold mE at h; split at h
    · exact snd_tup (sndEs es _ _ h ok)
    · cases h
  | .dnew m t, sc, e, h, ok => by
    unfold mE at h; split at h
    · exact snd_dnew
    · cases h
  | .dct m ks vs, sc, e, h, ok => by
    unfold mE at h; split at h
    · simp only [Bool.and_eq_true, decide_eq_true_eq] at h
      obtain ⟨⟨⟨⟨⟨h1, h2⟩, h3⟩, h4⟩, h5⟩, h6⟩ := h
      exact snd_dct (sndEs vs _ _ h6 ok) h1 h2 h3 h4 h5
    · cases h
  | .dct1 m k v, sc, e, h, ok => by
    unfold mE at h; split at h
    · simp only [Bool.and_eq_true] at h
      simp only [okE, Bool.and_eq_true] at ok
      exact snd_dct1 (sndE k _ _ h.1 ok.1) (sndE v _ _ h.2 ok.2)
    · cases h
  | .lset a, sc, e, h, ok => by
    unfold mE at h; split at h
    · simp only [Bool.and_eq_true, decide_eq_true_eq] at h
      simp only [okE, Bool.and_eq_true, Bool.not_eq_true'] at ok
      obtain ⟨⟨⟨⟨rfl, rfl⟩, h1⟩, h2⟩, h3⟩ := h
      exact snd_lset ok.1 (sndE a _ _ h3 ok.2) h3 h1 h2
    · cases h
  | .comp m tg k es d x, sc, e, h, ok => by
    unfold mE at h; split at h
    · rename_i elt t it ifs a scope pos
      simp only [Bool.and_eq_true, decide_eq_true_eq] at h
      simp only [okE, Bool.and_eq_true, Bool.not_eq_true'] at ok
      obtain ⟨⟨⟨⟨⟨rfl, h2⟩, h3⟩, h4⟩, h5⟩, h6⟩ := h
      have hi : ItE c T N sc k tg es it := by
        split at h4
        · rename_i as has
          exact (SndL.ite has (sndEs es _ _ h4 ok.1.1.2)).1
        · cases h4
      refine snd_comp ok.1.1.1 hi (SndL.it_fine hi) h2 h3 ?_ (sndE x _ _ h6 ok.2)
      split at h5
      · exact .inl ⟨rfl, isTru_of h5⟩
      · exact .inr ⟨_, rfl, sndE d _ _ h5 ok.1.2⟩
      · cases h5
    · cases h
  | .call m f es, sc, e, h, ok => by
    unfold mE at h; split at h
    · simp only [Bool.and_eq_true, decide_eq_true_eq] at h
      simp only [okE, Bool.and_eq_true, Bool.not_eq_true'] at ok
      obtain ⟨⟨⟨rfl, h1⟩, h2⟩, h3⟩ := h
      exact snd_call ok.1 (sndEs es _ _ h3 ok.2) h1 h2
    · cases h
  | .mk m f es, sc, e, h, ok => by
    unfold mE at h; split at h
    · simp only [Bool.and_eq_true, decide_eq_true_eq] at h
      simp only [okE, Bool.and_eq_true, Bool.not_eq_true'] at ok
      obtain ⟨⟨⟨rfl, h1⟩, h2⟩, h3⟩ := h
      exact snd_mk ok.1 (sndEs es _ _ h3 ok.2) h1 h2
    · cases h
  | .meth m o f es, sc, e, h, ok => by
    unfold mE at h; split at h
    · simp only [Bool.and_eq_true, decide_eq_true_eq] at h
      simp only [okE, Bool.and_eq_true, Bool.not_eq_true'] at ok
      obtain ⟨⟨⟨⟨⟨rfl, h1⟩, h2⟩, h3⟩, h4⟩, h5⟩ := h
      exact snd_meth ok.1.1 (sndE o _ _ h4 ok.1.2) (sndEs es _ _ h5 ok.2) h1 h2 h3
    · cases h
  | .bi m f es, sc, e, h, ok => by
    unfold mE at h; split at h
    · simp only [Bool.and_eq_true, decide_eq_true_eq] at h
      simp only [okE, Bool.and_eq_true, Bool.not_eq_true'] at ok
      obtain ⟨⟨⟨rfl, h1⟩, h2⟩, h3⟩ := h
      exact snd_bi ok.1 (sndEs es _ _ h3 ok.2) h1
    · cases h
  | .bm m o f es, sc, e, h, ok => by
    unfold mE at h; split at h
    · simp only [Bool.and_eq_true, decide_eq_true_eq] at h
      simp only [okE, Bool.and_eq_true] at ok
      obtain ⟨⟨⟨⟨⟨⟨h0, rfl⟩, h1⟩, h2⟩, h3⟩, h4⟩, h5⟩ := h
      exact snd_bm (sndE o _ _ h4 ok.1) (sndEs es _ _ h5 ok.2) h0 h1 h2 h3
    · cases h
  | .isi x tp ts, sc, e, h, ok => by
    unfold mE at h; split at h
    · simp only [Bool.and_eq_true, decide_eq_true_eq] at h
      obtain ⟨⟨⟨rfl, h1⟩, h2⟩, h3⟩ := h
      exact snd_isi (sndE x _ _ h2 ok) h2 h1 h3
    · cases h
  | .isx i tp ts, sc, e, h, ok => by
    unfold mE at h; split at h
    · simp only [Bool.and_eq_true, decide_eq_true_eq] at h
      simp only [okE, Bool.and_eq_true, decide_eq_true_eq, Bool.not_eq_true'] at ok
      obtain ⟨⟨⟨⟨⟨rfl, h1⟩, h2⟩, h3⟩, h4⟩, h5⟩ := h
      obtain ⟨ok1, rfl⟩ := ok
      obtain ⟨a, n, dd, hc⟩ := cu_of ok1
      exact snd_isx hc h2 h3 h4 h1 h5
    · cases h
  | .fldx i f, sc, e, h, ok => by simp [okE] at ok
theorem sndEs {c : Cfg} {T : Tab} {N : List PySem.Str} : ∀ (ss : List SE) (sc : Scope) (es : List Expr), mEs N ss sc es = true → okEs c.hot c.cu ss = true → SndL c T N sc ss es
  | [], sc, es, h, ok => by
    cases es with
    | nil => exact .nil
    | cons _ _ => simp [mEs] at h
  | s :: ss, sc, es, h, ok => by
    cases es with
    | nil => simp [mEs] at h
    | cons e es =>
      simp only [mEs, Bool.and_eq_true] at h
      simp only [okEs, Bool.and_eq_true] at ok
      exact .cons (sndE s _ _ h.1 ok.1) h.1 (sndEs ss _ _ h.2 ok.2)
end
end L3
set_option maxRecDepth 100000
set_option maxHeartbeats 8000000
namespace L3
open PySem L2
/-! ### the shadow of statements -/
def compB : Expr → Bool
  | .ListComp _ _ _ _ => true
  | .SetComp _ _ _ _ => true
  | .DictComp _ _ _ _ _ => true
  | _ => false
theorem sw_no {e : Expr} {t : Option Expr} {l : Nat} {env : PySem.Env} (h : compB e = false) : swapsWith e t l env = pure false := by cases e <;> first | rfl | cases h
def tupB : Expr → Bool
  | .Tuple _ _ _ => true
  | _ => false
theorem swp_no {es : List Expr} {k : Nat} {p : Pos} {e : Expr} {env : PySem.Env} (h : tupB e = false) : swappedStores [.Tuple es k p] e env = pure none := by cases e <;> first | rfl | cases h
def swT (sc : Scope) (y : PySem.Str) (py : Pos) (v : Expr) : Bool := match v with
  | .ListComp _ _ scope pos => decide (sc.names.lookup y = some .local) && (py.line == pos.line) && !(scope.names.any fun (n, k) => n == y && (k == .local || k == .cell))
  | _ => false
def swF (sc : Scope) (y : PySem.Str) (py : Pos) (v : Expr) : Bool := match v with
  | .ListComp _ _ scope pos => !((sc.names.lookup y == some .local) && (py.line == pos.line) && !(scope.names.any fun (n, k) => n == y && (k == .local || k == .cell)))
  | _ => false
theorem swF_no {elt : Expr} {gs : List Comprehension} {scope : Scope} {pos py : Pos} {y : PySem.Str} {l : Nat} {env : PySem.Env} (h : swF env.scope y py (.ListComp elt gs scope pos) = true) : swapsWith (.ListComp elt gs scope pos) (some (.Name y py)) l env = pure false := by
  have e : (env.blockKind == .function && env.kindOf y == some .local && (py.line == pos.line) && !(scope.names.any fun (n, k) => n == y && (k == .local || k == .cell))) = false := by
    have h : (!((env.kindOf y == some .local) && (py.line == pos.line) && !(scope.names.any fun (n, k) => n == y && (k == .local || k == .cell)))) = true := h
    rw [Bool.not_eq_true'] at h
    rw [Bool.and_assoc, Bool.and_assoc, ← Bool.and_assoc (env.kindOf y == some .local), h, Bool.and_false]
  exact congrArg pure e
def hdB (N : List PySem.Str) (sc : Scope) (n : Option Nat) (m : Option PySem.Str) : Bool := match n with
  | none => m.isNone
  | some i => match m with
    | some x => decide (N[i]? = some x) && decide (sc.names.lookup x = some .local)
    | none => false
def strE : List SE → Bool
  | [.str _] => true
  | _ => false
/-- a, b = x, y: plain names, none of the display's items a constant alone -/
def parB (sc : Scope) : List Expr → List Expr → Bool
  | [.Name x p, .Name y q], [a, b] => decide (sc.names.lookup x = some .local) && decide (sc.names.lookup y = some .local) && (q.line == p.line) && !(x == y) && !(foldedForSure 8 a && foldedForSure 8 b) && !(constantsAlone 8 a && constantsAlone 8 b)
  | [.Name x p, .Name y q, .Name z r], [a, b, d] => decide (sc.names.lookup x = some .local) && decide (sc.names.lookup y = some .local) && decide (sc.names.lookup z = some .local) && (q.line == p.line) && (r.line == p.line) && !(x == y) && !(x == z) && !(y == z) &&
    !(foldedForSure 8 a && foldedForSure 8 b && foldedForSure 8 d) && !(constantsAlone 8 a && constantsAlone 8 b && constantsAlone 8 d)
  | _, _ => false
mutual
def mS (N : List PySem.Str) (sc : Scope) : SS → Stmt → Bool
  | .asg i e, s => (match s with
    | .Assign [.Name x py] v _ => decide (N[i]? = some x) && locB sc x && mE N e sc v && (!compB v || swT sc x py v || swF sc x py v)
    | _ => false)
  | .asgT is e, s => (match s with
    | .Assign [.Tuple es _ _] v _ => mNms N sc is es && !tupB v && mE N e sc v
    | _ => false)
  | .asgL is e, s => (match s with
    | .Assign [.Tuple es _ _] v _ => mNms N sc is es && !tupB v && mE N e sc v
    | _ => false)
  | .par is es, s => (match s with
    | .Assign [.Tuple ts _ _] (.Tuple vs _ _) _ => mNms N sc is ts && parB sc ts vs && mEs N es sc vs
    | _ => false)
  | .asgF o f e, s => (match s with
    | .Assign [.Attribute ov x _] v _ => decide (x = f.s) && mE N o sc ov && mE N e sc v
    | _ => false)
  | .asgI o i e, s => (match s with
    | .Assign [.Subscript ov iv _] v _ => mE N o sc ov && mE N i sc iv && mE N e sc v
    | _ => false)
  | .aug i op e, s => (match s with
    | .AugAssign (.Name x _) op' v _ => decide (N[i]? = some x) && locB sc x && decide (op' = op) && mE N e sc v
    | _ => false)
  | .augF _ _ _ _, _ => false
  | .augI _ _ _ _, _ => false
  | .exp e, s => (match s with
    | .Expr v _ => !compB v && mE N e sc v
    | _ => false)
  | .ret e, s => (match s with
    | .Return (some v) _ => mE N e sc v
    | _ => false)
  | .retN, s => (match s with
    | .Return none _ => true
    | _ => false)
  | .ifs c a b, s => (match s with
    | .If cv av bv _ => mE N c sc cv && mSs N sc a av && mSs N sc b bv
    | _ => false)
  | .whl c b, s => (match s with
    | .While cv bv [] _ => mE N c sc cv && mSs N sc b bv
    | _ => false)
  | .fors tg k es b, s => (match s with
    | .For t it bv [] _ => mTg N sc tg t && (match itArgs k tg sc it with
      | some as => mEs N es sc as
      | none => false) && mSs N sc b bv
    | _ => false)
  | .raise c es, s => (match s with
    | .Raise (some (.Call (.Name x _) as [] _)) none _ => decide (x = c.s) && glB sc x && nmB x && strE es && mEs N es sc as
    | _ => false)
  | .tryx b c n h, s => (match s with
    | .Try bv [.ExceptHandler (some (.Name x _)) m (h0 :: hs) _] [] [] _ => decide (x = c.s) && glB sc x && nmB x && hdB N sc n m && mSs N sc b bv && mSs N sc h (h0 :: hs)
    | _ => false)
  | .pass, s => (match s with
    | .Pass _ => true
    | _ => false)
  | .brk, s => (match s with
    | .Break _ => true
    | _ => false)
  | .cont, s => (match s with
    | .Continue _ => true
    | _ => false)
  | .frz _, _ => false
def mSs (N : List PySem.Str) (sc : Scope) : List SS → List Stmt → Bool
  | [], ss => (match ss with
    | [] => true
    | _ => false)
  | s :: r, ss => (match s with
    | .frz _ => mSs N sc r ss
    | s => (match ss with
      | st :: sts => mS N sc s st && mSs N sc r sts
      | _ => false))
end
mutual
def okS (hot : Bool) (cur : Option Nat) : SS → Bool
  | .asg i e => decide (cur ≠ some i) && okE hot cur e
  | .asgT _ e => !hot && okE hot cur e
  | .asgL _ e => !hot && okE hot cur e
  | .par _ es => !hot && okEs hot cur es
  | .asgF o _ e => !hot && okE hot cur o && okE hot cur e
  | .asgI o i e => !hot && okE hot cur o && okE hot cur i && okE hot cur e
  | .aug i _ e => decide (cur ≠ some i) && okE hot cur e
  | .augF _ _ _ _ => false
  | .augI _ _ _ _ => false
  | .exp e => okE hot cur e
  | .ret e => okE hot cur e
  | .retN => true
  | .ifs c a b => okE hot cur c && okSs hot cur a && okSs hot cur b
  | .whl c b => !hot && okE hot cur c && okSs hot cur b
  | .fors _ _ es b => !hot && okEs hot cur es && okSs hot cur b
  | .raise _ es => !hot
  | .tryx b _ n h => !hot && okSs hot cur b && okSs true n h
  | .pass => true
  | .brk => true
  | .cont => true
  | .frz i => decide (cur ≠ some i)
def okSs (hot : Bool) (cur : Option Nat) : List SS → Bool
  | [] => true
  | s :: r => okS hot cur s && okSs hot cur r
end
/-! ### what a statement is read as -/
structure SOk (c : Cfg) (T : Tab) (N : List PySem.Str) (sc : Scope) (X : Cx) (W : WX) : Prop where
  co : COk c T N sc X W
  set : ∀ x, locB sc x = true → SetB X x
  kind : sc.kind = .function
  own : c.hot = false → X.stack = X.env :: X.outer ∧ X.env.frame = some X.env.locals ∧ PassesOwn (model X.prog X.w) X.A X.env X.xe
structure EndsOk (c : Cfg) (W : WX) (H : Hp) (M : Mm) (K : KD) (D : Ends) : Prop where
  nx : ∀ σ' H' env' M', Stp H M H' M' → Sta c σ' H' env' M' → K.nx env' M' → D.nx σ' H'
  rt : ∀ v H' d M', Stp H M H' M' → Cells c H' M' → Rep c H' M' v d → K.rt d M' → D.rt v H'
  bk : ∀ σ' H' env' M', Stp H M H' M' → Sta c σ' H' env' M' → K.bk env' M' → D.bk σ' H'
  ct : ∀ σ' H' env' M', Stp H M H' M' → Sta c σ' H' env' M' → K.ct env' M' → D.ct σ' H'
  ex : ∀ cls d σ' H' x env' M', Stp H M H' M' → Sta c σ' H' env' M' → XRep c H' M' cls d x → K.ex x env' M' → W cls d σ' H'
def rdS (c : Cfg) (W : WX) (w : KD → Env → Mm → Prop) : TS := fun D σ H => ∃ Z env M K, Sta (c.z Z) σ H env M ∧ w K env M ∧ EndsOk (c.z Z) W H M K D
def SndS (c : Cfg) (T : Tab) (N : List PySem.Str) (sc : Scope) (s : SS) (st : Stmt) : Prop := ∀ X W, SOk c T N sc X W → PS X st (rdS c W (wS T s))
def SndSs (c : Cfg) (T : Tab) (N : List PySem.Str) (sc : Scope) (ss : List SS) (sts : List Stmt) : Prop := ∀ X W, SOk c T N sc X W → PSs X sts (rdS c W (wSs T ss))
section
variable {X : Cx} {c : Cfg} {T : Tab} {N : List PySem.Str} {sc : Scope} {W : WX}
theorem ps_weak {st : Stmt} {t t' : TS} (h : PS X st t) (hw : ∀ D σ H, t' D σ H → t D σ H) : PS X st t' := ⟨fun pins s σ H D I q => h.run pins s σ H D I (hw D σ H q)⟩
theorem pss_weak {st : List Stmt} {t t' : TS} (h : PSs X st t) (hw : ∀ D σ H, t' D σ H → t D σ H) : PSs X st t' := ⟨fun pins s σ H D I q => h.run pins s σ H D I (hw D σ H q)⟩
theorem EndsOk.stp {H H' : Hp} {M M' : Mm} {K : KD} {D : Ends} (e : EndsOk c W H M K D) (s : Stp H M H' M') : EndsOk c W H' M' K D :=
  ⟨fun _ _ _ _ s2 => e.nx _ _ _ _ (s.trans s2), fun _ _ _ _ s2 => e.rt _ _ _ _ (s.trans s2), fun _ _ _ _ s2 => e.bk _ _ _ _ (s.trans s2), fun _ _ _ _ s2 => e.ct _ _ _ _ (s.trans s2), fun _ _ _ _ _ _ _ s2 => e.ex _ _ _ _ _ _ _ (s.trans s2)⟩
theorem EndsOk.exc {σ : St} {H : Hp} {env : Env} {M : Mm} {K : KD} {D : Ends} (e : EndsOk c W H M K D) (st : Sta c σ H env M) : Exc c W σ H M (fun x M' => K.ex x env M') :=
  fun cls d H' x M' s ok xr q => e.ex cls d σ H' x env M' s (st.stp s ok) xr q
theorem at_of {i : Nat} (h : c.cu ≠ some i) (Z : Addr → Prop) : (c.z Z).at i = false := by
  unfold Cfg.at
  show (match c.cur with | some (j, _) => decide (j = i) | none => false) = false
  unfold Cfg.cu at h
  cases e : c.cur with
  | none => rfl
  | some p =>
    rw [e] at h
    have : p.1 ≠ i := fun q => h (by simp [q])
    simpa using this
/-! ### single statements -/
theorem snds_asg {i : Nat} {e : SE} {v : Expr} {x : PySem.Str} {py pos : Pos} (h : Snd c T N sc e v) (hN : N[i]? = some x) (hl : locB sc x = true) (hi : c.cu ≠ some i) (hc : compB v = false ∨ swF sc x py v = true) : SndS c T N sc (.asg i e) (.Assign [.Name x py] v pos) := fun X W O => by
  obtain ⟨⟨t, h1, h2⟩, _⟩ := h X W O.co
  have hs : swapsWith v (some (.Name x py)) pos.line X.env = pure false := by
    rcases hc with hc | hc
    · exact sw_no hc
    · rw [← O.co.sc] at hc
      cases v with
      | ListComp _ _ _ _ => exact swF_no hc
      | _ => exact nomatch hc
  refine ps_weak (ps_set O.co.nd (N_get O.co hN) (O.set x hl).1 h1 hs (O.set x hl).2) fun D σ H ⟨Z, env, M, K, st, w, en⟩ => ?_
  refine h2 Z σ H env M _ _ _ st w (en.exc st) fun v H1 d M1 s1 ok1 r1 q1 => ?_
  exact en.nx _ _ _ _ s1 ((st.stp s1 ok1).set r1 i (at_of hi Z)) q1
theorem snds_asgT {is : List Nat} {e : SE} {v : Expr} {es : List Expr} {k : Nat} {p pos : Pos} (hh : c.hot = false) (h : Snd c T N sc e v) (hN : mNms N sc is es = true) (ht : tupB v = false) : SndS c T N sc (.asgT is e) (.Assign [.Tuple es k p] v pos) := fun X W O => by
  obtain ⟨⟨t, h1, h2⟩, _⟩ := h X W O.co
  obtain ⟨g1, g2, g3⟩ := gnms_ok O.co.nd O.set O.co.N hN
  have hcur := (O.co.calm hh).2
  have hs : swapsWithSole [.Tuple es k p] v pos.line X.env = pure false := by
    show swapsWith v (some (.Tuple es k p)) pos.line X.env = pure false
    cases v <;> rfl
  refine ps_weak (ps_asg h1 (pg_tup (O.co.calm hh).1 g1 g2 g3) hs (swp_no ht)) fun D σ H ⟨Z, env, M, K, st, w, en⟩ => ?_
  refine h2 Z σ H env M _ _ _ st w (en.exc st) fun v H1 d M1 s1 ok1 r1 q1 => ?_
  obtain ⟨ds, e1, q1⟩ := obn_of q1
  obtain ⟨env', e2, q1⟩ := obn_of q1
  have eb : bindT (.tp is) d M1 env = some env' := by
    unfold tupD at e1
    cases d with
    | tup ds' => cases e1; exact e2
    | _ => cases e1
  exact sat_gtg (c := c) O.co.K hcur (.tp is) Z σ H1 env M1 v d env' _ (st.stp s1 ok1) r1 eb fun σ' st' _ => en.nx _ _ _ _ s1 st' q1
theorem snds_asgL {is : List Nat} {e : SE} {v : Expr} {es : List Expr} {k : Nat} {p pos : Pos} (hh : c.hot = false) (h : Snd c T N sc e v) (hN : mNms N sc is es = true) (ht : tupB v = false) : SndS c T N sc (.asgL is e) (.Assign [.Tuple es k p] v pos) := fun X W O => by
  obtain ⟨⟨t, h1, h2⟩, _⟩ := h X W O.co
  obtain ⟨g1, g2, g3⟩ := gnms_ok O.co.nd O.set O.co.N hN
  have hcur := (O.co.calm hh).2
  have hs : swapsWithSole [.Tuple es k p] v pos.line X.env = pure false := by
    show swapsWith v (some (.Tuple es k p)) pos.line X.env = pure false
    cases v <;> rfl
  refine ps_weak (ps_asg h1 (pg_lst (O.co.calm hh).1 g1 g2 g3) hs (swp_no ht)) fun D σ H ⟨Z, env, M, K, st, w, en⟩ => ?_
  refine h2 Z σ H env M _ _ _ st w (en.exc st) fun v H1 d M1 s1 ok1 r1 q1 => ?_
  obtain ⟨ds, e1, q1⟩ := obn_of q1
  obtain ⟨env', e2, q1⟩ := obn_of q1
  obtain ⟨a, vs, rfl, h3, z3, q3⟩ := rep_lst ok1 r1 e1
  have hK : X.K = (c.z Z).K := O.co.K
  refine ⟨a, vs, rfl, by rw [hK]; exact SqL.of h3, by rw [q3.len]; exact sat_gtup.setAll_len e2, ?_⟩
  exact sat_gnms hcur is Z σ H1 env M1 vs ds env' _ (st.stp s1 ok1) q3 e2 fun σ' st' _ => en.nx _ _ _ _ s1 st' q1
theorem no_star : ∀ l : List Expr, (∀ e ∈ l, fine e = true) → (l.any fun x => match x with | .Starred .. => true | _ => false) = false
  | [], _ => rfl
  | e :: r, h => by
    rw [List.any_cons, no_star r fun x hx => h x (List.mem_cons_of_mem _ hx), Bool.or_false]
    have := h e List.mem_cons_self
    cases e <;> first | rfl | simp [fine] at this
theorem sw_two {env : PySem.Env} {x y : PySem.Str} {p q pt p2 : Pos} {k k2 : Nat} {a b : Expr} (hk : env.scope.kind = .function) (h : parB env.scope [.Name x p, .Name y q] [a, b] = true) (fa : fine a = true) (fb : fine b = true) :
    swappedStores [.Tuple [.Name x p, .Name y q] k pt] (.Tuple [a, b] k2 p2) env = pure (some [x, y]) := by
  simp only [parB, Bool.and_eq_true, decide_eq_true_eq, Bool.not_eq_true'] at h
  obtain ⟨⟨⟨⟨⟨h1, h2⟩, h3⟩, h4⟩, h5⟩, h6⟩ := h
  have hb : env.blockKind = .function := by unfold PySem.Env.blockKind; rw [hk]; rfl
  have k1 : (env.kindOf x == some .local) = true := by unfold PySem.Env.kindOf; rw [h1]; rfl
  have k2 : (env.kindOf y == some .local) = true := by unfold PySem.Env.kindOf; rw [h2]; rfl
  have h4' : (y == x) = false := by cases e : y == x with | false => rfl | true => rw [eq_of_beq e, beq_self_eq_true] at h4; cases h4
  have ed : [x, y].eraseDups = [x, y] := by simp [List.eraseDups_cons, h4', List.filter]
  simp only [swappedStores, hb, List.length_cons, List.length_nil, List.head?_cons, Option.map_some, Option.getD_some, List.filterMap_cons, List.filterMap_nil, k1, k2, Expr.pos, h3, beq_self_eq_true, Bool.and_self, if_true, ed, List.all_cons, List.all_nil, Bool.and_true, h5, h6]
  rw [if_neg (by decide)]
  refine (if_neg (fun hx => Bool.false_ne_true ((no_star [a, b] (by simp [fa, fb])).symm.trans hx))).trans ?_
  rw [if_neg (by decide), if_neg Bool.false_ne_true, if_neg Bool.false_ne_true]
theorem sw_three {env : PySem.Env} {x y z : PySem.Str} {p q r pt p2 : Pos} {k k2 : Nat} {a b d : Expr} (hk : env.scope.kind = .function) (h : parB env.scope [.Name x p, .Name y q, .Name z r] [a, b, d] = true) (fa : fine a = true) (fb : fine b = true) (fd : fine d = true) :
    swappedStores [.Tuple [.Name x p, .Name y q, .Name z r] k pt] (.Tuple [a, b, d] k2 p2) env = pure (some [x, y, z]) := by
  simp only [parB, Bool.and_eq_true, decide_eq_true_eq, Bool.not_eq_true'] at h
  obtain ⟨⟨⟨⟨⟨⟨⟨⟨⟨h1, h2⟩, h3⟩, g1⟩, g2⟩, n1⟩, n2⟩, n3⟩, h5⟩, h6⟩ := h
  have hb : env.blockKind = .function := by unfold PySem.Env.blockKind; rw [hk]; rfl
  have k1 : (env.kindOf x == some .local) = true := by unfold PySem.Env.kindOf; rw [h1]; rfl
  have k2 : (env.kindOf y == some .local) = true := by unfold PySem.Env.kindOf; rw [h2]; rfl
  have k3 : (env.kindOf z == some .local) = true := by unfold PySem.Env.kindOf; rw [h3]; rfl
  have sym : ∀ {u v : PySem.Str}, (u == v) = false → (v == u) = false := fun {u v} h => by cases e : v == u with | false => rfl | true => rw [eq_of_beq e, beq_self_eq_true] at h; cases h
  have ed : [x, y, z].eraseDups = [x, y, z] := by simp [List.eraseDups_cons, sym n1, sym n2, sym n3, List.filter]
  simp only [Bool.and_assoc] at h5 h6
  simp only [swappedStores, hb, List.length_cons, List.length_nil, List.head?_cons, Option.map_some, Option.getD_some, List.filterMap_cons, List.filterMap_nil, k1, k2, k3, Expr.pos, g1, g2, beq_self_eq_true, Bool.and_self, if_true, ed, List.all_cons, List.all_nil, Bool.and_true, h5, h6]
  rw [if_neg (by decide)]
  refine (if_neg (fun hx => Bool.false_ne_true ((no_star [a, b, d] (by simp [fa, fb, fd])).symm.trans hx))).trans ?_
  rw [if_neg (by decide), if_neg Bool.false_ne_true, if_neg Bool.false_ne_true]
theorem mNms_len {N : List PySem.Str} {sc : Scope} : ∀ {is : List Nat} {es : List Expr}, mNms N sc is es = true → is.length = es.length
  | [], [], _ => rfl
  | [], _ :: _, h => by simp [mNms] at h
  | _ :: _, [], h => by simp [mNms] at h
  | _ :: _, _ :: _, h => by
    simp only [mNms, Bool.and_eq_true] at h
    simp [mNms_len h.2]
theorem snds_par {is : List Nat} {es : List SE} {ts vs : List Expr} {k k2 : Nat} {p p2 pos : Pos} (hh : c.hot = false) (h : SndL c T N sc es vs) (hN : mNms N sc is ts = true) (hp : parB sc ts vs = true) (hm : mEs N es sc vs = true) : SndS c T N sc (.par is es) (.Assign [.Tuple ts k p] (.Tuple vs k2 p2) pos) := fun X W O => by
  obtain ⟨t, h1, h2⟩ := h.pa O.co
  have hcur := (O.co.calm hh).2
  have hc := (O.co.calm hh).1
  have hsc := O.co.sc
  have at0 : ∀ (Z : Addr → Prop) i, (c.z Z).at i = false := fun Z i => at_of (by unfold Cfg.cu; rw [hcur]; exact fun z => nomatch z) Z
  have kd : X.env.scope.kind = .function := by rw [hsc]; exact O.kind
  have hp0 := hp
  unfold parB at hp
  split at hp
  · rename_i x p y q a b
    match is, mNms_len hN, hN with
    | [i, j], _, hN =>
    cases h with
    | @cons s1 _ _ _ sa ma h =>
    cases h with
    | @cons s2 _ _ _ sb mb h =>
    cases h
    simp only [mNms, mNm, Bool.and_eq_true, decide_eq_true_eq, Bool.and_true] at hN
    simp only [Bool.and_eq_true, decide_eq_true_eq, Bool.not_eq_true'] at hp
    obtain ⟨⟨⟨⟨⟨l1, l2⟩, _⟩, ne⟩, _⟩, _⟩ := hp
    rw [← hsc] at hp0 l1 l2
    have hij : i ≠ j := fun e => by
      have e1 := hN.1.1
      have e2 := hN.2.1
      rw [e, e2] at e1
      cases e1
      rw [beq_self_eq_true] at ne; cases ne
    refine ps_weak (ps_par hc O.co.nd (N_get O.co hN.1.1) (N_get O.co hN.2.1) hij l1 l2 h1 (sw_two kd hp0 (mE_fine ma) (mE_fine mb))) fun D σ H ⟨Z, env, M, K, st, w, en⟩ => ?_
    refine h2 Z σ H env M (fun ds M' => obn (setAll [i, j] ds env) fun env' => K.nx env' M') (fun x M' => K.ex x env M') _ st w (en.exc st) fun vs H1 ds M1 s1 ok1 r1 q1 => ?_
    obtain ⟨env', e2, q1⟩ := obn_of q1
    match ds, e2 with
    | [d1, d2], e2 =>
    cases e2
    obtain ⟨v, u, rfl, rv, ru⟩ := reps2 r1
    exact ⟨v, u, rfl, en.nx _ _ _ _ s1 (((st.stp s1 ok1).set rv i (at0 Z i)).set ru j (at0 Z j)) q1⟩
  · rename_i x p y q z r a b d
    match is, mNms_len hN, hN with
    | [i, j, l], _, hN =>
    cases h with
    | @cons s1 _ _ _ sa ma h =>
    cases h with
    | @cons s2 _ _ _ sb mb h =>
    cases h with
    | @cons s3 _ _ _ sd md h =>
    cases h
    simp only [mNms, mNm, Bool.and_eq_true, decide_eq_true_eq, Bool.and_true] at hN
    simp only [Bool.and_eq_true, decide_eq_true_eq, Bool.not_eq_true'] at hp
    obtain ⟨⟨⟨⟨⟨⟨⟨⟨⟨l1, l2⟩, l3⟩, _⟩, _⟩, n1⟩, n2⟩, n3⟩, _⟩, _⟩ := hp
    rw [← hsc] at hp0 l1 l2 l3
    have dif : ∀ {i j : Nat} {x y : PySem.Str}, N[i]? = some x → N[j]? = some y → (x == y) = false → i ≠ j := fun {i j x y} e1 e2 ne e => by
      subst e
      rw [e1] at e2; cases e2
      rw [beq_self_eq_true] at ne; cases ne
    refine ps_weak (ps_par3 hc O.co.nd (N_get O.co hN.1.1) (N_get O.co hN.2.1.1) (N_get O.co hN.2.2.1) (dif hN.1.1 hN.2.1.1 n1) (dif hN.1.1 hN.2.2.1 n2) (dif hN.2.1.1 hN.2.2.1 n3) l1 l2 l3 h1 (sw_three kd hp0 (mE_fine ma) (mE_fine mb) (mE_fine md))) fun D σ H ⟨Z, env, M, K, st, w, en⟩ => ?_
    refine h2 Z σ H env M (fun ds M' => obn (setAll [i, j, l] ds env) fun env' => K.nx env' M') (fun x M' => K.ex x env M') _ st w (en.exc st) fun vs H1 ds M1 s1 ok1 r1 q1 => ?_
    obtain ⟨env', e2, q1⟩ := obn_of q1
    match ds, e2 with
    | [d1, d2, d3], e2 =>
    cases e2
    match vs, r1 with
    | [v1, v2, v3], .cons r1 (.cons r2 (.cons r3 .nil)) =>
    exact ⟨v1, v2, v3, rfl, en.nx _ _ _ _ s1 ((((st.stp s1 ok1).set r1 i (at0 Z i)).set r2 j (at0 Z j)).set r3 l (at0 Z l)) q1⟩
  · cases hp
theorem snds_exp {e : SE} {v : Expr} {pos : Pos} (h : Snd c T N sc e v) (hc : compB v = false) : SndS c T N sc (.exp e) (.Expr v pos) := fun X W O => by
  obtain ⟨⟨t, h1, h2⟩, _⟩ := h X W O.co
  refine ps_weak (ps_expr h1 (sw_no hc)) fun D σ H ⟨Z, env, M, K, st, w, en⟩ => ?_
  exact h2 Z σ H env M _ _ _ st w (en.exc st) fun v H1 d M1 s1 ok1 r1 q1 => en.nx _ _ _ _ s1 (st.stp s1 ok1) q1
theorem snds_ret {e : SE} {v : Expr} {pos : Pos} (h : Snd c T N sc e v) : SndS c T N sc (.ret e) (.Return (some v) pos) := fun X W O => by
  obtain ⟨⟨t, h1, h2⟩, _⟩ := h X W O.co
  refine ps_weak (ps_ret h1) fun D σ H ⟨Z, env, M, K, st, w, en⟩ => ?_
  exact h2 Z σ H env M _ _ _ st w (en.exc st) fun v H1 d M1 s1 ok1 r1 q1 => en.rt _ _ _ _ s1 ok1 r1 q1
theorem snds_retN {pos : Pos} : SndS c T N sc .retN (.Return none pos) := fun X W O =>
  ps_weak ps_retN fun D σ H ⟨Z, env, M, K, st, w, en⟩ => en.rt _ _ _ _ .refl st.cells .non w
theorem snds_pass {pos : Pos} : SndS c T N sc .pass (.Pass pos) := fun X W O =>
  ps_weak ps_pass fun D σ H ⟨Z, env, M, K, st, w, en⟩ => en.nx _ _ _ _ .refl st w
theorem snds_brk {pos : Pos} : SndS c T N sc .brk (.Break pos) := fun X W O =>
  ps_weak ps_break fun D σ H ⟨Z, env, M, K, st, w, en⟩ => en.bk _ _ _ _ .refl st w
theorem snds_cont {pos : Pos} : SndS c T N sc .cont (.Continue pos) := fun X W O =>
  ps_weak ps_continue fun D σ H ⟨Z, env, M, K, st, w, en⟩ => en.ct _ _ _ _ .refl st w
theorem snds_ifs {e : SE} {v : Expr} {a b : List SS} {av bv : List Stmt} {pos : Pos} (h : Snd c T N sc e v) (ha : SndSs c T N sc a av) (hb : SndSs c T N sc b bv) : SndS c T N sc (.ifs e a b) (.If v av bv pos) := fun X W O => by
  obtain ⟨_, t, h1, h2⟩ := h X W O.co
  refine ps_weak (ps_if h1 (ha X W O) (hb X W O)) fun D σ H ⟨Z, env, M, K, st, w, en⟩ => ?_
  refine h2 Z σ H env M (fun t M' => br t (wSs T a K env M') (wSs T b K env M')) _ _ st w (en.exc st) fun b H1 M1 s1 ok1 q1 => ?_
  cases b with
  | true => rw [if_pos rfl]; exact ⟨Z, env, M1, K, st.stp s1 ok1, q1, en.stp s1⟩
  | false => rw [if_neg Bool.false_ne_true]; exact ⟨Z, env, M1, K, st.stp s1 ok1, q1, en.stp s1⟩
theorem sndss_nil : SndSs c T N sc [] [] := fun X W O => pss_weak pss_nil fun D σ H ⟨Z, env, M, K, st, w, en⟩ => en.nx _ _ _ _ .refl st w
theorem sndss_cons {s : SS} {r : List SS} {st : Stmt} {sts : List Stmt} (h1 : SndS c T N sc s st) (h2 : SndSs c T N sc r sts) : SndSs c T N sc (s :: r) (st :: sts) := fun X W O => by
  refine pss_weak (pss_cons (h1 X W O) (h2 X W O)) fun D σ H ⟨Z, env, M, K, st, w, en⟩ => ?_
  exact ⟨Z, env, M, _, st, w, fun σ' H' env' M' s st' q => ⟨Z, env', M', K, st', q, en.stp s⟩, en.rt, en.bk, en.ct, en.ex⟩
theorem sta_frz {σ : St} {H : Hp} {env : Env} {M : Mm} {i : Nat} {a : Addr} {x : Cell} (hc : c.cu ≠ some i) (st : Sta c σ H env M) (e : env[i]? = some (some (.ref a))) (ex : M a = some x) : Sta c σ H (env.set i (some (celD x))) (del M a) := by
  have st' := st.stp (H' := H) (M' := del M a) stp_del (cells_del st.cells)
  refine ⟨st'.cells, by rw [List.length_set]; exact st'.len, fun j d h => ?_, fun j b n dd h => ?_⟩
  · by_cases q : i = j
    · subst q
      obtain ⟨v, h1, h2⟩ := st.env' i _ e
      have hl : i < env.length := (List.getElem?_eq_some_iff.mp e).1
      rw [List.getElem?_set_self hl] at h
      cases h
      cases h2
      exact ⟨_, h1, rep_frz st.cells ex⟩
    · rw [List.getElem?_set_ne q] at h
      exact st'.env' j d h
  · obtain ⟨h1, fs, h2, h3⟩ := st'.cur j b n dd h
    have q : i ≠ j := fun q => hc (by subst q; unfold Cfg.cu; rw [h]; rfl)
    exact ⟨h1, fs, by rw [List.getElem?_set_ne q]; exact h2, h3⟩
theorem set_same {env : Env} {i : Nat} {d : D} (e : env[i]? = some (some d)) : env.set i (some d) = env := by
  apply List.ext_getElem?
  intro j
  by_cases q : i = j
  · subst q
    have hl : i < env.length := (List.getElem?_eq_some_iff.mp e).1
    rw [List.getElem?_set_self hl, e]
  · rw [List.getElem?_set_ne q]
theorem sndss_frz {i : Nat} {r : List SS} {sts : List Stmt} (hc : ∀ Z : Addr → Prop, (c.z Z).cu ≠ some i) (h2 : SndSs c T N sc r sts) : SndSs c T N sc (.frz i :: r) sts := fun X W O => by
  refine pss_weak (h2 X W O) fun D σ H ⟨Z, env, M, K, st, w, en⟩ => ?_
  have w : obn (varE env i) fun d => frz1 false d M fun d' M' => wSs T r K (env.set i (some d')) M' := w
  obtain ⟨d, e, w⟩ := obn_of w
  have e : env[i]? = some (some d) := by
    unfold varE at e
    split at e
    · rename_i h; cases e; exact h
    · cases e
  cases d with
  | ref a =>
    cases em : M a with
    | none =>
      have w : wSs T r K (env.set i (some (.ref a))) M := by simpa [frz1, em] using w
      rw [set_same e] at w
      exact ⟨Z, env, M, K, st, w, en⟩
    | some x =>
      have w : wSs T r K (env.set i (some (celD x))) (del M a) := by cases x <;> simpa [frz1, em, celD] using w
      exact ⟨Z, _, _, K, sta_frz (hc Z) st e em, w, en.stp stp_del⟩
  | _ => exact ⟨Z, env.set i (some _), M, K, (by rw [set_same e]; exact st), w, en⟩
theorem snds_whl {e : SE} {v : Expr} {b : List SS} {bv : List Stmt} {pos : Pos} (hh : c.hot = false) (h : Snd c T N sc e v) (hb : SndSs c T N sc b bv) : SndS c T N sc (.whl e b) (.While v bv [] pos) := fun X W O => by
  obtain ⟨_, t, h1, h2⟩ := h X W O.co
  refine ps_weak (ps_while (O.own hh).2.2 h1 (hb X W O)) fun D σ H ⟨Z, env, M, K, st, w, en⟩ => ?_
  obtain ⟨n, w⟩ := (show ∃ n, whN _ _ K n env M from w)
  refine ⟨fun m σ' H' => ∃ env' M', Stp H M H' M' ∧ Sta (c.z Z) σ' H' env' M' ∧ whN (fun env M Q => wE T e env M Q (fun x M' => K.ex x env M')) (fun K env M => wSs T b K env M) K m env' M', ⟨n, env, M, .refl, st, w⟩, ?_⟩
  rintro m σ1 H1 ⟨env1, M1, s1, st1, w1⟩
  cases m with
  | zero => exact False.elim w1
  | succ m =>
    refine h2 Z σ1 H1 env1 M1 (fun t M' => br t (wSs T b _ env1 M') (K.nx env1 M')) _ _ st1 w1 ((en.stp s1).exc st1) fun b' H2 M2 s2 ok2 q2 => ?_
    cases b' with
    | true =>
      rw [if_pos rfl]
      refine ⟨fun σ' H' => ∃ env' M', Stp H M H' M' ∧ Sta (c.z Z) σ' H' env' M' ∧ whN (fun env M Q => wE T e env M Q (fun x M' => K.ex x env M')) (fun K env M => wSs T b K env M) K m env' M', fun σ' H' q => ⟨m, Nat.lt_succ_self m, q⟩, Z, env1, M2, _, st1.stp s2 ok2, q2, ?_⟩
      have sA := s1.trans s2
      exact ⟨fun _ _ env' M' s st' q => ⟨env', M', sA.trans s, st', q⟩, (en.stp sA).rt, (en.stp sA).nx, fun _ _ env' M' s st' q => ⟨env', M', sA.trans s, st', q⟩, (en.stp sA).ex⟩
    | false =>
      rw [if_neg Bool.false_ne_true]
      exact en.nx _ _ _ _ (s1.trans s2) (st1.stp s2 ok2) q2
theorem snds_fors {tg : Tg} {k : ItK} {es : List SE} {b : List SS} {t it : Expr} {bv : List Stmt} {pos : Pos} (hh : c.hot = false) (hi : ItE c T N sc k tg es it) (htg : mTg N sc tg t = true) (hb : SndSs c T N sc b bv) : SndS c T N sc (.fors tg k es b) (.For t it bv [] pos) := fun X W O => by
  obtain ⟨wi, p1, p2⟩ := it_ok (tgE := t) O.co hi (mTg_tp htg).1
  have hcur := (O.co.calm hh).2
  have hg := sat_gtg (c := c) O.co.K hcur tg
  refine ps_weak (ps_for (O.own hh).2.2 (O.co.calm hh).1 p1 (gtg_ok (O.co.calm hh).1 O.co.nd O.set O.co.N htg) (hb X W O) (noSet (SndL.it_fine hi))) fun D σ H ⟨Z, env, M, K, st, w, en⟩ => ?_
  refine p2 Z σ H env M (fun ds items M1 => forL (fun M' => itD k ds M' = some items) (fun K env M => wSs T b K env M) tg K items env M1) _ _ st w (en.exc st) fun J H1 M1 ds items s1 ok1 e1 q1 its => ?_
  have J0 := its Z fun a z => .inl z
  refine ⟨fun i m σ' H' => m = items.length - i ∧ i ≤ items.length ∧ ∃ env' M', Stp H1 M1 H' M' ∧ Sta (c.z Z) σ' H' env' M' ∧ forL (fun M' => itD k ds M' = some items) (fun K env M => wSs T b K env M) tg K (items.drop i) env' M', ⟨_, rfl, Nat.zero_le _, env, M1, .refl, st.stp s1 ok1, q1⟩, ?_⟩
  rintro i m σ2 H2 ⟨rfl, hle, env2, M2, s2, st2, q2⟩
  by_cases hlt : i < items.length
  · rw [drop_cons hlt] at q2
    obtain ⟨ch, q2⟩ := q2
    obtain ⟨env', eb, q2⟩ := obn_of q2
    obtain ⟨J1, _⟩ := J0 H2 M2 s2 st2.cells ch
    obtain ⟨go, yl⟩ := J1 i items[i] (by rw [List.getElem?_eq_getElem hlt])
    refine .inr ⟨go, fun σ' H' => ∃ env' M', Stp H1 M1 H' M' ∧ Sta (c.z Z) σ' H' env' M' ∧ forL (fun M' => itD k ds M' = some items) (fun K env M => wSs T b K env M) tg K (items.drop (i + 1)) env' M', fun σ' H' q => ⟨items.length - (i + 1), by omega, rfl, hlt, q⟩, fun x H3 y => ?_⟩
    obtain ⟨s3, ok3, rx⟩ := yl x H3 y
    refine hg Z σ2 H3 env2 M2 x _ env' _ (st2.stp s3 ok3) rx eb fun σ' st' _ => ⟨Z, env', M2, _, st', q2, ?_⟩
    have sA := s2.trans s3
    have enA := en.stp (s1.trans sA)
    exact ⟨fun _ _ env' M' s st' q => ⟨env', M', sA.trans s, st', q⟩, enA.rt, enA.nx, fun _ _ env' M' s st' q => ⟨env', M', sA.trans s, st', q⟩, enA.ex⟩
  · have e : i = items.length := by omega
    subst e
    rw [List.drop_length] at q2
    obtain ⟨ch, q2⟩ := q2
    exact .inl ⟨(J0 H2 M2 s2 st2.cells ch).2 _ (Nat.le_refl _), en.nx _ _ _ _ (s1.trans s2) st2 q2⟩
end
end L3
set_option maxRecDepth 100000
set_option maxHeartbeats 8000000
namespace L3
open PySem L2
section
variable {X : Cx} {c : Cfg} {T : Tab} {N : List PySem.Str} {sc : Scope} {W : WX}
/-! ### fields set -/
theorem putF_rep {l : List Nm} (nd : (l.map Nm.s).Nodup) {f : Nm} (hf : f ∈ l) {H : Hp} {M : Mm} {v : V} {d : D} (rv : Rep c H M v d) : ∀ {vs : List (PySem.Str × V)} {fs : List (Nm × D)}, RepF c H M vs fs → (∀ p ∈ fs, p.1 ∈ l) →
    RepF c H M (L2.putF f.s v vs) (L3.putF fs f d) ∧ (∀ p ∈ L3.putF fs f d, p.1 ∈ l)
  | _, _, .nil, _ => ⟨.cons rv .nil, fun p hp => by simp [L3.putF] at hp; subst hp; exact hf⟩
  | _, _, .cons (n := n) (v := w) (d := e) (vs := vs) (fs := fs) a r, hk => by
    by_cases q : n = f
    · subst q
      have e1 : L2.putF n.s v ((n.s, w) :: vs) = (n.s, v) :: vs := by simp [L2.putF]
      have e2 : L3.putF ((n, e) :: fs) n d = (n, d) :: fs := by simp [L3.putF]
      rw [e1, e2]
      exact ⟨.cons rv r, fun p hp => by
        rcases List.mem_cons.mp hp with rfl | hp
        · exact hf
        · exact hk p (List.mem_cons_of_mem _ hp)⟩
    · have ne : n.s ≠ f.s := fun e => q (nodup_s nd (hk _ List.mem_cons_self) hf e)
      have e1 : L2.putF f.s v ((n.s, w) :: vs) = (n.s, w) :: L2.putF f.s v vs := by simp [L2.putF, ne]
      have e2 : L3.putF ((n, e) :: fs) f d = (n, e) :: L3.putF fs f d := by simp [L3.putF, q]
      obtain ⟨i1, i2⟩ := putF_rep nd hf rv r fun p hp => hk p (List.mem_cons_of_mem _ hp)
      rw [e1, e2]
      exact ⟨.cons a i1, fun p hp => by
        rcases List.mem_cons.mp hp with rfl | hp
        · exact hk _ List.mem_cons_self
        · exact i2 p hp⟩
theorem RepF.len {H : Hp} {M : Mm} : ∀ {vs : List (PySem.Str × V)} {fs : List (Nm × D)}, RepF c H M vs fs → vs.length = fs.length
  | _, _, .nil => rfl
  | _, _, .cons _ r => by simp [r.len]
theorem insR_rep {H : Hp} {M : Mm} {v : V} {d : D} {a : Addr} {n : Nm} {fs : List (Nm × D)} (ok : Cells c H M) (r : Rep c H M v d) (h : insR M d = some (a, n, fs)) :
    v = .ref a ∧ M a = some (.ins n fs) ∧ ∃ C dx vs, H a = some (.ins C dx vs) ∧ c.icls n = some C ∧ (∀ p ∈ fs, p.1 ∈ c.fl n) ∧ RepF c H M vs fs := by
  cases r with
  | ref b =>
    cases e : M b with
    | none => simp [insR, e] at h
    | some y => cases y with
      | ins m gs =>
        simp [insR, e] at h
        obtain ⟨rfl, rfl, rfl⟩ := h
        cases ok.at' _ _ e with
        | ins h1 z k q => exact ⟨rfl, e, _, _, _, h1, z, k, q⟩
      | _ => simp [insR, e] at h
  | _ => simp [insR] at h
theorem snds_asgF {o e : SE} {f : Nm} {ov v : Expr} {p pos : Pos} (ho : Snd c T N sc o ov) (h : Snd c T N sc e v) : SndS c T N sc (.asgF o f e) (.Assign [.Attribute ov f.s p] v pos) := fun X W O => by
  obtain ⟨⟨t, h1, h2⟩, _⟩ := h X W O.co
  obtain ⟨⟨u, g1, g2⟩, _⟩ := ho X W O.co
  have hs : swapsWith v (some (.Attribute ov f.s p)) pos.line X.env = pure false := by cases v <;> rfl
  refine ps_weak (ps_fld g1 h1 hs) fun D σ H ⟨Z, env, M, K, st, w, en⟩ => ?_
  refine h2 Z σ H env M _ _ _ st w (en.exc st) fun y H1 d M1 s1 ok1 r1 q1 => ?_
  refine g2 Z σ H1 env M1 _ _ _ (st.stp s1 ok1) q1 ((en.stp s1).exc (st.stp s1 ok1)) fun x H2 dx M2 s2 ok2 r2 q2 => ?_
  obtain ⟨⟨a, n, fs⟩, e1, hl, q2⟩ := obn_of q2
  obtain ⟨l, e2, hf, q2⟩ := obn_of q2
  obtain ⟨rfl, e3, C, dx', vs, k1, k2, k3, k4⟩ := insR_rep ok2 r2 e1
  have el := O.co.flT n l e2
  subst el
  obtain ⟨nd, na⟩ := O.co.fl n C k2
  have s3 := stp_set (o := .ins C dx' (L2.putF f.s y vs)) (x' := .ins n (L3.putF fs f d)) ok2 e3
  obtain ⟨r3, k5⟩ := putF_rep nd hf ((r1.stp s2).stp s3) (k4.view s3.view) k3
  have ok3 := cells_set (o := .ins C dx' (L2.putF f.s y vs)) (x' := .ins n (L3.putF fs f d)) ok2 e3 (.ins upd_same k2 k5 r3)
  exact ⟨a, C, dx', vs, rfl, k1, O.co.cls n C k2, na f hf, by rw [k4.len]; exact hl, en.nx _ _ _ _ ((s1.trans s2).trans s3) (((st.stp s1 ok1).stp s2 ok2).stp s3 ok3) q2⟩
/-! ### items set -/
def rSetU : TSet := fun o i v H Q => rSetL o i v H Q ∨ rSetD o i v H Q
theorem set_U (hu : X.A.units + 1 < cLine) : PSet X rSetU := by
  intro pins s σ H o i v ov iv u Q I ro ri rv h
  rcases h with h | h
  · exact set_list pins s σ H o i v ov iv u Q I ro ri rv h
  · exact set_dict hu pins s σ H o i v ov iv u Q I ro ri rv h
theorem setI_sat {H : Hp} {M : Mm} {o i v : V} {d1 d2 d : D} {Q : Mm → Prop} {k : Hp → Prop} (ok : Cells c H M) (ro : Rep c H M o d1) (ri : Rep c H M i d2) (rv : Rep c H M v d) (h : setI d1 d2 d M Q)
    (hk : ∀ H' M', Stp H M H' M' → Cells c H' M' → Q M' → k H') : rSetU o i v H k := by
  cases ro with
  | ref a =>
    cases e : M a with
    | none => simp [setI, e] at h
    | some x => cases x with
      | ins _ _ => simp [setI, e] at h
      | dct t kvs =>
        have h : cnd (keyOk t d2 = true) (cnd (kvs.length < sizeLine) (Q (up M a (.dct t (putK kvs d2 d))))) := by simpa [setI, e] using h
        obtain ⟨h1, h2, h⟩ := h
        cases t with
        | false =>
          obtain ⟨k', rfl, rfl⟩ := key_flat ri h1
          cases ok.at' _ _ e with
          | @dK ks0 _ g z q =>
            have s := stp_set (o := .dK (L2.putK ks0 k' v)) (x' := .dct false (putK kvs (keyD k') d)) ok e
            refine .inr ⟨a, _, rfl, .k g (by rw [q.len]; exact h2), hk _ _ s (cells_set ok e (.dK upd_same ?_ (putK_K (rv.stp s) k' (q.view s.view)))) h⟩
            exact Nat.le_trans (putK_len _ k' v) (by rw [q.len]; exact h2)
        | true =>
          have hz : ∃ (b : Addr) (ks : List Key), i = .ref b ∧ H b = some (.tup (ks.map kV)) ∧ d2 = .tup (ks.map keyD) ∧ ks.length ≤ sizeLine := by
            obtain ⟨b, ks, e1, e2, e3⟩ := key_tup ri h1
            refine ⟨b, ks, e1, e2, e3, ?_⟩
            subst e3
            cases ri with
            | tup g n z q => rw [q.len, List.length_map] at z; exact z
          obtain ⟨b, ks, rfl, hb, rfl, hkl⟩ := hz
          cases ok.at' _ _ e with
          | @dT ks0 _ g z q =>
            have s := stp_set (o := .dT (L2.putK ks0 ks v)) (x' := .dct true (putK kvs (.tup (ks.map keyD)) d)) ok e
            refine .inr ⟨a, _, rfl, .t g hb (by rw [q.len]; exact h2), hk _ _ s (cells_set ok e (.dT upd_same ?_ (putK_T (rv.stp s) ks hkl (q.view s.view)))) h⟩
            exact Nat.le_trans (putK_len _ ks v) (by rw [q.len]; exact h2)
      | lst ds =>
        cases ri with
        | int n =>
          have h : obn (ixN ds.length n) fun k => Q (up M a (.lst (ds.set k d))) := by simpa [setI, e] using h
          obtain ⟨j, e2, h⟩ := obn_of h
          cases ok.at' _ _ e with
          | @lst vs _ g z q =>
            have s := stp_set (o := .lst (vs.set j v)) (x' := .lst (ds.set j d)) ok e
            exact .inl ⟨a, vs, n, j, rfl, rfl, g, by rw [q.len]; exact e2, hk _ _ s (cells_set ok e (.lst upd_same (by rw [List.length_set]; exact z) (Reps.set j (rv.stp s) (q.view s.view)))) h⟩
        | _ => simp [setI, e] at h
  | _ => simp [setI] at h
theorem snds_asgI {o i e : SE} {ov iv v : Expr} {p pos : Pos} (ho : Snd c T N sc o ov) (hi : Snd c T N sc i iv) (hf : fine iv = true) (h : Snd c T N sc e v) : SndS c T N sc (.asgI o i e) (.Assign [.Subscript ov iv p] v pos) := fun X W O => by
  obtain ⟨⟨t, h1, h2⟩, _⟩ := h X W O.co
  obtain ⟨⟨u, g1, g2⟩, _⟩ := ho X W O.co
  obtain ⟨⟨r, k1, k2⟩, _⟩ := hi X W O.co
  have hu : X.A.units + 1 < cLine := by have := O.co.hu; omega
  have hs : swapsWithSole [.Subscript ov iv p] v pos.line X.env = pure false := by
    show swapsWith v (some (.Subscript ov iv p)) pos.line X.env = pure false
    cases v <;> rfl
  have hw : swappedStores [.Subscript ov iv p] v X.env = pure none := by cases v <;> rfl
  refine ps_weak (ps_asg h1 (pg_sub g1 k1 (set_U hu) (by intro v; cases iv <;> first | rfl | cases hf)) hs hw) fun D σ H ⟨Z, env, M, K, st, w, en⟩ => ?_
  refine h2 Z σ H env M _ _ _ st w (en.exc st) fun y H1 d M1 s1 ok1 r1 q1 => ?_
  refine g2 Z σ H1 env M1 _ _ _ (st.stp s1 ok1) q1 ((en.stp s1).exc (st.stp s1 ok1)) fun x H2 dx M2 s2 ok2 r2 q2 => ?_
  refine k2 Z σ H2 env M2 _ _ _ ((st.stp s1 ok1).stp s2 ok2) q2 ((en.stp (s1.trans s2)).exc ((st.stp s1 ok1).stp s2 ok2)) fun z H3 dz M3 s3 ok3 r3 q3 => ?_
  exact setI_sat ok3 (r2.stp s3) r3 ((r1.stp s2).stp s3) q3 fun H' M' s ok q => en.nx _ _ _ _ (((s1.trans s2).trans s3).trans s) ((((st.stp s1 ok1).stp s2 ok2).stp s3 ok3).stp s ok) q
end
end L3
set_option maxRecDepth 100000
set_option maxHeartbeats 8000000
namespace L3
open PySem L2
section
variable {X : Cx} {c : Cfg} {T : Tab} {N : List PySem.Str} {sc : Scope} {W : WX}
/-! ### x op= e -/
theorem PIp.or {op : Operator} {t t' : TIp} (h : PIp X op t) (h' : PIp X op t') : PIp X op (fun x y H Q => t x y H Q ∨ t' x y H Q) := fun pins s σ H x y v u Q I r1 r2 q =>
  q.elim (h pins s σ H x y v u Q I r1 r2) (h' pins s σ H x y v u Q I r1 r2)
theorem PIp.no {op : Operator} : PIp X op (fun _ _ _ _ => False) := fun _ _ _ _ _ _ _ _ _ _ _ _ q => q.elim
def AugSat (c : Cfg) (t : TIp) (op : Operator) : Prop := ∀ Z x y H M dx dy Q k, Cells (c.z Z) H M → Rep (c.z Z) H M x dx → Rep (c.z Z) H M y dy → augD op dx dy M Q → Cont (c.z Z) H M Q k → t x y H k
theorem aug_ok (op : Operator) : ∃ t, PIp X op t ∧ AugSat c t op := by
  cases op with
  | Add =>
    refine ⟨_, ip_add, fun Z x y H M dx dy Q k ok rx ry h hk => ?_⟩
    cases dx with
    | int i => cases dy with
      | int j => rw [rep_int rx, rep_int ry]; exact ⟨i, j, rfl, rfl, hk _ _ _ _ .refl ok (.int _) h⟩
      | _ => exact False.elim h
    | _ => exact False.elim h
  | Sub =>
    refine ⟨_, ip_sub, fun Z x y H M dx dy Q k ok rx ry h hk => ?_⟩
    obtain ⟨i, j, rfl, rfl, h⟩ := intQ_of h
    rw [rep_int rx, rep_int ry]
    exact ⟨i, j, rfl, rfl, hk _ _ _ _ .refl ok (.int _) h⟩
  | _ => exact ⟨_, PIp.no, fun Z x y H M dx dy Q k ok rx ry h hk => False.elim h⟩
theorem snds_aug {i : Nat} {op : Operator} {e : SE} {v : Expr} {x : PySem.Str} {p pos : Pos} (h : Snd c T N sc e v) (hN : N[i]? = some x) (hl : locB sc x = true) (hi : c.cu ≠ some i) : SndS c T N sc (.aug i op e) (.AugAssign (.Name x p) op v pos) := fun X W O => by
  obtain ⟨⟨t, h1, h2⟩, _⟩ := h X W O.co
  obtain ⟨ti, p1, p2⟩ := aug_ok (X := X) (c := c) op
  refine ps_weak (ps_aug O.co.nd (N_get O.co hN) (O.set x hl).1 h1 p1 (O.set x hl).2) fun D σ H ⟨Z, env, M, K, st, w, en⟩ => ?_
  obtain ⟨dx, ex, w⟩ := obn_of w
  unfold varE at ex
  split at ex
  · rename_i d' e'
    obtain rfl : d' = dx := Option.some.inj ex
    obtain ⟨xv, hx, rx⟩ := st.env' i d' e'
    refine ⟨xv, hx, h2 Z σ H env M _ _ _ st w (en.exc st) fun y H1 d M1 s1 ok1 r1 q1 => ?_⟩
    refine p2 Z xv y H1 M1 _ d _ _ ok1 (rx.stp s1) r1 q1 fun z H2 dz M2 s2 ok2 r2 q2 => ?_
    exact en.nx _ _ _ _ (s1.trans s2) (((st.stp s1 ok1).stp s2 ok2).set r2 i (at_of hi Z)) q2
  · cases ex
/-! ### raise -/
theorem snds_raise {n : Nm} {m : PySem.Str} {j : Nat} {p p2 p3 pos : Pos} (hh : c.hot = false) (hg : glB sc n.s = true) (hn : nmB n.s = true) : SndS c T N sc (.raise n [.str m]) (.Raise (some (.Call (.Name n.s p) [.Constant (.str m) j p2] [] p3)) none pos) := fun X W O => by
  obtain ⟨n1, n2, n3⟩ := nmB_of hn
  cases e : lk T.xc n with
  | none =>
    refine ⟨fun pins s σ H D I ⟨Z, env, M, K, st, w, en⟩ => ?_⟩
    have w : obn (lk T.xc n) fun fs => K.ex ⟨n, fs.zip [.str m]⟩ env M := w
    rw [e] at w
    exact False.elim w
  | some fs =>
    obtain ⟨rfl, C, newId, initId, bmB, B, hC, F, q, kC, r⟩ := O.co.xc n fs e
    refine ps_weak (ps_raise (O.co.calm hh).1 O.co.tk (pmk_own F q (O.co.clsG n C hC) kC r (gl_of O.co hg) n1)) fun D σ H ⟨Z, env, M, K, st, w, en⟩ => ?_
    have w : obn (lk T.xc n) fun fs => K.ex ⟨n, fs.zip [.str m]⟩ env M := w
    rw [e] at w
    exact en.ex (.ref C) none σ H ⟨n, []⟩ env M .refl st ⟨C, hC, rfl, .inl ⟨rfl, rfl⟩⟩ w
/-! ### try -/
theorem COk.tr (O : COk c T N sc X W) {W' : WX} {pn : List (Addr × Obj)} {xe : Value → Shared → Prop} (hh : c.hot = false) (tk : Takes (X.tr pn xe) W') : COk c T N sc (X.tr pn xe) W' where
  N := O.N
  nd := O.nd
  sc := O.sc
  calm := O.calm
  K := O.K
  bi := O.bi
  tk := tk
  hu := O.hu
  fn := O.fn
  mt := O.mt
  cl := O.cl
  gl := O.gl
  cls := O.cls
  fl := O.fl
  flT := O.flT
  flM := O.flM
  sub := O.sub
  own := O.own
  icl := O.icl
  clsG := O.clsG
  isO := O.isO
  isI := O.isI
  isX := O.isX
  exm := O.exm
  xc := O.xc
  cur := fun i a n dd e => by rw [(O.calm hh).2] at e; cases e
theorem SOk.tr (O : SOk c T N sc X W) {W' : WX} {pn : List (Addr × Obj)} {xe : Value → Shared → Prop} (hh : c.hot = false) (tk : Takes (X.tr pn xe) W') (po : PassesOwn (model X.prog X.w) X.A X.env xe) : SOk c T N sc (X.tr pn xe) W' :=
  ⟨O.co.tr hh tk, O.set, O.kind, fun _ => ⟨(O.own hh).1, (O.own hh).2.1, po⟩⟩
theorem SOk.suite (O : SOk c T N sc X W) (hh : c.hot = false) {a : Addr} {oe : Obj} {n : Nm} {C : Addr} {d : Option Addr} {pn : List (Addr × Obj)} (k : Option Nat) (hC : c.cls n = some C) (hz : Zc (.ref C) d oe) (hf : ∃ vs, oe.data = .fields vs) (hs : (lk T.sub n).isSome = true) :
    SOk (c.su true (k.map fun i => (i, a, n, d))) T N sc (X.suite a ((a, oe) :: pn)) Wno :=
  ⟨{ N := O.co.N, nd := O.co.nd, sc := O.co.sc, calm := fun h => (nomatch h), K := O.co.K, bi := O.co.bi, tk := takes_none5, hu := O.co.hu, fn := fun h => (nomatch h), mt := fun h => (nomatch h), cl := fun h => (nomatch h),
     gl := fun n d h => let ⟨u, v, h1, h2, h3⟩ := O.co.gl n d h; ⟨u, v, h1, h2, fun Z H M => (h3 Z H M).su⟩, cls := O.co.cls, fl := O.co.fl, flT := O.co.flT, flM := O.co.flM, sub := O.co.sub, own := O.co.own, icl := O.co.icl, clsG := O.co.clsG, isO := O.co.isO, isI := O.co.isI, isX := O.co.isX, exm := O.co.exm, xc := O.co.xc,
     cur := fun i b m dd e => by
       cases k with
       | none => cases e
       | some j =>
         have e : some (j, a, n, d) = some (i, b, m, dd) := e
         cases e
         exact ⟨X, oe, pn, C, rfl, hC, hz, hf, hs⟩ }, O.set, O.kind, fun h => (nomatch h)⟩
/-- what the suite of an except is read as -/
def rdH (c : Cfg) (T : Tab) (k : Option Nat) (h : List SS) (a : Addr) (cls : Value) (d : Option Addr) : TS := fun D σ H => ∃ n C, cls = .ref C ∧ c.cls n = some C ∧ (lk T.sub n).isSome = true ∧ rdS (c.su true (k.map fun i => (i, a, n, d))) Wno (wSs T h) D σ H
theorem rdH_ok (O : SOk c T N sc X W) (hh : c.hot = false) {k : Option Nat} {h : List SS} {hb : List Stmt} (hs : ∀ a n d, SndSs (c.su true (k.map fun i => (i, a, n, d))) T N sc h hb) (a : Addr) (oe : Obj) (cls : Value) (d : Option Addr) (pn : List (Addr × Obj)) (hz : Zc cls d oe) (hf : ∃ vs, oe.data = .fields vs) :
    PSs (X.suite a ((a, oe) :: pn)) hb (rdH c T k h a cls d) := ⟨fun pins s σ H D I ⟨n, C, e, hC, hl, q⟩ => by
  subst e
  exact (hs a n d _ _ (O.suite hh k hC hz hf hl)).run pins s σ H D I q⟩
/-- a frame's values, in a suite or out of it -/
theorem Sta.su {σ : St} {H : Hp} {env : Env} {M : Mm} {h : Bool} {u : Option (Nat × Addr × Nm × Option Addr)} (st : Sta c σ H env M)
    (hc : ∀ i a n dd, u = some (i, a, n, dd) → σ[i]? = some (some (.ref a)) ∧ ∃ fs, env[i]? = some (some (.exc n fs)) ∧ ((dd = none ∧ fs = []) ∨ ∃ x vs, dd = some x ∧ H x = some (.xd vs) ∧ M x = none ∧ RepF c H M vs fs ∧ fs ≠ [])) : Sta (c.su h u) σ H env M :=
  ⟨st.cells.su, st.len, fun i d e => let ⟨v, h1, h2⟩ := st.env' i d e; ⟨v, h1, h2.su⟩, fun i a n dd e => by
    obtain ⟨h1, fs, h2, h3⟩ := hc i a n dd e
    refine ⟨h1, fs, h2, h3.imp id ?_⟩
    rintro ⟨x, vs, e1, e2, e3, e4, ne⟩
    exact ⟨x, vs, e1, e2, e3, e4.su, ne⟩⟩
theorem su_back (hh : c.hot = false) (hc : c.cur = none) {h : Bool} {u : Option (Nat × Addr × Nm × Option Addr)} {Z : Addr → Prop} : (((c.su h u).z Z).su false none) = c.z Z := by
  unfold Cfg.su Cfg.z
  rw [← hh, ← hc]
theorem Sta.out {σ : St} {H : Hp} {env : Env} {M : Mm} {h : Bool} {u : Option (Nat × Addr × Nm × Option Addr)} {Z : Addr → Prop} (hh : c.hot = false) (hc : c.cur = none) (st : Sta ((c.su h u).z Z) σ H env M) : Sta (c.z Z) σ H env M := by
  rw [← su_back hh hc (h := h) (u := u)]
  exact st.su fun i a n dd e => nomatch e
theorem Rep.out {v : V} {d : D} {H : Hp} {M : Mm} {h : Bool} {u : Option (Nat × Addr × Nm × Option Addr)} {Z : Addr → Prop} (hh : c.hot = false) (hc : c.cur = none) (st : Rep ((c.su h u).z Z) H M v d) : Rep (c.z Z) H M v d := by
  rw [← su_back hh hc (h := h) (u := u)]
  exact st.su
theorem Cells.out {H : Hp} {M : Mm} {h : Bool} {u : Option (Nat × Addr × Nm × Option Addr)} {Z : Addr → Prop} (hh : c.hot = false) (hc : c.cur = none) (st : Cells ((c.su h u).z Z) H M) : Cells (c.z Z) H M := by
  rw [← su_back hh hc (h := h) (u := u)]
  exact st.su
theorem snds_try {b h : List SS} {n : Nm} {k : Option Nat} {m : Option PySem.Str} {bv hs : List Stmt} {h0 : Stmt} {p p2 pos : Pos} (hh : c.hot = false) (hg : glB sc n.s = true) (hn : nmB n.s = true) (hd : hdB N sc k m = true) (hb : SndSs c T N sc b bv)
    (hsu : ∀ a n d, SndSs (c.su true (k.map fun i => (i, a, n, d))) T N sc h (h0 :: hs)) : SndS c T N sc (.tryx b n k h) (.Try bv [.ExceptHandler (some (.Name n.s p)) m (h0 :: hs) p2] [] [] pos) := fun X W O => by
  obtain ⟨n1, n2, n3⟩ := nmB_of hn
  obtain ⟨o1, o2, o3⟩ := O.own hh
  have hcur := (O.co.calm hh).2
  -- what follows an exception, whichever clause
  cases hl : (lk T.sub n).isSome with
  | false =>
    refine ⟨fun pins s σ H D I ⟨Z, env, M, K, st, w, en⟩ => ?_⟩
    have w : cnd ((lk T.sub n).isSome = true) _ := w
    rw [hl] at w
    exact absurd w.1 Bool.false_ne_true
  | true =>
    obtain ⟨l0, hl0⟩ := Option.isSome_iff_exists.mp hl
    obtain ⟨C, hC⟩ := Option.isSome_iff_exists.mp (O.co.sub n l0 hl0)
    have nm : Names X n.s (.ref C) := ⟨gl_of O.co hg, n1, .inl (O.co.clsG n C hC)⟩
    have body : ∀ (W : WX) (pn : List (Addr × Obj)) (xe : Value → Shared → Prop), Takes (X.tr pn xe) W → PassesOwn (model X.prog X.w) X.A X.env xe → PSs (X.tr pn xe) bv (rdS c W (wSs T b)) := fun W pn xe tk po => hb _ _ (O.tr hh tk po)
    cases k with
    | none =>
      cases m with
      | some _ => simp [hdB] at hd
      | none =>
        refine ps_weak (ps_try_only o1 o2 nm O.co.tk body (rdH_ok O hh hsu)) fun D σ H ⟨Z, env, M, K, st, w, en⟩ => ?_
        refine ⟨Z, env, M, _, st, w.2, en.nx, en.rt, en.bk, en.ct, fun cls d σ' H' x env' M' s st' xr q => ?_⟩
        obtain ⟨l, el, q⟩ := obn_of q
        obtain ⟨Cx', hx, rfl, hxd⟩ := xr
        refine ⟨_, O.co.exm x.c l el Cx' hx n C hC hl, fun eb a na => ?_, fun eb => ?_⟩
        · rw [eb] at q
          refine ⟨x.c, Cx', rfl, hx, by rw [el]; rfl, Z, env', M', K.sui, st'.su (fun i a n dd e => nomatch e), q, ?_⟩
          have en' := en.stp s
          exact ⟨fun _ _ _ _ s st q => en'.nx _ _ _ _ s (st.out hh hcur) q, fun _ _ _ _ s ok r q => en'.rt _ _ _ _ s (ok.out hh hcur) (r.out hh hcur) q, fun _ _ _ _ s st q => en'.bk _ _ _ _ s (st.out hh hcur) q, fun _ _ _ _ s st q => en'.ct _ _ _ _ s (st.out hh hcur) q, fun _ _ _ _ _ _ _ _ _ _ q => q⟩
        · rw [eb] at q
          exact en.ex _ _ _ _ _ _ _ s st' ⟨Cx', hx, rfl, hxd⟩ q
    | some i =>
      cases m with
      | none => simp [hdB] at hd
      | some y =>
        simp only [hdB, Bool.and_eq_true, decide_eq_true_eq] at hd
        refine ps_weak (ps_try_as o1 o2 O.co.nd (N_get O.co hd.1) (show X.env.scope.names.lookup y = _ by rw [O.co.sc]; exact hd.2) nm O.co.tk body (rdH_ok O hh hsu)) fun D σ H ⟨Z, env, M, K, st, w, en⟩ => ?_
        refine ⟨Z, env, M, _, st, w.2, en.nx, en.rt, en.bk, en.ct, fun cls d σ' H' x env' M' s st' xr q => ?_⟩
        obtain ⟨l, el, q⟩ := obn_of q
        obtain ⟨Cx', hx, rfl, hxd⟩ := xr
        refine ⟨_, O.co.exm x.c l el Cx' hx n C hC hl, fun eb a na => ?_, fun eb => ?_⟩
        · rw [eb] at q
          obtain ⟨hlen, q⟩ := (show cnd (i < env'.length) _ from q)
          refine ⟨x.c, Cx', rfl, hx, by rw [el]; rfl, Z, env'.set i (some (.exc x.c x.fs)), M', (K.out i).sui, (st'.set (.exc a x.c x.fs) i (by unfold Cfg.at; show (match c.cur with | some (j, _) => decide (j = i) | none => false) = false; rw [hcur])).su (fun j a' n' dd e => ?_), q, ?_⟩
          · have e : some (i, a, x.c, d) = some (j, a', n', dd) := e
            cases e
            refine ⟨by rw [List.getElem?_set_self (by rw [st'.len]; exact hlen)], x.fs, by rw [List.getElem?_set_self hlen], hxd.imp id ?_⟩
            rintro ⟨a', vs, e1, e2, e3, e4, ne⟩
            exact ⟨a', vs, e1, e2, e3, e4, ne⟩
          · have en' := en.stp s
            have cl : ∀ {σ'' : St} {H'' : Hp} {env'' : Env} {M'' : Mm}, Sta ((c.su true (some (i, a, x.c, d))).z Z) σ'' H'' env'' M'' → Sta (c.z Z) (σ''.set i none) H'' (env''.set i none) M'' := fun st => (st.out hh hcur).unset i none (by unfold Cfg.at; show (match c.cur with | some (j, _) => decide (j = i) | none => false) = false; rw [hcur])
            exact ⟨fun _ _ _ _ s st q => en'.nx _ _ _ _ s (cl st) q, fun _ _ _ _ s ok r q => en'.rt _ _ _ _ s (ok.out hh hcur) (r.out hh hcur) q, fun _ _ _ _ s st q => en'.bk _ _ _ _ s (cl st) q, fun _ _ _ _ s st q => en'.ct _ _ _ _ s (cl st) q, fun _ _ _ _ _ _ _ _ _ _ q => q⟩
        · rw [eb] at q
          exact en.ex _ _ _ _ _ _ _ s st' ⟨Cx', hx, rfl, hxd⟩ q
end
end L3
set_option maxRecDepth 100000
set_option maxHeartbeats 8000000
namespace L3
open PySem L2
section
variable {X : Cx} {c : Cfg} {T : Tab} {N : List PySem.Str} {sc : Scope} {W : WX}
theorem snds_asgC {i : Nat} {m : Bool} {tg : Tg} {k : ItK} {es : List SE} {d x : SE} {y : PySem.Str} {py pos lp : Pos} {elt t it : Expr} {ifs : List Expr} {scope : Scope} (hh : c.hot = false) (hi : ItE c T N sc k tg es it) (htg : mTg N scope tg t = true)
    (hb : blkC N sc scope (ownOf N tg) = true) (hc : (ifs = [] ∧ d = .bl true) ∨ ∃ y, ifs = [y] ∧ Snd c T N (relS scope sc) d y) (hx : Snd c T N (relS scope sc) x elt) (hN : N[i]? = some y) (hl : locB sc y = true) (hci : c.cu ≠ some i)
    (hs : swT sc y py (.ListComp elt [⟨t, it, ifs, 0⟩] scope lp) = true) : SndS c T N sc (.asg i (.comp m tg k es d x)) (.Assign [.Name y py] (.ListComp elt [⟨t, it, ifs, 0⟩] scope lp) pos) := fun X W O => by
  obtain ⟨wi, tt, te, p1, ob, g, h1, h2, sat⟩ := comp_parts (m := m) O.co hh hi htg hb hc hx
  simp only [swT, Bool.and_eq_true, decide_eq_true_eq, Bool.not_eq_true'] at hs
  obtain ⟨⟨s1, s2⟩, s3⟩ := hs
  have e1 : X.env.scope.names.lookup y = some .local := by rw [O.co.sc]; exact s1
  have sw := sw_true (elt := elt) (gs := [⟨t, it, ifs, 0⟩]) (l := pos.line) (by rw [O.co.sc]; exact O.kind) e1 s2 s3
  refine ps_weak (ps_setLc (O.co.calm hh).1 O.co.nd (N_get O.co hN) e1 sw p1 ob g h1 h2 (noSet (SndL.it_fine hi))) fun D σ H ⟨Z, env, M, K, st, w, en⟩ => ?_
  refine sat Z σ H env M _ _ _ st w (en.exc st) fun v H1 d M1 s1 ok1 r1 q1 => ?_
  exact en.nx _ _ _ _ s1 ((st.stp s1 ok1).set r1 i (at_of hci Z)) q1
/-- a comprehension's parts, from the matcher -/
theorem comp_of {m : Bool} {tg : Tg} {k : ItK} {es : List SE} {d x : SE} {e : Expr} (h : mE N (.comp m tg k es d x) sc e = true) (ok : okE c.hot c.cu (.comp m tg k es d x) = true) : ∃ elt t it ifs scope pos, e = .ListComp elt [⟨t, it, ifs, 0⟩] scope pos ∧
    c.hot = false ∧ ItE c T N sc k tg es it ∧ mTg N scope tg t = true ∧ blkC N sc scope (ownOf N tg) = true ∧ ((ifs = [] ∧ d = .bl true) ∨ ∃ y, ifs = [y] ∧ Snd c T N (relS scope sc) d y) ∧ Snd c T N (relS scope sc) x elt := by
  unfold mE at h; split at h
  · rename_i elt t it ifs a scope pos
    simp only [Bool.and_eq_true, decide_eq_true_eq] at h
    simp only [okE, Bool.and_eq_true, Bool.not_eq_true'] at ok
    obtain ⟨⟨⟨⟨⟨rfl, h2⟩, h3⟩, h4⟩, h5⟩, h6⟩ := h
    have hi : ItE c T N sc k tg es it := by
      split at h4
      · rename_i as has
        exact (SndL.ite has (sndEs es _ _ h4 ok.1.1.2)).1
      · cases h4
    refine ⟨elt, t, it, ifs, scope, pos, rfl, ok.1.1.1, hi, h2, h3, ?_, sndE x _ _ h6 ok.2⟩
    split at h5
    · exact .inl ⟨rfl, isTru_of h5⟩
    · exact .inr ⟨_, rfl, sndE d _ _ h5 ok.1.2⟩
    · cases h5
  · cases h
def isCompS : SE → Bool
  | .comp _ _ _ _ _ _ => true
  | _ => false
theorem comp_no {s : SE} {e : Expr} (hs : isCompS s = false) (h : mE N s sc e = true) : compB e = false := by
  cases e with
  | ListComp _ _ _ _ => cases s <;> first | (simp [mE] at h; done) | (cases hs; done) | (rename_i m k es; cases k <;> simp [mE] at h)
  | SetComp _ _ _ _ => cases s <;> first | (simp [mE] at h; done) | (cases hs; done) | (rename_i m k es; cases k <;> simp [mE] at h)
  | DictComp _ _ _ _ _ => cases s <;> first | (simp [mE] at h; done) | (cases hs; done) | (rename_i m k es; cases k <;> simp [mE] at h)
  | _ => rfl
end
mutual
theorem sndS {T : Tab} {N : List PySem.Str} : ∀ (s : SS) (c : Cfg) (sc : Scope) (st : Stmt), mS N sc s st = true → okS c.hot c.cu s = true → SndS c T N sc s st
  | .asg i e, c, sc, st, h, ok => by
    unfold mS at h; split at h
    · simp only [Bool.and_eq_true, decide_eq_true_eq, Bool.or_eq_true, Bool.not_eq_true'] at h
      simp only [okS, Bool.and_eq_true, decide_eq_true_eq] at ok
      obtain ⟨⟨⟨h1, h2⟩, h3⟩, h4⟩ := h
      cases hc : isCompS e with
      | false => exact snds_asg (sndE e _ _ h3 ok.2) h1 h2 ok.1 (.inl (comp_no hc h3))
      | true =>
        cases e with
        | comp m tg k es d x =>
          obtain ⟨elt, t, it, ifs, scope, p, rfl, hh, hi, g1, g2, g3, g4⟩ := comp_of (T := T) h3 ok.2
          rcases h4 with (h4 | h4) | h4
          · cases h4
          · exact snds_asgC hh hi g1 g2 g3 g4 h1 h2 ok.1 h4
          · exact snds_asg (sndE _ _ _ h3 ok.2) h1 h2 ok.1 (.inr h4)
        | _ => cases hc
    · cases h
  | .asgT is e, c, sc, st, h, ok => by
    unfold mS at h; split at h
    · simp only [Bool.and_eq_true, Bool.not_eq_true'] at h
      simp only [okS, Bool.and_eq_true, Bool.not_eq_true'] at ok
      exact snds_asgT ok.1 (sndE e _ _ h.2 ok.2) h.1.1 h.1.2
    · cases h
  | .asgL is e, c, sc, st, h, ok => by
    unfold mS at h; split at h
    · simp only [Bool.and_eq_true, Bool.not_eq_true'] at h
      simp only [okS, Bool.and_eq_true, Bool.not_eq_true'] at ok
      exact snds_asgL ok.1 (sndE e _ _ h.2 ok.2) h.1.1 h.1.2
    · cases h
  | .par is es, c, sc, st, h, ok => by
    unfold mS at h; split at h
    · simp only [Bool.and_eq_true] at h
      simp only [okS, Bool.and_eq_true, Bool.not_eq_true'] at ok
      exact snds_par ok.1 (sndEs es _ _ h.2 ok.2) h.1.1 h.1.2 h.2
    · cases h
  | .asgF o f e, c, sc, st, h, ok => by
    unfold mS at h; split at h
    · simp only [Bool.and_eq_true, decide_eq_true_eq] at h
      simp only [okS, Bool.and_eq_true] at ok
      obtain ⟨⟨rfl, h1⟩, h2⟩ := h
      exact snds_asgF (sndE o _ _ h1 ok.1.2) (sndE e _ _ h2 ok.2)
    · cases h
  | .asgI o i e, c, sc, st, h, ok => by
    unfold mS at h; split at h
    · simp only [Bool.and_eq_true] at h
      simp only [okS, Bool.and_eq_true] at ok
      exact snds_asgI (sndE o _ _ h.1.1 ok.1.1.2) (sndE i _ _ h.1.2 ok.1.2) (mE_fine h.1.2) (sndE e _ _ h.2 ok.2)
    · cases h
  | .aug i op e, c, sc, st, h, ok => by
    unfold mS at h; split at h
    · simp only [Bool.and_eq_true, decide_eq_true_eq] at h
      simp only [okS, Bool.and_eq_true, decide_eq_true_eq] at ok
      obtain ⟨⟨⟨h1, h2⟩, rfl⟩, h3⟩ := h
      exact snds_aug (sndE e _ _ h3 ok.2) h1 h2 ok.1
    · cases h
  | .augF _ _ _ _, c, sc, st, h, ok => by cases ok
  | .augI _ _ _ _, c, sc, st, h, ok => by cases ok
  | .exp e, c, sc, st, h, ok => by
    unfold mS at h; split at h
    · simp only [Bool.and_eq_true, Bool.not_eq_true'] at h
      exact snds_exp (sndE e _ _ h.2 ok) h.1
    · cases h
  | .ret e, c, sc, st, h, ok => by
    unfold mS at h; split at h
    · exact snds_ret (sndE e _ _ h ok)
    · cases h
  | .retN, c, sc, st, h, ok => by
    unfold mS at h; split at h
    · exact snds_retN
    · cases h
  | .ifs d a b, c, sc, st, h, ok => by
    unfold mS at h; split at h
    · simp only [Bool.and_eq_true] at h
      simp only [okS, Bool.and_eq_true] at ok
      exact snds_ifs (sndE d _ _ h.1.1 ok.1.1) (sndSs a _ _ _ h.1.2 ok.1.2) (sndSs b _ _ _ h.2 ok.2)
    · cases h
  | .whl d b, c, sc, st, h, ok => by
    unfold mS at h; split at h
    · simp only [Bool.and_eq_true] at h
      simp only [okS, Bool.and_eq_true, Bool.not_eq_true'] at ok
      exact snds_whl ok.1.1 (sndE d _ _ h.1 ok.1.2) (sndSs b _ _ _ h.2 ok.2)
    · cases h
  | .fors tg k es b, c, sc, st, h, ok => by
    unfold mS at h; split at h
    · simp only [Bool.and_eq_true] at h
      simp only [okS, Bool.and_eq_true, Bool.not_eq_true'] at ok
      obtain ⟨⟨h1, h2⟩, h3⟩ := h
      split at h2
      · rename_i as has
        exact snds_fors ok.1.1 (SndL.ite has (sndEs es _ _ h2 ok.1.2)).1 h1 (sndSs b _ _ _ h3 ok.2)
      · cases h2
    · cases h
  | .raise n es, c, sc, st, h, ok => by
    unfold mS at h; split at h
    · rename_i x p as p2 p3
      simp only [Bool.and_eq_true, decide_eq_true_eq] at h
      simp only [okS, Bool.not_eq_true'] at ok
      obtain ⟨⟨⟨⟨rfl, h1⟩, h2⟩, h3⟩, h4⟩ := h
      have : ∃ m j p2, es = [.str m] ∧ as = [.Constant (.str m) j p2] := by
        unfold strE at h3
        split at h3
        · rename_i m
          cases as with
          | nil => simp [mEs] at h4
          | cons a r => cases r with
            | cons _ _ => simp [mEs] at h4
            | nil =>
              simp only [mEs, Bool.and_true] at h4
              unfold mE at h4; split at h4
              · rw [of_decide_eq_true h4]; exact ⟨m, _, _, rfl, rfl⟩
              · cases h4
        · cases h3
      obtain ⟨m, j, p4, rfl, rfl⟩ := this
      exact snds_raise ok h1 h2
    · cases h
  | .tryx b n k hd, c, sc, st, h, ok => by
    unfold mS at h; split at h
    · simp only [Bool.and_eq_true, decide_eq_true_eq] at h
      simp only [okS, Bool.and_eq_true, Bool.not_eq_true'] at ok
      obtain ⟨⟨⟨⟨⟨rfl, h1⟩, h2⟩, h3⟩, h4⟩, h5⟩ := h
      refine snds_try ok.1.1 h1 h2 h3 (sndSs b _ _ _ h4 ok.1.2) fun a n d => sndSs hd _ _ _ h5 ?_
      have e : (c.su true (k.map fun i => (i, a, n, d))).cu = k := by
        unfold Cfg.cu Cfg.su
        cases k <;> rfl
      rw [e]
      exact ok.2
    · cases h
  | .pass, c, sc, st, h, ok => by
    unfold mS at h; split at h
    · exact snds_pass
    · cases h
  | .brk, c, sc, st, h, ok => by
    unfold mS at h; split at h
    · exact snds_brk
    · cases h
  | .cont, c, sc, st, h, ok => by
    unfold mS at h; split at h
    · exact snds_cont
    · cases h
  | .frz _, c, sc, st, h, ok => by simp [mS] at h
theorem sndSs {T : Tab} {N : List PySem.Str} : ∀ (ss : List SS) (c : Cfg) (sc : Scope) (sts : List Stmt), mSs N sc ss sts = true → okSs c.hot c.cu ss = true → SndSs c T N sc ss sts
  | [], c, sc, sts, h, ok => by
    cases sts with
    | nil => exact sndss_nil
    | cons _ _ => simp [mSs] at h
  | s :: ss, c, sc, sts, h, ok => by
    simp only [okSs, Bool.and_eq_true] at ok
    unfold mSs at h
    split at h
    · have ok1 := of_decide_eq_true ok.1
      exact sndss_frz (fun Z => ok1) (sndSs ss _ _ _ h ok.2)
    · split at h
      · simp only [Bool.and_eq_true] at h
        exact sndss_cons (sndS s _ _ _ h.1 ok.1) (sndSs ss _ _ _ h.2 ok.2)
      · cases h
end
end L3
set_option maxRecDepth 100000
set_option maxHeartbeats 8000000
namespace L3
open PySem L2 PyProof.Rows
/-! ### a module's facts -/
section
variable {P : Program} {w : World} {K : PySem.W.Frag} {mg : PySem.Str → Option Value} {base : Heap} {c : Cfg} {T : Tab}
/-- what the module holds, whichever def runs -/
structure Wok (K : PySem.W.Frag) (mg : PySem.Str → Option Value) (c : Cfg) (T : Tab) : Prop where
  eK : K = c.K
  hot : c.hot = false
  cur : c.cur = none
  bi : ∀ n ∈ bnames, mg n = none
  gl : ∀ n d, lk T.gl n = some d → ∃ u v, mg n.s = some u ∧ RelV v u ∧ ∀ Z H M, Rep (c.z Z) H M v d
  cls : ∀ n C, c.icls n = some C → Cls K C
  fl : ∀ n C, c.icls n = some C → ((c.fl n).map Nm.s).Nodup ∧ ∀ f ∈ c.fl n, NoAttr K C f.s
  flT : ∀ n l, lk T.fl n = some l → c.fl n = l
  sub : ∀ n l, lk T.sub n = some l → (c.cls n).isSome = true
  own : ∀ n ∈ T.own, (c.cls n).isSome = true
  icl : ∀ n C, c.icls n = some C → (lk T.isn n).isSome = true → c.cls n = some C
  clsG : ∀ n C, c.cls n = some C → mg n.s = some (.ref C)
  isO : ∀ n l, lk T.isn n = some l → ∀ C, c.cls n = some C → C8.InsC K C ∧ ∀ m C', c.cls m = some C' → PySem.W.kitOne K (.ref C) (.ref C') = some (decide (m ∈ l))
  isI : ∀ m C', c.cls m = some C' → (∀ b ∈ btn, PySem.W.kitOne K (.type b) (.ref C') = some false) ∧ ∀ b ∈ btt, PySem.W.kitOne K (.ref C') (.type b) = some (decide (b = "ValueError") && xcB T m)
  isX : ∀ n l, lk T.sub n = some l → ∀ C, c.cls n = some C → ExcC K C ∧ ∀ m C', c.cls m = some C' → PySem.W.kitOne K (.ref C) (.ref C') = some (decide (m ∈ l))
  exm : ∀ n l, lk T.sub n = some l → ∀ C, c.cls n = some C → ∀ m C', c.cls m = some C' → (lk T.sub m).isSome = true → PySem.W.exmOne K (.ref C) (.ref C') = some (decide (m ∈ l))
  xc : ∀ n fs, lk T.xc n = some fs → fs = [] ∧ ∃ C newId initId bmB B, c.cls n = some C ∧ ExcBaseFacts B newId initId bmB ∧ PySem.W.excIn K C bmB newId = true ∧ PySem.W.keepIn K (.ref C) = true ∧ PySem.W.subIn K (.ref C) (.type "BaseException") = some true ∧ PySem.W.typeIn K (.ref C) = some (.type "type")
/-- a def, a method, a class with their contracts: depth k at most -/
def FnG (P : Program) (w : World) (K : PySem.W.Frag) (mg : PySem.Str → Option Value) (base : Heap) (c : Cfg) (k : Nat) (n : Nm) (sp : SpD) : Prop := ∃ f fd ps, FnOk P w K mg base (CX P w) k f fd ps (toSp c sp) ∧ mg n.s = some (.ref f) ∧ PySem.W.keepIn K (.ref f) = true ∧ Binds K fd ps []
def MtG (P : Program) (w : World) (K : PySem.W.Frag) (mg : PySem.Str → Option Value) (base : Heap) (c : Cfg) (k : Nat) (n m : Nm) (sp : SpD) : Prop := (∀ f ∈ c.fl n, f.s ≠ m.s) ∧ ∀ C, c.icls n = some C → ∃ f fd ps, FnOk P w K mg base (CX P w) k f fd ps (toSp c sp) ∧ Meth K C m.s f ∧ Binds K fd ps []
def MkG (P : Program) (w : World) (K : PySem.W.Frag) (mg : PySem.Str → Option Value) (base : Heap) (c : Cfg) (k : Nat) (n : Nm) (sp : SpD) : Prop := (∃ C f fd ps spI, c.icls n = some C ∧ FnOk P w K mg base (CX P w) k f fd ps (toSp c spI) ∧ Mk K C f ∧ Binds K fd ps [] ∧ mg n.s = some (.ref C) ∧
  ∀ ds M Q E, sp ds M Q E → ∀ x, M x = none → spI (.ref x :: ds) (up M x (.ins n [])) (fun r M' => r = .non ∧ ∃ d2 M2, Frz c (.ref x) M' d2 M2 ∧ Q d2 M2) E) ∨
  (∃ C, c.icls n = some C ∧ PySem.W.makesIn K C = true ∧ PySem.W.findIn K (.ref C) "__init__" = some (some (.builtin "object.__init__")) ∧ PySem.W.keepIn K (.ref C) = true ∧ mg n.s = some (.ref C) ∧ ∀ ds M Q E, sp ds M Q E → ds = [] ∧ ∀ x, M x = none → Q (.ref x) (up M x (.ins n [])))
structure Tok (P : Program) (w : World) (K : PySem.W.Frag) (mg : PySem.Str → Option Value) (base : Heap) (c : Cfg) (T : Tab) (k : Nat) : Prop where
  fn : ∀ n sp, lk T.fn n = some sp → FnG P w K mg base c k n sp
  mt : ∀ n m sp, lk2 T.mt n m = some sp → MtG P w K mg base c k n m sp
  cl : ∀ n sp, lk T.cl n = some sp → MkG P w K mg base c (k - 1) n sp ∧ 0 < k
/-- what a def's ends must give -/
structure KdOk (c : Cfg) (K : KD) (Q : QD) (E : QX) : Prop where
  nx : ∀ env M', K.nx env M' → ∃ d M2, Frz c .non M' d M2 ∧ Q d M2
  rt : ∀ d M', K.rt d M' → ∃ d2 M2, Frz c d M' d2 M2 ∧ Q d2 M2
  bk : ∀ env M', ¬ K.bk env M'
  ct : ∀ env M', ¬ K.ct env M'
  ex : ∀ x env M', K.ex x env M' → ∃ M2, Sub M2 M' ∧ E x M2
theorem fnK_ok {Q : QD} {E : QX} : KdOk c (fnK c Q E) Q E := ⟨fun _ _ h => h, fun _ _ h => h, fun _ _ h => h, fun _ _ h => h, fun _ _ _ h => h⟩
theorem XRep.sub {H : Hp} {M M' : Mm} {cls : Value} {d : Option Addr} {x : XD} (h : XRep c H M cls d x) (s : Sub M' M) : XRep c H M' cls d x := by
  obtain ⟨C, h1, h2, h3⟩ := h
  refine ⟨C, h1, h2, h3.imp id ?_⟩
  rintro ⟨a, vs, e1, e2, e3, e4, ne⟩
  exact ⟨a, vs, e1, e2, s.none e3, e4.view (stp_sub fun _ n => s.none n).view, ne⟩
theorem start_len {N : List PySem.Str} {vs : List V} {ds : List D} (h : vs.length = ds.length) : (L2.start N vs).length = (env0 N.length ds).length := by
  unfold L2.start env0
  simp [h]
theorem sta_start {N : List PySem.Str} {H : Hp} {M : Mm} {vs : List V} {ds : List D} (hc : c.cur = none) (ok : Cells c H M) (r : Reps c H M vs ds) : Sta c (L2.start N vs) H (env0 N.length ds) M :=
  ⟨ok, start_len r.len, fun i d h => by
    unfold env0 at h
    unfold L2.start
    by_cases hi : i < ds.length
    · rw [List.getElem?_append_left (by simpa using hi), List.getElem?_map] at h
      cases e : ds[i]? with
      | none => rw [e] at h; cases h
      | some d' =>
        rw [e] at h
        cases h
        obtain ⟨v, h1, h2⟩ := r.get e
        refine ⟨v, ?_, h2⟩
        rw [List.getElem?_append_left (by rw [List.length_map, r.len]; exact hi), List.getElem?_map, h1]
        rfl
    · rw [List.getElem?_append_right (by simpa using hi), List.getElem?_replicate] at h
      split at h <;> exact (nomatch h), fun i a n dd e => by rw [hc] at e; exact (nomatch e)⟩
/-- THE RULE: a def by its shadow -/
theorem fn_l3 {x qual : PySem.Str} {st : Stmt} {f : Addr} {fd : FuncData} {N ps : List PySem.Str} {b : List SS} {k : Nat} {sp : SpD} (Wk : Wok K mg c T) (F : Fun K x qual st f fd) (S : FnScope N ps (defScope st)) (hm : mSs N (defScope st) b (defBody st) = true) (hok : okSs false none b = true)
    (tb : Tok P w K mg base c T k) (hlen : ∀ ds M Q E, sp ds M Q E → ds.length = ps.length) (hsp : ∀ ds M Q E, sp ds M Q E → ∃ KD, KdOk c KD Q E ∧ wSs T b KD (env0 N.length ds) M) : FnOk P w K mg base (CX P w) (k + 1) f fd ps (toSp c sp) := by
  refine F.okX S (fun vs H Q E h => ?_) fun cdv A outer s H vs Q E hr h => ?_
  · obtain ⟨Z, ds, M, Qd, Ed, r, ok, h, _⟩ := h
    rw [r.len]; exact hlen _ _ _ _ h
  obtain ⟨Z, ds, M, Qd, Ed, r, ok, h, hQ, hE⟩ := h
  obtain ⟨KD, kd, wp⟩ := hsp _ _ _ _ h
  let X := cxOf (L2.CX P w) P w K mg base N qual (defScope st) f cdv A outer s H E
  have hk : Room k X.A := hr
  have co : COk c T N (defScope st) X (fun cls d _ H => E cls d H) := {
    N := rfl, nd := S.nd, sc := rfl, calm := fun _ => ⟨rfl, Wk.cur⟩, K := Wk.eK, bi := Wk.bi,
    tk := takes_of (X := X) (E₁ := fun e' s'' => L2.CX P w outer H s E e' s'') rfl rfl rfl rfl,
    hu := by have := hr.un; show (A.deeper (envOfC qual (defScope st) s.heap.objs.size f cdv)).units + 70 < cLine; omega,
    fn := fun _ n sp e => let ⟨f, fd, ps, h1, h2, h3, h4⟩ := tb.fn n sp e; ⟨f, fd, k, ps, h1, hk, h2, h3, h4⟩,
    mt := fun _ n m sp e C hC => let ⟨f, fd, ps, h1, h2, h3⟩ := (tb.mt n m sp e).2 C hC; ⟨f, fd, k, ps, h1, hk, h2, h3⟩,
    cl := fun _ n sp e => by
      obtain ⟨⟨C, f, fd, ps, spI, h1, h2, h3, h4, h6, h5⟩ | b0, h0⟩ := tb.cl n sp e
      rotate_left
      · exact .inr b0
      exact .inl ⟨C, f, fd, k - 1, ps, spI, h1, h2, by rw [Nat.sub_add_cancel h0]; exact hk, h3, h6, h4, h5⟩,
    gl := Wk.gl, cls := Wk.cls, fl := Wk.fl, flT := Wk.flT, flM := fun n m sp e => (tb.mt n m sp e).1, sub := Wk.sub, own := Wk.own, icl := Wk.icl, clsG := Wk.clsG, isO := Wk.isO, isI := Wk.isI, isX := Wk.isX, exm := Wk.exm,
    xc := fun n fs e => let ⟨h0, C, a, b, d, B, h1, h2, h3, h4, h5, h6⟩ := Wk.xc n fs e; ⟨h0, C, a, b, d, B, h1, h2, h3, h4, raises_own h5 h6⟩,
    cur := fun i a n dd e => by rw [Wk.cur] at e; cases e }
  have so : SOk c T N (defScope st) X (fun cls d _ H => E cls d H) := ⟨co, fun x h => by
    unfold locB at h
    refine ⟨?_, .inl rfl⟩
    split at h
    · rename_i hx; exact .inl hx
    · rename_i hx; exact .inr hx
    · exact (nomatch h), S.kind, fun _ => ⟨rfl, rfl, passes_of (X := X) (E₁ := fun e' s'' => L2.CX P w outer H s E e' s'') rfl⟩⟩
  have hcu : c.cu = none := by unfold Cfg.cu; rw [Wk.cur]; rfl
  refine ⟨_, sndSs (T := T) (N := N) b c (defScope st) (defBody st) hm (by rw [Wk.hot, hcu]; exact hok) X _ so, Z, env0 N.length ds, M, KD, sta_start (c := c.z Z) Wk.cur ok r, wp, ?_⟩
  exact ⟨fun σ' H' env' M' s st q => by
      obtain ⟨d, M2, fz, q⟩ := kd.nx _ _ q
      obtain ⟨ok2, r2, n2⟩ := fz Z H' .non st.cells .non
      exact hQ _ _ _ _ (s.trans (stp_sub n2)) ok2 r2 q,
    fun v H' d M' s ok' r' q => by
      obtain ⟨d2, M2, fz, q⟩ := kd.rt _ _ q
      obtain ⟨ok2, r2, n2⟩ := fz Z H' v ok' r'
      exact hQ _ _ _ _ (s.trans (stp_sub n2)) ok2 r2 q,
    fun _ _ _ _ _ _ q => (kd.bk _ _ q).elim, fun _ _ _ _ _ _ q => (kd.ct _ _ q).elim,
    fun cls d σ' H' x env' M' s st xr q => by
      obtain ⟨M2, sb, q⟩ := kd.ex _ _ _ q
      exact hE _ _ _ _ _ (s.trans (stp_sub fun _ n => sb.none n)) (cells_sub st.cells sb) (xr.sub sb) q⟩
/-- a class by its __init__ -/
def mkI (n : Nm) (c : Cfg) (sp : SpD) : SpD := fun ds' M' Q' E => ∃ x ds M Q, ds' = .ref x :: ds ∧ M x = none ∧ M' = up M x (.ins n []) ∧ sp ds M Q E ∧ ∀ r M2, r = .non → (∃ d2 M3, Frz c (.ref x) M2 d2 M3 ∧ Q d2 M3) → Q' r M2
def mkK (c : Cfg) (x : Addr) (Q : QD) (E : QX) : KD where
  nx := fun _ M => ∃ d2 M3, Frz c (.ref x) M d2 M3 ∧ Q d2 M3
  rt := fun _ _ => False
  ex := fun y _ M => ∃ M', Sub M' M ∧ E y M'
theorem mkK_ok {n : Nm} {sp : SpD} {ds' : List D} {M' : Mm} {Q' : QD} {E : QX} {x : Addr} {Q : QD} (h : ∀ r M2, r = .non → (∃ d2 M3, Frz c (.ref x) M2 d2 M3 ∧ Q d2 M3) → Q' r M2) : KdOk c (mkK c x Q E) Q' E :=
  ⟨fun env M' q => ⟨.non, M', Frz.sub Sub.refl, h _ _ rfl q⟩, fun _ _ q => q.elim, fun _ _ h => h, fun _ _ h => h, fun _ _ _ h => h⟩
theorem mk_use {n : Nm} {sp : SpD} : ∀ ds M Q E, sp ds M Q E → ∀ x, M x = none → mkI n c sp (.ref x :: ds) (up M x (.ins n [])) (fun r M' => r = .non ∧ ∃ d2 M2, Frz c (.ref x) M' d2 M2 ∧ Q d2 M2) E :=
  fun ds M Q E h x hx => ⟨x, ds, M, Q, rfl, hx, rfl, h, fun r M2 e q => ⟨e, q⟩⟩
end
/-! ### what is made, read as data from now on -/
section
variable {c : Cfg} {H : Hp} {M M' : Mm}
def fz : Nat → Mm → D → D
  | 0, _, d => d
  | n + 1, M, .ref a => match M a with
    | some (.lst ds) => .lst (ds.map (fz n M))
    | some (.dct t kvs) => .dct t (kvs.map fun p => (p.1, fz n M p.2))
    | some (.ins k fs) => .ins k (fs.map fun p => (p.1, fz n M p.2))
    | none => .ref a
  | n + 1, M, .lst ds => .lst (ds.map (fz n M))
  | n + 1, M, .tup ds => .tup (ds.map (fz n M))
  | n + 1, M, .dct t kvs => .dct t (kvs.map fun p => (p.1, fz n M p.2))
  | n + 1, M, .ins k fs => .ins k (fs.map fun p => (p.1, fz n M p.2))
  | _ + 1, _, d => d
/-- the places that are read so -/
def rf : Nat → Mm → D → List Addr
  | 0, _, _ => []
  | n + 1, M, .ref a => match M a with
    | some (.lst ds) => a :: ds.flatMap (rf n M)
    | some (.dct _ kvs) => a :: kvs.flatMap fun p => rf n M p.2
    | some (.ins _ fs) => a :: fs.flatMap fun p => rf n M p.2
    | none => []
  | n + 1, M, .lst ds => ds.flatMap (rf n M)
  | n + 1, M, .tup ds => ds.flatMap (rf n M)
  | n + 1, M, .dct _ kvs => kvs.flatMap fun p => rf n M p.2
  | n + 1, M, .ins _ fs => fs.flatMap fun p => rf n M p.2
  | _ + 1, _, _ => []
theorem Reps.fzL {n : Nat} (ih : ∀ v d, Rep c H M v d → (∀ a ∈ rf n M d, M' a = none) → Rep c H M' v (fz n M d)) : ∀ {vs : List V} {ds : List D}, Reps c H M vs ds → (∀ a ∈ ds.flatMap (rf n M), M' a = none) → Reps c H M' vs (ds.map (fz n M))
  | _, _, .nil, _ => .nil
  | _, _, .cons r q, h => .cons (ih _ _ r fun a ha => h a (by simp only [List.flatMap_cons, List.mem_append]; exact .inl ha)) (Reps.fzL ih q fun a ha => h a (by simp only [List.flatMap_cons, List.mem_append]; exact .inr ha))
theorem RepK.fzL {n : Nat} (ih : ∀ v d, Rep c H M v d → (∀ a ∈ rf n M d, M' a = none) → Rep c H M' v (fz n M d)) : ∀ {vs : List (Key × V)} {ds : List (D × D)}, RepK c H M vs ds → (∀ a ∈ ds.flatMap (fun p => rf n M p.2), M' a = none) → RepK c H M' vs (ds.map fun p => (p.1, fz n M p.2))
  | _, _, .nil, _ => .nil
  | _, _, .cons r q, h => .cons (ih _ _ r fun a ha => h a (by simp only [List.flatMap_cons, List.mem_append]; exact .inl ha)) (RepK.fzL ih q fun a ha => h a (by simp only [List.flatMap_cons, List.mem_append]; exact .inr ha))
theorem RepT.fzL {n : Nat} (ih : ∀ v d, Rep c H M v d → (∀ a ∈ rf n M d, M' a = none) → Rep c H M' v (fz n M d)) : ∀ {vs : List (List Key × V)} {ds : List (D × D)}, RepT c H M vs ds → (∀ a ∈ ds.flatMap (fun p => rf n M p.2), M' a = none) → RepT c H M' vs (ds.map fun p => (p.1, fz n M p.2))
  | _, _, .nil, _ => .nil
  | _, _, .cons z r q, h => .cons z (ih _ _ r fun a ha => h a (by simp only [List.flatMap_cons, List.mem_append]; exact .inl ha)) (RepT.fzL ih q fun a ha => h a (by simp only [List.flatMap_cons, List.mem_append]; exact .inr ha))
theorem RepF.fzL {n : Nat} (ih : ∀ v d, Rep c H M v d → (∀ a ∈ rf n M d, M' a = none) → Rep c H M' v (fz n M d)) : ∀ {vs : List (PySem.Str × V)} {ds : List (Nm × D)}, RepF c H M vs ds → (∀ a ∈ ds.flatMap (fun p => rf n M p.2), M' a = none) → RepF c H M' vs (ds.map fun p => (p.1, fz n M p.2))
  | _, _, .nil, _ => .nil
  | _, _, .cons r q, h => .cons (ih _ _ r fun a ha => h a (by simp only [List.flatMap_cons, List.mem_append]; exact .inl ha)) (RepF.fzL ih q fun a ha => h a (by simp only [List.flatMap_cons, List.mem_append]; exact .inr ha))
theorem keys_fz {c : Nm} {n : Nat} {M : Mm} {fs : List (Nm × D)} {l : List Nm} (k : ∀ p ∈ fs, p.1 ∈ l) : ∀ p ∈ fs.map fun p => (p.1, fz n M p.2), p.1 ∈ l := fun p hp => by
  obtain ⟨q, hq, rfl⟩ := List.mem_map.mp hp
  exact k q hq
theorem Rep.fz (ok : Cells c H M) (sb : Sub M' M) : ∀ (n : Nat) (v : V) (d : D), Rep c H M v d → (∀ a ∈ rf n M d, M' a = none) → Rep c H M' v (fz n M d)
  | 0, v, d, r, _ => r.stp (stp_sub fun _ n => sb.none n)
  | n + 1, v, d, r, h => by
    have ih := Rep.fz ok sb n
    have fr : ∀ {a}, Fr c M a → Fr c M' a := fun q => ⟨sb.none q.1, q.2⟩
    cases r with
    | lst h1 m z q => exact .lst h1 (fr m) z (q.fzL ih h)
    | tup h1 m z q => exact .tup h1 (fr m) z (q.fzL ih h)
    | dK h1 m z q => exact .dK h1 (fr m) z (q.fzL ih h)
    | dT h1 m z q => exact .dT h1 (fr m) z (q.fzL ih h)
    | ins h1 m z k q => exact .ins h1 (fr m) z (keys_fz (c := .law) k) (q.fzL ih h)
    | ref a =>
      cases e : M a with
      | none => unfold L3.fz; rw [e]; exact .ref a
      | some x =>
        have hz : ¬ c.Z a := fun z => by have := (ok.z a z).2; rw [e] at this; cases this
        have hc := ok.at' a x e
        unfold L3.fz
        unfold rf at h
        rw [e] at h ⊢
        cases x with
        | lst ds => cases hc with
          | lst h1 z q => exact .lst h1 ⟨h a List.mem_cons_self, hz⟩ z (q.fzL ih fun b hb => h b (List.mem_cons_of_mem _ hb))
        | dct t kvs => cases hc with
          | dK h1 z q => exact .dK (.inl h1) ⟨h a List.mem_cons_self, hz⟩ z (q.fzL ih fun b hb => h b (List.mem_cons_of_mem _ hb))
          | dT h1 z q => exact .dT (.inl h1) ⟨h a List.mem_cons_self, hz⟩ z (q.fzL ih fun b hb => h b (List.mem_cons_of_mem _ hb))
        | ins k fs => cases hc with
          | ins h1 z kk q => exact .ins h1 ⟨h a List.mem_cons_self, hz⟩ z (keys_fz (c := .law) kk) (q.fzL ih fun b hb => h b (List.mem_cons_of_mem _ hb))
    | roL h1 z q => exact .roL (h1.imp (fun w => ⟨w.1, fr w.2⟩) id) z (q.stp (stp_sub fun _ n => sb.none n))
    | roT h1 z q => exact .roT h1 z (q.stp (stp_sub fun _ n => sb.none n))
    | non => exact .non
    | bl b => exact .bl b
    | int b => exact .int b
    | str b => exact .str b
    | exc a m fs => exact .exc a m fs
theorem Frz.deep {d : D} (n : Nat) (sb : Sub M' M) (h : ∀ a ∈ rf n M d, M' a = none) : Frz c d M (L3.fz n M d) M' := fun Z H v ok r =>
  ⟨cells_sub ok sb, r.fz ok sb n _ _ h, fun _ q => sb.none q⟩
end
end L3
set_option maxRecDepth 100000
namespace L3
open PySem L2
@[simp] theorem wE_non {T : Tab} {env : Env} {M : Mm} {Q : QD} {E : QX} : wE T .non env M Q E = (Q .non M) := rfl
@[simp] theorem wE_bl {T : Tab} {b : Bool} {env : Env} {M : Mm} {Q : QD} {E : QX} : wE T (.bl b) env M Q E = (Q (.bl b) M) := rfl
@[simp] theorem wE_int {T : Tab} {i : Int} {env : Env} {M : Mm} {Q : QD} {E : QX} : wE T (.int i) env M Q E = (Q (.int i) M) := rfl
@[simp] theorem wE_str {T : Tab} {x : PySem.Str} {env : Env} {M : Mm} {Q : QD} {E : QX} : wE T (.str x) env M Q E = (Q (.str x) M) := rfl
@[simp] theorem wE_var {T : Tab} {i : Nat} {env : Env} {M : Mm} {Q : QD} {E : QX} : wE T (.var i) env M Q E = (obn (varE env i) fun d => Q d M) := rfl
@[simp] theorem wE_gl {T : Tab} {n : Nm} {env : Env} {M : Mm} {Q : QD} {E : QX} : wE T (.gl n) env M Q E = (obn (lk T.gl n) fun d => Q d M) := rfl
@[simp] theorem wE_bin {T : Tab} {op : Operator} {a : SE} {b : SE} {env : Env} {M : Mm} {Q : QD} {E : QX} : wE T (.bin op a b) env M Q E = (wE T a env M (fun x M1 => wE T b env M1 (fun y M2 => binD false op x y M2 Q) E) E) := rfl
@[simp] theorem wE_cat {T : Tab} {a : SE} {b : SE} {env : Env} {M : Mm} {Q : QD} {E : QX} : wE T (.cat a b) env M Q E = (wE T a env M (fun x M1 => wE T b env M1 (fun y M2 => binD true .Add x y M2 Q) E) E) := rfl
@[simp] theorem wE_neg {T : Tab} {a : SE} {env : Env} {M : Mm} {Q : QD} {E : QX} : wE T (.neg a) env M Q E = (wE T a env M (fun x M1 => obn (negD x) fun i => Q (.int i) M1) E) := rfl
@[simp] theorem wE_not {T : Tab} {a : SE} {env : Env} {M : Mm} {Q : QD} {E : QX} : wE T (.not a) env M Q E = (wE T a env M (fun x M1 => obn (truD M1 x) fun b => Q (.bl (!b)) M1) E) := rfl
@[simp] theorem wE_bop {T : Tab} {k : Bool} {es : List SE} {env : Env} {M : Mm} {Q : QD} {E : QX} : wE T (.bop k es) env M Q E = (wBop T k es env M Q E) := rfl
@[simp] theorem wE_cmp {T : Tab} {op : CmpOp} {a : SE} {b : SE} {env : Env} {M : Mm} {Q : QD} {E : QX} : wE T (.cmp op a b) env M Q E = (wE T a env M (fun x M1 => wE T b env M1 (fun y M2 => cmpD op x y M2 fun r => Q (.bl r) M2) E) E) := rfl
@[simp] theorem wE_chain {T : Tab} {o1 : CmpOp} {o2 : CmpOp} {a : SE} {b : SE} {c : SE} {env : Env} {M : Mm} {Q : QD} {E : QX} : wE T (.chain o1 o2 a b c) env M Q E = (wE T a env M (fun x M1 => wE T b env M1 (fun y M2 => cmpD o1 x y M2 fun r =>
      br r (wE T c env M2 (fun z M3 => cmpD o2 y z M3 fun r2 => Q (.bl r2) M3) E) (Q (.bl false) M2)) E) E) := rfl
@[simp] theorem wE_ix {T : Tab} {a : SE} {i : SE} {env : Env} {M : Mm} {Q : QD} {E : QX} : wE T (.ix a i) env M Q E = (wE T a env M (fun x M1 => wE T i env M1 (fun y M2 => ixD x y M2 fun v => Q v M2) E) E) := rfl
@[simp] theorem wE_sl {T : Tab} {a : SE} {lo : SE} {hi : SE} {env : Env} {M : Mm} {Q : QD} {E : QX} : wE T (.sl a lo hi) env M Q E = (wE T a env M (fun x M1 => wE T lo env M1 (fun y M2 => obn (endD lo y) fun l => wE T hi env M2 (fun z M3 => obn (endD hi z) fun h => slD false x l h M3 Q) E) E) E) := rfl
@[simp] theorem wE_rev {T : Tab} {m : Bool} {a : SE} {env : Env} {M : Mm} {Q : QD} {E : QX} : wE T (.rev m a) env M Q E = (wE T a env M (fun x M1 => revD m x M1 Q) E) := rfl
@[simp] theorem wE_lrng {T : Tab} {m : Bool} {k : ItK} {es : List SE} {env : Env} {M : Mm} {Q : QD} {E : QX} : wE T (.lrng m k es) env M Q E = (wEs T es env M (fun ds M1 => obn (itD k ds M1) fun xs => cnd (xs.length ≤ 1000000) (alL m xs M1 Q)) E) := rfl
@[simp] theorem wE_cmpK {T : Tab} {ne : Bool} {a : SE} {b : SE} {env : Env} {M : Mm} {Q : QD} {E : QX} : wE T (.cmpK ne a b) env M Q E = (wE T a env M (fun x M1 => wE T b env M1 (fun y M2 => eqK x y M2 (Q (.bl (!ne)) M2)) E) E) := rfl
@[simp] theorem wE_cmpS {T : Tab} {ne : Bool} {a : SE} {b : SE} {env : Env} {M : Mm} {Q : QD} {E : QX} : wE T (.cmpS ne a b) env M Q E = (wE T a env M (fun x M1 => wE T b env M1 (fun y M2 => eqS x y M2 (Q (.bl (!ne)) M2)) E) E) := rfl
@[simp] theorem wE_cmpV {T : Tab} {ne : Bool} {a : SE} {b : SE} {env : Env} {M : Mm} {Q : QD} {E : QX} : wE T (.cmpV ne a b) env M Q E = (wE T a env M (fun x M1 => wE T b env M1 (fun y M2 => alkQ x y M2 (Q (.bl (!ne)) M2)) E) E) := rfl
@[simp] theorem wE_mnD {T : Tab} {m : Bool} {a : SE} {b : SE} {env : Env} {M : Mm} {Q : QD} {E : QX} : wE T (.mnD m a b) env M Q E = (wE T a env M (fun x M1 => wE T b env M1 (fun y M2 => mndQ m x y M2 Q) E) E) := rfl
@[simp] theorem wE_fld {T : Tab} {a : SE} {f : Nm} {env : Env} {M : Mm} {Q : QD} {E : QX} : wE T (.fld a f) env M Q E = (wE T a env M (fun x M1 => obn (fldD M1 x f) fun v => Q v M1) E) := rfl
@[simp] theorem wE_lst {T : Tab} {m : Bool} {es : List SE} {env : Env} {M : Mm} {Q : QD} {E : QX} : wE T (.lst m es) env M Q E = (wEs T es env M (fun ds M1 => cnd (ds.length ≤ 1000) (alL m ds M1 Q)) E) := rfl
@[simp] theorem wE_tup {T : Tab} {es : List SE} {env : Env} {M : Mm} {Q : QD} {E : QX} : wE T (.tup es) env M Q E = (wEs T es env M (fun ds M1 => cnd (ds.length ≤ 1000) (Q (.tup ds) M1)) E) := rfl
@[simp] theorem wE_dnew {T : Tab} {m : Bool} {t : Bool} {env : Env} {M : Mm} {Q : QD} {E : QX} : wE T (.dnew m t) env M Q E = (alK m t [] M Q) := rfl
@[simp] theorem wE_dct {T : Tab} {m : Bool} {ks : List PySem.Str} {vs : List SE} {env : Env} {M : Mm} {Q : QD} {E : QX} : wE T (.dct m ks vs) env M Q E = (wEs T vs env M (fun ds M1 => alK m false ((ks.map D.str).zip ds) M1 Q) E) := rfl
@[simp] theorem wE_dct1 {T : Tab} {m : Bool} {k : SE} {v : SE} {env : Env} {M : Mm} {Q : QD} {E : QX} : wE T (.dct1 m k v) env M Q E = (wE T k env M (fun x M1 => wE T v env M1 (fun y M2 => cnd (keyOk false x = true) (alK m false [(x, y)] M2 Q)) E) E) := rfl
@[simp] theorem wE_lset {T : Tab} {a : SE} {env : Env} {M : Mm} {Q : QD} {E : QX} : wE T (.lset a) env M Q E = (wE T a env M (fun x M1 => lsetQ x M1 Q) E) := rfl
@[simp] theorem wE_comp {T : Tab} {m : Bool} {tg : Tg} {k : ItK} {es : List SE} {c : SE} {e : SE} {env : Env} {M : Mm} {Q : QD} {E : QX} : wE T (.comp m tg k es c e) env M Q E = (wEs T es env M (fun ds M1 => compQ (fun items M' => itD k ds M' = some items) (fun env M Q => wE T c env M Q (fun _ _ => False)) (fun env M Q => wE T e env M Q (fun _ _ => False)) tg env (itD k ds M1) M1 fun acc M2 => alL m acc M2 Q) E) := rfl
@[simp] theorem wE_call {T : Tab} {m : Bool} {f : Nm} {es : List SE} {env : Env} {M : Mm} {Q : QD} {E : QX} : wE T (.call m f es) env M Q E = (obn (lk T.fn f) fun sp => wEs T es env M (fun ds M1 => ap sp ds M1 (fun d M2 => frz1 m d M2 Q) E) E) := rfl
@[simp] theorem wE_mk {T : Tab} {m : Bool} {c : Nm} {es : List SE} {env : Env} {M : Mm} {Q : QD} {E : QX} : wE T (.mk m c es) env M Q E = (obn (lk T.cl c) fun sp => wEs T es env M (fun ds M1 => ap sp ds M1 (fun d M2 => frz1 m d M2 Q) E) E) := rfl
@[simp] theorem wE_meth {T : Tab} {m : Bool} {o : SE} {f : Nm} {es : List SE} {env : Env} {M : Mm} {Q : QD} {E : QX} : wE T (.meth m o f es) env M Q E = (wE T o env M (fun x M1 => obn (insD M1 x) fun p => obn (lk2 T.mt p.1 f) fun sp => wEs T es env M1 (fun ds M2 => ap sp (x :: ds) M2 (fun d M3 => frz1 m d M3 Q) E) E) E) := rfl
@[simp] theorem wE_bi {T : Tab} {m : Bool} {f : Bi} {es : List SE} {env : Env} {M : Mm} {Q : QD} {E : QX} : wE T (.bi m f es) env M Q E = (wEs T es env M (fun ds M1 => biD m f ds M1 Q) E) := rfl
@[simp] theorem wE_bm {T : Tab} {m : Bool} {o : SE} {f : Bm} {es : List SE} {env : Env} {M : Mm} {Q : QD} {E : QX} : wE T (.bm m o f es) env M Q E = (wE T o env M (fun x M1 => cnd (rcvB f M1 x = true) (wEs T es env M1 (fun ds M2 => bmD m f x ds M2 Q) E)) E) := rfl
@[simp] theorem wE_isi {T : Tab} {e : SE} {tp : Bool} {ts : List Ty1} {env : Env} {M : Mm} {Q : QD} {E : QX} : wE T (.isi e tp ts) env M Q E = (cnd (ownOk T ts = true) (wE T e env M (fun x M1 => obn (isA T M1 x ts) fun b => Q (.bl b) M1) E)) := rfl
@[simp] theorem wE_isx {T : Tab} {i : Nat} {tp : Bool} {ts : List Ty1} {env : Env} {M : Mm} {Q : QD} {E : QX} : wE T (.isx i tp ts) env M Q E = (cnd (ownOk T ts = true) (obn (excE env i) fun p => cnd (p.2 = []) (obn (anyT (isXT T p.1) ts) fun b => Q (.bl b) M))) := rfl
@[simp] theorem wE_fldx {T : Tab} {i : Nat} {f : Nm} {env : Env} {M : Mm} {Q : QD} {E : QX} : wE T (.fldx i f) env M Q E = (obn (excE env i) fun p => obn (getF p.2 f) fun v => Q v M) := rfl
@[simp] theorem wEs_nil {T : Tab} {env : Env} {M : Mm} {Q : List D → Mm → Prop} {E : QX} : wEs T [] env M Q E = (Q [] M) := rfl
@[simp] theorem wEs_cons {T : Tab} {e : SE} {r : List SE} {env : Env} {M : Mm} {Q : List D → Mm → Prop} {E : QX} : wEs T (e :: r) env M Q E = (wE T e env M (fun d M1 => wEs T r env M1 (fun ds M2 => Q (d :: ds) M2) E) E) := rfl
@[simp] theorem wBop_nil {T : Tab} {k : Bool} {env : Env} {M : Mm} {Q : QD} {E : QX} : wBop T k [] env M Q E = (False) := rfl
@[simp] theorem wBop_one {T : Tab} {k : Bool} {e : SE} {env : Env} {M : Mm} {Q : QD} {E : QX} : wBop T k [e] env M Q E = (wE T e env M Q E) := rfl
@[simp] theorem wBop_cons {T : Tab} {k : Bool} {e : SE} {e' : SE} {r : List SE} {env : Env} {M : Mm} {Q : QD} {E : QX} : wBop T k (e :: e' :: r) env M Q E = (wE T e env M (fun x M1 => obn (truD M1 x) fun b => br (b == k) (wBop T k (e' :: r) env M1 Q E) (Q x M1)) E) := rfl
@[simp] theorem wS_asg {T : Tab} {i : Nat} {e : SE} {K : KD} {env : Env} {M : Mm} : wS T (.asg i e) K env M = (wE T e env M (fun d M' => K.nx (env.set i (some d)) M') (fun x M' => K.ex x env M')) := rfl
@[simp] theorem wS_asgT {T : Tab} {is : List Nat} {e : SE} {K : KD} {env : Env} {M : Mm} : wS T (.asgT is e) K env M = (wE T e env M (fun d M' => obn (tupD d) fun ds => obn (setAll is ds env) fun env' => K.nx env' M') (fun x M' => K.ex x env M')) := rfl
@[simp] theorem wS_asgL {T : Tab} {is : List Nat} {e : SE} {K : KD} {env : Env} {M : Mm} : wS T (.asgL is e) K env M = (wE T e env M (fun d M' => obn (lstD M' d) fun ds => obn (setAll is ds env) fun env' => K.nx env' M') (fun x M' => K.ex x env M')) := rfl
@[simp] theorem wS_par {T : Tab} {is : List Nat} {es : List SE} {K : KD} {env : Env} {M : Mm} : wS T (.par is es) K env M = (wEs T es env M (fun ds M' => obn (setAll is ds env) fun env' => K.nx env' M') (fun x M' => K.ex x env M')) := rfl
@[simp] theorem wS_asgF {T : Tab} {o : SE} {f : Nm} {e : SE} {K : KD} {env : Env} {M : Mm} : wS T (.asgF o f e) K env M = (wE T e env M (fun d M1 => wE T o env M1 (fun x M2 => obn (insR M2 x) fun p => cnd (p.2.2.length < 1000) (obn (lk T.fl p.2.1) fun l => cnd (f ∈ l) (K.nx env (up M2 p.1 (.ins p.2.1 (putF p.2.2 f d)))))) (fun x M' => K.ex x env M')) (fun x M' => K.ex x env M')) := rfl
@[simp] theorem wS_asgI {T : Tab} {o : SE} {i : SE} {e : SE} {K : KD} {env : Env} {M : Mm} : wS T (.asgI o i e) K env M = (wE T e env M (fun d M1 => wE T o env M1 (fun x M2 => wE T i env M2 (fun y M3 => setI x y d M3 fun M' => K.nx env M') (fun x M' => K.ex x env M')) (fun x M' => K.ex x env M')) (fun x M' => K.ex x env M')) := rfl
@[simp] theorem wS_aug {T : Tab} {i : Nat} {op : Operator} {e : SE} {K : KD} {env : Env} {M : Mm} : wS T (.aug i op e) K env M = (obn (varE env i) fun x => wE T e env M (fun y M1 => augD op x y M1 fun z M' => K.nx (env.set i (some z)) M') (fun x M' => K.ex x env M')) := rfl
@[simp] theorem wS_augF {T : Tab} {o : SE} {f : Nm} {op : Operator} {e : SE} {K : KD} {env : Env} {M : Mm} : wS T (.augF o f op e) K env M = (wE T o env M (fun x M1 => obn (insR M1 x) fun p => cnd (p.2.2.length < 1000) (obn (getF p.2.2 f) fun d =>
      wE T e env M1 (fun y M2 => cnd (M2 p.1 = some (.ins p.2.1 p.2.2)) (augD op d y M2 fun z M' => K.nx env (up M' p.1 (.ins p.2.1 (putF p.2.2 f z))))) (fun x M' => K.ex x env M'))) (fun x M' => K.ex x env M')) := rfl
@[simp] theorem wS_augI {T : Tab} {o : SE} {i : SE} {op : Operator} {e : SE} {K : KD} {env : Env} {M : Mm} : wS T (.augI o i op e) K env M = (False) := rfl
@[simp] theorem wS_exp {T : Tab} {e : SE} {K : KD} {env : Env} {M : Mm} : wS T (.exp e) K env M = (wE T e env M (fun _ M' => K.nx env M') (fun x M' => K.ex x env M')) := rfl
@[simp] theorem wS_ret {T : Tab} {e : SE} {K : KD} {env : Env} {M : Mm} : wS T (.ret e) K env M = (wE T e env M K.rt (fun x M' => K.ex x env M')) := rfl
@[simp] theorem wS_retN {T : Tab} {K : KD} {env : Env} {M : Mm} : wS T .retN K env M = (K.rt .non M) := rfl
@[simp] theorem wS_ifs {T : Tab} {c : SE} {a : List SS} {b : List SS} {K : KD} {env : Env} {M : Mm} : wS T (.ifs c a b) K env M = (wE T c env M (fun d M' => obn (truD M' d) fun t => br t (wSs T a K env M') (wSs T b K env M')) (fun x M' => K.ex x env M')) := rfl
@[simp] theorem wS_whl {T : Tab} {c : SE} {b : List SS} {K : KD} {env : Env} {M : Mm} : wS T (.whl c b) K env M = (whQ (fun env M Q => wE T c env M Q (fun x M' => K.ex x env M')) (fun K env M => wSs T b K env M) K env M) := rfl
@[simp] theorem wS_fors {T : Tab} {tg : Tg} {k : ItK} {es : List SE} {b : List SS} {K : KD} {env : Env} {M : Mm} : wS T (.fors tg k es b) K env M = (wEs T es env M (fun ds M1 => forQ (fun items M' => itD k ds M' = some items) (fun K env M => wSs T b K env M) tg K (itD k ds M1) env M1) (fun x M' => K.ex x env M')) := rfl
@[simp] theorem wS_raise {T : Tab} {c : Nm} {es : List SE} {K : KD} {env : Env} {M : Mm} : wS T (.raise c es) K env M = (wEs T es env M (fun ds M' => obn (lk T.xc c) fun fs => K.ex ⟨c, fs.zip ds⟩ env M') (fun x M' => K.ex x env M')) := rfl
@[simp] theorem wS_tryx {T : Tab} {b : List SS} {c : Nm} {n : Option Nat} {h : List SS} {K : KD} {env : Env} {M : Mm} : wS T (.tryx b c n h) K env M = (cnd ((lk T.sub c).isSome = true) (wSs T b { nx := K.nx, rt := K.rt, bk := K.bk, ct := K.ct, ex := (fun x env' M' => obn (lk T.sub x.c) fun l => br (decide (c ∈ l)) (match n with
        | some i => cnd (i < env'.length) (wSs T h (K.out i).sui (env'.set i (some (.exc x.c x.fs))) M')
        | none => wSs T h K.sui env' M') (K.ex x env' M')) } env M)) := rfl
@[simp] theorem wS_pass {T : Tab} {K : KD} {env : Env} {M : Mm} : wS T .pass K env M = (K.nx env M) := rfl
@[simp] theorem wS_brk {T : Tab} {K : KD} {env : Env} {M : Mm} : wS T .brk K env M = (K.bk env M) := rfl
@[simp] theorem wS_cont {T : Tab} {K : KD} {env : Env} {M : Mm} : wS T .cont K env M = (K.ct env M) := rfl
@[simp] theorem wS_frz {T : Tab} {i : Nat} {K : KD} {env : Env} {M : Mm} : wS T (.frz i) K env M = (frzQ i env M K.nx) := rfl
@[simp] theorem wSs_nil {T : Tab} {K : KD} {env : Env} {M : Mm} : wSs T [] K env M = (K.nx env M) := rfl
@[simp] theorem wSs_cons {T : Tab} {s : SS} {r : List SS} {K : KD} {env : Env} {M : Mm} : wSs T (s :: r) K env M = (wS T s { nx := fun env M => wSs T r K env M, rt := K.rt, bk := K.bk, ct := K.ct, ex := K.ex } env M) := rfl
@[simp] theorem binD_Add {m : Bool} {x y : D} {M : Mm} {Q : QD} : binD m .Add x y M Q = addD m x y M Q := rfl
@[simp] theorem binD_Sub {m : Bool} {i j : Int} {M : Mm} {Q : QD} : binD m .Sub (.int i) (.int j) M Q = Q (.int (i - j)) M := rfl
@[simp] theorem binD_Mult {m : Bool} {i j : Int} {M : Mm} {Q : QD} : binD m .Mult (.int i) (.int j) M Q = cnd (CMul i j ∨ CMulW i j) (Q (.int (i * j)) M) := rfl
@[simp] theorem binD_FloorDiv {m : Bool} {i j : Int} {M : Mm} {Q : QD} : binD m .FloorDiv (.int i) (.int j) M Q = cnd (CDivW i j) (Q (.int (i / j)) M) := rfl
@[simp] theorem binD_Mod {m : Bool} {i j : Int} {M : Mm} {Q : QD} : binD m .Mod (.int i) (.int j) M Q = cnd (0 < j) (Q (.int (i % j)) M) := rfl
@[simp] theorem binD_Pow {m : Bool} {i j : Int} {M : Mm} {Q : QD} : binD m .Pow (.int i) (.int j) M Q = cnd (CPow i j) (Q (.int (i ^ j.toNat)) M) := rfl
@[simp] theorem addD_int {m : Bool} {i j : Int} {M : Mm} {Q : QD} : addD m (.int i) (.int j) M Q = Q (.int (i + j)) M := rfl
@[simp] theorem addD_str {m : Bool} {i j : PySem.Str} {M : Mm} {Q : QD} : addD m (.str i) (.str j) M Q = cnd (i.length + j.length ≤ sizeLine) (Q (.str (i ++ j)) M) := rfl
@[simp] theorem addD_tup {m : Bool} {i j : List D} {M : Mm} {Q : QD} : addD m (.tup i) (.tup j) M Q = cnd (i.length + j.length ≤ sizeLine) (Q (.tup (i ++ j)) M) := rfl
@[simp] theorem addD_lst {m : Bool} {i : List D} {y : D} {M : Mm} {Q : QD} : addD m (.lst i) y M Q = catD m (.lst i) y M Q := rfl
@[simp] theorem addD_ref {m : Bool} {i : Addr} {y : D} {M : Mm} {Q : QD} : addD m (.ref i) y M Q = catD m (.ref i) y M Q := rfl
@[simp] theorem eqQ_int {i j : Int} {M : Mm} {Q : Bool → Prop} : eqQ (.int i) (.int j) M Q = Q (i == j) := by simp [eqQ, rs, pu, eqv, cnd]
@[simp] theorem cmpD_Eq {x y : D} {M : Mm} {Q : Bool → Prop} : cmpD .Eq x y M Q = eqQ x y M Q := rfl
@[simp] theorem cmpD_NotEq {x y : D} {M : Mm} {Q : Bool → Prop} : cmpD .NotEq x y M Q = eqQ x y M fun b => Q (!b) := rfl
@[simp] theorem cmpD_Lt {i j : Int} {M : Mm} {Q : Bool → Prop} : cmpD .Lt (.int i) (.int j) M Q = Q (decide (i < j)) := rfl
@[simp] theorem cmpD_LtE {i j : Int} {M : Mm} {Q : Bool → Prop} : cmpD .LtE (.int i) (.int j) M Q = Q (decide (i ≤ j)) := rfl
@[simp] theorem cmpD_Gt {i j : Int} {M : Mm} {Q : Bool → Prop} : cmpD .Gt (.int i) (.int j) M Q = Q (decide (j < i)) := rfl
@[simp] theorem cmpD_GtE {i j : Int} {M : Mm} {Q : Bool → Prop} : cmpD .GtE (.int i) (.int j) M Q = Q (decide (j ≤ i)) := rfl
@[simp] theorem cmpD_In {x y : D} {M : Mm} {Q : Bool → Prop} : cmpD .In x y M Q = inQ x y M Q := rfl
@[simp] theorem cmpD_NotIn {x y : D} {M : Mm} {Q : Bool → Prop} : cmpD .NotIn x y M Q = inQ x y M fun b => Q (!b) := rfl
@[simp] theorem cmpD_Is {x y : D} {M : Mm} {Q : Bool → Prop} : cmpD .Is x y M Q = isQ x y Q := rfl
@[simp] theorem cmpD_IsNot {x y : D} {M : Mm} {Q : Bool → Prop} : cmpD .IsNot x y M Q = isQ x y fun b => Q (!b) := rfl
@[simp] theorem truD_bl {b : Bool} {M : Mm} : truD M (.bl b) = some b := rfl
@[simp] theorem truD_int {b : Int} {M : Mm} : truD M (.int b) = some (b != 0) := rfl
@[simp] theorem biD_len {m : Bool} {x : D} {M : Mm} {Q : QD} : biD m .len [x] M Q = obn (lenD M x) fun n => Q (.int n) M := rfl
@[simp] theorem biD_int_int {m : Bool} {x : Int} {M : Mm} {Q : QD} : biD m .int [.int x] M Q = Q (.int x) M := rfl
@[simp] theorem biD_int_bl {m : Bool} {x : Bool} {M : Mm} {Q : QD} : biD m .int [.bl x] M Q = Q (.int (if x then 1 else 0)) M := rfl
@[simp] theorem biD_min2 {m : Bool} {i j : Int} {M : Mm} {Q : QD} : biD m .min [.int i, .int j] M Q = Q (.int (if j < i then j else i)) M := rfl
@[simp] theorem biD_max2 {m : Bool} {i j : Int} {M : Mm} {Q : QD} : biD m .max [.int i, .int j] M Q = Q (.int (if j > i then j else i)) M := rfl
def lenC : Option Cell → Option Int
  | some (.lst ds) => some (ds.length : Int)
  | some (.dct _ ds) => some (ds.length : Int)
  | _ => none
@[simp] theorem lenD_ref {a : Addr} {M : Mm} : lenD M (.ref a) = lenC (M a) := by
  cases h : M a with
  | none => simp [lenD, dctD, seqD, lenC, h]
  | some x => cases x <;> simp [lenD, dctD, seqD, lenC, h]
@[simp] theorem lenC_lst {ds : List D} : lenC (some (.lst ds)) = some (ds.length : Int) := rfl
@[simp] theorem lenC_dct {t : Bool} {ds : List (D × D)} : lenC (some (.dct t ds)) = some (ds.length : Int) := rfl
def ixC (o : Option Cell) (n : D) (Q : D → Prop) : Prop :=
  match o with
  | some (.lst ds) => match n with
    | .int i => obn (atI ds i) Q
    | _ => False
  | some (.dct t ds) => cnd (keyOk t n = true) (obn (getK ds n) Q)
  | _ => False
@[simp] theorem ixD_ref {a : Addr} {M : Mm} {n : D} {Q : D → Prop} : ixD (.ref a) n M Q = ixC (M a) n Q := by
  cases h : M a with
  | none => cases n <;> simp [ixD, dctD, seqD, ixC, h, obn]
  | some x => cases x <;> cases n <;> simp [ixD, dctD, seqD, ixC, h, obn]
@[simp] theorem ixC_lst {ds : List D} {i : Int} {Q : D → Prop} : ixC (some (.lst ds)) (.int i) Q = obn (atI ds i) Q := rfl
@[simp] theorem ixC_dct {t : Bool} {ds : List (D × D)} {n : D} {Q : D → Prop} : ixC (some (.dct t ds)) n Q = cnd (keyOk t n = true) (obn (getK ds n) Q) := rfl
def setC (o : Option Cell) (i d : D) (Q : Cell → Prop) : Prop :=
  match o with
  | some (.lst ds) => match i with
    | .int n => obn (ixN ds.length n) fun k => Q (.lst (ds.set k d))
    | _ => False
  | some (.dct t ds) => cnd (keyOk t i = true) (cnd (ds.length < sizeLine) (Q (.dct t (putK ds i d))))
  | _ => False
@[simp] theorem setI_ref {a : Addr} {M : Mm} {i d : D} {Q : Mm → Prop} : setI (.ref a) i d M Q = setC (M a) i d fun x => Q (up M a x) := by
  cases h : M a with
  | none => cases i <;> simp [setI, setC, h]
  | some x => cases x <;> cases i <;> simp [setI, setC, h]
@[simp] theorem setC_lst {ds : List D} {n : Int} {d : D} {Q : Cell → Prop} : setC (some (.lst ds)) (.int n) d Q = obn (ixN ds.length n) fun k => Q (.lst (ds.set k d)) := rfl
@[simp] theorem setC_dct {t : Bool} {ds : List (D × D)} {i d : D} {Q : Cell → Prop} : setC (some (.dct t ds)) i d Q = cnd (keyOk t i = true) (cnd (ds.length < sizeLine) (Q (.dct t (putK ds i d)))) := rfl
def lstC : Option Cell → Option (List D)
  | some (.lst ds) => some ds
  | _ => none
@[simp] theorem lstD_ref {a : Addr} {M : Mm} : lstD M (.ref a) = lstC (M a) := by
  cases h : M a with
  | none => simp [lstD, lstC, h]
  | some x => cases x <;> simp [lstD, lstC, h]
@[simp] theorem lstC_lst {ds : List D} : lstC (some (.lst ds)) = some ds := rfl
@[simp] theorem seqD_ref {a : Addr} {M : Mm} : seqD M (.ref a) = lstC (M a) := by
  cases h : M a with
  | none => simp [seqD, lstC, h]
  | some x => cases x <;> simp [seqD, lstC, h]
def celC (a : Addr) : Option Cell → Option (Addr × List D)
  | some (.lst ds) => some (a, ds)
  | _ => none
@[simp] theorem celL_ref {a : Addr} {M : Mm} : celL M (.ref a) = celC a (M a) := by
  cases h : M a with
  | none => simp [celL, celC, h]
  | some x => cases x <;> simp [celL, celC, h]
@[simp] theorem celC_lst {a : Addr} {ds : List D} : celC a (some (.lst ds)) = some (a, ds) := rfl
@[simp] theorem lenD_lst {ds : List D} {M : Mm} : lenD M (.lst ds) = some (ds.length : Int) := rfl
@[simp] theorem lenD_tup {ds : List D} {M : Mm} : lenD M (.tup ds) = some (ds.length : Int) := rfl
@[simp] theorem lenD_dct {t : Bool} {ds : List (D × D)} {M : Mm} : lenD M (.dct t ds) = some (ds.length : Int) := rfl
@[simp] theorem ixD_lst {ds : List D} {M : Mm} {n : Int} {Q : D → Prop} : ixD (.lst ds) (.int n) M Q = obn (atI ds n) Q := rfl
@[simp] theorem ixD_tup {ds : List D} {M : Mm} {n : Int} {Q : D → Prop} : ixD (.tup ds) (.int n) M Q = obn (atI ds n) Q := rfl
@[simp] theorem ixD_dct {t : Bool} {ds : List (D × D)} {M : Mm} {n : D} {Q : D → Prop} : ixD (.dct t ds) n M Q = cnd (keyOk t n = true) (obn (getK ds n) Q) := rfl
@[simp] theorem lstD_lst {ds : List D} {M : Mm} : lstD M (.lst ds) = some ds := rfl
@[simp] theorem bmD_append {m : Bool} {o x : D} {M : Mm} {Q : QD} : bmD m .append o [x] M Q = obn (celL M o) fun p => cnd (p.2.length < sizeLine) (Q .non (up M p.1 (.lst (p.2 ++ [x])))) := rfl
@[simp] theorem bmD_extend {m : Bool} {o x : D} {M : Mm} {Q : QD} : bmD m .extend o [x] M Q = obn (celL M o) fun p => obn (lstD M x) fun es => cnd (p.2.length + es.length ≤ sizeLine) (Q .non (up M p.1 (.lst (p.2 ++ es)))) := rfl
@[simp] theorem up_same' {M : Mm} {a : Addr} {c : Cell} : up M a c a = some c := if_pos rfl
@[simp] theorem atI_nil0 {i : Int} : atI ([] : List D) i = none := by
  unfold atI ixN
  simp
@[simp] theorem atI_0 {d : D} {r : List D} : atI (d :: r) 0 = some d := by simp [atI, ixN]
@[simp] theorem atI_1 {d e : D} {r : List D} : atI (d :: e :: r) 1 = some e := by
  unfold atI ixN
  rw [if_pos (by decide), if_pos (by simp; omega)]
  rfl
@[simp] theorem atI_2 {d e f : D} {r : List D} : atI (d :: e :: f :: r) 2 = some f := by
  unfold atI ixN
  rw [if_pos (by decide), if_pos (by simp; omega)]
  rfl
@[simp] theorem atI_map {α : Type} {f : α → D} {xs : List α} {i : Int} : atI (xs.map f) i = (atI xs i).map f := by
  unfold atI
  rw [List.length_map]
  cases ixN xs.length i <;> simp
theorem cnd_intro {A B : Prop} (h : A) (h2 : B) : cnd A B := ⟨h, h2⟩
theorem br_dec {p A B : Prop} {_ : Decidable p} (h1 : p → A) (h2 : ¬ p → B) : br (decide p) A B := by
  by_cases h : p
  · rw [decide_eq_true h]; exact h1 h
  · rw [decide_eq_false h]; exact h2 h
theorem br_cases {b : Bool} {A B : Prop} (h1 : b = true → A) (h2 : b = false → B) : br b A B := by
  cases b with
  | true => exact h1 rfl
  | false => exact h2 rfl
theorem cpow_ok (n : Nat) (h : n ≤ 1000) : CPow 10 n := ⟨by omega, by omega, by decide⟩
theorem cmulL {i j : Int} (h : -(2 ^ 64) < i) (h2 : i < 2 ^ 64) : CMul i j ∨ CMulW i j := .inl (.inl ⟨h, h2⟩)
theorem cmulR {i j : Int} (h : -(2 ^ 64) < j) (h2 : j < 2 ^ 64) : CMul i j ∨ CMulW i j := .inl (.inr ⟨h, h2⟩)
theorem cdiv_lt {i j : Int} (h : 0 < j) (h2 : j < 2 ^ 110) : CDivW i j := by
  refine ⟨h, ?_⟩
  have : j.natAbs < 2 ^ 110 := by omega
  have := (Nat.log2_lt (by omega)).mpr this
  omega
/-- a def's end -/
theorem rt_id {c : Cfg} {Q : QD} {E : QX} {d : D} {M M' : Mm} (h : Q d M') (s : Sub M' M) : (fnK c Q E).rt d M := ⟨d, M', Frz.sub s, h⟩
theorem rt_self {c : Cfg} {Q : QD} {E : QX} {d : D} {M : Mm} (h : Q d M) : (fnK c Q E).rt d M := ⟨d, M, Frz.sub .refl, h⟩
@[simp] theorem obn_some' {α : Type} {a : α} {P : α → Prop} : obn (some a) P = P a := rfl
@[simp] theorem obn_none' {α : Type} {P : α → Prop} : obn none P = False := rfl
@[simp] theorem br_true' {A B : Prop} : br true A B = A := rfl
@[simp] theorem br_false' {A B : Prop} : br false A B = B := rfl
@[simp] theorem cnd_true' {B : Prop} : cnd True B = B := true_and B
@[simp] theorem alL_false' {ds : List D} {M : Mm} {Q : QD} : alL false ds M Q = Q (.lst ds) M := rfl
@[simp] theorem alL_true' {ds : List D} {M : Mm} {Q : QD} : alL true ds M Q = ∀ a, M a = none → Q (.ref a) (up M a (.lst ds)) := rfl
@[simp] theorem alK_false' {t : Bool} {ds : List (D × D)} {M : Mm} {Q : QD} : alK false t ds M Q = Q (.dct t ds) M := rfl
@[simp] theorem alK_true' {t : Bool} {ds : List (D × D)} {M : Mm} {Q : QD} : alK true t ds M Q = ∀ a, M a = none → Q (.ref a) (up M a (.dct t ds)) := rfl
@[simp] theorem fr_true {d : D} {M : Mm} {Q : QD} : frz1 true d M Q = Q d M := rfl
@[simp] theorem fr_non {M : Mm} {Q : QD} : frz1 false .non M Q = Q .non M := rfl
@[simp] theorem fr_bl {b : Bool} {M : Mm} {Q : QD} : frz1 false (.bl b) M Q = Q (.bl b) M := rfl
@[simp] theorem fr_int {b : Int} {M : Mm} {Q : QD} : frz1 false (.int b) M Q = Q (.int b) M := rfl
@[simp] theorem fr_str {b : PySem.Str} {M : Mm} {Q : QD} : frz1 false (.str b) M Q = Q (.str b) M := rfl
@[simp] theorem fr_lst {b : List D} {M : Mm} {Q : QD} : frz1 false (.lst b) M Q = Q (.lst b) M := rfl
@[simp] theorem fr_tup {b : List D} {M : Mm} {Q : QD} : frz1 false (.tup b) M Q = Q (.tup b) M := rfl
@[simp] theorem fr_dct {t : Bool} {b : List (D × D)} {M : Mm} {Q : QD} : frz1 false (.dct t b) M Q = Q (.dct t b) M := rfl
@[simp] theorem fr_ins {t : Nm} {b : List (Nm × D)} {M : Mm} {Q : QD} : frz1 false (.ins t b) M Q = Q (.ins t b) M := rfl
@[simp] theorem insD_ins {M : Mm} {n : Nm} {fs : List (Nm × D)} : insD M (.ins n fs) = some (n, fs) := rfl
@[simp] theorem fldD_ins {M : Mm} {n f : Nm} {fs : List (Nm × D)} : fldD M (.ins n fs) f = getF fs f := rfl
@[simp] theorem lk_nil {α : Type} {n : Nm} : lk ([] : List (Nm × α)) n = none := rfl
@[simp] theorem lk_cons {α : Type} {a n : Nm} {b : α} {r : List (Nm × α)} : lk ((a, b) :: r) n = if a = n then some b else lk r n := rfl
@[simp] theorem lk2_nil {α : Type} {n m : Nm} : lk2 ([] : List (Nm × Nm × α)) n m = none := rfl
@[simp] theorem lk2_cons {α : Type} {a a' n m : Nm} {b : α} {r : List (Nm × Nm × α)} : lk2 ((a, a', b) :: r) n m = if a = n ∧ a' = m then some b else lk2 r n m := rfl
@[simp] theorem getF_eq {fs : List (Nm × D)} {n : Nm} : getF fs n = lk fs n := rfl
@[simp] theorem ap_eq {sp : SpD} {ds : List D} {M : Mm} {Q : QD} {E : QX} : ap sp ds M Q E = sp ds M Q E := rfl
@[simp] theorem biD_list {m : Bool} {x : D} {M : Mm} {Q : QD} : biD m .list [x] M Q = (match dctD M x with
      | some (_, kvs) => alL m (kvs.map (·.1)) M Q
      | none => obn (seqD M x) fun ds => alL m ds M Q) := rfl
@[simp] theorem biD_sorted {m : Bool} {x : D} {M : Mm} {Q : QD} : biD m .sorted [x] M Q = obn (lstD M x) fun ds => obn (srtD ds) fun es => alL m es M Q := rfl
@[simp] theorem biD_all {m : Bool} {x : D} {M : Mm} {Q : QD} : biD m .all [x] M Q = obn (lstD M x) fun ds => obn (boolsD ds) fun bs => Q (.bl (bs.all id)) M := rfl
@[simp] theorem biD_any {m : Bool} {x : D} {M : Mm} {Q : QD} : biD m .any [x] M Q = obn (lstD M x) fun ds => obn (boolsD ds) fun bs => Q (.bl (bs.any id)) M := rfl
@[simp] theorem seqD_lst {ds : List D} {M : Mm} : seqD M (.lst ds) = some ds := rfl
@[simp] theorem seqD_tup {ds : List D} {M : Mm} : seqD M (.tup ds) = some ds := rfl
@[simp] theorem seqD_ro {t : Bool} {ds : List D} {M : Mm} : seqD M (.ro t ds) = some ds := rfl
@[simp] theorem dctD_lst {ds : List D} {M : Mm} : dctD M (.lst ds) = none := rfl
@[simp] theorem dctD_tup {ds : List D} {M : Mm} : dctD M (.tup ds) = none := rfl
@[simp] theorem dctD_ro {t : Bool} {ds : List D} {M : Mm} : dctD M (.ro t ds) = none := rfl
@[simp] theorem dctD_dct {t : Bool} {ds : List (D × D)} {M : Mm} : dctD M (.dct t ds) = some (t, ds) := rfl
@[simp] theorem lenD_ro {t : Bool} {ds : List D} {M : Mm} : lenD M (.ro t ds) = some (ds.length : Int) := rfl
@[simp] theorem ixD_ro {t : Bool} {ds : List D} {M : Mm} {n : Int} {Q : D → Prop} : ixD (.ro t ds) (.int n) M Q = obn (atI ds n) Q := rfl
@[simp] theorem catD_lst {m : Bool} {xs ys : List D} {M : Mm} {Q : QD} : catD m (.lst xs) (.lst ys) M Q = cnd (xs.length + ys.length ≤ sizeLine) (alL m (xs ++ ys) M Q) := rfl
@[simp] theorem tupD_tup {ds : List D} : tupD (.tup ds) = some ds := rfl
@[simp] theorem setAll_nil {env : Env} : setAll [] [] env = some env := rfl
@[simp] theorem setAll_cons {i : Nat} {is : List Nat} {d : D} {ds : List D} {env : Env} : setAll (i :: is) (d :: ds) env = setAll is ds (env.set i (some d)) := rfl
@[simp] theorem bindT_nm {i : Nat} {d : D} {M : Mm} {env : Env} : bindT (.nm i) d M env = some (env.set i (some d)) := rfl
@[simp] theorem bindT_tp {is : List Nat} {ds : List D} {M : Mm} {env : Env} : bindT (.tp is) (.tup ds) M env = setAll is ds env := rfl
@[simp] theorem isQ_false {x : Bool} {Q : Bool → Prop} : isQ (.bl x) (.bl false) Q = Q (decide (x = false)) := rfl
@[simp] theorem isQ_true {x : Bool} {Q : Bool → Prop} : isQ (.bl x) (.bl true) Q = Q (decide (x = true)) := rfl
@[simp] theorem endD_non {d : D} : endD .non d = some none := rfl
@[simp] theorem endD_var {i : Nat} {n : Int} : endD (.var i) (.int n) = some (some n) := rfl
@[simp] theorem slD_lst {m : Bool} {xs : List D} {lo hi : Option Int} {M : Mm} {Q : QD} : slD m (.lst xs) lo hi M Q = alL m (cut xs lo hi) M Q := rfl
@[simp] theorem negD_int {i : Int} : negD (.int i) = some (-i) := rfl
@[simp] theorem rcv_app {M : Mm} {d : D} : rcvB .append M d = (lstD M d).isSome := rfl
@[simp] theorem rcv_ext {M : Mm} {d : D} : rcvB .extend M d = (lstD M d).isSome := rfl
@[simp] theorem rcv_clr {M : Mm} {d : D} : rcvB .clear M d = (lstD M d).isSome := rfl
@[simp] theorem rcv_pop {M : Mm} {d : D} : rcvB .pop M d = (lstD M d).isSome := rfl
@[simp] theorem rcv_get {M : Mm} {d : D} : rcvB .get M d = (dctD M d).isSome := rfl
@[simp] theorem bmD_clear {m : Bool} {o : D} {M : Mm} {Q : QD} : bmD m .clear o [] M Q = obn (celL M o) fun p => Q .non (up M p.1 (.lst [])) := rfl
@[simp] theorem itD_seq {x : D} {M : Mm} : itD .seq [x] M = seqD M x := rfl
@[simp] theorem up_up' {M : Mm} {a : Addr} {c c' : Cell} : up (up M a c) a c' = up M a c' := up_up
@[simp] theorem out_nx {K : KD} {i : Nat} {env : Env} {M : Mm} : (K.out i).nx env M = K.nx (env.set i none) M := rfl
@[simp] theorem out_rt {K : KD} {i : Nat} : (K.out i).rt = K.rt := rfl
@[simp] theorem sui_nx {K : KD} : K.sui.nx = K.nx := rfl
@[simp] theorem sui_rt {K : KD} : K.sui.rt = K.rt := rfl
@[simp] theorem ownOk_nil {T : Tab} : ownOk T [] = true := rfl
@[simp] theorem ownOk_bt {T : Tab} {n : String} {r : List Ty1} : ownOk T (.bt n :: r) = ownOk T r := by simp [ownOk]
@[simp] theorem ownOk_own {T : Tab} {n : Nm} {r : List Ty1} : ownOk T (.own n :: r) = (decide (n ∈ T.own) && ownOk T r) := by simp [ownOk]
@[simp] theorem anyT_nil {f : Ty1 → Option Bool} : anyT f [] = some false := rfl
theorem anyT_cons {f : Ty1 → Option Bool} {t : Ty1} {r : List Ty1} {b : Bool} (h : f t = some b) : anyT f (t :: r) = if b = true then some true else anyT f r := by
  simp only [anyT, h]; cases b <;> rfl
/-- a value whose type isinstance may be asked -/
def tyB : D → Option String
  | .non => some "NoneType"
  | .bl _ => some "bool"
  | .int _ => some "int"
  | .str _ => some "str"
  | .lst _ => some "list"
  | .ro t _ => some (if t = true then "tuple" else "list")
  | .tup _ => some "tuple"
  | .dct false _ => some "dict"
  | _ => none
theorem isA_bt {T : Tab} {M : Mm} {d : D} {n x : String} (h : tyB d = some x) : isA T M d [.bt n] = some (decide (x = n) || (decide (x = "bool") && decide (n = "int"))) := by
  have : tyD T M d = some (.bt x) := by
    cases d with
    | dct t _ => cases t <;> cases h; rfl
    | ref _ => cases h
    | ins _ _ => cases h
    | exc _ _ => cases h
    | _ => cases h; rfl
  unfold isA
  rw [this]
  show anyT (isT T (.bt x)) [.bt n] = _
  rw [anyT_cons (b := (decide (x = n) || (decide (x = "bool") && decide (n = "int")))) rfl]
  cases (decide (x = n) || (decide (x = "bool") && decide (n = "int"))) <;> rfl
@[simp] theorem isA_non {T : Tab} {M : Mm} {n : String} : isA T M .non [.bt n] = some (decide ("NoneType" = n) || (decide ("NoneType" = "bool") && decide (n = "int"))) := isA_bt rfl
@[simp] theorem isA_bl {T : Tab} {M : Mm} {b : Bool} {n : String} : isA T M (.bl b) [.bt n] = some (decide ("bool" = n) || (decide ("bool" = "bool") && decide (n = "int"))) := isA_bt rfl
@[simp] theorem isA_int {T : Tab} {M : Mm} {b : Int} {n : String} : isA T M (.int b) [.bt n] = some (decide ("int" = n) || (decide ("int" = "bool") && decide (n = "int"))) := isA_bt rfl
@[simp] theorem isA_str {T : Tab} {M : Mm} {b : PySem.Str} {n : String} : isA T M (.str b) [.bt n] = some (decide ("str" = n) || (decide ("str" = "bool") && decide (n = "int"))) := isA_bt rfl
@[simp] theorem isA_lst {T : Tab} {M : Mm} {b : List D} {n : String} : isA T M (.lst b) [.bt n] = some (decide ("list" = n) || (decide ("list" = "bool") && decide (n = "int"))) := isA_bt rfl
@[simp] theorem isA_tup {T : Tab} {M : Mm} {b : List D} {n : String} : isA T M (.tup b) [.bt n] = some (decide ("tuple" = n) || (decide ("tuple" = "bool") && decide (n = "int"))) := isA_bt rfl
def dctC : Option Cell → Option (Bool × List (D × D))
  | some (.dct t ds) => some (t, ds)
  | _ => none
@[simp] theorem dctD_ref {a : Addr} {M : Mm} : dctD M (.ref a) = dctC (M a) := by
  cases h : M a with
  | none => simp [dctD, dctC, h]
  | some x => cases x <;> simp [dctD, dctC, h]
@[simp] theorem dctC_lst {ds : List D} : dctC (some (.lst ds)) = none := rfl
@[simp] theorem dctC_dct {t : Bool} {ds : List (D × D)} : dctC (some (.dct t ds)) = some (t, ds) := rfl
def insRC (a : Addr) : Option Cell → Option (Addr × Nm × List (Nm × D))
  | some (.ins n fs) => some (a, n, fs)
  | _ => none
@[simp] theorem insR_ref {a : Addr} {M : Mm} : insR M (.ref a) = insRC a (M a) := by
  cases h : M a with
  | none => simp [insR, insRC, h]
  | some x => cases x <;> simp [insR, insRC, h]
@[simp] theorem insRC_ins {a : Addr} {n : Nm} {fs : List (Nm × D)} : insRC a (some (.ins n fs)) = some (a, n, fs) := rfl
def celKC (a : Addr) : Option Cell → Option (Addr × List (D × D))
  | some (.dct false kvs) => some (a, kvs)
  | _ => none
@[simp] theorem celK_ref {a : Addr} {M : Mm} : celK M (.ref a) = celKC a (M a) := by
  cases h : M a with
  | none => simp [celK, celKC, h]
  | some x => cases x with
    | dct t ds => cases t <;> simp [celK, celKC, h]
    | _ => simp [celK, celKC, h]
@[simp] theorem celKC_dct {a : Addr} {ds : List (D × D)} : celKC a (some (.dct false ds)) = some (a, ds) := rfl
@[simp] theorem rcv_upd {M : Mm} {d : D} : rcvB .update M d = (celK M d).isSome := rfl
@[simp] theorem bmD_update {m : Bool} {o x : D} {M : Mm} {Q : QD} : bmD m .update o [x] M Q = obn (celK M o) fun p => obn (dctD M x) fun q => cnd (q.1 = false) (cnd (x ≠ o) (cnd (p.2.length + q.2.length ≤ sizeLine) (Q .non (up M p.1 (.dct false (mrgK p.2 q.2)))))) := rfl
@[simp] theorem biD_sortK {m : Bool} {x : D} {M : Mm} {Q : QD} : biD m .sortK [x] M Q = obn (dctD M x) fun p => cnd (p.1 = false) (obn (intsD (p.2.map (·.1))) fun is => cnd (is.length < 64) (alL m ((is.mergeSort fun a b => decide (a ≤ b)).map .int) M Q)) := rfl
end L3
set_option maxRecDepth 100000
namespace L3
open PySem L2
/-! ### comprehensions that change nothing -/
theorem compL_map {chk : Mm → Prop} {wc we : Env → Mm → (D → Mm → Prop) → Prop} {tg : Tg} {env : Env} (f : D → D) : ∀ (items acc : List D) (M : Mm) (Q : List D → Mm → Prop), chk M →
    (∀ x ∈ items, ∃ env', bindT tg x M env = some env' ∧ (∀ P : D → Mm → Prop, P (.bl true) M → wc env' M P) ∧ ∀ P : D → Mm → Prop, P (f x) M → we env' M P) → Q (acc ++ items.map f) M → compL chk wc we tg env items acc M Q
  | [], acc, M, Q, hc, _, hQ => ⟨hc, by simpa using hQ⟩
  | x :: r, acc, M, Q, hc, h, hQ => by
    obtain ⟨env', e, h1, h2⟩ := h x List.mem_cons_self
    refine ⟨hc, ?_⟩
    rw [e]
    refine h1 _ (h2 _ ?_)
    exact compL_map f r _ M Q hc (fun y hy => h y (List.mem_cons_of_mem _ hy)) (by simpa using hQ)
/-! ### data compared -/
theorem pu_ints {n : Nat} : ∀ (is : List Int), pu.puL n (is.map .int) = true
  | [] => rfl
  | i :: r => by simp [pu.puL, pu, pu_ints r]
theorem pu_lst {n : Nat} {is : List Int} (h : 0 < n) : pu n (.lst (is.map .int)) = true := by simp [pu, h, pu_ints]
theorem pu_prs {n : Nat} (h : 0 < n) : ∀ (ps : List (Int × Int)), pu.puL n (ps.map prD) = true
  | [] => rfl
  | i :: r => by simp [pu.puL, prD, pu, pu_prs h r, h]
theorem rsL_ints {M : Mm} : ∀ (is : List Int), rs.rsL M (is.map .int) = is.map .int
  | [] => rfl
  | i :: r => by simp [rs.rsL, rs, rsL_ints r]
theorem rsL_prs {M : Mm} : ∀ (ps : List (Int × Int)), rs.rsL M (ps.map prD) = ps.map prD
  | [] => rfl
  | i :: r => by simp [rs.rsL, rs, prD, rsL_prs r]
theorem eqv_ints : ∀ (is js : List Int), eqv.eqvL (is.map .int) (js.map .int) = decide (is = js)
  | [], [] => rfl
  | [], _ :: _ => rfl
  | _ :: _, [] => rfl
  | i :: r, j :: t => by
    show (eqv (.int i) (.int j) && eqv.eqvL (r.map .int) (t.map .int)) = _
    rw [eqv_ints r t]
    have : eqv (.int i) (.int j) = decide (i = j) := by simp [eqv]; rfl
    rw [this]
    by_cases h1 : i = j <;> by_cases h2 : r = t <;> simp [h1, h2]
theorem eqv_pr (p q : Int × Int) : eqv (prD p) (prD q) = decide (p = q) := by
  obtain ⟨a, b⟩ := p
  obtain ⟨x, y⟩ := q
  have := eqv_ints [a, b] [x, y]
  show eqv.eqvL [.int a, .int b] [.int x, .int y] = _
  simp only [List.map_cons, List.map_nil] at this
  rw [this]
  simp
theorem eqv_prs : ∀ (ps qs : List (Int × Int)), eqv.eqvL (ps.map prD) (qs.map prD) = decide (ps = qs)
  | [], [] => rfl
  | [], _ :: _ => rfl
  | _ :: _, [] => rfl
  | i :: r, j :: t => by
    show (eqv (prD i) (prD j) && eqv.eqvL (r.map prD) (t.map prD)) = _
    rw [eqv_prs r t, eqv_pr]
    by_cases h1 : i = j <;> by_cases h2 : r = t <;> simp [h1, h2]
theorem any_ints {i : Int} : ∀ (is : List Int), ((is.map D.int).any fun z => eqv z (.int i)) = decide (i ∈ is)
  | [] => by simp
  | j :: r => by
    have e : eqv (.int j) (.int i) = decide (j = i) := by simp [eqv]; rfl
    simp only [List.map_cons, List.any_cons, any_ints r, e, List.mem_cons]
    by_cases h : i = j <;> by_cases h2 : i ∈ r <;> simp [h, h2, eq_comm]
theorem any_prs {p : Int × Int} : ∀ (ps : List (Int × Int)), ((ps.map prD).any fun z => eqv z (prD p)) = decide (p ∈ ps)
  | [] => by simp
  | j :: r => by
    simp only [List.map_cons, List.any_cons, any_prs r, eqv_pr, List.mem_cons]
    by_cases h : p = j <;> by_cases h2 : p ∈ r <;> simp [h, h2, eq_comm]
theorem inQ_lst {x : D} {ds : List D} {M : Mm} {Q : Bool → Prop} : inQ x (.lst ds) M Q = cnd (pu 59 (rs M x) = true) (cnd (pu 59 (.lst ds) = true) (Q (ds.any fun z => eqv z (rs M x)))) := rfl
theorem inQ_ref {x : D} {a : Addr} {ds : List D} {M : Mm} {Q : Bool → Prop} (h : M a = some (.lst ds)) : inQ x (.ref a) M Q = cnd (pu 59 (rs M x) = true) (cnd (pu 59 (.lst ds) = true) (Q (ds.any fun z => eqv z (rs M x)))) := by
  have e1 : dctD M (.ref a) = none := by simp [dctD, h]
  have e2 : seqD M (.ref a) = some ds := by simp [seqD, h]
  unfold inQ
  rw [e1]
  show obn (seqD M (.ref a)) _ = _
  rw [e2]
  rfl
theorem rs_pr {M : Mm} {p : Int × Int} : rs M (prD p) = prD p := by simp [rs, rs.rsL, prD]
theorem pu_pr {n : Nat} {p : Int × Int} (h : 0 < n) : pu n (prD p) = true := by simp [pu, pu.puL, prD, h]
@[simp] theorem in_ints {i : Int} {is : List Int} {M : Mm} {Q : Bool → Prop} : inQ (.int i) (.lst (is.map .int)) M Q = Q (decide (i ∈ is)) := by
  rw [inQ_lst]
  have e : rs M (.int i) = .int i := by simp [rs]
  rw [e, any_ints]
  simp [cnd, pu, pu_ints]
theorem in_prs {p : Int × Int} {ps : List (Int × Int)} {M : Mm} {Q : Bool → Prop} : inQ (prD p) (.lst (ps.map prD)) M Q = Q (decide (p ∈ ps)) := by
  rw [inQ_lst, rs_pr, any_prs]
  simp [cnd, pu_pr, pu, pu_prs]
theorem rs_ref {a : Addr} {ds : List D} {M : Mm} (h : M a = some (.lst ds)) : rs M (.ref a) = .lst ds := by simp [rs, h]
theorem rs_ints {is : List Int} {M : Mm} : rs M (.lst (is.map .int)) = .lst (is.map .int) := by simp [rs, rsL_ints]
theorem rs_prs {ps : List (Int × Int)} {M : Mm} : rs M (.lst (ps.map prD)) = .lst (ps.map prD) := by simp [rs, rsL_prs]
@[simp] theorem eq_ints {is js : List Int} {M : Mm} {Q : Bool → Prop} : eqQ (.lst (is.map .int)) (.lst (js.map .int)) M Q = Q (decide (is = js)) := by
  unfold eqQ
  rw [rs_ints, rs_ints, rs_ints, rs_ints]
  have : eqv (.lst (is.map .int)) (.lst (js.map .int)) = decide (is = js) := eqv_ints is js
  rw [this]
  simp [cnd, pu_lst]
@[simp] theorem eq_prs {is js : List (Int × Int)} {M : Mm} {Q : Bool → Prop} : eqQ (.lst (is.map prD)) (.lst (js.map prD)) M Q = Q (decide (is = js)) := by
  unfold eqQ
  rw [rs_prs, rs_prs, rs_prs, rs_prs]
  have : eqv (.lst (is.map prD)) (.lst (js.map prD)) = decide (is = js) := eqv_prs is js
  rw [this]
  simp [cnd, pu, pu_prs]
theorem getK_ints {α : Type} (f : α → Int) (g : α → D) (i : Int) : ∀ (xs : List α), getK (xs.map fun x => (D.int (f x), g x)) (.int i) = (xs.find? fun x => decide (f x = i)).map g
  | [] => rfl
  | x :: r => by
    show (if eqKey (.int (f x)) (.int i) = true then some (g x) else getK (r.map fun x => (D.int (f x), g x)) (.int i)) = _
    rw [getK_ints f g i r]
    by_cases h : f x = i <;> simp [eqKey, h]
theorem boolsD_all {α : Type} {xs : List α} {f : α → Bool} : boolsD (xs.map fun x => D.bl (f x)) = some (xs.map f) := by
  have := boolsD_map (xs.map f)
  rw [List.map_map] at this
  exact this
@[simp] theorem intsD_ints {is : List Int} : intsD (is.map .int) = some is := intsD_map is
theorem srt_ints (is : List Int) : srtD (is.map .int) = some ((is.mergeSort fun a b => decide (a ≤ b)).map .int) := by unfold srtD; rw [intsD_map]
theorem srt_prs (ps : List (Int × Int)) (h : ps ≠ []) : srtD (ps.map prD) = some ((ps.mergeSort leP).map prD) := by
  unfold srtD
  have : intsD (ps.map prD) = none := by cases ps with
    | nil => exact absurd rfl h
    | cons p r => rfl
  rw [this, prs_map]
theorem srt_prs' (ps : List (Int × Int)) : srtD (ps.map prD) = some ((ps.mergeSort leP).map prD) := by
  cases ps with
  | nil => simp [srtD, intsD]
  | cons p r => exact srt_prs _ (by simp)
/-- two rising lists of the same members -/
theorem strict_ext : ∀ {xs ys : List Int}, xs.Pairwise (· < ·) → ys.Pairwise (· < ·) → (∀ z, z ∈ xs ↔ z ∈ ys) → xs = ys
  | [], [], _, _, _ => rfl
  | [], y :: ys, _, _, h => by have := (h y).mpr List.mem_cons_self; cases this
  | x :: xs, [], _, _, h => by have := (h x).mp List.mem_cons_self; cases this
  | x :: xs, y :: ys, h1, h2, h => by
    rw [List.pairwise_cons] at h1 h2
    have e : x = y := by
      rcases List.mem_cons.mp ((h x).mp List.mem_cons_self) with e | e
      · exact e
      · rcases List.mem_cons.mp ((h y).mpr List.mem_cons_self) with e' | e'
        · exact e'.symm
        · have a := h2.1 x e
          have b := h1.1 y e'
          omega
    subst e
    rw [strict_ext h1.2 h2.2 fun z => ⟨fun hz => by
      rcases List.mem_cons.mp ((h z).mp (List.mem_cons_of_mem _ hz)) with e | e
      · subst e; exact absurd (h1.1 z hz) (by omega)
      · exact e, fun hz => by
      rcases List.mem_cons.mp ((h z).mpr (List.mem_cons_of_mem _ hz)) with e | e
      · subst e; exact absurd (h2.1 z hz) (by omega)
      · exact e⟩]
theorem sort_strict {xs : List Int} (nd : xs.Nodup) : (xs.mergeSort fun a b => decide (a ≤ b)).Pairwise (· < ·) := by
  have s := List.pairwise_mergeSort (le := fun a b : Int => decide (a ≤ b)) (fun a b c h1 h2 => by simp at *; omega) (fun a b => by simp; omega) xs
  have n : (xs.mergeSort fun a b => decide (a ≤ b)).Nodup := (List.mergeSort_perm xs _).nodup_iff.mpr nd
  refine (s.and n).imp fun h => ?_
  have := h.1
  have := h.2
  simp at *
  omega
theorem sort_eq {xs ys : List Int} (nd : xs.Nodup) (hy : ys.Pairwise (· < ·)) (h : ∀ z, z ∈ xs ↔ z ∈ ys) : (xs.mergeSort fun a b => decide (a ≤ b)) = ys :=
  strict_ext (sort_strict nd) hy fun z => by rw [← h z]; exact (List.mergeSort_perm xs _).mem_iff
theorem compQ_map {chk : List D → Mm → Prop} {wc we : Env → Mm → (D → Mm → Prop) → Prop} {tg : Tg} {env : Env} {items : List D} {M : Mm} {Q : List D → Mm → Prop} (f : D → D) (hl : items.length ≤ sizeLine) (hc : chk items M)
    (h : ∀ x ∈ items, ∃ env', bindT tg x M env = some env' ∧ (∀ P : D → Mm → Prop, P (.bl true) M → wc env' M P) ∧ ∀ P : D → Mm → Prop, P (f x) M → we env' M P) (hQ : Q (items.map f) M) : compQ chk wc we tg env (some items) M Q :=
  ⟨hl, compL_map f items [] M Q hc h (by simpa using hQ)⟩
theorem small {n : Nat} (h : n ≤ 1000) : n ≤ sizeLine := Nat.le_trans h (by decide)
/-- values that isinstance is asked of -/
def plainB : D → Bool
  | .non => true
  | .bl _ => true
  | .int _ => true
  | .str _ => true
  | .lst _ => true
  | .tup _ => true
  | _ => false
theorem isA_ref {T : Tab} {M : Mm} {a : Addr} {ds : List D} {n : String} (h : M a = some (.lst ds)) : isA T M (.ref a) [.bt n] = some (decide ("list" = n) || (decide ("list" = "bool") && decide (n = "int"))) := by
  unfold isA
  have : tyD T M (.ref a) = some (.bt "list") := by simp [tyD, h]
  rw [this]
  show anyT (isT T (.bt "list")) [.bt n] = _
  rw [anyT_cons (b := (decide ("list" = n) || (decide ("list" = "bool") && decide (n = "int")))) rfl]
  cases (decide ("list" = n) || (decide ("list" = "bool") && decide (n = "int"))) <;> rfl
theorem mem_rng {lo : Int} {n : Nat} {d : D} (h : d ∈ rngL lo n) : ∃ i : Nat, i < n ∧ d = .int (lo + i) := by
  simp [rngL] at h
  obtain ⟨i, h1, h2⟩ := h
  exact ⟨i, h1, h2.symm⟩
theorem itD_rng1 {n : Int} {M : Mm} (h : n < 2 ^ 62) (h2 : -(2 ^ 62) ≤ n) : itD .rng1 [.int n] M = some (rngL 0 n.toNat) := if_pos ⟨h, h2⟩
theorem atI_of {is : List Int} {k : Nat} (h : k < is.length) : atI (is.map D.int) (k : Int) = some (.int is[k]) := by
  unfold atI ixN
  rw [if_pos (by omega), if_pos (by simpa using h)]
  simp [h]
@[simp] theorem comp_const {α β γ : Type} {f : α → β} {b : γ} : ((fun _ : β => b) ∘ f) = fun _ => b := rfl
theorem sIx_of {n d : Nat} {i : Int} (h : 0 ≤ i) (h2 : i ≤ n) : HT.sIx n d (some i) = i.toNat := by
  show (if i < 0 then (i + (n : Int)).toNat else min i.toNat n) = i.toNat
  rw [if_neg (by omega)]
  omega
theorem cut_take {α : Type} {xs : List α} {i : Int} (h : 0 ≤ i) (h2 : i ≤ xs.length) : cut xs none (some i) = xs.take i.toNat := by
  unfold cut
  rw [sIx_of h h2]
  show (xs.drop 0).take (i.toNat - 0) = _
  simp
theorem cut_drop {α : Type} {xs : List α} {i : Int} (h : 0 ≤ i) (h2 : i ≤ xs.length) : cut xs (some i) none = xs.drop i.toNat := by
  unfold cut
  rw [sIx_of h h2]
  show (xs.drop i.toNat).take (xs.length - i.toNat) = _
  rw [List.take_of_length_le (by simp)]
theorem mem_enum {ds : List D} {x : D} (h : x ∈ enumFrom 0 ds) : ∃ (i : Nat) (d : D), ds[i]? = some d ∧ x = .tup [.int (i : Nat), d] := by
  obtain ⟨i, hi⟩ := List.mem_iff_getElem?.mp h
  have : ∀ {ds : List D} {n i : Nat} {d : D}, (enumFrom n ds)[i]? = some d → ∃ e, ds[i]? = some e ∧ d = .tup [.int ((n + i : Nat) : Int), e] := by
    intro ds
    induction ds with
    | nil => intro n i d h; simp [enumFrom] at h
    | cons e r ih => intro n i d h; cases i with
      | zero => simp [enumFrom] at h; exact ⟨e, rfl, h.symm⟩
      | succ i =>
        obtain ⟨e', h1, h2⟩ := ih (n := n + 1) (i := i) (d := d) (by simpa [enumFrom] using h)
        exact ⟨e', by simpa using h1, by rw [h2, show n + 1 + i = n + (i + 1) by omega]⟩
  obtain ⟨e, h1, h2⟩ := this hi
  exact ⟨i, e, h1, by rw [h2, Nat.zero_add]⟩
theorem enum_size {ds : List D} : ∀ {n : Nat}, (enumFrom n ds).length = ds.length := by
  induction ds with
  | nil => intro n; rfl
  | cons e r ih => intro n; simp [enumFrom, ih]
theorem itD_enum {d : D} {ds : List D} {M : Mm} (h : lstD M d = some ds) : itD .enum [d] M = some (enumFrom 0 ds) := by
  show (match lstD M d with | some ds => some (enumFrom 0 ds) | none => none) = _
  rw [h]
theorem slD_ref {m : Bool} {a : Addr} {ds : List D} {lo hi : Option Int} {M : Mm} {Q : QD} (h : M a = some (.lst ds)) : slD m (.ref a) lo hi M Q = alL m (cut ds lo hi) M Q := by
  show obn (seqD M (.ref a)) _ = _
  have : seqD M (.ref a) = some ds := by simp [seqD, h]
  rw [this]
  rfl
@[simp] theorem all_const {α : Type} {xs : List α} : (xs.all fun _ => true) = true := by simp [List.all_eq_true]
/-- a loop, by what holds of what is left -/
theorem forL_ind {chk : Mm → Prop} {body : KD → Env → Mm → Prop} {tg : Tg} {K : KD} (I : List D → Env → Mm → Prop) (hc : ∀ xs env M, I xs env M → chk M)
    (hs : ∀ x xs env M (F : Env → Mm → Prop), I (x :: xs) env M → (∀ env' M', I xs env' M' → F env' M') → ∃ env', bindT tg x M env = some env' ∧ body { nx := F, rt := K.rt, bk := K.nx, ct := F, ex := K.ex } env' M)
    (he : ∀ env M, I [] env M → K.nx env M) : ∀ (items : List D) (env : Env) (M : Mm), I items env M → forL chk body tg K items env M
  | [], env, M, h => ⟨hc _ _ _ h, he _ _ h⟩
  | x :: xs, env, M, h => by
    refine ⟨hc _ _ _ h, ?_⟩
    obtain ⟨env', e, q⟩ := hs x xs env M (forL chk body tg K xs) h fun env' M' h' => forL_ind I hc hs he xs env' M' h'
    rw [e]
    exact q
theorem forQ_ind {chk : List D → Mm → Prop} {body : KD → Env → Mm → Prop} {tg : Tg} {K : KD} {items : List D} {env : Env} {M : Mm} (I : List D → Env → Mm → Prop) (h0 : I items env M) (hc : ∀ xs env M, I xs env M → chk items M)
    (hs : ∀ x xs env M (F : Env → Mm → Prop), I (x :: xs) env M → (∀ env' M', I xs env' M' → F env' M') → ∃ env', bindT tg x M env = some env' ∧ body { nx := F, rt := K.rt, bk := K.nx, ct := F, ex := K.ex } env' M)
    (he : ∀ env M, I [] env M → K.nx env M) : forQ chk body tg K (some items) env M := forL_ind I hc hs he items env M h0
theorem forQ_start {chk : List D → Mm → Prop} {body : KD → Env → Mm → Prop} {tg : Tg} {K : KD} {o : Option (List D)} {items : List D} {env : Env} {M : Mm} (e : o = some items) (h : forQ chk body tg K (some items) env M) : forQ chk body tg K o env M := by rw [e]; exact h
theorem compQ_start {chk : List D → Mm → Prop} {wc we : Env → Mm → (D → Mm → Prop) → Prop} {tg : Tg} {env : Env} {o : Option (List D)} {items : List D} {M : Mm} {Q : List D → Mm → Prop} (e : o = some items) (h : compQ chk wc we tg env (some items) M Q) : compQ chk wc we tg env o M Q := by rw [e]; exact h
theorem wSs_app {T : Tab} : ∀ (p q : List SS) (K : KD) (env : Env) (M : Mm), wSs T (p ++ q) K env M = wSs T p { nx := fun env M => wSs T q K env M, rt := K.rt, bk := K.bk, ct := K.ct, ex := K.ex } env M
  | [], q, K, env, M => by rw [List.nil_append, wSs_nil]
  | s :: r, q, K, env, M => by
    show wSs T (s :: (r ++ q)) K env M = _
    rw [wSs_cons, wSs_cons]
    congr 2
    funext env M
    exact wSs_app r q K env M
theorem rng_drop {n k : Nat} (h : k < n) : (rngL 0 n).drop k = .int (k : Nat) :: (rngL 0 n).drop (k + 1) := by
  have : k < (rngL 0 n).length := by simpa [rngL] using h
  rw [List.drop_eq_getElem_cons this]
  congr 1
  simp [rngL]
theorem rng_len {lo : Int} {n : Nat} : (rngL lo n).length = n := by simp [rngL]
/-- a list handed in: at a place, or as data -/
def Arg (M : Mm) (d : D) (ds : List D) : Prop := (∃ a, d = .ref a ∧ M a = some (.lst ds)) ∨ d = .lst ds
structure ArgF (M : Mm) (d : D) (ds : List D) : Prop where
  lst : lstD M d = some ds
  seq : seqD M d = some ds
  dct : dctD M d = none
  len : lenD M d = some (ds.length : Int)
  isa : ∀ T n, isA T M d [.bt n] = some (decide ("list" = n) || (decide ("list" = "bool") && decide (n = "int")))
  ix : ∀ (i : Int) (Q : D → Prop), ixD d (.int i) M Q = obn (atI ds i) Q
  sl : ∀ m lo hi (Q : QD), slD m d lo hi M Q = alL m (cut ds lo hi) M Q
  inq : ∀ x (Q : Bool → Prop), inQ x d M Q = cnd (pu 59 (rs M x) = true) (cnd (pu 59 (.lst ds) = true) (Q (ds.any fun z => eqv z (rs M x))))
theorem Arg.f {M : Mm} {d : D} {ds : List D} (h : Arg M d ds) : ArgF M d ds := by
  rcases h with ⟨a, rfl, h⟩ | rfl
  · exact ⟨by simp [h], by simp [h], by simp [h], by simp [h], fun T n => isA_ref h, fun i Q => by simp [h], fun m lo hi Q => slD_ref h, fun x Q => inQ_ref h⟩
  · exact ⟨rfl, rfl, rfl, rfl, fun T n => isA_lst, fun i Q => rfl, fun m lo hi Q => rfl, fun x Q => rfl⟩
theorem Arg.sub {M M' : Mm} {d : D} {ds : List D} (h : Arg M d ds) (s : Sub M M') : Arg M' d ds := h.imp (fun ⟨a, e, h⟩ => ⟨a, e, s a _ h⟩) id
theorem ArgF.ints {M : Mm} {d : D} {is : List Int} (h : ArgF M d (is.map .int)) (i : Int) (Q : Bool → Prop) : inQ (.int i) d M Q = Q (decide (i ∈ is)) := by
  rw [h.inq, ← inQ_lst, in_ints]
theorem ArgF.prs {M : Mm} {d : D} {ps : List (Int × Int)} (h : ArgF M d (ps.map prD)) (p : Int × Int) (Q : Bool → Prop) : inQ (prD p) d M Q = Q (decide (p ∈ ps)) := by
  rw [h.inq, ← inQ_lst, in_prs]
/-- while, by the turns that are left -/
theorem whN_ind {c : Env → Mm → QD → Prop} {body : KD → Env → Mm → Prop} {K : KD} (I : Nat → Env → Mm → Prop)
    (hs : ∀ n env M (F : Env → Mm → Prop), I n env M → (∀ m, n = m + 1 → ∀ env' M', I m env' M' → F env' M') → c env M fun d M' => obn (truD M' d) fun b => br b (body { nx := F, rt := K.rt, bk := K.nx, ct := F, ex := K.ex } env M') (K.nx env M')) :
    ∀ n env M, I n env M → whN c body K (n + 1) env M
  | 0, env, M, h => hs 0 env M (whN c body K 0) h fun m e => by cases e
  | n + 1, env, M, h => hs (n + 1) env M (whN c body K (n + 1)) h fun m e env' M' h' => by cases e; exact whN_ind I hs n env' M' h'
theorem whQ_ind {c : Env → Mm → QD → Prop} {body : KD → Env → Mm → Prop} {K : KD} {env : Env} {M : Mm} (I : Nat → Env → Mm → Prop) (n : Nat) (h0 : I n env M)
    (hs : ∀ n env M (F : Env → Mm → Prop), I n env M → (∀ m, n = m + 1 → ∀ env' M', I m env' M' → F env' M') → c env M fun d M' => obn (truD M' d) fun b => br b (body { nx := F, rt := K.rt, bk := K.nx, ct := F, ex := K.ex } env M') (K.nx env M')) : whQ c body K env M := ⟨n + 1, whN_ind I hs n env M h0⟩
theorem nodup_le : ∀ {xs ys : List Int}, xs.Nodup → (∀ z ∈ xs, z ∈ ys) → xs.length ≤ ys.length
  | [], _, _, _ => Nat.zero_le _
  | x :: r, ys, nd, h => by
    rw [List.nodup_cons] at nd
    have hx := h x List.mem_cons_self
    have := nodup_le (xs := r) (ys := ys.erase x) nd.2 fun z hz => (List.mem_erase_of_ne (fun e => nd.1 (by rw [← e]; exact hz))).mpr (h z (List.mem_cons_of_mem _ hz))
    rw [List.length_erase_of_mem hx] at this
    have := List.length_pos_of_mem hx
    simp
    omega
theorem compL_maps {α : Type} {chk : Mm → Prop} {wc we : Env → Mm → (D → Mm → Prop) → Prop} {tg : Tg} {env : Env} (g f : α → D) : ∀ (xs : List α) (acc : List D) (M : Mm) (Q : List D → Mm → Prop), chk M →
    (∀ x ∈ xs, ∃ env', bindT tg (g x) M env = some env' ∧ (∀ P : D → Mm → Prop, P (.bl true) M → wc env' M P) ∧ ∀ P : D → Mm → Prop, P (f x) M → we env' M P) → Q (acc ++ xs.map f) M → compL chk wc we tg env (xs.map g) acc M Q
  | [], acc, M, Q, hc, _, hQ => ⟨hc, by simpa using hQ⟩
  | x :: r, acc, M, Q, hc, h, hQ => by
    obtain ⟨env', e, h1, h2⟩ := h x List.mem_cons_self
    refine ⟨hc, ?_⟩
    rw [e]
    refine h1 _ (h2 _ ?_)
    exact compL_maps g f r _ M Q hc (fun y hy => h y (List.mem_cons_of_mem _ hy)) (by simpa using hQ)
theorem compQ_maps {α : Type} {chk : List D → Mm → Prop} {wc we : Env → Mm → (D → Mm → Prop) → Prop} {tg : Tg} {env : Env} {M : Mm} {Q : List D → Mm → Prop} (xs : List α) (g f : α → D) (hl : xs.length ≤ sizeLine) (hc : chk (xs.map g) M)
    (h : ∀ x ∈ xs, ∃ env', bindT tg (g x) M env = some env' ∧ (∀ P : D → Mm → Prop, P (.bl true) M → wc env' M P) ∧ ∀ P : D → Mm → Prop, P (f x) M → we env' M P) (hQ : Q (xs.map f) M) : compQ chk wc we tg env (some (xs.map g)) M Q :=
  ⟨by rw [List.length_map]; exact hl, compL_maps g f xs [] M Q hc h (by simpa using hQ)⟩
end L3
set_option maxRecDepth 100000
set_option maxHeartbeats 4000000
namespace L3
open PySem L2
@[simp] theorem rcv_clrK {M : Mm} {d : D} : rcvB .clearK M d = (celK M d).isSome := rfl
@[simp] theorem bmD_clearK {m : Bool} {o : D} {M : Mm} {Q : QD} : bmD m .clearK o [] M Q = obn (celK M o) fun p => Q .non (up M p.1 (.dct false [])) := rfl
/-! ### data at places that may change: what is told there, and whose the places are -/
inductive Sh where
  | leaf | lst (s : Sh) | dct (s : Sh)
def Sh.dep : Sh → Nat
  | .leaf => 0
  | .lst s => s.dep + 1
  | .dct s => s.dep + 1
inductive F3 {α β : Type} (P : α → β → List Addr → Prop) : List α → List β → List (List Addr) → Prop
  | nil : F3 P [] [] []
  | cons {x : α} {y : β} {T : List Addr} {xs : List α} {ys : List β} {Ts : List (List Addr)} : P x y T → F3 P xs ys Ts → F3 P (x :: xs) (y :: ys) (T :: Ts)
theorem F3.imp' {α β : Type} {P P' : α → β → List Addr → Prop} : ∀ {xs : List α} {ys : List β} {Ts : List (List Addr)}, F3 P xs ys Ts → (∀ x y T, T ∈ Ts → P x y T → P' x y T) → F3 P' xs ys Ts
  | _, _, _, .nil, _ => .nil
  | _, _, _, .cons p q, h => .cons (h _ _ _ List.mem_cons_self p) (F3.imp' q fun x y T hT => h x y T (List.mem_cons_of_mem _ hT))
theorem F3.len {α β : Type} {P : α → β → List Addr → Prop} : ∀ {xs : List α} {ys : List β} {Ts : List (List Addr)}, F3 P xs ys Ts → xs.length = ys.length
  | _, _, _, .nil => rfl
  | _, _, _, .cons _ q => by simp [F3.len q]
theorem F3.snoc {α β : Type} {P : α → β → List Addr → Prop} {x : α} {y : β} {T : List Addr} : ∀ {xs : List α} {ys : List β} {Ts : List (List Addr)}, F3 P xs ys Ts → P x y T → F3 P (xs ++ [x]) (ys ++ [y]) (Ts ++ [T])
  | _, _, _, .nil, h => .cons h .nil
  | _, _, _, .cons p q, h => .cons p (F3.snoc q h)
theorem F3.get {α β : Type} {P : α → β → List Addr → Prop} : ∀ {xs : List α} {ys : List β} {Ts : List (List Addr)}, F3 P xs ys Ts → ∀ {j : Nat} {x : α} {y : β}, xs[j]? = some x → ys[j]? = some y → ∃ T ∈ Ts, P x y T
  | _, _, _, .nil, j, x, y, e, _ => by simp at e
  | _, _, _, .cons p _, 0, x, y, e, e2 => by simp at e e2; subst e e2; exact ⟨_, List.mem_cons_self, p⟩
  | _, _, _, .cons _ q, j + 1, x, y, e, e2 => by
    obtain ⟨T, h1, h2⟩ := F3.get q (j := j) (x := x) (y := y) (by simpa using e) (by simpa using e2)
    exact ⟨T, List.mem_cons_of_mem _ h1, h2⟩
theorem F3.mem {α β : Type} {P : α → β → List Addr → Prop} : ∀ {xs : List α} {ys : List β} {Ts : List (List Addr)}, F3 P xs ys Ts → ∀ {x : α}, x ∈ xs → ∃ y ∈ ys, ∃ T ∈ Ts, P x y T
  | _, _, _, .nil, x, e => nomatch e
  | _, _, _, .cons p q, x, e => by
    rcases List.mem_cons.mp e with rfl | e
    · exact ⟨_, List.mem_cons_self, _, List.mem_cons_self, p⟩
    · obtain ⟨y, h1, T, h2, h3⟩ := F3.mem q e
      exact ⟨y, List.mem_cons_of_mem _ h1, T, List.mem_cons_of_mem _ h2, h3⟩
def DM (M : Mm) : Sh → D → D → List Addr → Prop
  | .leaf, r, d, S => r = d ∧ S = []
  | .lst s, r, d, S => ∃ a rs ds Ts, r = .ref a ∧ d = .lst ds ∧ S = a :: Ts.flatten ∧ M a = some (.lst rs) ∧ F3 (DM M s) rs ds Ts
  | .dct s, r, d, S => ∃ a kr kd Ts, r = .ref a ∧ d = .dct false kd ∧ S = a :: Ts.flatten ∧ M a = some (.dct false kr) ∧ F3 (fun (p q : D × D) T => p.1 = q.1 ∧ DM M s p.2 q.2 T) kr kd Ts
theorem DM.frame {M M' : Mm} : ∀ (s : Sh) {r d : D} {S : List Addr}, DM M s r d S → (∀ a ∈ S, M' a = M a) → DM M' s r d S
  | .leaf, _, _, _, h, _ => h
  | .lst s, _, _, _, ⟨a, rs, ds, Ts, rfl, rfl, rfl, e, f⟩, h => ⟨a, rs, ds, Ts, rfl, rfl, rfl, (h a List.mem_cons_self).trans e, f.imp' fun x y T hT p => DM.frame s p fun b hb => h b (List.mem_cons_of_mem _ (List.mem_flatten.mpr ⟨T, hT, hb⟩))⟩
  | .dct s, _, _, _, ⟨a, rs, ds, Ts, rfl, rfl, rfl, e, f⟩, h => ⟨a, rs, ds, Ts, rfl, rfl, rfl, (h a List.mem_cons_self).trans e, f.imp' fun x y T hT p => ⟨p.1, DM.frame s p.2 fun b hb => h b (List.mem_cons_of_mem _ (List.mem_flatten.mpr ⟨T, hT, hb⟩))⟩⟩
theorem F3.fzL {M : Mm} {n : Nat} {P : D → D → List Addr → Prop} (h : ∀ x y T, P x y T → fz n M x = y ∧ rf n M x = T) : ∀ {xs ys : List D} {Ts : List (List Addr)}, F3 P xs ys Ts → xs.map (fz n M) = ys ∧ xs.flatMap (rf n M) = Ts.flatten
  | _, _, _, .nil => ⟨rfl, rfl⟩
  | _, _, _, .cons p q => by
    obtain ⟨h1, h2⟩ := h _ _ _ p
    obtain ⟨g1, g2⟩ := F3.fzL h q
    exact ⟨by rw [List.map_cons, h1, g1], by rw [List.flatMap_cons, h2, g2]; rfl⟩
theorem F3.fzK {M : Mm} {n : Nat} {P : D → D → List Addr → Prop} (h : ∀ x y T, P x y T → fz n M x = y ∧ rf n M x = T) : ∀ {xs ys : List (D × D)} {Ts : List (List Addr)}, F3 (fun (p q : D × D) T => p.1 = q.1 ∧ P p.2 q.2 T) xs ys Ts → (xs.map fun p => (p.1, fz n M p.2)) = ys ∧ (xs.flatMap fun p => rf n M p.2) = Ts.flatten
  | _, _, _, .nil => ⟨rfl, rfl⟩
  | _, _, _, .cons p q => by
    obtain ⟨h1, h2⟩ := h _ _ _ p.2
    obtain ⟨g1, g2⟩ := F3.fzK h q
    exact ⟨by rw [List.map_cons, h1, g1, p.1], by rw [List.flatMap_cons, h2, g2]; rfl⟩
theorem DM.fz {M : Mm} : ∀ (s : Sh) {r d : D} {S : List Addr}, DM M s r d S → fz s.dep M r = d ∧ rf s.dep M r = S
  | .leaf, _, _, _, ⟨rfl, rfl⟩ => ⟨rfl, rfl⟩
  | .lst s, _, _, _, ⟨a, rs, ds, Ts, rfl, rfl, rfl, e, f⟩ => by
    obtain ⟨h1, h2⟩ := f.fzL (M := M) (n := s.dep) fun x y T p => DM.fz s p
    refine ⟨?_, ?_⟩
    · show L3.fz (s.dep + 1) M (.ref a) = _
      unfold L3.fz
      rw [e]
      show D.lst (rs.map (L3.fz s.dep M)) = _
      rw [h1]
    · show rf (s.dep + 1) M (.ref a) = _
      unfold rf
      rw [e]
      show a :: rs.flatMap (rf s.dep M) = _
      rw [h2]
  | .dct s, _, _, _, ⟨a, rs, ds, Ts, rfl, rfl, rfl, e, f⟩ => by
    obtain ⟨h1, h2⟩ := f.fzK (M := M) (n := s.dep) fun x y T p => DM.fz s p
    refine ⟨?_, ?_⟩
    · show L3.fz (s.dep + 1) M (.ref a) = _
      unfold L3.fz
      rw [e]
      show D.dct false (rs.map fun p => (p.1, L3.fz s.dep M p.2)) = _
      rw [h1]
    · show rf (s.dep + 1) M (.ref a) = _
      unfold rf
      rw [e]
      show a :: (rs.flatMap fun p => rf s.dep M p.2) = _
      rw [h2]
/-- whose the places are -/
structure Own (M M' : Mm) (S : List Addr) : Prop where
  nd : S.Nodup
  fr : ∀ a ∈ S, M a = none
  th : ∀ a ∈ S, M' a ≠ none
  off : ∀ y, y ∉ S → M' y = M y
theorem Own.sub {M M' : Mm} {S : List Addr} (o : Own M M' S) : Sub M M' := fun y k h => by
  rw [o.off y fun hm => by rw [o.fr y hm] at h; cases h]
  exact h
theorem Own.refl {M : Mm} : Own M M [] := ⟨List.nodup_nil, (fun _ h => nomatch h), (fun _ h => nomatch h), fun _ _ => rfl⟩
theorem Own.perm {M M' : Mm} {S T : List Addr} (o : Own M M' S) (p : S.Perm T) : Own M M' T := ⟨p.nodup_iff.mp o.nd, fun a h => o.fr a (p.mem_iff.mpr h), fun a h => o.th a (p.mem_iff.mpr h), fun y h => o.off y fun q => h (p.mem_iff.mp q)⟩
theorem Own.trans {M M1 M2 : Mm} {S T : List Addr} (o : Own M M1 S) (q : Own M1 M2 T) : Own M M2 (S ++ T) := by
  have dj : ∀ a ∈ S, a ∉ T := fun a h1 h2 => o.th a h1 (q.fr a h2)
  refine ⟨List.nodup_append.mpr ⟨o.nd, q.nd, fun a h1 b h2 e => dj a h1 (e ▸ h2)⟩, fun a h => ?_, fun a h => ?_, fun y h => ?_⟩
  · rcases List.mem_append.mp h with h | h
    · exact o.fr a h
    · have h1 := q.fr a h
      cases e : M a with
      | none => rfl
      | some x => rw [o.sub a x e] at h1; cases h1
  · rcases List.mem_append.mp h with h | h
    · rw [q.off a (dj a h)]; exact o.th a h
    · exact q.th a h
  · simp only [List.mem_append, not_or] at h
    rw [q.off y h.2, o.off y h.1]
theorem Own.new {M : Mm} {a : Addr} {x : Cell} (h : M a = none) : Own M (up M a x) [a] := by
  refine ⟨by simp, fun b hb => ?_, fun b hb => ?_, fun y hy => ?_⟩
  · simp at hb; subst hb; exact h
  · simp at hb; subst hb; rw [up_same]; exact fun z => nomatch z
  · simp at hy; exact up_ne hy
theorem Own.set {M M' : Mm} {S : List Addr} {a : Addr} {x : Cell} (o : Own M M' S) (h : a ∈ S) : Own M (up M' a x) S := by
  refine ⟨o.nd, o.fr, fun b hb => ?_, fun y hy => ?_⟩
  · by_cases e : b = a
    · subst e; rw [up_same]; exact fun z => nomatch z
    · rw [up_ne e]; exact o.th b hb
  · have e : y ≠ a := fun e => hy (by rw [e]; exact h)
    rw [up_ne e]
    exact o.off y hy
/-- what is kept, all else let go -/
def kp (M M' : Mm) (S : List Addr) : Mm := fun y => if y ∈ S then M' y else M y
theorem kp_in {M M' : Mm} {S : List Addr} {a : Addr} (h : a ∈ S) : kp M M' S a = M' a := if_pos h
theorem Own.kp {M M' : Mm} {S T : List Addr} (o : Own M M' S) (nd : T.Nodup) (h : ∀ a ∈ T, a ∈ S) : Sub (kp M M' T) M' ∧ Own M (kp M M' T) T := by
  refine ⟨fun y c e => ?_, nd, fun a ha => o.fr a (h a ha), fun a ha => by rw [kp_in ha]; exact o.th a (h a ha), fun y hy => if_neg hy⟩
  by_cases hy : y ∈ T
  · rw [kp_in hy] at e; exact e
  · have : L3.kp M M' T y = M y := if_neg hy
    rw [this] at e
    exact o.sub y c e
theorem DM.kp {M M' : Mm} {s : Sh} {r d : D} {S : List Addr} (h : DM M' s r d S) : DM (kp M M' S) s r d S := h.frame s fun _ ha => kp_in ha
/-- one more in a list -/
theorem DM.push {M : Mm} {s : Sh} {w : Addr} {r d : D} {ds : List D} {S T : List Addr} (h : DM M (.lst s) (.ref w) (.lst ds) S) (hr : DM M s r d T) (nd : (S ++ T).Nodup) :
    ∃ rs, M w = some (.lst rs) ∧ rs.length = ds.length ∧ w ∈ S ∧ DM (up M w (.lst (rs ++ [r]))) (.lst s) (.ref w) (.lst (ds ++ [d])) (S ++ T) := by
  obtain ⟨a, rs, ds', Ts, e1, e2, rfl, e, f⟩ := h
  cases e1; cases e2
  rw [List.nodup_append] at nd
  obtain ⟨n1, n2, n3⟩ := nd
  have wT : w ∉ T := fun q => n3 w List.mem_cons_self w q rfl
  have wF : w ∉ Ts.flatten := (List.nodup_cons.mp n1).1
  refine ⟨rs, e, f.len, List.mem_cons_self, w, rs ++ [r], ds ++ [d], Ts ++ [T], rfl, rfl, by simp, up_same, F3.snoc (f.imp' fun x y U hU p => p.frame s fun b hb => up_ne fun q => wF (by rw [← q]; exact List.mem_flatten.mpr ⟨U, hU, hb⟩)) (hr.frame s fun b hb => up_ne fun q => wT (q ▸ hb))⟩
theorem DM.emp {M : Mm} {s : Sh} {w : Addr} (h : M w = some (.lst [])) : DM M (.lst s) (.ref w) (.lst []) [w] := ⟨w, [], [], [], rfl, rfl, rfl, h, .nil⟩
end L3
set_option maxRecDepth 100000
set_option maxHeartbeats 4000000
namespace L3
open PySem L2
/-! ### what the head must tell of exception classes -/
def vtail : List Value := [.type "ValueError", .type "Exception", .type "BaseException", .type "object"]
structure XCls (K : PySem.W.Frag) (C : Addr) : Prop where
  i : PySem.W.isClsIn K C = true
  t : PySem.W.typeIn K (.ref C) = some (.type "type")
  e : ExcC K C
  bt : ∀ b ∈ btt, PySem.W.subIn K (.ref C) (.type b) = some (decide (b = "ValueError"))
theorem bt_all {K : PySem.W.Frag} {C : Addr} (h1 : PySem.W.subIn K (.ref C) (.type "bool") = some false) (h2 : PySem.W.subIn K (.ref C) (.type "int") = some false) (h3 : PySem.W.subIn K (.ref C) (.type "str") = some false) (h4 : PySem.W.subIn K (.ref C) (.type "list") = some false)
    (h5 : PySem.W.subIn K (.ref C) (.type "tuple") = some false) (h6 : PySem.W.subIn K (.ref C) (.type "dict") = some false) (h7 : PySem.W.subIn K (.ref C) (.type "ValueError") = some true) : ∀ b ∈ btt, PySem.W.subIn K (.ref C) (.type b) = some (decide (b = "ValueError")) := fun b hb => by
  simp only [btt, List.mem_cons, List.not_mem_nil, or_false] at hb
  rcases hb with rfl | rfl | rfl | rfl | rfl | rfl | rfl
  · exact h1
  · exact h2
  · exact h3
  · exact h4
  · exact h5
  · exact h6
  · exact h7
theorem meta_ok : ∀ b ∈ btt, PySem.W.kitMeta b = true := by decide +kernel
def tyAll : List Value → Bool
  | [] => true
  | .type _ :: r => tyAll r
  | _ :: _ => false
theorem mro_ok : ∀ b ∈ btn, ∃ l, fastBuiltinMro b = some l ∧ tyAll l = true := by
  have h : ∀ b ∈ btn, ((fastBuiltinMro b).any tyAll) = true := by decide +kernel
  intro b hb
  have := h b hb
  cases e : fastBuiltinMro b with
  | none => rw [e] at this; cases this
  | some l => rw [e] at this; exact ⟨l, rfl, this⟩
theorem tyAll_no {C : Addr} : ∀ {l : List Value}, tyAll l = true → l.contains (.ref C) = false
  | [], _ => rfl
  | v :: r, h => by
    cases v with
    | type n =>
      have ih := tyAll_no (C := C) (l := r) h
      rw [List.contains_cons, ih, Bool.or_false]
      rfl
    | _ => cases h
theorem kit_cls_of {K : PySem.W.Frag} {t : Value} {C : Addr} {b : Bool} (i : PySem.W.isClsIn K C = true) (ty : PySem.W.typeIn K (.ref C) = some (.type "type")) (s : PySem.W.subIn K t (.ref C) = some b) : PySem.W.kitCls K t (.ref C) = some b := by
  show (if ((PySem.W.clsIn K C).isSome && PySem.W.typeIn K (.ref C) == some (.type "type")) = true then PySem.W.subIn K t (.ref C) else none) = _
  have i' : (PySem.W.clsIn K C).isSome = true := i
  rw [i', ty]
  exact s
theorem kit_own {K : PySem.W.Frag} {D C : Addr} {b : Bool} (i : PySem.W.isClsIn K C = true) (ty : PySem.W.typeIn K (.ref C) = some (.type "type")) (s : PySem.W.subIn K (.ref D) (.ref C) = some b) (hs : D = C → b = true) : PySem.W.kitOne K (.ref D) (.ref C) = some b := by
  unfold PySem.W.kitOne
  by_cases e : D = C
  · subst e
    rw [if_pos (by simp), hs rfl]
  · rw [if_neg (by simpa using e)]
    exact kit_cls_of i ty s
/-- a law's cfg -/
def mkC (K : PySem.W.Frag) (xs ys : List (Nm × Addr)) (fl : List (Nm × List Nm)) : Cfg := { K := K, cls := lk xs, icls := lk ys, fl := fun n => (lk fl n).getD [] }
theorem lkm {α : Type} : ∀ {l : List (Nm × α)} {n : Nm} {d : α}, lk l n = some d → (n, d) ∈ l
  | [], _, _, h => by cases h
  | (a, b) :: r, n, d, h => by
    by_cases e : a = n
    · subst e
      have h : some b = some d := by rw [← h]; simp [lk]
      cases h
      exact List.mem_cons_self
    · have h : lk r n = some d := by rw [← h]; simp [lk, e]
      exact List.mem_cons_of_mem _ (lkm h)
/-! ### classes that isinstance is asked of -/
structure ICls (K : PySem.W.Frag) (C : Addr) : Prop where
  i : PySem.W.isClsIn K C = true
  t : PySem.W.typeIn K (.ref C) = some (.type "type")
  bt : ∀ b ∈ btt, PySem.W.subIn K (.ref C) (.type b) = some false
theorem isI_of {K : PySem.W.Frag} {C : Addr} (i : PySem.W.isClsIn K C = true) (t : PySem.W.typeIn K (.ref C) = some (.type "type")) : ∀ b ∈ btn, PySem.W.kitOne K (.type b) (.ref C) = some false := fun b hb => by
  obtain ⟨l, e1, e2⟩ := mro_ok b hb
  show (if (Value.type b == Value.ref C) = true then some true else PySem.W.kitCls K (.type b) (.ref C)) = _
  have ne : (Value.type b == Value.ref C) = false := rfl
  rw [ne]
  refine kit_cls_of i t ?_
  show (fastBuiltinMro b).map (·.contains (.ref C)) = _
  rw [e1]
  show some (l.contains (.ref C)) = _
  rw [tyAll_no e2]
theorem kit_bt {K : PySem.W.Frag} {C : Addr} {b : String} {r : Bool} (hb : b ∈ btt) (h : PySem.W.subIn K (.ref C) (.type b) = some r) : PySem.W.kitOne K (.ref C) (.type b) = some r := by
  show (if (Value.ref C == Value.type b) = true then some true else if PySem.W.kitMeta b = true then PySem.W.subIn K (.ref C) (.type b) else none) = _
  have ne : (Value.ref C == Value.type b) = false := rfl
  rw [ne, meta_ok b hb]
  exact h
/-- the module's facts, with classes of instances that isinstance is asked of -/
theorem wok_of2 {K : PySem.W.Frag} {mg : PySem.Str → Option Value} {T : Tab} {xs ys : List (Nm × Addr)}
    (bi : ∀ n ∈ bnames, mg n = none) (gl : ∀ n d, lk T.gl n = some d → ∃ u v, mg n.s = some u ∧ RelV v u ∧ ∀ Z H M, Rep ((mkC K xs ys T.fl).z Z) H M v d)
    (hx : ∀ p ∈ xs, mg p.1.s = some (.ref p.2) ∧ (XCls K p.2 ∧ (lk T.sub p.1).isSome = true ∨ ICls K p.2 ∧ lk T.sub p.1 = none))
    (hxx : ∀ p ∈ xs, ∀ l, (lk T.sub p.1 = some l ∨ lk T.isn p.1 = some l) → ∀ q ∈ xs, PySem.W.subIn K (.ref p.2) (.ref q.2) = some (decide (q.1 ∈ l)) ∧ (p.2 = q.2 → q.1 ∈ l))
    (hi : ∀ p ∈ xs, (lk T.isn p.1).isSome = true → C8.InsC K p.2)
    (hs : ∀ n l, lk T.sub n = some l → (lk xs n).isSome = true) (ho : ∀ n ∈ T.own, (lk xs n).isSome = true)
    (hy : ∀ p ∈ ys, Cls K p.2 ∧ (((lk T.fl p.1).getD []).map Nm.s).Nodup ∧ ∀ f ∈ (lk T.fl p.1).getD [], NoAttr K p.2 f.s)
    (hyi : ∀ n C, lk ys n = some C → (lk T.isn n).isSome = true → lk xs n = some C)
    (hc : ∀ n fs, lk T.xc n = some fs → fs = [] ∧ ∃ C, lk xs n = some C ∧ XCls K C ∧ PySem.W.excIn K C vtail "ValueError.__new__" = true ∧ PySem.W.keepIn K (.ref C) = true) : Wok K mg (mkC K xs ys T.fl) T where
  eK := rfl
  hot := rfl
  cur := rfl
  bi := bi
  gl := gl
  cls := fun n C h => (hy _ (lkm h)).1
  fl := fun n C h => (hy _ (lkm h)).2
  flT := fun n l h => by show (lk T.fl n).getD [] = l; rw [h]; rfl
  sub := hs
  own := ho
  icl := hyi
  clsG := fun n C h => (hx _ (lkm h)).1
  isO := fun n l h C hC => ⟨hi _ (lkm hC) (by show (lk T.isn n).isSome = true; rw [h]; rfl), fun m C' h' => by
    obtain ⟨s1, s2⟩ := hxx _ (lkm hC) l (.inr h) _ (lkm h')
    rcases (hx _ (lkm h')).2 with ⟨x, _⟩ | ⟨x, _⟩
    · exact kit_own x.i x.t s1 fun e => decide_eq_true (s2 e)
    · exact kit_own x.i x.t s1 fun e => decide_eq_true (s2 e)⟩
  isI := fun m C h => by
    rcases (hx _ (lkm h)).2 with ⟨x, s⟩ | ⟨x, s⟩
    · refine ⟨isI_of x.i x.t, fun b hb => ?_⟩
      rw [kit_bt hb (x.bt b hb)]
      simp [xcB, s]
    · refine ⟨isI_of x.i x.t, fun b hb => ?_⟩
      rw [kit_bt hb (x.bt b hb)]
      simp [xcB, s]
  isX := fun n l hl C h => by
    have e : XCls K C := by
      rcases (hx _ (lkm h)).2 with ⟨x, _⟩ | ⟨_, s⟩
      · exact x
      · exact absurd (s.symm.trans hl) (by simp)
    refine ⟨e.e, fun m C' h' => ?_⟩
    obtain ⟨s1, s2⟩ := hxx _ (lkm h) l (.inl hl) _ (lkm h')
    rcases (hx _ (lkm h')).2 with ⟨x, _⟩ | ⟨x, _⟩
    · exact kit_own x.i x.t s1 fun e => decide_eq_true (s2 e)
    · exact kit_own x.i x.t s1 fun e => decide_eq_true (s2 e)
  exm := fun n l hl C h m C' h' hm => by
    obtain ⟨s1, s2⟩ := hxx _ (lkm h) l (.inl hl) _ (lkm h')
    rcases (hx _ (lkm h')).2 with ⟨x, _⟩ | ⟨_, s⟩
    · unfold PySem.W.exmOne
      rw [x.e.hs]
      exact kit_cls_of x.i x.t s1
    · exact absurd hm (by show ¬ (lk T.sub m).isSome = true; rw [show lk T.sub m = none from s]; simp)
  xc := fun n fs h => by
    obtain ⟨h0, C, h1, x, h2, h3⟩ := hc n fs h
    exact ⟨h0, C, _, _, vtail, _, h1, PySem.F.excBase_ValueError, h2, h3, x.e.hs, x.t⟩
/-- the law's own promise, as the end wants it -/
def spEnd (K : PySem.W.Frag) : Sp := fun vs H Q _ => ∃ (a : Addr) (ns : List Int), vs = [.ref a] ∧ SqL K H a (ns.map V.int) ∧ ns.length ≤ 63 ∧ ∀ H', Q (.bl true) H'
theorem cx_never {P : Program} {w : World} (H : Hp) (s : Shared) (e : Value) (s' : Shared) (h : L2.CX P w [] H s (fun _ _ _ => False) e s') : False := by
  obtain ⟨_, _, _, _, _, _, _, _, _, _, _, _, z⟩ := h
  exact z
theorem FnG.of {P : Program} {w : World} {K : PySem.W.Frag} {mg : PySem.Str → Option Value} {base : Heap} {c : Cfg} {j k : Nat} {n : Nm} {sp : SpD} {x qual : PySem.Str} {st : Stmt} {f : Addr} {fd : FuncData} {ps : List PySem.Str} (h : FnOk P w K mg base (L2.CX P w) j f fd ps (toSp c sp)) (F : Fun K x qual st f fd) (hm : mg n.s = some (.ref f)) (hb : Binds K fd ps []) (hk : j ≤ k) : FnG P w K mg base c k n sp :=
  ⟨f, fd, ps, h.mono hk, hm, F.kp, hb⟩
/-- another table of defs -/
theorem Wok.tab {K : PySem.W.Frag} {mg : PySem.Str → Option Value} {c : Cfg} {T : Tab} (h : Wok K mg c T) (fn : List (Nm × SpD)) (mt : List (Nm × Nm × SpD)) (cl : List (Nm × SpD)) : Wok K mg c { T with fn := fn, mt := mt, cl := cl } :=
  ⟨h.eK, h.hot, h.cur, h.bi, h.gl, h.cls, h.fl, h.flT, h.sub, h.own, h.icl, h.clsG, h.isO, h.isI, h.isX, h.exm, h.xc⟩
theorem lkm2 {α : Type} : ∀ {l : List (Nm × Nm × α)} {n m : Nm} {d : α}, lk2 l n m = some d → (n, m, d) ∈ l
  | [], _, _, _, h => by cases h
  | (a, a', b) :: r, n, m, d, h => by
    by_cases e : a = n ∧ a' = m
    · obtain ⟨rfl, rfl⟩ := e
      have h : some b = some d := by rw [← h]; simp [lk2]
      cases h
      exact List.mem_cons_self
    · have h : lk2 r n m = some d := by rw [← h]; simp [lk2, e]
      exact List.mem_cons_of_mem _ (lkm2 h)
theorem tok_of {P : Program} {w : World} {K : PySem.W.Frag} {mg : PySem.Str → Option Value} {base : Heap} {c : Cfg} {T : Tab} {k : Nat} (hf : ∀ p ∈ T.fn, FnG P w K mg base c (k + 1) p.1 p.2) (hm : ∀ p ∈ T.mt, MtG P w K mg base c (k + 1) p.1 p.2.1 p.2.2) (hc : ∀ p ∈ T.cl, MkG P w K mg base c k p.1 p.2) : Tok P w K mg base c T (k + 1) :=
  ⟨fun n sp e => hf _ (lkm e), fun n m sp e => hm _ (lkm2 e), fun n sp e => ⟨hc _ (lkm e), Nat.succ_pos _⟩⟩
end L3
set_option maxRecDepth 100000
set_option maxHeartbeats 4000000
namespace L3.K01
open PySem L2
def N_is_whole : List PySem.Str := ["thing"]
def b_is_whole : List SS := [
  .ret (.bop true [(.isi (.var 0) false [.bt "int"]), (.not (.isi (.var 0) false [.bt "bool"]))])]
def P_is_whole : List PySem.Str := ["thing"]
theorem k_is_whole : okSs false none b_is_whole = true := by decide +kernel
def N_are_hands : List PySem.Str := ["thing", "at", "hand"]
def b_are_hands : List SS := [
  .ifs (.bop false [(.not (.isi (.var 0) false [.bt "list"])), (.not (.chain .LtE .LtE (.int 1) (.bi false .len [(.var 0)]) (.gl .«MOST_HANDS»)))]) [.ret (.bl false)] [],
  .ifs (.not (.bi false .all [(.comp false (.nm 2) .seq [(.var 0)] (.bl true) (.bop true [(.call false .«is_whole» [(.var 2)]), (.chain .LtE .LtE (.int 0) (.var 2) (.gl .«MOST_NUMBER»))]))])) [.ret (.bl false)] [],
  .ret (.bi false .all [(.comp false (.nm 1) .rng1 [(.bin .Sub (.bi false .len [(.var 0)]) (.int 1))] (.bl true) (.cmp .Lt (.ix (.var 0) (.var 1)) (.ix (.var 0) (.bin .Add (.var 1) (.int 1)))))])]
def P_are_hands : List PySem.Str := ["thing"]
theorem k_are_hands : okSs false none b_are_hands = true := by decide +kernel
def N_is_line : List PySem.Str := ["hands", "thing"]
def b_is_line : List SS := [
  .ifs (.bop false [(.not (.isi (.var 1) false [.bt "tuple"])), (.cmp .NotEq (.bi false .len [(.var 1)]) (.int 2)), (.not (.call false .«is_whole» [(.ix (.var 1) (.int 0))])), (.not (.call false .«is_whole» [(.ix (.var 1) (.int 1))]))]) [.ret (.bl false)] [],
  .ret (.bop true [(.cmp .In (.ix (.var 1) (.int 0)) (.var 0)), (.cmp .In (.ix (.var 1) (.int 1)) (.var 0)), (.cmp .Lt (.ix (.var 1) (.int 0)) (.ix (.var 1) (.int 1)))])]
def P_is_line : List PySem.Str := ["hands", "thing"]
theorem k_is_line : okSs false none b_is_line = true := by decide +kernel
def N_are_lines : List PySem.Str := ["hands", "thing", "at", "line"]
def b_are_lines : List SS := [
  .ifs (.bop false [(.not (.isi (.var 1) false [.bt "list"])), (.not (.bi false .all [(.comp false (.nm 3) .seq [(.var 1)] (.bl true) (.call false .«is_line» [(.var 0), (.var 3)]))]))]) [.ret (.bl false)] [],
  .ret (.bi false .all [(.comp false (.tp [2, 3]) .enum [(.var 1)] (.bl true) (.cmp .NotIn (.var 3) (.sl (.var 1) .non (.var 2))))])]
def P_are_lines : List PySem.Str := ["hands", "thing"]
theorem k_are_lines : okSs false none b_are_lines = true := by decide +kernel
def N_Web___init__ : List PySem.Str := ["self", "hands", "lines", "hand", "one", "other"]
def b_Web___init__ : List SS := [
  .ifs (.bop false [(.not (.call false .«are_hands» [(.var 1)])), (.not (.call false .«are_lines» [(.var 1), (.var 2)]))]) [.raise .«NoWeb» [(.str "no web")]] [],
  .asgF (.var 0) .«own_hands» (.bi false .list [(.var 1)]),
  .asgF (.var 0) .«own_lines» (.bi false .sorted [(.var 2)]),
  .asgF (.var 0) .«sides» (.dnew true false),
  .fors (.nm 3) .seq [(.var 1)] [.asgI (.fld (.var 0) .«sides») (.var 3) (.lst true [])],
  .fors (.tp [4, 5]) .seq [(.fld (.var 0) .«own_lines»)] [.exp (.bm false (.ix (.fld (.var 0) .«sides») (.var 4)) .append [(.var 5)]), .exp (.bm false (.ix (.fld (.var 0) .«sides») (.var 5)) .append [(.var 4)])]]
def P_Web___init__ : List PySem.Str := ["self", "hands", "lines"]
theorem k_Web___init__ : okSs false none b_Web___init__ = true := by decide +kernel
def N_Web_hands : List PySem.Str := ["self"]
def b_Web_hands : List SS := [
  .ret (.bi true .list [(.fld (.var 0) .«own_hands»)])]
def P_Web_hands : List PySem.Str := ["self"]
theorem k_Web_hands : okSs false none b_Web_hands = true := by decide +kernel
def N_Web_lines : List PySem.Str := ["self"]
def b_Web_lines : List SS := [
  .ret (.bi true .list [(.fld (.var 0) .«own_lines»)])]
def P_Web_lines : List PySem.Str := ["self"]
theorem k_Web_lines : okSs false none b_Web_lines = true := by decide +kernel
def N_Web_has_hand : List PySem.Str := ["self", "hand"]
def b_Web_has_hand : List SS := [
  .ret (.bop true [(.call false .«is_whole» [(.var 1)]), (.cmp .In (.var 1) (.fld (.var 0) .«sides»))])]
def P_Web_has_hand : List PySem.Str := ["self", "hand"]
theorem k_Web_has_hand : okSs false none b_Web_has_hand = true := by decide +kernel
def N_Web_neighbours : List PySem.Str := ["self", "hand"]
def b_Web_neighbours : List SS := [
  .ifs (.not (.meth false (.var 0) .«has_hand» [(.var 1)])) [.raise .«NoHand» [(.str "no hand of the web")]] [],
  .ret (.bi true .sorted [(.ix (.fld (.var 0) .«sides») (.var 1))])]
def P_Web_neighbours : List PySem.Str := ["self", "hand"]
theorem k_Web_neighbours : okSs false none b_Web_neighbours = true := by decide +kernel
def N__law_cell_at : List PySem.Str := ["_law_script", "_law_k"]
def b__law_cell_at : List SS := [
  .ifs (.cmp .Lt (.var 1) (.bi false .len [(.var 0)])) [.ret (.ix (.var 0) (.var 1))] [],
  .ret (.int 0)]
def P__law_cell_at : List PySem.Str := ["_law_script", "_law_k"]
theorem k__law_cell_at : okSs false none b__law_cell_at = true := by decide +kernel
def b__law_web : List SS := [
  .asg 1 (.lst true []),
  .asg 2 (.int 0),
  .fors (.nm 3) .rng1 [(.bin .Add (.int 1) (.call false .«_law_digit» [(.var 0), (.int 12)]))] [.asg 8 (.ix (.lst false [(.int 1), (.int 1), (.int 2), (.int 8)]) (.call false .«_law_digit» [(.var 0), (.int 4)])), .asg 2 (.bi false .min [(.bin .Add (.var 2) (.var 8)), (.bin .Add (.int 88) (.var 3))]), .exp (.bm false (.var 1) .append [(.var 2)])],
  .ifs (.cmp .Eq (.call false .«_law_digit» [(.var 0), (.int 3)]) (.int 0)) [.asg 1 (.comp true (.nm 10) .seq [(.var 1)] (.bl true) (.bin .Sub (.var 10) (.ix (.var 1) (.int 0))))] [],
  .asg 4 (.lst true []),
  .asg 5 (.bin .Add (.int 1) (.call false .«_law_digit» [(.var 0), (.int 6)])),
  .fors (.nm 6) .seq [(.var 1)] [.fors (.nm 9) .seq [(.var 1)] [.ifs (.bop true [(.cmp .Lt (.var 6) (.var 9)), (.cmp .Eq (.call false .«_law_digit» [(.var 0), (.var 5)]) (.int 0))]) [.exp (.bm false (.var 4) .append [(.tup [(.var 6), (.var 9)])])] []]],
  .asg 7 (.call false .«_law_digit» [(.var 0), (.bin .Add (.bi false .len [(.var 4)]) (.int 1))]),
  .ret (.tup [(.var 1), (.bin .Add (.sl (.var 4) (.var 7) .non) (.sl (.var 4) .non (.var 7)))])]
end L3.K01
set_option maxRecDepth 100000
set_option maxHeartbeats 4000000
local macro_rules
  | `(tactic| walk_at "side") => `(tactic| first
      | assumption
      | omega
      | exact L3.cpow_ok _ (by decide)
      | exact L3.cmulL (by omega) (by omega)
      | exact L3.cmulR (by omega) (by omega)
      | exact L3.cmulR (by split <;> omega) (by split <;> omega)
      | exact L3.cdiv_lt (by omega) (by omega)
      | exact Nat.le_trans (show _ ≤ 1000 by simp) (by decide)
      | exact Nat.le_trans (by assumption) (by decide))
  | `(tactic| walk_at "go") => `(tactic| (repeat (refine L3.cnd_intro (by walk_at "side") ?_; try simp [L2.ixN])))
namespace L3.K01
open PySem L2
/-! ### contracts -/
def stOk (st : List Int) : Prop := (∃ x, st = [x]) ∨ ∃ x s n, st = [x, s, n]
def spDigit : SpD := fun ds M Q E => ∃ a st base, ds = [.ref a, .int base] ∧ 0 < base ∧ base < 2 ^ 110 ∧ M a = some (.lst (st.map .int)) ∧ stOk st ∧ ∀ r st', 0 ≤ r → r < base → stOk st' → Q (.int r) (up M a (.lst (st'.map .int)))
variable {c : Cfg}
/-- the place of a script -/
def spCell : SpD := fun ds M Q E => ∃ (t : Bool) (ns : List Int) (k : Nat), ds = [.ro t (ns.map .int), .int k] ∧ ∀ x, Q (.int x) M
theorem w_cell {T : Tab} : ∀ ds M Q E, spCell ds M Q E → wSs T b__law_cell_at (fnK c Q E) (env0 N__law_cell_at.length ds) M := by
  rintro _ M Q E ⟨t, ns, k, rfl, hQ⟩
  simp [b__law_cell_at, N__law_cell_at, env0, varE]
  refine br_dec (fun h => ?_) (fun h => ?_)
  · have h' : k < ns.length := by simpa using h
    have := atI_of h'
    simp at this
    rw [this]
    exact rt_self (hQ _)
  · exact rt_self (hQ _)
/-! ### whole numbers, hands, lines -/
def wholeB : D → Bool
  | .int _ => true
  | _ => false
def spWhole : SpD := fun ds M Q E => ∃ d, ds = [d] ∧ plainB d = true ∧ Q (.bl (wholeB d)) M
theorem w_whole {T : Tab} : ∀ ds M Q E, spWhole ds M Q E → wSs T b_is_whole (fnK c Q E) (env0 N_is_whole.length ds) M := by
  rintro _ M Q E ⟨d, rfl, ht, hQ⟩
  cases d <;> simp [b_is_whole, N_is_whole, env0, varE] <;> first | exact rt_self hQ | cases ht
def HandsOk (hs : List Int) : Prop := 0 < hs.length ∧ hs.length ≤ 12 ∧ hs.Pairwise (· < ·) ∧ ∀ h ∈ hs, 0 ≤ h ∧ h ≤ 99
class TH (T : Tab) : Prop where
  h1 : lk T.gl .MOST_HANDS = some (.int 12)
  h2 : lk T.gl .MOST_NUMBER = some (.int 99)
  h3 : lk T.fn .is_whole = some spWhole
@[simp] theorem th1 {T : Tab} [h : TH T] : lk T.gl .MOST_HANDS = some (.int 12) := h.h1
@[simp] theorem th2 {T : Tab} [h : TH T] : lk T.gl .MOST_NUMBER = some (.int 99) := h.h2
@[simp] theorem th3 {T : Tab} [h : TH T] : lk T.fn .is_whole = some spWhole := h.h3
class TF (T : Tab) : Prop where
  h3 : lk T.fn .is_whole = some spWhole
@[simp] theorem tf3 {T : Tab} [h : TF T] : lk T.fn .is_whole = some spWhole := h.h3
def spHandsOk : SpD := fun ds M Q E => ∃ (d : D) (hs : List Int), ds = [d] ∧ Arg M d (hs.map .int) ∧ HandsOk hs ∧ Q (.bl true) M
theorem w_hands {T : Tab} [hT : TH T] : ∀ ds M Q E, spHandsOk ds M Q E → wSs T b_are_hands (fnK c Q E) (env0 N_are_hands.length ds) M := by
  rintro _ M Q E ⟨d, hs, rfl, hA, ⟨h1, h2, h3, h4⟩, hQ⟩
  have hM := hA.f
  have l1 : (1 : Int) ≤ hs.length := by omega
  have l2 : (hs.length : Int) ≤ 12 := by omega
  have a1 : isA T M d [.bt "list"] = some true := by rw [hM.isa]; rfl
  have sz : (hs.map D.int).length ≤ sizeLine := small (by simp; omega)
  have sz2 : (rngL 0 (hs.length - 1)).length ≤ sizeLine := small (by simp [rngL]; omega)
  have it : itD .rng1 [.int ((hs.length : Int) - 1)] M = some (rngL 0 (hs.length - 1)) := by rw [itD_rng1 (by omega) (by omega)]; congr 2; omega
  simp [b_are_hands, N_are_hands, env0, varE, hM.seq, hM.len, a1, l1, l2]
  refine compQ_map (fun _ => .bl true) sz (?_) (fun x hx => ?_) ?_
  · exact hM.seq
  · obtain ⟨h, hh, rfl⟩ := List.mem_map.mp hx
    obtain ⟨g1, g2⟩ := h4 h hh
    refine ⟨_, rfl, fun P hP => hP, fun P hP => ?_⟩
    simp
    exact ⟨_, rfl, rfl, by simp [wholeB, g1, g2]; exact hP⟩
  · simp [boolsD_all, hM.len, it]
    refine compQ_map (fun _ => .bl true) sz2 ?_ (fun x hx => ?_) ?_
    · exact it
    · obtain ⟨i, hi, rfl⟩ := mem_rng hx
      have i1 : i < hs.length := by omega
      have i2 : i + 1 < hs.length := by omega
      have e1 := atI_of i1
      have e2 := atI_of i2
      have e3 : hs[i] < hs[i + 1] := List.pairwise_iff_getElem.mp h3 i (i + 1) i1 i2 (by omega)
      refine ⟨_, rfl, fun P hP => hP, fun P hP => ?_⟩
      simp at e1 e2
      simp [hM.ix, e1, e2, e3]
      exact hP
    · simp [boolsD_all]
      exact rt_self hQ
def LinesOk (hs : List Int) (ls : List (Int × Int)) : Prop := ls.Nodup ∧ ls.length ≤ 200 ∧ ∀ p ∈ ls, p.1 ∈ hs ∧ p.2 ∈ hs ∧ p.1 < p.2
def spLineOk : SpD := fun ds M Q E => ∃ (d : D) (hs : List Int) (p : Int × Int), ds = [d, prD p] ∧ Arg M d (hs.map .int) ∧ p.1 ∈ hs ∧ p.2 ∈ hs ∧ p.1 < p.2 ∧ Q (.bl true) M
theorem w_line {T : Tab} [hT : TF T] : ∀ ds M Q E, spLineOk ds M Q E → wSs T b_is_line (fnK c Q E) (env0 N_is_line.length ds) M := by
  rintro _ M Q E ⟨d, hs, ⟨x, y⟩, rfl, hA, h1, h2, h3, hQ⟩
  have i1 := hA.f.ints x
  have i2 := hA.f.ints y
  simp at h1 h2 h3
  simp [b_is_line, N_is_line, env0, varE, prD]
  refine ⟨_, rfl, rfl, ?_⟩
  simp [wholeB]
  refine ⟨_, rfl, rfl, ?_⟩
  simp [wholeB, i1, i2, h1, h2, h3]
  exact rt_self hQ
class TL (T : Tab) : Prop where
  h3 : lk T.fn .is_line = some spLineOk
@[simp] theorem tl3 {T : Tab} [h : TL T] : lk T.fn .is_line = some spLineOk := h.h3
def spLinesOk : SpD := fun ds M Q E => ∃ (d e : D) (hs : List Int) (ls : List (Int × Int)), ds = [d, e] ∧ Arg M d (hs.map .int) ∧ Arg M e (ls.map prD) ∧ LinesOk hs ls ∧ Q (.bl true) M
theorem w_lines {T : Tab} [hT : TL T] : ∀ ds M Q E, spLinesOk ds M Q E → wSs T b_are_lines (fnK c Q E) (env0 N_are_lines.length ds) M := by
  rintro _ M Q E ⟨d, e, hs, ls, rfl, hA, hB, ⟨h1, h2, h3⟩, hQ⟩
  have hN := hB.f
  have a1 : isA T M e [.bt "list"] = some true := by rw [hN.isa]; rfl
  have sz : (ls.map prD).length ≤ sizeLine := small (by simp; omega)
  have sz2 : (enumFrom 0 (ls.map prD)).length ≤ sizeLine := small (by rw [enum_size]; simp; omega)
  have it : itD .enum [e] M = some (enumFrom 0 (ls.map prD)) := itD_enum hN.lst
  simp [b_are_lines, N_are_lines, env0, varE, hN.seq, a1]
  refine compQ_map (fun _ => .bl true) sz (?_) (fun x hx => ?_) ?_
  · exact hN.seq
  · obtain ⟨p, hp, rfl⟩ := List.mem_map.mp hx
    obtain ⟨g1, g2, g3⟩ := h3 p hp
    refine ⟨_, rfl, fun P hP => hP, fun P hP => ?_⟩
    simp
    exact ⟨_, hs, p, rfl, hA, g1, g2, g3, by simp; exact hP⟩
  · simp [boolsD_all]
    rw [it]
    refine compQ_map (fun _ => .bl true) sz2 ?_ (fun x hx => ?_) ?_
    · exact it
    · obtain ⟨i, d', e1, rfl⟩ := mem_enum hx
      rw [List.getElem?_map] at e1
      cases e2 : ls[i]? with
      | none => rw [e2] at e1; cases e1
      | some p =>
        rw [e2] at e1
        cases e1
        have hi := (List.getElem?_eq_some_iff.mp e2).1
        have hp := (List.getElem?_eq_some_iff.mp e2).2
        refine ⟨_, rfl, fun P hP => hP, fun P hP => ?_⟩
        have ct : cut (ls.map prD) none (some (i : Int)) = (ls.take i).map prD := by rw [cut_take (by omega) (by simp; omega)]; simp
        have no : p ∉ ls.take i := fun hm => by
          obtain ⟨j, hj, ej⟩ := List.getElem_of_mem hm
          simp at hj ej
          have := (List.nodup_iff_pairwise_ne.mp h1)
          exact absurd (ej.trans hp.symm) (List.pairwise_iff_getElem.mp this j i (by omega) hi (by omega))
        have iq : inQ (prD p) (.lst (List.take i (ls.map prD))) M = fun Q => Q false := by funext Q; rw [← List.map_take, in_prs]; simp [no]
        simp [hN.sl, ct, iq]
        exact hP
    · simp [boolsD_all]
      exact rt_self hQ
/-! ### a web -/
/-- the sides of a hand, as the lines come -/
def sideL : List (Int × Int) → Int → List Int
  | [], _ => []
  | (a, b) :: r, h => if a = h then b :: sideL r h else if b = h then a :: sideL r h else sideL r h
def srtL (ls : List (Int × Int)) : List (Int × Int) := ls.mergeSort leP
def webD (hs : List Int) (ls : List (Int × Int)) : D := .ins .Web [(.own_hands, .lst (hs.map .int)), (.own_lines, .lst ((srtL ls).map prD)), (.sides, .dct false (hs.map fun h => (.int h, .lst ((sideL (srtL ls) h).map .int))))]
/-- a line between two hands, in either order -/
def joinB (ls : List (Int × Int)) (a b : Int) : Bool := decide ((a, b) ∈ ls) || decide ((b, a) ∈ ls)
theorem mem_side {ls : List (Int × Int)} {h z : Int} (hl : ∀ p ∈ ls, p.1 < p.2) : z ∈ sideL ls h ↔ joinB ls h z = true := by
  induction ls with
  | nil => simp [sideL, joinB]
  | cons p r ih =>
    obtain ⟨a, b⟩ := p
    have hab : a < b := hl _ List.mem_cons_self
    have ih := ih fun p hp => hl p (List.mem_cons_of_mem _ hp)
    unfold sideL
    simp only [joinB, Bool.or_eq_true, decide_eq_true_eq] at ih ⊢
    by_cases h1 : a = h
    · subst h1
      simp only [if_true, List.mem_cons, ih, Prod.mk.injEq, true_and]
      constructor
      · rintro (e | e | e)
        · exact .inl (.inl e)
        · exact .inl (.inr e)
        · exact .inr (.inr e)
      · rintro ((e | e) | (⟨e1, e2⟩ | e))
        · exact .inl e
        · exact .inr (.inl e)
        · omega
        · exact .inr (.inr e)
    · by_cases h2 : b = h
      · subst h2
        simp only [if_neg h1, if_true, List.mem_cons, ih, Prod.mk.injEq, and_true]
        constructor
        · rintro (e | e | e)
          · exact .inr (.inl e)
          · exact .inl (.inr e)
          · exact .inr (.inr e)
        · rintro ((⟨e1, e2⟩ | e) | (e | e))
          · omega
          · exact .inr (.inl e)
          · exact .inl e
          · exact .inr (.inr e)
      · simp only [if_neg h1, if_neg h2, List.mem_cons, ih, Prod.mk.injEq]
        constructor
        · rintro (e | e)
          · exact .inl (.inr e)
          · exact .inr (.inr e)
        · rintro ((⟨e1, e2⟩ | e) | (⟨e1, e2⟩ | e))
          · exact absurd e1.symm h1
          · exact .inl e
          · exact absurd e2.symm h2
          · exact .inr e
theorem nd_side {ls : List (Int × Int)} {h : Int} (nd : ls.Nodup) (hl : ∀ p ∈ ls, p.1 < p.2) : (sideL ls h).Nodup := by
  induction ls with
  | nil => exact List.nodup_nil
  | cons p r ih =>
    obtain ⟨a, b⟩ := p
    have hab : a < b := hl _ List.mem_cons_self
    have hr : ∀ p ∈ r, p.1 < p.2 := fun p hp => hl p (List.mem_cons_of_mem _ hp)
    rw [List.nodup_cons] at nd
    have ih := ih nd.2 hr
    unfold sideL
    by_cases h1 : a = h
    · subst h1
      rw [if_pos rfl, List.nodup_cons]
      refine ⟨fun hm => ?_, ih⟩
      rw [mem_side hr] at hm
      simp only [joinB, Bool.or_eq_true, decide_eq_true_eq] at hm
      rcases hm with e | e
      · exact nd.1 e
      · have := hr _ e; simp at this; omega
    · rw [if_neg h1]
      by_cases h2 : b = h
      · subst h2
        rw [if_pos rfl, List.nodup_cons]
        refine ⟨fun hm => ?_, ih⟩
        rw [mem_side hr] at hm
        simp only [joinB, Bool.or_eq_true, decide_eq_true_eq] at hm
        rcases hm with e | e
        · have := hr _ e; simp at this; omega
        · exact nd.1 e
      · rw [if_neg h2]; exact ih
theorem srt_mem {ls : List (Int × Int)} {p : Int × Int} : p ∈ srtL ls ↔ p ∈ ls := (List.mergeSort_perm ls _).mem_iff
theorem srt_nd {ls : List (Int × Int)} (h : ls.Nodup) : (srtL ls).Nodup := (List.mergeSort_perm ls _).nodup_iff.mpr h
theorem join_srt {ls : List (Int × Int)} {a b : Int} : joinB (srtL ls) a b = joinB ls a b := by simp [joinB, srt_mem]
/-- the sides of a hand, rising -/
theorem side_sort {hs : List Int} {ls : List (Int × Int)} (ho : hs.Pairwise (· < ·)) (lo : LinesOk hs ls) (h : Int) : ((sideL (srtL ls) h).mergeSort fun a b => decide (a ≤ b)) = hs.filter fun z => joinB ls h z := by
  obtain ⟨nd, _, hl⟩ := lo
  have hl' : ∀ p ∈ srtL ls, p.1 < p.2 := fun p hp => (hl p (srt_mem.mp hp)).2.2
  refine sort_eq (nd_side (srt_nd nd) hl') (ho.filter _) fun z => ?_
  rw [mem_side hl', join_srt, List.mem_filter]
  refine ⟨fun hj => ⟨?_, hj⟩, fun hj => hj.2⟩
  simp only [joinB, Bool.or_eq_true, decide_eq_true_eq] at hj
  rcases hj with e | e
  · exact (hl _ e).2.1
  · exact (hl _ e).1
end L3.K01
set_option maxRecDepth 100000
set_option maxHeartbeats 4000000
namespace L3.K01
open PySem L2
variable {c : Cfg}
theorem web_f1 {hs : List Int} {ls : List (Int × Int)} {M : Mm} : fldD M (webD hs ls) .own_hands = some (.lst (hs.map .int)) := rfl
theorem web_f2 {hs : List Int} {ls : List (Int × Int)} {M : Mm} : fldD M (webD hs ls) .own_lines = some (.lst ((srtL ls).map prD)) := rfl
theorem web_f3 {hs : List Int} {ls : List (Int × Int)} {M : Mm} : fldD M (webD hs ls) .sides = some (.dct false (hs.map fun h => (.int h, .lst ((sideL (srtL ls) h).map .int)))) := rfl
theorem web_i {hs : List Int} {ls : List (Int × Int)} {M : Mm} : insD M (webD hs ls) = some (.Web, [(.own_hands, .lst (hs.map .int)), (.own_lines, .lst ((srtL ls).map prD)), (.sides, .dct false (hs.map fun h => (.int h, .lst ((sideL (srtL ls) h).map .int))))]) := rfl
def spHands : SpD := fun ds M Q E => ∃ hs ls, ds = [webD hs ls] ∧ ∀ a, M a = none → Q (.ref a) (up M a (.lst (hs.map .int)))
theorem w_whands {T : Tab} : ∀ ds M Q E, spHands ds M Q E → wSs T b_Web_hands (fnK c Q E) (env0 N_Web_hands.length ds) M := by
  rintro _ M Q E ⟨hs, ls, rfl, hQ⟩
  simp [b_Web_hands, N_Web_hands, env0, varE, web_f1]
  exact fun a ha => rt_self (hQ a ha)
def spLines : SpD := fun ds M Q E => ∃ hs ls, ds = [webD hs ls] ∧ ∀ a, M a = none → Q (.ref a) (up M a (.lst ((srtL ls).map prD)))
theorem w_wlines {T : Tab} : ∀ ds M Q E, spLines ds M Q E → wSs T b_Web_lines (fnK c Q E) (env0 N_Web_lines.length ds) M := by
  rintro _ M Q E ⟨hs, ls, rfl, hQ⟩
  simp [b_Web_lines, N_Web_lines, env0, varE, web_f2]
  exact fun a ha => rt_self (hQ a ha)
def handB (hs : List Int) : D → Bool
  | .int i => decide (i ∈ hs)
  | _ => false
def spHas : SpD := fun ds M Q E => ∃ hs ls d, ds = [webD hs ls, d] ∧ plainB d = true ∧ Q (.bl (handB hs d)) M
theorem in_sides {i : Int} {hs : List Int} {g : Int → D} {M : Mm} {Q : Bool → Prop} : inQ (.int i) (.dct false (hs.map fun h => (.int h, g h))) M Q = Q (decide (i ∈ hs)) := by
  show cnd (keyOk false (.int i) = true) (Q (getK (hs.map fun h => (D.int h, g h)) (.int i)).isSome) = _
  have e : (getK (hs.map fun h => (D.int h, g h)) (.int i)).isSome = decide (i ∈ hs) := by
    rw [getK_ints (fun h => h) g i hs, Option.isSome_map]
    have : (hs.find? fun x => decide (x = i)).isSome = decide (i ∈ hs) := by
      rw [Bool.eq_iff_iff]
      simp [List.find?_isSome]
    exact this
  rw [e]
  simp [keyOk]
theorem ix_sides {i : Int} {hs : List Int} {g : Int → D} {M : Mm} {Q : D → Prop} (h : i ∈ hs) : ixD (.dct false (hs.map fun h => (.int h, g h))) (.int i) M Q = Q (g i) := by
  show cnd (keyOk false (.int i) = true) (obn (getK (hs.map fun h => (D.int h, g h)) (.int i)) Q) = _
  have e : getK (hs.map fun h => (D.int h, g h)) (.int i) = some (g i) := by
    rw [getK_ints (fun h => h) g i hs]
    have : (hs.find? fun x => decide (x = i)) = some i := by
      cases e : hs.find? fun x => decide (x = i) with
      | none =>
        rw [List.find?_eq_none] at e
        exact absurd (decide_eq_true rfl) (e i h)
      | some j =>
        have := List.find?_some e
        simp at this
        rw [this]
    rw [this]; rfl
  rw [e]
  simp [keyOk]
theorem w_has {T : Tab} [hT : TF T] : ∀ ds M Q E, spHas ds M Q E → wSs T b_Web_has_hand (fnK c Q E) (env0 N_Web_has_hand.length ds) M := by
  rintro _ M Q E ⟨hs, ls, d, rfl, hp, hQ⟩
  simp [b_Web_has_hand, N_Web_has_hand, env0, varE]
  refine ⟨d, rfl, hp, ?_⟩
  cases d <;> simp [wholeB, web_f3, in_sides] <;> exact rt_self hQ
class TM (T : Tab) : Prop where
  h3 : lk2 T.mt .Web .has_hand = some spHas
@[simp] theorem tm1 {T : Tab} [h : TM T] : lk2 T.mt .Web .has_hand = some spHas := h.h3
def lineB (hs : List Int) (ls : List (Int × Int)) : D → D → Bool
  | .int i, .int j => decide (i ∈ hs) && decide (j ∈ hs) && joinB ls i j
  | _, _ => false
def spHasLine : SpD := fun ds M Q E => ∃ hs ls d e, ds = [webD hs ls, d, e] ∧ plainB d = true ∧ plainB e = true ∧ LinesOk hs ls ∧ Q (.bl (lineB hs ls d e)) M
def spNear : SpD := fun ds M Q E => ∃ hs ls d, ds = [webD hs ls, d] ∧ plainB d = true ∧ HandsOk hs ∧ LinesOk hs ls ∧
  (∀ i, d = .int i → i ∈ hs → ∀ a, M a = none → Q (.ref a) (up M a (.lst ((hs.filter fun z => joinB ls i z).map .int)))) ∧ (handB hs d = false → E ⟨.NoHand, []⟩ M)
theorem w_near {T : Tab} [hT : TM T] (x1 : lk T.xc .NoHand = some []) : ∀ ds M Q E, spNear ds M Q E → wSs T b_Web_neighbours (fnK c Q E) (env0 N_Web_neighbours.length ds) M := by
  rintro _ M Q E ⟨hs, ls, d, rfl, hd, ho, lo, hQ, hE⟩
  simp [b_Web_neighbours, N_Web_neighbours, env0, varE, web_i]
  refine ⟨hs, ls, d, rfl, hd, ?_⟩
  simp
  cases h : handB hs d with
  | false =>
    simp
    simp [x1]
    exact ⟨M, Sub.refl, hE h⟩
  | true =>
    cases d with
    | int i =>
      simp [handB] at h
      simp [web_f3, ix_sides h, srt_ints, side_sort ho.2.2.1 lo]
      exact fun a ha => rt_self (hQ i rfl h a ha)
    | _ => cases h
end L3.K01
set_option maxRecDepth 100000
set_option maxHeartbeats 4000000
namespace L3.K01
open PySem L2
variable {c : Cfg}
def spWeb : SpD := fun ds M Q E => ∃ (a b : D) (hs : List Int) (ls : List (Int × Int)), ds = [a, b] ∧ Arg M a (hs.map .int) ∧ Arg M b (ls.map prD) ∧ HandsOk hs ∧ LinesOk hs ls ∧ Q (webD hs ls) M
class TI (T : Tab) : Prop where
  h1 : lk T.fn .are_hands = some spHandsOk
  h2 : lk T.fn .are_lines = some spLinesOk
  h3 : lk T.fl .Web = some [.own_hands, .own_lines, .sides]
@[simp] theorem ti1 {T : Tab} [h : TI T] : lk T.fn .are_hands = some spHandsOk := h.h1
@[simp] theorem ti2 {T : Tab} [h : TI T] : lk T.fn .are_lines = some spLinesOk := h.h2
@[simp] theorem ti3 {T : Tab} [h : TI T] : lk T.fl .Web = some [.own_hands, .own_lines, .sides] := h.h3
theorem side_app {p : List (Int × Int)} {a b h : Int} : sideL (p ++ [(a, b)]) h = sideL p h ++ (if a = h then [b] else if b = h then [a] else []) := by
  induction p with
  | nil => by_cases h1 : a = h <;> by_cases h2 : b = h <;> simp [sideL, h1, h2]
  | cons q r ih =>
    obtain ⟨x, y⟩ := q
    by_cases h1 : x = h <;> by_cases h2 : y = h <;> simp [sideL, h1, h2, ih]
/-- the instance, while its sides are made -/
def insW (hs : List Int) (ls : List (Int × Int)) (s : Addr) : Cell := .ins .Web [(.own_hands, .lst (hs.map .int)), (.own_lines, .lst ((srtL ls).map prD)), (.sides, .ref s)]
/-- between two turns -/
structure Mid (M : Mm) (x s : Addr) (hs : List Int) (ls : List (Int × Int)) (ps : List (Int × Addr)) (pre : List (Int × Int)) (M2 : Mm) : Prop where
  cx : M2 x = some (insW hs ls s)
  cs : M2 s = some (.dct false (ps.map fun p => (.int p.1, .ref p.2)))
  cp : ∀ p ∈ ps, M2 p.2 = some (.lst ((sideL pre p.1).map .int))
  nd : (ps.map (·.2)).Nodup
  fr : ∀ p ∈ ps, M p.2 = none ∧ p.2 ≠ x ∧ p.2 ≠ s
  xs : x ≠ s
  Mx : M x = none
  Ms : M s = none
  off : ∀ b, b ≠ x → b ≠ s → (∀ p ∈ ps, b ≠ p.2) → M2 b = M b
theorem Mid.old {M : Mm} {x s : Addr} {hs : List Int} {ls : List (Int × Int)} {ps : List (Int × Addr)} {pre : List (Int × Int)} {M2 : Mm} (m : Mid M x s hs ls ps pre M2) {b : Addr} {y : Cell} (h : M b = some y) : M2 b = some y := by
  rw [← h]
  refine m.off b (fun e => ?_) (fun e => ?_) (fun p hp e => ?_)
  · rw [e, m.Mx] at h; cases h
  · rw [e, m.Ms] at h; cases h
  · rw [e, (m.fr p hp).1] at h; cases h
theorem putK_app {ps : List (Int × Addr)} {h : Int} {n : Addr} (hn : h ∉ ps.map (·.1)) : putK (ps.map fun p => (D.int p.1, D.ref p.2)) (.int h) (.ref n) = (ps ++ [(h, n)]).map fun p => (D.int p.1, D.ref p.2) := by
  have : ((ps.map fun p => (D.int p.1, D.ref p.2)).any fun p => eqKey p.1 (.int h)) = false := by
    rw [List.any_eq_false]
    intro q hq
    obtain ⟨p, hp, rfl⟩ := List.mem_map.mp hq
    simp [eqKey]
    exact fun e => hn (List.mem_map.mpr ⟨p, hp, e⟩)
  unfold putK
  rw [this]
  simp
/-- one side put in -/
theorem Mid.add {M : Mm} {x s : Addr} {hs : List Int} {ls : List (Int × Int)} {ps : List (Int × Addr)} {M2 : Mm} (m : Mid M x s hs ls ps [] M2) {h : Int} {n : Addr} (hn : M2 n = none) :
    Mid M x s hs ls (ps ++ [(h, n)]) [] (up (up M2 n (.lst [])) s (.dct false ((ps ++ [(h, n)]).map fun p => (D.int p.1, D.ref p.2)))) := by
  have nx : n ≠ x := fun e => by rw [e, m.cx] at hn; cases hn
  have ns : n ≠ s := fun e => by rw [e, m.cs] at hn; cases hn
  have np : ∀ p ∈ ps, p.2 ≠ n := fun p hp e => by rw [← e, m.cp p hp] at hn; cases hn
  have nM : M n = none := by
    cases e : M n with
    | none => rfl
    | some y => rw [m.old e] at hn; cases hn
  refine ⟨?_, up_same, fun p hp => ?_, ?_, fun p hp => ?_, m.xs, m.Mx, m.Ms, fun b h1 h2 h3 => ?_⟩
  · rw [up_ne m.xs, up_ne (Ne.symm nx)]; exact m.cx
  · rcases List.mem_append.mp hp with hp | hp
    · rw [up_ne (m.fr p hp).2.2, up_ne (np p hp)]; exact m.cp p hp
    · simp at hp; subst hp
      rw [up_ne ns, up_same]; rfl
  · rw [List.map_append, List.nodup_append]
    refine ⟨m.nd, by simp, fun a ha b hb e => ?_⟩
    obtain ⟨p, hp, rfl⟩ := List.mem_map.mp ha
    simp at hb
    exact np p hp (e.trans hb)
  · rcases List.mem_append.mp hp with hp | hp
    · exact m.fr p hp
    · simp at hp; subst hp; exact ⟨nM, nx, ns⟩
  · rw [up_ne h2, up_ne (fun e => h3 (h, n) (by simp) e)]
    exact m.off b h1 h2 fun p hp => h3 p (List.mem_append_left _ hp)
theorem find_ps {ps : List (Int × Addr)} {h : Int} (hm : h ∈ ps.map (·.1)) : ∃ p ∈ ps, p.1 = h ∧ getK (ps.map fun p => (D.int p.1, D.ref p.2)) (.int h) = some (.ref p.2) := by
  rw [getK_ints (fun p : Int × Addr => p.1) (fun p => .ref p.2) h ps]
  obtain ⟨q, hq, e⟩ := List.mem_map.mp hm
  cases e' : ps.find? fun p => decide (p.1 = h) with
  | none =>
    rw [List.find?_eq_none] at e'
    exact absurd (decide_eq_true e) (e' q hq)
  | some p =>
    have := List.find?_some e'
    simp at this
    exact ⟨p, List.mem_of_find?_eq_some e', this, rfl⟩
theorem Mid.ins {M : Mm} {x s : Addr} {hs : List Int} {ls : List (Int × Int)} {ps : List (Int × Addr)} {pre : List (Int × Int)} {M2 : Mm} (m : Mid M x s hs ls ps pre M2) : fldD M2 (.ref x) .own_lines = some (.lst ((srtL ls).map prD)) ∧ fldD M2 (.ref x) .sides = some (.ref s) := by
  have : insD M2 (.ref x) = some (.Web, [(.own_hands, .lst (hs.map .int)), (.own_lines, .lst ((srtL ls).map prD)), (.sides, .ref s)]) := by simp [insD, m.cx, insW]
  constructor <;> (unfold fldD; rw [this]; rfl)
theorem inj_nd {α β : Type} {f : α → β} : ∀ {xs : List α}, (xs.map f).Nodup → ∀ {a b : α}, a ∈ xs → b ∈ xs → f a = f b → a = b
  | [], _, _, _, h, _, _ => by cases h
  | x :: r, nd, a, b, ha, hb, e => by
    simp only [List.map_cons, List.nodup_cons] at nd
    rcases List.mem_cons.mp ha with h1 | h1
    · rcases List.mem_cons.mp hb with h2 | h2
      · rw [h1, h2]
      · exact absurd (List.mem_map.mpr ⟨b, h2, by rw [← e, h1]⟩) nd.1
    · rcases List.mem_cons.mp hb with h2 | h2
      · exact absurd (List.mem_map.mpr ⟨a, h1, by rw [e, h2]⟩) nd.1
      · exact inj_nd nd.2 h1 h2 e
/-- a line put to both sides -/
theorem Mid.line {M : Mm} {x s : Addr} {hs : List Int} {ls : List (Int × Int)} {ps : List (Int × Addr)} {pre : List (Int × Int)} {M2 : Mm} (m : Mid M x s hs ls ps pre M2) (nk : (ps.map (·.1)).Nodup) {p q : Int × Addr} (hp : p ∈ ps) (hq : q ∈ ps) (ne : p.1 ≠ q.1) :
    q.2 ≠ p.2 ∧ Mid M x s hs ls ps (pre ++ [(p.1, q.1)]) (up (up M2 p.2 (.lst ((sideL pre p.1).map .int ++ [.int q.1]))) q.2 (.lst ((sideL pre q.1).map .int ++ [.int p.1]))) := by
  have npq : q.2 ≠ p.2 := fun e => ne (by rw [inj_nd m.nd hq hp e])
  obtain ⟨p1, p2, p3⟩ := m.fr p hp
  obtain ⟨q1, q2, q3⟩ := m.fr q hq
  refine ⟨npq, ?_, ?_, fun r hr => ?_, m.nd, m.fr, m.xs, m.Mx, m.Ms, fun b h1 h2 h3 => ?_⟩
  · rw [up_ne (Ne.symm q2), up_ne (Ne.symm p2)]; exact m.cx
  · rw [up_ne (Ne.symm q3), up_ne (Ne.symm p3)]; exact m.cs
  · rw [side_app]
    by_cases e1 : r = p
    · subst e1
      rw [up_ne (Ne.symm npq), up_same]; simp
    · have k1 : p.1 ≠ r.1 := fun e => e1 (inj_nd nk hr hp e.symm)
      by_cases e2 : r = q
      · subst e2
        rw [up_same, if_neg k1, if_pos rfl]; simp
      · have k2 : q.1 ≠ r.1 := fun e => e2 (inj_nd nk hr hq e.symm)
        rw [if_neg k1, if_neg k2, List.append_nil, up_ne fun e => e2 (inj_nd m.nd hr hq e), up_ne fun e => e1 (inj_nd m.nd hr hp e)]
        exact m.cp r hr
  · rw [up_ne (h3 q hq), up_ne (h3 p hp)]
    exact m.off b h1 h2 h3
theorem fz_ints {n : Nat} {M : Mm} (is : List Int) : (is.map D.int).map (fz n M) = is.map D.int := by
  rw [List.map_map]
  refine List.map_congr_left fun i _ => ?_
  cases n <;> rfl
theorem fz_prs {n : Nat} {M : Mm} (ps : List (Int × Int)) : (ps.map prD).map (fz n M) = ps.map prD := by
  rw [List.map_map]
  refine List.map_congr_left fun i _ => ?_
  cases n with
  | zero => rfl
  | succ n => cases n <;> rfl
theorem rf_ints {n : Nat} {M : Mm} (is : List Int) : (is.map D.int).flatMap (rf n M) = [] := by
  rw [List.flatMap_eq_nil_iff]
  intro d hd
  obtain ⟨i, _, rfl⟩ := List.mem_map.mp hd
  cases n <;> rfl
theorem rf_prs {n : Nat} {M : Mm} (ps : List (Int × Int)) : (ps.map prD).flatMap (rf n M) = [] := by
  rw [List.flatMap_eq_nil_iff]
  intro d hd
  obtain ⟨i, _, rfl⟩ := List.mem_map.mp hd
  cases n with
  | zero => rfl
  | succ n => cases n <;> rfl
/-- the instance made, read as data -/
theorem Mid.frz {M : Mm} {x s : Addr} {hs : List Int} {ls : List (Int × Int)} {ps : List (Int × Addr)} {M2 : Mm} (m : Mid M x s hs ls ps (srtL ls) M2) (hk : ps.map (·.1) = hs) : Frz c (.ref x) M2 (webD hs ls) M := by
  have sb : Sub M M2 := fun a y e => m.old e
  have e : fz 4 M2 (.ref x) = webD hs ls := by
    have e1 : fz 3 M2 (.ref s) = .dct false (ps.map fun p => (D.int p.1, .lst ((sideL (srtL ls) p.1).map .int))) := by
      unfold fz
      rw [m.cs]
      show D.dct false ((ps.map fun p => (D.int p.1, D.ref p.2)).map fun p => (p.1, fz 2 M2 p.2)) = _
      rw [List.map_map]
      congr 1
      refine List.map_congr_left fun p hp => ?_
      show (D.int p.1, fz 2 M2 (.ref p.2)) = _
      have : fz 2 M2 (.ref p.2) = .lst ((sideL (srtL ls) p.1).map .int) := by
        unfold fz
        rw [m.cp p hp]
        show D.lst (((sideL (srtL ls) p.1).map D.int).map (fz 1 M2)) = _
        rw [fz_ints]
      rw [this]
    unfold fz
    rw [m.cx]
    show D.ins .Web [(.own_hands, .lst ((hs.map D.int).map (fz 2 M2))), (.own_lines, .lst (((srtL ls).map prD).map (fz 2 M2))), (.sides, fz 3 M2 (.ref s))] = _
    rw [fz_ints, fz_prs, e1]
    unfold webD
    rw [← hk, List.map_map (g := fun h => (D.int h, D.lst (List.map D.int (sideL (srtL ls) h))))]
    rfl
  rw [← e]
  refine Frz.deep 4 sb fun a ha => ?_
  have r1 : rf 4 M2 (.ref x) = x :: ((hs.map D.int).flatMap (rf 2 M2) ++ (((srtL ls).map prD).flatMap (rf 2 M2) ++ (rf 3 M2 (.ref s) ++ []))) := by
    conv => lhs; unfold rf
    rw [m.cx]
    rfl
  have r2 : rf 3 M2 (.ref s) = s :: (ps.map fun p => (D.int p.1, D.ref p.2)).flatMap fun p => rf 2 M2 p.2 := by
    conv => lhs; unfold rf
    rw [m.cs]
  rw [r1, rf_ints, rf_prs, r2] at ha
  simp only [List.nil_append, List.append_nil, List.mem_cons, List.mem_flatMap, List.mem_map] at ha
  rcases ha with rfl | rfl | ⟨q, ⟨p, hp, rfl⟩, ha⟩
  · exact m.Mx
  · exact m.Ms
  · have r3 : rf 2 M2 (.ref p.2) = [p.2] := by
      conv => lhs; unfold rf
      rw [m.cp p hp]
      show p.2 :: ((sideL (srtL ls) p.1).map D.int).flatMap (rf 1 M2) = _
      rw [rf_ints]
    rw [r3] at ha
    simp at ha
    rw [ha]
    exact (m.fr p hp).1
theorem fld_up {M : Mm} {n x : Addr} {y : Cell} {f : Nm} (h : x ≠ n) : fldD (up M n y) (.ref x) f = fldD M (.ref x) f := by
  have : insD (up M n y) (.ref x) = insD M (.ref x) := by
    show (match up M n y x with | some (.ins c fs) => some (c, fs) | _ => none) = _
    rw [up_ne h]; rfl
  unfold fldD
  rw [this]
theorem w_init {T : Tab} [hT : TI T] : ∀ x ds M Q E, spWeb ds M Q E → M x = none → wSs T b_Web___init__ (mkK c x Q E) (env0 N_Web___init__.length (.ref x :: ds)) (up M x (.ins .Web [])) := by
  rintro x _ M Q E ⟨a, b, hs, ls, rfl, ha, hb, ho, lo, hQ⟩ hx
  have ua : ∀ y, Arg (up M x y) a (hs.map .int) := fun y => ha.sub (Sub.refl.up hx)
  have ub : ∀ y, Arg (up M x y) b (ls.map prD) := fun y => hb.sub (Sub.refl.up hx)
  have qa := fun y => (ua y).f.dct
  have qb := fun y => (ua y).f.seq
  have qc := fun y => (ub y).f.lst
  simp [b_Web___init__, N_Web___init__, env0, varE]
  refine ⟨a, hs, rfl, ua _, ho, ?_⟩
  simp
  refine ⟨a, b, hs, ls, rfl, ua _, ub _, lo, ?_⟩
  simp [qa, qb, qc, srt_prs', putF]
  intro s hs0
  have xs : x ≠ s := fun e => by rw [← e, up_same] at hs0; cases hs0
  have hs1 : M s = none := by rw [up_ne (Ne.symm xs)] at hs0; exact hs0
  have m0 : ∀ A, Mid M x s hs ls [] [] (up (up (up M x A) s (.dct false [])) x (insW hs ls s)) := fun A => by
    refine ⟨up_same, ?_, (fun p hp => nomatch hp), List.nodup_nil, (fun p hp => nomatch hp), xs, hx, hs1, fun b h1 h2 _ => ?_⟩
    · rw [up_ne (Ne.symm xs), up_same]; rfl
    · rw [up_ne h1, up_ne h2, up_ne h1]
  have nd : hs.Nodup := ho.2.2.1.imp fun h => by omega
  have h12 := ho.2.1
  simp [up_ne xs, putF]
  refine forQ_start (items := hs.map .int) ?_ ?_
  · exact (ha.sub (fun b y h => (m0 _).old h)).f.seq
  refine forQ_ind (fun xs env M2 => ∃ rest ps h, xs = rest.map D.int ∧ hs = ps.map (·.1) ++ rest ∧ env = [some (.ref x), some a, some b, h, none, none] ∧ Mid M x s hs ls ps [] M2) ⟨hs, [], none, rfl, rfl, rfl, m0 _⟩ ?_ ?_ ?_
  · rintro _ _ M2 ⟨rest, ps, h, rfl, _, rfl, m⟩
    exact (ha.sub (fun b y h => m.old h)).f.seq
  · rintro _ xs' _ M2 F ⟨rest, ps, h, e, ee, rfl, m⟩ hF
    cases rest with
    | nil => cases e
    | cons z rest =>
      cases e
      refine ⟨_, rfl, ?_⟩
      intro n hn
      have xn : x ≠ n := fun e => by rw [← e, m.cx] at hn; cases hn
      have sn : s ≠ n := fun e => by rw [← e, m.cs] at hn; cases hn
      have zn : z ∉ ps.map (·.1) := fun hm => by
        rw [ee] at nd
        exact (List.nodup_append.mp nd).2.2 z hm z (by simp) rfl
      have lp : ps.length < sizeLine := by
        have : hs.length = ps.length + (rest.length + 1) := by rw [ee]; simp
        exact Nat.lt_of_lt_of_le (show ps.length < 1000 by omega) (by decide)
      simp [fld_up xn, m.ins.2, up_ne sn, m.cs, keyOk, putK_app zn]
      exact ⟨lp, hF _ _ ⟨rest, ps ++ [(z, n)], some (.int z), rfl, by rw [ee]; simp, rfl, by have := m.add hn (h := z); simpa using this⟩⟩
  · rintro _ M2 ⟨rest, ps, h, e, ee, rfl, m⟩
    have : rest = [] := by cases rest with
      | nil => rfl
      | cons _ _ => cases e
    subst this
    rw [List.append_nil] at ee
    simp [m.ins.1]
    have lp : ∀ p ∈ srtL ls, p.1 ∈ hs ∧ p.2 ∈ hs ∧ p.1 < p.2 := fun p hp => lo.2.2 p (srt_mem.mp hp)
    have nk : (ps.map (·.1)).Nodup := by rw [← ee]; exact nd
    have ll : (srtL ls).length ≤ 200 := by
      have : (srtL ls).length = ls.length := (List.mergeSort_perm ls leP).length_eq
      have := lo.2.1
      omega
    have sl : ∀ (pre : List (Int × Int)) (h : Int), (sideL pre h).length ≤ pre.length := fun pre h => by
      induction pre with
      | nil => exact Nat.le_refl _
      | cons p r ih =>
        obtain ⟨u, v⟩ := p
        unfold sideL
        split
        · simp; exact ih
        · split
          · simp; exact ih
          · simp; omega
    refine forQ_ind (fun xs env M2 => ∃ rest pre h g k, xs = rest.map prD ∧ srtL ls = pre ++ rest ∧ env = [some (.ref x), some a, some b, h, g, k] ∧ Mid M x s hs ls ps pre M2) ⟨srtL ls, [], h, none, none, rfl, rfl, rfl, m⟩ ?_ ?_ ?_
    · intros; rfl
    · rintro _ xs' _ M3 F ⟨rest, pre, h, g, k, e, e2, rfl, m⟩ hF
      cases rest with
      | nil => cases e
      | cons z rest =>
        obtain ⟨u, v⟩ := z
        cases e
        obtain ⟨u1, v1, uv⟩ := lp (u, v) (by rw [e2]; simp)
        rw [ee] at u1 v1
        obtain ⟨p, hp, rfl, gp⟩ := find_ps u1
        obtain ⟨q, hq, rfl, gq⟩ := find_ps v1
        obtain ⟨npq, m'⟩ := m.line nk hp hq (by simp at uv; omega)
        have sz : pre.length ≤ 200 := by
          have : (srtL ls).length = pre.length + (rest.length + 1) := by rw [e2]; simp
          omega
        have z1 : (sideL pre p.1).length < sizeLine := Nat.lt_of_lt_of_le (show _ < 1000 by have := sl pre p.1; omega) (by decide)
        have z2 : (sideL pre q.1).length < sizeLine := Nat.lt_of_lt_of_le (show _ < 1000 by have := sl pre q.1; omega) (by decide)
        refine ⟨_, rfl, ?_⟩
        have f1 := m.fr p hp
        simp [m.ins.2, m.cs, keyOk, gp, m.cp p hp, fld_up (Ne.symm f1.2.1), up_ne (Ne.symm f1.2.2), gq, up_ne npq, m.cp q hq]
        exact ⟨z1, z2, hF _ _ ⟨rest, pre ++ [(p.1, q.1)], h, _, _, rfl, by rw [e2]; simp, rfl, m'⟩⟩
    · rintro _ M3 ⟨rest, pre, h, g, k, e, e2, rfl, m⟩
      have : rest = [] := by cases rest with
        | nil => rfl
        | cons _ _ => cases e
      subst this
      rw [List.append_nil] at e2
      rw [← e2] at m
      exact ⟨_, _, m.frz ee.symm, hQ⟩
end L3.K01
set_option maxRecDepth 100000
set_option maxHeartbeats 4000000
namespace L3.K01
open PySem L2
variable {c : Cfg}
/-- the places that a def has made, beside the digits' state -/
structure LW (M : Mm) (a : Addr) (bs : List Addr) (M2 : Mm) : Prop where
  ca : ∃ st : List Int, stOk st ∧ M2 a = some (.lst (st.map .int))
  off : ∀ y, y ≠ a → y ∉ bs → M2 y = M y
  fr : ∀ y ∈ bs, M y = none ∧ y ≠ a
  th : ∀ y ∈ bs, M2 y ≠ none
theorem LW.set {M : Mm} {a : Addr} {bs : List Addr} {M2 : Mm} (m : LW M a bs M2) {n : Addr} {y : Cell} (h : n ∈ bs) : LW M a bs (up M2 n y) := by
  have na := (m.fr n h).2
  obtain ⟨st, h1, h2⟩ := m.ca
  refine ⟨⟨st, h1, by rw [up_ne (Ne.symm na)]; exact h2⟩, fun z h1 h2 => by rw [up_ne (fun e => h2 (by rw [e]; exact h))]; exact m.off z h1 h2, m.fr, fun z hz => ?_⟩
  by_cases e : z = n
  · subst e; rw [up_same]; simp
  · rw [up_ne e]; exact m.th z hz
theorem LW.new {M : Mm} {a : Addr} {bs : List Addr} {M2 : Mm} (m : LW M a bs M2) {n : Addr} {y : Cell} (h : M2 n = none) : LW M a (n :: bs) (up M2 n y) ∧ n ≠ a ∧ n ∉ bs := by
  obtain ⟨st, h1, h2⟩ := m.ca
  have na : n ≠ a := fun e => by rw [e, h2] at h; cases h
  have nb : n ∉ bs := fun hn => m.th n hn h
  have nM : M n = none := by rw [← m.off n na nb]; exact h
  refine ⟨⟨⟨st, h1, by rw [up_ne (Ne.symm na)]; exact h2⟩, fun z h1 h2 => ?_, fun z hz => ?_, fun z hz => ?_⟩, na, nb⟩
  · simp only [List.mem_cons, not_or] at h2
    rw [up_ne h2.1]; exact m.off z h1 h2.2
  · rcases List.mem_cons.mp hz with rfl | hz
    · exact ⟨nM, na⟩
    · exact m.fr z hz
  · by_cases e : z = n
    · subst e; rw [up_same]; simp
    · rw [up_ne e]; exact m.th z ((List.mem_cons.mp hz).resolve_left e)
/-! ### pairs -/
class TW (T : Tab) : Prop where
  h1 : lk T.fn ._law_digit = some spDigit
@[simp] theorem tw1 {T : Tab} [h : TW T] : lk T.fn ._law_digit = some spDigit := h.h1
def w1 : List SS := b__law_web.take 3
def w2 : List SS := b__law_web.drop 3
def w3 : List SS := w2.drop 1
def w4 : List SS := w3.drop 3
end L3.K01
namespace L3.EX
open PySem L2
@[simp] theorem so_num : PyData.strOk ("num" : PySem.Str) = true := by decide +kernel
@[simp] theorem q_num_num : (("num" : PySem.Str) == "num") = true := by decide +kernel
@[simp] theorem q_num_name : (("num" : PySem.Str) == "name") = false := by decide +kernel
@[simp] theorem q_num_mod : (("num" : PySem.Str) == "mod") = false := by decide +kernel
@[simp] theorem q_num_less : (("num" : PySem.Str) == "less") = false := by decide +kernel
@[simp] theorem q_num_add : (("num" : PySem.Str) == "add") = false := by decide +kernel
@[simp] theorem q_num_sub : (("num" : PySem.Str) == "sub") = false := by decide +kernel
@[simp] theorem q_num_min : (("num" : PySem.Str) == "min") = false := by decide +kernel
@[simp] theorem q_num_max : (("num" : PySem.Str) == "max") = false := by decide +kernel
@[simp] theorem q_num_worth : (("num" : PySem.Str) == "worth") = false := by decide +kernel
@[simp] theorem q_num_me : (("num" : PySem.Str) == "me") = false := by decide +kernel
@[simp] theorem q_num_round : (("num" : PySem.Str) == "round") = false := by decide +kernel
@[simp] theorem q_num_lines : (("num" : PySem.Str) == "lines") = false := by decide +kernel
@[simp] theorem q_num_to : (("num" : PySem.Str) == "to") = false := by decide +kernel
@[simp] theorem q_num_sum : (("num" : PySem.Str) == "sum") = false := by decide +kernel
@[simp] theorem q_num_least : (("num" : PySem.Str) == "least") = false := by decide +kernel
@[simp] theorem q_num_most : (("num" : PySem.Str) == "most") = false := by decide +kernel
@[simp] theorem q_num_count : (("num" : PySem.Str) == "count") = false := by decide +kernel
@[simp] theorem so_name : PyData.strOk ("name" : PySem.Str) = true := by decide +kernel
@[simp] theorem q_name_num : (("name" : PySem.Str) == "num") = false := by decide +kernel
@[simp] theorem q_name_name : (("name" : PySem.Str) == "name") = true := by decide +kernel
@[simp] theorem q_name_mod : (("name" : PySem.Str) == "mod") = false := by decide +kernel
@[simp] theorem q_name_less : (("name" : PySem.Str) == "less") = false := by decide +kernel
@[simp] theorem q_name_add : (("name" : PySem.Str) == "add") = false := by decide +kernel
@[simp] theorem q_name_sub : (("name" : PySem.Str) == "sub") = false := by decide +kernel
@[simp] theorem q_name_min : (("name" : PySem.Str) == "min") = false := by decide +kernel
@[simp] theorem q_name_max : (("name" : PySem.Str) == "max") = false := by decide +kernel
@[simp] theorem q_name_worth : (("name" : PySem.Str) == "worth") = false := by decide +kernel
@[simp] theorem q_name_me : (("name" : PySem.Str) == "me") = false := by decide +kernel
@[simp] theorem q_name_round : (("name" : PySem.Str) == "round") = false := by decide +kernel
@[simp] theorem q_name_lines : (("name" : PySem.Str) == "lines") = false := by decide +kernel
@[simp] theorem q_name_to : (("name" : PySem.Str) == "to") = false := by decide +kernel
@[simp] theorem q_name_sum : (("name" : PySem.Str) == "sum") = false := by decide +kernel
@[simp] theorem q_name_least : (("name" : PySem.Str) == "least") = false := by decide +kernel
@[simp] theorem q_name_most : (("name" : PySem.Str) == "most") = false := by decide +kernel
@[simp] theorem q_name_count : (("name" : PySem.Str) == "count") = false := by decide +kernel
@[simp] theorem so_mod : PyData.strOk ("mod" : PySem.Str) = true := by decide +kernel
@[simp] theorem q_mod_num : (("mod" : PySem.Str) == "num") = false := by decide +kernel
@[simp] theorem q_mod_name : (("mod" : PySem.Str) == "name") = false := by decide +kernel
@[simp] theorem q_mod_mod : (("mod" : PySem.Str) == "mod") = true := by decide +kernel
@[simp] theorem q_mod_less : (("mod" : PySem.Str) == "less") = false := by decide +kernel
@[simp] theorem q_mod_add : (("mod" : PySem.Str) == "add") = false := by decide +kernel
@[simp] theorem q_mod_sub : (("mod" : PySem.Str) == "sub") = false := by decide +kernel
@[simp] theorem q_mod_min : (("mod" : PySem.Str) == "min") = false := by decide +kernel
@[simp] theorem q_mod_max : (("mod" : PySem.Str) == "max") = false := by decide +kernel
@[simp] theorem q_mod_worth : (("mod" : PySem.Str) == "worth") = false := by decide +kernel
@[simp] theorem q_mod_me : (("mod" : PySem.Str) == "me") = false := by decide +kernel
@[simp] theorem q_mod_round : (("mod" : PySem.Str) == "round") = false := by decide +kernel
@[simp] theorem q_mod_lines : (("mod" : PySem.Str) == "lines") = false := by decide +kernel
@[simp] theorem q_mod_to : (("mod" : PySem.Str) == "to") = false := by decide +kernel
@[simp] theorem q_mod_sum : (("mod" : PySem.Str) == "sum") = false := by decide +kernel
@[simp] theorem q_mod_least : (("mod" : PySem.Str) == "least") = false := by decide +kernel
@[simp] theorem q_mod_most : (("mod" : PySem.Str) == "most") = false := by decide +kernel
@[simp] theorem q_mod_count : (("mod" : PySem.Str) == "count") = false := by decide +kernel
@[simp] theorem so_less : PyData.strOk ("less" : PySem.Str) = true := by decide +kernel
@[simp] theorem q_less_num : (("less" : PySem.Str) == "num") = false := by decide +kernel
@[simp] theorem q_less_name : (("less" : PySem.Str) == "name") = false := by decide +kernel
@[simp] theorem q_less_mod : (("less" : PySem.Str) == "mod") = false := by decide +kernel
@[simp] theorem q_less_less : (("less" : PySem.Str) == "less") = true := by decide +kernel
@[simp] theorem q_less_add : (("less" : PySem.Str) == "add") = false := by decide +kernel
@[simp] theorem q_less_sub : (("less" : PySem.Str) == "sub") = false := by decide +kernel
@[simp] theorem q_less_min : (("less" : PySem.Str) == "min") = false := by decide +kernel
@[simp] theorem q_less_max : (("less" : PySem.Str) == "max") = false := by decide +kernel
@[simp] theorem q_less_worth : (("less" : PySem.Str) == "worth") = false := by decide +kernel
@[simp] theorem q_less_me : (("less" : PySem.Str) == "me") = false := by decide +kernel
@[simp] theorem q_less_round : (("less" : PySem.Str) == "round") = false := by decide +kernel
@[simp] theorem q_less_lines : (("less" : PySem.Str) == "lines") = false := by decide +kernel
@[simp] theorem q_less_to : (("less" : PySem.Str) == "to") = false := by decide +kernel
@[simp] theorem q_less_sum : (("less" : PySem.Str) == "sum") = false := by decide +kernel
@[simp] theorem q_less_least : (("less" : PySem.Str) == "least") = false := by decide +kernel
@[simp] theorem q_less_most : (("less" : PySem.Str) == "most") = false := by decide +kernel
@[simp] theorem q_less_count : (("less" : PySem.Str) == "count") = false := by decide +kernel
@[simp] theorem so_add : PyData.strOk ("add" : PySem.Str) = true := by decide +kernel
@[simp] theorem q_add_num : (("add" : PySem.Str) == "num") = false := by decide +kernel
@[simp] theorem q_add_name : (("add" : PySem.Str) == "name") = false := by decide +kernel
@[simp] theorem q_add_mod : (("add" : PySem.Str) == "mod") = false := by decide +kernel
@[simp] theorem q_add_less : (("add" : PySem.Str) == "less") = false := by decide +kernel
@[simp] theorem q_add_add : (("add" : PySem.Str) == "add") = true := by decide +kernel
@[simp] theorem q_add_sub : (("add" : PySem.Str) == "sub") = false := by decide +kernel
@[simp] theorem q_add_min : (("add" : PySem.Str) == "min") = false := by decide +kernel
@[simp] theorem q_add_max : (("add" : PySem.Str) == "max") = false := by decide +kernel
@[simp] theorem q_add_worth : (("add" : PySem.Str) == "worth") = false := by decide +kernel
@[simp] theorem q_add_me : (("add" : PySem.Str) == "me") = false := by decide +kernel
@[simp] theorem q_add_round : (("add" : PySem.Str) == "round") = false := by decide +kernel
@[simp] theorem q_add_lines : (("add" : PySem.Str) == "lines") = false := by decide +kernel
@[simp] theorem q_add_to : (("add" : PySem.Str) == "to") = false := by decide +kernel
@[simp] theorem q_add_sum : (("add" : PySem.Str) == "sum") = false := by decide +kernel
@[simp] theorem q_add_least : (("add" : PySem.Str) == "least") = false := by decide +kernel
@[simp] theorem q_add_most : (("add" : PySem.Str) == "most") = false := by decide +kernel
@[simp] theorem q_add_count : (("add" : PySem.Str) == "count") = false := by decide +kernel
@[simp] theorem so_sub : PyData.strOk ("sub" : PySem.Str) = true := by decide +kernel
@[simp] theorem q_sub_num : (("sub" : PySem.Str) == "num") = false := by decide +kernel
@[simp] theorem q_sub_name : (("sub" : PySem.Str) == "name") = false := by decide +kernel
@[simp] theorem q_sub_mod : (("sub" : PySem.Str) == "mod") = false := by decide +kernel
@[simp] theorem q_sub_less : (("sub" : PySem.Str) == "less") = false := by decide +kernel
@[simp] theorem q_sub_add : (("sub" : PySem.Str) == "add") = false := by decide +kernel
@[simp] theorem q_sub_sub : (("sub" : PySem.Str) == "sub") = true := by decide +kernel
@[simp] theorem q_sub_min : (("sub" : PySem.Str) == "min") = false := by decide +kernel
@[simp] theorem q_sub_max : (("sub" : PySem.Str) == "max") = false := by decide +kernel
@[simp] theorem q_sub_worth : (("sub" : PySem.Str) == "worth") = false := by decide +kernel
@[simp] theorem q_sub_me : (("sub" : PySem.Str) == "me") = false := by decide +kernel
@[simp] theorem q_sub_round : (("sub" : PySem.Str) == "round") = false := by decide +kernel
@[simp] theorem q_sub_lines : (("sub" : PySem.Str) == "lines") = false := by decide +kernel
@[simp] theorem q_sub_to : (("sub" : PySem.Str) == "to") = false := by decide +kernel
@[simp] theorem q_sub_sum : (("sub" : PySem.Str) == "sum") = false := by decide +kernel
@[simp] theorem q_sub_least : (("sub" : PySem.Str) == "least") = false := by decide +kernel
@[simp] theorem q_sub_most : (("sub" : PySem.Str) == "most") = false := by decide +kernel
@[simp] theorem q_sub_count : (("sub" : PySem.Str) == "count") = false := by decide +kernel
@[simp] theorem so_min : PyData.strOk ("min" : PySem.Str) = true := by decide +kernel
@[simp] theorem q_min_num : (("min" : PySem.Str) == "num") = false := by decide +kernel
@[simp] theorem q_min_name : (("min" : PySem.Str) == "name") = false := by decide +kernel
@[simp] theorem q_min_mod : (("min" : PySem.Str) == "mod") = false := by decide +kernel
@[simp] theorem q_min_less : (("min" : PySem.Str) == "less") = false := by decide +kernel
@[simp] theorem q_min_add : (("min" : PySem.Str) == "add") = false := by decide +kernel
@[simp] theorem q_min_sub : (("min" : PySem.Str) == "sub") = false := by decide +kernel
@[simp] theorem q_min_min : (("min" : PySem.Str) == "min") = true := by decide +kernel
@[simp] theorem q_min_max : (("min" : PySem.Str) == "max") = false := by decide +kernel
@[simp] theorem q_min_worth : (("min" : PySem.Str) == "worth") = false := by decide +kernel
@[simp] theorem q_min_me : (("min" : PySem.Str) == "me") = false := by decide +kernel
@[simp] theorem q_min_round : (("min" : PySem.Str) == "round") = false := by decide +kernel
@[simp] theorem q_min_lines : (("min" : PySem.Str) == "lines") = false := by decide +kernel
@[simp] theorem q_min_to : (("min" : PySem.Str) == "to") = false := by decide +kernel
@[simp] theorem q_min_sum : (("min" : PySem.Str) == "sum") = false := by decide +kernel
@[simp] theorem q_min_least : (("min" : PySem.Str) == "least") = false := by decide +kernel
@[simp] theorem q_min_most : (("min" : PySem.Str) == "most") = false := by decide +kernel
@[simp] theorem q_min_count : (("min" : PySem.Str) == "count") = false := by decide +kernel
@[simp] theorem so_max : PyData.strOk ("max" : PySem.Str) = true := by decide +kernel
@[simp] theorem q_max_num : (("max" : PySem.Str) == "num") = false := by decide +kernel
@[simp] theorem q_max_name : (("max" : PySem.Str) == "name") = false := by decide +kernel
@[simp] theorem q_max_mod : (("max" : PySem.Str) == "mod") = false := by decide +kernel
@[simp] theorem q_max_less : (("max" : PySem.Str) == "less") = false := by decide +kernel
@[simp] theorem q_max_add : (("max" : PySem.Str) == "add") = false := by decide +kernel
@[simp] theorem q_max_sub : (("max" : PySem.Str) == "sub") = false := by decide +kernel
@[simp] theorem q_max_min : (("max" : PySem.Str) == "min") = false := by decide +kernel
@[simp] theorem q_max_max : (("max" : PySem.Str) == "max") = true := by decide +kernel
@[simp] theorem q_max_worth : (("max" : PySem.Str) == "worth") = false := by decide +kernel
@[simp] theorem q_max_me : (("max" : PySem.Str) == "me") = false := by decide +kernel
@[simp] theorem q_max_round : (("max" : PySem.Str) == "round") = false := by decide +kernel
@[simp] theorem q_max_lines : (("max" : PySem.Str) == "lines") = false := by decide +kernel
@[simp] theorem q_max_to : (("max" : PySem.Str) == "to") = false := by decide +kernel
@[simp] theorem q_max_sum : (("max" : PySem.Str) == "sum") = false := by decide +kernel
@[simp] theorem q_max_least : (("max" : PySem.Str) == "least") = false := by decide +kernel
@[simp] theorem q_max_most : (("max" : PySem.Str) == "most") = false := by decide +kernel
@[simp] theorem q_max_count : (("max" : PySem.Str) == "count") = false := by decide +kernel
@[simp] theorem so_worth : PyData.strOk ("worth" : PySem.Str) = true := by decide +kernel
@[simp] theorem q_worth_num : (("worth" : PySem.Str) == "num") = false := by decide +kernel
@[simp] theorem q_worth_name : (("worth" : PySem.Str) == "name") = false := by decide +kernel
@[simp] theorem q_worth_mod : (("worth" : PySem.Str) == "mod") = false := by decide +kernel
@[simp] theorem q_worth_less : (("worth" : PySem.Str) == "less") = false := by decide +kernel
@[simp] theorem q_worth_add : (("worth" : PySem.Str) == "add") = false := by decide +kernel
@[simp] theorem q_worth_sub : (("worth" : PySem.Str) == "sub") = false := by decide +kernel
@[simp] theorem q_worth_min : (("worth" : PySem.Str) == "min") = false := by decide +kernel
@[simp] theorem q_worth_max : (("worth" : PySem.Str) == "max") = false := by decide +kernel
@[simp] theorem q_worth_worth : (("worth" : PySem.Str) == "worth") = true := by decide +kernel
@[simp] theorem q_worth_me : (("worth" : PySem.Str) == "me") = false := by decide +kernel
@[simp] theorem q_worth_round : (("worth" : PySem.Str) == "round") = false := by decide +kernel
@[simp] theorem q_worth_lines : (("worth" : PySem.Str) == "lines") = false := by decide +kernel
@[simp] theorem q_worth_to : (("worth" : PySem.Str) == "to") = false := by decide +kernel
@[simp] theorem q_worth_sum : (("worth" : PySem.Str) == "sum") = false := by decide +kernel
@[simp] theorem q_worth_least : (("worth" : PySem.Str) == "least") = false := by decide +kernel
@[simp] theorem q_worth_most : (("worth" : PySem.Str) == "most") = false := by decide +kernel
@[simp] theorem q_worth_count : (("worth" : PySem.Str) == "count") = false := by decide +kernel
@[simp] theorem so_me : PyData.strOk ("me" : PySem.Str) = true := by decide +kernel
@[simp] theorem q_me_num : (("me" : PySem.Str) == "num") = false := by decide +kernel
@[simp] theorem q_me_name : (("me" : PySem.Str) == "name") = false := by decide +kernel
@[simp] theorem q_me_mod : (("me" : PySem.Str) == "mod") = false := by decide +kernel
@[simp] theorem q_me_less : (("me" : PySem.Str) == "less") = false := by decide +kernel
@[simp] theorem q_me_add : (("me" : PySem.Str) == "add") = false := by decide +kernel
@[simp] theorem q_me_sub : (("me" : PySem.Str) == "sub") = false := by decide +kernel
@[simp] theorem q_me_min : (("me" : PySem.Str) == "min") = false := by decide +kernel
@[simp] theorem q_me_max : (("me" : PySem.Str) == "max") = false := by decide +kernel
@[simp] theorem q_me_worth : (("me" : PySem.Str) == "worth") = false := by decide +kernel
@[simp] theorem q_me_me : (("me" : PySem.Str) == "me") = true := by decide +kernel
@[simp] theorem q_me_round : (("me" : PySem.Str) == "round") = false := by decide +kernel
@[simp] theorem q_me_lines : (("me" : PySem.Str) == "lines") = false := by decide +kernel
@[simp] theorem q_me_to : (("me" : PySem.Str) == "to") = false := by decide +kernel
@[simp] theorem q_me_sum : (("me" : PySem.Str) == "sum") = false := by decide +kernel
@[simp] theorem q_me_least : (("me" : PySem.Str) == "least") = false := by decide +kernel
@[simp] theorem q_me_most : (("me" : PySem.Str) == "most") = false := by decide +kernel
@[simp] theorem q_me_count : (("me" : PySem.Str) == "count") = false := by decide +kernel
@[simp] theorem so_round : PyData.strOk ("round" : PySem.Str) = true := by decide +kernel
@[simp] theorem q_round_num : (("round" : PySem.Str) == "num") = false := by decide +kernel
@[simp] theorem q_round_name : (("round" : PySem.Str) == "name") = false := by decide +kernel
@[simp] theorem q_round_mod : (("round" : PySem.Str) == "mod") = false := by decide +kernel
@[simp] theorem q_round_less : (("round" : PySem.Str) == "less") = false := by decide +kernel
@[simp] theorem q_round_add : (("round" : PySem.Str) == "add") = false := by decide +kernel
@[simp] theorem q_round_sub : (("round" : PySem.Str) == "sub") = false := by decide +kernel
@[simp] theorem q_round_min : (("round" : PySem.Str) == "min") = false := by decide +kernel
@[simp] theorem q_round_max : (("round" : PySem.Str) == "max") = false := by decide +kernel
@[simp] theorem q_round_worth : (("round" : PySem.Str) == "worth") = false := by decide +kernel
@[simp] theorem q_round_me : (("round" : PySem.Str) == "me") = false := by decide +kernel
@[simp] theorem q_round_round : (("round" : PySem.Str) == "round") = true := by decide +kernel
@[simp] theorem q_round_lines : (("round" : PySem.Str) == "lines") = false := by decide +kernel
@[simp] theorem q_round_to : (("round" : PySem.Str) == "to") = false := by decide +kernel
@[simp] theorem q_round_sum : (("round" : PySem.Str) == "sum") = false := by decide +kernel
@[simp] theorem q_round_least : (("round" : PySem.Str) == "least") = false := by decide +kernel
@[simp] theorem q_round_most : (("round" : PySem.Str) == "most") = false := by decide +kernel
@[simp] theorem q_round_count : (("round" : PySem.Str) == "count") = false := by decide +kernel
@[simp] theorem so_lines : PyData.strOk ("lines" : PySem.Str) = true := by decide +kernel
@[simp] theorem q_lines_num : (("lines" : PySem.Str) == "num") = false := by decide +kernel
@[simp] theorem q_lines_name : (("lines" : PySem.Str) == "name") = false := by decide +kernel
@[simp] theorem q_lines_mod : (("lines" : PySem.Str) == "mod") = false := by decide +kernel
@[simp] theorem q_lines_less : (("lines" : PySem.Str) == "less") = false := by decide +kernel
@[simp] theorem q_lines_add : (("lines" : PySem.Str) == "add") = false := by decide +kernel
@[simp] theorem q_lines_sub : (("lines" : PySem.Str) == "sub") = false := by decide +kernel
@[simp] theorem q_lines_min : (("lines" : PySem.Str) == "min") = false := by decide +kernel
@[simp] theorem q_lines_max : (("lines" : PySem.Str) == "max") = false := by decide +kernel
@[simp] theorem q_lines_worth : (("lines" : PySem.Str) == "worth") = false := by decide +kernel
@[simp] theorem q_lines_me : (("lines" : PySem.Str) == "me") = false := by decide +kernel
@[simp] theorem q_lines_round : (("lines" : PySem.Str) == "round") = false := by decide +kernel
@[simp] theorem q_lines_lines : (("lines" : PySem.Str) == "lines") = true := by decide +kernel
@[simp] theorem q_lines_to : (("lines" : PySem.Str) == "to") = false := by decide +kernel
@[simp] theorem q_lines_sum : (("lines" : PySem.Str) == "sum") = false := by decide +kernel
@[simp] theorem q_lines_least : (("lines" : PySem.Str) == "least") = false := by decide +kernel
@[simp] theorem q_lines_most : (("lines" : PySem.Str) == "most") = false := by decide +kernel
@[simp] theorem q_lines_count : (("lines" : PySem.Str) == "count") = false := by decide +kernel
@[simp] theorem so_to : PyData.strOk ("to" : PySem.Str) = true := by decide +kernel
@[simp] theorem q_to_num : (("to" : PySem.Str) == "num") = false := by decide +kernel
@[simp] theorem q_to_name : (("to" : PySem.Str) == "name") = false := by decide +kernel
@[simp] theorem q_to_mod : (("to" : PySem.Str) == "mod") = false := by decide +kernel
@[simp] theorem q_to_less : (("to" : PySem.Str) == "less") = false := by decide +kernel
@[simp] theorem q_to_add : (("to" : PySem.Str) == "add") = false := by decide +kernel
@[simp] theorem q_to_sub : (("to" : PySem.Str) == "sub") = false := by decide +kernel
@[simp] theorem q_to_min : (("to" : PySem.Str) == "min") = false := by decide +kernel
@[simp] theorem q_to_max : (("to" : PySem.Str) == "max") = false := by decide +kernel
@[simp] theorem q_to_worth : (("to" : PySem.Str) == "worth") = false := by decide +kernel
@[simp] theorem q_to_me : (("to" : PySem.Str) == "me") = false := by decide +kernel
@[simp] theorem q_to_round : (("to" : PySem.Str) == "round") = false := by decide +kernel
@[simp] theorem q_to_lines : (("to" : PySem.Str) == "lines") = false := by decide +kernel
@[simp] theorem q_to_to : (("to" : PySem.Str) == "to") = true := by decide +kernel
@[simp] theorem q_to_sum : (("to" : PySem.Str) == "sum") = false := by decide +kernel
@[simp] theorem q_to_least : (("to" : PySem.Str) == "least") = false := by decide +kernel
@[simp] theorem q_to_most : (("to" : PySem.Str) == "most") = false := by decide +kernel
@[simp] theorem q_to_count : (("to" : PySem.Str) == "count") = false := by decide +kernel
@[simp] theorem so_sum : PyData.strOk ("sum" : PySem.Str) = true := by decide +kernel
@[simp] theorem q_sum_num : (("sum" : PySem.Str) == "num") = false := by decide +kernel
@[simp] theorem q_sum_name : (("sum" : PySem.Str) == "name") = false := by decide +kernel
@[simp] theorem q_sum_mod : (("sum" : PySem.Str) == "mod") = false := by decide +kernel
@[simp] theorem q_sum_less : (("sum" : PySem.Str) == "less") = false := by decide +kernel
@[simp] theorem q_sum_add : (("sum" : PySem.Str) == "add") = false := by decide +kernel
@[simp] theorem q_sum_sub : (("sum" : PySem.Str) == "sub") = false := by decide +kernel
@[simp] theorem q_sum_min : (("sum" : PySem.Str) == "min") = false := by decide +kernel
@[simp] theorem q_sum_max : (("sum" : PySem.Str) == "max") = false := by decide +kernel
@[simp] theorem q_sum_worth : (("sum" : PySem.Str) == "worth") = false := by decide +kernel
@[simp] theorem q_sum_me : (("sum" : PySem.Str) == "me") = false := by decide +kernel
@[simp] theorem q_sum_round : (("sum" : PySem.Str) == "round") = false := by decide +kernel
@[simp] theorem q_sum_lines : (("sum" : PySem.Str) == "lines") = false := by decide +kernel
@[simp] theorem q_sum_to : (("sum" : PySem.Str) == "to") = false := by decide +kernel
@[simp] theorem q_sum_sum : (("sum" : PySem.Str) == "sum") = true := by decide +kernel
@[simp] theorem q_sum_least : (("sum" : PySem.Str) == "least") = false := by decide +kernel
@[simp] theorem q_sum_most : (("sum" : PySem.Str) == "most") = false := by decide +kernel
@[simp] theorem q_sum_count : (("sum" : PySem.Str) == "count") = false := by decide +kernel
@[simp] theorem so_least : PyData.strOk ("least" : PySem.Str) = true := by decide +kernel
@[simp] theorem q_least_num : (("least" : PySem.Str) == "num") = false := by decide +kernel
@[simp] theorem q_least_name : (("least" : PySem.Str) == "name") = false := by decide +kernel
@[simp] theorem q_least_mod : (("least" : PySem.Str) == "mod") = false := by decide +kernel
@[simp] theorem q_least_less : (("least" : PySem.Str) == "less") = false := by decide +kernel
@[simp] theorem q_least_add : (("least" : PySem.Str) == "add") = false := by decide +kernel
@[simp] theorem q_least_sub : (("least" : PySem.Str) == "sub") = false := by decide +kernel
@[simp] theorem q_least_min : (("least" : PySem.Str) == "min") = false := by decide +kernel
@[simp] theorem q_least_max : (("least" : PySem.Str) == "max") = false := by decide +kernel
@[simp] theorem q_least_worth : (("least" : PySem.Str) == "worth") = false := by decide +kernel
@[simp] theorem q_least_me : (("least" : PySem.Str) == "me") = false := by decide +kernel
@[simp] theorem q_least_round : (("least" : PySem.Str) == "round") = false := by decide +kernel
@[simp] theorem q_least_lines : (("least" : PySem.Str) == "lines") = false := by decide +kernel
@[simp] theorem q_least_to : (("least" : PySem.Str) == "to") = false := by decide +kernel
@[simp] theorem q_least_sum : (("least" : PySem.Str) == "sum") = false := by decide +kernel
@[simp] theorem q_least_least : (("least" : PySem.Str) == "least") = true := by decide +kernel
@[simp] theorem q_least_most : (("least" : PySem.Str) == "most") = false := by decide +kernel
@[simp] theorem q_least_count : (("least" : PySem.Str) == "count") = false := by decide +kernel
@[simp] theorem so_most : PyData.strOk ("most" : PySem.Str) = true := by decide +kernel
@[simp] theorem q_most_num : (("most" : PySem.Str) == "num") = false := by decide +kernel
@[simp] theorem q_most_name : (("most" : PySem.Str) == "name") = false := by decide +kernel
@[simp] theorem q_most_mod : (("most" : PySem.Str) == "mod") = false := by decide +kernel
@[simp] theorem q_most_less : (("most" : PySem.Str) == "less") = false := by decide +kernel
@[simp] theorem q_most_add : (("most" : PySem.Str) == "add") = false := by decide +kernel
@[simp] theorem q_most_sub : (("most" : PySem.Str) == "sub") = false := by decide +kernel
@[simp] theorem q_most_min : (("most" : PySem.Str) == "min") = false := by decide +kernel
@[simp] theorem q_most_max : (("most" : PySem.Str) == "max") = false := by decide +kernel
@[simp] theorem q_most_worth : (("most" : PySem.Str) == "worth") = false := by decide +kernel
@[simp] theorem q_most_me : (("most" : PySem.Str) == "me") = false := by decide +kernel
@[simp] theorem q_most_round : (("most" : PySem.Str) == "round") = false := by decide +kernel
@[simp] theorem q_most_lines : (("most" : PySem.Str) == "lines") = false := by decide +kernel
@[simp] theorem q_most_to : (("most" : PySem.Str) == "to") = false := by decide +kernel
@[simp] theorem q_most_sum : (("most" : PySem.Str) == "sum") = false := by decide +kernel
@[simp] theorem q_most_least : (("most" : PySem.Str) == "least") = false := by decide +kernel
@[simp] theorem q_most_most : (("most" : PySem.Str) == "most") = true := by decide +kernel
@[simp] theorem q_most_count : (("most" : PySem.Str) == "count") = false := by decide +kernel
@[simp] theorem so_count : PyData.strOk ("count" : PySem.Str) = true := by decide +kernel
@[simp] theorem q_count_num : (("count" : PySem.Str) == "num") = false := by decide +kernel
@[simp] theorem q_count_name : (("count" : PySem.Str) == "name") = false := by decide +kernel
@[simp] theorem q_count_mod : (("count" : PySem.Str) == "mod") = false := by decide +kernel
@[simp] theorem q_count_less : (("count" : PySem.Str) == "less") = false := by decide +kernel
@[simp] theorem q_count_add : (("count" : PySem.Str) == "add") = false := by decide +kernel
@[simp] theorem q_count_sub : (("count" : PySem.Str) == "sub") = false := by decide +kernel
@[simp] theorem q_count_min : (("count" : PySem.Str) == "min") = false := by decide +kernel
@[simp] theorem q_count_max : (("count" : PySem.Str) == "max") = false := by decide +kernel
@[simp] theorem q_count_worth : (("count" : PySem.Str) == "worth") = false := by decide +kernel
@[simp] theorem q_count_me : (("count" : PySem.Str) == "me") = false := by decide +kernel
@[simp] theorem q_count_round : (("count" : PySem.Str) == "round") = false := by decide +kernel
@[simp] theorem q_count_lines : (("count" : PySem.Str) == "lines") = false := by decide +kernel
@[simp] theorem q_count_to : (("count" : PySem.Str) == "to") = false := by decide +kernel
@[simp] theorem q_count_sum : (("count" : PySem.Str) == "sum") = false := by decide +kernel
@[simp] theorem q_count_least : (("count" : PySem.Str) == "least") = false := by decide +kernel
@[simp] theorem q_count_most : (("count" : PySem.Str) == "most") = false := by decide +kernel
@[simp] theorem q_count_count : (("count" : PySem.Str) == "count") = true := by decide +kernel
end L3.EX
namespace L3.EX
open PySem L2
@[simp] theorem n_num_name : (("num" : PySem.Str) = "name") = False := eq_false (by decide +kernel)
@[simp] theorem n_num_mod : (("num" : PySem.Str) = "mod") = False := eq_false (by decide +kernel)
@[simp] theorem n_num_less : (("num" : PySem.Str) = "less") = False := eq_false (by decide +kernel)
@[simp] theorem n_num_add : (("num" : PySem.Str) = "add") = False := eq_false (by decide +kernel)
@[simp] theorem n_num_sub : (("num" : PySem.Str) = "sub") = False := eq_false (by decide +kernel)
@[simp] theorem n_num_min : (("num" : PySem.Str) = "min") = False := eq_false (by decide +kernel)
@[simp] theorem n_num_max : (("num" : PySem.Str) = "max") = False := eq_false (by decide +kernel)
@[simp] theorem n_num_worth : (("num" : PySem.Str) = "worth") = False := eq_false (by decide +kernel)
@[simp] theorem n_num_me : (("num" : PySem.Str) = "me") = False := eq_false (by decide +kernel)
@[simp] theorem n_num_round : (("num" : PySem.Str) = "round") = False := eq_false (by decide +kernel)
@[simp] theorem n_num_lines : (("num" : PySem.Str) = "lines") = False := eq_false (by decide +kernel)
@[simp] theorem n_num_to : (("num" : PySem.Str) = "to") = False := eq_false (by decide +kernel)
@[simp] theorem n_num_sum : (("num" : PySem.Str) = "sum") = False := eq_false (by decide +kernel)
@[simp] theorem n_num_least : (("num" : PySem.Str) = "least") = False := eq_false (by decide +kernel)
@[simp] theorem n_num_most : (("num" : PySem.Str) = "most") = False := eq_false (by decide +kernel)
@[simp] theorem n_num_count : (("num" : PySem.Str) = "count") = False := eq_false (by decide +kernel)
@[simp] theorem n_name_num : (("name" : PySem.Str) = "num") = False := eq_false (by decide +kernel)
@[simp] theorem n_name_mod : (("name" : PySem.Str) = "mod") = False := eq_false (by decide +kernel)
@[simp] theorem n_name_less : (("name" : PySem.Str) = "less") = False := eq_false (by decide +kernel)
@[simp] theorem n_name_add : (("name" : PySem.Str) = "add") = False := eq_false (by decide +kernel)
@[simp] theorem n_name_sub : (("name" : PySem.Str) = "sub") = False := eq_false (by decide +kernel)
@[simp] theorem n_name_min : (("name" : PySem.Str) = "min") = False := eq_false (by decide +kernel)
@[simp] theorem n_name_max : (("name" : PySem.Str) = "max") = False := eq_false (by decide +kernel)
@[simp] theorem n_name_worth : (("name" : PySem.Str) = "worth") = False := eq_false (by decide +kernel)
@[simp] theorem n_name_me : (("name" : PySem.Str) = "me") = False := eq_false (by decide +kernel)
@[simp] theorem n_name_round : (("name" : PySem.Str) = "round") = False := eq_false (by decide +kernel)
@[simp] theorem n_name_lines : (("name" : PySem.Str) = "lines") = False := eq_false (by decide +kernel)
@[simp] theorem n_name_to : (("name" : PySem.Str) = "to") = False := eq_false (by decide +kernel)
@[simp] theorem n_name_sum : (("name" : PySem.Str) = "sum") = False := eq_false (by decide +kernel)
@[simp] theorem n_name_least : (("name" : PySem.Str) = "least") = False := eq_false (by decide +kernel)
@[simp] theorem n_name_most : (("name" : PySem.Str) = "most") = False := eq_false (by decide +kernel)
@[simp] theorem n_name_count : (("name" : PySem.Str) = "count") = False := eq_false (by decide +kernel)
@[simp] theorem n_mod_num : (("mod" : PySem.Str) = "num") = False := eq_false (by decide +kernel)
@[simp] theorem n_mod_name : (("mod" : PySem.Str) = "name") = False := eq_false (by decide +kernel)
@[simp] theorem n_mod_less : (("mod" : PySem.Str) = "less") = False := eq_false (by decide +kernel)
@[simp] theorem n_mod_add : (("mod" : PySem.Str) = "add") = False := eq_false (by decide +kernel)
@[simp] theorem n_mod_sub : (("mod" : PySem.Str) = "sub") = False := eq_false (by decide +kernel)
@[simp] theorem n_mod_min : (("mod" : PySem.Str) = "min") = False := eq_false (by decide +kernel)
@[simp] theorem n_mod_max : (("mod" : PySem.Str) = "max") = False := eq_false (by decide +kernel)
@[simp] theorem n_mod_worth : (("mod" : PySem.Str) = "worth") = False := eq_false (by decide +kernel)
@[simp] theorem n_mod_me : (("mod" : PySem.Str) = "me") = False := eq_false (by decide +kernel)
@[simp] theorem n_mod_round : (("mod" : PySem.Str) = "round") = False := eq_false (by decide +kernel)
@[simp] theorem n_mod_lines : (("mod" : PySem.Str) = "lines") = False := eq_false (by decide +kernel)
@[simp] theorem n_mod_to : (("mod" : PySem.Str) = "to") = False := eq_false (by decide +kernel)
@[simp] theorem n_mod_sum : (("mod" : PySem.Str) = "sum") = False := eq_false (by decide +kernel)
@[simp] theorem n_mod_least : (("mod" : PySem.Str) = "least") = False := eq_false (by decide +kernel)
@[simp] theorem n_mod_most : (("mod" : PySem.Str) = "most") = False := eq_false (by decide +kernel)
@[simp] theorem n_mod_count : (("mod" : PySem.Str) = "count") = False := eq_false (by decide +kernel)
@[simp] theorem n_less_num : (("less" : PySem.Str) = "num") = False := eq_false (by decide +kernel)
@[simp] theorem n_less_name : (("less" : PySem.Str) = "name") = False := eq_false (by decide +kernel)
@[simp] theorem n_less_mod : (("less" : PySem.Str) = "mod") = False := eq_false (by decide +kernel)
@[simp] theorem n_less_add : (("less" : PySem.Str) = "add") = False := eq_false (by decide +kernel)
@[simp] theorem n_less_sub : (("less" : PySem.Str) = "sub") = False := eq_false (by decide +kernel)
@[simp] theorem n_less_min : (("less" : PySem.Str) = "min") = False := eq_false (by decide +kernel)
@[simp] theorem n_less_max : (("less" : PySem.Str) = "max") = False := eq_false (by decide +kernel)
@[simp] theorem n_less_worth : (("less" : PySem.Str) = "worth") = False := eq_false (by decide +kernel)
@[simp] theorem n_less_me : (("less" : PySem.Str) = "me") = False := eq_false (by decide +kernel)
@[simp] theorem n_less_round : (("less" : PySem.Str) = "round") = False := eq_false (by decide +kernel)
@[simp] theorem n_less_lines : (("less" : PySem.Str) = "lines") = False := eq_false (by decide +kernel)
@[simp] theorem n_less_to : (("less" : PySem.Str) = "to") = False := eq_false (by decide +kernel)
@[simp] theorem n_less_sum : (("less" : PySem.Str) = "sum") = False := eq_false (by decide +kernel)
@[simp] theorem n_less_least : (("less" : PySem.Str) = "least") = False := eq_false (by decide +kernel)
@[simp] theorem n_less_most : (("less" : PySem.Str) = "most") = False := eq_false (by decide +kernel)
@[simp] theorem n_less_count : (("less" : PySem.Str) = "count") = False := eq_false (by decide +kernel)
@[simp] theorem n_add_num : (("add" : PySem.Str) = "num") = False := eq_false (by decide +kernel)
@[simp] theorem n_add_name : (("add" : PySem.Str) = "name") = False := eq_false (by decide +kernel)
@[simp] theorem n_add_mod : (("add" : PySem.Str) = "mod") = False := eq_false (by decide +kernel)
@[simp] theorem n_add_less : (("add" : PySem.Str) = "less") = False := eq_false (by decide +kernel)
@[simp] theorem n_add_sub : (("add" : PySem.Str) = "sub") = False := eq_false (by decide +kernel)
@[simp] theorem n_add_min : (("add" : PySem.Str) = "min") = False := eq_false (by decide +kernel)
@[simp] theorem n_add_max : (("add" : PySem.Str) = "max") = False := eq_false (by decide +kernel)
@[simp] theorem n_add_worth : (("add" : PySem.Str) = "worth") = False := eq_false (by decide +kernel)
@[simp] theorem n_add_me : (("add" : PySem.Str) = "me") = False := eq_false (by decide +kernel)
@[simp] theorem n_add_round : (("add" : PySem.Str) = "round") = False := eq_false (by decide +kernel)
@[simp] theorem n_add_lines : (("add" : PySem.Str) = "lines") = False := eq_false (by decide +kernel)
@[simp] theorem n_add_to : (("add" : PySem.Str) = "to") = False := eq_false (by decide +kernel)
@[simp] theorem n_add_sum : (("add" : PySem.Str) = "sum") = False := eq_false (by decide +kernel)
@[simp] theorem n_add_least : (("add" : PySem.Str) = "least") = False := eq_false (by decide +kernel)
@[simp] theorem n_add_most : (("add" : PySem.Str) = "most") = False := eq_false (by decide +kernel)
@[simp] theorem n_add_count : (("add" : PySem.Str) = "count") = False := eq_false (by decide +kernel)
@[simp] theorem n_sub_num : (("sub" : PySem.Str) = "num") = False := eq_false (by decide +kernel)
@[simp] theorem n_sub_name : (("sub" : PySem.Str) = "name") = False := eq_false (by decide +kernel)
@[simp] theorem n_sub_mod : (("sub" : PySem.Str) = "mod") = False := eq_false (by decide +kernel)
@[simp] theorem n_sub_less : (("sub" : PySem.Str) = "less") = False := eq_false (by decide +kernel)
@[simp] theorem n_sub_add : (("sub" : PySem.Str) = "add") = False := eq_false (by decide +kernel)
@[simp] theorem n_sub_min : (("sub" : PySem.Str) = "min") = False := eq_false (by decide +kernel)
@[simp] theorem n_sub_max : (("sub" : PySem.Str) = "max") = False := eq_false (by decide +kernel)
@[simp] theorem n_sub_worth : (("sub" : PySem.Str) = "worth") = False := eq_false (by decide +kernel)
@[simp] theorem n_sub_me : (("sub" : PySem.Str) = "me") = False := eq_false (by decide +kernel)
@[simp] theorem n_sub_round : (("sub" : PySem.Str) = "round") = False := eq_false (by decide +kernel)
@[simp] theorem n_sub_lines : (("sub" : PySem.Str) = "lines") = False := eq_false (by decide +kernel)
@[simp] theorem n_sub_to : (("sub" : PySem.Str) = "to") = False := eq_false (by decide +kernel)
@[simp] theorem n_sub_sum : (("sub" : PySem.Str) = "sum") = False := eq_false (by decide +kernel)
@[simp] theorem n_sub_least : (("sub" : PySem.Str) = "least") = False := eq_false (by decide +kernel)
@[simp] theorem n_sub_most : (("sub" : PySem.Str) = "most") = False := eq_false (by decide +kernel)
@[simp] theorem n_sub_count : (("sub" : PySem.Str) = "count") = False := eq_false (by decide +kernel)
@[simp] theorem n_min_num : (("min" : PySem.Str) = "num") = False := eq_false (by decide +kernel)
@[simp] theorem n_min_name : (("min" : PySem.Str) = "name") = False := eq_false (by decide +kernel)
@[simp] theorem n_min_mod : (("min" : PySem.Str) = "mod") = False := eq_false (by decide +kernel)
@[simp] theorem n_min_less : (("min" : PySem.Str) = "less") = False := eq_false (by decide +kernel)
@[simp] theorem n_min_add : (("min" : PySem.Str) = "add") = False := eq_false (by decide +kernel)
@[simp] theorem n_min_sub : (("min" : PySem.Str) = "sub") = False := eq_false (by decide +kernel)
@[simp] theorem n_min_max : (("min" : PySem.Str) = "max") = False := eq_false (by decide +kernel)
@[simp] theorem n_min_worth : (("min" : PySem.Str) = "worth") = False := eq_false (by decide +kernel)
@[simp] theorem n_min_me : (("min" : PySem.Str) = "me") = False := eq_false (by decide +kernel)
@[simp] theorem n_min_round : (("min" : PySem.Str) = "round") = False := eq_false (by decide +kernel)
@[simp] theorem n_min_lines : (("min" : PySem.Str) = "lines") = False := eq_false (by decide +kernel)
@[simp] theorem n_min_to : (("min" : PySem.Str) = "to") = False := eq_false (by decide +kernel)
@[simp] theorem n_min_sum : (("min" : PySem.Str) = "sum") = False := eq_false (by decide +kernel)
@[simp] theorem n_min_least : (("min" : PySem.Str) = "least") = False := eq_false (by decide +kernel)
@[simp] theorem n_min_most : (("min" : PySem.Str) = "most") = False := eq_false (by decide +kernel)
@[simp] theorem n_min_count : (("min" : PySem.Str) = "count") = False := eq_false (by decide +kernel)
@[simp] theorem n_max_num : (("max" : PySem.Str) = "num") = False := eq_false (by decide +kernel)
@[simp] theorem n_max_name : (("max" : PySem.Str) = "name") = False := eq_false (by decide +kernel)
@[simp] theorem n_max_mod : (("max" : PySem.Str) = "mod") = False := eq_false (by decide +kernel)
@[simp] theorem n_max_less : (("max" : PySem.Str) = "less") = False := eq_false (by decide +kernel)
@[simp] theorem n_max_add : (("max" : PySem.Str) = "add") = False := eq_false (by decide +kernel)
@[simp] theorem n_max_sub : (("max" : PySem.Str) = "sub") = False := eq_false (by decide +kernel)
@[simp] theorem n_max_min : (("max" : PySem.Str) = "min") = False := eq_false (by decide +kernel)
@[simp] theorem n_max_worth : (("max" : PySem.Str) = "worth") = False := eq_false (by decide +kernel)
@[simp] theorem n_max_me : (("max" : PySem.Str) = "me") = False := eq_false (by decide +kernel)
@[simp] theorem n_max_round : (("max" : PySem.Str) = "round") = False := eq_false (by decide +kernel)
@[simp] theorem n_max_lines : (("max" : PySem.Str) = "lines") = False := eq_false (by decide +kernel)
@[simp] theorem n_max_to : (("max" : PySem.Str) = "to") = False := eq_false (by decide +kernel)
@[simp] theorem n_max_sum : (("max" : PySem.Str) = "sum") = False := eq_false (by decide +kernel)
@[simp] theorem n_max_least : (("max" : PySem.Str) = "least") = False := eq_false (by decide +kernel)
@[simp] theorem n_max_most : (("max" : PySem.Str) = "most") = False := eq_false (by decide +kernel)
@[simp] theorem n_max_count : (("max" : PySem.Str) = "count") = False := eq_false (by decide +kernel)
@[simp] theorem n_worth_num : (("worth" : PySem.Str) = "num") = False := eq_false (by decide +kernel)
@[simp] theorem n_worth_name : (("worth" : PySem.Str) = "name") = False := eq_false (by decide +kernel)
@[simp] theorem n_worth_mod : (("worth" : PySem.Str) = "mod") = False := eq_false (by decide +kernel)
@[simp] theorem n_worth_less : (("worth" : PySem.Str) = "less") = False := eq_false (by decide +kernel)
@[simp] theorem n_worth_add : (("worth" : PySem.Str) = "add") = False := eq_false (by decide +kernel)
@[simp] theorem n_worth_sub : (("worth" : PySem.Str) = "sub") = False := eq_false (by decide +kernel)
@[simp] theorem n_worth_min : (("worth" : PySem.Str) = "min") = False := eq_false (by decide +kernel)
@[simp] theorem n_worth_max : (("worth" : PySem.Str) = "max") = False := eq_false (by decide +kernel)
@[simp] theorem n_worth_me : (("worth" : PySem.Str) = "me") = False := eq_false (by decide +kernel)
@[simp] theorem n_worth_round : (("worth" : PySem.Str) = "round") = False := eq_false (by decide +kernel)
@[simp] theorem n_worth_lines : (("worth" : PySem.Str) = "lines") = False := eq_false (by decide +kernel)
@[simp] theorem n_worth_to : (("worth" : PySem.Str) = "to") = False := eq_false (by decide +kernel)
@[simp] theorem n_worth_sum : (("worth" : PySem.Str) = "sum") = False := eq_false (by decide +kernel)
@[simp] theorem n_worth_least : (("worth" : PySem.Str) = "least") = False := eq_false (by decide +kernel)
@[simp] theorem n_worth_most : (("worth" : PySem.Str) = "most") = False := eq_false (by decide +kernel)
@[simp] theorem n_worth_count : (("worth" : PySem.Str) = "count") = False := eq_false (by decide +kernel)
@[simp] theorem n_me_num : (("me" : PySem.Str) = "num") = False := eq_false (by decide +kernel)
@[simp] theorem n_me_name : (("me" : PySem.Str) = "name") = False := eq_false (by decide +kernel)
@[simp] theorem n_me_mod : (("me" : PySem.Str) = "mod") = False := eq_false (by decide +kernel)
@[simp] theorem n_me_less : (("me" : PySem.Str) = "less") = False := eq_false (by decide +kernel)
@[simp] theorem n_me_add : (("me" : PySem.Str) = "add") = False := eq_false (by decide +kernel)
@[simp] theorem n_me_sub : (("me" : PySem.Str) = "sub") = False := eq_false (by decide +kernel)
@[simp] theorem n_me_min : (("me" : PySem.Str) = "min") = False := eq_false (by decide +kernel)
@[simp] theorem n_me_max : (("me" : PySem.Str) = "max") = False := eq_false (by decide +kernel)
@[simp] theorem n_me_worth : (("me" : PySem.Str) = "worth") = False := eq_false (by decide +kernel)
@[simp] theorem n_me_round : (("me" : PySem.Str) = "round") = False := eq_false (by decide +kernel)
@[simp] theorem n_me_lines : (("me" : PySem.Str) = "lines") = False := eq_false (by decide +kernel)
@[simp] theorem n_me_to : (("me" : PySem.Str) = "to") = False := eq_false (by decide +kernel)
@[simp] theorem n_me_sum : (("me" : PySem.Str) = "sum") = False := eq_false (by decide +kernel)
@[simp] theorem n_me_least : (("me" : PySem.Str) = "least") = False := eq_false (by decide +kernel)
@[simp] theorem n_me_most : (("me" : PySem.Str) = "most") = False := eq_false (by decide +kernel)
@[simp] theorem n_me_count : (("me" : PySem.Str) = "count") = False := eq_false (by decide +kernel)
@[simp] theorem n_round_num : (("round" : PySem.Str) = "num") = False := eq_false (by decide +kernel)
@[simp] theorem n_round_name : (("round" : PySem.Str) = "name") = False := eq_false (by decide +kernel)
@[simp] theorem n_round_mod : (("round" : PySem.Str) = "mod") = False := eq_false (by decide +kernel)
@[simp] theorem n_round_less : (("round" : PySem.Str) = "less") = False := eq_false (by decide +kernel)
@[simp] theorem n_round_add : (("round" : PySem.Str) = "add") = False := eq_false (by decide +kernel)
@[simp] theorem n_round_sub : (("round" : PySem.Str) = "sub") = False := eq_false (by decide +kernel)
@[simp] theorem n_round_min : (("round" : PySem.Str) = "min") = False := eq_false (by decide +kernel)
@[simp] theorem n_round_max : (("round" : PySem.Str) = "max") = False := eq_false (by decide +kernel)
@[simp] theorem n_round_worth : (("round" : PySem.Str) = "worth") = False := eq_false (by decide +kernel)
@[simp] theorem n_round_me : (("round" : PySem.Str) = "me") = False := eq_false (by decide +kernel)
@[simp] theorem n_round_lines : (("round" : PySem.Str) = "lines") = False := eq_false (by decide +kernel)
@[simp] theorem n_round_to : (("round" : PySem.Str) = "to") = False := eq_false (by decide +kernel)
@[simp] theorem n_round_sum : (("round" : PySem.Str) = "sum") = False := eq_false (by decide +kernel)
@[simp] theorem n_round_least : (("round" : PySem.Str) = "least") = False := eq_false (by decide +kernel)
@[simp] theorem n_round_most : (("round" : PySem.Str) = "most") = False := eq_false (by decide +kernel)
@[simp] theorem n_round_count : (("round" : PySem.Str) = "count") = False := eq_false (by decide +kernel)
@[simp] theorem n_lines_num : (("lines" : PySem.Str) = "num") = False := eq_false (by decide +kernel)
@[simp] theorem n_lines_name : (("lines" : PySem.Str) = "name") = False := eq_false (by decide +kernel)
@[simp] theorem n_lines_mod : (("lines" : PySem.Str) = "mod") = False := eq_false (by decide +kernel)
@[simp] theorem n_lines_less : (("lines" : PySem.Str) = "less") = False := eq_false (by decide +kernel)
@[simp] theorem n_lines_add : (("lines" : PySem.Str) = "add") = False := eq_false (by decide +kernel)
@[simp] theorem n_lines_sub : (("lines" : PySem.Str) = "sub") = False := eq_false (by decide +kernel)
@[simp] theorem n_lines_min : (("lines" : PySem.Str) = "min") = False := eq_false (by decide +kernel)
@[simp] theorem n_lines_max : (("lines" : PySem.Str) = "max") = False := eq_false (by decide +kernel)
@[simp] theorem n_lines_worth : (("lines" : PySem.Str) = "worth") = False := eq_false (by decide +kernel)
@[simp] theorem n_lines_me : (("lines" : PySem.Str) = "me") = False := eq_false (by decide +kernel)
@[simp] theorem n_lines_round : (("lines" : PySem.Str) = "round") = False := eq_false (by decide +kernel)
@[simp] theorem n_lines_to : (("lines" : PySem.Str) = "to") = False := eq_false (by decide +kernel)
@[simp] theorem n_lines_sum : (("lines" : PySem.Str) = "sum") = False := eq_false (by decide +kernel)
@[simp] theorem n_lines_least : (("lines" : PySem.Str) = "least") = False := eq_false (by decide +kernel)
@[simp] theorem n_lines_most : (("lines" : PySem.Str) = "most") = False := eq_false (by decide +kernel)
@[simp] theorem n_lines_count : (("lines" : PySem.Str) = "count") = False := eq_false (by decide +kernel)
@[simp] theorem n_to_num : (("to" : PySem.Str) = "num") = False := eq_false (by decide +kernel)
@[simp] theorem n_to_name : (("to" : PySem.Str) = "name") = False := eq_false (by decide +kernel)
@[simp] theorem n_to_mod : (("to" : PySem.Str) = "mod") = False := eq_false (by decide +kernel)
@[simp] theorem n_to_less : (("to" : PySem.Str) = "less") = False := eq_false (by decide +kernel)
@[simp] theorem n_to_add : (("to" : PySem.Str) = "add") = False := eq_false (by decide +kernel)
@[simp] theorem n_to_sub : (("to" : PySem.Str) = "sub") = False := eq_false (by decide +kernel)
@[simp] theorem n_to_min : (("to" : PySem.Str) = "min") = False := eq_false (by decide +kernel)
@[simp] theorem n_to_max : (("to" : PySem.Str) = "max") = False := eq_false (by decide +kernel)
@[simp] theorem n_to_worth : (("to" : PySem.Str) = "worth") = False := eq_false (by decide +kernel)
@[simp] theorem n_to_me : (("to" : PySem.Str) = "me") = False := eq_false (by decide +kernel)
@[simp] theorem n_to_round : (("to" : PySem.Str) = "round") = False := eq_false (by decide +kernel)
@[simp] theorem n_to_lines : (("to" : PySem.Str) = "lines") = False := eq_false (by decide +kernel)
@[simp] theorem n_to_sum : (("to" : PySem.Str) = "sum") = False := eq_false (by decide +kernel)
@[simp] theorem n_to_least : (("to" : PySem.Str) = "least") = False := eq_false (by decide +kernel)
@[simp] theorem n_to_most : (("to" : PySem.Str) = "most") = False := eq_false (by decide +kernel)
@[simp] theorem n_to_count : (("to" : PySem.Str) = "count") = False := eq_false (by decide +kernel)
@[simp] theorem n_sum_num : (("sum" : PySem.Str) = "num") = False := eq_false (by decide +kernel)
@[simp] theorem n_sum_name : (("sum" : PySem.Str) = "name") = False := eq_false (by decide +kernel)
@[simp] theorem n_sum_mod : (("sum" : PySem.Str) = "mod") = False := eq_false (by decide +kernel)
@[simp] theorem n_sum_less : (("sum" : PySem.Str) = "less") = False := eq_false (by decide +kernel)
@[simp] theorem n_sum_add : (("sum" : PySem.Str) = "add") = False := eq_false (by decide +kernel)
@[simp] theorem n_sum_sub : (("sum" : PySem.Str) = "sub") = False := eq_false (by decide +kernel)
@[simp] theorem n_sum_min : (("sum" : PySem.Str) = "min") = False := eq_false (by decide +kernel)
@[simp] theorem n_sum_max : (("sum" : PySem.Str) = "max") = False := eq_false (by decide +kernel)
@[simp] theorem n_sum_worth : (("sum" : PySem.Str) = "worth") = False := eq_false (by decide +kernel)
@[simp] theorem n_sum_me : (("sum" : PySem.Str) = "me") = False := eq_false (by decide +kernel)
@[simp] theorem n_sum_round : (("sum" : PySem.Str) = "round") = False := eq_false (by decide +kernel)
@[simp] theorem n_sum_lines : (("sum" : PySem.Str) = "lines") = False := eq_false (by decide +kernel)
@[simp] theorem n_sum_to : (("sum" : PySem.Str) = "to") = False := eq_false (by decide +kernel)
@[simp] theorem n_sum_least : (("sum" : PySem.Str) = "least") = False := eq_false (by decide +kernel)
@[simp] theorem n_sum_most : (("sum" : PySem.Str) = "most") = False := eq_false (by decide +kernel)
@[simp] theorem n_sum_count : (("sum" : PySem.Str) = "count") = False := eq_false (by decide +kernel)
@[simp] theorem n_least_num : (("least" : PySem.Str) = "num") = False := eq_false (by decide +kernel)
@[simp] theorem n_least_name : (("least" : PySem.Str) = "name") = False := eq_false (by decide +kernel)
@[simp] theorem n_least_mod : (("least" : PySem.Str) = "mod") = False := eq_false (by decide +kernel)
@[simp] theorem n_least_less : (("least" : PySem.Str) = "less") = False := eq_false (by decide +kernel)
@[simp] theorem n_least_add : (("least" : PySem.Str) = "add") = False := eq_false (by decide +kernel)
@[simp] theorem n_least_sub : (("least" : PySem.Str) = "sub") = False := eq_false (by decide +kernel)
@[simp] theorem n_least_min : (("least" : PySem.Str) = "min") = False := eq_false (by decide +kernel)
@[simp] theorem n_least_max : (("least" : PySem.Str) = "max") = False := eq_false (by decide +kernel)
@[simp] theorem n_least_worth : (("least" : PySem.Str) = "worth") = False := eq_false (by decide +kernel)
@[simp] theorem n_least_me : (("least" : PySem.Str) = "me") = False := eq_false (by decide +kernel)
@[simp] theorem n_least_round : (("least" : PySem.Str) = "round") = False := eq_false (by decide +kernel)
@[simp] theorem n_least_lines : (("least" : PySem.Str) = "lines") = False := eq_false (by decide +kernel)
@[simp] theorem n_least_to : (("least" : PySem.Str) = "to") = False := eq_false (by decide +kernel)
@[simp] theorem n_least_sum : (("least" : PySem.Str) = "sum") = False := eq_false (by decide +kernel)
@[simp] theorem n_least_most : (("least" : PySem.Str) = "most") = False := eq_false (by decide +kernel)
@[simp] theorem n_least_count : (("least" : PySem.Str) = "count") = False := eq_false (by decide +kernel)
@[simp] theorem n_most_num : (("most" : PySem.Str) = "num") = False := eq_false (by decide +kernel)
@[simp] theorem n_most_name : (("most" : PySem.Str) = "name") = False := eq_false (by decide +kernel)
@[simp] theorem n_most_mod : (("most" : PySem.Str) = "mod") = False := eq_false (by decide +kernel)
@[simp] theorem n_most_less : (("most" : PySem.Str) = "less") = False := eq_false (by decide +kernel)
@[simp] theorem n_most_add : (("most" : PySem.Str) = "add") = False := eq_false (by decide +kernel)
@[simp] theorem n_most_sub : (("most" : PySem.Str) = "sub") = False := eq_false (by decide +kernel)
@[simp] theorem n_most_min : (("most" : PySem.Str) = "min") = False := eq_false (by decide +kernel)
@[simp] theorem n_most_max : (("most" : PySem.Str) = "max") = False := eq_false (by decide +kernel)
@[simp] theorem n_most_worth : (("most" : PySem.Str) = "worth") = False := eq_false (by decide +kernel)
@[simp] theorem n_most_me : (("most" : PySem.Str) = "me") = False := eq_false (by decide +kernel)
@[simp] theorem n_most_round : (("most" : PySem.Str) = "round") = False := eq_false (by decide +kernel)
@[simp] theorem n_most_lines : (("most" : PySem.Str) = "lines") = False := eq_false (by decide +kernel)
@[simp] theorem n_most_to : (("most" : PySem.Str) = "to") = False := eq_false (by decide +kernel)
@[simp] theorem n_most_sum : (("most" : PySem.Str) = "sum") = False := eq_false (by decide +kernel)
@[simp] theorem n_most_least : (("most" : PySem.Str) = "least") = False := eq_false (by decide +kernel)
@[simp] theorem n_most_count : (("most" : PySem.Str) = "count") = False := eq_false (by decide +kernel)
@[simp] theorem n_count_num : (("count" : PySem.Str) = "num") = False := eq_false (by decide +kernel)
@[simp] theorem n_count_name : (("count" : PySem.Str) = "name") = False := eq_false (by decide +kernel)
@[simp] theorem n_count_mod : (("count" : PySem.Str) = "mod") = False := eq_false (by decide +kernel)
@[simp] theorem n_count_less : (("count" : PySem.Str) = "less") = False := eq_false (by decide +kernel)
@[simp] theorem n_count_add : (("count" : PySem.Str) = "add") = False := eq_false (by decide +kernel)
@[simp] theorem n_count_sub : (("count" : PySem.Str) = "sub") = False := eq_false (by decide +kernel)
@[simp] theorem n_count_min : (("count" : PySem.Str) = "min") = False := eq_false (by decide +kernel)
@[simp] theorem n_count_max : (("count" : PySem.Str) = "max") = False := eq_false (by decide +kernel)
@[simp] theorem n_count_worth : (("count" : PySem.Str) = "worth") = False := eq_false (by decide +kernel)
@[simp] theorem n_count_me : (("count" : PySem.Str) = "me") = False := eq_false (by decide +kernel)
@[simp] theorem n_count_round : (("count" : PySem.Str) = "round") = False := eq_false (by decide +kernel)
@[simp] theorem n_count_lines : (("count" : PySem.Str) = "lines") = False := eq_false (by decide +kernel)
@[simp] theorem n_count_to : (("count" : PySem.Str) = "to") = False := eq_false (by decide +kernel)
@[simp] theorem n_count_sum : (("count" : PySem.Str) = "sum") = False := eq_false (by decide +kernel)
@[simp] theorem n_count_least : (("count" : PySem.Str) = "least") = False := eq_false (by decide +kernel)
@[simp] theorem n_count_most : (("count" : PySem.Str) = "most") = False := eq_false (by decide +kernel)
end L3.EX
set_option maxRecDepth 100000
set_option maxHeartbeats 4000000
namespace L3.EX
open PySem L2 K01
end L3.EX
set_option maxRecDepth 100000
set_option maxHeartbeats 4000000
namespace L3.EX
open PySem L2 K01
variable {c : Cfg}
/-! ### expressions -/
inductive Ex
  | thing (d : D) | base
  | num (v : D) | nam (w : D) | two (w : D) (a b : Ex) | mod (a : Ex) (n : D) | less (a b c d : Ex)
def cl : Ex → Nm
  | .thing _ => .law
  | .base => .Expr
  | .num _ => .Num
  | .nam _ => .Name
  | .two _ _ _ => .Two
  | .mod _ _ => .Mod
  | .less _ _ _ _ => .Less
def exD : Ex → D
  | .thing d => d
  | .base => .ins .Expr []
  | .num v => .ins .Num [(.value, v)]
  | .nam w => .ins .Name [(.word, w)]
  | .two w a b => .ins .Two [(.word, w), (.one, exD a), (.other, exD b)]
  | .mod a n => .ins .Mod [(.inner, exD a), (.number, n)]
  | .less a b c d => .ins .Less [(.one, exD a), (.other, exD b), (.third, exD c), (.fourth, exD d)]
def fsD : Ex → List (Nm × D)
  | .thing _ => []
  | .base => []
  | .num v => [(.value, v)]
  | .nam w => [(.word, w)]
  | .two w a b => [(.word, w), (.one, exD a), (.other, exD b)]
  | .mod a n => [(.inner, exD a), (.number, n)]
  | .less a b c d => [(.one, exD a), (.other, exD b), (.third, exD c), (.fourth, exD d)]
def isEx : Ex → Bool
  | .thing _ => false
  | _ => true
theorem exD_ins {e : Ex} (h : isEx e = true) : exD e = .ins (cl e) (fsD e) := by cases e <;> first | rfl | cases h
def tD : Ex → D
  | .num v => .tup [.str "num", v]
  | .nam w => .tup [.str "name", w]
  | .two w a b => .tup [w, tD a, tD b]
  | .mod a n => .tup [.str "mod", tD a, n]
  | .less a b c d => .tup [.str "less", tD a, tD b, tD c, tD d]
  | _ => .tup []
def dep : Ex → Nat
  | .two _ a b => max (dep a) (dep b) + 1
  | .mod a _ => dep a + 1
  | .less a b c d => max (max (dep a) (dep b)) (max (dep c) (dep d)) + 1
  | _ => 1
/-- an instance: as data, or at a place -/
def ExV (M : Mm) (d : D) (e : Ex) : Prop := isEx e = true ∧ (d = exD e ∨ ∃ a, d = .ref a ∧ M a = some (.ins (cl e) (fsD e)))
theorem ExV.ins {M : Mm} {d : D} {e : Ex} (h : ExV M d e) : insD M d = some (cl e, fsD e) := by
  obtain ⟨h1, rfl | ⟨a, rfl, h2⟩⟩ := h
  · rw [exD_ins h1]; rfl
  · simp [insD, h2]
theorem ExV.fld {M : Mm} {d : D} {e : Ex} (h : ExV M d e) (f : Nm) : fldD M d f = getF (fsD e) f := by
  unfold fldD
  rw [h.ins]
theorem ExV.of {M : Mm} {e : Ex} (h : isEx e = true) : ExV M (exD e) e := ⟨h, .inl rfl⟩
/-- the four words of two -/
inductive W2 | add | sub | min | max
def W2.s : W2 → PySem.Str
  | .add => "add"
  | .sub => "sub"
  | .min => "min"
  | .max => "max"
def W2.f : W2 → Int → Int → Int
  | .add, x, y => x + y
  | .sub, x, y => x - y
  | .min, x, y => if y < x then y else x
  | .max, x, y => if y > x then y else x
def opI (w : PySem.Str) (x y : Int) : Int := if w = "add" then x + y else if w = "sub" then x - y else if w = "min" then (if y < x then y else x) else (if y > x then y else x)
/-- names of some, numbers whole, words of two, mods from 1 on -/
def okE (ws : List PySem.Str) : Ex → Prop
  | .num v => ∃ i : Int, v = .int i ∧ -100000000000000000000 < i ∧ i < 100000000000000000000
  | .nam w => ∃ s ∈ ws, w = .str s
  | .two w a b => (∃ o : W2, w = .str o.s) ∧ okE ws a ∧ okE ws b
  | .mod a n => okE ws a ∧ ∃ k : Int, n = .int k ∧ 0 < k ∧ k ≤ 1000000000
  | .less a b c d => okE ws a ∧ okE ws b ∧ okE ws c ∧ okE ws d
  | _ => False
def ev (v : PySem.Str → Int) : Ex → Int
  | .num (.int i) => i
  | .nam (.str s) => v s
  | .two (.str w) a b => opI w (ev v a) (ev v b)
  | .mod a (.int n) => ev v a % n
  | .less a b c d => if ev v a < ev v b then ev v c else ev v d
  | _ => 0
/-- numbers of names, in a dict -/
def Wor (M : Mm) (W : D) (v : PySem.Str → Int) (ws : List PySem.Str) : Prop := ∃ kvs, dctD M W = some (false, kvs) ∧ ∀ w ∈ ws, getK kvs (.str w) = some (.int (v w))
theorem Wor.ix {M : Mm} {W : D} {v : PySem.Str → Int} {ws : List PySem.Str} (h : Wor M W v ws) {w : PySem.Str} (hw : w ∈ ws) (Q : D → Prop) : ixD W (.str w) M Q = Q (.int (v w)) := by
  obtain ⟨kvs, h1, h2⟩ := h
  unfold ixD
  rw [h1]
  show cnd (keyOk false (.str w) = true) (obn (getK kvs (.str w)) Q) = _
  rw [h2 w hw]
  simp [keyOk, cnd, obn]
@[simp] theorem eqQ_str {x y : PySem.Str} {M : Mm} {Q : Bool → Prop} : eqQ (.str x) (.str y) M Q = cnd (PyData.strOk x = true) (cnd (PyData.strOk y = true) (Q (x == y))) := by simp [eqQ, rs, pu, eqv]
/-! ### making -/
def spMk (n : Nm) (fs : List Nm) : SpD := fun ds M Q E => ds.length = fs.length ∧ ∀ a, M a = none → Q (.ref a) (up M a (.ins n (fs.zip ds)))
theorem frz_ref {x : Addr} {M : Mm} : Frz c (.ref x) M (.ref x) M := Frz.sub Sub.refl
end L3.EX
set_option maxRecDepth 100000
set_option maxHeartbeats 4000000
namespace L3.EX
open PySem L2 K01
variable {c : Cfg}
/-! ### reckon -/
theorem ExV.f {M : Mm} {d : D} {e : Ex} (h : ExV M d e) {f : Nm} {x : D} (hf : getF (fsD e) f = some x) : fldD M d f = some x := by rw [h.fld, hf]
/-! ### told -/
def spTold (k : Nm) (n : Nat) : SpD := fun ds M Q E => ∃ d e ws, ds = [d] ∧ cl e = k ∧ ExV M d e ∧ dep e ≤ n ∧ okE ws e ∧ Q (tD e) M
end L3.EX
set_option maxRecDepth 100000
set_option maxHeartbeats 4000000
namespace L3.EX
open PySem L2 K01
variable {c : Cfg}
@[simp] theorem eqQ_bl {x y : Bool} {M : Mm} {Q : Bool → Prop} : eqQ (.bl x) (.bl y) M Q = Q (x == y) := by simp [eqQ, rs, pu, eqv, cnd]
theorem atI_lit {ds : List D} {k : Nat} {d : D} (h : ds[k]? = some d) : atI ds (k : Int) = some d := by
  have hk : k < ds.length := by
    rcases Nat.lt_or_ge k ds.length with h' | h'
    · exact h'
    · rw [List.getElem?_eq_none h'] at h; cases h
  unfold atI ixN
  rw [if_pos (by omega), if_pos (by omega)]
  simpa using h
/-! ### made of what is told -/
def spMade (n : Nat) : SpD := fun ds M Q E => ∃ e ws, ds = [tD e] ∧ dep e ≤ n ∧ okE ws e ∧ ∀ a, M a = none → Q (.ref a) (up M a (.ins (cl e) (fsD e)))
class MadeT (T : Tab) (n : outParam Nat) : Prop where
  h0 : lk T.fn ._law_made = some (spMade n)
  h1 : lk T.cl .Num = some (spMk .Num [.value])
  h2 : lk T.cl .Name = some (spMk .Name [.word])
  h3 : lk T.cl .Two = some (spMk .Two [.word, .one, .other])
  h4 : lk T.cl .Mod = some (spMk .Mod [.inner, .number])
  h5 : lk T.cl .Less = some (spMk .Less [.one, .other, .third, .fourth])
@[simp] theorem md0 {T : Tab} {n : Nat} [h : MadeT T n] : lk T.fn ._law_made = some (spMade n) := h.h0
@[simp] theorem md1 {T : Tab} {n : Nat} [h : MadeT T n] : lk T.cl .Num = some (spMk .Num [.value]) := h.h1
@[simp] theorem md2 {T : Tab} {n : Nat} [h : MadeT T n] : lk T.cl .Name = some (spMk .Name [.word]) := h.h2
@[simp] theorem md3 {T : Tab} {n : Nat} [h : MadeT T n] : lk T.cl .Two = some (spMk .Two [.word, .one, .other]) := h.h3
@[simp] theorem md4 {T : Tab} {n : Nat} [h : MadeT T n] : lk T.cl .Mod = some (spMk .Mod [.inner, .number]) := h.h4
@[simp] theorem md5 {T : Tab} {n : Nat} [h : MadeT T n] : lk T.cl .Less = some (spMk .Less [.one, .other, .third, .fourth]) := h.h5
/-! ### the number that the law reckons -/
def spNumb (n : Nat) : SpD := fun ds M Q E => ∃ W e v ws, ds = [tD e, W] ∧ dep e ≤ n ∧ okE ws e ∧ Wor M W v ws ∧ Q (.int (ev v e)) M
class NumbT (T : Tab) (n : outParam Nat) : Prop where
  h0 : lk T.fn ._law_number = some (spNumb n)
@[simp] theorem nb0 {T : Tab} {n : Nat} [h : NumbT T n] : lk T.fn ._law_number = some (spNumb n) := h.h0
end L3.EX
set_option maxRecDepth 100000
set_option maxHeartbeats 4000000
namespace L3.EX
open PySem L2 K01
variable {c : Cfg}
/-! ### drawn expressions -/
def strsD (ws : List PySem.Str) : D := .lst (ws.map .str)
def spExpr (n : Nat) : SpD := fun ds M Q E => ∃ a st ws k, ds = [.ref a, strsD ws, .int k] ∧ 1 ≤ k ∧ k ≤ n ∧ 0 < ws.length ∧ ws.length ≤ 20 ∧ M a = some (.lst (st.map .int)) ∧ stOk st ∧
  ∀ e st', okE ws e → (dep e : Int) ≤ k → stOk st' → Q (tD e) (up M a (.lst (st'.map .int)))
class ExprT (T : Tab) (n : outParam Nat) : Prop where
  h0 : lk T.fn ._law_expr = some (spExpr n)
  h1 : lk T.fn ._law_digit = some spDigit
@[simp] theorem xp0 {T : Tab} {n : Nat} [h : ExprT T n] : lk T.fn ._law_expr = some (spExpr n) := h.h0
@[simp] theorem xp1 {T : Tab} {n : Nat} [h : ExprT T n] : lk T.fn ._law_digit = some spDigit := h.h1
theorem pm {r x : Int} (h : 0 ≤ r) (h2 : r < 2) : ∃ b, atI [D.int x, D.int (0 - x)] r = some (.int b) ∧ (b = x ∨ b = -x) := by
  have : r = 0 ∨ r = 1 := by omega
  rcases this with rfl | rfl
  · exact ⟨x, rfl, .inl rfl⟩
  · exact ⟨0 - x, rfl, .inr (by omega)⟩
@[simp] theorem len_strs {ws : List PySem.Str} {M : Mm} : lenD M (strsD ws) = some (ws.length : Int) := by
  show some ((ws.map D.str).length : Int) = _
  rw [List.length_map]
@[simp] theorem ix_strs {ws : List PySem.Str} {i : Int} {M : Mm} {Q : D → Prop} : ixD (strsD ws) (.int i) M Q = obn (atI (ws.map .str) i) Q := rfl
end L3.EX
set_option maxRecDepth 100000
set_option maxHeartbeats 4000000
namespace L3.EX
open PySem L2 K01
variable {c : Cfg}
/-! ### let by -/
def wrd : Ex → Nat
  | .two _ a b => 1 + (wrd a + wrd b)
  | .mod a _ => 2 + wrd a
  | .less a b c d => 1 + (wrd a + (wrd b + (wrd c + wrd d)))
  | _ => 1
def partsE : Ex → List Ex
  | .two _ a b => [a, b]
  | .mod a _ => [a]
  | .less a b c d => [a, b, c, d]
  | _ => []
def w0 : Ex → Nat
  | .mod _ _ => 2
  | _ => 1
/-- data within that may be anything plain -/
def flE : Ex → Prop
  | .thing d => plainB d = true
  | .base => True
  | .num v => plainB v = true
  | .nam w => plainB w = true
  | .two w a b => plainB w = true ∧ flE a ∧ flE b
  | .mod a n => (plainB n = true ∨ ∃ p, n = exD p ∧ isEx p = true) ∧ flE a
  | .less a b c d => flE a ∧ flE b ∧ flE c ∧ flE d
/-- whether its own is good -/
def own (ws : List PySem.Str) : Ex → Prop
  | .num v => ∃ i : Int, v = .int i ∧ -100000000000000000000 < i ∧ i < 100000000000000000000
  | .nam w => ∃ s ∈ ws, w = .str s
  | .two w _ _ => ∃ o : W2, w = .str o.s
  | .mod _ n => ∃ k : Int, n = .int k ∧ 0 < k ∧ k ≤ 1000000000
  | .less _ _ _ _ => True
  | _ => False
def roD (ws : List PySem.Str) : D := .ro true (ws.map .str)
def spGood (k : Nm) : SpD := fun ds M Q E => ∃ d e ws, ds = [d, roD ws] ∧ cl e = k ∧ ExV M d e ∧ flE e ∧ (∀ s ∈ ws, PyData.strOk s = true) ∧ ∀ b : Bool, (b = true ↔ own ws e) → Q (.bl b) M
def ecl6 : List Nm := [.Expr, .Num, .Name, .Two, .Mod, .Less]
theorem cl_ecl6 {e : Ex} (h : isEx e = true) : cl e ∈ ecl6 := by
  cases e with
  | thing => cases h
  | _ => simp [cl, ecl6]
/-- what isinstance knows of expressions -/
class IsnT (T : Tab) : Prop where
  h : ∀ k ∈ ecl6, ∃ l, lk T.isn k = some l ∧ .Expr ∈ l
  o : .Expr ∈ T.own
theorem tyD_ex {T : Tab} [hT : IsnT T] {M : Mm} {d : D} {e : Ex} (h : ExV M d e) : tyD T M d = some (.own (cl e)) := by
  obtain ⟨l, hl, _⟩ := hT.h _ (cl_ecl6 h.1)
  obtain ⟨h1, rfl | ⟨a, rfl, h2⟩⟩ := h
  · rw [exD_ins h1]
    show insT T (cl e) = _
    unfold insT
    rw [hl]
  · have : tyD T M (.ref a) = insT T (cl e) := by simp [tyD, h2]
    rw [this]
    unfold insT
    rw [hl]
theorem isA_bt {T : Tab} [hT : IsnT T] {M : Mm} {d : D} {e : Ex} (h : ExV M d e) {x : String} (hx : x ≠ "ValueError") : isA T M d [.bt x] = some false := by
  unfold isA
  rw [tyD_ex h]
  show anyT (isT T (.own (cl e))) [.bt x] = _
  have : isT T (.own (cl e)) (.bt x) = some false := by
    show (if x = "ValueError" then none else some false) = _
    rw [if_neg hx]
  simp [anyT, this]
def spWholeE : SpD := fun ds M Q E => ∃ d, ds = [d] ∧ (plainB d = true ∨ ∃ p, d = exD p ∧ isEx p = true) ∧ Q (.bl (wholeB d)) M
class GoodT (T : Tab) : Prop where
  h1 : lk T.fn .is_whole = some spWholeE
  g1 : lk T.gl .TOO_GREAT = some (.int 100000000000000000000)
  g2 : lk T.gl .MOST_REST = some (.int 1000000000)
  g3 : lk T.gl .WORDS = some (.ro true [.str "add", .str "sub", .str "min", .str "max"])
@[simp] theorem gd1 {T : Tab} [h : GoodT T] : lk T.fn .is_whole = some spWholeE := h.h1
@[simp] theorem gd2 {T : Tab} [h : GoodT T] : lk T.gl .TOO_GREAT = some (.int 100000000000000000000) := h.g1
@[simp] theorem gd3 {T : Tab} [h : GoodT T] : lk T.gl .MOST_REST = some (.int 1000000000) := h.g2
@[simp] theorem gd4 {T : Tab} [h : GoodT T] : lk T.gl .WORDS = some (.ro true [.str "add", .str "sub", .str "min", .str "max"]) := h.g3
/-! ### words, parts -/
def spWords (k : Nm) : SpD := fun ds M Q E => ∃ d e, ds = [d] ∧ cl e = k ∧ ExV M d e ∧ Q (.int (w0 e)) M
def spPartsE (k : Nm) : SpD := fun ds M Q E => ∃ d e, ds = [d] ∧ cl e = k ∧ ExV M d e ∧ Q (.lst ((partsE e).map exD)) M
end L3.EX
set_option maxRecDepth 100000
set_option maxHeartbeats 4000000
namespace L3.EX
open PySem L2 K01
variable {c : Cfg}
/-- an expression, or a thing that is none -/
def AnyV (M : Mm) (d : D) (e : Ex) : Prop := ExV M d e ∨ isEx e = false ∧ d = exD e
theorem AnyV.of {M : Mm} {e : Ex} : AnyV M (exD e) e := by
  cases h : isEx e with
  | true => exact .inl (.of h)
  | false => exact .inr ⟨h, rfl⟩
/-- let by: all good, not too deep, not too many words -/
def letBy (ws : List PySem.Str) (k r : Int) (e : Ex) : Prop := okE ws e ∧ (dep e : Int) ≤ k ∧ (wrd e : Int) ≤ r
def spRoom (n : Nat) : SpD := fun ds M Q E => ∃ d e ws k r, ds = [d, roD ws, .int k, .int r] ∧ AnyV M d e ∧ dep e ≤ n ∧ flE e ∧ (∀ s ∈ ws, PyData.strOk s = true) ∧
  ∀ r' : Int, (letBy ws k r e → r' = r - wrd e) → (¬ letBy ws k r e → r' < 0) → Q (.int r') M
class RoomT (T : Tab) (n : outParam Nat) : Prop where
  h0 : lk T.fn .room_left = some (spRoom n)
  hg : ∀ k ∈ ecl6, lk2 T.mt k .is_good = some (spGood k)
  hw : ∀ k ∈ ecl6, lk2 T.mt k .words = some (spWords k)
  hp : ∀ k ∈ ecl6, lk2 T.mt k .parts = some (spPartsE k)
@[simp] theorem rm0 {T : Tab} {n : Nat} [h : RoomT T n] : lk T.fn .room_left = some (spRoom n) := h.h0
end L3.EX
set_option maxRecDepth 100000
set_option maxHeartbeats 4000000
namespace L3.EX
open PySem L2 K01
variable {c : Cfg}
/-! ### programs -/
def atStart : List PySem.Str := ["me", "lines"]
def atSend : List PySem.Str := ["worth", "me", "round", "lines", "to"]
def atEnd : List PySem.Str := ["worth", "me", "round", "lines", "sum", "least", "most", "count"]
def goodP (e1 e2 e3 e4 : Ex) : Prop := (okE atStart e1 ∧ okE atSend e2 ∧ okE atSend e3 ∧ okE atEnd e4) ∧ (dep e1 ≤ 8 ∧ dep e2 ≤ 8 ∧ dep e3 ≤ 8 ∧ dep e4 ≤ 8) ∧ wrd e1 + wrd e2 + wrd e3 + wrd e4 ≤ 60
def pgF (d1 d2 d3 d4 : D) : List (Nm × D) := [(.start, d1), (.send, d2), (.when, d3), (.renew, d4)]
theorem ExV.up {M : Mm} {d : D} {e : Ex} {x : Addr} {k : Cell} (h : ExV M d e) (hx : M x = none) : ExV (up M x k) d e := by
  obtain ⟨h1, rfl | ⟨a, rfl, h2⟩⟩ := h
  · exact ⟨h1, .inl rfl⟩
  · have : a ≠ x := by rintro rfl; rw [hx] at h2; cases h2
    exact ⟨h1, .inr ⟨a, rfl, by rw [up_ne this]; exact h2⟩⟩
theorem AnyV.up {M : Mm} {d : D} {e : Ex} {x : Addr} {k : Cell} (h : AnyV M d e) (hx : M x = none) : AnyV (up M x k) d e := h.imp (·.up hx) id
def spProgram (n : Nat) : SpD := fun ds M Q E => ∃ d1 d2 d3 d4 e1 e2 e3 e4, ds = [d1, d2, d3, d4] ∧ (AnyV M d1 e1 ∧ AnyV M d2 e2 ∧ AnyV M d3 e3 ∧ AnyV M d4 e4) ∧ (dep e1 ≤ n ∧ dep e2 ≤ n ∧ dep e3 ≤ n ∧ dep e4 ≤ n) ∧ (flE e1 ∧ flE e2 ∧ flE e3 ∧ flE e4) ∧
  (goodP e1 e2 e3 e4 → ∀ a, M a = none → Q (.ref a) (up M a (.ins .Program (pgF d1 d2 d3 d4)))) ∧ (¬ goodP e1 e2 e3 e4 → E ⟨.NoProgram, []⟩ M)
class ProgT (T : Tab) (n : outParam Nat) : Prop where
  h0 : lk T.fn .room_left = some (spRoom n)
  g0 : lk T.gl .MOST_WORDS = some (.int 60)
  g1 : lk T.gl .MOST_DEEP = some (.int 8)
  g2 : lk T.gl .AT_START = some (roD atStart)
  g3 : lk T.gl .AT_SEND = some (roD atSend)
  g4 : lk T.gl .AT_END = some (roD atEnd)
  x0 : lk T.xc .NoProgram = some []
  f0 : lk T.fl .Program = some [.start, .send, .when, .renew]
@[simp] theorem pt0 {T : Tab} {n : Nat} [h : ProgT T n] : lk T.fn .room_left = some (spRoom n) := h.h0
@[simp] theorem pt1 {T : Tab} {n : Nat} [h : ProgT T n] : lk T.gl .MOST_WORDS = some (.int 60) := h.g0
@[simp] theorem pt2 {T : Tab} {n : Nat} [h : ProgT T n] : lk T.gl .MOST_DEEP = some (.int 8) := h.g1
@[simp] theorem pt3 {T : Tab} {n : Nat} [h : ProgT T n] : lk T.gl .AT_START = some (roD atStart) := h.g2
@[simp] theorem pt4 {T : Tab} {n : Nat} [h : ProgT T n] : lk T.gl .AT_SEND = some (roD atSend) := h.g3
@[simp] theorem pt5 {T : Tab} {n : Nat} [h : ProgT T n] : lk T.gl .AT_END = some (roD atEnd) := h.g4
@[simp] theorem pt6 {T : Tab} {n : Nat} [h : ProgT T n] : lk T.xc .NoProgram = some [] := h.x0
@[simp] theorem pt7 {T : Tab} {n : Nat} [h : ProgT T n] : lk T.fl .Program = some [.start, .send, .when, .renew] := h.f0
theorem sub_up' {M : Mm} {x : Addr} {k : Cell} (hx : M x = none) : Sub M (up M x k) := fun a k' h => by
  have : a ≠ x := by rintro rfl; rw [hx] at h; cases h
  rw [up_ne this]; exact h
end L3.EX
set_option maxRecDepth 100000
set_option maxHeartbeats 4000000
namespace L3.EX
open PySem L2 K01
variable {c : Cfg}
/-! ### numbers by names -/
abbrev KV := List (PySem.Str × Int)
def gt : KV → PySem.Str → Option Int
  | [], _ => none
  | (a, b) :: r, k => if a == k then some b else gt r k
def pt (ks : KV) (s : PySem.Str) (i : Int) : KV := if (ks.any fun p => p.1 == s) = true then ks.map (fun p => if (p.1 == s) = true then (p.1, i) else p) else ks ++ [(s, i)]
def nv (ks : KV) (s : PySem.Str) : Int := (gt ks s).getD 0
/-- a program -/
structure PrV (M : Mm) (d : D) (e1 e2 e3 e4 : Ex) : Prop where
  cls : ∃ d1 d2 d3 d4, insD M d = some (.Program, pgF d1 d2 d3 d4) ∧ ExV M d1 e1 ∧ ExV M d2 e2 ∧ ExV M d3 e3 ∧ ExV M d4 e4
theorem insD_up {M : Mm} {d : D} {x : Addr} {k : Cell} {r : Nm × List (Nm × D)} (h : insD M d = some r) (hx : M x = none) : insD (up M x k) d = some r := by
  cases d <;> try exact h
  rename_i a
  have : a ≠ x := by rintro rfl; simp [insD, hx] at h
  simp only [insD, up_ne this] at h ⊢
  exact h
theorem PrV.up {M : Mm} {d : D} {e1 e2 e3 e4 : Ex} {x : Addr} {k : Cell} (h : PrV M d e1 e2 e3 e4) (hx : M x = none) : PrV (up M x k) d e1 e2 e3 e4 := by
  obtain ⟨d1, d2, d3, d4, h0, h1, h2, h3, h4⟩ := h
  exact ⟨d1, d2, d3, d4, insD_up h0 hx, h1.up hx, h2.up hx, h3.up hx, h4.up hx⟩
def okP (e1 e2 e3 e4 : Ex) : Prop := okE atStart e1 ∧ okE atSend e2 ∧ okE atSend e3 ∧ okE atEnd e4
def dpP (n : Nat) (e1 e2 e3 e4 : Ex) : Prop := dep e1 ≤ n ∧ dep e2 ≤ n ∧ dep e3 ≤ n ∧ dep e4 ≤ n
def v1 (h l : Int) : PySem.Str → Int := nv [("me", h), ("lines", l)]
def v2 (w h t l o : Int) : PySem.Str → Int := nv [("worth", w), ("me", h), ("round", t), ("lines", l), ("to", o)]
def v3 (w h t l : Int) (hs : List Int) : PySem.Str → Int := nv [("worth", w), ("me", h), ("round", t), ("lines", l), ("sum", sumI hs), ("least", minI hs), ("most", maxI hs), ("count", hs.length)]
def spFirst (n : Nat) : SpD := fun ds M Q E => ∃ d h l e1 e2 e3 e4, ds = [d, .int h, .int l] ∧ PrV M d e1 e2 e3 e4 ∧ okP e1 e2 e3 e4 ∧ dpP n e1 e2 e3 e4 ∧ Q (.int (ev (v1 h l) e1)) M
def spWord (n : Nat) : SpD := fun ds M Q E => ∃ d w h t l o e1 e2 e3 e4, ds = [d, .int w, .int h, .int t, .int l, .int o] ∧ PrV M d e1 e2 e3 e4 ∧ okP e1 e2 e3 e4 ∧ dpP n e1 e2 e3 e4 ∧ Q (if ev (v2 w h t l o) e3 ≤ 0 then .non else .int (ev (v2 w h t l o) e2)) M
def spNext (n : Nat) : SpD := fun ds M Q E => ∃ d w h t l q hs e1 e2 e3 e4, ds = [d, .int w, .int h, .int t, .int l, q] ∧ Arg M q (hs.map .int) ∧ PrV M d e1 e2 e3 e4 ∧ okP e1 e2 e3 e4 ∧ dpP n e1 e2 e3 e4 ∧ Q (.int (ev (v3 w h t l hs) e4)) M
theorem PrV.f {M : Mm} {d : D} {e1 e2 e3 e4 : Ex} (h : PrV M d e1 e2 e3 e4) : ∃ d1 d2 d3 d4, (fldD M d .start = some d1 ∧ fldD M d .send = some d2 ∧ fldD M d .when = some d3 ∧ fldD M d .renew = some d4) ∧ ExV M d1 e1 ∧ ExV M d2 e2 ∧ ExV M d3 e3 ∧ ExV M d4 e4 := by
  obtain ⟨d1, d2, d3, d4, h0, r⟩ := h
  refine ⟨d1, d2, d3, d4, ⟨?_, ?_, ?_, ?_⟩, r⟩ <;> (unfold fldD; rw [h0]; rfl)
@[simp] theorem biD_sum {m : Bool} {x : D} {M : Mm} {Q : QD} : biD m .sum [x] M Q = obn (lstD M x) fun ds => obn (intsD ds) fun is => Q (.int (sumI is)) M := rfl
@[simp] theorem biD_min1 {m : Bool} {x : D} {M : Mm} {Q : QD} : biD m .min [x] M Q = obn (lstD M x) fun ds => obn (intsD ds) fun is => cnd (0 < is.length) (Q (.int (minI is)) M) := rfl
@[simp] theorem biD_max1 {m : Bool} {x : D} {M : Mm} {Q : QD} : biD m .max [x] M Q = obn (lstD M x) fun ds => obn (intsD ds) fun is => cnd (0 < is.length) (Q (.int (maxI is)) M) := rfl
/-- a list of numbers, and the empty one -/
theorem eq_nil {M : Mm} {d : D} {hs : List Int} (h : Arg M d (hs.map .int)) {Q : Bool → Prop} : eqQ d (.lst []) M Q = Q (decide (hs = [])) := by
  have e1 : rs M (.lst []) = .lst (([] : List Int).map .int) := rfl
  have e2 : rs M d = .lst (hs.map .int) := by
    rcases h with ⟨a, rfl, h⟩ | rfl
    · exact rs_ref h
    · exact rs_ints
  have := eq_ints (is := hs) (js := []) (M := M) (Q := Q)
  rw [← this]
  unfold eqQ
  rw [e1, e2]
  simp only [rs_ints]
end L3.EX
set_option maxRecDepth 100000
set_option maxHeartbeats 4000000
namespace L3.EX
open PySem L2 K01
variable {c : Cfg}
/-! ### how many words the law counts -/
def spSize (n : Nat) : SpD := fun ds M Q E => ∃ e ws, ds = [tD e] ∧ dep e ≤ n ∧ okE ws e ∧ Q (.int (wrd e)) M
class SizeT (T : Tab) (n : outParam Nat) : Prop where
  h0 : lk T.fn ._law_size = some (spSize n)
@[simp] theorem sz0 {T : Tab} {n : Nat} [h : SizeT T n] : lk T.fn ._law_size = some (spSize n) := h.h0
theorem endD_int {k i : Int} : endD (.int k) (.int i) = some (some i) := rfl
/-! ### expressions of at most fifteen words -/
def spFits (n : Nat) : SpD := fun ds M Q E => ∃ a st ws k, ds = [.ref a, strsD ws, .int k] ∧ 1 ≤ k ∧ k ≤ n ∧ 0 < ws.length ∧ ws.length ≤ 20 ∧ M a = some (.lst (st.map .int)) ∧ stOk st ∧
  ∀ e st', okE ws e → (dep e : Int) ≤ k → wrd e ≤ 15 → stOk st' → Q (tD e) (up M a (.lst (st'.map .int)))
class FitsT (T : Tab) (n : outParam Nat) : Prop where
  h0 : lk T.fn ._law_expr = some (spExpr n)
  h1 : lk T.fn ._law_size = some (spSize n)
@[simp] theorem ft0 {T : Tab} {n : Nat} [h : FitsT T n] : lk T.fn ._law_expr = some (spExpr n) := h.h0
@[simp] theorem ft1 {T : Tab} {n : Nat} [h : FitsT T n] : lk T.fn ._law_size = some (spSize n) := h.h1
class FourT (T : Tab) : Prop where
  h0 : lk T.fn ._law_fits = some (spFits 4)
@[simp] theorem fo0 {T : Tab} [h : FourT T] : lk T.fn ._law_fits = some (spFits 4) := h.h0
end L3.EX
set_option maxRecDepth 100000
set_option maxHeartbeats 4000000
namespace L3.EX
open PySem L2 K01
/-! ### a module's tuples of texts -/
/-! ### no depth -/
end L3.EX
set_option maxRecDepth 100000
set_option maxHeartbeats 4000000
namespace L3.EX
open PySem L2 K01
variable {c : Cfg}
/-! ### made here, as data -/
class MksT (T : Tab) : Prop where
  c1 : lk T.cl .Num = some (spMk .Num [.value])
  c2 : lk T.cl .Name = some (spMk .Name [.word])
  c3 : lk T.cl .Two = some (spMk .Two [.word, .one, .other])
  c4 : lk T.cl .Mod = some (spMk .Mod [.inner, .number])
  c5 : lk T.cl .Less = some (spMk .Less [.one, .other, .third, .fourth])
@[simp] theorem ks1 {T : Tab} [h : MksT T] : lk T.cl .Num = some (spMk .Num [.value]) := h.c1
@[simp] theorem ks2 {T : Tab} [h : MksT T] : lk T.cl .Name = some (spMk .Name [.word]) := h.c2
@[simp] theorem ks3 {T : Tab} [h : MksT T] : lk T.cl .Two = some (spMk .Two [.word, .one, .other]) := h.c3
@[simp] theorem ks4 {T : Tab} [h : MksT T] : lk T.cl .Mod = some (spMk .Mod [.inner, .number]) := h.c4
@[simp] theorem ks5 {T : Tab} [h : MksT T] : lk T.cl .Less = some (spMk .Less [.one, .other, .third, .fourth]) := h.c5
end L3.EX
set_option maxRecDepth 100000
set_option maxHeartbeats 4000000
namespace L3.RN
open PySem L2 K01
def N__law_draws : List PySem.Str := ["_law_cell", "_law_many", "_law_found", "_law_rest", "_law_number", "_law_k", "_law_mixed"]
def b__law_draws : List SS := [
  .asg 2 (.lst true []),
  .asg 3 (.int 0),
  .ifs (.cmp .GtE (.var 0) (.bin .Pow (.int 10) (.int 18))) [.asg 3 (.bin .Sub (.var 0) (.bin .Pow (.int 10) (.int 18)))] [],
  .whl (.bop true [(.cmp .Gt (.var 3) (.int 0)), (.cmp .Lt (.bi false .len [(.var 2)]) (.var 1))]) [.exp (.bm false (.var 2) .append [(.bin .Mod (.var 3) (.bin .Pow (.int 10) (.int 6)))]), .asg 3 (.bin .FloorDiv (.var 3) (.bin .Pow (.int 10) (.int 6)))],
  .asg 4 (.bin .Mod (.bin .Mult (.bin .Add (.bin .Mod (.var 0) (.int 2147483647)) (.int 1)) (.int 48271)) (.int 2147483647)),
  .fors (.nm 5) .rng1 [(.bin .Sub (.var 1) (.bi false .len [(.var 2)]))] [.asg 4 (.bin .Mod (.bin .Mult (.bin .Add (.bin .Add (.var 4) (.bin .Mult (.int 7919) (.var 5))) (.int 1)) (.int 48271)) (.int 2147483647)), .asg 6 (.bin .Mod (.bin .Mult (.var 4) (.bin .Add (.bin .FloorDiv (.var 4) (.int 1009)) (.int 65537))) (.int 2147483647)), .exp (.bm false (.var 2) .append [(.bin .Mod (.bin .Mult (.var 6) (.bin .Add (.bin .FloorDiv (.var 6) (.int 2003)) (.int 40697))) (.int 2147483399))])],
  .ret (.var 2)]
def P__law_draws : List PySem.Str := ["_law_cell", "_law_many"]
theorem k__law_draws : okSs false none b__law_draws = true := by decide +kernel
def N__law_take : List PySem.Str := ["_law_xs", "_law_size"]
def b__law_take : List SS := [
  .ifs (.cmp .Eq (.var 0) (.lst false [])) [.ret (.int 0)] [],
  .ret (.bin .Mod (.bm false (.var 0) .pop [(.int 0)]) (.var 1))]
def P__law_take : List PySem.Str := ["_law_xs", "_law_size"]
theorem k__law_take : okSs false none b__law_take = true := by decide +kernel
def N__law_hands : List PySem.Str := ["_law_xs", "_law_most", "_law_hand", "_law_found", "_law_k", "_law_one"]
def b__law_hands : List SS := [
  .asg 2 (.call false .«_law_take» [(.var 0), (.int 5)]),
  .asg 3 (.lst true [(.var 2)]),
  .fors (.nm 4) .rng1 [(.call false .«_law_take» [(.var 0), (.var 1)])] [.asg 2 (.bin .Add (.bin .Add (.var 2) (.int 1)) (.call false .«_law_take» [(.var 0), (.int 8)])), .exp (.bm false (.var 3) .append [(.var 2)])],
  .ifs (.cmp .Eq (.call false .«_law_take» [(.var 0), (.int 4)]) (.int 1)) [.asg 3 (.comp true (.nm 5) .seq [(.var 3)] (.bl true) (.bin .Sub (.bin .Add (.var 5) (.int 99)) (.ix (.var 3) (.neg (.int 1)))))] [],
  .ret (.var 3)]
def P__law_hands : List PySem.Str := ["_law_xs", "_law_most"]
theorem k__law_hands : okSs false none b__law_hands = true := by decide +kernel
def N__law_lines : List PySem.Str := ["_law_xs", "_law_hands_here", "_law_way", "_law_found", "_law_j", "_law_at", "_law_k", "_law_near_here", "_law_draw"]
def b__law_lines : List SS := [
  .asg 2 (.call false .«_law_take» [(.var 0), (.int 6)]),
  .asg 3 (.lst true []),
  .fors (.nm 4) .rng1 [(.bi false .len [(.var 1)])] [.fors (.nm 6) .rng1 [(.var 4)] [.asg 7 (.bop false [(.cmp .Eq (.bin .Sub (.var 4) (.var 6)) (.int 1)), (.cmp .Eq (.bin .Sub (.var 4) (.var 6)) (.bin .Sub (.bi false .len [(.var 1)]) (.int 1)))]), .asg 8 (.call false .«_law_take» [(.var 0), (.int 6)]), .ifs (.ix (.lst false [(.var 7), (.cmp .Lt (.var 8) (.int 2)), (.cmp .Lt (.var 8) (.int 3)), (.cmp .Lt (.var 8) (.int 4)), (.bl true), (.bop false [(.cmp .Eq (.var 6) (.bin .Mod (.var 8) (.var 4))), (.cmp .Eq (.var 8) (.int 5))])]) (.var 2)) [.exp (.bm false (.var 3) .append [(.tup [(.ix (.var 1) (.var 6)), (.ix (.var 1) (.var 4))])])] []]],
  .asg 5 (.call false .«_law_take» [(.var 0), (.bin .Add (.bi false .len [(.var 3)]) (.int 1))]),
  .ret (.bin .Add (.sl (.var 3) (.var 5) .non) (.sl (.var 3) .non (.var 5)))]
def P__law_lines : List PySem.Str := ["_law_xs", "_law_hands_here"]
theorem k__law_lines : okSs false none b__law_lines = true := by decide +kernel
def N__law_near : List PySem.Str := ["_law_lines_here", "_law_hand", "_law_found", "_law_one", "_law_other"]
def b__law_near : List SS := [
  .asg 2 (.comp false (.tp [3, 4]) .seq [(.var 0)] (.cmp .Eq (.var 3) (.var 1)) (.var 4)),
  .ret (.bi false .sorted [(.bin .Add (.var 2) (.comp false (.tp [3, 4]) .seq [(.var 0)] (.cmp .Eq (.var 4) (.var 1)) (.var 3)))])]
def P__law_near : List PySem.Str := ["_law_lines_here", "_law_hand"]
theorem k__law_near : okSs false none b__law_near = true := by decide +kernel
def b_heard_in : List SS := [
  .asg 4 (.dnew true false),
  .fors (.nm 5) .seq [(.meth false (.var 0) .«hands» [])] [.asgI (.var 4) (.var 5) (.lst true [])],
  .fors (.nm 5) .seq [(.meth false (.var 0) .«hands» [])] [.asg 6 (.meth false (.var 0) .«neighbours» [(.var 5)]), .fors (.nm 7) .seq [(.var 6)] [.asg 8 (.meth false (.var 1) .«word_to» [(.ix (.var 2) (.var 5)), (.var 5), (.var 3), (.bi false .len [(.var 6)]), (.var 7)]), .ifs (.cmp .IsNot (.var 8) .non) [.exp (.bm false (.ix (.var 4) (.var 7)) .append [(.tup [(.var 5), (.var 8)])])] []]],
  .ret (.var 4)]
def b_run_of : List SS := [
  .asg 2 (.call true .«first_worths» [(.ix (.ix (.var 0) (.int 0)) (.int 0)), (.var 1)]),
  .asg 3 (.lst true [(.bi false .dict [(.var 2)])]),
  .asg 4 (.lst true []),
  .fors (.tp [5, 6]) .seq [(.var 0)] [.fors (.nm 7) .rng1 [(.var 6)] [.asg 8 (.bi false .len [(.var 3)]), .exp (.bm false (.var 4) .append [(.call false .«heard_in» [(.var 5), (.var 1), (.var 2), (.var 8)])]), .exp (.bm false (.var 3) .append [(.call false .«worths_behind» [(.var 5), (.var 1), (.var 2), (.var 8), (.ix (.var 4) (.neg (.int 1)))])]), .exp (.bm false (.var 2) .update [(.ix (.var 3) (.neg (.int 1)))])]],
  .ret (.tup [(.var 3), (.var 4)])]
end L3.RN
set_option maxRecDepth 100000
set_option maxHeartbeats 4000000
namespace L3.RN
open PySem L2 K01
open EX
variable {c : Cfg}
/-! ### helpers -/
theorem up_comm {M : Mm} {a b : Addr} {x y : Cell} (h : a ≠ b) : up (up M a x) b y = up (up M b y) a x := by
  funext z
  by_cases e : z = a
  · subst e; rw [up_ne h, up_same, up_same]
  · rw [up_ne e]
    by_cases e2 : z = b
    · subst e2; rw [up_same, up_same]
    · rw [up_ne e2, up_ne e2, up_ne e]
theorem up_eta {M : Mm} {a : Addr} {x : Cell} (h : M a = some x) : up M a x = M := by
  funext z
  by_cases e : z = a
  · subst e; rw [up_same, h]
  · rw [up_ne e]
theorem lt_size {n : Nat} (h : n ≤ 999) : n < sizeLine := Nat.lt_of_lt_of_le (show n < 1000 by omega) (by decide)
theorem map_f0 {M : Mm} : ∀ (ds : List D), ds.map (fz 0 M) = ds
  | [] => rfl
  | d :: r => by rw [List.map_cons, map_f0 r]; rfl
theorem flat_r0 {M : Mm} : ∀ (ds : List D), ds.flatMap (rf 0 M) = []
  | [] => rfl
  | d :: r => by rw [List.flatMap_cons, flat_r0 r]; rfl
theorem map_k0 {M : Mm} : ∀ (ds : List (D × D)), (ds.map fun p => (p.1, fz 0 M p.2)) = ds
  | [] => rfl
  | d :: r => by rw [List.map_cons, map_k0 r]; rfl
theorem flat_k0 {M : Mm} : ∀ (ds : List (D × D)), (ds.flatMap fun p => rf 0 M p.2) = []
  | [] => rfl
  | d :: r => by rw [List.flatMap_cons, flat_k0 r]; rfl
/-- a list that was made here is told -/
theorem rt_lst {Q : QD} {E : QX} {M M' : Mm} {a : Addr} {ds : List D} (h : M' a = some (.lst ds)) (sb : Sub M M') (ha : M a = none) (hQ : Q (.lst ds) M) : (fnK c Q E).rt (.ref a) M' := by
  refine ⟨_, M, ?_, hQ⟩
  have e : fz 1 M' (.ref a) = .lst ds := by
    unfold fz
    rw [h]
    show D.lst (ds.map (fz 0 M')) = _
    rw [map_f0]
  rw [← e]
  refine Frz.deep 1 sb fun y hy => ?_
  have r : rf 1 M' (.ref a) = [a] := by
    unfold rf
    rw [h]
    show a :: ds.flatMap (rf 0 M') = _
    rw [flat_r0]
  rw [r] at hy
  simp at hy
  subst hy
  exact ha
/-! ### numbers drawn -/
def spDraws : SpD := fun ds M Q E => ∃ (x : Int) (m : Nat), ds = [.int x, .int m] ∧ m ≤ 1000 ∧ ∀ (st : List Int) a, M a = none → Q (.ref a) (up M a (.lst (st.map .int)))
def dw1 : List SS := b__law_draws.take 3
def dw2 : List SS := (b__law_draws.drop 3).take 1
def dw3 : List SS := b__law_draws.drop 4
theorem dw_split : b__law_draws = dw1 ++ (dw2 ++ dw3) := rfl
theorem w_dw3 {T : Tab} {M : Mm} {Q : QD} {E : QX} {x r : Int} {m : Nat} {a : Addr} (hm : m ≤ 1000) (ha : M a = none) (hQ : ∀ (st : List Int) a, M a = none → Q (.ref a) (up M a (.lst (st.map .int)))) (st : List Int) (hs : st.length ≤ m) :
    wSs T dw3 (fnK c Q E) [some (.int x), some (.int m), some (.ref a), some (.int r), none, none, none] (up M a (.lst (st.map .int))) := by
  simp [dw3, b__law_draws, varE]
  have it : ∀ M', itD .rng1 [.int ((m : Int) - st.length)] M' = some (rngL 0 (m - st.length)) := fun M' => by
    rw [itD_rng1 (by omega) (by omega)]
    congr 2
    omega
  refine ⟨cmulR (by omega) (by omega), forQ_start (it _) ?_⟩
  refine forQ_ind (fun xs env M2 => ∃ (k : Nat) (st2 : List Int) (n : Int) (v5 v6 : Option D), k ≤ m - st.length ∧ xs = (rngL 0 (m - st.length)).drop k ∧ st2.length = st.length + k ∧ env = [some (.int x), some (.int m), some (.ref a), some (.int r), some (.int n), v5, v6] ∧ M2 = up M a (.lst (st2.map .int)))
    ⟨0, st, _, none, none, by omega, rfl, rfl, rfl, rfl⟩ ?_ ?_ ?_
  · intros; exact it _
  · rintro y xs _ _ F ⟨k, st2, n, v5, v6, hk, e, hl, rfl, rfl⟩ hF
    have hk' : k < m - st.length := by
      rcases Nat.lt_or_ge k (m - st.length) with h | h
      · exact h
      · rw [List.drop_eq_nil_of_le (by rw [rng_len]; exact h)] at e; cases e
    rw [rng_drop hk'] at e
    cases e
    refine ⟨_, rfl, ?_⟩
    simp
    refine ⟨cmulL (by omega) (by omega), cmulR (by omega) (by omega), cdiv_lt (by omega) (by omega), cmulL (by omega) (by omega), cdiv_lt (by omega) (by omega), cmulL (by omega) (by omega), lt_size (by omega), ?_⟩
    refine hF _ _ ⟨k + 1, st2 ++ [_], _, _, _, by omega, rfl, by simp; omega, rfl, by simp; rfl⟩
  · rintro _ _ ⟨k, st2, n, v5, v6, hk, e, hl, rfl, rfl⟩
    simp
    exact rt_self (hQ st2 a ha)
theorem w_drw {T : Tab} : ∀ ds M Q E, spDraws ds M Q E → wSs T b__law_draws (fnK c Q E) (env0 N__law_draws.length ds) M := by
  rintro _ M Q E ⟨x, m, rfl, hm, hQ⟩
  have tail : ∀ (r : Int) a, M a = none → wSs T (dw2 ++ dw3) (fnK c Q E) [some (.int x), some (.int m), some (.ref a), some (.int r), none, none, none] (up M a (.lst [])) := fun r a ha => by
    rw [wSs_app]
    simp [dw2, b__law_draws]
    refine whQ_ind (fun n env M2 => ∃ (st : List Int) (r : Int), n + st.length = m ∧ env = [some (.int x), some (.int m), some (.ref a), some (.int r), none, none, none] ∧ M2 = up M a (.lst (st.map .int))) m ⟨[], r, by simp, rfl, rfl⟩ ?_
    rintro n _ _ F ⟨st, r, hn, rfl, rfl⟩ hF
    have go := w_dw3 (c := c) (T := T) (E := E) (x := x) (r := r) hm ha hQ st (by omega)
    simp [varE]
    refine br_dec (fun h => ?_) (fun h => ?_)
    · refine br_dec (fun h2 => ?_) (fun h2 => ?_)
      · refine ⟨cpow_ok 6 (by omega), lt_size (by omega), cpow_ok 6 (by omega), cdiv_lt (by omega) (by omega), ?_⟩
        refine hF (n - 1) (by omega) _ _ ⟨st ++ [r % 1000000], r / 1000000, by simp; omega, rfl, by simp⟩
      · exact go
    · rw [decide_eq_false h]
      exact go
  rw [dw_split, wSs_app]
  simp [dw1, b__law_draws, N__law_draws, env0, varE]
  intro a ha
  refine ⟨cpow_ok 18 (by omega), ?_⟩
  refine br_dec (fun _ => ?_) (fun _ => ?_)
  · exact ⟨cpow_ok 18 (by omega), tail _ a ha⟩
  · exact tail _ a ha
/-! ### one taken -/
@[simp] theorem bmD_popI {m : Bool} {o : D} {i : Int} {M : Mm} {Q : QD} : bmD m .pop o [.int i] M Q = obn (celL M o) fun p => cnd (-(2 ^ 63) ≤ i ∧ i < 2 ^ 63) (obn (ixN p.2.length i) fun k => obn p.2[k]? fun d => Q d (up M p.1 (.lst (p.2.eraseIdx k)))) := rfl
def spTake : SpD := fun ds M Q E => ∃ (a : Addr) (st : List Int) (n : Int), ds = [.ref a, .int n] ∧ 0 < n ∧ M a = some (.lst (st.map .int)) ∧ ∀ (r : Int) (st' : List Int), 0 ≤ r → r < n → Q (.int r) (up M a (.lst (st'.map .int)))
theorem w_take {T : Tab} : ∀ ds M Q E, spTake ds M Q E → wSs T b__law_take (fnK c Q E) (env0 N__law_take.length ds) M := by
  rintro _ M Q E ⟨a, st, n, rfl, hn, ha, hQ⟩
  simp [b__law_take, N__law_take, env0, varE]
  have e : ∀ Q : Bool → Prop, eqQ (.ref a) (.lst []) M Q = Q (decide (st = [])) := fun Q => eq_nil (.inl ⟨a, rfl, ha⟩)
  rw [e]
  cases st with
  | nil =>
    simp
    have := hQ 0 [] (by omega) hn
    simp only [List.map_nil] at this ha
    rw [up_eta ha] at this
    exact rt_self this
  | cons x r =>
    simp [ha, ixN]
    exact ⟨hn, rt_self (hQ _ r (Int.emod_nonneg _ (by omega)) (Int.emod_lt_of_pos _ hn))⟩
theorem take_use {M : Mm} {a : Addr} {st : List Int} {n : Int} {m : Bool} {Q : QD} {E : QX} (hn : 0 < n) (ha : M a = some (.lst (st.map .int))) (hQ : ∀ (r : Int) (st' : List Int), 0 ≤ r → r < n → Q (.int r) (up M a (.lst (st'.map .int)))) :
    spTake [.ref a, .int n] M (fun d M' => frz1 m d M' Q) E := ⟨a, st, n, rfl, hn, ha, fun r st' h1 h2 => by cases m <;> exact hQ r st' h1 h2⟩
class TkT (T : Tab) : Prop where
  h0 : lk T.fn ._law_take = some spTake
@[simp] theorem tk0 {T : Tab} [h : TkT T] : lk T.fn ._law_take = some spTake := h.h0
end L3.RN
set_option maxRecDepth 100000
set_option maxHeartbeats 4000000
namespace L3.RN
open PySem L2 K01
open EX
variable {c : Cfg}
/-! ### hands drawn -/
structure HsB (hs : List Int) (k : Nat) (h : Int) : Prop where
  ln : hs.length = k + 1
  pw : hs.Pairwise (· < ·)
  bd : ∀ z ∈ hs, 0 ≤ z ∧ z ≤ h
  la : hs[k]? = some h
  up : h ≤ 4 + 8 * k
theorem HsB.add {hs : List Int} {k : Nat} {h r : Int} (b : HsB hs k h) (r0 : 0 ≤ r) (r1 : r < 8) : HsB (hs ++ [h + 1 + r]) (k + 1) (h + 1 + r) := by
  have b0 := b.bd
  refine ⟨by simp [b.ln], ?_, fun z hz => ?_, ?_, by have := b.up; omega⟩
  · rw [List.pairwise_append]
    refine ⟨b.pw, by simp, fun x hx y hy => ?_⟩
    simp at hy; subst hy
    have := (b0 x hx).2
    omega
  · have h0 : 0 ≤ h := (b0 h (List.mem_of_getElem? b.la)).1
    rcases List.mem_append.mp hz with hz | hz
    · have := b0 z hz; omega
    · simp at hz; subst hz; omega
  · rw [List.getElem?_append_right (by rw [b.ln]; omega), b.ln]
    simp
theorem HsB.ok {hs : List Int} {k : Nat} {h : Int} (b : HsB hs k h) (hk : k ≤ 11) : HandsOk hs := by
  refine ⟨by rw [b.ln]; omega, by rw [b.ln]; omega, b.pw, fun z hz => ?_⟩
  have := b.bd z hz
  have := b.up
  omega
theorem HsB.turn {hs : List Int} {k : Nat} {h : Int} (b : HsB hs k h) (hk : k ≤ 11) : HandsOk (hs.map fun z => z + 99 - h) := by
  refine ⟨by rw [List.length_map, b.ln]; omega, by rw [List.length_map, b.ln]; omega, ?_, fun z hz => ?_⟩
  · exact b.pw.map _ fun x y hxy => by omega
  · obtain ⟨y, hy, rfl⟩ := List.mem_map.mp hz
    have := b.bd y hy
    have := b.up
    omega
def spHandsR : SpD := fun ds M Q E => ∃ (a : Addr) (st : List Int) (n : Int), ds = [.ref a, .int n] ∧ 0 < n ∧ n ≤ 12 ∧ M a = some (.lst (st.map .int)) ∧ ∀ (hs : List Int) (st' : List Int), HandsOk hs → hs.length ≤ n → Q (.lst (hs.map .int)) (up M a (.lst (st'.map .int)))
theorem atI_m1 {xs : List Int} {k : Nat} {h : Int} (e : xs[k]? = some h) (l : xs.length = k + 1) : atI (xs.map D.int) (-1) = some (.int h) := by
  unfold atI ixN
  rw [if_neg (by omega), if_pos (by simp [l]; omega)]
  simp only [List.length_map, l]
  show (xs.map D.int)[((-1 : Int) + (k + 1 : Nat)).toNat]? = _
  rw [show ((-1 : Int) + (k + 1 : Nat)).toNat = k by omega]
  simp [e]
theorem w_handsR {T : Tab} [hT : TkT T] : ∀ ds M Q E, spHandsR ds M Q E → wSs T b__law_hands (fnK c Q E) (env0 N__law_hands.length ds) M := by
  rintro _ M Q E ⟨a, st, n, rfl, hn, hn2, ha, hQ⟩
  simp [b__law_hands, N__law_hands, env0, varE]
  refine take_use (by omega) ha fun r st1 r0 r1 => ?_
  intro f hf
  have fa : f ≠ a := fun e => by rw [e, up_same] at hf; cases hf
  have Mf : M f = none := by rw [up_ne fa] at hf; exact hf
  refine take_use (st := st1) (by omega) (by rw [up_ne (Ne.symm fa), up_same]) fun r2 st2 q0 q1 => ?_
  rw [up_comm fa, up_up]
  obtain ⟨N, rfl⟩ : ∃ N : Nat, r2 = N := ⟨r2.toNat, by omega⟩
  have it : ∀ M', itD .rng1 [.int (N : Int)] M' = some (rngL 0 N) := fun M' => by
    rw [itD_rng1 (by omega) (by omega)]
    congr 2
  rw [it]
  refine forQ_ind (fun xs env M2 => ∃ (k : Nat) (hs st' : List Int) (h : Int) (v4 : Option D), k ≤ N ∧ xs = (rngL 0 N).drop k ∧ HsB hs k h ∧ env = [some (.ref a), some (.int n), some (.int h), some (.ref f), v4, none] ∧ M2 = up (up M a (.lst (st'.map .int))) f (.lst (hs.map .int)))
    ⟨0, [r], st2, r, none, by omega, rfl, ⟨rfl, by simp, (fun z hz => by simp at hz; subst hz; omega), rfl, by omega⟩, rfl, rfl⟩ ?_ ?_ ?_
  · intros; exact it _
  · rintro y xs _ _ F ⟨k, hs, st', h, v4, hk, e, hb, rfl, rfl⟩ hF
    have hk' : k < N := by
      rcases Nat.lt_or_ge k N with h | h
      · exact h
      · rw [List.drop_eq_nil_of_le (by rw [rng_len]; exact h)] at e; cases e
    rw [rng_drop hk'] at e
    cases e
    refine ⟨_, rfl, ?_⟩
    simp [varE]
    refine take_use (st := st') (by omega) (by rw [up_ne (Ne.symm fa), up_same]) fun r3 st3 s0 s1 => ?_
    rw [up_comm fa, up_up]
    simp
    refine ⟨lt_size (by rw [hb.ln]; omega), hF _ _ ⟨k + 1, hs ++ [h + 1 + r3], st3, _, _, by omega, rfl, hb.add s0 s1, rfl, by simp⟩⟩
  · rintro _ _ ⟨k, hs, st', h, v4, hk, e, hb, rfl, rfl⟩
    have hk' : k = N := by
      rcases Nat.lt_or_ge k N with h | h
      · rw [rng_drop h] at e; cases e
      · omega
    subst hk'
    have kl : k ≤ 11 := by omega
    simp [varE]
    refine take_use (st := st') (by omega) (by rw [up_ne (Ne.symm fa), up_same]) fun r3 st3 s0 s1 => ?_
    rw [up_comm fa, up_up]
    simp
    have sb : Sub (up M a (.lst (st3.map .int))) (up (up M a (.lst (st3.map .int))) f (.lst (hs.map .int))) := sub_up' (by rw [up_ne fa]; exact Mf)
    refine br_dec (fun _ => ?_) (fun _ => ?_)
    · refine compQ_maps hs D.int (fun z => .int (z + 99 - h)) (small (by rw [hb.ln]; omega)) (by simp) (fun z hz => ?_) ?_
      · refine ⟨_, rfl, fun P hP => hP, fun P hP => ?_⟩
        simp [atI_m1 hb.la hb.ln]
        exact hP
      · intro g hg
        have gf : g ≠ f := fun e => by rw [e, up_same] at hg; cases hg
        have hg2 := hg
        rw [up_ne gf] at hg2
        refine rt_lst (ds := (hs.map fun z => z + 99 - h).map .int) (by rw [up_same]; simp [Function.comp_def]) (fun b x hb' => ?_) hg2 (hQ _ _ (hb.turn kl) (by rw [List.length_map, hb.ln]; omega))
        have bg : b ≠ g := fun e => by rw [e, hg2] at hb'; cases hb'
        rw [up_ne bg]
        exact sb b x hb'
    · exact rt_lst (by rw [up_same]) sb (by rw [up_ne fa]; exact Mf) (hQ _ _ (hb.ok kl) (by rw [hb.ln]; omega))
end L3.RN
set_option maxRecDepth 100000
set_option maxHeartbeats 4000000
namespace L3.RN
open PySem L2 K01
open EX
variable {c : Cfg}
/-! ### lines drawn -/
structure LsB (hs : List Int) (L : List (Int × Int)) (j k : Nat) : Prop where
  nd : L.Nodup
  mm : ∀ p ∈ L, p.1 ∈ hs ∧ p.2 ∈ hs ∧ p.1 < p.2
  at' : ∀ p ∈ L, p.2 ∈ hs.take j ∨ (hs[j]? = some p.2 ∧ p.1 ∈ hs.take k)
  ln : L.length ≤ 12 * j + k
theorem not_take {hs : List Int} (pw : hs.Pairwise (· < ·)) {j : Nat} {x : Int} (h : hs[j]? = some x) : x ∉ hs.take j := fun hm => by
  obtain ⟨i, hi⟩ := List.mem_iff_getElem?.mp hm
  have hl : i < j := by
    rcases Nat.lt_or_ge i j with h | h
    · exact h
    · rw [List.getElem?_take, if_neg (by omega)] at hi; cases hi
  rw [List.getElem?_take, if_pos hl] at hi
  obtain ⟨h1, e1⟩ := List.getElem?_eq_some_iff.mp hi
  obtain ⟨h2, e2⟩ := List.getElem?_eq_some_iff.mp h
  have := List.pairwise_iff_getElem.mp pw i j h1 h2 hl
  omega
theorem take_mono {hs : List Int} {k : Nat} {x : Int} (h : x ∈ hs.take k) : x ∈ hs.take (k + 1) := by
  rw [List.take_add_one]
  exact List.mem_append_left _ h
theorem take_at {hs : List Int} {k : Nat} {x : Int} (h : hs[k]? = some x) : x ∈ hs.take (k + 1) := by
  rw [List.take_add_one, h]
  simp
theorem LsB.skip {hs : List Int} {L : List (Int × Int)} {j k : Nat} (b : LsB hs L j k) : LsB hs L j (k + 1) :=
  ⟨b.nd, b.mm, fun p hp => (b.at' p hp).imp id fun h => ⟨h.1, take_mono h.2⟩, by have := b.ln; omega⟩
theorem LsB.next {hs : List Int} {L : List (Int × Int)} {j : Nat} (b : LsB hs L j j) (hj : j ≤ 12) : LsB hs L (j + 1) 0 :=
  ⟨b.nd, b.mm, fun p hp => .inl <| (b.at' p hp).elim take_mono fun h => take_at h.1, by have := b.ln; omega⟩
theorem LsB.add {hs : List Int} {L : List (Int × Int)} {j k : Nat} {x y : Int} (b : LsB hs L j k) (pw : hs.Pairwise (· < ·)) (hx : hs[k]? = some x) (hy : hs[j]? = some y) (hk : k < j) : LsB hs (L ++ [(x, y)]) j (k + 1) := by
  have lt : x < y := by
    obtain ⟨h1, e1⟩ := List.getElem?_eq_some_iff.mp hx
    obtain ⟨h2, e2⟩ := List.getElem?_eq_some_iff.mp hy
    have := List.pairwise_iff_getElem.mp pw k j h1 h2 hk
    omega
  refine ⟨?_, fun p hp => ?_, fun p hp => ?_, by have := b.ln; simp; omega⟩
  · rw [List.nodup_append]
    refine ⟨b.nd, by simp, fun p hp q hq e => ?_⟩
    simp at hq
    subst hq; subst e
    rcases b.at' _ hp with h | h
    · exact not_take pw hy h
    · exact not_take pw hx h.2
  · rcases List.mem_append.mp hp with hp | hp
    · exact b.mm p hp
    · simp at hp; subst hp; exact ⟨List.mem_of_getElem? hx, List.mem_of_getElem? hy, lt⟩
  · rcases List.mem_append.mp hp with hp | hp
    · exact (b.at' p hp).imp id fun h => ⟨h.1, take_mono h.2⟩
    · simp at hp; subst hp; exact .inr ⟨hy, take_at hx⟩
theorem six {r : Int} (h : 0 ≤ r) (h2 : r < 6) (a b c d e f : Bool) : ∃ x, atI [D.bl a, D.bl b, D.bl c, D.bl d, D.bl e, D.bl f] r = some (.bl x) := by
  have : r = 0 ∨ r = 1 ∨ r = 2 ∨ r = 3 ∨ r = 4 ∨ r = 5 := by omega
  rcases this with rfl | rfl | rfl | rfl | rfl | rfl <;> exact ⟨_, rfl⟩
theorem six_use {r : Int} {P : D → Prop} {a b c d e f : Bool} (h : 0 ≤ r) (h2 : r < 6) (hP : ∀ b, P (.bl b)) : obn (atI [D.bl a, D.bl b, D.bl c, D.bl d, D.bl e, D.bl f] r) P := by
  obtain ⟨x, hx⟩ := six h h2 a b c d e f
  rw [hx]
  exact hP x
@[simp] theorem endD_var {i : Nat} {x : Int} : endD (.var i) (.int x) = some (some x) := rfl
def li : List SS := match b__law_lines with
  | [_, _, .fors _ _ _ [.fors _ _ _ b], _, _] => b
  | _ => []
def l0 : List SS := b__law_lines.take 2
def l3 : List SS := b__law_lines.drop 3
theorem l_split : b__law_lines = l0 ++ (.fors (.nm 4) .rng1 [(.bi false .len [(.var 1)])] [.fors (.nm 6) .rng1 [(.var 4)] li] :: l3) := rfl
def LiP (T : Tab) (bb : List SS) : Prop := ∀ (M : Mm) (a f : Addr) (st : List Int) (L : List (Int × Int)) (way j k x y N : Int) (K : KD) (dl : D) (v5 v7 v8 : Option D), 0 ≤ way → way < 6 → f ≠ a → 0 < j →
    (∀ M, lenD M dl = some N) → (∀ M Q, ixD dl (.int k) M Q = Q (.int x)) → (∀ M Q, ixD dl (.int j) M Q = Q (.int y)) → L.length ≤ 300 →
    (∀ (st' : List Int) L' v7 v8, (L' = L ∨ L' = L ++ [(x, y)]) → K.nx [some (.ref a), some dl, some (.int way), some (.ref f), some (.int j), v5, some (.int k), v7, v8] (up (up M a (.lst (st'.map .int))) f (.lst (L'.map prD)))) →
    wSs T bb K [some (.ref a), some dl, some (.int way), some (.ref f), some (.int j), v5, some (.int k), v7, v8] (up (up M a (.lst (st.map .int))) f (.lst (L.map prD)))
theorem w_li {T : Tab} [hT : TkT T] : LiP T li := by
  intro M a f st L way j k x y N K dl v5 v7 v8 w0 w1 fa hj hl ix iy hL hK
  have fin : ∀ (st' : List Int) (b : Bool) v7 v8, br b (cnd (L.length < sizeLine) (K.nx [some (.ref a), some dl, some (.int way), some (.ref f), some (.int j), v5, some (.int k), v7, v8] (up (up M a (.lst (st'.map .int))) f (.lst (L.map prD ++ [.tup [.int x, .int y]])))))
      (K.nx [some (.ref a), some dl, some (.int way), some (.ref f), some (.int j), v5, some (.int k), v7, v8] (up (up M a (.lst (st'.map .int))) f (.lst (L.map prD)))) := fun st' b v7 v8 => by
    cases b with
    | true => exact ⟨lt_size (by omega), by have := hK st' (L ++ [(x, y)]) v7 v8 (.inr rfl); simpa [prD] using this⟩
    | false => exact hK st' L v7 v8 (.inl rfl)
  simp [li, b__law_lines, varE, hl]
  refine br_cases (fun _ => ?_) (fun _ => ?_)
  all_goals
    refine take_use (st := st) (by omega) (by rw [up_ne (Ne.symm fa), up_same]) fun r st2 r0 r1 => ?_
    rw [up_comm fa, up_up]
    simp [hj, ix, iy]
    refine br_cases (fun _ => ?_) (fun _ => ?_)
    all_goals
      refine six_use w0 w1 fun b => ?_
      simp [ix, iy]
      exact fin st2 b _ _
def spLinesR : SpD := fun ds M Q E => ∃ (a : Addr) (st hs : List Int), ds = [.ref a, .lst (hs.map .int)] ∧ HandsOk hs ∧ M a = some (.lst (st.map .int)) ∧ ∀ ls (st' : List Int), LinesOk hs ls → Q (.lst (ls.map prD)) (up M a (.lst (st'.map .int)))
theorem w_l3 {T : Tab} [hT : TkT T] {M : Mm} {Q : QD} {E : QX} {a f : Addr} {st hs : List Int} {L : List (Int × Int)} {dl v2 : D} {v4 v6 v7 v8 : Option D} (fa : f ≠ a) (Mf : M f = none) (lo : LinesOk hs L)
    (hQ : ∀ ls (st' : List Int), LinesOk hs ls → Q (.lst (ls.map prD)) (up M a (.lst (st'.map .int)))) : wSs T l3 (fnK c Q E) [some (.ref a), some dl, some v2, some (.ref f), v4, none, v6, v7, v8] (up (up M a (.lst (st.map .int))) f (.lst (L.map prD))) := by
  obtain ⟨N, hN⟩ : ∃ N : Int, (L.length : Int) + 1 = N := ⟨_, rfl⟩
  obtain ⟨l1, l2, l3'⟩ := lo
  simp [l3, b__law_lines, varE, hN]
  refine take_use (st := st) (by omega) (by rw [up_ne (Ne.symm fa), up_same]) fun t st2 r0 r1 => ?_
  rw [up_comm fa, up_up]
  have hf : up (up M a (.lst (st2.map .int))) f (.lst (L.map prD)) f = some (.lst (L.map prD)) := up_same
  have c1 := cut_drop (xs := L.map prD) r0 (by rw [List.length_map]; omega)
  have c2 := cut_take (xs := L.map prD) r0 (by rw [List.length_map]; omega)
  simp [slD_ref hf, c1, c2]
  refine ⟨small (by omega), ?_⟩
  have lo' : LinesOk hs (L.drop t.toNat ++ L.take t.toNat) := by
    have pm : (L.drop t.toNat ++ L.take t.toNat).Perm L := by
      have := (List.perm_append_comm (l₁ := L.drop t.toNat) (l₂ := L.take t.toNat))
      rw [List.take_append_drop] at this
      exact this
    exact ⟨pm.nodup_iff.mpr l1, by rw [pm.length_eq]; exact l2, fun p hp => l3' p (pm.mem_iff.mp hp)⟩
  have := hQ _ st2 lo'
  refine rt_id ?_ (sub_up' (by rw [up_ne fa]; exact Mf))
  simpa using this
theorem it12 (n : Nat) (hn : n ≤ 12) (M' : Mm) : itD .rng1 [.int (n : Int)] M' = some (rngL 0 n) := by
  rw [itD_rng1 (by omega) (by omega)]
  congr 2
theorem w_inner {T : Tab} {bb : List SS} (hbb : LiP T bb) {M : Mm} {a f : Addr} {st hs : List Int} {L : List (Int × Int)} {way N z : Int} {j n : Nat} (hz : z = (j : Int)) {K : KD} {dl : D} {v5 v6 v7 v8 : Option D} (w0 : 0 ≤ way) (w1 : way < 6) (fa : f ≠ a) (hj : j < n) (hn : n = hs.length) (h12 : n ≤ 12) (pw : hs.Pairwise (· < ·))
    (hl : ∀ M, lenD M dl = some N) (ix : ∀ (k : Nat) (x : Int), hs[k]? = some x → ∀ M Q, ixD dl (.int (k : Int)) M Q = Q (.int x)) (hb : LsB hs L j 0)
    (hK : ∀ (st' : List Int) L' v6 v7 v8, LsB hs L' (j + 1) 0 → K.nx [some (.ref a), some dl, some (.int way), some (.ref f), some (.int z), v5, v6, v7, v8] (up (up M a (.lst (st'.map .int))) f (.lst (L'.map prD)))) :
    wSs T [.fors (.nm 6) .rng1 [(.var 4)] bb] K [some (.ref a), some dl, some (.int way), some (.ref f), some (.int z), v5, v6, v7, v8] (up (up M a (.lst (st.map .int))) f (.lst (L.map prD))) := by
  have itj : ∀ M', itD .rng1 [.int z] M' = some (rngL 0 j) := by rw [hz]; exact it12 j (by omega)
  simp [varE]
  rw [itj]
  refine forQ_ind (fun xs env M2 => ∃ (k : Nat) (L : List (Int × Int)) (st' : List Int) (v6 v7 v8 : Option D), k ≤ j ∧ xs = (rngL 0 j).drop k ∧ LsB hs L j k ∧ env = [some (.ref a), some dl, some (.int way), some (.ref f), some (.int z), v5, v6, v7, v8] ∧ M2 = up (up M a (.lst (st'.map .int))) f (.lst (L.map prD)))
    ⟨0, L, st, v6, v7, v8, by omega, rfl, hb, rfl, rfl⟩ ?_ ?_ ?_
  · intros; exact itj _
  · rintro y xs _ _ F2 ⟨k, L, st', v6, v7, v8, hk, e, hb, rfl, rfl⟩ hF2
    have hk' : k < j := by
      rcases Nat.lt_or_ge k j with h | h
      · exact h
      · rw [List.drop_eq_nil_of_le (by rw [rng_len]; exact h)] at e; cases e
    rw [rng_drop hk'] at e
    cases e
    refine ⟨_, rfl, ?_⟩
    obtain ⟨x, hx⟩ : ∃ x, hs[k]? = some x := ⟨_, List.getElem?_eq_getElem (by omega)⟩
    obtain ⟨y, hy⟩ : ∃ y, hs[j]? = some y := ⟨_, List.getElem?_eq_getElem (by omega)⟩
    refine hbb M a f st' L way z k x y N _ dl v5 v7 v8 w0 w1 fa (by omega) hl (ix k x hx) (by rw [hz]; exact ix j y hy) (by have := hb.ln; omega) fun st2 L' v7 v8 hL => ?_
    refine hF2 _ _ ⟨k + 1, L', st2, _, v7, v8, by omega, rfl, ?_, rfl, rfl⟩
    rcases hL with rfl | rfl
    · exact hb.skip
    · exact hb.add pw hx hy hk'
  · rintro _ _ ⟨k, L, st', v6, v7, v8, hk, e, hb, rfl, rfl⟩
    have hk' : k = j := by
      rcases Nat.lt_or_ge k j with h | h
      · rw [rng_drop h] at e; cases e
      · omega
    subst hk'
    exact hK st' L v6 v7 v8 (hb.next (by omega))
theorem w_lines0 {T : Tab} [hT : TkT T] {bb : List SS} (hbb : LiP T bb) : ∀ ds M Q E, spLinesR ds M Q E → wSs T (l0 ++ (.fors (.nm 4) .rng1 [(.bi false .len [(.var 1)])] [.fors (.nm 6) .rng1 [(.var 4)] bb] :: l3)) (fnK c Q E) (env0 N__law_lines.length ds) M := by
  rintro _ M Q E ⟨a, st, hs, rfl, ho, ha, hQ⟩
  have h12 := ho.2.1
  obtain ⟨n, hn⟩ : ∃ n : Nat, n = hs.length := ⟨_, rfl⟩
  obtain ⟨dl, hd⟩ : ∃ dl, dl = D.lst (hs.map .int) := ⟨_, rfl⟩
  obtain ⟨z, hz⟩ : ∃ z : Int, z = n := ⟨_, rfl⟩
  have hl : ∀ M, lenD M dl = some z := fun M => by subst hd; subst hz; subst hn; show some (((hs.map D.int).length : Nat) : Int) = _; rw [List.length_map]
  have ix : ∀ (k : Nat) (x : Int), hs[k]? = some x → ∀ M Q, ixD dl (.int (k : Int)) M Q = Q (.int x) := fun k x h M Q => by
    subst hd
    show obn (atI (hs.map D.int) (k : Int)) Q = _
    rw [atI_lit (d := .int x) (by simp [h])]
    rfl
  have it : ∀ (n : Nat), n ≤ 12 → ∀ M', itD .rng1 [.int (n : Int)] M' = some (rngL 0 n) := fun n hn M' => by
    rw [itD_rng1 (by omega) (by omega)]
    congr 2
  have itn : ∀ M', itD .rng1 [.int z] M' = some (rngL 0 n) := by rw [hz]; exact it n (by omega)
  rw [← hd, wSs_app]
  simp [l0, b__law_lines, N__law_lines, env0, varE, hl]
  refine take_use (by omega) ha fun way st1 w0 w1 => ?_
  intro f hf
  have fa : f ≠ a := fun e => by rw [e, up_same] at hf; cases hf
  have Mf : M f = none := by rw [up_ne fa] at hf; exact hf
  rw [itn]
  refine forQ_ind (fun xs env M2 => ∃ (j : Nat) (L : List (Int × Int)) (st' : List Int) (v4 v6 v7 v8 : Option D), j ≤ n ∧ xs = (rngL 0 n).drop j ∧ LsB hs L j 0 ∧ env = [some (.ref a), some dl, some (.int way), some (.ref f), v4, none, v6, v7, v8] ∧ M2 = up (up M a (.lst (st'.map .int))) f (.lst (L.map prD)))
    ⟨0, [], st1, none, none, none, none, by omega, rfl, ⟨List.nodup_nil, (fun _ h => nomatch h), (fun _ h => nomatch h), by simp⟩, rfl, rfl⟩ ?_ ?_ ?_
  · intros; exact itn _
  · rintro y xs _ _ F ⟨j, L, st', v4, v6, v7, v8, hj, e, hb, rfl, rfl⟩ hF
    have hj' : j < n := by
      rcases Nat.lt_or_ge j n with h | h
      · exact h
      · rw [List.drop_eq_nil_of_le (by rw [rng_len]; exact h)] at e; cases e
    obtain ⟨zj, hzj⟩ : ∃ z : Int, z = (j : Int) := ⟨_, rfl⟩
    rw [rng_drop hj', ← hzj] at e
    cases e
    refine ⟨_, rfl, ?_⟩
    exact w_inner hbb hzj (v5 := none) w0 w1 fa hj' hn (by omega) ho.2.2.1 hl ix hb fun st2 L' v6 v7 v8 hL => hF _ _ ⟨j + 1, L', st2, _, v6, v7, v8, by omega, rfl, hL, rfl, rfl⟩
  · rintro _ _ ⟨j, L, st', v4, v6, v7, v8, hj, e, hb, rfl, rfl⟩
    exact w_l3 fa Mf ⟨hb.nd, by have := hb.ln; omega, hb.mm⟩ hQ
theorem w_linesR {T : Tab} [hT : TkT T] : ∀ ds M Q E, spLinesR ds M Q E → wSs T b__law_lines (fnK c Q E) (env0 N__law_lines.length ds) M := fun ds M Q E h => by
  rw [l_split]
  exact w_lines0 w_li ds M Q E h
end L3.RN
set_option maxRecDepth 100000
set_option maxHeartbeats 4000000
namespace L3.RN
open PySem L2 K01
open EX
variable {c : Cfg}
theorem compL_filters {α : Type} {chk : Mm → Prop} {wc we : Env → Mm → (D → Mm → Prop) → Prop} {tg : Tg} {env : Env} (g f : α → D) (p : α → Bool) : ∀ (xs : List α) (acc : List D) (M : Mm) (Q : List D → Mm → Prop), chk M →
    (∀ x ∈ xs, ∃ env', bindT tg (g x) M env = some env' ∧ (∀ P : D → Mm → Prop, P (.bl (p x)) M → wc env' M P) ∧ (p x = true → ∀ P : D → Mm → Prop, P (f x) M → we env' M P)) → Q (acc ++ (xs.filter p).map f) M → compL chk wc we tg env (xs.map g) acc M Q
  | [], acc, M, Q, hc, _, hQ => ⟨hc, by simpa using hQ⟩
  | x :: r, acc, M, Q, hc, h, hQ => by
    obtain ⟨env', e, h1, h2⟩ := h x List.mem_cons_self
    refine ⟨hc, ?_⟩
    rw [e]
    refine h1 _ ?_
    show obn (some (p x)) _
    cases hp : p x with
    | true => exact h2 hp _ (compL_filters g f p r _ M Q hc (fun y hy => h y (List.mem_cons_of_mem _ hy)) (by simpa [hp] using hQ))
    | false => exact compL_filters g f p r _ M Q hc (fun y hy => h y (List.mem_cons_of_mem _ hy)) (by simpa [hp] using hQ)
theorem compQ_filters {α : Type} {chk : List D → Mm → Prop} {wc we : Env → Mm → (D → Mm → Prop) → Prop} {tg : Tg} {env : Env} {M : Mm} {Q : List D → Mm → Prop} (xs : List α) (g f : α → D) (p : α → Bool) (hl : xs.length ≤ sizeLine) (hc : chk (xs.map g) M)
    (h : ∀ x ∈ xs, ∃ env', bindT tg (g x) M env = some env' ∧ (∀ P : D → Mm → Prop, P (.bl (p x)) M → wc env' M P) ∧ (p x = true → ∀ P : D → Mm → Prop, P (f x) M → we env' M P)) (hQ : Q ((xs.filter p).map f) M) : compQ chk wc we tg env (some (xs.map g)) M Q :=
  ⟨by rw [List.length_map]; exact hl, compL_filters g f p xs [] M Q hc h (by simpa using hQ)⟩
/-! ### near ones -/
def nb (hs : List Int) (ls : List (Int × Int)) (h : Int) : List Int := hs.filter fun z => joinB ls h z
def nraw (ls : List (Int × Int)) (h : Int) : List Int := (ls.filter fun p => decide (p.1 = h)).map (·.2) ++ (ls.filter fun p => decide (p.2 = h)).map (·.1)
theorem nodup_map' {α β : Type} {f : α → β} : ∀ {l : List α}, l.Nodup → (∀ x ∈ l, ∀ y ∈ l, f x = f y → x = y) → (l.map f).Nodup
  | [], _, _ => List.nodup_nil
  | x :: r, h, hf => by
    rw [List.nodup_cons] at h
    rw [List.map_cons, List.nodup_cons]
    refine ⟨fun hm => ?_, nodup_map' h.2 fun a ha b hb => hf a (List.mem_cons_of_mem _ ha) b (List.mem_cons_of_mem _ hb)⟩
    obtain ⟨y, hy, e⟩ := List.mem_map.mp hm
    exact h.1 (by rw [hf x List.mem_cons_self y (List.mem_cons_of_mem _ hy) e.symm]; exact hy)
theorem near_sort {hs : List Int} {ls : List (Int × Int)} (ho : HandsOk hs) (lo : LinesOk hs ls) (h : Int) : ((nraw ls h).mergeSort fun a b => decide (a ≤ b)) = nb hs ls h := by
  obtain ⟨l1, l2, l3⟩ := lo
  refine sort_eq ?_ (ho.2.2.1.filter _) fun z => ?_
  · unfold nraw
    rw [List.nodup_append]
    refine ⟨nodup_map' (l1.filter _) ?_, nodup_map' (l1.filter _) ?_, ?_⟩
    · rintro ⟨a, b⟩ hx ⟨a', b'⟩ hy e
      simp at hx hy e
      rw [hx.2, hy.2, e]
    · rintro ⟨a, b⟩ hx ⟨a', b'⟩ hy e
      simp at hx hy e
      rw [hx.2, hy.2, e]
    · intro x hx y hy e
      subst e
      obtain ⟨⟨a, b⟩, hp, e1⟩ := List.mem_map.mp hx
      obtain ⟨⟨a', b'⟩, hq, e2⟩ := List.mem_map.mp hy
      simp at hp hq e1 e2
      have h1 := (l3 _ hp.1).2.2
      have h2 := (l3 _ hq.1).2.2
      simp at h1 h2
      omega
  · unfold nraw nb
    simp only [List.mem_append, List.mem_map, List.mem_filter, joinB, Bool.or_eq_true, decide_eq_true_eq]
    constructor
    · rintro (⟨⟨a, b⟩, ⟨h1, h2⟩, h3⟩ | ⟨⟨a, b⟩, ⟨h1, h2⟩, h3⟩)
      · simp at h2 h3; subst h2; subst h3; exact ⟨(l3 _ h1).2.1, .inl h1⟩
      · simp at h2 h3; subst h2; subst h3; exact ⟨(l3 _ h1).1, .inr h1⟩
    · rintro ⟨h1, h2 | h2⟩
      · exact .inl ⟨_, ⟨h2, rfl⟩, rfl⟩
      · exact .inr ⟨_, ⟨h2, rfl⟩, rfl⟩
def spNearR : SpD := fun ds M Q E => ∃ hs ls h, ds = [.lst (ls.map prD), .int h] ∧ HandsOk hs ∧ LinesOk hs ls ∧ Q (.lst ((nb hs ls h).map .int)) M
theorem w_nearR {T : Tab} : ∀ ds M Q E, spNearR ds M Q E → wSs T b__law_near (fnK c Q E) (env0 N__law_near.length ds) M := by
  rintro _ M Q E ⟨hs, ls, h, rfl, ho, lo, hQ⟩
  have l2 := lo.2.1
  simp [b__law_near, N__law_near, env0, varE]
  refine compQ_start (items := ls.map prD) rfl ?_
  refine compQ_filters ls prD (fun p => .int p.2) (fun p => decide (p.1 = h)) (small (by omega)) rfl (fun p hp => ⟨_, rfl, fun P hP => ?_, fun _ P hP => ?_⟩) ?_
  · have e : (p.1 == h) = decide (p.1 = h) := rfl
    simp [prD]
    rw [e]
    exact hP
  · exact hP
  · refine compQ_start (items := ls.map prD) rfl ?_
    refine compQ_filters ls prD (fun p => .int p.1) (fun p => decide (p.2 = h)) (small (by omega)) rfl (fun p hp => ⟨_, rfl, fun P hP => ?_, fun _ P hP => ?_⟩) ?_
    · have e : (p.2 == h) = decide (p.2 = h) := rfl
      simp [prD]
      rw [e]
      exact hP
    · exact hP
    · have e : ((ls.filter fun p => decide (p.1 = h)).map fun p => D.int p.2) ++ ((ls.filter fun p => decide (p.2 = h)).map fun p => D.int p.1) = (nraw ls h).map .int := by simp [nraw, Function.comp_def]
      have f1 := List.length_filter_le (fun p : Int × Int => decide (p.1 = h)) ls
      have f2 := List.length_filter_le (fun p : Int × Int => decide (p.2 = h)) ls
      refine ⟨small (by rw [List.length_map, List.length_map]; omega), ?_⟩
      rw [e, srt_ints, near_sort ho lo]
      exact rt_self hQ
class DrT (T : Tab) : Prop where
  h0 : lk T.fn ._law_draws = some spDraws
@[simp] theorem dr0 {T : Tab} [h : DrT T] : lk T.fn ._law_draws = some spDraws := h.h0
/-! ### how many rounds -/
end L3.RN
set_option maxRecDepth 100000
set_option maxHeartbeats 4000000
namespace L3.RN
open PySem L2 K01
open EX
variable {c : Cfg}
/-! ### expressions drawn -/
def wb (k : Int) : Nat := if k ≤ 0 then 1 else if k = 1 then 5 else 11
def spExprR (n : Nat) : SpD := fun ds M Q E => ∃ (a : Addr) (st : List Int) (ws : List PySem.Str) (k : Int), ds = [.ref a, strsD ws, .int k] ∧ 0 ≤ k ∧ k < n ∧ k ≤ 2 ∧ 0 < ws.length ∧ ws.length ≤ 20 ∧ M a = some (.lst (st.map .int)) ∧
  ∀ e (st' : List Int), EX.okE ws e → (dep e : Int) ≤ k + 1 → wrd e ≤ wb k → Q (tD e) (up M a (.lst (st'.map .int)))
class XpT (T : Tab) (n : outParam Nat) : Prop where
  h0 : lk T.fn ._law_expr = some (spExprR n)
  h1 : lk T.fn ._law_take = some spTake
@[simp] theorem xr0 {T : Tab} {n : Nat} [h : XpT T n] : lk T.fn ._law_expr = some (spExprR n) := h.h0
@[simp] theorem xr1 {T : Tab} {n : Nat} [h : XpT T n] : lk T.fn ._law_take = some spTake := h.h1
end L3.RN
set_option maxRecDepth 100000
set_option maxHeartbeats 4000000
namespace L3.RN
open PySem L2 K01
open EX
variable {c : Cfg}
/-! ### programs drawn -/
def n3 : List PySem.Str := ["me", "lines", "me"]
def n10 : List PySem.Str := ["worth", "me", "round", "lines", "sum", "least", "most", "count", "sum", "most"]
def spHN : SpD := fun ds M Q E => ds = [] ∧ Q (strsD n10) M
class PrT (T : Tab) : Prop where
  h0 : lk T.fn ._law_draws = some spDraws
  h1 : lk T.fn ._law_take = some spTake
  h2 : lk T.fn ._law_expr = some (spExprR 3)
  h3 : lk T.fn ._law_heard_names = some spHN
@[simp] theorem pr0 {T : Tab} [h : PrT T] : lk T.fn ._law_draws = some spDraws := h.h0
@[simp] theorem pr1 {T : Tab} [h : PrT T] : lk T.fn ._law_take = some spTake := h.h1
@[simp] theorem pr2 {T : Tab} [h : PrT T] : lk T.fn ._law_expr = some (spExprR 3) := h.h2
@[simp] theorem pr3 {T : Tab} [h : PrT T] : lk T.fn ._law_heard_names = some spHN := h.h3
/-! ### programs made -/
class PmT (T : Tab) : Prop where
  h0 : lk T.fn ._law_made = some (spMade 3)
  c0 : lk T.cl .Program = some (spProgram 3)
@[simp] theorem pm0 {T : Tab} [h : PmT T] : lk T.fn ._law_made = some (spMade 3) := h.h0
@[simp] theorem pm1 {T : Tab} [h : PmT T] : lk T.cl .Program = some (spProgram 3) := h.c0
end L3.RN
set_option maxRecDepth 100000
set_option maxHeartbeats 4000000
namespace L3.RN
open PySem L2 K01
open EX
variable {c : Cfg}
/-! ### what a plain run computes -/
def w0 (e1 : Ex) (hs : List Int) (ls : List (Int × Int)) (h : Int) : Int := ev (v1 h (nb hs ls h).length) e1
def msg (e2 e3 : Ex) (hs : List Int) (ls : List (Int × Int)) (W : Int → Int) (t h o : Int) : Option Int :=
  if ev (v2 (W h) h t (nb hs ls h).length o) e3 ≤ 0 then none else some (ev (v2 (W h) h t (nb hs ls h).length o) e2)
def hrd (e2 e3 : Ex) (hs : List Int) (ls : List (Int × Int)) (W : Int → Int) (t o : Int) : List (Int × Int) :=
  (nb hs ls o).filterMap fun h => (msg e2 e3 hs ls W t h o).map fun i => (h, i)
def nxt (e2 e3 e4 : Ex) (hs : List Int) (ls : List (Int × Int)) (W : Int → Int) (t h : Int) : Int :=
  ev (v3 (W h) h t (nb hs ls h).length ((hrd e2 e3 hs ls W t h).map (·.2))) e4
def wK (hs : List Int) (W : Int → Int) : List (D × D) := hs.map fun h => (.int h, .int (W h))
def hK (hs : List Int) (F : Int → List (Int × Int)) : List (D × D) := hs.map fun h => (.int h, .lst ((F h).map prD))
class PlT (T : Tab) (n : outParam Nat) : Prop where
  m0 : lk2 T.mt .Web .hands = some spHands
  m1 : lk2 T.mt .Web .neighbours = some spNear
  m2 : lk2 T.mt .Program .first_worth = some (spFirst n)
  m3 : lk2 T.mt .Program .word_to = some (spWord n)
  m4 : lk2 T.mt .Program .next_worth = some (spNext n)
@[simp] theorem pl0 {T : Tab} {n : Nat} [h : PlT T n] : lk2 T.mt .Web .hands = some spHands := h.m0
@[simp] theorem pl1 {T : Tab} {n : Nat} [h : PlT T n] : lk2 T.mt .Web .neighbours = some spNear := h.m1
@[simp] theorem pl2 {T : Tab} {n : Nat} [h : PlT T n] : lk2 T.mt .Program .first_worth = some (spFirst n) := h.m2
@[simp] theorem pl3 {T : Tab} {n : Nat} [h : PlT T n] : lk2 T.mt .Program .word_to = some (spWord n) := h.m3
@[simp] theorem pl4 {T : Tab} {n : Nat} [h : PlT T n] : lk2 T.mt .Program .next_worth = some (spNext n) := h.m4
theorem any_key {kvs : List (D × D)} {i : Int} : ∀ (hs : List Int) (g : Int → D), ((hs.map fun h => (D.int h, g h)).any fun p => eqKey p.1 (.int i)) = decide (i ∈ hs)
  | [], g => by simp
  | h :: r, g => by
    rw [List.map_cons, List.any_cons, any_key (kvs := kvs) r g]
    show (decide (h = i) || _) = _
    by_cases e : h = i
    · subst e; simp
    · have : ¬ i = h := fun q => e q.symm
      by_cases e2 : i ∈ r <;> simp [e, e2, this]
theorem put_new {hs : List Int} {g : Int → D} {i : Int} (h : i ∉ hs) : putK (hs.map fun h => (D.int h, g h)) (.int i) (g i) = (hs ++ [i]).map fun h => (D.int h, g h) := by
  unfold putK
  rw [any_key (kvs := []) hs g, if_neg (by simpa using h)]
  simp
theorem get_key {g : Int → D} {i : Int} : ∀ {hs : List Int}, i ∈ hs → getK (hs.map fun h => (D.int h, g h)) (.int i) = some (g i)
  | [], h => nomatch h
  | z :: r, h => by
    show (if eqKey (.int z) (.int i) = true then some (g z) else getK (r.map fun h => (D.int h, g h)) (.int i)) = _
    by_cases e : z = i
    · subst e; rw [if_pos (by simp [eqKey])]
    · rw [if_neg (by simpa [eqKey] using e)]
      exact get_key ((List.mem_cons.mp h).resolve_left fun q => e q.symm)
def spFirstW (n : Nat) : SpD := fun ds M Q E => ∃ hs ls P e1 e2 e3 e4, ds = [webD hs ls, P] ∧ HandsOk hs ∧ LinesOk hs ls ∧ PrV M P e1 e2 e3 e4 ∧ okP e1 e2 e3 e4 ∧ dpP n e1 e2 e3 e4 ∧ ∀ a, M a = none → Q (.ref a) (up M a (.dct false (wK hs (w0 e1 hs ls))))
end L3.RN
set_option maxRecDepth 100000
set_option maxHeartbeats 4000000
namespace L3.RN
open PySem L2 K01
open EX
variable {c : Cfg}
/-- worths of hands, in a dict -/
def WAt (M : Mm) (Wd : D) (hs : List Int) (W : Int → Int) : Prop := ∃ kvs, dctD M Wd = some (false, kvs) ∧ ∀ h ∈ hs, getK kvs (.int h) = some (.int (W h))
theorem WAt.sub {M M' : Mm} {Wd : D} {hs : List Int} {W : Int → Int} (h : WAt M Wd hs W) (s : Sub M M') : WAt M' Wd hs W := by
  obtain ⟨kvs, h1, h2⟩ := h
  refine ⟨kvs, ?_, h2⟩
  cases Wd <;> try exact h1
  rename_i a
  cases e : M a with
  | none => simp [dctD, e] at h1
  | some k =>
    have e' := s a k e
    simp only [dctD, e, e'] at h1 ⊢
    exact h1
theorem WAt.ix {M : Mm} {Wd : D} {hs : List Int} {W : Int → Int} (h : WAt M Wd hs W) {i : Int} (hi : i ∈ hs) {Q : D → Prop} (hQ : Q (.int (W i))) : ixD Wd (.int i) M Q := by
  obtain ⟨kvs, h1, h2⟩ := h
  unfold ixD
  rw [h1]
  show cnd (keyOk false (.int i) = true) (obn (getK kvs (.int i)) Q)
  rw [h2 i hi]
  exact ⟨rfl, hQ⟩
/-! ### the worths behind a round -/
def spBehind (n : Nat) : SpD := fun ds M Q E => ∃ hs ls P Wd t e1 e2 e3 e4 W, ds = [webD hs ls, P, Wd, .int t, .dct false (hK hs (hrd e2 e3 hs ls W t))] ∧ HandsOk hs ∧ LinesOk hs ls ∧ PrV M P e1 e2 e3 e4 ∧ okP e1 e2 e3 e4 ∧ dpP n e1 e2 e3 e4 ∧ WAt M Wd hs W ∧
  ∀ a, M a = none → Q (.ref a) (up M a (.dct false (wK hs (nxt e2 e3 e4 hs ls W t))))
end L3.RN
set_option maxRecDepth 100000
set_option maxHeartbeats 4000000
namespace L3.RN
open PySem L2 K01
open EX
variable {c : Cfg}
/-! ### a dict of lists, at places -/
structure HAt (M0 : Mm) (f : Addr) (hs : List Int) (A : Int → Addr) (G : Int → List (Int × Int)) (M2 : Mm) : Prop where
  cf : M2 f = some (.dct false (hs.map fun h => (.int h, .ref (A h))))
  cg : ∀ h ∈ hs, M2 (A h) = some (.lst ((G h).map prD))
  inj : ∀ h ∈ hs, ∀ g ∈ hs, A h = A g → h = g
  fr : ∀ h ∈ hs, M0 (A h) = none ∧ A h ≠ f
  Mf : M0 f = none
  off : ∀ y, y ≠ f → (∀ h ∈ hs, y ≠ A h) → M2 y = M0 y
theorem HAt.sub {M0 : Mm} {f : Addr} {hs : List Int} {A : Int → Addr} {G : Int → List (Int × Int)} {M2 : Mm} (m : HAt M0 f hs A G M2) : Sub M0 M2 := fun y k h => by
  have yf : y ≠ f := fun e => by rw [e, m.Mf] at h; cases h
  rw [m.off y yf fun z hz e => by rw [e, (m.fr z hz).1] at h; cases h]
  exact h
theorem HAt.new {M0 : Mm} {f : Addr} {p : List Int} {A : Int → Addr} {M2 : Mm} {u : Int} (m : HAt M0 f p A (fun _ => []) M2) (hu : u ∉ p) {a : Addr} (ha : M2 a = none) :
    a ≠ f ∧ HAt M0 f (p ++ [u]) (fun h => if h = u then a else A h) (fun _ => []) (up (up M2 a (.lst [])) f (.dct false ((p ++ [u]).map fun h => (.int h, .ref (if h = u then a else A h))))) := by
  have af : a ≠ f := fun e => by rw [e, m.cf] at ha; cases ha
  have ap : ∀ h ∈ p, A h ≠ a := fun h hh e => by rw [← e, m.cg h hh] at ha; cases ha
  have aM : M0 a = none := by rw [← m.off a af fun h hh e => ap h hh e.symm]; exact ha
  have np : ∀ h ∈ p, h ≠ u := fun h hh e => hu (e ▸ hh)
  refine ⟨af, up_same, fun h hh => ?_, fun h hh g hg e => ?_, fun h hh => ?_, m.Mf, fun y h1 h2 => ?_⟩
  · rcases List.mem_append.mp hh with hh | hh
    · rw [if_neg (np h hh), up_ne (m.fr h hh).2, up_ne (ap h hh)]; exact m.cg h hh
    · simp at hh; subst hh
      rw [if_pos rfl, up_ne af, up_same]; rfl
  · rcases List.mem_append.mp hh with h1 | h1 <;> rcases List.mem_append.mp hg with h2 | h2
    · rw [if_neg (np h h1), if_neg (np g h2)] at e; exact m.inj h h1 g h2 e
    · simp at h2
      rw [if_neg (np h h1), if_pos h2] at e; exact absurd e (ap h h1)
    · simp at h1
      rw [if_neg (np g h2), if_pos h1] at e; exact absurd e.symm (ap g h2)
    · simp at h1 h2; rw [h1, h2]
  · rcases List.mem_append.mp hh with hh | hh
    · rw [if_neg (np h hh)]; exact m.fr h hh
    · simp at hh; subst hh; rw [if_pos rfl]; exact ⟨aM, af⟩
  · have h3 := h2 u (by simp)
    rw [if_pos rfl] at h3
    rw [up_ne h1, up_ne h3]
    exact m.off y h1 fun h hh => by
      have := h2 h (List.mem_append_left _ hh)
      rw [if_neg (np h hh)] at this
      exact this
/-! ### what was heard, as it grows -/
def gp (e2 e3 : Ex) (hs : List Int) (ls : List (Int × Int)) (W : Int → Int) (t : Int) (p : List Int) (o : Int) : List (Int × Int) :=
  p.filterMap fun h => if joinB ls o h then (msg e2 e3 hs ls W t h o).map fun i => (h, i) else none
end L3.RN
set_option maxRecDepth 100000
set_option maxHeartbeats 4000000
namespace L3.RN
open PySem L2 K01
open EX
variable {c : Cfg}
/-! ### what is heard in a round -/
def h1 : List SS := b_heard_in.take 2
def h2 : List SS := b_heard_in.drop 2
def spHeardIn (n : Nat) : SpD := fun ds M Q E => ∃ hs ls P Wd t e1 e2 e3 e4 W, ds = [webD hs ls, P, Wd, .int t] ∧ HandsOk hs ∧ LinesOk hs ls ∧ PrV M P e1 e2 e3 e4 ∧ okP e1 e2 e3 e4 ∧ dpP n e1 e2 e3 e4 ∧ WAt M Wd hs W ∧ Q (.dct false (hK hs (hrd e2 e3 hs ls W t))) M
end L3.RN
set_option maxRecDepth 100000
set_option maxHeartbeats 4000000
namespace L3.RN
open PySem L2 K01
open EX
variable {c : Cfg}
/-! ### runs by pieces -/
abbrev WW := List Int × List (Int × Int)
structure RS where
  t : Nat
  L : Int → Int
  hd : List D
  ws : List D
def rstp (e2 e3 e4 : Ex) (s : RS) (w : WW) : RS :=
  ⟨s.t + 1, fun h => if h ∈ w.1 then nxt e2 e3 e4 w.1 w.2 s.L s.t h else s.L h, s.hd ++ [.dct false (hK w.1 (hrd e2 e3 w.1 w.2 s.L s.t))], s.ws ++ [.dct false (wK w.1 (nxt e2 e3 e4 w.1 w.2 s.L s.t))]⟩
def rs0 (e1 : Ex) (hs : List Int) (ls : List (Int × Int)) : RS := ⟨1, w0 e1 hs ls, [], [.dct false (wK hs (w0 e1 hs ls))]⟩
def runS (e2 e3 e4 : Ex) (s : RS) (F : List WW) : RS := F.foldl (rstp e2 e3 e4) s
abbrev Pc := List Int × List (Int × Int) × Nat
def pcD (p : Pc) : D := .tup [webD p.1 p.2.1, .int p.2.2]
def flt (ps : List Pc) : List WW := ps.flatMap fun p => List.replicate p.2.2 (p.1, p.2.1)
structure PcsOk (hs0 : List Int) (ls0 : List (Int × Int)) (ps : List Pc) : Prop where
  hd : ∃ r rest, ps = (hs0, ls0, r) :: rest
  ho : ∀ p ∈ ps, HandsOk p.1 ∧ LinesOk p.1 p.2.1 ∧ ∀ z ∈ p.1, z ∈ hs0
  ln : (flt ps).length ≤ 200
structure RAt (M : Mm) (l w g : Addr) (hs0 : List Int) (s : RS) (M2 : Mm) : Prop where
  cl : M2 l = some (.dct false (wK hs0 s.L))
  cw : M2 w = some (.lst s.ws)
  cg : M2 g = some (.lst s.hd)
  off : ∀ y, y ≠ l → y ≠ w → y ≠ g → M2 y = M y
structure R3 (M : Mm) (l w g : Addr) : Prop where
  ml : M l = none
  mw : M w = none
  mg : M g = none
  lw : l ≠ w
  lg : l ≠ g
  wg : w ≠ g
theorem R3.sub {M : Mm} {l w g : Addr} {hs0 : List Int} {s : RS} {M2 : Mm} (r : R3 M l w g) (m : RAt M l w g hs0 s M2) : Sub M M2 := fun y k h => by
  rw [m.off y (fun e => by rw [e, r.ml] at h; cases h) (fun e => by rw [e, r.mw] at h; cases h) (fun e => by rw [e, r.mg] at h; cases h)]
  exact h
def RunR (e1 e2 e3 e4 : Ex) (hs : List Int) (ls : List (Int × Int)) (ps : List Pc) : RS := runS e2 e3 e4 (rs0 e1 hs ls) (flt ps)
def spRun (n : Nat) : SpD := fun ds M Q E => ∃ pc P ps hs ls e1 e2 e3 e4, ds = [pc, P] ∧ Arg M pc (ps.map pcD) ∧ PcsOk hs ls ps ∧ PrV M P e1 e2 e3 e4 ∧ okP e1 e2 e3 e4 ∧ dpP n e1 e2 e3 e4 ∧
  Q (.tup [.lst (RunR e1 e2 e3 e4 hs ls ps).ws, .lst (RunR e1 e2 e3 e4 hs ls ps).hd]) M
class RnT (T : Tab) (n : outParam Nat) : Prop where
  f0 : lk T.fn .first_worths = some (spFirstW n)
  f1 : lk T.fn .heard_in = some (spHeardIn n)
  f2 : lk T.fn .worths_behind = some (spBehind n)
@[simp] theorem rn0 {T : Tab} {n : Nat} [h : RnT T n] : lk T.fn .first_worths = some (spFirstW n) := h.f0
@[simp] theorem rn1 {T : Tab} {n : Nat} [h : RnT T n] : lk T.fn .heard_in = some (spHeardIn n) := h.f1
@[simp] theorem rn2 {T : Tab} {n : Nat} [h : RnT T n] : lk T.fn .worths_behind = some (spBehind n) := h.f2
theorem atI_last {xs : List D} {x : D} : atI (xs ++ [x]) (-1) = some x := by
  unfold atI ixN
  rw [if_neg (by omega), if_pos (by simp; omega)]
  simp only [List.length_append, List.length_singleton]
  show (xs ++ [x])[((-1 : Int) + (xs.length + 1 : Nat)).toNat]? = _
  rw [show ((-1 : Int) + (xs.length + 1 : Nat)).toNat = xs.length by omega]
  simp
def rb : List SS := match b_run_of with
  | [_, _, _, .fors _ _ _ [.fors _ _ _ b], _] => b
  | _ => []
def r0 : List SS := b_run_of.take 3
end L3.RN
set_option maxRecDepth 100000
set_option maxHeartbeats 4000000
namespace L3.RN
open PySem L2 K01
open EX
variable {c : Cfg}
/-! ### what is told of runs -/
class RfT (T : Tab) (n : outParam Nat) : Prop where
  f0 : lk T.fn .run_of = some (spRun n)
@[simp] theorem rf0 {T : Tab} {n : Nat} [h : RfT T n] : lk T.fn .run_of = some (spRun n) := h.f0
def spWorthsP (n : Nat) : SpD := fun ds M Q E => ∃ pc P ps hs ls e1 e2 e3 e4, ds = [pc, P] ∧ Arg M pc (ps.map pcD) ∧ PcsOk hs ls ps ∧ PrV M P e1 e2 e3 e4 ∧ okP e1 e2 e3 e4 ∧ dpP n e1 e2 e3 e4 ∧ Q (.lst (RunR e1 e2 e3 e4 hs ls ps).ws) M
def spHeardP (n : Nat) : SpD := fun ds M Q E => ∃ pc P ps hs ls e1 e2 e3 e4, ds = [pc, P] ∧ Arg M pc (ps.map pcD) ∧ PcsOk hs ls ps ∧ PrV M P e1 e2 e3 e4 ∧ okP e1 e2 e3 e4 ∧ dpP n e1 e2 e3 e4 ∧ Q (.lst (RunR e1 e2 e3 e4 hs ls ps).hd) M
class RgT (T : Tab) (n : outParam Nat) : Prop where
  f0 : lk T.fn .worths_by_pieces = some (spWorthsP n)
  f1 : lk T.fn .heard_by_pieces = some (spHeardP n)
@[simp] theorem rg0 {T : Tab} {n : Nat} [h : RgT T n] : lk T.fn .worths_by_pieces = some (spWorthsP n) := h.f0
@[simp] theorem rg1 {T : Tab} {n : Nat} [h : RgT T n] : lk T.fn .heard_by_pieces = some (spHeardP n) := h.f1
/-! ### round by round -/
def Wt (e1 e2 e3 e4 : Ex) (hs : List Int) (ls : List (Int × Int)) : Nat → Int → Int
  | 0 => w0 e1 hs ls
  | t + 1 => fun h => if h ∈ hs then nxt e2 e3 e4 hs ls (Wt e1 e2 e3 e4 hs ls t) ((t + 1 : Nat) : Int) h else Wt e1 e2 e3 e4 hs ls t h
def hdT (e1 e2 e3 e4 : Ex) (hs : List Int) (ls : List (Int × Int)) (r : Nat) : List D := (List.range r).map fun t => .dct false (hK hs (hrd e2 e3 hs ls (Wt e1 e2 e3 e4 hs ls t) ((t + 1 : Nat) : Int)))
/-- the script, told as a list -/
def spScriptL : SpD := fun ds M Q E => ∃ ns : List Int, ds = [.ro false (ns.map .int)] ∧ ns.length ≤ 63 ∧ ∀ M', Q (.bl true) M'
theorem end_ofL {K : PySem.W.Frag} {xs ys : List (Nm × Addr)} {fl : List (Nm × List Nm)} : ∀ vs H Q E, spEnd K vs H Q E → toSp (mkC K xs ys fl) spScriptL vs H Q E := by
  rintro vs H Q E ⟨a, ns, rfl, hS, hl, hQ⟩
  refine ⟨fun _ => False, [.ro false (ns.map .int)], fun _ => none, fun d _ => d = .bl true, fun _ _ => False, .cons (.roL (vs := ns.map V.int) ?_ (by rw [List.length_map]; exact Nat.le_trans hl (by decide)) (Reps.mapI ns)) .nil, ⟨(fun _ _ h => nomatch h), (fun _ h => h.elim)⟩, ⟨ns, rfl, hl, fun _ => rfl⟩, fun v H' d M' s ok r q => ?_, fun _ _ _ _ _ _ _ _ q => q.elim⟩
  · exact hS.imp (fun h => ⟨h, rfl, fun z => z⟩) id
  · subst q
    rw [rep_bl r]
    exact hQ H'
theorem web_use {M : Mm} {hs : List Int} {ls : List (Int × Int)} {m : Bool} {Q : QD} {E : QX} (ho : HandsOk hs) (lo : LinesOk hs ls) (hQ : Q (webD hs ls) M) : spWeb [.lst (hs.map .int), .lst (ls.map prD)] M (fun d M' => frz1 m d M' Q) E :=
  ⟨_, _, hs, ls, rfl, .inr rfl, .inr rfl, ho, lo, by cases m <;> exact hQ⟩
theorem draws_use {M : Mm} {x : Int} {m : Nat} {Q : QD} {E : QX} (hm : m ≤ 1000) (hQ : ∀ (st : List Int) a, M a = none → Q (.ref a) (up M a (.lst (st.map .int)))) : spDraws [.int x, .int m] M Q E :=
  ⟨x, m, rfl, hm, fun st a ha => hQ st a ha⟩
theorem handsR_use {M : Mm} {a : Addr} {st : List Int} {n : Int} {Q : QD} {E : QX} (hn : 0 < n) (hn2 : n ≤ 12) (ha : M a = some (.lst (st.map .int))) (hQ : ∀ (hs : List Int) (st' : List Int), HandsOk hs → hs.length ≤ n → Q (.lst (hs.map .int)) (up M a (.lst (st'.map .int)))) :
    spHandsR [.ref a, .int n] M (fun d M' => frz1 false d M' Q) E := ⟨a, st, n, rfl, hn, hn2, ha, fun hs st' h1 h2 => hQ hs st' h1 h2⟩
theorem linesR_use {M : Mm} {a : Addr} {st hs : List Int} {Q : QD} {E : QX} (ho : HandsOk hs) (ha : M a = some (.lst (st.map .int))) (hQ : ∀ ls (st' : List Int), LinesOk hs ls → Q (.lst (ls.map prD)) (up M a (.lst (st'.map .int)))) :
    spLinesR [.ref a, .lst (hs.map .int)] M (fun d M' => frz1 false d M' Q) E := ⟨a, st, hs, rfl, ho, ha, fun ls st' h => hQ ls st' h⟩
theorem cell_use {M : Mm} {t : Bool} {ns : List Int} {k : Nat} {Q : QD} {E : QX} (hQ : ∀ x, Q (.int x) M) : K01.spCell [.ro t (ns.map .int), .int k] M (fun d M' => frz1 false d M' Q) E := ⟨t, ns, k, rfl, hQ⟩
end L3.RN
set_option maxRecDepth 100000
set_option maxHeartbeats 4000000
namespace L3.RN
open PySem L2 K01
end L3.RN
set_option maxRecDepth 100000
set_option maxHeartbeats 4000000
namespace L3.RN
open PySem L2 K01
open EX
variable {c : Cfg}
/-! ### pieces drawn -/
@[simp] theorem endD_int {n x : Int} : endD (.int n) (.int x) = some (some x) := rfl
@[simp] theorem endD_bin {o : Operator} {a b : SE} {x : Int} : endD (.bin o a b) (.int x) = some (some x) := rfl
@[simp] theorem endD_neg {a : SE} {x : Int} : endD (.neg a) (.int x) = some (some x) := rfl
theorem slD_ro {m : Bool} {ds : List D} {lo hi : Option Int} {M : Mm} {Q : QD} : slD m (.ro false ds) lo hi M Q = alL m (cut ds lo hi) M Q := rfl
theorem slD_lst {m : Bool} {ds : List D} {lo hi : Option Int} {M : Mm} {Q : QD} : slD m (.lst ds) lo hi M Q = alL m (cut ds lo hi) M Q := rfl
def spPart : SpD := fun ds M Q E => ∃ (a : Addr) (st hs : List Int), ds = [.ref a, .lst (hs.map .int)] ∧ HandsOk hs ∧ M a = some (.lst (st.map .int)) ∧ ∀ (ps st' : List Int), HandsOk ps → (∀ z ∈ ps, z ∈ hs) → Q (.lst (ps.map .int)) (up M a (.lst (st'.map .int)))
/-! ### pieces, as drawn -/
class PcT (T : Tab) : Prop where
  h0 : lk T.fn .«_law_cell_at» = some (K01.spCell)
  h1 : lk T.fn .«_law_draws» = some (spDraws)
  h2 : lk T.fn .«_law_hands» = some (spHandsR)
  h3 : lk T.fn .«_law_lines» = some (spLinesR)
  h4 : lk T.fn .«_law_take» = some (spTake)
  h5 : lk T.fn .«_law_part» = some (spPart)
@[simp] theorem pc0 {T : Tab} [h : PcT T] : lk T.fn .«_law_cell_at» = some (K01.spCell) := h.h0
@[simp] theorem pc1 {T : Tab} [h : PcT T] : lk T.fn .«_law_draws» = some (spDraws) := h.h1
@[simp] theorem pc2 {T : Tab} [h : PcT T] : lk T.fn .«_law_hands» = some (spHandsR) := h.h2
@[simp] theorem pc3 {T : Tab} [h : PcT T] : lk T.fn .«_law_lines» = some (spLinesR) := h.h3
@[simp] theorem pc4 {T : Tab} [h : PcT T] : lk T.fn .«_law_take» = some (spTake) := h.h4
@[simp] theorem pc5 {T : Tab} [h : PcT T] : lk T.fn .«_law_part» = some (spPart) := h.h5
end L3.RN
set_option maxRecDepth 100000
set_option maxHeartbeats 4000000
namespace L3.WY
open PySem L2 K01 RN
def N_Way___init__ : List PySem.Str := ["self", "parents", "bridges"]
def b_Way___init__ : List SS := [
  .asgF (.var 0) .«parents» (.bi false .dict [(.var 1)]),
  .asgF (.var 0) .«bridges» (.bi false .list [(.var 2)])]
def P_Way___init__ : List PySem.Str := ["self", "parents", "bridges"]
theorem k_Way___init__ : okSs false none b_Way___init__ = true := by decide +kernel
def N_Way_all_parents : List PySem.Str := ["self"]
def b_Way_all_parents : List SS := [
  .ret (.bi true .dict [(.fld (.var 0) .«parents»)])]
def P_Way_all_parents : List PySem.Str := ["self"]
theorem k_Way_all_parents : okSs false none b_Way_all_parents = true := by decide +kernel
def N_Way_all_bridges : List PySem.Str := ["self"]
def b_Way_all_bridges : List SS := [
  .ret (.bi true .list [(.fld (.var 0) .«bridges»)])]
def P_Way_all_bridges : List PySem.Str := ["self"]
theorem k_Way_all_bridges : okSs false none b_Way_all_bridges = true := by decide +kernel
def N_Way_parent_of : List PySem.Str := ["self", "hand"]
def b_Way_parent_of : List SS := [
  .ret (.bm false (.fld (.var 0) .«parents») .get [(.var 1)])]
def P_Way_parent_of : List PySem.Str := ["self", "hand"]
theorem k_Way_parent_of : okSs false none b_Way_parent_of = true := by decide +kernel
def N_Way_up_from : List PySem.Str := ["self", "hand", "found"]
def b_Way_up_from : List SS := [
  .asg 2 (.lst true [(.var 1)]),
  .whl (.cmp .IsNot (.meth false (.var 0) .«parent_of» [(.ix (.var 2) (.neg (.int 1)))]) .non) [.exp (.bm false (.var 2) .append [(.meth false (.var 0) .«parent_of» [(.ix (.var 2) (.neg (.int 1)))])])],
  .ret (.var 2)]
def P_Way_up_from : List PySem.Str := ["self", "hand"]
theorem k_Way_up_from : okSs false none b_Way_up_from = true := by decide +kernel
def N_Way_leader : List PySem.Str := ["self", "hand"]
def b_Way_leader : List SS := [
  .ret (.ix (.meth false (.var 0) .«up_from» [(.var 1)]) (.neg (.int 1)))]
def P_Way_leader : List PySem.Str := ["self", "hand"]
theorem k_Way_leader : okSs false none b_Way_leader = true := by decide +kernel
def N_clusters_joined : List PySem.Str := ["way", "line", "one", "other"]
def b_clusters_joined : List SS := [
  .par [2, 3] [(.meth false (.var 0) .«leader» [(.ix (.var 1) (.int 0))]), (.meth false (.var 0) .«leader» [(.ix (.var 1) (.int 1))])],
  .ret (.tup [(.bi false .min [(.var 2), (.var 3)]), (.bi false .max [(.var 2), (.var 3)])])]
def P_clusters_joined : List PySem.Str := ["way", "line"]
theorem k_clusters_joined : okSs false none b_clusters_joined = true := by decide +kernel
def N_are_lines : List PySem.Str := ["hands", "thing", "at", "line"]
def b_are_lines : List SS := [
  .ifs (.bop false [(.not (.isi (.var 1) false [.bt "list"])), (.not (.bi false .all [(.comp false (.nm 3) .seq [(.var 1)] (.bl true) (.call false .«is_line_webs» [(.var 0), (.var 3)]))]))]) [.ret (.bl false)] [],
  .ret (.bi false .all [(.comp false (.tp [2, 3]) .enum [(.var 1)] (.bl true) (.cmp .NotIn (.var 3) (.sl (.var 1) .non (.var 2))))])]
def P_are_lines : List PySem.Str := ["hands", "thing"]
theorem k_are_lines : okSs false none b_are_lines = true := by decide +kernel
def b__law_lets : List SS := [
  .asg 4 (.comp false (.nm 7) .keys [(.var 2)] (.bop false [(.not (.call false .«_law_is_whole» [(.var 7)])), (.cmp .NotIn (.var 7) (.var 0))]) (.var 7)),
  .ifs (.bop false [(.cmp .NotEq (.bi false .len [(.var 2)]) (.bi false .len [(.var 0)])), (.cmp .NotEq (.var 4) (.lst false []))]) [.ret (.bl false)] [],
  .fors (.nm 5) .seq [(.var 0)] [.asg 9 (.call false .«_law_near» [(.var 1), (.var 5)]), .ifs (.bop true [(.cmp .IsNot (.ix (.var 2) (.var 5)) .non), (.bop false [(.not (.call false .«_law_is_whole» [(.ix (.var 2) (.var 5))])), (.cmp .NotIn (.ix (.var 2) (.var 5)) (.var 9))])]) [.ret (.bl false)] []],
  .ifs (.cmp .NotEq (.comp false (.nm 5) .seq [(.var 0)] (.cmp .Is (.call false .«_law_up» [(.var 2), (.var 5)]) .non) (.var 5)) (.lst false [])) [.ret (.bl false)] [],
  .ifs (.cmp .NotEq (.comp false (.nm 11) .seq [(.var 3)] (.bop false [(.not (.call false .«_law_is_line» [(.var 1), (.var 11)])), (.cmp .Gt (.bm false (.var 3) .count [(.var 11)]) (.int 1))]) (.var 11)) (.lst false [])) [.ret (.bl false)] [],
  .asg 6 (.comp false (.tp [7, 8]) .seq [(.var 3)] (.bl true) (.call false .«_law_both» [(.var 2), (.var 7), (.var 8)])),
  .ifs (.cmp .NotEq (.comp false (.nm 10) .seq [(.var 6)] (.cmp .Eq (.ix (.var 10) (.int 0)) (.ix (.var 10) (.int 1))) (.var 10)) (.lst false [])) [.ret (.bl false)] [],
  .fors (.tp [7, 8]) .seq [(.var 1)] [.asg 10 (.call false .«_law_both» [(.var 2), (.var 7), (.var 8)]), .ifs (.bop true [(.cmp .NotEq (.ix (.var 10) (.int 0)) (.ix (.var 10) (.int 1))), (.cmp .NotIn (.var 10) (.var 6))]) [.ret (.bl false)] []],
  .ret (.bl true)]
def b__law_any_way : List SS := [
  .asg 3 (.dnew true false),
  .asg 4 (.call false .«_law_take» [(.var 0), (.int 3)]),
  .fors (.nm 5) .seq [(.var 1)] [.asg 9 (.call false .«_law_near» [(.var 2), (.var 5)]), .asg 10 (.call false .«_law_take» [(.var 0), (.ix (.lst false [(.int 6), (.int 3), (.int 40)]) (.var 4))]), .asgI (.var 3) (.var 5) .non, .ifs (.bop true [(.cmp .NotEq (.var 9) (.lst false [])), (.cmp .In (.var 10) (.tup [(.int 1), (.int 2)]))]) [.asgI (.var 3) (.var 5) (.ix (.var 9) (.bin .Mult (.call false .«_law_take» [(.var 0), (.bi false .len [(.var 9)])]) (.bin .Sub (.var 10) (.int 1))))] [], .ifs (.cmp .Eq (.var 10) (.int 3)) [.asgI (.var 3) (.var 5) (.ix (.var 1) (.call false .«_law_take» [(.var 0), (.bi false .len [(.var 1)])]))] []],
  .asg 6 (.lst true []),
  .asg 7 (.ix (.lst false [(.int 2), (.int 9), (.int 1)]) (.call false .«_law_take» [(.var 0), (.int 3)])),
  .fors (.nm 8) .seq [(.var 2)] [.ifs (.cmp .Lt (.call false .«_law_take» [(.var 0), (.var 7)]) (.bi false .max [(.int 1), (.bin .Sub (.var 7) (.int 1))])) [.exp (.bm false (.var 6) .append [(.var 8)])] [], .ifs (.cmp .Eq (.call false .«_law_take» [(.var 0), (.int 60)]) (.int 1)) [.exp (.bm false (.var 6) .append [(.tup [(.ix (.var 8) (.int 1)), (.ix (.var 8) (.int 0))])])] []],
  .ifs (.bop true [(.cmp .Eq (.var 4) (.int 1)), (.cmp .Eq (.call false .«_law_take» [(.var 0), (.int 2)]) (.int 0)), (.cmp .Eq (.comp false (.nm 5) .seq [(.var 1)] (.cmp .Is (.call false .«_law_up» [(.var 3), (.var 5)]) .non) (.var 5)) (.lst false []))]) [.asg 6 (.comp true (.nm 8) .seq [(.var 2)] (.cmp .Gt (.lset (.call false .«_law_both» [(.var 3), (.ix (.var 8) (.int 0)), (.ix (.var 8) (.int 1))])) (.int 1)) (.var 8))] [],
  .ret (.tup [(.var 3), (.var 6)])]
end L3.WY
set_option maxRecDepth 100000
set_option maxHeartbeats 4000000
namespace L3.WY
open PySem L2 K01 RN
/-! ### parents: up from a hand -/
noncomputable def dB (p : Prop) : Bool := @decide p (Classical.propDecidable p)
theorem dB_t {p : Prop} (h : p) : dB p = true := @decide_eq_true p (Classical.propDecidable p) h
theorem dB_f {p : Prop} (h : ¬ p) : dB p = false := @decide_eq_false p (Classical.propDecidable p) h
def oD : Option Int → D
  | none => .non
  | some i => .int i
def pK (ks : List Int) (f : Int → Option Int) : List (D × D) := ks.map fun h => (.int h, oD (f h))
def wayD (ks : List Int) (f : Int → Option Int) (bs : List (Int × Int)) : D := .ins .Way [(.parents, .dct false (pK ks f)), (.bridges, .lst (bs.map prD))]
/-- the hands from one up -/
inductive Ch (f : Int → Option Int) : Int → List Int → Prop
  | one {h : Int} : f h = none → Ch f h [h]
  | cons {h q : Int} {L : List Int} : f h = some q → Ch f q L → Ch f h (h :: L)
section
variable {f g : Int → Option Int} {h q x : Int} {L L' p r ks : List Int}
theorem Ch.fn : ∀ {h : Int} {L L' : List Int}, Ch f h L → Ch f h L' → L = L'
  | _, _, _, .one e, .one _ => rfl
  | _, _, _, .one e, .cons e' _ => by rw [e] at e'; cases e'
  | _, _, _, .cons e _, .one e' => by rw [e] at e'; cases e'
  | _, _, _, .cons e c, .cons e' c' => by rw [e] at e'; cases e'; rw [Ch.fn c c']
theorem Ch.head (c : Ch f h L) : ∃ r, L = h :: r := by cases c <;> exact ⟨_, rfl⟩
theorem Ch.tail : ∀ {p : List Int} {h x : Int} {r : List Int}, Ch f h (p ++ x :: r) → Ch f x (x :: r)
  | [], h, x, r, c => by
    obtain ⟨r', e⟩ := c.head
    have e : x :: r = h :: r' := e
    cases e
    exact c
  | y :: p, h, x, r, c => by
    have c : Ch f h (y :: (p ++ x :: r)) := c
    generalize hL : p ++ x :: r = L at c
    cases c with
    | one _ => simp at hL
    | cons e c => subst hL; exact Ch.tail c
theorem Ch.nodup : ∀ {h : Int} {L : List Int}, Ch f h L → L.Nodup
  | _, _, .one e => by simp
  | _, _, .cons (h := h) (L := L) e c => by
    refine List.nodup_cons.mpr ⟨fun hm => ?_, c.nodup⟩
    obtain ⟨p, r, rfl⟩ := List.append_of_mem hm
    have c1 := c.tail
    have c2 : Ch f h (h :: (p ++ h :: r)) := .cons e c
    have := congrArg List.length (c1.fn c2)
    simp at this
    omega
theorem Ch.sub (cl : ∀ h ∈ ks, ∀ q, f h = some q → q ∈ ks) : ∀ {h : Int} {L : List Int}, Ch f h L → h ∈ ks → ∀ x ∈ L, x ∈ ks
  | _, _, .one _, hh, x, hx => by simp at hx; subst hx; exact hh
  | _, _, .cons e c, hh, x, hx => by
    rcases List.mem_cons.mp hx with rfl | hx
    · exact hh
    · exact Ch.sub cl c (cl _ hh _ e) x hx
theorem nodup_le {α : Type} [DecidableEq α] : ∀ {xs ys : List α}, xs.Nodup → (∀ x ∈ xs, x ∈ ys) → xs.length ≤ ys.length
  | [], _, _, _ => Nat.zero_le _
  | x :: xs, ys, nd, h => by
    rw [List.nodup_cons] at nd
    have hx := h x List.mem_cons_self
    have := nodup_le (ys := ys.erase x) nd.2 fun y hy => (List.mem_erase_of_ne fun e => nd.1 (by rw [← e]; exact hy)).mpr (h y (List.mem_cons_of_mem _ hy))
    rw [List.length_erase_of_mem hx] at this
    have hp := List.length_pos_of_mem hx
    simp
    omega
theorem Ch.len (c : Ch f h L) (cl : ∀ h ∈ ks, ∀ q, f h = some q → q ∈ ks) (hh : h ∈ ks) : L.length ≤ ks.length := nodup_le c.nodup (c.sub cl hh)
/-- all but the last have a parent: they are among those that have one -/
theorem Ch.len' (c : Ch f h L) (hf : ∀ h, h ∉ ks → f h = none) : L.length ≤ ks.length + 1 := by
  have hd : ∀ {h : Int} {L : List Int}, Ch f h L → ∀ x ∈ L.dropLast, x ∈ ks := by
    intro h L c
    induction c with
    | one _ => intro x hx; exact nomatch hx
    | @cons h q L e c ih =>
      intro x hx
      obtain ⟨r, rfl⟩ := c.head
      rw [List.dropLast_cons_of_ne_nil (by simp)] at hx
      rcases List.mem_cons.mp hx with rfl | hx
      · exact Classical.byContradiction fun n => by rw [hf _ n] at e; cases e
      · exact ih x hx
  have := nodup_le (c.nodup.sublist (List.dropLast_sublist L)) (hd c)
  rw [List.length_dropLast] at this
  omega
/-- the leader -/
noncomputable def ldr (f : Int → Option Int) (h : Int) : Int := @dite _ (∃ L, Ch f h L) (Classical.propDecidable _) (fun H => (Classical.choose H).getLast?.getD h) fun _ => h
theorem ldr_eq (c : Ch f h L) : L.getLast? = some (ldr f h) := by
  have H : ∃ L, Ch f h L := ⟨L, c⟩
  unfold ldr
  rw [dif_pos H]
  have e := c.fn (Classical.choose_spec H)
  rw [← e]
  obtain ⟨r, rfl⟩ := c.head
  rw [List.getLast?_cons]
  simp
/-- steps up -/
def stp : (Int → Option Int) → Nat → Int → Option Int
  | _, 0, h => some h
  | f, n + 1, h => (stp f n h).bind f
theorem stp_next : ∀ (n : Nat) (h : Int), stp f (n + 1) h = (f h).bind (stp f n)
  | 0, h => by
    show f h = (f h).bind fun x => some x
    cases f h <;> rfl
  | n + 1, h => by
    show (stp f (n + 1) h).bind f = _
    rw [stp_next n h]
    cases f h <;> rfl
theorem Ch.stp : ∀ {h : Int} {L : List Int}, Ch f h L → ∀ n, L.length ≤ n → stp f n h = none
  | _, _, .one e, 0, hn => by simp at hn
  | _, _, .one e, n + 1, hn => by rw [stp_next, e]; rfl
  | _, _, .cons e c, 0, hn => by simp at hn
  | _, _, .cons e c, n + 1, hn => by rw [stp_next, e]; exact c.stp n (by simpa using hn)
end
/-! ### what is let by -/
structure PFit (hs : List Int) (ls : List (Int × Int)) (ks : List Int) (f : Int → Option Int) : Prop where
  len : ks.length = hs.length
  mem : ∀ k ∈ ks, k ∈ hs
  near : ∀ k ∈ ks, ∀ q, f k = some q → joinB ls k q = true
structure WOk (ks : List Int) (f : Int → Option Int) : Prop where
  nd : ks.Nodup
  out : ∀ h, h ∉ ks → f h = none
  ln : ks.length ≤ 100
theorem PFit.all {hs : List Int} {ls : List (Int × Int)} {ks : List Int} {f : Int → Option Int} (p : PFit hs ls ks f) (nd : ks.Nodup) : ∀ h ∈ hs, h ∈ ks := fun h hh => Classical.byContradiction fun n => by
  have := nodup_le (xs := h :: ks) (ys := hs) (List.nodup_cons.mpr ⟨n, nd⟩) fun x hx => (List.mem_cons.mp hx).elim (fun e => e ▸ hh) (p.mem x)
  have := p.len
  simp at *
  omega
theorem join_mem {hs : List Int} {ls : List (Int × Int)} (lo : LinesOk hs ls) {a b : Int} (h : joinB ls a b = true) : a ∈ hs ∧ b ∈ hs := by
  unfold joinB at h
  simp only [Bool.or_eq_true, decide_eq_true_eq] at h
  rcases h with h | h
  · exact ⟨(lo.2.2 _ h).1, (lo.2.2 _ h).2.1⟩
  · exact ⟨(lo.2.2 _ h).2.1, (lo.2.2 _ h).1⟩
theorem PFit.cl {hs : List Int} {ls : List (Int × Int)} {ks : List Int} {f : Int → Option Int} (p : PFit hs ls ks f) (lo : LinesOk hs ls) (nd : ks.Nodup) : ∀ h ∈ ks, ∀ q, f h = some q → q ∈ ks := fun h hh q e => p.all nd q (join_mem lo (p.near h hh q e)).2
def BFit (ls bs : List (Int × Int)) : Prop := (∀ b ∈ bs, b ∈ ls) ∧ bs.Nodup
def CL (hs : List Int) (f : Int → Option Int) : Prop := ∀ h ∈ hs, ∃ L, Ch f h L
noncomputable def jn (f : Int → Option Int) (p : Int × Int) : Int × Int := (min (ldr f p.1) (ldr f p.2), max (ldr f p.1) (ldr f p.2))
structure SR (hs : List Int) (ls : List (Int × Int)) (ks : List Int) (f : Int → Option Int) (bs : List (Int × Int)) : Prop where
  p : PFit hs ls ks f
  b : BFit ls bs
  c : CL hs f
  n : ∀ b ∈ bs, ldr f b.1 ≠ ldr f b.2
end L3.WY
set_option maxRecDepth 100000
set_option maxHeartbeats 4000000
namespace L3.WY
open PySem L2 K01 RN EX
variable {c : Cfg}
/-! ### ways: what they tell -/
section
variable {ks : List Int} {f : Int → Option Int} {bs : List (Int × Int)} {M : Mm}
@[simp] theorem way_i : insD M (wayD ks f bs) = some (.Way, [(.parents, .dct false (pK ks f)), (.bridges, .lst (bs.map prD))]) := rfl
@[simp] theorem way_p : fldD M (wayD ks f bs) .parents = some (.dct false (pK ks f)) := rfl
@[simp] theorem way_b : fldD M (wayD ks f bs) .bridges = some (.lst (bs.map prD)) := rfl
end
theorem get_key {g : Int → D} {i : Int} : ∀ {hs : List Int}, i ∈ hs → getK (hs.map fun h => (D.int h, g h)) (.int i) = some (g i)
  | [], h => nomatch h
  | z :: r, h => by
    show (if eqKey (.int z) (.int i) = true then some (g z) else getK (r.map fun h => (D.int h, g h)) (.int i)) = _
    by_cases e : z = i
    · subst e; rw [if_pos (by simp [eqKey])]
    · rw [if_neg (by simpa [eqKey] using e)]
      exact get_key ((List.mem_cons.mp h).resolve_left fun q => e q.symm)
theorem pK_len {ks : List Int} {f : Int → Option Int} : (pK ks f).length = ks.length := by simp [pK]
theorem pK_get {ks : List Int} {f : Int → Option Int} {h : Int} (hh : h ∈ ks) : getK (pK ks f) (.int h) = some (oD (f h)) := get_key (g := fun h => oD (f h)) hh
theorem get_no {g : Int → D} {i : Int} : ∀ {hs : List Int}, i ∉ hs → getK (hs.map fun h => (D.int h, g h)) (.int i) = none
  | [], _ => rfl
  | z :: r, h => by
    simp only [List.mem_cons, not_or] at h
    show (if eqKey (.int z) (.int i) = true then some (g z) else getK (r.map fun h => (D.int h, g h)) (.int i)) = _
    rw [if_neg (by simpa [eqKey] using fun e => h.1 e.symm)]
    exact get_no h.2
theorem pK_gets {ks : List Int} {f : Int → Option Int} (ok : WOk ks f) (h : Int) : (getK (pK ks f) (.int h)).getD .non = oD (f h) := by
  by_cases hh : h ∈ ks
  · rw [pK_get hh]; rfl
  · have e : getK (pK ks f) (.int h) = none := get_no (g := fun h => oD (f h)) hh
    rw [e, ok.out h hh]; rfl
def DArg (M : Mm) (d : D) (kvs : List (D × D)) : Prop := dctD M d = some (false, kvs)
def spWay : SpD := fun ds M Q E => ∃ a b ks f, ∃ bs : List (Int × Int), ds = [a, b] ∧ DArg M a (pK ks f) ∧ Arg M b (bs.map prD) ∧ ∀ x, M x = none → Q (.ref x) (up M x (.ins .Way [(.parents, .dct false (pK ks f)), (.bridges, .lst (bs.map prD))]))
theorem DArg.up {M : Mm} {d : D} {kvs : List (D × D)} (h : DArg M d kvs) {x : Addr} {y : Cell} (hx : M x = none) : DArg (up M x y) d kvs := by
  unfold DArg at *
  cases d <;> try exact h
  rename_i a
  have ax : a ≠ x := fun e => by rw [e] at h; simp [dctD, hx] at h
  have e : L3.up M x y a = M a := up_ne ax
  simp only [dctD, e] at h ⊢
  exact h
theorem DArg.cases {M : Mm} {d : D} {kvs : List (D × D)} (h : DArg M d kvs) : d = .dct false kvs ∨ ∃ a, d = .ref a ∧ M a = some (.dct false kvs) := by
  unfold DArg at h
  cases d with
  | dct t ks => simp [dctD] at h; obtain ⟨rfl, rfl⟩ := h; exact .inl rfl
  | ref a =>
    refine .inr ⟨a, rfl, ?_⟩
    cases e : M a with
    | none => simp [dctD, e] at h
    | some k => cases k with
      | dct t ks => simp [dctD, e] at h; obtain ⟨rfl, rfl⟩ := h; rfl
      | _ => simp [dctD, e] at h
  | _ => simp [dctD] at h
theorem w_way {T : Tab} (hf : lk T.fl .Way = some [.parents, .bridges]) : ∀ x ds M Q E, spWay ds M Q E → M x = none → wSs T b_Way___init__ (mkK c x Q E) (env0 N_Way___init__.length (.ref x :: ds)) (up M x (.ins .Way [])) := by
  rintro x ds M Q E ⟨a, b, ks, f, bs, rfl, ha, hb, hQ⟩ hx
  have h3 := (hb.sub (sub_up' (k := .ins .Way [(.parents, .dct false (pK ks f))]) hx)).f
  have dn : dctD (up M x (.ins .Way [(.parents, .dct false (pK ks f))])) b = none := h3.dct
  rcases ha.cases with rfl | ⟨a', rfl, hm⟩
  · simp [b_Way___init__, N_Way___init__, env0, varE, hf]
    refine ⟨rfl, ?_⟩
    simp [hf, putF, h3.seq, dn]
    exact ⟨_, _, frz_ref, hQ x hx⟩
  · have ax : a' ≠ x := fun e => by rw [e, hx] at hm; cases hm
    have ed : dctD (up M x (.ins .Way [])) (.ref a') = some (false, pK ks f) := by
      have : up M x (.ins .Way []) a' = M a' := up_ne ax
      simp [dctD, this, hm]
    simp [b_Way___init__, N_Way___init__, env0, varE, hf]
    show obn (dctD _ (.ref a')) _
    rw [ed]
    refine ⟨rfl, ?_⟩
    simp [hf, putF, h3.seq, dn]
    exact ⟨_, _, frz_ref, hQ x hx⟩
theorem way_use {M : Mm} {a b : D} {ks : List Int} {f : Int → Option Int} {bs : List (Int × Int)} {Q : QD} {E : QX} (ha : DArg M a (pK ks f)) (hb : Arg M b (bs.map prD)) (hQ : Q (wayD ks f bs) M) : spWay [a, b] M (fun d M' => frz1 false d M' Q) E :=
  ⟨a, b, ks, f, bs, rfl, ha, hb, fun x hx => by show frz1 false (.ref x) _ Q; rw [frz1_upi hx]; exact hQ⟩
def spAllP : SpD := fun ds M Q E => ∃ ks f bs, ds = [wayD ks f bs] ∧ ∀ a, M a = none → Q (.ref a) (up M a (.dct false (pK ks f)))
theorem w_allP {T : Tab} : ∀ ds M Q E, spAllP ds M Q E → wSs T b_Way_all_parents (fnK c Q E) (env0 N_Way_all_parents.length ds) M := by
  rintro _ M Q E ⟨ks, f, bs, rfl, hQ⟩
  simp [b_Way_all_parents, N_Way_all_parents, env0, varE]
  exact ⟨rfl, fun a ha => rt_self (hQ a ha)⟩
def spAllB : SpD := fun ds M Q E => ∃ ks f bs, ds = [wayD ks f bs] ∧ ∀ a, M a = none → Q (.ref a) (up M a (.lst (bs.map prD)))
theorem w_allB {T : Tab} : ∀ ds M Q E, spAllB ds M Q E → wSs T b_Way_all_bridges (fnK c Q E) (env0 N_Way_all_bridges.length ds) M := by
  rintro _ M Q E ⟨ks, f, bs, rfl, hQ⟩
  simp [b_Way_all_bridges, N_Way_all_bridges, env0, varE]
  exact fun a ha => rt_self (hQ a ha)
theorem allP_use {M : Mm} {ks : List Int} {f : Int → Option Int} {bs : List (Int × Int)} {Q : QD} {E : QX} (hQ : Q (.dct false (pK ks f)) M) : spAllP [wayD ks f bs] M (fun d M' => frz1 false d M' Q) E :=
  ⟨ks, f, bs, rfl, fun a ha => by show frz1 false (.ref a) _ Q; rw [frz1_upk ha]; exact hQ⟩
theorem allB_use {M : Mm} {ks : List Int} {f : Int → Option Int} {bs : List (Int × Int)} {Q : QD} {E : QX} (hQ : Q (.lst (bs.map prD)) M) : spAllB [wayD ks f bs] M (fun d M' => frz1 false d M' Q) E :=
  ⟨ks, f, bs, rfl, fun a ha => by show frz1 false (.ref a) _ Q; rw [frz1_up ha]; exact hQ⟩
def spParent : SpD := fun ds M Q E => ∃ ks f bs h, ds = [wayD ks f bs, .int h] ∧ WOk ks f ∧ Q (oD (f h)) M
theorem w_parent {T : Tab} : ∀ ds M Q E, spParent ds M Q E → wSs T b_Way_parent_of (fnK c Q E) (env0 N_Way_parent_of.length ds) M := by
  rintro _ M Q E ⟨ks, f, bs, h, rfl, ok, hQ⟩
  simp [b_Way_parent_of, N_Way_parent_of, env0, varE]
  have e : bmD false .get (.dct false (pK ks f)) [.int h] M (fnK c Q E).rt = (fnK c Q E).rt ((getK (pK ks f) (.int h)).getD .non) M := by
    show cnd (keyOk false (.int h) = true) _ = _
    simp [keyOk, cnd]
  first
    | (rw [e, pK_gets ok]; exact rt_self hQ)
    | (rw [pK_gets ok]; exact ⟨rfl, rt_self hQ⟩)
theorem frz_oD {o : Option Int} {m : Bool} {M : Mm} {Q : QD} (h : Q (oD o) M) : frz1 m (oD o) M Q := by cases o <;> cases m <;> exact h
theorem parent_use {M : Mm} {ks : List Int} {f : Int → Option Int} {bs : List (Int × Int)} {h : Int} {m : Bool} {Q : QD} {E : QX} (ok : WOk ks f) (hQ : Q (oD (f h)) M) : spParent [wayD ks f bs, .int h] M (fun d M' => frz1 m d M' Q) E :=
  ⟨ks, f, bs, h, rfl, ok, frz_oD hQ⟩
theorem isQ_oD {o : Option Int} {Q : Bool → Prop} : isQ (oD o) .non Q = Q o.isNone := by cases o <;> rfl
class WT (T : Tab) : Prop where
  h0 : lk2 T.mt .Way .parent_of = some spParent
@[simp] theorem wt0 {T : Tab} [h : WT T] : lk2 T.mt .Way .parent_of = some spParent := h.h0
def spUp : SpD := fun ds M Q E => ∃ ks f bs h L, ds = [wayD ks f bs, .int h] ∧ WOk ks f ∧ Ch f h L ∧ ∀ a, M a = none → Q (.ref a) (up M a (.lst (L.map .int)))
theorem w_up {T : Tab} [hT : WT T] : ∀ ds M Q E, spUp ds M Q E → wSs T b_Way_up_from (fnK c Q E) (env0 N_Way_up_from.length ds) M := by
  rintro _ M Q E ⟨ks, f, bs, h, L, rfl, ok, ch, hQ⟩
  have hl := ch.len' ok.out
  have hk := ok.ln
  simp [b_Way_up_from, N_Way_up_from, env0, varE]
  intro a ha
  obtain ⟨r0, e0⟩ := ch.head
  refine whQ_ind (fun n env M2 => ∃ (p : List Int) (x : Int) (r : List Int), L = p ++ x :: r ∧ n = r.length ∧ env = [some (wayD ks f bs), some (.int h), some (.ref a)] ∧ M2 = up M a (.lst ((p ++ [x]).map .int))) r0.length ⟨[], h, r0, e0, rfl, rfl, rfl⟩ ?_
  rintro n _ _ F ⟨p, x, r, e, rfl, rfl, rfl⟩ hF
  have cx : Ch f x (x :: r) := by rw [e] at ch; exact ch.tail
  have la : atI ((p ++ [x]).map D.int) (-1) = some (.int x) := by rw [List.map_append]; exact atI_last _ _
  simp only [List.map_append, List.map_cons, List.map_nil] at la
  simp [varE, la]
  refine parent_use ok ?_
  rw [isQ_oD]
  cases cx with
  | one e1 =>
    simp [e1]
    have := hQ a ha
    rw [e] at this
    simp only [List.map_append, List.map_cons, List.map_nil] at this
    exact rt_self this
  | cons e1 c1 =>
    rename_i q
    simp [e1, la]
    refine parent_use ok ?_
    obtain ⟨r', rfl⟩ := c1.head
    have lp : p.length + (r'.length + 2) ≤ ks.length + 1 := by rw [e] at hl; simpa using hl
    rw [e1]
    simp
    refine ⟨lt_size (by omega), hF r'.length (by simp) _ _ ⟨p ++ [x], q, r', by rw [e]; simp, rfl, rfl, by simp [oD]⟩⟩
end L3.WY
set_option maxRecDepth 100000
set_option maxHeartbeats 4000000
namespace L3.WY
open PySem L2 K01 RN EX
variable {c : Cfg}
theorem up_use {M : Mm} {ks : List Int} {f : Int → Option Int} {bs : List (Int × Int)} {h : Int} {L : List Int} {Q : QD} {E : QX} (ok : WOk ks f) (ch : Ch f h L) (hQ : Q (.lst (L.map .int)) M) : spUp [wayD ks f bs, .int h] M (fun d M' => frz1 false d M' Q) E :=
  ⟨ks, f, bs, h, L, rfl, ok, ch, fun a ha => by show frz1 false (.ref a) _ Q; rw [frz1_up ha]; exact hQ⟩
class WT2 (T : Tab) : Prop where
  h0 : lk2 T.mt .Way .up_from = some spUp
@[simp] theorem wt20 {T : Tab} [h : WT2 T] : lk2 T.mt .Way .up_from = some spUp := h.h0
theorem last_ldr {f : Int → Option Int} {h : Int} {L : List Int} (ch : Ch f h L) : atI (L.map D.int) (-1) = some (.int (ldr f h)) := by
  have e := ldr_eq ch
  obtain ⟨p, rfl⟩ := List.getLast?_eq_some_iff.mp e
  rw [List.map_append]
  exact atI_last _ _
def spLeader : SpD := fun ds M Q E => ∃ ks f bs h, ds = [wayD ks f bs, .int h] ∧ WOk ks f ∧ (∃ L, Ch f h L) ∧ Q (.int (ldr f h)) M
theorem w_leader {T : Tab} [hT : WT2 T] : ∀ ds M Q E, spLeader ds M Q E → wSs T b_Way_leader (fnK c Q E) (env0 N_Way_leader.length ds) M := by
  rintro _ M Q E ⟨ks, f, bs, h, rfl, ok, ⟨L, ch⟩, hQ⟩
  simp [b_Way_leader, N_Way_leader, env0, varE]
  refine up_use ok ch ?_
  rw [ixD_lst, last_ldr ch]
  exact rt_self hQ
theorem leader_use {M : Mm} {ks : List Int} {f : Int → Option Int} {bs : List (Int × Int)} {h : Int} {m : Bool} {Q : QD} {E : QX} (ok : WOk ks f) (ch : ∃ L, Ch f h L) (hQ : Q (.int (ldr f h)) M) : spLeader [wayD ks f bs, .int h] M (fun d M' => frz1 m d M' Q) E :=
  ⟨ks, f, bs, h, rfl, ok, ch, by cases m <;> exact hQ⟩
class WT3 (T : Tab) : Prop where
  h0 : lk2 T.mt .Way .leader = some spLeader
@[simp] theorem wt30 {T : Tab} [h : WT3 T] : lk2 T.mt .Way .leader = some spLeader := h.h0
def spJoined : SpD := fun ds M Q E => ∃ ks f bs p, ds = [wayD ks f bs, prD p] ∧ WOk ks f ∧ (∃ L, Ch f p.1 L) ∧ (∃ L, Ch f p.2 L) ∧ Q (prD (jn f p)) M
theorem min_eq {a b : Int} : (if b < a then b else a) = min a b := by omega
theorem max_eq {a b : Int} : (if a < b then b else a) = max a b := by omega
theorem w_joined {T : Tab} [hT : WT3 T] : ∀ ds M Q E, spJoined ds M Q E → wSs T b_clusters_joined (fnK c Q E) (env0 N_clusters_joined.length ds) M := by
  rintro _ M Q E ⟨ks, f, bs, p, rfl, ok, h1, h2, hQ⟩
  simp [b_clusters_joined, N_clusters_joined, env0, varE, prD]
  refine leader_use ok h1 ?_
  refine leader_use ok h2 ?_
  simp [min_eq, max_eq]
  exact rt_self hQ
theorem joined_use {M : Mm} {ks : List Int} {f : Int → Option Int} {bs : List (Int × Int)} {p : Int × Int} {m : Bool} {Q : QD} {E : QX} (ok : WOk ks f) (h1 : ∃ L, Ch f p.1 L) (h2 : ∃ L, Ch f p.2 L) (hQ : Q (prD (jn f p)) M) : spJoined [wayD ks f bs, prD p] M (fun d M' => frz1 m d M' Q) E :=
  ⟨ks, f, bs, p, rfl, ok, h1, h2, by cases m <;> exact hQ⟩
/-! ### whether they fit -/
class WT4 (T : Tab) : Prop where
  h0 : lk2 T.mt .Way .all_parents = some spAllP
  h1 : lk2 T.mt .Way .all_bridges = some spAllB
  h2 : lk2 T.mt .Web .hands = some spHands
  h3 : lk2 T.mt .Web .has_hand = some spHas
  h4 : lk2 T.mt .Web .has_line = some spHasLine
@[simp] theorem wt40 {T : Tab} [h : WT4 T] : lk2 T.mt .Way .all_parents = some spAllP := h.h0
@[simp] theorem wt41 {T : Tab} [h : WT4 T] : lk2 T.mt .Way .all_bridges = some spAllB := h.h1
@[simp] theorem wt42 {T : Tab} [h : WT4 T] : lk2 T.mt .Web .hands = some spHands := h.h2
@[simp] theorem wt43 {T : Tab} [h : WT4 T] : lk2 T.mt .Web .has_hand = some spHas := h.h3
@[simp] theorem wt44 {T : Tab} [h : WT4 T] : lk2 T.mt .Web .has_line = some spHasLine := h.h4
theorem hands_use' {hs : List Int} {ls : List (Int × Int)} {M : Mm} {Q : QD} {E : QX} (hQ : Q (.lst (hs.map .int)) M) : spHands [webD hs ls] M (fun d M' => frz1 false d M' Q) E :=
  ⟨hs, ls, rfl, fun a ha => by show frz1 false (.ref a) _ Q; rw [frz1_up ha]; exact hQ⟩
def spPFit : SpD := fun ds M Q E => ∃ hs ls ks f bs, ds = [webD hs ls, wayD ks f bs] ∧ HandsOk hs ∧ LinesOk hs ls ∧ WOk ks f ∧ Q (.bl (dB (PFit hs ls ks f))) M
/-! ### bridges -/
def spIsLine : SpD := fun ds M Q E => ∃ hs ls p, ds = [webD hs ls, prD p] ∧ LinesOk hs ls ∧ Q (.bl (decide (p ∈ ls))) M
class WT5 (T : Tab) : Prop where
  h0 : lk T.fn .is_line_ways = some spIsLine
  h1 : lk2 T.mt .Way .all_bridges = some spAllB
@[simp] theorem wt50 {T : Tab} [h : WT5 T] : lk T.fn .is_line_ways = some spIsLine := h.h0
@[simp] theorem wt51 {T : Tab} [h : WT5 T] : lk2 T.mt .Way .all_bridges = some spAllB := h.h1
def spBFit : SpD := fun ds M Q E => ∃ hs ls ks f bs, ds = [webD hs ls, wayD ks f bs] ∧ LinesOk hs ls ∧ bs.length < 64 ∧ Q (.bl (dB (BFit ls bs))) M
/-! ### whether one comes to leaders -/
class WT6 (T : Tab) : Prop where
  h0 : lk2 T.mt .Web .hands = some spHands
  h1 : lk2 T.mt .Way .parent_of = some spParent
@[simp] theorem wt60 {T : Tab} [h : WT6 T] : lk2 T.mt .Web .hands = some spHands := h.h0
@[simp] theorem wt61 {T : Tab} [h : WT6 T] : lk2 T.mt .Way .parent_of = some spParent := h.h1
def spCL : SpD := fun ds M Q E => ∃ hs ls ks f bs, ds = [webD hs ls, wayD ks f bs] ∧ HandsOk hs ∧ LinesOk hs ls ∧ WOk ks f ∧ PFit hs ls ks f ∧ Q (.bl (dB (CL hs f))) M
/-! ### what is let by -/
class WT7 (T : Tab) : Prop where
  h0 : lk T.fn .parents_fit = some spPFit
  h1 : lk T.fn .bridges_fit = some spBFit
  h2 : lk T.fn .comes_to_leaders = some spCL
  h3 : lk T.fn .clusters_joined = some spJoined
  h4 : lk2 T.mt .Way .all_bridges = some spAllB
@[simp] theorem wt70 {T : Tab} [h : WT7 T] : lk T.fn .parents_fit = some spPFit := h.h0
@[simp] theorem wt71 {T : Tab} [h : WT7 T] : lk T.fn .bridges_fit = some spBFit := h.h1
@[simp] theorem wt72 {T : Tab} [h : WT7 T] : lk T.fn .comes_to_leaders = some spCL := h.h2
@[simp] theorem wt73 {T : Tab} [h : WT7 T] : lk T.fn .clusters_joined = some spJoined := h.h3
@[simp] theorem wt74 {T : Tab} [h : WT7 T] : lk2 T.mt .Way .all_bridges = some spAllB := h.h4
theorem frz_bl {b m : Bool} {M : Mm} {Q : QD} (h : Q (.bl b) M) : frz1 m (.bl b) M Q := by cases m <;> exact h
def spSR : SpD := fun ds M Q E => ∃ hs ls ks f bs, ds = [webD hs ls, wayD ks f bs] ∧ HandsOk hs ∧ LinesOk hs ls ∧ WOk ks f ∧ bs.length < 64 ∧ Q (.bl (dB (SR hs ls ks f bs))) M
class WT8 (T : Tab) : Prop where
  h0 : lk T.fn .stands_right = some spSR
  h3 : lk T.fn .clusters_joined = some spJoined
  h4 : lk2 T.mt .Way .all_bridges = some spAllB
  h5 : lk2 T.mt .Web .lines = some spLines
@[simp] theorem wt80 {T : Tab} [h : WT8 T] : lk T.fn .stands_right = some spSR := h.h0
@[simp] theorem wt83 {T : Tab} [h : WT8 T] : lk T.fn .clusters_joined = some spJoined := h.h3
@[simp] theorem wt84 {T : Tab} [h : WT8 T] : lk2 T.mt .Way .all_bridges = some spAllB := h.h4
@[simp] theorem wt85 {T : Tab} [h : WT8 T] : lk2 T.mt .Web .lines = some spLines := h.h5
theorem lines_use {hs : List Int} {ls : List (Int × Int)} {M : Mm} {Q : QD} {E : QX} (hQ : Q (.lst ((srtL ls).map prD)) M) : spLines [webD hs ls] M (fun d M' => frz1 false d M' Q) E :=
  ⟨hs, ls, rfl, fun a ha => by show frz1 false (.ref a) _ Q; rw [frz1_up ha]; exact hQ⟩
end L3.WY
set_option maxRecDepth 100000
set_option maxHeartbeats 4000000
namespace L3.WY
open PySem L2 K01 RN EX
variable {c : Cfg}
/-! ### the laws' own looks -/
/-- up from a hand; none where it leads round -/
def spLUp : SpD := fun ds M Q E => ∃ P ks f h, ds = [P, .int h] ∧ DArg M P (pK ks f) ∧ ks.length ≤ 100 ∧ h ∈ ks ∧ (∀ h ∈ ks, ∀ q, f h = some q → q ∈ ks) ∧
  (∀ L, Ch f h L → ∀ a, M a = none → Q (.ref a) (up M a (.lst (L.map .int)))) ∧ ((¬ ∃ L, Ch f h L) → Q .non M)
theorem DArg.ix {M : Mm} {P : D} {ks : List Int} {f : Int → Option Int} (h : DArg M P (pK ks f)) {i : Int} (hi : i ∈ ks) (Q : D → Prop) : ixD P (.int i) M Q = Q (oD (f i)) := by
  unfold ixD
  rw [h]
  show cnd (keyOk false (.int i) = true) (obn (getK (pK ks f) (.int i)) Q) = _
  rw [pK_get hi]
  simp [keyOk, cnd]
theorem DArg.len {M : Mm} {P : D} {ks : List Int} {f : Int → Option Int} (h : DArg M P (pK ks f)) : lenD M P = some (ks.length : Int) := by
  unfold lenD
  rw [h]
  show some (((pK ks f).length : Nat) : Int) = _
  rw [pK_len]
theorem DArg.sub {M M' : Mm} {d : D} {kvs : List (D × D)} (h : DArg M d kvs) (s : Sub M M') : DArg M' d kvs := by
  rcases h.cases with rfl | ⟨a, rfl, hm⟩
  · rfl
  · have := s a _ hm
    simp [DArg, dctD, this]
/-- a walk up that has not ended -/
def Wk (f : Int → Option Int) : Int → List Int → Prop
  | _, [] => True
  | h, x :: r => f h = some x ∧ Wk f x r
end L3.WY
set_option maxRecDepth 100000
set_option maxHeartbeats 4000000
namespace L3.WY
open PySem L2 K01 RN EX
variable {c : Cfg}
class WL1 (T : Tab) : Prop where
  h0 : lk T.fn ._law_up = some spLUp
@[simp] theorem wl10 {T : Tab} [h : WL1 T] : lk T.fn ._law_up = some spLUp := h.h0
def spLBoth : SpD := fun ds M Q E => ∃ P ks f a b, ds = [P, .int a, .int b] ∧ DArg M P (pK ks f) ∧ ks.length ≤ 100 ∧ a ∈ ks ∧ b ∈ ks ∧ (∀ h ∈ ks, ∀ q, f h = some q → q ∈ ks) ∧ (∃ L, Ch f a L) ∧ (∃ L, Ch f b L) ∧ Q (prD (jn f (a, b))) M
def spLWhole : SpD := fun ds M Q E => ∃ i, ds = [.int i] ∧ Q (.bl true) M
class WL2 (T : Tab) : Prop where
  h0 : lk T.fn ._law_is_whole = some spLWhole
@[simp] theorem wl20 {T : Tab} [h : WL2 T] : lk T.fn ._law_is_whole = some spLWhole := h.h0
def spLLine : SpD := fun ds M Q E => ∃ (ls : List (Int × Int)) (p : Int × Int), ds = [.lst (ls.map prD), prD p] ∧ Q (.bl (decide (p ∈ ls))) M
/-! ### the law's own look at a way -/
theorem nearR_use {hs : List Int} {ls : List (Int × Int)} {h : Int} {M : Mm} {Q : QD} {E : QX} (ho : HandsOk hs) (lo : LinesOk hs ls) (hQ : Q (.lst ((nb hs ls h).map .int)) M) : spNearR [.lst (ls.map prD), .int h] M (fun d M' => frz1 false d M' Q) E :=
  ⟨hs, ls, h, rfl, ho, lo, hQ⟩
class WL3 (T : Tab) : Prop where
  h0 : lk T.fn ._law_is_whole = some spLWhole
  h1 : lk T.fn ._law_is_line = some spLLine
  h2 : lk T.fn ._law_up = some spLUp
  h3 : lk T.fn ._law_both = some spLBoth
  h4 : lk T.fn ._law_near = some spNearR
@[simp] theorem wl30 {T : Tab} [h : WL3 T] : lk T.fn ._law_is_whole = some spLWhole := h.h0
@[simp] theorem wl31 {T : Tab} [h : WL3 T] : lk T.fn ._law_is_line = some spLLine := h.h1
@[simp] theorem wl32 {T : Tab} [h : WL3 T] : lk T.fn ._law_up = some spLUp := h.h2
@[simp] theorem wl33 {T : Tab} [h : WL3 T] : lk T.fn ._law_both = some spLBoth := h.h3
@[simp] theorem wl34 {T : Tab} [h : WL3 T] : lk T.fn ._law_near = some spNearR := h.h4
def la : List SS := b__law_lets.take 2
def lb : List SS := (b__law_lets.drop 2).take 1
def ld : List SS := b__law_lets.drop 5
section
variable {T : Tab} [hT : WL3 T] {M : Mm} {Q : QD} {E : QX} {hs : List Int} {ls : List (Int × Int)} {ks : List Int} {f : Int → Option Int} {bs : List (Int × Int)} {v4 v5 v6 v7 v8 v9 v10 v11 : Option D}
abbrev le (hs : List Int) (ls : List (Int × Int)) (ks : List Int) (f : Int → Option Int) (bs : List (Int × Int)) (v4 v5 v6 v7 v8 v9 v10 v11 : Option D) : Env := [some (.lst (hs.map .int)), some (.lst (ls.map prD)), some (.dct false (pK ks f)), some (.lst (bs.map prD)), v4, v5, v6, v7, v8, v9, v10, v11]
end
end L3.WY
set_option maxRecDepth 100000
set_option maxHeartbeats 4000000
namespace L3.WY
open PySem L2 K01 RN EX
variable {c : Cfg}
/-! ### any parents and bridges -/
theorem any_keyI {i : Int} : ∀ (hs : List Int) (g : Int → D), ((hs.map fun h => (D.int h, g h)).any fun p => eqKey p.1 (.int i)) = decide (i ∈ hs)
  | [], g => by simp
  | h :: r, g => by
    rw [List.map_cons, List.any_cons, any_keyI r g]
    show (decide (h = i) || _) = _
    by_cases e : h = i
    · subst e; simp
    · have : ¬ i = h := fun q => e q.symm
      by_cases e2 : i ∈ r <;> simp [e, e2, this]
def fset (f : Int → Option Int) (u : Int) (o : Option Int) : Int → Option Int := fun z => if z = u then o else f z
theorem pK_new {p : List Int} {f : Int → Option Int} {u : Int} {o : Option Int} (h : u ∉ p) : putK (pK p f) (.int u) (oD o) = pK (p ++ [u]) (fset f u o) := by
  unfold putK pK
  rw [any_keyI p (fun h => oD (f h)), if_neg (by simpa using h)]
  rw [List.map_append]
  congr 1
  · apply List.map_congr_left
    intro z hz
    have zu : z ≠ u := fun e => h (e ▸ hz)
    simp [fset, zu]
  · simp [fset]
structure W1 (M : Mm) (a g : Addr) (p : List Int) (f : Int → Option Int) (M2 : Mm) : Prop where
  ca : ∃ st : List Int, M2 a = some (.lst (st.map .int))
  cg : M2 g = some (.dct false (pK p f))
  off : ∀ y, y ≠ a → y ≠ g → M2 y = M y
theorem W1.tk {M : Mm} {a g : Addr} {p : List Int} {f : Int → Option Int} {M2 : Mm} (w : W1 M a g p f M2) (ag : a ≠ g) (st : List Int) : W1 M a g p f (up M2 a (.lst (st.map .int))) :=
  ⟨⟨st, up_same⟩, by rw [up_ne (Ne.symm ag)]; exact w.cg, fun y h1 h2 => by rw [up_ne h1]; exact w.off y h1 h2⟩
theorem W1.put {M : Mm} {a g : Addr} {p q : List Int} {f f' : Int → Option Int} {M2 : Mm} (w : W1 M a g p f M2) (ag : a ≠ g) : W1 M a g q f' (up M2 g (.dct false (pK q f'))) :=
  ⟨by obtain ⟨st, h⟩ := w.ca; exact ⟨st, by rw [up_ne ag]; exact h⟩, up_same, fun y h1 h2 => by rw [up_ne h2]; exact w.off y h1 h2⟩
class WA (T : Tab) : Prop where
  h0 : lk T.fn ._law_take = some spTake
  h1 : lk T.fn ._law_near = some spNearR
  h2 : lk T.fn ._law_up = some spLUp
  h3 : lk T.fn ._law_both = some spLBoth
@[simp] theorem wa0 {T : Tab} [h : WA T] : lk T.fn ._law_take = some spTake := h.h0
@[simp] theorem wa1 {T : Tab} [h : WA T] : lk T.fn ._law_near = some spNearR := h.h1
@[simp] theorem wa2 {T : Tab} [h : WA T] : lk T.fn ._law_up = some spLUp := h.h2
@[simp] theorem wa3 {T : Tab} [h : WA T] : lk T.fn ._law_both = some spLBoth := h.h3
def ab : List SS := (b__law_any_way.drop 2).take 1
theorem W1.set {M : Mm} {a g : Addr} {p q : List Int} {f f' : Int → Option Int} {u : Int} {d : D} {M2 : Mm} {P : Cell → Prop} (w : W1 M a g p f M2) (ag : a ≠ g) (hp : p.length ≤ 900) (e : putK (pK p f) (.int u) d = pK q f') (hK : W1 M a g q f' (up M2 g (.dct false (pK q f'))) → P (.dct false (pK q f'))) : setC (M2 g) (.int u) d P := by
  rw [w.cg, setC_dct]
  refine ⟨rfl, lt_size (by rw [pK_len]; omega), ?_⟩
  rw [e]
  exact hK (w.put ag)
section
variable {T : Tab} [hT : WA T] {M : Mm} {Q : QD} {E : QX} {hs : List Int} {ls : List (Int × Int)} {a g : Addr}
structure W2 (M : Mm) (a g b : Addr) (hs : List Int) (f : Int → Option Int) (bs : List (Int × Int)) (M2 : Mm) : Prop where
  ca : ∃ st : List Int, M2 a = some (.lst (st.map .int))
  cg : M2 g = some (.dct false (pK hs f))
  cb : M2 b = some (.lst (bs.map prD))
  off : ∀ y, y ≠ a → y ≠ g → y ≠ b → M2 y = M y
structure N3 (M : Mm) (a g b : Addr) : Prop where
  ag : a ≠ g
  ab : a ≠ b
  gb : g ≠ b
  mg : M g = none
  mb : M b = none
theorem W2.tk {M : Mm} {a g b : Addr} {hs : List Int} {f : Int → Option Int} {bs : List (Int × Int)} {M2 : Mm} (w : W2 M a g b hs f bs M2) (n : N3 M a g b) (st : List Int) : W2 M a g b hs f bs (up M2 a (.lst (st.map .int))) :=
  ⟨⟨st, up_same⟩, by rw [up_ne (Ne.symm n.ag)]; exact w.cg, by rw [up_ne (Ne.symm n.ab)]; exact w.cb, fun y h1 h2 h3 => by rw [up_ne h1]; exact w.off y h1 h2 h3⟩
theorem W2.sub {M : Mm} {a g b : Addr} {hs : List Int} {f : Int → Option Int} {bs : List (Int × Int)} {M2 : Mm} (w : W2 M a g b hs f bs M2) (n : N3 M a g b) : ∃ st : List Int, Sub (up M a (.lst (st.map .int))) M2 := by
  obtain ⟨st, h⟩ := w.ca
  refine ⟨st, fun y k e => ?_⟩
  by_cases ya : y = a
  · subst ya; rw [up_same] at e; rw [h]; exact e
  · rw [up_ne ya] at e
    rw [w.off y ya (fun z => by rw [z, n.mg] at e; cases e) fun z => by rw [z, n.mb] at e; cases e]
    exact e
abbrev ea (hs : List Int) (ls : List (Int × Int)) (a g b : Addr) (mode mn : Int) (v5 v8 v9 v10 : Option D) : Env := [some (.ref a), some (.lst (hs.map .int)), some (.lst (ls.map prD)), some (.ref g), some (.int mode), v5, some (.ref b), some (.int mn), v8, v9, v10]
end
end L3.WY
set_option maxRecDepth 100000
set_option maxHeartbeats 4000000
namespace L3.WY
open PySem L2 K01 RN EX
/-! ### steps from a leader over hands left -/
def Inn (ls : List (Int × Int)) (left : List Int) (l : Int) : Nat → Int → Prop
  | 0, z => z = l
  | n + 1, z => Inn ls left l n z ∨ (z ∈ left ∧ ∃ y, Inn ls left l n y ∧ joinB ls y z = true)
def Lvl (ls : List (Int × Int)) (left : List Int) (l : Int) (d : Nat) (z : Int) : Prop := Inn ls left l d z ∧ ∀ m, m < d → ¬ Inn ls left l m z
section
variable {ls : List (Int × Int)} {left : List Int} {l : Int}
theorem Inn.mono {z : Int} : ∀ {n m : Nat}, n ≤ m → Inn ls left l n z → Inn ls left l m z
  | n, 0, h, i => by have : n = 0 := by omega
                     subst this; exact i
  | n, m + 1, h, i => by
    by_cases e : n = m + 1
    · subst e; exact i
    · exact .inl (Inn.mono (by omega) i)
theorem Inn.lvl {z : Int} : ∀ {n : Nat}, Inn ls left l n z → ∃ d, d ≤ n ∧ Lvl ls left l d z
  | 0, i => ⟨0, Nat.le_refl _, i, fun _ h => absurd h (by omega)⟩
  | n + 1, i => by
    by_cases h : Inn ls left l n z
    · obtain ⟨d, h1, h2⟩ := h.lvl
      exact ⟨d, by omega, h2⟩
    · exact ⟨n + 1, Nat.le_refl _, i, fun m hm q => h (q.mono (by omega))⟩
theorem Lvl.uniq {z : Int} {d e : Nat} (a : Lvl ls left l d z) (b : Lvl ls left l e z) : d = e := by
  rcases Nat.lt_trichotomy d e with h | h | h
  · exact absurd a.1 (b.2 d h)
  · exact h
  · exact absurd b.1 (a.2 e h)
theorem Lvl.zero : Lvl ls left l 0 l := ⟨rfl, fun _ h => absurd h (by omega)⟩
/-- one step nearer -/
theorem Lvl.prev {z : Int} {d : Nat} (h : Lvl ls left l (d + 1) z) : ∃ y, Lvl ls left l d y ∧ joinB ls y z = true ∧ z ∈ left := by
  rcases h.1 with i | ⟨zl, y, i, j⟩
  · exact absurd i (h.2 d (by omega))
  · refine ⟨y, ⟨i, fun m hm q => h.2 (m + 1) (by omega) (.inr ⟨zl, y, q, j⟩)⟩, j, zl⟩
theorem Lvl.next {y z : Int} {d e : Nat} (a : Lvl ls left l d y) (b : Lvl ls left l e z) (zl : z ∈ left) (j : joinB ls y z = true) : e ≤ d + 1 := by
  rcases Nat.lt_or_ge (d + 1) e with h | h
  · exact absurd (Or.inr ⟨zl, y, a.1, j⟩ : Inn ls left l (d + 1) z) (b.2 (d + 1) h)
  · exact h
/-- hands taken, hands in the row, and the steps of all of them -/
structure BF (ls : List (Int × Int)) (left : List Int) (l : Int) (P Qu : List Int) (s : Int → Nat) : Prop where
  nd : (P ++ Qu).Nodup
  l0 : l ∈ P ++ Qu
  lf : ∀ z ∈ P ++ Qu, z ∈ left
  lv : ∀ z ∈ P ++ Qu, Lvl ls left l (s z) z
  srt : (P ++ Qu).Pairwise fun a b => s a ≤ s b
  top : ∀ y r, Qu = y :: r → ∀ z ∈ P ++ Qu, s z ≤ s y + 1
  cl : ∀ y ∈ P, ∀ z ∈ left, joinB ls y z = true → z ∈ P ++ Qu
/-- one hand is looked at: q of its neighbours are done -/
structure BM (ls : List (Int × Int)) (left : List Int) (l : Int) (P : List Int) (y : Int) (r q : List Int) (s : Int → Nat) : Prop where
  nd : (P ++ y :: r).Nodup
  l0 : l ∈ P ++ y :: r
  lf : ∀ z ∈ P ++ y :: r, z ∈ left
  lv : ∀ z ∈ P ++ y :: r, Lvl ls left l (s z) z
  srt : (P ++ y :: r).Pairwise fun a b => s a ≤ s b
  top : ∀ z ∈ P ++ y :: r, s z ≤ s y + 1
  cl : ∀ y' ∈ P, ∀ z ∈ left, joinB ls y' z = true → z ∈ P ++ y :: r
  clq : ∀ z ∈ q, z ∈ left → z ∈ P ++ y :: r
  ball : ∀ z, Inn ls left l (s y) z → z ∈ P ++ y :: r
variable {P Qu r q : List Int} {s : Int → Nat} {y : Int}
theorem BF.start (h : l ∈ left) : BF ls left l [] [l] (fun _ => 0) :=
  ⟨by simp, by simp, fun z hz => by simp at hz; subst hz; exact h, fun z hz => by simp at hz; subst hz; exact .zero, by simp, fun _ _ _ z _ => Nat.zero_le _, (fun _ h => nomatch h)⟩
theorem BF.ball (b : BF ls left l P (y :: r) s) : ∀ {n : Nat} {z : Int}, n ≤ s y → Inn ls left l n z → z ∈ P ++ y :: r
  | 0, z, _, i => by have e : z = l := i
                     subst e; exact b.l0
  | n + 1, z, hn, i => by
    rcases i with i | ⟨zl, w, i, j⟩
    · exact b.ball (by omega) i
    · have hw := b.ball (n := n) (by omega) i
      have lw := b.lv w hw
      have sw : s w ≤ n := by
        obtain ⟨d, h1, h2⟩ := i.lvl
        have := lw.uniq h2
        omega
      rcases List.mem_append.mp hw with hp | hq
      · exact b.cl w hp z zl j
      · exfalso
        have pw := (List.pairwise_append.mp b.srt).2.1
        rw [List.pairwise_cons] at pw
        rcases List.mem_cons.mp hq with rfl | hq
        · omega
        · have := pw.1 w hq; omega
theorem BM.start (b : BF ls left l P (y :: r) s) : BM ls left l P y r [] s :=
  ⟨b.nd, b.l0, b.lf, b.lv, b.srt, b.top y r rfl, b.cl, (fun _ h => nomatch h), fun z i => b.ball (Nat.le_refl _) i⟩
theorem BM.old {z : Int} (b : BM ls left l P y r q s) (h : z ∈ left → z ∈ P ++ y :: r) : BM ls left l P y r (q ++ [z]) s :=
  ⟨b.nd, b.l0, b.lf, b.lv, b.srt, b.top, b.cl, fun w hw => by
    rcases List.mem_append.mp hw with hw | hw
    · exact b.clq w hw
    · simp at hw; subst hw; exact h, b.ball⟩
def sset (s : Int → Nat) (z : Int) (n : Nat) : Int → Nat := fun x => if x = z then n else s x
theorem BM.add {z : Int} (b : BM ls left l P y r q s) (zl : z ∈ left) (zn : z ∉ P ++ y :: r) (j : joinB ls y z = true) : BM ls left l P y (r ++ [z]) (q ++ [z]) (sset s z (s y + 1)) := by
  have eK : P ++ y :: (r ++ [z]) = (P ++ y :: r) ++ [z] := by simp
  have old : ∀ x ∈ P ++ y :: r, sset s z (s y + 1) x = s x := fun x hx => if_neg fun e => zn (by rw [← e]; exact hx)
  have new : sset s z (s y + 1) z = s y + 1 := if_pos rfl
  have hy : y ∈ P ++ y :: r := by simp
  refine ⟨?_, ?_, ?_, ?_, ?_, ?_, ?_, ?_, ?_⟩
  · rw [eK]
    exact List.nodup_append.mpr ⟨b.nd, by simp, fun a ha c hc e => by simp at hc; subst hc; exact zn (by rw [← e]; exact ha)⟩
  · rw [eK]; exact List.mem_append_left _ b.l0
  · rw [eK]
    intro w hw
    rcases List.mem_append.mp hw with hw | hw
    · exact b.lf w hw
    · simp at hw; subst hw; exact zl
  · rw [eK]
    intro w hw
    rcases List.mem_append.mp hw with hw | hw
    · rw [old w hw]; exact b.lv w hw
    · simp at hw; subst hw
      rw [new]
      refine ⟨.inr ⟨zl, y, (b.lv y hy).1, j⟩, fun m hm i => zn (b.ball w (i.mono (by omega)))⟩
  · rw [eK, List.pairwise_append]
    refine ⟨b.srt.imp_of_mem fun {a c} ha hc h => by rw [old a ha, old c hc]; exact h, by simp, fun a ha c hc => ?_⟩
    simp at hc; subst hc
    rw [old a ha, new]
    exact b.top a ha
  · rw [eK]
    intro w hw
    rw [old y hy]
    rcases List.mem_append.mp hw with hw | hw
    · rw [old w hw]; exact b.top w hw
    · simp at hw; subst hw; rw [new]; omega
  · rw [eK]
    intro w hw x hx j'
    exact List.mem_append_left _ (b.cl w hw x hx j')
  · rw [eK]
    intro w hw hl
    rcases List.mem_append.mp hw with hw | hw
    · exact List.mem_append_left _ (b.clq w hw hl)
    · exact List.mem_append_right _ hw
  · rw [eK, old y hy]
    intro w i
    exact List.mem_append_left _ (b.ball w i)
theorem BM.done (b : BM ls left l P y r q s) (hq : ∀ z ∈ left, joinB ls y z = true → z ∈ q) : BF ls left l (P ++ [y]) r s := by
  have eK : (P ++ [y]) ++ r = P ++ y :: r := by simp
  refine ⟨by rw [eK]; exact b.nd, by rw [eK]; exact b.l0, by rw [eK]; exact b.lf, by rw [eK]; exact b.lv, by rw [eK]; exact b.srt, ?_, ?_⟩
  · rw [eK]
    rintro y2 r2 rfl z hz
    have h1 := b.top z hz
    have pw := (List.pairwise_append.mp b.srt).2.1
    rw [List.pairwise_cons] at pw
    have := pw.1 y2 List.mem_cons_self
    omega
  · rw [eK]
    intro w hw z zl j
    rcases List.mem_append.mp hw with hw | hw
    · exact b.cl w hw z zl j
    · simp at hw; subst hw; exact b.clq z (hq z zl j) zl
/-- the steps of a leader's cluster -/
structure Fin (ls : List (Int × Int)) (left : List Int) (l : Int) (R : Int) (K : List Int) (s : Int → Nat) : Prop where
  nd : K.Nodup
  l0 : l ∈ K
  lf : ∀ z ∈ K, z ∈ left
  lv : ∀ z ∈ K, Lvl ls left l (s z) z
  bd : ∀ z ∈ K, (s z : Int) ≤ R
  all : ∀ z d, Lvl ls left l d z → (d : Int) ≤ R → z ∈ K
theorem BF.fin0 {R : Int} (b : BF ls left l P [] s) (hb : ∀ z ∈ P, (s z : Int) ≤ R) : Fin ls left l R P s := by
  have eK : P ++ [] = P := List.append_nil P
  have all : ∀ (n : Nat) (z : Int), Inn ls left l n z → z ∈ P := by
    intro n
    induction n with
    | zero => intro z i; have e : z = l := i; subst e; have := b.l0; rw [eK] at this; exact this
    | succ n ih =>
      intro z i
      rcases i with i | ⟨zl, w, i, j⟩
      · exact ih z i
      · have := b.cl w (ih w i) z zl j
        rw [eK] at this
        exact this
  refine ⟨by have := b.nd; rwa [eK] at this, all 0 l rfl, by have := b.lf; rwa [eK] at this, by have := b.lv; rwa [eK] at this, hb, fun z d h _ => all d z h.1⟩
theorem BF.fin1 {R : Int} (b : BF ls left l P (y :: r) s) (hy : R ≤ s y) (hb : ∀ z ∈ P ++ y :: r, (s z : Int) ≤ R) : Fin ls left l R (P ++ y :: r) s :=
  ⟨b.nd, b.l0, b.lf, b.lv, hb, fun z d h hd => b.ball (n := d) (by omega) h.1⟩
theorem Fin.same {R : Int} {K K' : List Int} {s s' : Int → Nat} (a : Fin ls left l R K s) (b : Fin ls left l R K' s') : (∀ z, z ∈ K ↔ z ∈ K') ∧ ∀ z ∈ K, s z = s' z := by
  have h1 : ∀ z, z ∈ K → z ∈ K' := fun z hz => b.all z _ (a.lv z hz) (a.bd z hz)
  have h2 : ∀ z, z ∈ K' → z ∈ K := fun z hz => a.all z _ (b.lv z hz) (b.bd z hz)
  exact ⟨fun z => ⟨h1 z, h2 z⟩, fun z hz => (a.lv z hz).uniq (b.lv z (h1 z hz))⟩
end
end L3.WY
set_option maxRecDepth 100000
set_option maxHeartbeats 4000000
namespace L3.WY
open PySem L2 K01 RN EX
/-! ### clusters: parents and leaders -/
section
variable {hs : List Int} {ls : List (Int × Int)} {left : List Int} {l : Int} {R : Int}
noncomputable def lvO (ls : List (Int × Int)) (left : List Int) (l : Int) (R : Int) (z : Int) : Option Nat :=
  @dite _ (∃ d : Nat, Lvl ls left l d z ∧ (d : Int) ≤ R) (Classical.propDecidable _) (fun h => some (Classical.choose h)) fun _ => none
theorem lvO_some {z : Int} {d : Nat} : lvO ls left l R z = some d ↔ Lvl ls left l d z ∧ (d : Int) ≤ R := by
  unfold lvO
  constructor
  · intro e
    split at e
    · rename_i h
      cases e
      exact Classical.choose_spec h
    · cases e
  · intro h
    have H : ∃ d : Nat, Lvl ls left l d z ∧ (d : Int) ≤ R := ⟨d, h⟩
    rw [dif_pos H]
    rw [(Classical.choose_spec H).1.uniq h.1]
theorem Fin.lvO {K : List Int} {s : Int → Nat} (f : Fin ls left l R K s) (z : Int) : lvO ls left l R z = if z ∈ K then some (s z) else none := by
  by_cases h : z ∈ K
  · rw [if_pos h]
    exact lvO_some.mpr ⟨f.lv z h, f.bd z h⟩
  · rw [if_neg h]
    cases e : WY.lvO ls left l R z with
    | none => rfl
    | some d =>
      obtain ⟨h1, h2⟩ := lvO_some.mp e
      exact absurd (f.all z d h1 h2) h
noncomputable def nearer (hs : List Int) (ls : List (Int × Int)) (left : List Int) (l : Int) (R : Int) (z : Int) : List Int :=
  (nb hs ls z).filter fun o => dB (∃ e, lvO ls left l R o = some e ∧ lvO ls left l R z = some (e + 1))
noncomputable def pb (hs : List Int) (ls : List (Int × Int)) (left : List Int) (l : Int) (R : Int) (z : Int) : Option Int := (nearer hs ls left l R z).head?
theorem dB_iff' {p : Prop} : dB p = true ↔ p := ⟨fun h => Classical.byContradiction fun n => (by rw [dB_f n] at h; cases h), dB_t⟩
theorem mem_nearer {z o : Int} : o ∈ nearer hs ls left l R z ↔ o ∈ nb hs ls z ∧ ∃ e, lvO ls left l R o = some e ∧ lvO ls left l R z = some (e + 1) := by
  unfold nearer
  rw [List.mem_filter]
  exact and_congr_right fun _ => dB_iff'
theorem mem_nbi {h z : Int} : z ∈ nb hs ls h ↔ z ∈ hs ∧ joinB ls h z = true := by
  unfold nb
  rw [List.mem_filter]
theorem joinB_symm {a b : Int} : joinB ls a b = joinB ls b a := by
  unfold joinB
  rw [Bool.or_comm]
/-- what both walks look for -/
theorem Fin.nearer {K : List Int} {s : Int → Nat} (f : Fin ls left l R K s) {z : Int} (hz : z ∈ K) : nearer hs ls left l R z = (nb hs ls z).filter fun o => decide (o ∈ K ∧ s o + 1 = s z) := by
  unfold WY.nearer
  refine List.filter_congr fun o _ => ?_
  rw [f.lvO o, f.lvO z, if_pos hz]
  by_cases h : o ∈ K
  · rw [if_pos h]
    by_cases e : s o + 1 = s z
    · rw [decide_eq_true ⟨h, e⟩]
      exact dB_t ⟨s o, rfl, by rw [e]⟩
    · rw [decide_eq_false fun q => e q.2]
      exact dB_f fun ⟨e', h1, h2⟩ => e (by cases h1; exact (Option.some.inj h2).symm)
  · rw [if_neg h, decide_eq_false fun q => h q.1]
    exact dB_f fun ⟨e', h1, _⟩ => by cases h1
/-! the ways -/
noncomputable def inK (ls : List (Int × Int)) (left : List Int) (l : Int) (R : Int) (z : Int) : Bool := (lvO ls left l R z).isSome
noncomputable def fF (hs : List Int) (ls : List (Int × Int)) (R : Int) : Nat → List Int → Int → Option Int
  | 0, _, _ => none
  | _ + 1, [], _ => none
  | n + 1, l :: r, z => if inK ls (l :: r) l R z = true then pb hs ls (l :: r) l R z else fF hs ls R n ((l :: r).filter fun x => !inK ls (l :: r) l R x) z
noncomputable def gF (ls : List (Int × Int)) (R : Int) : Nat → List Int → Int → Int
  | 0, _, z => z
  | _ + 1, [], z => z
  | n + 1, l :: r, z => if inK ls (l :: r) l R z = true then l else gF ls R n ((l :: r).filter fun x => !inK ls (l :: r) l R x) z
theorem inK_iff {z : Int} : inK ls left l R z = true ↔ ∃ d : Nat, Lvl ls left l d z ∧ (d : Int) ≤ R := by
  unfold inK
  cases e : lvO ls left l R z with
  | none =>
    refine ⟨fun h => (by cases h), fun ⟨d, h⟩ => ?_⟩
    rw [lvO_some.mpr h] at e; cases e
  | some d => exact ⟨fun _ => ⟨d, lvO_some.mp e⟩, fun _ => rfl⟩
theorem Fin.inK {K : List Int} {s : Int → Nat} (f : Fin ls left l R K s) (z : Int) : inK ls left l R z = decide (z ∈ K) := by
  unfold WY.inK
  rw [f.lvO z]
  by_cases h : z ∈ K <;> simp [h]
theorem Lvl.mem {d : Nat} {z : Int} (h : Lvl ls left l d z) (hl : l ∈ left) : z ∈ left := by
  cases d with
  | zero => have e : z = l := h.1; rw [e]; exact hl
  | succ d => obtain ⟨_, _, _, q⟩ := h.prev; exact q
theorem fF_out : ∀ (n : Nat) (left : List Int) (z : Int), z ∉ left → fF hs ls R n left z = none
  | 0, _, _, _ => rfl
  | _ + 1, [], _, _ => rfl
  | n + 1, l :: r, z, h => by
    have h1 : inK ls (l :: r) l R z = false := by
      cases e : inK ls (l :: r) l R z with
      | false => rfl
      | true =>
        obtain ⟨d, h1, _⟩ := inK_iff.mp e
        exact absurd (h1.mem List.mem_cons_self) h
    show (if inK ls (l :: r) l R z = true then _ else _) = none
    rw [if_neg (by rw [h1]; exact Bool.false_ne_true)]
    exact fF_out n _ z fun q => h (List.mem_filter.mp q).1
theorem inK_self (hR : 0 ≤ R) : inK ls left l R l = true := inK_iff.mpr ⟨0, .zero, hR⟩
theorem rest_len {r : List Int} (hR : 0 ≤ R) : ((l :: r).filter fun x => !inK ls (l :: r) l R x).length ≤ r.length := by
  rw [List.filter_cons, if_neg (by rw [inK_self hR]; decide)]
  exact List.length_filter_le _ _
/-- from each hand parents lead to its leader -/
theorem chains {F : Int → Option Int} (hR : 0 ≤ R) : ∀ (n : Nat) (left : List Int), left.length ≤ n → (∀ z ∈ left, z ∈ hs) → (∀ z ∈ left, F z = fF hs ls R n left z) → ∀ z ∈ left, ∃ L, Ch F z L ∧ L.getLast? = some (gF ls R n left z)
  | 0, left, hn, _, _ => fun z hz => by
    have : left = [] := List.eq_nil_of_length_eq_zero (by omega)
    subst this; exact nomatch hz
  | n + 1, [], _, _, _ => fun z hz => nomatch hz
  | n + 1, l :: r, hn, hsub, hF => by
    have key : ∀ (d : Nat) (z : Int), Lvl ls (l :: r) l d z → (d : Int) ≤ R → ∃ L, Ch F z L ∧ L.getLast? = some l := by
      intro d
      induction d with
      | zero =>
        intro z hz hd
        have e : z = l := hz.1
        subst e
        have e1 := hF z List.mem_cons_self
        have e2 : fF hs ls R (n + 1) (z :: r) z = pb hs ls (z :: r) z R z := if_pos (inK_self hR)
        have e3 : nearer hs ls (z :: r) z R z = [] := by
          rw [List.eq_nil_iff_forall_not_mem]
          intro o ho
          obtain ⟨_, e, _, h2⟩ := mem_nearer.mp ho
          have := (lvO_some.mp h2).1.uniq hz
          omega
        have e4 : F z = none := by rw [e1, e2]; unfold pb; rw [e3]; rfl
        exact ⟨[z], .one e4, rfl⟩
      | succ d ih =>
        intro z hz hd
        have zl := hz.mem List.mem_cons_self
        obtain ⟨y, h1, h2, _⟩ := hz.prev
        have yl := h1.mem List.mem_cons_self
        have hy : y ∈ nearer hs ls (l :: r) l R z := mem_nearer.mpr ⟨mem_nbi.mpr ⟨hsub y yl, by rw [joinB_symm]; exact h2⟩, d, lvO_some.mpr ⟨h1, by omega⟩, lvO_some.mpr ⟨hz, hd⟩⟩
        have e1 := hF z zl
        have e2 : fF hs ls R (n + 1) (l :: r) z = pb hs ls (l :: r) l R z := if_pos (inK_iff.mpr ⟨d + 1, hz, hd⟩)
        cases e3 : nearer hs ls (l :: r) l R z with
        | nil => rw [e3] at hy; exact nomatch hy
        | cons q t =>
          have e4 : F z = some q := by rw [e1, e2]; unfold pb; rw [e3]; rfl
          have hq : q ∈ nearer hs ls (l :: r) l R z := by rw [e3]; exact List.mem_cons_self
          obtain ⟨_, e, g1, g2⟩ := mem_nearer.mp hq
          have ed : e = d := by
            have := (lvO_some.mp g2).1.uniq hz
            omega
          subst ed
          obtain ⟨L, c, hl⟩ := ih q (lvO_some.mp g1).1 (by omega)
          refine ⟨z :: L, .cons e4 c, ?_⟩
          obtain ⟨t', rfl⟩ := c.head
          rw [List.getLast?_cons_cons]
          exact hl
    intro z hz
    by_cases hk : inK ls (l :: r) l R z = true
    · obtain ⟨d, h1, h2⟩ := inK_iff.mp hk
      obtain ⟨L, c, e⟩ := key d z h1 h2
      refine ⟨L, c, ?_⟩
      rw [e]
      exact congrArg some (if_pos hk).symm
    · have hb : inK ls (l :: r) l R z = false := by simpa using hk
      obtain ⟨L, c, e⟩ := chains (F := F) hR n ((l :: r).filter fun x => !inK ls (l :: r) l R x) (by have := rest_len (ls := ls) (l := l) (r := r) hR; simp at hn; omega) (fun x hx => hsub x (List.mem_filter.mp hx).1)
        (fun x hx => by
          obtain ⟨h1, h2⟩ := List.mem_filter.mp hx
          rw [hF x h1]
          exact if_neg (by intro q; rw [q] at h2; cases h2)) z (List.mem_filter.mpr ⟨hz, by rw [hb]; rfl⟩)
      refine ⟨L, c, ?_⟩
      rw [e]
      exact congrArg some (if_neg hk).symm
end
end L3.WY
set_option maxRecDepth 100000
set_option maxHeartbeats 4000000
namespace L3.WY
open PySem L2 K01 RN EX
/-! ### reaches of none, and of twelve and more -/
section
variable {hs : List Int} {ls : List (Int × Int)} {left : List Int} {l : Int} {R : Int}
theorem fF_zero : ∀ (n : Nat) (left : List Int) (z : Int), fF hs ls 0 n left z = none
  | 0, _, _ => rfl
  | _ + 1, [], _ => rfl
  | n + 1, l :: r, z => by
    show (if inK ls (l :: r) l 0 z = true then _ else _) = none
    split
    · unfold pb
      have e3 : nearer hs ls (l :: r) l 0 z = [] := by
        rw [List.eq_nil_iff_forall_not_mem]
        intro o ho
        obtain ⟨_, e, _, h2⟩ := mem_nearer.mp ho
        have := (lvO_some.mp h2).2
        omega
      rw [e3]
      rfl
    · exact fF_zero n _ z
/-- no hand is as many steps away as there are hands -/
theorem Lvl.few : ∀ (d : Nat) (z : Int), Lvl ls left l d z → l ∈ left → ∃ L : List Int, L.length = d + 1 ∧ L.Nodup ∧ ∀ x ∈ L, x ∈ left ∧ ∃ e, e ≤ d ∧ Lvl ls left l e x
  | 0, z, h, hl => ⟨[z], rfl, by simp, fun x hx => by
    simp at hx; subst hx
    exact ⟨h.mem hl, 0, Nat.le_refl _, h⟩⟩
  | d + 1, z, h, hl => by
    obtain ⟨y, h1, _, _⟩ := h.prev
    obtain ⟨L, e, nd, H⟩ := Lvl.few d y h1 hl
    refine ⟨z :: L, by simp [e], List.nodup_cons.mpr ⟨fun hz => ?_, nd⟩, fun x hx => ?_⟩
    · obtain ⟨_, e', h2, h3⟩ := H z hz
      have := h.uniq h3
      omega
    · rcases List.mem_cons.mp hx with rfl | hx
      · exact ⟨h.mem hl, d + 1, Nat.le_refl _, h⟩
      · obtain ⟨g1, e', g2, g3⟩ := H x hx
        exact ⟨g1, e', by omega, g3⟩
theorem Lvl.lt {d : Nat} {z : Int} (h : Lvl ls left l d z) (hl : l ∈ left) : d < left.length := by
  obtain ⟨L, e, nd, H⟩ := h.few d z hl
  have := nodup_le nd fun x hx => (H x hx).1
  omega
theorem lvO_far {R' : Int} {z : Int} (hl : l ∈ left) (h : (left.length : Int) ≤ R) (h' : (left.length : Int) ≤ R') : lvO ls left l R z = lvO ls left l R' z := by
  cases e : lvO ls left l R z with
  | some d =>
    obtain ⟨h1, _⟩ := lvO_some.mp e
    have := h1.lt hl
    exact (lvO_some.mpr ⟨h1, by omega⟩).symm
  | none =>
    cases e' : lvO ls left l R' z with
    | none => rfl
    | some d =>
      obtain ⟨h1, _⟩ := lvO_some.mp e'
      have := h1.lt hl
      rw [lvO_some.mpr ⟨h1, by omega⟩] at e
      cases e
theorem far_same {R' : Int} : ∀ (n : Nat) (left : List Int), (left.length : Int) ≤ R → (left.length : Int) ≤ R' → ∀ z, fF hs ls R n left z = fF hs ls R' n left z
  | 0, _, _, _, _ => rfl
  | _ + 1, [], _, _, _ => rfl
  | n + 1, l :: r, h, h', z => by
    have e : ∀ x, lvO ls (l :: r) l R x = lvO ls (l :: r) l R' x := fun x => lvO_far List.mem_cons_self h h'
    have e1 : ∀ x, inK ls (l :: r) l R x = inK ls (l :: r) l R' x := fun x => by unfold inK; rw [e]
    have e2 : pb hs ls (l :: r) l R z = pb hs ls (l :: r) l R' z := by
      unfold pb nearer
      have : (fun o => dB (∃ q, lvO ls (l :: r) l R o = some q ∧ lvO ls (l :: r) l R z = some (q + 1))) = fun o => dB (∃ q, lvO ls (l :: r) l R' o = some q ∧ lvO ls (l :: r) l R' z = some (q + 1)) := by
        funext o
        rw [e o, e z]
      rw [this]
    have e3 : ((l :: r).filter fun x => !inK ls (l :: r) l R x) = (l :: r).filter fun x => !inK ls (l :: r) l R' x := List.filter_congr fun x _ => by rw [e1 x]
    show (if inK ls (l :: r) l R z = true then _ else _) = if inK ls (l :: r) l R' z = true then _ else _
    rw [e1 z, e2, e3]
    split
    · rfl
    · have hlen : ((l :: r).filter fun x => !inK ls (l :: r) l R' x).length ≤ (l :: r).length := List.length_filter_le _ _
      exact far_same n _ (by omega) (by omega) z
/-- with reach enough a line's ends have one leader -/
theorem far_one : ∀ (n : Nat) (left : List Int), left.length ≤ n → (left.length : Int) ≤ R → ∀ a b, a ∈ left → b ∈ left → joinB ls a b = true → gF ls R n left a = gF ls R n left b
  | 0, left, hn, _, a, _, ha, _, _ => by
    have : left = [] := List.eq_nil_of_length_eq_zero (by omega)
    subst this; exact nomatch ha
  | _ + 1, [], _, _, _, _, ha, _, _ => nomatch ha
  | n + 1, l :: r, hn, hR, a, b, ha, hb, j => by
    have hR0 : (0 : Int) ≤ R := by omega
    have one : ∀ a b, a ∈ l :: r → b ∈ l :: r → joinB ls a b = true → inK ls (l :: r) l R a = true → inK ls (l :: r) l R b = true := by
      intro a b _ hb j h
      obtain ⟨d, h1, h2⟩ := inK_iff.mp h
      have i : Inn ls (l :: r) l (d + 1) b := .inr ⟨hb, a, h1.1, j⟩
      obtain ⟨e, h3, h4⟩ := i.lvl
      have := h4.lt List.mem_cons_self
      exact inK_iff.mpr ⟨e, h4, by omega⟩
    show (if inK ls (l :: r) l R a = true then _ else _) = if inK ls (l :: r) l R b = true then _ else _
    by_cases h : inK ls (l :: r) l R a = true
    · rw [if_pos h, if_pos (one a b ha hb j h)]
    · have h' : ¬ inK ls (l :: r) l R b = true := fun q => h (one b a hb ha (by rw [joinB_symm]; exact j) q)
      rw [if_neg h, if_neg h']
      have hlen := rest_len (ls := ls) (l := l) (r := r) hR0
      simp at hn
      refine far_one n _ (by omega) (by simp at hR; omega) a b (List.mem_filter.mpr ⟨ha, by simpa using h⟩) (List.mem_filter.mpr ⟨hb, by simpa using h'⟩) j
end
/-! ### bridges: of each two clusters the first line -/
section
variable {key : Int × Int → Int × Int}
def brG (key : Int × Int → Int × Int) : List (Int × Int) → List (Int × Int) → List (Int × Int)
  | acc, [] => acc
  | acc, p :: r => if (key p).1 ≠ (key p).2 ∧ key p ∉ acc.map key then brG key (acc ++ [p]) r else brG key acc r
theorem brG_none : ∀ (xs acc : List (Int × Int)), (∀ p ∈ xs, (key p).1 = (key p).2) → brG key acc xs = acc
  | [], _, _ => rfl
  | p :: r, acc, h => by
    unfold brG
    rw [if_neg fun q => q.1 (h p List.mem_cons_self)]
    exact brG_none r acc fun x hx => h x (List.mem_cons_of_mem _ hx)
theorem brG_all : ∀ (xs acc : List (Int × Int)), (∀ p ∈ acc ++ xs, key p = p) → (∀ p ∈ xs, p.1 ≠ p.2) → (acc ++ xs).Nodup → brG key acc xs = acc ++ xs
  | [], acc, _, _, _ => by rw [List.append_nil]; rfl
  | p :: r, acc, h, hn, nd => by
    have hp : key p = p := h p (by simp)
    have hm : acc.map key = acc := by
      have : acc.map key = acc.map id := List.map_congr_left fun x hx => h x (List.mem_append_left _ hx)
      rw [this, List.map_id]
    have e : acc ++ p :: r = (acc ++ [p]) ++ r := by simp
    unfold brG
    rw [if_pos ⟨by rw [hp]; exact hn p List.mem_cons_self, by
      rw [hp, hm]
      intro q
      exact (List.nodup_append.mp nd).2.2 p q p List.mem_cons_self rfl⟩, e]
    exact brG_all r _ (by rw [← e]; exact h) (fun x hx => hn x (List.mem_cons_of_mem _ hx)) (by rw [← e]; exact nd)
theorem brG_sub : ∀ (xs acc : List (Int × Int)), ∃ ys, brG key acc xs = acc ++ ys ∧ ys.Sublist xs
  | [], acc => ⟨[], (List.append_nil _).symm, List.Sublist.refl _⟩
  | p :: r, acc => by
    unfold brG
    split
    · obtain ⟨ys, e, s⟩ := brG_sub r (acc ++ [p])
      exact ⟨p :: ys, by rw [e]; simp, s.cons₂ _⟩
    · obtain ⟨ys, e, s⟩ := brG_sub r acc
      exact ⟨ys, e, s.cons _⟩
theorem brG_congr {key' : Int × Int → Int × Int} : ∀ (xs acc : List (Int × Int)), (∀ p ∈ acc ++ xs, key p = key' p) → brG key acc xs = brG key' acc xs
  | [], _, _ => rfl
  | p :: r, acc, h => by
    have hp : key p = key' p := h p (by simp)
    have hm : acc.map key = acc.map key' := List.map_congr_left fun x hx => h x (List.mem_append_left _ hx)
    have e : acc ++ p :: r = (acc ++ [p]) ++ r := by simp
    unfold brG
    rw [hp, hm, brG_congr r (acc ++ [p]) (by rw [← e]; exact h), brG_congr r acc fun x hx => h x (by
      rcases List.mem_append.mp hx with q | q
      · exact List.mem_append_left _ q
      · exact List.mem_append_right _ (List.mem_cons_of_mem _ q))]
end
end L3.WY
set_option maxRecDepth 100000
set_option maxHeartbeats 4000000
namespace L3.WY
open PySem L2 K01 RN
def N_steps_from : List PySem.Str := ["web", "leader", "left", "reach", "steps", "row", "behind", "hand", "other"]
def b_steps_from : List SS := [
  .asg 4 (.dct1 true (.var 1) (.int 0)),
  .asg 5 (.lst false [(.var 1)]),
  .whl (.bop true [(.cmp .NotEq (.var 5) (.lst false [])), (.cmp .Lt (.ix (.var 4) (.ix (.var 5) (.int 0))) (.var 3))]) [.asg 6 (.lst true []), .fors (.nm 7) .seq [(.var 5)] [.fors (.nm 8) .seq [(.meth false (.var 0) .«neighbours» [(.var 7)])] [.ifs (.bop true [(.cmp .In (.var 8) (.var 2)), (.cmp .NotIn (.var 8) (.var 4))]) [.asgI (.var 4) (.var 8) (.bin .Add (.ix (.var 4) (.var 7)) (.int 1)), .exp (.bm false (.var 6) .append [(.var 8)])] []]], .asg 5 (.var 6)],
  .ret (.var 4)]
def P_steps_from : List PySem.Str := ["web", "leader", "left", "reach"]
theorem k_steps_from : okSs false none b_steps_from = true := by decide +kernel
def N_parent_by : List PySem.Str := ["web", "steps", "hand", "near", "other"]
def b_parent_by : List SS := [
  .asg 3 (.comp false (.nm 4) .seq [(.meth false (.var 0) .«neighbours» [(.var 2)])] (.cmp .Eq (.bm false (.var 1) .get [(.var 4)]) (.bin .Sub (.ix (.var 1) (.var 2)) (.int 1))) (.var 4)),
  .ret (.mnD false (.var 3) .non)]
def P_parent_by : List PySem.Str := ["web", "steps", "hand"]
theorem k_parent_by : okSs false none b_parent_by = true := by decide +kernel
def N_by_clusters : List PySem.Str := ["web", "reach", "parents", "left", "bridges", "joined", "bare", "line", "steps", "hand", "both"]
def b_by_clusters : List SS := [
  .asg 2 (.dnew true false),
  .asg 3 (.meth false (.var 0) .«hands» []),
  .whl (.cmp .NotEq (.var 3) (.lst false [])) [.asg 8 (.call false .«steps_from» [(.var 0), (.ix (.var 3) (.int 0)), (.var 3), (.var 1)]), .fors (.nm 9) .keys [(.var 8)] [.asgI (.var 2) (.var 9) (.call false .«parent_by» [(.var 0), (.var 8), (.var 9)])], .asg 3 (.comp false (.nm 9) .seq [(.var 3)] (.cmp .NotIn (.var 9) (.var 8)) (.var 9))],
  .asg 4 (.lst true []),
  .asg 5 (.lst true []),
  .asg 6 (.mk false .«Way» [(.var 2), (.lst false [])]),
  .fors (.nm 7) .seq [(.meth false (.var 0) .«lines» [])] [.asg 10 (.call false .«clusters_joined» [(.var 6), (.var 7)]), .ifs (.bop true [(.cmp .NotEq (.ix (.var 10) (.int 0)) (.ix (.var 10) (.int 1))), (.cmp .NotIn (.var 10) (.var 5))]) [.exp (.bm false (.var 5) .append [(.var 10)]), .exp (.bm false (.var 4) .append [(.var 7)])] []],
  .ret (.mk false .«Way» [(.var 2), (.var 4)])]
def P_by_clusters : List PySem.Str := ["web", "reach"]
theorem k_by_clusters : okSs false none b_by_clusters = true := by decide +kernel
def N_by_neighbours : List PySem.Str := ["web"]
def b_by_neighbours : List SS := [
  .ret (.call false .«by_clusters» [(.var 0), (.int 0)])]
def P_by_neighbours : List PySem.Str := ["web"]
theorem k_by_neighbours : okSs false none b_by_neighbours = true := by decide +kernel
def N_by_tree : List PySem.Str := ["web"]
def b_by_tree : List SS := [
  .ret (.call false .«by_clusters» [(.var 0), (.gl .«MOST_HANDS_ways»)])]
def P_by_tree : List PySem.Str := ["web"]
theorem k_by_tree : okSs false none b_by_tree = true := by decide +kernel
end L3.WY
set_option maxRecDepth 100000
set_option maxHeartbeats 4000000
namespace L3.WY
open PySem L2 K01 RN EX
variable {c : Cfg}
/-! ### steps from a leader: the walk -/
def sK (K : List Int) (s : Int → Nat) : List (D × D) := K.map fun h => (.int h, .int (s h : Int))
theorem sK_len {K : List Int} {s : Int → Nat} : (sK K s).length = K.length := by simp [sK]
theorem sK_get {K : List Int} {s : Int → Nat} {h : Int} (hh : h ∈ K) : getK (sK K s) (.int h) = some (.int (s h : Int)) := get_key (g := fun h => .int (s h : Int)) hh
theorem sK_no {K : List Int} {s : Int → Nat} {h : Int} (hh : h ∉ K) : getK (sK K s) (.int h) = none := get_no (g := fun h => .int (s h : Int)) hh
theorem sK_add {K : List Int} {s : Int → Nat} {u : Int} {n : Nat} (h : u ∉ K) : putK (sK K s) (.int u) (.int (n : Int)) = sK (K ++ [u]) (sset s u n) := by
  unfold putK sK
  rw [any_keyI K (fun h => .int (s h : Int)), if_neg (by simpa using h), List.map_append]
  congr 1
  · apply List.map_congr_left
    intro z hz
    have zu : z ≠ u := fun e => h (e ▸ hz)
    simp [sset, zu]
  · simp [sset]
theorem rt_dct {Q : QD} {E : QX} {M M' : Mm} {a : Addr} {ds : List (D × D)} {t : Bool} (h : M' a = some (.dct t ds)) (sb : Sub M M') (ha : M a = none) (hQ : Q (.dct t ds) M) : (fnK c Q E).rt (.ref a) M' := by
  refine ⟨_, M, ?_, hQ⟩
  have e : fz 1 M' (.ref a) = .dct t ds := by
    unfold fz
    rw [h]
    show D.dct t (ds.map fun p => (p.1, fz 0 M' p.2)) = _
    rw [map_k0]
  rw [← e]
  refine Frz.deep 1 sb fun y hy => ?_
  have r : rf 1 M' (.ref a) = [a] := by
    unfold rf
    rw [h]
    show a :: (ds.flatMap fun p => rf 0 M' p.2) = _
    rw [flat_k0]
  rw [r] at hy
  simp at hy
  subst hy
  exact ha
theorem nei_use {hs : List Int} {ls : List (Int × Int)} {h : Int} {M : Mm} {Q : QD} {E : QX} (ho : HandsOk hs) (lo : LinesOk hs ls) (hh : h ∈ hs) (hQ : Q (.lst ((nb hs ls h).map .int)) M) : spNear [webD hs ls, .int h] M (fun d M' => frz1 false d M' Q) E :=
  ⟨hs, ls, .int h, rfl, rfl, ho, lo, fun i e hi a ha => by cases e; show frz1 false (.ref a) _ Q; rw [frz1_up ha]; exact hQ, fun hb => by simp [handB, hh] at hb⟩
class WZ1 (T : Tab) : Prop where
  h0 : lk2 T.mt .Web .neighbours = some spNear
@[simp] theorem wz10 {T : Tab} [h : WZ1 T] : lk2 T.mt .Web .neighbours = some spNear := h.h0
def spSteps : SpD := fun ds M Q E => ∃ hs ls left l R, ds = [webD hs ls, .int l, .lst (left.map .int), .int R] ∧ HandsOk hs ∧ LinesOk hs ls ∧ (∀ z ∈ left, z ∈ hs) ∧ l ∈ left ∧ left.length ≤ 12 ∧ 0 ≤ R ∧
  ∀ K s, Fin ls left l R K s → Q (.dct false (sK K s)) M
theorem in_steps {M2 : Mm} {a : Addr} {K : List Int} {s : Int → Nat} {u : Int} {Q : Bool → Prop} (ca : M2 a = some (.dct false (sK K s))) : inQ (.int u) (.ref a) M2 Q = Q (decide (u ∈ K)) := by
  have e : dctD M2 (.ref a) = some (false, sK K s) := by simp [dctD, ca]
  unfold inQ
  rw [e]
  show cnd (keyOk false (.int u) = true) (Q (getK (sK K s) (.int u)).isSome) = _
  by_cases h : u ∈ K
  · rw [sK_get h]; simp [h, keyOk, cnd]
  · rw [sK_no h]; simp [h, keyOk, cnd]
theorem in_stepsD {M2 : Mm} {K : List Int} {s : Int → Nat} {u : Int} {Q : Bool → Prop} : inQ (.int u) (.dct false (sK K s)) M2 Q = Q (decide (u ∈ K)) := by
  have e : dctD M2 (.dct false (sK K s)) = some (false, sK K s) := rfl
  unfold inQ
  rw [e]
  show cnd (keyOk false (.int u) = true) (Q (getK (sK K s) (.int u)).isSome) = _
  by_cases h : u ∈ K
  · rw [sK_get h]; simp [h, keyOk, cnd]
  · rw [sK_no h]; simp [h, keyOk, cnd]
abbrev es (hs : List Int) (ls : List (Int × Int)) (l : Int) (left : List Int) (R : Int) (a : Addr) (v5 v6 v7 v8 : Option D) : Env := [some (webD hs ls), some (.int l), some (.lst (left.map .int)), some (.int R), some (.ref a), v5, v6, v7, v8]
/-- what stands within a round of the walk -/
structure ST (ls : List (Int × Int)) (left : List Int) (l : Int) (R : Int) (dep : Nat) (P rest bh : List Int) (s : Int → Nat) : Prop where
  b : BF ls left l P (rest ++ bh) s
  now : ∀ z ∈ rest, s z = dep
  nxt : ∀ z ∈ bh, s z = dep + 1
  bd : ∀ z ∈ P ++ (rest ++ bh), (s z : Int) ≤ R
section
variable {T : Tab} [hT : WZ1 T] {M : Mm} {Q : QD} {E : QX} {hs : List Int} {ls : List (Int × Int)} {left : List Int} {l R : Int} {a : Addr}
def sb0 : List SS := match b_steps_from with
  | [_, _, .whl _ b, _] => b
  | _ => []
def sb1 : List SS := match sb0 with
  | [_, .fors _ _ _ b, _] => b
  | _ => []
/-- the neighbours of one hand -/
theorem w_sb1 (ho : HandsOk hs) (lo : LinesOk hs ls) (hsub : ∀ z ∈ left, z ∈ hs) (h12 : left.length ≤ 12) {dep : Nat} (hR : (dep : Int) < R) {P rest bh : List Int} {y : Int} {s : Int → Nat} {v5 v8 : Option D} {b6 : Addr} {M2 : Mm} {K : KD}
    (ab : a ≠ b6) (na : M a = none) (nb6 : M b6 = none) (st : ST ls left l R dep P (y :: rest) bh s) (ca : M2 a = some (.dct false (sK (P ++ (y :: rest ++ bh)) s))) (cb : M2 b6 = some (.lst (bh.map .int))) (sb : Sub M M2) (ky : ∀ b, b ≠ a → b ≠ b6 → True)
    (hK : ∀ bh' s' v8 M3, ST ls left l R dep (P ++ [y]) rest bh' s' → M3 a = some (.dct false (sK ((P ++ [y]) ++ (rest ++ bh')) s')) → M3 b6 = some (.lst (bh'.map .int)) → Sub M M3 → (∀ b, b ≠ a → b ≠ b6 → M3 b = M2 b) → K.nx (es hs ls l left R a v5 (some (.ref b6)) (some (.int y)) v8) M3) :
    wSs T sb1 K (es hs ls l left R a v5 (some (.ref b6)) (some (.int y)) v8) M2 := by
  have yl : y ∈ left := st.b.lf y (by simp)
  have eK : P ++ (y :: rest ++ bh) = P ++ y :: (rest ++ bh) := rfl
  simp [sb1, sb0, b_steps_from, varE, es, web_i]
  refine nei_use ho lo (hsub y yl) ?_
  refine forQ_start (items := (nb hs ls y).map .int) rfl ?_
  refine forQ_ind (fun xs env M3 => ∃ (q r' bh' : List Int) (s' : Int → Nat) (v8 : Option D), nb hs ls y = q ++ r' ∧ xs = r'.map .int ∧ BM ls left l P y (rest ++ bh') q s' ∧ s' y = dep ∧ (∀ z ∈ rest, s' z = dep) ∧ (∀ z ∈ bh', s' z = dep + 1) ∧ (∀ z ∈ P ++ y :: (rest ++ bh'), (s' z : Int) ≤ R) ∧
      M3 a = some (.dct false (sK (P ++ y :: (rest ++ bh')) s')) ∧ M3 b6 = some (.lst (bh'.map .int)) ∧ Sub M M3 ∧ (∀ b, b ≠ a → b ≠ b6 → M3 b = M2 b) ∧ env = es hs ls l left R a v5 (some (.ref b6)) (some (.int y)) v8)
    ⟨[], nb hs ls y, bh, s, v8, rfl, rfl, BM.start st.b, st.now y (by simp), fun z hz => st.now z (by simp [hz]), st.nxt, st.bd, ca, cb, sb, fun _ _ _ => rfl, rfl⟩ ?_ ?_ ?_
  · intros; rfl
  · rintro x xs _ M3 F ⟨q, r', bh', s', v8, e, e2, bm, ey, en, ex, bd, ca, cb, sb, off, rfl⟩ hF
    cases r' with
    | nil => cases e2
    | cons u r' =>
      cases e2
      have hu : u ∈ nb hs ls y := by rw [e]; simp
      obtain ⟨_, hj⟩ := mem_nbi.mp hu
      have kl := nodup_le bm.nd bm.lf
      have gy : getK (sK (P ++ y :: (rest ++ bh')) s') (.int y) = some (.int (s' y : Int)) := sK_get (by simp)
      have bl : bh'.length ≤ 12 := by simp at kl; omega
      refine ⟨_, rfl, ?_⟩
      simp [varE, es]
      by_cases hl : u ∈ left
      · simp [hl]
        rw [in_steps ca]
        by_cases hk : u ∈ P ++ y :: (rest ++ bh')
        · rw [decide_eq_true hk]
          simp
          exact hF _ _ ⟨q ++ [u], r', bh', s', _, by rw [e]; simp, rfl, bm.old fun _ => hk, ey, en, ex, bd, ca, cb, sb, off, rfl⟩
        · rw [decide_eq_false hk]
          have e3 : P ++ y :: (rest ++ bh') ++ [u] = P ++ y :: (rest ++ (bh' ++ [u])) := by simp
          have old : ∀ z ∈ P ++ y :: (rest ++ bh'), sset s' u (s' y + 1) z = s' z := fun z hz => if_neg fun (q : z = u) => hk (by rw [← q]; exact hz)
          simp [ca, gy]
          refine ⟨rfl, rfl, lt_size (by rw [sK_len]; omega), ?_⟩
          have e4 : ((s' y : Int) + 1) = ((s' y + 1 : Nat) : Int) := by omega
          rw [e4, sK_add hk, e3]
          have nba : b6 ≠ a := Ne.symm ab
          simp [up_ne nba, cb]
          refine ⟨lt_size (by omega), ?_⟩
          have bm' := bm.add hl hk hj
          rw [List.append_assoc] at bm'
          refine hF _ _ ⟨q ++ [u], r', bh' ++ [u], sset s' u (s' y + 1), _, by rw [e]; simp, rfl, bm', by rw [old y (by simp)]; exact ey, fun z hz => by rw [old z (by simp [hz])]; exact en z hz, fun z hz => ?_, fun z hz => ?_, ?_, ?_, ?_, ?_, rfl⟩
          · rcases List.mem_append.mp hz with hz | hz
            · rw [old z (by simp [hz])]; exact ex z hz
            · simp at hz; subst hz; unfold sset; rw [if_pos rfl, ey]
          · rw [← e3] at hz
            rcases List.mem_append.mp hz with hz | hz
            · rw [old z hz]; exact bd z hz
            · simp at hz; subst hz; unfold sset; rw [if_pos rfl, ey]; omega
          · rw [up_ne ab, up_same]
          · rw [up_same]; simp
          · exact (sb.up na).up nb6
          · intro b h1 h2
            rw [up_ne h2, up_ne h1]
            exact off b h1 h2
      · simp [hl]
        exact hF _ _ ⟨q ++ [u], r', bh', s', _, by rw [e]; simp, rfl, bm.old fun h => absurd h hl, ey, en, ex, bd, ca, cb, sb, off, rfl⟩
  · rintro _ M3 ⟨q, r', bh', s', v8, e, e2, bm, ey, en, ex, bd, ca, cb, sb, off, rfl⟩
    have : r' = [] := by cases r' with
      | nil => rfl
      | cons _ _ => cases e2
    subst this
    rw [List.append_nil] at e
    have eq1 : P ++ y :: (rest ++ bh') = (P ++ [y]) ++ (rest ++ bh') := by simp
    refine hK bh' s' v8 M3 ⟨bm.done fun z zl j => by rw [← e]; exact mem_nbi.mpr ⟨hsub z zl, j⟩, en, ex, by rw [← eq1]; exact bd⟩ (by rw [← eq1]; exact ca) cb sb off
theorem steps_split : b_steps_from = b_steps_from.take 2 ++ [.whl (.bop true [(.cmp .NotEq (.var 5) (.lst false [])), (.cmp .Lt (.ix (.var 4) (.ix (.var 5) (.int 0))) (.var 3))]) sb0, .ret (.var 4)] := rfl
theorem sb0_split : sb0 = [.asg 6 (.lst true []), .fors (.nm 7) .seq [(.var 5)] sb1, .asg 5 (.var 6)] := rfl
/-- one round -/
theorem w_sb0 (ho : HandsOk hs) (lo : LinesOk hs ls) (hsub : ∀ z ∈ left, z ∈ hs) (h12 : left.length ≤ 12) {dep : Nat} (hR : (dep : Int) < R) {P row : List Int} {s : Int → Nat} {d5 : D} {v6 v7 v8 : Option D} {M2 : Mm} {K : KD}
    (na : M a = none) (st : ST ls left l R dep P row [] s) (ca : M2 a = some (.dct false (sK (P ++ row) s))) (a5 : Arg M2 d5 (row.map .int)) (d5a : d5 ≠ .ref a) (sb : Sub M M2)
    (hK : ∀ bh s' d5 v6 v7 v8 M3, ST ls left l R (dep + 1) (P ++ row) bh [] s' → M3 a = some (.dct false (sK ((P ++ row) ++ bh) s')) → Arg M3 d5 (bh.map .int) → d5 ≠ .ref a → Sub M M3 → K.nx (es hs ls l left R a (some d5) v6 v7 v8) M3) :
    wSs T sb0 K (es hs ls l left R a (some d5) v6 v7 v8) M2 := by
  rw [sb0_split]
  have body := fun {P rest bh : List Int} {y : Int} {s : Int → Nat} {v8 : Option D} {b6 : Addr} {M2 : Mm} {K : KD} => w_sb1 (T := T) (M := M) (K := K) (l := l) (a := a) (v5 := some d5) (P := P) (rest := rest) (bh := bh) (y := y) (s := s) (v8 := v8) (b6 := b6) (M2 := M2) ho lo hsub h12 hR
  simp only [es] at body ⊢
  generalize sb1 = sb1' at *
  simp [varE]
  intro b6 hb6
  have ab : a ≠ b6 := fun e => by rw [e, hb6] at ca; cases ca
  have nb6 : M b6 = none := sb.none hb6
  have db : d5 ≠ .ref b6 := fun e => by
    subst e
    rcases a5 with ⟨x, e, h⟩ | e
    · cases e; rw [hb6] at h; cases h
    · cases e
  have s1 : Sub M2 (up M2 b6 (.lst [])) := sub_up' hb6
  refine forQ_start (items := row.map .int) (a5.sub s1).f.seq ?_
  refine forQ_ind (fun xs env M3 => ∃ (p rest bh : List Int) (s' : Int → Nat) (v7 v8 : Option D), row = p ++ rest ∧ xs = rest.map .int ∧ ST ls left l R dep (P ++ p) rest bh s' ∧ M3 a = some (.dct false (sK ((P ++ p) ++ (rest ++ bh)) s')) ∧ M3 b6 = some (.lst (bh.map .int)) ∧ Sub M M3 ∧
      (∀ b, b ≠ a → b ≠ b6 → M3 b = M2 b) ∧ env = es hs ls l left R a (some d5) (some (.ref b6)) v7 v8)
    ⟨[], row, [], s, v7, v8, rfl, rfl, by rw [List.append_nil]; exact st, by rw [up_ne ab, List.append_nil, List.append_nil]; exact ca, up_same, sb.up nb6, fun b h1 h2 => up_ne h2, rfl⟩ ?_ ?_ ?_
  · rintro xs env M3 ⟨p, rest, bh, s', v7, v8, e, e2, st', ca', cb', sb', off, rfl⟩
    have : Arg M3 d5 (row.map .int) := by
      rcases a5 with ⟨x, e, h⟩ | e
      · subst e
        exact .inl ⟨x, rfl, by rw [off x (fun q => d5a (by rw [q])) (fun q => db (by rw [q]))]; exact h⟩
      · exact .inr e
    exact this.f.seq
  · rintro x xs _ M3 F ⟨p, rest, bh, s', v7, v8, e, e2, st', ca', cb', sb', off, rfl⟩ hF
    cases rest with
    | nil => cases e2
    | cons y rest =>
      cases e2
      refine ⟨_, rfl, ?_⟩
      refine body ab na nb6 st' ca' cb' sb' (fun _ _ _ => trivial) fun bh' s2 v8 M4 st2 ca2 cb2 sb2 off2 => ?_
      exact hF _ _ ⟨p ++ [y], rest, bh', s2, _, v8, by rw [e]; simp, rfl, by rw [← List.append_assoc]; exact st2, by rw [← List.append_assoc P p [y]]; exact ca2, cb2, sb2, fun b h1 h2 => (off2 b h1 h2).trans (off b h1 h2), rfl⟩
  · rintro _ M3 ⟨p, rest, bh, s', v7, v8, e, e2, st', ca', cb', sb', off, rfl⟩
    have : rest = [] := by cases rest with
      | nil => rfl
      | cons _ _ => cases e2
    subst this
    rw [List.append_nil] at e
    subst e
    simp [varE, es]
    refine hK bh s' _ _ _ _ M3 ⟨by rw [List.append_nil]; exact st'.b, st'.nxt, (fun z hz => nomatch hz), by rw [List.append_nil]; exact st'.bd⟩ ca' (.inl ⟨b6, rfl, cb'⟩) (fun q => by cases q; exact ab rfl) sb'
theorem w_steps : ∀ ds M Q E, spSteps ds M Q E → wSs T b_steps_from (fnK c Q E) (env0 N_steps_from.length ds) M := by
  rintro _ M Q E ⟨hs, ls, left, l, R, rfl, ho, lo, hsub, hl, h12, hR, hQ⟩
  rw [steps_split, wSs_app]
  have body := fun {dep : Nat} (hR : (dep : Int) < R) {P row : List Int} {s : Int → Nat} {d5 : D} {v6 v7 v8 : Option D} {M2 : Mm} {K : KD} {a : Addr} => w_sb0 (T := T) (M := M) (K := K) (l := l) (a := a) (P := P) (row := row) (s := s) (d5 := d5) (v6 := v6) (v7 := v7) (v8 := v8) (M2 := M2) ho lo hsub h12 hR
  simp only [es] at body
  generalize sb0 = sb0' at *
  simp [b_steps_from, N_steps_from, env0, varE]
  refine ⟨rfl, fun a ha => ?_⟩
  refine whQ_ind (fun n env M2 => ∃ (P row : List Int) (s : Int → Nat) (dep : Nat) (d5 : D) (v6 v7 v8 : Option D), left.length ≤ n + P.length ∧ ST ls left l R dep P row [] s ∧ M2 a = some (.dct false (sK (P ++ row) s)) ∧ Arg M2 d5 (row.map .int) ∧ d5 ≠ .ref a ∧ Sub M M2 ∧ env = es hs ls l left R a (some d5) v6 v7 v8)
    left.length ⟨[], [l], fun _ => 0, 0, _, _, _, _, by simp, ⟨BF.start hl, (fun z hz => rfl), (fun z hz => nomatch hz), fun z hz => hR⟩, up_same, .inr rfl, (fun q => nomatch q), sub_up' ha, rfl⟩ ?_
  rintro n _ M2 F ⟨P, row, s, dep, d5, v6, v7, v8, hn, st, ca, a5, d5a, sb, rfl⟩ hF
  have stb := st.b
  have bd := st.bd
  rw [List.append_nil] at stb bd
  simp [varE, es, eq_nil a5]
  cases row with
  | nil =>
    simp
    refine rt_dct ca sb ha ?_
    rw [List.append_nil]
    rw [List.append_nil] at bd
    exact hQ P s (stb.fin0 bd)
  | cons y r =>
    have gy : getK (sK (P ++ y :: r) s) (.int y) = some (.int (s y : Int)) := sK_get (by simp)
    have ey := st.now y (by simp)
    simp [a5.f.ix]
    simp [atI, ca, gy]
    refine ⟨rfl, ?_⟩
    by_cases hr : ((s y : Nat) : Int) < R
    · simp [hr]
      refine body (by rw [← ey]; exact hr) ha st ca a5 d5a sb fun bh s' d5 v6 v7 v8 M3 st' ca' a5' da sb' => ?_
      have hl1 : P.length + (r.length + 1) ≤ left.length := by have := nodup_le stb.nd stb.lf; simpa using this
      cases n with
      | zero => omega
      | succ m => exact hF m rfl _ _ ⟨P ++ y :: r, bh, s', dep + 1, d5, v6, v7, v8, by simp; omega, st', by exact ca', a5', da, sb', rfl⟩
    · simp [hr]
      refine rt_dct ca sb ha ?_
      exact hQ _ s (stb.fin1 (by omega) bd)
/-! ### the parent -/
theorem min_head {is : List Int} (h : is.Pairwise (· < ·)) : ∀ x ∈ is.head?, minI is = x := by
  induction is with
  | nil => intro x hx; cases hx
  | cons i r ih =>
    intro x hx
    cases hx
    rw [List.pairwise_cons] at h
    cases r with
    | nil => rfl
    | cons j r =>
      have e := ih h.2 j rfl
      show min i (minI (j :: r)) = i
      rw [e]
      have := h.1 j List.mem_cons_self
      omega
theorem mnd_head {is : List Int} (h : is.Pairwise (· < ·)) {M : Mm} {Q : QD} : mndQ false (.lst (is.map .int)) .non M Q = Q (oD is.head?) M := by
  show obn (some (is.map D.int)) (fun ds => obn (intsD ds) fun is => br is.isEmpty (Q .non M) (Q (.int (minI is)) M)) = _
  rw [obn_some', intsD_map, obn_some']
  cases is with
  | nil => simp [oD]
  | cons i r =>
    have := min_head h i rfl
    simp [oD, this]
def spParBy : SpD := fun ds M Q E => ∃ hs ls left l R K s z, ds = [webD hs ls, .dct false (sK K s), .int z] ∧ HandsOk hs ∧ LinesOk hs ls ∧ (∀ z ∈ left, z ∈ hs) ∧ Fin ls left l R K s ∧ z ∈ K ∧ Q (oD (pb hs ls left l R z)) M
theorem w_parby : ∀ ds M Q E, spParBy ds M Q E → wSs T b_parent_by (fnK c Q E) (env0 N_parent_by.length ds) M := by
  rintro _ M Q E ⟨hs, ls, left, l, R, K, s, z, rfl, ho, lo, hsub, fin, hz, hQ⟩
  have gz : getK (sK K s) (.int z) = some (.int (s z : Int)) := sK_get hz
  have srt : (nearer hs ls left l R z).Pairwise (· < ·) := (ho.2.2.1.filter _).filter _
  have nl : (nb hs ls z).length ≤ 1000000 := Nat.le_trans (List.length_filter_le _ _) (Nat.le_trans ho.2.1 (by decide))
  obtain ⟨wd, hwd⟩ : ∃ wd, wd = webD hs ls := ⟨_, rfl⟩
  simp [b_parent_by, N_parent_by, env0, varE, web_i]
  refine nei_use ho lo (hsub z (fin.lf z hz)) ?_
  refine compQ_start (items := (nb hs ls z).map .int) rfl ?_
  refine compQ_filters (nb hs ls z) .int .int (fun o => decide (o ∈ K ∧ s o + 1 = s z)) (Nat.le_trans nl (by decide)) rfl (fun o ho' => ⟨_, rfl, fun P hP => ?_, fun _ P hP => ?_⟩) ?_
  · simp [gz]
    show cnd (keyOk false (.int o) = true) _
    refine ⟨rfl, rfl, ?_⟩
    by_cases ho : o ∈ K
    · rw [sK_get ho]
      show eqQ (.int (s o : Int)) (.int ((s z : Int) - 1)) M _
      rw [eqQ_int]
      have e : ((s o : Int) == (s z : Int) - 1) = decide (o ∈ K ∧ s o + 1 = s z) := by
        by_cases h : s o + 1 = s z
        · rw [decide_eq_true ⟨ho, h⟩, beq_iff_eq]; omega
        · rw [decide_eq_false fun q => h q.2, beq_eq_false_iff_ne]; omega
      rw [e]
      exact hP
    · rw [sK_no ho]
      show eqQ .non (.int ((s z : Int) - 1)) M _
      have e : decide (o ∈ K ∧ s o + 1 = s z) = false := decide_eq_false fun h => ho h.1
      rw [e] at hP
      exact ⟨rfl, rfl, hP⟩
  · exact hP
  · rw [← fin.nearer hz]
    rw [mnd_head srt]
    exact rt_self hQ
end
end L3.WY
set_option maxRecDepth 100000
set_option maxHeartbeats 4000000
namespace L3.WY
open PySem L2 K01 RN EX
variable {c : Cfg}
/-! ### the way of clusters: the walk -/
noncomputable def clF (hs : List Int) (ls : List (Int × Int)) (R : Int) : Int → Option Int := fF hs ls R 12 hs
noncomputable def clB (hs : List Int) (ls : List (Int × Int)) (R : Int) : List (Int × Int) := brG (jn (clF hs ls R)) [] (srtL ls)
theorem cl_chain {hs : List Int} {ls : List (Int × Int)} {R : Int} (ho : HandsOk hs) (hR : 0 ≤ R) : ∀ z ∈ hs, ∃ L, Ch (clF hs ls R) z L ∧ L.getLast? = some (gF ls R 12 hs z) :=
  chains (F := clF hs ls R) hR 12 hs ho.2.1 (fun z hz => hz) fun z hz => rfl
theorem cl_ldr {hs : List Int} {ls : List (Int × Int)} {R : Int} (ho : HandsOk hs) (hR : 0 ≤ R) {z : Int} (hz : z ∈ hs) : ldr (clF hs ls R) z = gF ls R 12 hs z := by
  obtain ⟨L, h1, h2⟩ := cl_chain (ls := ls) ho hR z hz
  have := ldr_eq h1
  rw [h2] at this
  exact (Option.some.inj this).symm
structure Kp (hs D : List Int) : Prop where
  nd : D.Nodup
  mem : ∀ z, z ∈ D ↔ z ∈ hs
theorem Kp.ok {hs ks : List Int} {ls : List (Int × Int)} {R : Int} (ho : HandsOk hs) (k : Kp hs ks) : WOk ks (clF hs ls R) :=
  ⟨k.nd, fun h hh => fF_out 12 hs h fun q => hh ((k.mem h).mpr q), by have := nodup_le k.nd fun z hz => (k.mem z).mp hz; have := ho.2.1; omega⟩
def spClus : SpD := fun ds M Q E => ∃ hs ls R, ds = [webD hs ls, .int R] ∧ HandsOk hs ∧ LinesOk hs ls ∧ 0 ≤ R ∧ ∀ ks, Kp hs ks → Q (wayD ks (clF hs ls R) (clB hs ls R)) M
class WZ2 (T : Tab) : Prop where
  h0 : lk T.fn .steps_from = some spSteps
  h1 : lk T.fn .parent_by = some spParBy
  h2 : lk T.fn .clusters_joined = some spJoined
  h3 : lk2 T.mt .Web .hands = some spHands
  h4 : lk2 T.mt .Web .lines = some spLines
  h5 : lk T.cl .Way = some spWay
@[simp] theorem wz20 {T : Tab} [h : WZ2 T] : lk T.fn .steps_from = some spSteps := h.h0
@[simp] theorem wz21 {T : Tab} [h : WZ2 T] : lk T.fn .parent_by = some spParBy := h.h1
@[simp] theorem wz22 {T : Tab} [h : WZ2 T] : lk T.fn .clusters_joined = some spJoined := h.h2
@[simp] theorem wz23 {T : Tab} [h : WZ2 T] : lk2 T.mt .Web .hands = some spHands := h.h3
@[simp] theorem wz24 {T : Tab} [h : WZ2 T] : lk2 T.mt .Web .lines = some spLines := h.h4
@[simp] theorem wz25 {T : Tab} [h : WZ2 T] : lk T.cl .Way = some spWay := h.h5
theorem steps_use {hs : List Int} {ls : List (Int × Int)} {left : List Int} {l R : Int} {M : Mm} {Q : QD} {E : QX} (ho : HandsOk hs) (lo : LinesOk hs ls) (hsub : ∀ z ∈ left, z ∈ hs) (hl : l ∈ left) (h12 : left.length ≤ 12) (hR : 0 ≤ R)
    (hQ : ∀ K s, Fin ls left l R K s → Q (.dct false (sK K s)) M) : spSteps [webD hs ls, .int l, .lst (left.map .int), .int R] M (fun d M' => frz1 false d M' Q) E :=
  ⟨hs, ls, left, l, R, rfl, ho, lo, hsub, hl, h12, hR, fun K s h => hQ K s h⟩
theorem parby_use {hs : List Int} {ls : List (Int × Int)} {left : List Int} {l R z : Int} {K : List Int} {s : Int → Nat} {M : Mm} {Q : QD} {E : QX} (ho : HandsOk hs) (lo : LinesOk hs ls) (hsub : ∀ z ∈ left, z ∈ hs) (fin : Fin ls left l R K s) (hz : z ∈ K)
    (hQ : Q (oD (pb hs ls left l R z)) M) : spParBy [webD hs ls, .dct false (sK K s), .int z] M (fun d M' => frz1 false d M' Q) E :=
  ⟨hs, ls, left, l, R, K, s, z, rfl, ho, lo, hsub, fin, hz, frz_oD hQ⟩
def cb0 : List SS := match b_by_clusters with
  | [_, _, .whl _ b, _, _, _, _, _] => b
  | _ => []
def cb1 : List SS := match b_by_clusters with
  | [_, _, _, _, _, _, .fors _ _ _ b, _] => b
  | _ => []
theorem clus_split : b_by_clusters = b_by_clusters.take 2 ++ (.whl (.cmp .NotEq (.var 3) (.lst false [])) cb0 :: (b_by_clusters.drop 3)) := rfl
abbrev ec (hs : List Int) (ls : List (Int × Int)) (R : Int) (g : Addr) (left : List Int) (v4 v5 v6 v7 v8 v9 v10 : Option D) : Env := [some (webD hs ls), some (.int R), some (.ref g), some (.lst (left.map .int)), v4, v5, v6, v7, v8, v9, v10]
theorem at0 {α : Type} {d : α} {ds : List α} : atI (d :: ds) 0 = some d := by
  unfold atI ixN
  rw [if_pos (by omega), if_pos (by simp)]
  rfl
section
variable {T : Tab} [hT : WZ2 T] {M : Mm} {Q : QD} {E : QX} {hs : List Int} {ls : List (Int × Int)} {R : Int} {g : Addr}
/-- one cluster -/
theorem w_cb0 (ho : HandsOk hs) (lo : LinesOk hs ls) (hR : 0 ≤ R) {F : Int → Option Int} {n : Nat} {Dn left : List Int} {l : Int} {r : List Int} {v4 v5 v6 v7 v8 v9 v10 : Option D} {M2 : Mm} {K : KD}
    (hleft : left = l :: r) (hsub : ∀ z ∈ left, z ∈ hs) (h12 : left.length ≤ 12) (nd : (Dn ++ left).Nodup) (hl : Dn.length ≤ 12) (hF : ∀ z ∈ left, F z = fF hs ls R (n + 1) left z) (cg : M2 g = some (.dct false (pK Dn F))) (na : M g = none) (sb : Sub M M2)
    (hK : ∀ P s v8 v9 M3, Fin ls left l R P s → M3 g = some (.dct false (pK (Dn ++ P) F)) → Sub M M3 → K.nx (ec hs ls R g (left.filter fun x => !inK ls left l R x) v4 v5 v6 v7 v8 v9 v10) M3) :
    wSs T cb0 K (ec hs ls R g left v4 v5 v6 v7 v8 v9 v10) M2 := by
  have h13 : left.length ≤ 1000000 := Nat.le_trans h12 (by decide)
  have a0 : atI left 0 = some l := by rw [hleft]; exact at0
  have ll : l ∈ left := by rw [hleft]; exact List.mem_cons_self
  simp [cb0, b_by_clusters, varE, ec, a0]
  refine steps_use ho lo hsub ll h12 hR fun P s fin => ?_
  have pl : P.length ≤ left.length := nodup_le fin.nd fin.lf
  have ndl : left.Nodup := (List.nodup_append.mp nd).2.1
  have pF : ∀ z ∈ P, F z = pb hs ls left l R z := fun z hz => by
    rw [hF z (fin.lf z hz)]
    subst hleft
    exact if_pos (by rw [fin.inK]; exact decide_eq_true hz)
  refine forQ_start (items := P.map .int) (by simp [itD, keyL, sK, Function.comp_def]) ?_
  refine forQ_ind (fun xs env M3 => ∃ (p rest : List Int) (v9 : Option L3.D), P = p ++ rest ∧ xs = rest.map .int ∧ M3 g = some (.dct false (pK (Dn ++ p) F)) ∧ Sub M M3 ∧ env = ec hs ls R g left v4 v5 v6 v7 (some (.dct false (sK P s))) v9 v10)
    ⟨[], P, v9, rfl, rfl, by rw [List.append_nil]; exact cg, sb, rfl⟩ ?_ ?_ ?_
  · intros; simp [itD, keyL, sK, Function.comp_def]
  · rintro x xs _ M3 F2 ⟨p, rest, v9, e, e2, cg, sb, rfl⟩ hF2
    cases rest with
    | nil => cases e2
    | cons u rest =>
      cases e2
      have hu : u ∈ P := by rw [e]; simp
      have un : u ∉ Dn ++ p := fun q => by
        rcases List.mem_append.mp q with q | q
        · exact (List.nodup_append.mp nd).2.2 u q u (fin.lf u hu) rfl
        · have := fin.nd
          rw [e] at this
          exact (List.nodup_append.mp this).2.2 u q u (by simp) rfl
      refine ⟨_, rfl, ?_⟩
      simp [varE, ec]
      refine parby_use ho lo hsub fin hu ?_
      rw [← pF u hu]
      simp [cg]
      have lp : p.length ≤ P.length := by rw [e]; simp
      refine ⟨rfl, lt_size (by rw [pK_len]; simp; omega), ?_⟩
      rw [pK_new un]
      have eF : fset F u (F u) = F := by
        funext z
        unfold fset
        split
        · rename_i q; rw [q]
        · rfl
      rw [eF]
      exact hF2 _ _ ⟨p ++ [u], rest, _, by rw [e]; simp, rfl, by rw [up_same, List.append_assoc], sb.up na, rfl⟩
  · rintro _ M3 ⟨p, rest, v9, e, e2, cg, sb, rfl⟩
    have : rest = [] := by cases rest with
      | nil => rfl
      | cons _ _ => cases e2
    subst this
    rw [List.append_nil] at e
    subst e
    simp [varE, ec]
    refine compQ_start (items := left.map .int) rfl ?_
    refine compQ_filters left .int .int (fun z => !inK ls left l R z) (Nat.le_trans (m := 1000000) h13 (by decide)) rfl (fun z hz => ⟨_, rfl, fun P' hP => ?_, fun _ P' hP => ?_⟩) ?_
    · simp [in_stepsD]
      rw [fin.inK] at hP
      simpa using hP
    · exact hP
    · exact hK P s _ _ M3 fin cg sb
theorem cl_mem {p : Int × Int} (lo : LinesOk hs ls) (hp : p ∈ srtL ls) : p.1 ∈ hs ∧ p.2 ∈ hs := by
  have := lo.2.2 p (srt_mem.mp hp)
  exact ⟨this.1, this.2.1⟩
/-- all from the bridges on -/
theorem w_cb1 (ho : HandsOk hs) (lo : LinesOk hs ls) (hR : 0 ≤ R) {ks : List Int} (kp : Kp hs ks) {v3 v4 v5 v6 v7 v8 v9 v10 : Option D} {M2 : Mm} (cg : M2 g = some (.dct false (pK ks (clF hs ls R)))) (sb : Sub M M2)
    (hQ : Q (wayD ks (clF hs ls R) (clB hs ls R)) M) :
    wSs T (b_by_clusters.drop 3) (fnK c Q E) [some (webD hs ls), some (.int R), some (.ref g), v3, v4, v5, v6, v7, v8, v9, v10] M2 := by
  have ok := kp.ok (ls := ls) (R := R) ho
  have l2 := lo.2.1
  have l3 : (srtL ls).length ≤ 200 := by unfold srtL; rw [List.length_mergeSort]; exact l2
  have chn : ∀ z ∈ hs, ∃ L, Ch (clF hs ls R) z L := fun z hz => let ⟨L, h, _⟩ := cl_chain (ls := ls) ho hR z hz; ⟨L, h⟩
  obtain ⟨key, hkey⟩ : ∃ key, key = jn (clF hs ls R) := ⟨_, rfl⟩
  simp [b_by_clusters, varE, web_i]
  intro b4 h4 b5 h5
  have b45 : b4 ≠ b5 := fun e => by rw [← e, up_same] at h5; cases h5
  have h5' : M2 b5 = none := by rw [← h5]; exact (up_ne (Ne.symm b45)).symm
  have g4 : g ≠ b4 := fun e => by rw [e, h4] at cg; cases cg
  have g5 : g ≠ b5 := fun e => by rw [e, h5'] at cg; cases cg
  have n4 := sb.none h4
  have n5 := sb.none h5'
  refine way_use (ks := ks) (f := clF hs ls R) (bs := []) ?_ (.inr rfl) ?_
  · show dctD _ (.ref g) = _
    simp [dctD, up_ne g5, up_ne g4, cg]
  refine lines_use ?_
  refine forQ_start (items := (srtL ls).map prD) rfl ?_
  refine forQ_ind (fun xs env M3 => ∃ (p rest acc : List (Int × Int)) (v7 v10 : Option D), srtL ls = p ++ rest ∧ xs = rest.map prD ∧ acc.length ≤ p.length ∧ brG key acc rest = clB hs ls R ∧ M3 g = some (.dct false (pK ks (clF hs ls R))) ∧ M3 b4 = some (.lst (acc.map prD)) ∧ M3 b5 = some (.lst ((acc.map key).map prD)) ∧ Sub M M3 ∧
      env = [some (webD hs ls), some (.int R), some (.ref g), v3, some (.ref b4), some (.ref b5), some (wayD ks (clF hs ls R) []), v7, v8, v9, v10])
    ⟨[], srtL ls, [], v7, v10, rfl, rfl, by simp, by rw [hkey]; rfl, by rw [up_ne g5, up_ne g4]; exact cg, by rw [up_ne b45, up_same]; rfl, by rw [up_same]; rfl, (sb.up n4).up n5, rfl⟩ ?_ ?_ ?_
  · intros; rfl
  · rintro x xs _ M3 F ⟨p, rest, acc, v7, v10, e, e2, al, eb, cg, c4, c5, sb, rfl⟩ hF
    cases rest with
    | nil => cases e2
    | cons u rest =>
      cases e2
      have hu : u ∈ srtL ls := by rw [e]; simp
      obtain ⟨m1, m2⟩ := cl_mem lo hu
      have pl : p.length + (rest.length + 1) = (srtL ls).length := by rw [e]; simp
      refine ⟨_, rfl, ?_⟩
      simp [varE]
      refine joined_use ok (chn u.1 m1) (chn u.2 m2) ?_
      rw [← hkey]
      unfold brG at eb
      have iq : ∀ Q, inQ (prD (key u)) (.ref b5) M3 Q = Q (decide (key u ∈ acc.map key)) := fun Q => ArgF.prs (Arg.f (.inl ⟨b5, rfl, c5⟩)) _ _
      obtain ⟨k1, hk1⟩ : ∃ k1, k1 = prD (key u) := ⟨_, rfl⟩
      have i0 : ∀ M Q, ixD k1 (.int 0) M Q = Q (.int (key u).1) := fun M Q => by rw [hk1]; rfl
      have i1 : ∀ M Q, ixD k1 (.int 1) M Q = Q (.int (key u).2) := fun M Q => by rw [hk1]; rfl
      rw [← hk1] at iq ⊢
      simp [i0, i1]
      have skip : brG key acc rest = clB hs ls R → F [some (webD hs ls), some (.int R), some (.ref g), v3, some (.ref b4), some (.ref b5), some (wayD ks (clF hs ls R) []), some (prD u), v8, v9, some k1] M3 := fun eb =>
        hF _ _ ⟨p ++ [u], rest, acc, _, _, by rw [e]; simp, rfl, by simp; omega, eb, cg, c4, c5, sb, rfl⟩
      by_cases h1 : (key u).1 = (key u).2
      · rw [if_neg fun q => q.1 h1] at eb
        simp [h1]
        exact skip eb
      · have h1' : ((key u).1 == (key u).2) = false := by simpa using h1
        simp [h1', iq]
        by_cases h2 : key u ∈ acc.map key
        · rw [if_neg fun q => q.2 h2] at eb
          rw [decide_eq_true h2]
          simp
          exact skip eb
        · rw [if_pos ⟨h1, h2⟩] at eb
          rw [decide_eq_false h2]
          have nb4 : b4 ≠ b5 := b45
          simp [c5, c4, up_ne nb4]
          refine ⟨lt_size (by omega), lt_size (by omega), ?_⟩
          refine hF _ _ ⟨p ++ [u], rest, acc ++ [u], _, _, by rw [e]; simp, rfl, by simp; omega, eb, by rw [up_ne g4, up_ne g5]; exact cg, by rw [up_same]; simp, ?_, (sb.up n5).up n4, rfl⟩
          rw [up_ne (Ne.symm b45), up_same, hk1]
          simp
  · rintro _ M3 ⟨p, rest, acc, v7, v10, e, e2, al, eb, cg, c4, c5, sb, rfl⟩
    have : rest = [] := by cases rest with
      | nil => rfl
      | cons _ _ => cases e2
    subst this
    have eb : acc = clB hs ls R := eb
    simp [varE]
    refine way_use (ks := ks) (f := clF hs ls R) (bs := acc) ?_ (.inl ⟨b4, rfl, c4⟩) ?_
    · show dctD _ (.ref g) = _
      simp [dctD, cg]
    · rw [eb]
      exact ⟨_, M, Frz.sub sb, hQ⟩
theorem w_clus : ∀ ds M Q E, spClus ds M Q E → wSs T b_by_clusters (fnK c Q E) (env0 N_by_clusters.length ds) M := by
  rintro _ M Q E ⟨hs, ls, R, rfl, ho, lo, hR, hQ⟩
  have one := fun {n : Nat} {Dn left : List Int} {l : Int} {r : List Int} {v4 v5 v6 v7 v8 v9 v10 : Option D} {M2 : Mm} {K : KD} {g : Addr} => w_cb0 (T := T) (M := M) (F := clF hs ls R) (g := g) (K := K) (n := n) (Dn := Dn) (left := left) (l := l) (r := r) (v4 := v4) (v5 := v5) (v6 := v6) (v7 := v7) (v8 := v8) (v9 := v9) (v10 := v10) (M2 := M2) ho lo hR
  have end' := fun {ks : List Int} {v3 v4 v5 v6 v7 v8 v9 v10 : Option D} {M2 : Mm} {g : Addr} kp => w_cb1 (T := T) (c := c) (E := E) (M := M) (Q := Q) (ls := ls) (R := R) (g := g) (ks := ks) (v3 := v3) (v4 := v4) (v5 := v5) (v6 := v6) (v7 := v7) (v8 := v8) (v9 := v9) (v10 := v10) (M2 := M2) ho lo hR kp
  rw [clus_split, wSs_app]
  simp only [ec] at one
  generalize b_by_clusters.drop 3 = b3 at *
  generalize cb0 = b0 at *
  simp [b_by_clusters, N_by_clusters, env0, varE, web_i]
  intro g hg
  refine hands_use' ?_
  refine whQ_ind (fun n env M2 => ∃ (Dn left : List Int) (v8 v9 : Option D), left.length ≤ n ∧ n ≤ 12 ∧ (Dn ++ left).Nodup ∧ (∀ z, z ∈ Dn ++ left ↔ z ∈ hs) ∧ (∀ z ∈ left, clF hs ls R z = fF hs ls R n left z) ∧ M2 g = some (.dct false (pK Dn (clF hs ls R))) ∧ Sub M M2 ∧ env = ec hs ls R g left none none none none v8 v9 none)
    12 ⟨[], hs, none, none, ho.2.1, Nat.le_refl _, (ho.2.2.1.imp fun h => Int.ne_of_lt h), fun z => by simp, fun z hz => rfl, up_same, sub_up' hg, rfl⟩ ?_
  rintro n _ M2 F ⟨Dn, left, v8, v9, hn, n12, nd, mem, hF', cg, sb, rfl⟩ hF
  simp [varE, ec, eq_nil (.inr rfl : Arg M2 (.lst (left.map .int)) _)]
  cases hleft : left with
  | nil =>
    subst hleft
    simp
    rw [List.append_nil] at nd
    exact end' ⟨nd, fun z => by have := mem z; simpa using this⟩ cg sb (hQ Dn ⟨nd, fun z => by have := mem z; simpa using this⟩)
  | cons l r =>
    cases n with
    | zero => rw [hleft] at hn; simp at hn
    | succ m =>
      rw [← hleft]
      have hne : left ≠ [] := by rw [hleft]; simp
      simp [hne]
      have sub : ∀ z ∈ left, z ∈ hs := fun z hz => (mem z).mp (List.mem_append_right _ hz)
      have dl : (Dn ++ left).length ≤ hs.length := nodup_le nd fun z hz => (mem z).mp hz
      have h12 := ho.2.1
      rw [List.length_append] at dl
      refine one hleft sub (by omega) nd (by omega) hF' cg hg sb fun P s v8 v9 M3 fin cg3 sb3 => ?_
      have hk : ∀ x, inK ls left l R x = decide (x ∈ P) := fin.inK
      refine hF m rfl _ _ ⟨Dn ++ P, left.filter fun x => !inK ls left l R x, v8, v9, ?_, by omega, ?_, fun z => ?_, fun z hz => ?_, cg3, sb3, rfl⟩
      · rw [hleft] at hn ⊢
        have := rest_len (ls := ls) (l := l) (r := r) hR
        simp at hn
        omega
      · rw [List.append_assoc]
        have n2 := List.nodup_append.mp nd
        refine List.nodup_append.mpr ⟨n2.1, List.nodup_append.mpr ⟨fin.nd, n2.2.1.filter _, fun x hx y hy e => ?_⟩, fun x hx y hy e => ?_⟩
        · subst e
          have := (List.mem_filter.mp hy).2
          rw [hk, decide_eq_true hx] at this
          cases this
        · subst e
          rcases List.mem_append.mp hy with hy | hy
          · exact n2.2.2 x hx x (fin.lf x hy) rfl
          · exact n2.2.2 x hx x (List.mem_filter.mp hy).1 rfl
      · rw [← mem z]
        simp only [List.mem_append, List.mem_filter, hk]
        constructor
        · rintro ((h | h) | h)
          · exact .inl h
          · exact .inr (fin.lf z h)
          · exact .inr h.1
        · rintro (h | h)
          · exact .inl (.inl h)
          · by_cases q : z ∈ P
            · exact .inl (.inr q)
            · exact .inr ⟨h, by simp [q]⟩
      · obtain ⟨h1, h2⟩ := List.mem_filter.mp hz
        rw [hF' z h1]
        subst hleft
        exact if_neg fun q => by rw [q] at h2; cases h2
/-! ### by neighbours, by tree -/
class WZ3 (T : Tab) : Prop where
  h0 : lk T.fn .by_clusters = some spClus
  h1 : lk T.gl .MOST_HANDS_ways = some (.int 12)
@[simp] theorem wz30 {T : Tab} [h : WZ3 T] : lk T.fn .by_clusters = some spClus := h.h0
@[simp] theorem wz31 {T : Tab} [h : WZ3 T] : lk T.gl .MOST_HANDS_ways = some (.int 12) := h.h1
end
theorem clus_use {hs : List Int} {ls : List (Int × Int)} {R : Int} {M : Mm} {Q : QD} {E : QX} (ho : HandsOk hs) (lo : LinesOk hs ls) (hR : 0 ≤ R) (hQ : ∀ ks, Kp hs ks → Q (wayD ks (clF hs ls R) (clB hs ls R)) M) : spClus [webD hs ls, .int R] M (fun d M' => frz1 false d M' Q) E :=
  ⟨hs, ls, R, rfl, ho, lo, hR, fun ks k => hQ ks k⟩
def spByN : SpD := fun ds M Q E => ∃ hs ls, ds = [webD hs ls] ∧ HandsOk hs ∧ LinesOk hs ls ∧ ∀ ks, Kp hs ks → Q (wayD ks (clF hs ls 0) (clB hs ls 0)) M
def spByT : SpD := fun ds M Q E => ∃ hs ls, ds = [webD hs ls] ∧ HandsOk hs ∧ LinesOk hs ls ∧ ∀ ks, Kp hs ks → Q (wayD ks (clF hs ls 12) (clB hs ls 12)) M
theorem w_byn {T : Tab} [hT : WZ3 T] : ∀ ds M Q E, spByN ds M Q E → wSs T b_by_neighbours (fnK c Q E) (env0 N_by_neighbours.length ds) M := by
  rintro _ M Q E ⟨hs, ls, rfl, ho, lo, hQ⟩
  simp [b_by_neighbours, N_by_neighbours, env0, varE]
  exact clus_use ho lo (by omega) fun ks k => rt_self (hQ ks k)
theorem w_byt {T : Tab} [hT : WZ3 T] : ∀ ds M Q E, spByT ds M Q E → wSs T b_by_tree (fnK c Q E) (env0 N_by_tree.length ds) M := by
  rintro _ M Q E ⟨hs, ls, rfl, ho, lo, hQ⟩
  simp [b_by_tree, N_by_tree, env0, varE]
  exact clus_use ho lo (by omega) fun ks k => rt_self (hQ ks k)
theorem byn_use {hs : List Int} {ls : List (Int × Int)} {M : Mm} {Q : QD} {E : QX} (ho : HandsOk hs) (lo : LinesOk hs ls) (hQ : ∀ ks, Kp hs ks → Q (wayD ks (clF hs ls 0) (clB hs ls 0)) M) : spByN [webD hs ls] M (fun d M' => frz1 false d M' Q) E :=
  ⟨hs, ls, rfl, ho, lo, fun ks k => hQ ks k⟩
theorem byt_use {hs : List Int} {ls : List (Int × Int)} {M : Mm} {Q : QD} {E : QX} (ho : HandsOk hs) (lo : LinesOk hs ls) (hQ : ∀ ks, Kp hs ks → Q (wayD ks (clF hs ls 12) (clB hs ls 12)) M) : spByT [webD hs ls] M (fun d M' => frz1 false d M' Q) E :=
  ⟨hs, ls, rfl, ho, lo, fun ks k => hQ ks k⟩
end L3.WY
set_option maxRecDepth 100000
set_option maxHeartbeats 4000000
namespace L3.WZ
open PySem L2 K01 RN
def N_are_hands : List PySem.Str := ["thing", "at", "hand"]
def b_are_hands : List SS := [
  .ifs (.bop false [(.not (.isi (.var 0) false [.bt "list"])), (.not (.chain .LtE .LtE (.int 1) (.bi false .len [(.var 0)]) (.gl .«MOST_HANDS_webs»)))]) [.ret (.bl false)] [],
  .ifs (.not (.bi false .all [(.comp false (.nm 2) .seq [(.var 0)] (.bl true) (.bop true [(.call false .«is_whole» [(.var 2)]), (.chain .LtE .LtE (.int 0) (.var 2) (.gl .«MOST_NUMBER»))]))])) [.ret (.bl false)] [],
  .ret (.bi false .all [(.comp false (.nm 1) .rng1 [(.bin .Sub (.bi false .len [(.var 0)]) (.int 1))] (.bl true) (.cmp .Lt (.ix (.var 0) (.var 1)) (.ix (.var 0) (.bin .Add (.var 1) (.int 1)))))])]
def P_are_hands : List PySem.Str := ["thing"]
theorem k_are_hands : okSs false none b_are_hands = true := by decide +kernel
/-! ### where both modules have a MOST_HANDS -/
variable {c : Cfg}
class TH (T : Tab) : Prop where
  h1 : lk T.gl .MOST_HANDS_webs = some (.int 12)
  h2 : lk T.gl .MOST_NUMBER = some (.int 99)
  h3 : lk T.fn .is_whole = some spWhole
@[simp] theorem th1 {T : Tab} [h : TH T] : lk T.gl .MOST_HANDS_webs = some (.int 12) := h.h1
@[simp] theorem th2 {T : Tab} [h : TH T] : lk T.gl .MOST_NUMBER = some (.int 99) := h.h2
@[simp] theorem th3 {T : Tab} [h : TH T] : lk T.fn .is_whole = some spWhole := h.h3
theorem w_hands {T : Tab} [hT : TH T] : ∀ ds M Q E, spHandsOk ds M Q E → wSs T b_are_hands (fnK c Q E) (env0 N_are_hands.length ds) M := by
  rintro _ M Q E ⟨d, hs, rfl, hA, ⟨h1, h2, h3, h4⟩, hQ⟩
  have hM := hA.f
  have l1 : (1 : Int) ≤ hs.length := by omega
  have l2 : (hs.length : Int) ≤ 12 := by omega
  have a1 : isA T M d [.bt "list"] = some true := by rw [hM.isa]; rfl
  have sz : (hs.map D.int).length ≤ sizeLine := small (by simp; omega)
  have sz2 : (rngL 0 (hs.length - 1)).length ≤ sizeLine := small (by simp [rngL]; omega)
  have it : itD .rng1 [.int ((hs.length : Int) - 1)] M = some (rngL 0 (hs.length - 1)) := by rw [itD_rng1 (by omega) (by omega)]; congr 2; omega
  simp [b_are_hands, N_are_hands, env0, varE, hM.seq, hM.len, a1, l1, l2]
  refine compQ_map (fun _ => .bl true) sz (?_) (fun x hx => ?_) ?_
  · exact hM.seq
  · obtain ⟨h, hh, rfl⟩ := List.mem_map.mp hx
    obtain ⟨g1, g2⟩ := h4 h hh
    refine ⟨_, rfl, fun P hP => hP, fun P hP => ?_⟩
    simp
    exact ⟨_, rfl, rfl, by simp [wholeB, g1, g2]; exact hP⟩
  · simp [boolsD_all, hM.len, it]
    refine compQ_map (fun _ => .bl true) sz2 ?_ (fun x hx => ?_) ?_
    · exact it
    · obtain ⟨i, hi, rfl⟩ := mem_rng hx
      have i1 : i < hs.length := by omega
      have i2 : i + 1 < hs.length := by omega
      have e1 := atI_of i1
      have e2 := atI_of i2
      have e3 : hs[i] < hs[i + 1] := List.pairwise_iff_getElem.mp h3 i (i + 1) i1 i2 (by omega)
      refine ⟨_, rfl, fun P hP => hP, fun P hP => ?_⟩
      simp at e1 e2
      simp [hM.ix, e1, e2, e3]
      exact hP
    · simp [boolsD_all]
      exact rt_self hQ
end L3.WZ
set_option maxRecDepth 100000
set_option maxHeartbeats 4000000
namespace L3.K26
open PySem L2 WZ
open K01 hiding b_are_hands N_are_hands P_are_hands k_are_hands
open WY hiding b_are_lines N_are_lines P_are_lines k_are_lines
open RN hiding b__law_lines N__law_lines P__law_lines k__law_lines
def N__law_lines : List PySem.Str := ["_law_xs", "_law_hands_here", "_law_way_here", "_law_found", "_law_j", "_law_at", "_law_k", "_law_near_here", "_law_draw"]
abbrev b__law_lines := RN.b__law_lines
abbrev P__law_lines := RN.P__law_lines
theorem k__law_lines : okSs false none b__law_lines = true := RN.k__law_lines
def N__law_steps : List PySem.Str := ["_law_lines_here", "_law_left", "_law_leader", "_law_reach", "_law_steps_here", "_law_row", "_law_hand", "_law_other"]
def b__law_steps : List SS := [
  .asg 4 (.dct1 true (.var 2) (.int 0)),
  .asg 5 (.lst true [(.var 2)]),
  .whl (.cmp .NotEq (.var 5) (.lst false [])) [.asg 6 (.bm false (.var 5) .pop [(.int 0)]), .fors (.nm 7) .seq [(.call false .«_law_near» [(.var 0), (.var 6)])] [.ifs (.bop true [(.cmp .In (.var 7) (.var 1)), (.cmp .NotIn (.var 7) (.var 4)), (.cmp .Lt (.ix (.var 4) (.var 6)) (.var 3))]) [.asgI (.var 4) (.var 7) (.bin .Add (.ix (.var 4) (.var 6)) (.int 1)), .exp (.bm false (.var 5) .append [(.var 7)])] []]],
  .ret (.var 4)]
def P__law_steps : List PySem.Str := ["_law_lines_here", "_law_left", "_law_leader", "_law_reach"]
theorem k__law_steps : okSs false none b__law_steps = true := by decide +kernel
def N__law_way : List PySem.Str := ["_law_hands_here", "_law_lines_here", "_law_reach", "_law_left", "_law_parents", "_law_leads", "_law_found", "_law_one", "_law_other", "_law_steps_here", "_law_hand", "_law_both", "_law_near_here"]
def b__law_way : List SS := [
  .asg 3 (.bi false .list [(.var 0)]),
  .asg 4 (.dnew true false),
  .asg 5 (.dnew true false),
  .whl (.cmp .NotEq (.var 3) (.lst false [])) [.asg 9 (.call false .«_law_steps» [(.var 1), (.var 3), (.ix (.var 3) (.int 0)), (.var 2)]), .fors (.nm 10) .keys [(.var 9)] [.asg 12 (.comp false (.nm 7) .seq [(.call false .«_law_near» [(.var 1), (.var 10)])] (.bop true [(.cmp .In (.var 7) (.var 9)), (.cmp .Lt (.ix (.var 9) (.var 7)) (.ix (.var 9) (.var 10)))]) (.var 7)), .asgI (.var 4) (.var 10) (.mnD false (.var 12) .non), .asgI (.var 5) (.var 10) (.ix (.var 3) (.int 0))], .asg 3 (.comp false (.nm 10) .seq [(.var 3)] (.cmp .NotIn (.var 10) (.var 9)) (.var 10))],
  .asg 6 (.dnew true true),
  .fors (.tp [7, 8]) .seq [(.bi false .sorted [(.var 1)])] [.asg 11 (.tup [(.bi false .min [(.ix (.var 5) (.var 7)), (.ix (.var 5) (.var 8))]), (.bi false .max [(.ix (.var 5) (.var 7)), (.ix (.var 5) (.var 8))])]), .ifs (.cmp .NotEq (.ix (.var 11) (.int 0)) (.ix (.var 11) (.int 1))) [.exp (.bm false (.var 6) .setdefault [(.var 11), (.tup [(.var 7), (.var 8)])])] []],
  .ret (.tup [(.var 4), (.lrng false .svals [(.var 6)])])]
def P__law_way : List PySem.Str := ["_law_hands_here", "_law_lines_here", "_law_reach"]
theorem k__law_way : okSs false none b__law_way = true := by decide +kernel
def N__law_told : List PySem.Str := ["_law_way_here"]
def b__law_told : List SS := [
  .ret (.tup [(.meth false (.var 0) .«all_parents» []), (.meth false (.var 0) .«all_bridges» [])])]
def P__law_told : List PySem.Str := ["_law_way_here"]
theorem k__law_told : okSs false none b__law_told = true := by decide +kernel
def N__law_right : List PySem.Str := ["_law_hands_here", "_law_lines_here", "_law_reach", "_law_web", "_law_none", "_law_whole", "_law_turn", "_law_way_here", "_law_hand"]
def b__law_right : List SS := [
  .asg 3 (.mk false .«Web» [(.var 0), (.var 1)]),
  .asg 4 (.tup [(.bi false .dictP [(.comp false (.nm 8) .seq [(.var 0)] (.bl true) (.tup [(.var 8), .non]))]), (.bi false .sorted [(.var 1)])]),
  .asg 5 (.call false .«_law_way» [(.var 0), (.var 1), (.int 12)]),
  .fors (.nm 6) .rng1 [(.int 2)] [.ifs (.bop false [(.cmpV true (.call false .«_law_told» [(.call false .«by_neighbours» [(.var 3)])]) (.var 4)), (.cmpV true (.call false .«_law_told» [(.call false .«by_clusters» [(.var 3), (.int 0)])]) (.var 4))]) [.ret (.bl false)] [], .ifs (.bop false [(.cmpV true (.call false .«_law_told» [(.call false .«by_tree» [(.var 3)])]) (.var 5)), (.cmp .NotEq (.ix (.var 5) (.int 1)) (.lst false []))]) [.ret (.bl false)] [], .asg 7 (.call false .«by_clusters» [(.var 3), (.var 2)]), .ifs (.cmpV true (.call false .«_law_told» [(.var 7)]) (.call false .«_law_way» [(.var 0), (.var 1), (.var 2)])) [.ret (.bl false)] [], .exp (.bm false (.meth true (.var 7) .«all_parents» []) .clearK []), .exp (.bm false (.meth true (.var 7) .«all_bridges» []) .append [(.tup [(.int 0), (.int 0)])])],
  .ret (.bop true [(.cmpV false (.call false .«_law_told» [(.call false .«by_clusters» [(.var 3), (.int 12)])]) (.var 5)), (.cmpV false (.call false .«_law_told» [(.call false .«by_clusters» [(.var 3), (.bin .Pow (.int 10) (.int 19))])]) (.var 5))])]
def P__law_right : List PySem.Str := ["_law_hands_here", "_law_lines_here", "_law_reach"]
theorem k__law_right : okSs false none b__law_right = true := by decide +kernel
def N_law : List PySem.Str := ["_law_script", "_law_cell", "_law_xs", "_law_hands_here", "_law_lines_here"]
def b_law : List SS := [
  .fors (.nm 1) .seq [(.bin .Add (.lst false [(.call false .«_law_cell_at» [(.var 0), (.int 0)])]) (.sl (.var 0) (.int 1) (.int 6)))] [.asg 2 (.call true .«_law_draws» [(.var 1), (.int 90)]), .asg 3 (.call false .«_law_hands» [(.var 2), (.int 12)]), .asg 4 (.call false .«_law_lines» [(.var 2), (.var 3)]), .ifs (.not (.call false .«_law_right» [(.var 3), (.var 4), (.call false .«_law_take» [(.var 2), (.ix (.lst false [(.int 3), (.int 13)]) (.bin .FloorDiv (.call false .«_law_take» [(.var 2), (.int 3)]) (.int 2)))])])) [.ret (.bl false)] []],
  .ret (.bl true)]
def P_law : List PySem.Str := ["_law_script"]
theorem k_law : okSs false none b_law = true := by decide +kernel
def top (i : Nat) : Stmt := PySem.Challenge.pw_beatless_k26_neighbours_trees_clusters.main.body.getD i (.Pass ⟨0, 0, 0, 0⟩)
abbrev s_Way___init__ : Stmt := inClass (top 3) 0
theorem m_Way___init__ : mSs N_Way___init__ (defScope s_Way___init__) b_Way___init__ (defBody s_Way___init__) = true := by decide +kernel
theorem sc_Way___init__ : FnScope N_Way___init__ P_Way___init__ (defScope s_Way___init__) := ⟨rfl, rfl, rfl, by decide +kernel, rfl, by decide +kernel, by decide +kernel⟩
abbrev s_Way_all_parents : Stmt := inClass (top 3) 1
theorem m_Way_all_parents : mSs N_Way_all_parents (defScope s_Way_all_parents) b_Way_all_parents (defBody s_Way_all_parents) = true := by decide +kernel
theorem sc_Way_all_parents : FnScope N_Way_all_parents P_Way_all_parents (defScope s_Way_all_parents) := ⟨rfl, rfl, rfl, by decide +kernel, rfl, by decide +kernel, by decide +kernel⟩
abbrev s_Way_all_bridges : Stmt := inClass (top 3) 2
theorem m_Way_all_bridges : mSs N_Way_all_bridges (defScope s_Way_all_bridges) b_Way_all_bridges (defBody s_Way_all_bridges) = true := by decide +kernel
theorem sc_Way_all_bridges : FnScope N_Way_all_bridges P_Way_all_bridges (defScope s_Way_all_bridges) := ⟨rfl, rfl, rfl, by decide +kernel, rfl, by decide +kernel, by decide +kernel⟩
abbrev s_Way_parent_of : Stmt := inClass (top 3) 3
theorem m_Way_parent_of : mSs N_Way_parent_of (defScope s_Way_parent_of) b_Way_parent_of (defBody s_Way_parent_of) = true := by decide +kernel
theorem sc_Way_parent_of : FnScope N_Way_parent_of P_Way_parent_of (defScope s_Way_parent_of) := ⟨rfl, rfl, rfl, by decide +kernel, rfl, by decide +kernel, by decide +kernel⟩
abbrev s_Way_up_from : Stmt := inClass (top 3) 4
theorem m_Way_up_from : mSs N_Way_up_from (defScope s_Way_up_from) b_Way_up_from (defBody s_Way_up_from) = true := by decide +kernel
theorem sc_Way_up_from : FnScope N_Way_up_from P_Way_up_from (defScope s_Way_up_from) := ⟨rfl, rfl, rfl, by decide +kernel, rfl, by decide +kernel, by decide +kernel⟩
abbrev s_Way_leader : Stmt := inClass (top 3) 5
theorem m_Way_leader : mSs N_Way_leader (defScope s_Way_leader) b_Way_leader (defBody s_Way_leader) = true := by decide +kernel
theorem sc_Way_leader : FnScope N_Way_leader P_Way_leader (defScope s_Way_leader) := ⟨rfl, rfl, rfl, by decide +kernel, rfl, by decide +kernel, by decide +kernel⟩
abbrev s_clusters_joined : Stmt := top 4
theorem m_clusters_joined : mSs N_clusters_joined (defScope s_clusters_joined) b_clusters_joined (defBody s_clusters_joined) = true := by decide +kernel
theorem sc_clusters_joined : FnScope N_clusters_joined P_clusters_joined (defScope s_clusters_joined) := ⟨rfl, rfl, rfl, by decide +kernel, rfl, by decide +kernel, by decide +kernel⟩
abbrev s_steps_from : Stmt := top 5
theorem m_steps_from : mSs N_steps_from (defScope s_steps_from) b_steps_from (defBody s_steps_from) = true := by decide +kernel
theorem sc_steps_from : FnScope N_steps_from P_steps_from (defScope s_steps_from) := ⟨rfl, rfl, rfl, by decide +kernel, rfl, by decide +kernel, by decide +kernel⟩
abbrev s_parent_by : Stmt := top 6
theorem m_parent_by : mSs N_parent_by (defScope s_parent_by) b_parent_by (defBody s_parent_by) = true := by decide +kernel
theorem sc_parent_by : FnScope N_parent_by P_parent_by (defScope s_parent_by) := ⟨rfl, rfl, rfl, by decide +kernel, rfl, by decide +kernel, by decide +kernel⟩
abbrev s_by_clusters : Stmt := top 7
theorem m_by_clusters : mSs N_by_clusters (defScope s_by_clusters) b_by_clusters (defBody s_by_clusters) = true := by decide +kernel
theorem sc_by_clusters : FnScope N_by_clusters P_by_clusters (defScope s_by_clusters) := ⟨rfl, rfl, rfl, by decide +kernel, rfl, by decide +kernel, by decide +kernel⟩
abbrev s_by_neighbours : Stmt := top 8
theorem m_by_neighbours : mSs N_by_neighbours (defScope s_by_neighbours) b_by_neighbours (defBody s_by_neighbours) = true := by decide +kernel
theorem sc_by_neighbours : FnScope N_by_neighbours P_by_neighbours (defScope s_by_neighbours) := ⟨rfl, rfl, rfl, by decide +kernel, rfl, by decide +kernel, by decide +kernel⟩
abbrev s_by_tree : Stmt := top 9
theorem m_by_tree : mSs N_by_tree (defScope s_by_tree) b_by_tree (defBody s_by_tree) = true := by decide +kernel
theorem sc_by_tree : FnScope N_by_tree P_by_tree (defScope s_by_tree) := ⟨rfl, rfl, rfl, by decide +kernel, rfl, by decide +kernel, by decide +kernel⟩
abbrev s_is_whole : Stmt := top 17
theorem m_is_whole : mSs N_is_whole (defScope s_is_whole) b_is_whole (defBody s_is_whole) = true := by decide +kernel
theorem sc_is_whole : FnScope N_is_whole P_is_whole (defScope s_is_whole) := ⟨rfl, rfl, rfl, by decide +kernel, rfl, by decide +kernel, by decide +kernel⟩
abbrev s_are_hands : Stmt := top 18
theorem m_are_hands : mSs N_are_hands (defScope s_are_hands) b_are_hands (defBody s_are_hands) = true := by decide +kernel
theorem sc_are_hands : FnScope N_are_hands P_are_hands (defScope s_are_hands) := ⟨rfl, rfl, rfl, by decide +kernel, rfl, by decide +kernel, by decide +kernel⟩
abbrev s_is_line : Stmt := top 19
theorem m_is_line : mSs N_is_line (defScope s_is_line) b_is_line (defBody s_is_line) = true := by decide +kernel
theorem sc_is_line : FnScope N_is_line P_is_line (defScope s_is_line) := ⟨rfl, rfl, rfl, by decide +kernel, rfl, by decide +kernel, by decide +kernel⟩
abbrev s_are_lines : Stmt := top 20
theorem m_are_lines : mSs N_are_lines (defScope s_are_lines) b_are_lines (defBody s_are_lines) = true := by decide +kernel
theorem sc_are_lines : FnScope N_are_lines P_are_lines (defScope s_are_lines) := ⟨rfl, rfl, rfl, by decide +kernel, rfl, by decide +kernel, by decide +kernel⟩
abbrev s_Web___init__ : Stmt := inClass (top 21) 0
theorem m_Web___init__ : mSs N_Web___init__ (defScope s_Web___init__) b_Web___init__ (defBody s_Web___init__) = true := by decide +kernel
theorem sc_Web___init__ : FnScope N_Web___init__ P_Web___init__ (defScope s_Web___init__) := ⟨rfl, rfl, rfl, by decide +kernel, rfl, by decide +kernel, by decide +kernel⟩
abbrev s_Web_hands : Stmt := inClass (top 21) 1
theorem m_Web_hands : mSs N_Web_hands (defScope s_Web_hands) b_Web_hands (defBody s_Web_hands) = true := by decide +kernel
theorem sc_Web_hands : FnScope N_Web_hands P_Web_hands (defScope s_Web_hands) := ⟨rfl, rfl, rfl, by decide +kernel, rfl, by decide +kernel, by decide +kernel⟩
abbrev s_Web_lines : Stmt := inClass (top 21) 2
theorem m_Web_lines : mSs N_Web_lines (defScope s_Web_lines) b_Web_lines (defBody s_Web_lines) = true := by decide +kernel
theorem sc_Web_lines : FnScope N_Web_lines P_Web_lines (defScope s_Web_lines) := ⟨rfl, rfl, rfl, by decide +kernel, rfl, by decide +kernel, by decide +kernel⟩
abbrev s_Web_has_hand : Stmt := inClass (top 21) 3
theorem m_Web_has_hand : mSs N_Web_has_hand (defScope s_Web_has_hand) b_Web_has_hand (defBody s_Web_has_hand) = true := by decide +kernel
theorem sc_Web_has_hand : FnScope N_Web_has_hand P_Web_has_hand (defScope s_Web_has_hand) := ⟨rfl, rfl, rfl, by decide +kernel, rfl, by decide +kernel, by decide +kernel⟩
abbrev s_Web_neighbours : Stmt := inClass (top 21) 5
theorem m_Web_neighbours : mSs N_Web_neighbours (defScope s_Web_neighbours) b_Web_neighbours (defBody s_Web_neighbours) = true := by decide +kernel
theorem sc_Web_neighbours : FnScope N_Web_neighbours P_Web_neighbours (defScope s_Web_neighbours) := ⟨rfl, rfl, rfl, by decide +kernel, rfl, by decide +kernel, by decide +kernel⟩
abbrev s__law_cell_at : Stmt := top 23
theorem m__law_cell_at : mSs N__law_cell_at (defScope s__law_cell_at) b__law_cell_at (defBody s__law_cell_at) = true := by decide +kernel
theorem sc__law_cell_at : FnScope N__law_cell_at P__law_cell_at (defScope s__law_cell_at) := ⟨rfl, rfl, rfl, by decide +kernel, rfl, by decide +kernel, by decide +kernel⟩
abbrev s__law_draws : Stmt := top 24
theorem m__law_draws : mSs N__law_draws (defScope s__law_draws) b__law_draws (defBody s__law_draws) = true := by decide +kernel
theorem sc__law_draws : FnScope N__law_draws P__law_draws (defScope s__law_draws) := ⟨rfl, rfl, rfl, by decide +kernel, rfl, by decide +kernel, by decide +kernel⟩
abbrev s__law_take : Stmt := top 25
theorem m__law_take : mSs N__law_take (defScope s__law_take) b__law_take (defBody s__law_take) = true := by decide +kernel
theorem sc__law_take : FnScope N__law_take P__law_take (defScope s__law_take) := ⟨rfl, rfl, rfl, by decide +kernel, rfl, by decide +kernel, by decide +kernel⟩
abbrev s__law_hands : Stmt := top 26
theorem m__law_hands : mSs N__law_hands (defScope s__law_hands) b__law_hands (defBody s__law_hands) = true := by decide +kernel
theorem sc__law_hands : FnScope N__law_hands P__law_hands (defScope s__law_hands) := ⟨rfl, rfl, rfl, by decide +kernel, rfl, by decide +kernel, by decide +kernel⟩
abbrev s__law_lines : Stmt := top 27
theorem m__law_lines : mSs N__law_lines (defScope s__law_lines) b__law_lines (defBody s__law_lines) = true := by decide +kernel
theorem sc__law_lines : FnScope N__law_lines P__law_lines (defScope s__law_lines) := ⟨rfl, rfl, rfl, by decide +kernel, rfl, by decide +kernel, by decide +kernel⟩
abbrev s__law_near : Stmt := top 28
theorem m__law_near : mSs N__law_near (defScope s__law_near) b__law_near (defBody s__law_near) = true := by decide +kernel
theorem sc__law_near : FnScope N__law_near P__law_near (defScope s__law_near) := ⟨rfl, rfl, rfl, by decide +kernel, rfl, by decide +kernel, by decide +kernel⟩
abbrev s__law_steps : Stmt := top 29
theorem m__law_steps : mSs N__law_steps (defScope s__law_steps) b__law_steps (defBody s__law_steps) = true := by decide +kernel
theorem sc__law_steps : FnScope N__law_steps P__law_steps (defScope s__law_steps) := ⟨rfl, rfl, rfl, by decide +kernel, rfl, by decide +kernel, by decide +kernel⟩
abbrev s__law_way : Stmt := top 30
theorem m__law_way : mSs N__law_way (defScope s__law_way) b__law_way (defBody s__law_way) = true := by decide +kernel
theorem sc__law_way : FnScope N__law_way P__law_way (defScope s__law_way) := ⟨rfl, rfl, rfl, by decide +kernel, rfl, by decide +kernel, by decide +kernel⟩
abbrev s__law_told : Stmt := top 31
theorem m__law_told : mSs N__law_told (defScope s__law_told) b__law_told (defBody s__law_told) = true := by decide +kernel
theorem sc__law_told : FnScope N__law_told P__law_told (defScope s__law_told) := ⟨rfl, rfl, rfl, by decide +kernel, rfl, by decide +kernel, by decide +kernel⟩
abbrev s__law_right : Stmt := top 32
theorem m__law_right : mSs N__law_right (defScope s__law_right) b__law_right (defBody s__law_right) = true := by decide +kernel
theorem sc__law_right : FnScope N__law_right P__law_right (defScope s__law_right) := ⟨rfl, rfl, rfl, by decide +kernel, rfl, by decide +kernel, by decide +kernel⟩
abbrev s_law : Stmt := top 33
theorem m_law : mSs N_law (defScope s_law) b_law (defBody s_law) = true := by decide +kernel
theorem sc_law : FnScope N_law P_law (defScope s_law) := ⟨rfl, rfl, rfl, by decide +kernel, rfl, by decide +kernel, by decide +kernel⟩
end L3.K26
set_option maxRecDepth 100000
set_option maxHeartbeats 4000000
namespace L3.K26
open PySem L2 WZ EX
open K01 hiding b_are_hands N_are_hands P_are_hands k_are_hands
open WY hiding b_are_lines N_are_lines P_are_lines k_are_lines
open RN hiding b__law_lines N__law_lines P__law_lines k__law_lines
variable {c : Cfg}
/-! ### the law's own steps -/
class TS (T : Tab) : Prop where
  h0 : lk T.fn ._law_near = some spNearR
@[simp] theorem ts0 {T : Tab} [h : TS T] : lk T.fn ._law_near = some spNearR := h.h0
def spLSteps : SpD := fun ds M Q E => ∃ hs ls left l R, ds = [.lst (ls.map prD), .lst (left.map .int), .int l, .int R] ∧ HandsOk hs ∧ LinesOk hs ls ∧ (∀ z ∈ left, z ∈ hs) ∧ l ∈ left ∧ left.length ≤ 12 ∧ 0 ≤ R ∧
  ∀ K s, Fin ls left l R K s → Q (.dct false (sK K s)) M
abbrev el (ls : List (Int × Int)) (left : List Int) (l R : Int) (a b : Addr) (v6 v7 : Option D) : Env := [some (.lst (ls.map prD)), some (.lst (left.map .int)), some (.int l), some (.int R), some (.ref a), some (.ref b), v6, v7]
/-- hands that are to be taken: all ≤ R, or the steps are all told -/
def Alive (ls : List (Int × Int)) (left : List Int) (l R : Int) (P row : List Int) (s : Int → Nat) : Prop :=
  (BF ls left l P row s ∧ ∀ z ∈ P ++ row, (s z : Int) ≤ R) ∨ (Fin ls left l R (P ++ row) s ∧ ∀ z ∈ row, R ≤ (s z : Int))
theorem Alive.nd {ls : List (Int × Int)} {left : List Int} {l R : Int} {P row : List Int} {s : Int → Nat} (h : Alive ls left l R P row s) : (P ++ row).Nodup ∧ ∀ z ∈ P ++ row, z ∈ left := by
  rcases h with h | h
  · exact ⟨h.1.nd, h.1.lf⟩
  · exact ⟨h.1.nd, h.1.lf⟩
theorem Alive.end' {ls : List (Int × Int)} {left : List Int} {l R : Int} {P : List Int} {s : Int → Nat} (h : Alive ls left l R P [] s) : Fin ls left l R P s := by
  rcases h with h | h
  · have := h.2
    rw [List.append_nil] at this
    exact h.1.fin0 this
  · have := h.1
    rwa [List.append_nil] at this
theorem Alive.dead {ls : List (Int × Int)} {left : List Int} {l R : Int} {P row : List Int} {y : Int} {s : Int → Nat} (h : Alive ls left l R P (y :: row) s) (hy : ¬ (s y : Int) < R) : Alive ls left l R (P ++ [y]) row s := by
  have e : P ++ y :: row = P ++ [y] ++ row := by simp
  rcases h with h | h
  · refine .inr ⟨by rw [← e]; exact h.1.fin1 (by omega) h.2, fun z hz => ?_⟩
    have pw := (List.pairwise_append.mp h.1.srt).2.1
    rw [List.pairwise_cons] at pw
    have := pw.1 z hz
    omega
  · exact .inr ⟨by rw [← e]; exact h.1, fun z hz => h.2 z (List.mem_cons_of_mem _ hz)⟩
theorem Alive.live {ls : List (Int × Int)} {left : List Int} {l R : Int} {P row : List Int} {y : Int} {s : Int → Nat} (h : Alive ls left l R P (y :: row) s) (hy : (s y : Int) < R) : BF ls left l P (y :: row) s ∧ ∀ z ∈ P ++ y :: row, (s z : Int) ≤ R := by
  rcases h with h | h
  · exact h
  · have := h.2 y List.mem_cons_self
    omega
def lb0 : List SS := match b__law_steps with
  | [_, _, .whl _ b, _] => b
  | _ => []
theorem lsteps_split : b__law_steps = b__law_steps.take 2 ++ [.whl (.cmp .NotEq (.var 5) (.lst false [])) lb0, .ret (.var 4)] := rfl
section
variable {T : Tab} [hT : TS T] {M : Mm} {Q : QD} {E : QX} {hs : List Int} {ls : List (Int × Int)} {left : List Int} {l R : Int} {a b : Addr}
/-- one hand -/
theorem w_lb0 (ho : HandsOk hs) (lo : LinesOk hs ls) (hsub : ∀ z ∈ left, z ∈ hs) (h12 : left.length ≤ 12) {P row : List Int} {y : Int} {s : Int → Nat} {v6 v7 : Option D} {M2 : Mm} {K : KD}
    (ab : a ≠ b) (na : M a = none) (nb' : M b = none) (al : Alive ls left l R P (y :: row) s) (ca : M2 a = some (.dct false (sK (P ++ y :: row) s))) (cb : M2 b = some (.lst ((y :: row).map .int))) (sb : Sub M M2)
    (hK : ∀ row' s' v6 v7 M3, Alive ls left l R (P ++ [y]) row' s' → M3 a = some (.dct false (sK ((P ++ [y]) ++ row') s')) → M3 b = some (.lst (row'.map .int)) → Sub M M3 → K.nx (el ls left l R a b v6 v7) M3) :
    wSs T lb0 K (el ls left l R a b v6 v7) M2 := by
  have eK : ∀ row : List Int, P ++ y :: row = (P ++ [y]) ++ row := fun row => by simp
  have yl : y ∈ left := al.nd.2 y (by simp)
  have kl := nodup_le al.nd.1 al.nd.2
  have rl : row.length ≤ 12 := by simp at kl; omega
  simp [lb0, b__law_steps, varE, el]
  have i0 : ixN (row.length + 1) 0 = some 0 := by
    unfold ixN
    rw [if_pos (by omega), if_pos (by omega)]
    rfl
  simp [bmD, celL, cb, List.map_cons, i0]
  have sb1 : Sub M (up M2 b (.lst (row.map .int))) := fun z k e => by
    have zb : z ≠ b := fun q => by rw [q, nb'] at e; cases e
    rw [up_ne zb]
    exact sb z k e
  have ca1 : up M2 b (.lst (row.map .int)) a = some (.dct false (sK (P ++ y :: row) s)) := by rw [up_ne ab]; exact ca
  have cb1 : up M2 b (.lst (row.map .int)) b = some (.lst (row.map .int)) := up_same
  generalize up M2 b (.lst (row.map .int)) = M3 at *
  refine nearR_use ho lo ?_
  refine forQ_start (items := (nb hs ls y).map .int) rfl ?_
  by_cases hy : (s y : Int) < R
  · obtain ⟨bf, bd⟩ := al.live hy
    refine forQ_ind (fun xs env M4 => ∃ (q r' row' : List Int) (s' : Int → Nat) (v7 : Option D), nb hs ls y = q ++ r' ∧ xs = r'.map .int ∧ BM ls left l P y row' q s' ∧ s' y = s y ∧ (∀ z ∈ P ++ y :: row', (s' z : Int) ≤ R) ∧
        M4 a = some (.dct false (sK (P ++ y :: row') s')) ∧ M4 b = some (.lst (row'.map .int)) ∧ Sub M M4 ∧ env = el ls left l R a b (some (.int y)) v7)
      ⟨[], nb hs ls y, row, s, v7, rfl, rfl, BM.start bf, rfl, bd, ca1, cb1, sb1, rfl⟩ ?_ ?_ ?_
    · intros; rfl
    · rintro x xs _ M4 F ⟨q, r', row', s', v7, e, e2, bm, ey, bd, ca, cb, sb, rfl⟩ hF
      cases r' with
      | nil => cases e2
      | cons u r' =>
        cases e2
        have hu : u ∈ nb hs ls y := by rw [e]; simp
        obtain ⟨_, hj⟩ := mem_nbi.mp hu
        have kl := nodup_le bm.nd bm.lf
        have gy : getK (sK (P ++ y :: row') s') (.int y) = some (.int (s' y : Int)) := sK_get (by simp)
        have bl : row'.length ≤ 12 := by simp at kl; omega
        refine ⟨_, rfl, ?_⟩
        simp [varE, el]
        by_cases hl : u ∈ left
        · simp [hl]
          rw [in_steps ca]
          by_cases hk : u ∈ P ++ y :: row'
          · rw [decide_eq_true hk]
            simp
            exact hF _ _ ⟨q ++ [u], r', row', s', _, by rw [e]; simp, rfl, bm.old fun _ => hk, ey, bd, ca, cb, sb, rfl⟩
          · rw [decide_eq_false hk]
            have old : ∀ z ∈ P ++ y :: row', sset s' u (s' y + 1) z = s' z := fun z hz => if_neg fun (q : z = u) => hk (by rw [← q]; exact hz)
            have hy' : (s' y : Int) < R := by rw [ey]; exact hy
            simp [ca, gy, hy']
            refine ⟨rfl, rfl, rfl, lt_size (by rw [sK_len]; omega), ?_⟩
            have e4 : ((s' y : Int) + 1) = ((s' y + 1 : Nat) : Int) := by omega
            rw [e4, sK_add hk]
            have nba : b ≠ a := Ne.symm ab
            simp [up_ne nba, cb]
            refine ⟨lt_size (by omega), ?_⟩
            have bm' := bm.add hl hk hj
            refine hF _ _ ⟨q ++ [u], r', row' ++ [u], sset s' u (s' y + 1), _, by rw [e]; simp, rfl, bm', by rw [old y (by simp)]; exact ey, fun z hz => ?_, ?_, ?_, ?_, rfl⟩
            · have e3 : P ++ y :: (row' ++ [u]) = P ++ y :: row' ++ [u] := by simp
              rw [e3] at hz
              rcases List.mem_append.mp hz with hz | hz
              · rw [old z hz]; exact bd z hz
              · simp at hz; subst hz; unfold sset; rw [if_pos rfl]; omega
            · rw [up_ne ab, up_same]
            · rw [up_same]; simp
            · exact (sb.up na).up nb'
        · simp [hl]
          exact hF _ _ ⟨q ++ [u], r', row', s', _, by rw [e]; simp, rfl, bm.old fun h => absurd h hl, ey, bd, ca, cb, sb, rfl⟩
    · rintro _ M4 ⟨q, r', row', s', v7, e, e2, bm, ey, bd, ca, cb, sb, rfl⟩
      have : r' = [] := by cases r' with
        | nil => rfl
        | cons _ _ => cases e2
      subst this
      rw [List.append_nil] at e
      refine hK row' s' _ _ M4 (.inl ⟨bm.done fun z zl j => by rw [← e]; exact mem_nbi.mpr ⟨hsub z zl, j⟩, by rw [← eK]; exact bd⟩) (by rw [← eK]; exact ca) cb sb
  · refine forQ_ind (fun xs env M4 => ∃ (r' : List Int) (v7 : Option D), xs = r'.map .int ∧ M4 = M3 ∧ env = el ls left l R a b (some (.int y)) v7) ⟨nb hs ls y, v7, rfl, rfl, rfl⟩ ?_ ?_ ?_
    · intros; rfl
    · rintro x xs _ _ F ⟨r', v7, e2, rfl, rfl⟩ hF
      cases r' with
      | nil => cases e2
      | cons u r' =>
        cases e2
        have gy : getK (sK (P ++ y :: row) s) (.int y) = some (.int (s y : Int)) := sK_get (by simp)
        have go := hF _ _ ⟨r', some (.int u), rfl, rfl, rfl⟩
        refine ⟨_, rfl, ?_⟩
        simp [varE, el]
        by_cases hl : u ∈ left
        · simp [hl]
          rw [in_steps ca1]
          by_cases hk : u ∈ P ++ y :: row
          · rw [decide_eq_true hk]
            simp
            exact go
          · rw [decide_eq_false hk]
            simp [ca1, gy, hy]
            exact ⟨rfl, go⟩
        · simp [hl]
          exact go
    · rintro _ _ ⟨r', v7, e2, rfl, rfl⟩
      refine hK row s _ _ _ (al.dead hy) (by rw [← eK]; exact ca1) cb1 sb1
theorem w_lsteps : ∀ ds M Q E, spLSteps ds M Q E → wSs T b__law_steps (fnK c Q E) (env0 N__law_steps.length ds) M := by
  rintro _ M Q E ⟨hs, ls, left, l, R, rfl, ho, lo, hsub, hl, h12, hR, hQ⟩
  rw [lsteps_split, wSs_app]
  have body := fun {P row : List Int} {y : Int} {s : Int → Nat} {v6 v7 : Option D} {M2 : Mm} {K : KD} {a b : Addr} => w_lb0 (T := T) (M := M) (K := K) (l := l) (R := R) (a := a) (b := b) (P := P) (row := row) (y := y) (s := s) (v6 := v6) (v7 := v7) (M2 := M2) ho lo hsub h12
  simp only [el] at body
  generalize lb0 = b0 at *
  simp [b__law_steps, N__law_steps, env0, varE]
  refine ⟨rfl, fun a ha b hb => ?_⟩
  have ab : a ≠ b := fun e => by rw [e, up_same] at hb; cases hb
  have nb' : M b = none := by rw [← hb]; exact (up_ne (Ne.symm ab)).symm
  refine whQ_ind (fun n env M2 => ∃ (P row : List Int) (s : Int → Nat) (v6 v7 : Option D), left.length ≤ n + P.length ∧ Alive ls left l R P row s ∧ M2 a = some (.dct false (sK (P ++ row) s)) ∧ M2 b = some (.lst (row.map .int)) ∧ Sub M M2 ∧ env = el ls left l R a b v6 v7)
    left.length ⟨[], [l], fun _ => 0, _, _, by simp, .inl ⟨BF.start hl, fun z hz => hR⟩, by rw [up_ne ab, up_same]; rfl, up_same, (sub_up' ha).up nb', rfl⟩ ?_
  rintro n _ M2 F ⟨P, row, s, v6, v7, hn, al, ca, cb, sb, rfl⟩ hF
  simp [varE, el, eq_nil (.inl ⟨b, rfl, cb⟩ : Arg M2 (.ref b) (row.map .int))]
  cases row with
  | nil =>
    simp
    refine rt_dct ca sb ha ?_
    rw [List.append_nil]
    exact hQ P s al.end'
  | cons y r =>
    simp
    have hl1 : P.length + (r.length + 1) ≤ left.length := by have := nodup_le al.nd.1 al.nd.2; simpa using this
    refine body ab ha nb' al ca cb sb fun row' s' v6 v7 M3 al' ca' cb' sb' => ?_
    cases n with
    | zero => omega
    | succ m => exact hF m rfl _ _ ⟨P ++ [y], row', s', v6, v7, by simp; omega, al', ca', cb', sb', rfl⟩
end
end L3.K26
set_option maxRecDepth 100000
set_option maxHeartbeats 4000000
namespace L3.K26
open PySem L2 WZ EX
open K01 hiding b_are_hands N_are_hands P_are_hands k_are_hands
open WY hiding b_are_lines N_are_lines P_are_lines k_are_lines
open RN hiding b__law_lines N__law_lines P__law_lines k__law_lines
variable {c : Cfg}
/-! ### the law's own way -/
def gK (ks : List Int) (G : Int → Int) : List (D × D)   := ks.map fun h => (.int h, .int (G h))
theorem gK_len {ks : List Int} {G : Int → Int} : (gK ks G).length = ks.length := by simp [gK]
theorem gK_get {ks : List Int} {G : Int → Int} {h : Int} (hh : h ∈ ks) : getK (gK ks G) (.int h) = some (.int (G h)) := WY.get_key (g := fun h => .int (G h)) hh
theorem gK_add {ks : List Int} {G : Int → Int} {u : Int} (h : u ∉ ks) : putK (gK ks G) (.int u) (.int (G u)) = gK (ks ++ [u]) G := by
  unfold putK gK
  rw [any_keyI ks (fun h => .int (G h)), if_neg (by simpa using h), List.map_append]
  rfl
/-- the bridge of each two clusters -/
def bK (key : Int × Int → Int × Int) (acc : List (Int × Int)) : List (D × D) := acc.map fun p => (prD (key p), prD p)
theorem eqKey_pr {p q : Int × Int} : eqKey (prD p) (prD q) = decide (p = q) := by
  show (decide (p.1 = q.1) && (decide (p.2 = q.2) && true)) = _
  rw [Bool.and_true, ← Bool.decide_and]
  exact decide_eq_decide.mpr ⟨fun h => Prod.ext h.1 h.2, fun h => by rw [h]; exact ⟨rfl, rfl⟩⟩
theorem bK_get {key : Int × Int → Int × Int} {k : Int × Int} : ∀ {acc : List (Int × Int)}, k ∉ acc.map key → getK (bK key acc) (prD k) = none
  | [], _ => rfl
  | p :: r, h => by
    simp only [List.map_cons, List.mem_cons, not_or] at h
    show (if eqKey (prD (key p)) (prD k) = true then some (prD p) else getK (bK key r) (prD k)) = none
    rw [eqKey_pr, if_neg (by simpa using fun e => h.1 e.symm)]
    exact bK_get h.2
theorem bK_got {key : Int × Int → Int × Int} {k : Int × Int} : ∀ {acc : List (Int × Int)}, k ∈ acc.map key → ∃ d, getK (bK key acc) (prD k) = some d
  | [], h => nomatch h
  | p :: r, h => by
    show ∃ d, (if eqKey (prD (key p)) (prD k) = true then some (prD p) else getK (bK key r) (prD k)) = some d
    rw [eqKey_pr]
    by_cases e : key p = k
    · exact ⟨_, if_pos (by simpa using e)⟩
    · rw [if_neg (by simpa using e)]
      exact bK_got ((List.mem_cons.mp h).resolve_left fun q => e q.symm)
theorem bK_put {key : Int × Int → Int × Int} {acc : List (Int × Int)} {p : Int × Int} (h : key p ∉ acc.map key) : putK (bK key acc) (prD (key p)) (prD p) = bK key (acc ++ [p]) := by
  unfold putK
  have e : ((bK key acc).any fun q => eqKey q.1 (prD (key p))) = false := by
    rw [Bool.eq_false_iff]
    intro q
    rw [List.any_eq_true] at q
    obtain ⟨x, hx, e⟩ := q
    obtain ⟨z, hz, rfl⟩ := List.mem_map.mp hx
    rw [eqKey_pr] at e
    exact h (by rw [← of_decide_eq_true e]; exact List.mem_map_of_mem hz)
  rw [if_neg (by rw [e]; exact Bool.false_ne_true)]
  simp [bK]
theorem srt_sub {ls acc : List (Int × Int)} (h : acc.Sublist (srtL ls)) : acc.mergeSort leP = acc :=
  List.mergeSort_of_pairwise ((List.pairwise_mergeSort leP_trans leP_total ls).sublist h)
theorem bK_vals {key : Int × Int → Int × Int} {acc : List (Int × Int)} {M : Mm} {f : Addr} {ls : List (Int × Int)} (h : acc.Sublist (srtL ls)) (cf : M f = some (.dct true (bK key acc))) : svalD M (.ref f) = some (acc.map prD) := by
  have e : dctD M (.ref f) = some (true, bK key acc) := by simp [dctD, cf]
  unfold svalD
  rw [e]
  show (match prs ((bK key acc).map (·.2)) with | some ps => some ((ps.mergeSort leP).map prD) | none => none) = _
  have e2 : (bK key acc).map (·.2) = acc.map prD := by simp [bK, Function.comp_def]
  rw [e2, prs_map]
  show some ((acc.mergeSort leP).map prD) = _
  rw [srt_sub h]
def spLWay : SpD := fun ds M Q E => ∃ hs ls R, ds = [.lst (hs.map .int), .lst (ls.map prD), .int R] ∧ HandsOk hs ∧ LinesOk hs ls ∧ 0 ≤ R ∧ ∀ ks, Kp hs ks → Q (.tup [.dct false (pK ks (clF hs ls R)), .lst ((clB hs ls R).map prD)]) M
class TW (T : Tab) : Prop where
  h0 : lk T.fn ._law_near = some spNearR
  h1 : lk T.fn ._law_steps = some spLSteps
@[simp] theorem tw0 {T : Tab} [h : TW T] : lk T.fn ._law_near = some spNearR := h.h0
@[simp] theorem tw1 {T : Tab} [h : TW T] : lk T.fn ._law_steps = some spLSteps := h.h1
theorem lsteps_use {hs : List Int} {ls : List (Int × Int)} {left : List Int} {l R : Int} {M : Mm} {Q : QD} {E : QX} (ho : HandsOk hs) (lo : LinesOk hs ls) (hsub : ∀ z ∈ left, z ∈ hs) (hl : l ∈ left) (h12 : left.length ≤ 12) (hR : 0 ≤ R)
    (hQ : ∀ K s, Fin ls left l R K s → Q (.dct false (sK K s)) M) : spLSteps [.lst (ls.map prD), .lst (left.map .int), .int l, .int R] M (fun d M' => frz1 false d M' Q) E :=
  ⟨hs, ls, left, l, R, rfl, ho, lo, hsub, hl, h12, hR, fun K s h => hQ K s h⟩
def wb0 : List SS := match b__law_way with
  | [_, _, _, .whl _ b, _, _, _] => b
  | _ => []
theorem lway_split : b__law_way = b__law_way.take 3 ++ (.whl (.cmp .NotEq (.var 3) (.lst false [])) wb0 :: (b__law_way.drop 4)) := rfl
abbrev ew (hs : List Int) (ls : List (Int × Int)) (R : Int) (left : List Int) (g h : Addr) (v6 v7 v8 v9 v10 v11 v12 : Option D) : Env := [some (.lst (hs.map .int)), some (.lst (ls.map prD)), some (.int R), some (.lst (left.map .int)), some (.ref g), some (.ref h), v6, v7, v8, v9, v10, v11, v12]
section
variable {T : Tab} [hT : TW T] {M : Mm} {Q : QD} {E : QX} {hs : List Int} {ls : List (Int × Int)} {R : Int} {g h : Addr}
/-- one cluster -/
theorem w_wb0 (ho : HandsOk hs) (lo : LinesOk hs ls) (hR : 0 ≤ R) {F : Int → Option Int} {G : Int → Int} {n : Nat} {Dn left : List Int} {l : Int} {r : List Int} {v6 v7 v8 v9 v10 v11 v12 : Option D} {M2 : Mm} {K : KD}
    (gh : g ≠ h) (ng : M g = none) (nh : M h = none) (hleft : left = l :: r) (hsub : ∀ z ∈ left, z ∈ hs) (h12 : left.length ≤ 12) (nd : (Dn ++ left).Nodup) (hl : Dn.length ≤ 12) (hF : ∀ z ∈ left, F z = fF hs ls R (n + 1) left z) (hG : ∀ z ∈ left, G z = gF ls R (n + 1) left z)
    (cg : M2 g = some (.dct false (pK Dn F))) (ch : M2 h = some (.dct false (gK Dn G))) (sb : Sub M M2)
    (hK : ∀ P s v7 v9 v10 v12 M3, Fin ls left l R P s → M3 g = some (.dct false (pK (Dn ++ P) F)) → M3 h = some (.dct false (gK (Dn ++ P) G)) → Sub M M3 → K.nx (ew hs ls R (left.filter fun x => !inK ls left l R x) g h v6 v7 v8 v9 v10 v11 v12) M3) :
    wSs T wb0 K (ew hs ls R left g h v6 v7 v8 v9 v10 v11 v12) M2 := by
  have h13 : left.length ≤ 1000000 := Nat.le_trans h12 (by decide)
  have a0 : atI left 0 = some l := by rw [hleft]; exact at0
  have ll : l ∈ left := by rw [hleft]; exact List.mem_cons_self
  simp [wb0, b__law_way, varE, ew, a0]
  refine lsteps_use ho lo hsub ll h12 hR fun P s fin => ?_
  have pl : P.length ≤ left.length := nodup_le fin.nd fin.lf
  have ndl : left.Nodup := (List.nodup_append.mp nd).2.1
  have pF : ∀ z ∈ P, F z = pb hs ls left l R z := fun z hz => by
    rw [hF z (fin.lf z hz)]
    subst hleft
    exact if_pos (by rw [fin.inK]; exact decide_eq_true hz)
  have pG : ∀ z ∈ P, G z = l := fun z hz => by
    rw [hG z (fin.lf z hz)]
    subst hleft
    exact if_pos (by rw [fin.inK]; exact decide_eq_true hz)
  refine forQ_start (items := P.map .int) (by simp [itD, keyL, sK, Function.comp_def]) ?_
  refine forQ_ind (fun xs env M3 => ∃ (p rest : List Int) (v7 v10 v12 : Option L3.D), P = p ++ rest ∧ xs = rest.map .int ∧ M3 g = some (.dct false (pK (Dn ++ p) F)) ∧ M3 h = some (.dct false (gK (Dn ++ p) G)) ∧ Sub M M3 ∧ env = ew hs ls R left g h v6 v7 v8 (some (.dct false (sK P s))) v10 v11 v12)
    ⟨[], P, v7, v10, v12, rfl, rfl, by rw [List.append_nil]; exact cg, by rw [List.append_nil]; exact ch, sb, rfl⟩ ?_ ?_ ?_
  · intros; simp [itD, keyL, sK, Function.comp_def]
  · rintro x xs _ M3 F2 ⟨p, rest, v7, v10, v12, e, e2, cg, ch, sb, rfl⟩ hF2
    cases rest with
    | nil => cases e2
    | cons u rest =>
      cases e2
      have hu : u ∈ P := by rw [e]; simp
      have un : u ∉ Dn ++ p := fun q => by
        rcases List.mem_append.mp q with q | q
        · exact (List.nodup_append.mp nd).2.2 u q u (fin.lf u hu) rfl
        · have := fin.nd
          rw [e] at this
          exact (List.nodup_append.mp this).2.2 u q u (by simp) rfl
      have gu : getK (sK P s) (.int u) = some (.int (s u : Int)) := sK_get hu
      have srt : (nearer hs ls left l R u).Pairwise (· < ·) := (ho.2.2.1.filter _).filter _
      have nl : (nb hs ls u).length ≤ 1000000 := Nat.le_trans (List.length_filter_le _ _) (Nat.le_trans ho.2.1 (by decide))
      refine ⟨_, rfl, ?_⟩
      simp [varE, ew]
      refine nearR_use ho lo ?_
      refine compQ_start (items := (nb hs ls u).map .int) rfl ?_
      refine compQ_filters (nb hs ls u) .int .int (fun o => decide (o ∈ P ∧ s o + 1 = s u)) (Nat.le_trans (m := 1000000) nl (by decide)) rfl (fun o ho' => ⟨_, rfl, fun P' hP => ?_, fun _ P' hP => ?_⟩) ?_
      · simp [in_stepsD]
        by_cases hk : o ∈ P
        · have go : getK (sK P s) (.int o) = some (.int (s o : Int)) := sK_get hk
          have jo := (mem_nbi.mp ho').2
          have nx := (fin.lv o hk).next (fin.lv u hu) (fin.lf u hu) (by rw [joinB_symm]; exact jo)
          simp [hk, go, gu]
          refine ⟨rfl, rfl, ?_⟩
          have e9 : decide (s o < s u) = decide (o ∈ P ∧ s o + 1 = s u) := decide_eq_decide.mpr ⟨fun q => ⟨hk, by omega⟩, fun q => by omega⟩
          rw [e9]
          exact hP
        · have e9 : decide (o ∈ P ∧ s o + 1 = s u) = false := decide_eq_false fun q => hk q.1
          rw [e9] at hP
          simp [hk]
          exact hP
      · exact hP
      · rw [← fin.nearer hu, mnd_head srt]
        have lp : p.length ≤ P.length := by rw [e]; simp
        have e8 : (nearer hs ls left l R u).head? = F u := (pF u hu).symm
        rw [e8]
        have eF : fset F u (F u) = F := by
          funext z
          unfold fset
          split
          · rename_i q; rw [q]
          · rfl
        simp [cg]
        refine ⟨rfl, lt_size (by rw [pK_len]; simp; omega), ?_⟩
        rw [pK_new un, eF]
        simp [a0, up_ne (Ne.symm gh), ch]
        refine ⟨rfl, lt_size (by rw [gK_len]; simp; omega), ?_⟩
        rw [← pG u hu, gK_add un]
        exact hF2 _ _ ⟨p ++ [u], rest, _, _, _, by rw [e]; simp, rfl, by rw [up_ne gh, up_same, ← List.append_assoc], by rw [up_same, ← List.append_assoc], (sb.up ng).up nh, rfl⟩
  · rintro _ M3 ⟨p, rest, v7, v10, v12, e, e2, cg, ch, sb, rfl⟩
    have : rest = [] := by cases rest with
      | nil => rfl
      | cons _ _ => cases e2
    subst this
    rw [List.append_nil] at e
    subst e
    simp [varE, ew]
    refine compQ_start (items := left.map .int) rfl ?_
    refine compQ_filters left .int .int (fun z => !inK ls left l R z) (Nat.le_trans (m := 1000000) h13 (by decide)) rfl (fun z hz => ⟨_, rfl, fun P' hP => ?_, fun _ P' hP => ?_⟩) ?_
    · simp [in_stepsD]
      rw [fin.inK] at hP
      simpa using hP
    · exact hP
    · exact hK P s _ _ _ _ M3 fin cg ch sb
theorem rt_dl {M2 : Mm} {g : Addr} {kvs : List (D × D)} {ds : List D} (cg : M2 g = some (.dct false kvs)) (sb : Sub M M2) (ng : M g = none) (hQ : Q (.tup [.dct false kvs, .lst ds]) M) : (fnK c Q E).rt (.tup [.ref g, .lst ds]) M2 := by
  refine ⟨_, M, ?_, hQ⟩
  have e1 : fz 1 M2 (.ref g) = .dct false kvs := by
    unfold fz
    rw [cg]
    show D.dct false (kvs.map fun p => (p.1, fz 0 M2 p.2)) = _
    rw [map_k0]
  have e2 : fz 1 M2 (.lst ds) = .lst ds := by
    unfold fz
    show D.lst (ds.map (fz 0 M2)) = _
    rw [map_f0]
  have e : fz 2 M2 (.tup [.ref g, .lst ds]) = .tup [.dct false kvs, .lst ds] := by
    have : fz 2 M2 (.tup [.ref g, .lst ds]) = .tup [fz 1 M2 (.ref g), fz 1 M2 (.lst ds)] := rfl
    rw [this, e1, e2]
  rw [← e]
  refine Frz.deep 2 sb fun y hy => ?_
  have r1 : rf 1 M2 (.ref g) = [g] := by
    unfold rf
    rw [cg]
    show g :: (kvs.flatMap fun p => rf 0 M2 p.2) = _
    rw [flat_k0]
  have r2 : rf 1 M2 (.lst ds) = [] := by
    unfold rf
    show ds.flatMap (rf 0 M2) = _
    rw [flat_r0]
  have r : rf 2 M2 (.tup [.ref g, .lst ds]) = rf 1 M2 (.ref g) ++ (rf 1 M2 (.lst ds) ++ []) := rfl
  rw [r, r1, r2] at hy
  simp at hy
  subst hy
  exact ng
theorem sl_drop {acc rest xs : List (Int × Int)} {u : Int × Int} (h : (acc ++ u :: rest).Sublist xs) : (acc ++ rest).Sublist xs := ((List.Sublist.refl acc).append (List.sublist_cons_self u rest)).trans h
/-- all from the bridges on -/
theorem w_wb1 (ho : HandsOk hs) (lo : LinesOk hs ls) (hR : 0 ≤ R) {ks : List Int} (kp : Kp hs ks) {v3 v6 v7 v8 v9 v10 v11 v12 : Option D} {M2 : Mm} (gh : g ≠ h) (ng : M g = none) (cg : M2 g = some (.dct false (pK ks (clF hs ls R)))) (ch : M2 h = some (.dct false (gK ks (gF ls R 12 hs)))) (sb : Sub M M2)
    (hQ : Q (.tup [.dct false (pK ks (clF hs ls R)), .lst ((clB hs ls R).map prD)]) M) :
    wSs T (b__law_way.drop 4) (fnK c Q E) [some (.lst (hs.map .int)), some (.lst (ls.map prD)), some (.int R), v3, some (.ref g), some (.ref h), v6, v7, v8, v9, v10, v11, v12] M2 := by
  have l2 := lo.2.1
  have l3 : (srtL ls).length ≤ 200 := by unfold srtL; rw [List.length_mergeSort]; exact l2
  obtain ⟨key, hkey⟩ : ∃ key : Int × Int → Int × Int, ∀ p, key p = (min (gF ls R 12 hs p.1) (gF ls R 12 hs p.2), max (gF ls R 12 hs p.1) (gF ls R 12 hs p.2)) := ⟨_, fun _ => rfl⟩
  have keq : brG key [] (srtL ls) = clB hs ls R := by
    unfold clB
    refine brG_congr _ _ fun p hp => ?_
    obtain ⟨m1, m2⟩ := cl_mem lo (show p ∈ srtL ls from hp)
    rw [hkey]
    unfold jn
    rw [cl_ldr ho hR m1, cl_ldr ho hR m2]
  simp [b__law_way, varE]
  intro f hf
  have gf : g ≠ f := fun e => by rw [e, hf] at cg; cases cg
  have hf' : h ≠ f := fun e => by rw [e, hf] at ch; cases ch
  have nf := sb.none hf
  rw [show (D.lst (List.map prD ls)) = .lst (ls.map prD) from rfl]
  simp [srt_prs']
  refine forQ_start (items := (srtL ls).map prD) rfl ?_
  refine forQ_ind (fun xs env M3 => ∃ (p rest acc : List (Int × Int)) (v7 v8 v11 : Option D), srtL ls = p ++ rest ∧ xs = rest.map prD ∧ acc.length ≤ p.length ∧ (acc ++ rest).Sublist (srtL ls) ∧ brG key acc rest = clB hs ls R ∧ M3 g = some (.dct false (pK ks (clF hs ls R))) ∧ M3 h = some (.dct false (gK ks (gF ls R 12 hs))) ∧ M3 f = some (.dct true (bK key acc)) ∧ Sub M M3 ∧
      env = [some (.lst (hs.map .int)), some (.lst (ls.map prD)), some (.int R), v3, some (.ref g), some (.ref h), some (.ref f), v7, v8, v9, v10, v11, v12])
    ⟨[], srtL ls, [], v7, v8, v11, rfl, rfl, by simp, List.Sublist.refl _, keq, by rw [up_ne gf]; exact cg, by rw [up_ne hf']; exact ch, by rw [up_same]; rfl, sb.up nf, rfl⟩ ?_ ?_ ?_
  · intros; rfl
  · rintro x xs _ M3 F ⟨p, rest, acc, v7, v8, v11, e, e2, al, sl, eb, cg, ch, cf, sb, rfl⟩ hF
    cases rest with
    | nil => cases e2
    | cons u rest =>
      cases e2
      have hu : u ∈ srtL ls := by rw [e]; simp
      obtain ⟨m1, m2⟩ := cl_mem lo hu
      have pl : p.length + (rest.length + 1) = (srtL ls).length := by rw [e]; simp
      have g1 : getK (gK ks (gF ls R 12 hs)) (.int u.1) = some (.int (gF ls R 12 hs u.1)) := gK_get ((kp.mem _).mpr m1)
      have g2 : getK (gK ks (gF ls R 12 hs)) (.int u.2) = some (.int (gF ls R 12 hs u.2)) := gK_get ((kp.mem _).mpr m2)
      unfold brG at eb
      obtain ⟨x1, h1⟩ : ∃ x1, x1 = gF ls R 12 hs u.1 := ⟨_, rfl⟩
      obtain ⟨x2, h2⟩ : ∃ x2, x2 = gF ls R 12 hs u.2 := ⟨_, rfl⟩
      have hk := hkey u
      rw [← h1, ← h2] at hk
      rw [← h1] at g1
      rw [← h2] at g2
      refine ⟨_, rfl, ?_⟩
      simp [varE, ch, g1, g2]
      refine ⟨rfl, rfl, rfl, rfl, ?_⟩
      rw [min_eq, max_eq]
      have e5 : D.tup [.int (min x1 x2), .int (max x1 x2)] = prD (key u) := by rw [hk]; rfl
      have e6 : D.tup [.int u.1, .int u.2] = prD u := rfl
      rw [e5, e6]
      have k1 : (key u).1 = min x1 x2 := by rw [hk]
      have k2 : (key u).2 = max x1 x2 := by rw [hk]
      have ec : celT M3 (.ref f) = some (f, true, bK key acc) := by simp [celT, cf]
      have ed : dctD M3 (.ref f) = some (true, bK key acc) := by simp [dctD, cf]
      by_cases c1 : min x1 x2 = max x1 x2
      · rw [if_neg fun q => q.1 (by rw [k1, k2]; exact c1)] at eb
        simp [c1]
        exact hF _ _ ⟨p ++ [u], rest, acc, _, _, _, by rw [e]; simp, rfl, by simp; omega, sl_drop sl, eb, cg, ch, cf, sb, rfl⟩
      · have c1' : (min x1 x2 == max x1 x2) = false := by simpa using c1
        rw [c1']
        simp
        refine ⟨by show (dctD M3 (.ref f)).isSome = true; rw [ed]; rfl, ?_⟩
        show obn (celT M3 (.ref f)) _
        rw [ec]
        refine ⟨rfl, lt_size (by show (bK key acc).length ≤ 999; simp [bK]; omega), ?_⟩
        show (match getK (bK key acc) (prD (key u)) with | some v => _ | none => _)
        by_cases c2 : key u ∈ acc.map key
        · rw [if_neg fun q => q.2 c2] at eb
          obtain ⟨d, hd⟩ := bK_got c2
          rw [hd]
          exact hF _ _ ⟨p ++ [u], rest, acc, _, _, _, by rw [e]; simp, rfl, by simp; omega, sl_drop sl, eb, cg, ch, cf, sb, rfl⟩
        · rw [if_pos ⟨by rw [k1, k2]; exact c1, c2⟩] at eb
          rw [bK_get c2]
          show F _ (up M3 f (.dct true (putK (bK key acc) (prD (key u)) (prD u))))
          rw [bK_put c2]
          refine hF _ _ ⟨p ++ [u], rest, acc ++ [u], _, _, _, by rw [e]; simp, rfl, by simp; omega, by simpa using sl, eb, by rw [up_ne gf]; exact cg, by rw [up_ne hf']; exact ch, up_same, sb.up nf, rfl⟩
  · rintro _ M3 ⟨p, rest, acc, v7, v8, v11, e, e2, al, sl, eb, cg, ch, cf, sb, rfl⟩
    have : rest = [] := by cases rest with
      | nil => rfl
      | cons _ _ => cases e2
    subst this
    have eb : acc = clB hs ls R := eb
    rw [List.append_nil] at sl
    have sv : itD .svals [.ref f] M3 = some (acc.map prD) := bK_vals sl cf
    simp [varE, sv]
    have la : acc.length ≤ (srtL ls).length := sl.length_le
    refine ⟨by omega, rt_dl cg sb ng ?_⟩
    rw [eb]
    exact hQ
theorem w_lway : ∀ ds M Q E, spLWay ds M Q E → wSs T b__law_way (fnK c Q E) (env0 N__law_way.length ds) M := by
  rintro _ M Q E ⟨hs, ls, R, rfl, ho, lo, hR, hQ⟩
  have one := fun {n : Nat} {Dn left : List Int} {l : Int} {r : List Int} {v6 v7 v8 v9 v10 v11 v12 : Option D} {M2 : Mm} {K : KD} {g h : Addr} => w_wb0 (T := T) (M := M) (F := clF hs ls R) (G := gF ls R 12 hs) (g := g) (h := h) (K := K) (n := n) (Dn := Dn) (left := left) (l := l) (r := r) (v6 := v6) (v7 := v7) (v8 := v8) (v9 := v9) (v10 := v10) (v11 := v11) (v12 := v12) (M2 := M2) ho lo hR
  have end' := fun {ks : List Int} {v3 v6 v7 v8 v9 v10 v11 v12 : Option D} {M2 : Mm} {g h : Addr} kp => w_wb1 (T := T) (c := c) (E := E) (M := M) (Q := Q) (ls := ls) (R := R) (g := g) (h := h) (ks := ks) (v3 := v3) (v6 := v6) (v7 := v7) (v8 := v8) (v9 := v9) (v10 := v10) (v11 := v11) (v12 := v12) (M2 := M2) ho lo hR kp
  rw [lway_split, wSs_app]
  simp only [ew] at one
  generalize b__law_way.drop 4 = b3 at *
  generalize wb0 = b0 at *
  simp [b__law_way, N__law_way, env0, varE]
  intro g hg h hh
  have gh : g ≠ h := fun e => by rw [← e, up_same] at hh; cases hh
  have nh : M h = none := by rw [← hh]; exact (up_ne (Ne.symm gh)).symm
  refine whQ_ind (fun n env M2 => ∃ (Dn left : List Int) (v7 v9 v10 v12 : Option D), left.length ≤ n ∧ n ≤ 12 ∧ (Dn ++ left).Nodup ∧ (∀ z, z ∈ Dn ++ left ↔ z ∈ hs) ∧ (∀ z ∈ left, clF hs ls R z = fF hs ls R n left z) ∧ (∀ z ∈ left, gF ls R 12 hs z = gF ls R n left z) ∧
      M2 g = some (.dct false (pK Dn (clF hs ls R))) ∧ M2 h = some (.dct false (gK Dn (gF ls R 12 hs))) ∧ Sub M M2 ∧ env = ew hs ls R left g h none v7 none v9 v10 none v12)
    12 ⟨[], hs, none, none, none, none, ho.2.1, Nat.le_refl _, (ho.2.2.1.imp fun h => Int.ne_of_lt h), fun z => by simp, fun z hz => rfl, fun z hz => rfl, by rw [up_ne gh, up_same]; rfl, by rw [up_same]; rfl, (sub_up' hg).up nh, rfl⟩ ?_
  rintro n _ M2 F ⟨Dn, left, v7, v9, v10, v12, hn, n12, nd, mem, hF', hG', cg, ch, sb, rfl⟩ hF
  simp [varE, ew, eq_nil (.inr rfl : Arg M2 (.lst (left.map .int)) _)]
  cases hleft : left with
  | nil =>
    subst hleft
    simp
    rw [List.append_nil] at nd
    have kp : Kp hs Dn := ⟨nd, fun z => by have := mem z; simpa using this⟩
    exact end' kp gh hg cg ch sb (hQ Dn kp)
  | cons l r =>
    cases n with
    | zero => rw [hleft] at hn; simp at hn
    | succ m =>
      rw [← hleft]
      have hne : left ≠ [] := by rw [hleft]; simp
      simp [hne]
      have sub : ∀ z ∈ left, z ∈ hs := fun z hz => (mem z).mp (List.mem_append_right _ hz)
      have dl : (Dn ++ left).length ≤ hs.length := nodup_le nd fun z hz => (mem z).mp hz
      have h12 := ho.2.1
      rw [List.length_append] at dl
      refine one gh hg nh hleft sub (by omega) nd (by omega) hF' hG' cg ch sb fun P s v7 v9 v10 v12 M3 fin cg3 ch3 sb3 => ?_
      have hk : ∀ x, inK ls left l R x = decide (x ∈ P) := fin.inK
      refine hF m rfl _ _ ⟨Dn ++ P, left.filter fun x => !inK ls left l R x, v7, v9, v10, v12, ?_, by omega, ?_, fun z => ?_, fun z hz => ?_, fun z hz => ?_, cg3, ch3, sb3, rfl⟩
      · rw [hleft] at hn ⊢
        have := rest_len (ls := ls) (l := l) (r := r) hR
        simp at hn
        omega
      · rw [List.append_assoc]
        have n2 := List.nodup_append.mp nd
        refine List.nodup_append.mpr ⟨n2.1, List.nodup_append.mpr ⟨fin.nd, n2.2.1.filter _, fun x hx y hy e => ?_⟩, fun x hx y hy e => ?_⟩
        · subst e
          have := (List.mem_filter.mp hy).2
          rw [hk, decide_eq_true hx] at this
          cases this
        · subst e
          rcases List.mem_append.mp hy with hy | hy
          · exact n2.2.2 x hx x (fin.lf x hy) rfl
          · exact n2.2.2 x hx x (List.mem_filter.mp hy).1 rfl
      · rw [← mem z]
        simp only [List.mem_append, List.mem_filter, hk]
        constructor
        · rintro ((h | h) | h)
          · exact .inl h
          · exact .inr (fin.lf z h)
          · exact .inr h.1
        · rintro (h | h)
          · exact .inl (.inl h)
          · by_cases q : z ∈ P
            · exact .inl (.inr q)
            · exact .inr ⟨h, by simp [q]⟩
      · obtain ⟨h1, h2⟩ := List.mem_filter.mp hz
        rw [hF' z h1]
        subst hleft
        exact if_neg fun q => by rw [q] at h2; cases h2
      · obtain ⟨h1, h2⟩ := List.mem_filter.mp hz
        rw [hG' z h1]
        subst hleft
        exact if_neg fun q => by rw [q] at h2; cases h2
end
end L3.K26
set_option maxRecDepth 100000
set_option maxHeartbeats 4000000
namespace L3.K26
open PySem L2 WZ EX
open K01 hiding b_are_hands N_are_hands P_are_hands k_are_hands
open WY hiding b_are_lines N_are_lines P_are_lines k_are_lines
open RN hiding b__law_lines N__law_lines P__law_lines k__law_lines
variable {c : Cfg}
/-! ### what is told alike -/
theorem AL_pairs {M : Mm} {n : Nat} (bs : List (Int × Int)) : AL M (n + 2) (.lst (bs.map prD)) (.lst (bs.map prD)) := by
  refine .inr (.inr (.inl ⟨bs.map prD, bs.map prD, rfl, rfl, rfl, fun j u w h1 h2 => ?_⟩))
  rw [h1] at h2; cases h2
  obtain ⟨p, _, rfl⟩ := List.mem_map.mp (List.mem_of_getElem? h1)
  refine .inr (.inr (.inr (.inl ⟨[.int p.1, .int p.2], [.int p.1, .int p.2], rfl, rfl, rfl, fun j u w h1 h2 => ?_⟩)))
  rw [h1] at h2; cases h2
  have hu := List.mem_of_getElem? h1
  simp only [List.mem_cons, List.not_mem_nil, or_false] at hu
  have hf : flatD u = true ∧ u = u := by rcases hu with rfl | rfl <;> exact ⟨rfl, rfl⟩
  cases n with
  | zero => exact hf
  | succ n => exact .inl hf
theorem flat_oD {o : Option Int} : flatD (oD o) = true := by cases o <;> rfl
theorem AL_par {M : Mm} {n : Nat} {hs ks ks' : List Int} {f f' : Int → Option Int} (k : Kp hs ks) (k' : Kp hs ks') (e : ∀ h ∈ hs, f h = f' h) : AL M (n + 1) (.dct false (pK ks f)) (.dct false (pK ks' f')) := by
  refine .inr (.inr (.inr (.inr ⟨pK ks f, pK ks' f', rfl, rfl, ?_, fun p hp => ?_⟩)))
  · rw [pK_len, pK_len]
    have h1 := nodup_le k.nd fun z hz => (k'.mem z).mpr ((k.mem z).mp hz)
    have h2 := nodup_le k'.nd fun z hz => (k.mem z).mpr ((k'.mem z).mp hz)
    omega
  · obtain ⟨h, hh, rfl⟩ := List.mem_map.mp hp
    have hm := (k.mem h).mp hh
    refine ⟨oD (f' h), pK_get ((k'.mem h).mpr hm), ?_⟩
    have hf : flatD (oD (f h)) = true ∧ oD (f h) = oD (f' h) := ⟨flat_oD, by rw [e h hm]⟩
    cases n with
    | zero => exact hf
    | succ n => exact .inl hf
theorem told_alike {M : Mm} {hs ks ks' : List Int} {f f' : Int → Option Int} {bs bs' : List (Int × Int)} {P : Prop} (k : Kp hs ks) (k' : Kp hs ks') (e : ∀ h ∈ hs, f h = f' h) (eb : bs = bs') (hP : P) :
    alkQ (.tup [.dct false (pK ks f), .lst (bs.map prD)]) (.tup [.dct false (pK ks' f'), .lst (bs'.map prD)]) M P := by
  subst eb
  refine ⟨⟨3, by omega, .inr (.inl ⟨_, _, rfl, rfl, rfl, fun j u w h1 h2 => ?_⟩)⟩, hP⟩
  match j with
  | 0 => cases h1; cases h2; exact AL_par k k' e
  | 1 => cases h1; cases h2; exact AL_pairs bs
  | j + 2 => cases h1
theorem Kp.self {hs : List Int} (ho : HandsOk hs) : Kp hs hs := ⟨ho.2.2.1.imp fun h => Int.ne_of_lt h, fun z => Iff.rfl⟩
/-! ### the ends of the reaches -/
section
variable {hs : List Int} {ls : List (Int × Int)} {R : Int}
theorem clF_zero (h : Int) : clF hs ls 0 h = none := fF_zero 12 hs h
theorem clB_zero (ho : HandsOk hs) (lo : LinesOk hs ls) : clB hs ls 0 = srtL ls := by
  have e : ∀ z, ldr (clF hs ls 0) z = z := fun z => by
    have := ldr_eq (f := clF hs ls 0) (h := z) (L := [z]) (.one (clF_zero z))
    exact (Option.some.inj this).symm
  unfold clB
  have hl : ∀ p ∈ srtL ls, p.1 < p.2 := fun p hp => (lo.2.2 p (srt_mem.mp hp)).2.2
  rw [brG_all (srtL ls) [] (fun p hp => ?_) (fun p hp => Int.ne_of_lt (hl p hp)) (srt_nd lo.1)]
  · rfl
  · have := hl p hp
    unfold jn
    rw [e, e]
    refine Prod.ext ?_ ?_
    · show min p.1 p.2 = p.1; omega
    · show max p.1 p.2 = p.2; omega
theorem clF_far (ho : HandsOk hs) (hR : 12 ≤ R) (h : Int) : clF hs ls R h = clF hs ls 12 h := far_same 12 hs (by have := ho.2.1; omega) (by have := ho.2.1; omega) h
theorem clB_far (ho : HandsOk hs) (lo : LinesOk hs ls) (hR : 12 ≤ R) : clB hs ls R = [] := by
  unfold clB
  refine brG_none _ _ fun p hp => ?_
  have hp' := lo.2.2 p (srt_mem.mp hp)
  have e : ldr (clF hs ls R) p.1 = ldr (clF hs ls R) p.2 := by
    rw [cl_ldr ho (by omega) hp'.1, cl_ldr ho (by omega) hp'.2.1]
    exact far_one 12 hs ho.2.1 (by have := ho.2.1; omega) p.1 p.2 hp'.1 hp'.2.1 (by unfold joinB; simp; exact .inl (srt_mem.mp hp))
  unfold jn
  rw [e]
  show min _ _ = max _ _
  omega
end
/-! ### told, right -/
class TT (T : Tab) : Prop where
  h0 : lk2 T.mt .Way .all_parents = some spAllP
  h1 : lk2 T.mt .Way .all_bridges = some spAllB
@[simp] theorem tt0 {T : Tab} [h : TT T] : lk2 T.mt .Way .all_parents = some spAllP := h.h0
@[simp] theorem tt1 {T : Tab} [h : TT T] : lk2 T.mt .Way .all_bridges = some spAllB := h.h1
def spTold : SpD := fun ds M Q E => ∃ ks f bs, ds = [wayD ks f bs] ∧ Q (.tup [.dct false (pK ks f), .lst (bs.map prD)]) M
theorem w_told {T : Tab} [hT : TT T] : ∀ ds M Q E, spTold ds M Q E → wSs T b__law_told (fnK c Q E) (env0 N__law_told.length ds) M := by
  rintro _ M Q E ⟨ks, f, bs, rfl, hQ⟩
  simp [b__law_told, N__law_told, env0, varE]
  refine allP_use ?_
  refine allB_use ?_
  exact rt_self hQ
theorem told_use {M : Mm} {ks : List Int} {f : Int → Option Int} {bs : List (Int × Int)} {Q : QD} {E : QX} (hQ : Q (.tup [.dct false (pK ks f), .lst (bs.map prD)]) M) : spTold [wayD ks f bs] M (fun d M' => frz1 false d M' Q) E :=
  ⟨ks, f, bs, rfl, hQ⟩
def spRightL : SpD := fun ds M Q E => ∃ hs ls R, ds = [.lst (hs.map .int), .lst (ls.map prD), .int R] ∧ HandsOk hs ∧ LinesOk hs ls ∧ 0 ≤ R ∧ Q (.bl true) M
class TR (T : Tab) : Prop where
  f0 : lk T.fn ._law_told = some spTold
  f1 : lk T.fn ._law_way = some spLWay
  f2 : lk T.fn .by_neighbours = some spByN
  f3 : lk T.fn .by_clusters = some spClus
  f4 : lk T.fn .by_tree = some spByT
  m0 : lk2 T.mt .Way .all_parents = some spAllP
  m1 : lk2 T.mt .Way .all_bridges = some spAllB
  c0 : lk T.cl .Web = some spWeb
@[simp] theorem tr0 {T : Tab} [h : TR T] : lk T.fn ._law_told = some spTold := h.f0
@[simp] theorem tr1 {T : Tab} [h : TR T] : lk T.fn ._law_way = some spLWay := h.f1
@[simp] theorem tr2 {T : Tab} [h : TR T] : lk T.fn .by_neighbours = some spByN := h.f2
@[simp] theorem tr3 {T : Tab} [h : TR T] : lk T.fn .by_clusters = some spClus := h.f3
@[simp] theorem tr4 {T : Tab} [h : TR T] : lk T.fn .by_tree = some spByT := h.f4
@[simp] theorem tr5 {T : Tab} [h : TR T] : lk2 T.mt .Way .all_parents = some spAllP := h.m0
@[simp] theorem tr6 {T : Tab} [h : TR T] : lk2 T.mt .Way .all_bridges = some spAllB := h.m1
@[simp] theorem tr7 {T : Tab} [h : TR T] : lk T.cl .Web = some spWeb := h.c0
theorem lway_use {hs : List Int} {ls : List (Int × Int)} {R : Int} {M : Mm} {Q : QD} {E : QX} (ho : HandsOk hs) (lo : LinesOk hs ls) (hR : 0 ≤ R) (hQ : ∀ ks, Kp hs ks → Q (.tup [.dct false (pK ks (clF hs ls R)), .lst ((clB hs ls R).map prD)]) M) :
    spLWay [.lst (hs.map .int), .lst (ls.map prD), .int R] M (fun d M' => frz1 false d M' Q) E := ⟨hs, ls, R, rfl, ho, lo, hR, fun ks k => hQ ks k⟩
theorem fset_self {f : Int → Option Int} {u : Int} : fset f u (f u) = f := by
  funext z
  unfold fset
  split
  · rename_i q; rw [q]
  · rfl
theorem mrg_pK {f : Int → Option Int} : ∀ (r p : List Int), (p ++ r).Nodup → mrgK (pK p f) (pK r f) = pK (p ++ r) f
  | [], p, _ => by rw [List.append_nil]; rfl
  | u :: r, p, h => by
    have hu : u ∉ p := fun hm => (List.nodup_append.mp h).2.2 u hm u (by simp) rfl
    have e : mrgK (pK p f) (pK (u :: r) f) = mrgK (putK (pK p f) (.int u) (oD (f u))) (pK r f) := rfl
    rw [e, pK_new hu, fset_self, mrg_pK r (p ++ [u]) (by simpa using h)]
    simp
theorem prsK_pK {f : Int → Option Int} : ∀ (r : List Int), prsK (r.map fun h => D.tup [.int h, oD (f h)]) = some (pK r f)
  | [] => rfl
  | h :: r => by
    show (match flatKey (.int h) with
      | true => match prsK (r.map fun h => D.tup [.int h, oD (f h)]) with
        | some kvs => some ((D.int h, oD (f h)) :: kvs)
        | none => none
      | false => none) = _
    rw [prsK_pK r]
    rfl
def rb0 : List SS := match b__law_right with
  | [_, _, _, .fors _ _ _ b, _] => b
  | _ => []
theorem right_split : b__law_right = b__law_right.take 3 ++ (.fors (.nm 6) .rng1 [(.int 2)] rb0 :: (b__law_right.drop 4)) := rfl
abbrev er (hs : List Int) (ls : List (Int × Int)) (R : Int) (w4 w5 : D) (v6 v7 v8 : Option D) : Env := [some (.lst (hs.map .int)), some (.lst (ls.map prD)), some (.int R), some (webD hs ls), some w4, some w5, v6, v7, v8]
section
variable {T : Tab} [hT : TR T] {M : Mm} {Q : QD} {E : QX} {hs : List Int} {ls : List (Int × Int)} {R : Int}
theorem w_rb0 (ho : HandsOk hs) (lo : LinesOk hs ls) (hR : 0 ≤ R) {ks : List Int} (kp : Kp hs ks) {v6 v7 v8 : Option D} {M2 : Mm} {K : KD} {w4 w5 : D} (e4 : w4 = .tup [.dct false (pK hs fun _ => none), .lst ((srtL ls).map prD)]) (e5 : w5 = .tup [.dct false (pK ks (clF hs ls 12)), .lst ((clB hs ls 12).map prD)])
    (hK : ∀ v7 M3, Sub M2 M3 → K.nx (er hs ls R w4 w5 v6 v7 v8) M3) : wSs T rb0 K (er hs ls R w4 w5 v6 v7 v8) M2 := by
  have i1 : ∀ M Q, ixD w5 (.int 1) M Q = Q (.lst ((clB hs ls 12).map prD)) := fun M Q => by rw [e5]; rfl
  have z : clB hs ls 12 = [] := clB_far ho lo (by omega)
  have a0 : ∀ (ks' : List Int) (M : Mm) (P : Prop), Kp hs ks' → P → alkQ (.tup [.dct false (pK ks' (clF hs ls 0)), .lst ((clB hs ls 0).map prD)]) w4 M P := fun ks' M P k hP => by
    rw [e4]
    exact told_alike k (Kp.self ho) (fun h _ => clF_zero h) (clB_zero ho lo) hP
  have a5 : ∀ (ks' : List Int) (M : Mm) (P : Prop), Kp hs ks' → P → alkQ (.tup [.dct false (pK ks' (clF hs ls 12)), .lst ((clB hs ls 12).map prD)]) w5 M P := fun ks' M P k hP => by
    rw [e5]
    exact told_alike k kp (fun h _ => rfl) rfl hP
  clear e4 e5
  simp [rb0, b__law_right, varE, er]
  refine byn_use ho lo fun k1 h1 => ?_
  refine told_use ?_
  refine a0 _ _ _ h1 ?_
  refine clus_use ho lo (by omega) fun k2 h2 => ?_
  refine told_use ?_
  refine a0 _ _ _ h2 ?_
  refine byt_use ho lo fun k3 h3 => ?_
  refine told_use ?_
  refine a5 _ _ _ h3 ?_
  rw [i1, z]
  refine ⟨rfl, rfl, ?_⟩
  change br (!true) _ _
  simp only [Bool.not_true, br_false]
  refine clus_use ho lo hR fun k4 h4 => ?_
  refine told_use ?_
  refine lway_use ho lo hR fun k5 h5 => ?_
  refine told_alike h4 h5 (fun h _ => rfl) rfl ?_
  simp only [way_i, obn_some', tr5, tr6]
  refine ⟨k4, clF hs ls R, clB hs ls R, rfl, fun a ha => ?_⟩
  refine ⟨by show (celK (up M2 a (.dct false (pK k4 (clF hs ls R)))) (.ref a)).isSome = true; simp [celK, up_same], ?_⟩
  show obn (celK (up M2 a (.dct false (pK k4 (clF hs ls R)))) (.ref a)) _
  have ek : celK (up M2 a (.dct false (pK k4 (clF hs ls R)))) (.ref a) = some (a, pK k4 (clF hs ls R)) := by simp [celK, up_same]
  rw [ek]
  simp only [obn_some', way_i, tr6, up_up]
  refine ⟨k4, clF hs ls R, clB hs ls R, rfl, fun b hb => ?_⟩
  refine ⟨by simp [up_same], ?_⟩
  have el : celL (up (up M2 a (.dct false [])) b (.lst ((clB hs ls R).map prD))) (.ref b) = some (b, (clB hs ls R).map prD) := by simp [celL, up_same]
  rw [el]
  have lb : (clB hs ls R).length ≤ 200 := by
    obtain ⟨ys, e, sl⟩ := brG_sub (key := jn (clF hs ls R)) (srtL ls) []
    have : clB hs ls R = ys := by unfold clB; rw [e]; rfl
    rw [this]
    have l3 : (srtL ls).length ≤ 200 := by unfold srtL; rw [List.length_mergeSort]; exact lo.2.1
    exact Nat.le_trans sl.length_le l3
  refine ⟨lt_size (by simp; omega), hK _ _ ?_⟩
  have ab : b ≠ a := fun e => by rw [e, up_same] at hb; cases hb
  have hb' : M2 b = none := by rw [← hb]; exact (up_ne ab).symm
  intro y k e
  have ya : y ≠ a := fun q => by rw [q, ha] at e; cases e
  have yb : y ≠ b := fun q => by rw [q, hb'] at e; cases e
  rw [up_ne yb, up_ne yb, up_ne ya]
  exact e
theorem dct_none {hs : List Int} (ho : HandsOk hs) {M : Mm} {Q : QD} : biD false .dictP [.lst (hs.map fun h => D.tup [.int h, .non])] M Q = alK false false (pK hs fun _ => none) M Q := by
  have e0 : (hs.map fun h => D.tup [.int h, .non]) = hs.map fun h => D.tup [.int h, oD ((fun _ => none : Int → Option Int) h)] := rfl
  show (obn (lstD M (.lst (hs.map fun h => D.tup [.int h, .non]))) fun ds => obn (prsK ds) fun kvs => alK false false (mrgK [] kvs) M Q) = _
  have e1 : lstD M (.lst (hs.map fun h => D.tup [.int h, .non])) = some (hs.map fun h => D.tup [.int h, .non]) := rfl
  rw [e1, obn_some', e0, prsK_pK, obn_some']
  have := mrg_pK (f := fun _ => none) hs [] (ho.2.2.1.imp fun h => Int.ne_of_lt h)
  rw [show mrgK [] (pK hs fun _ => none) = pK hs fun _ => none from this]
theorem w_right : ∀ ds M Q E, spRightL ds M Q E → wSs T b__law_right (fnK c Q E) (env0 N__law_right.length ds) M := by
  rintro _ M Q E ⟨hs, ls, R, rfl, ho, lo, hR, hQ⟩
  have one := fun {ks : List Int} (kp : Kp hs ks) {v6 v7 v8 : Option D} {M2 : Mm} {K : KD} {w4 w5 : D} => w_rb0 (T := T) (K := K) (R := R) (ks := ks) (v6 := v6) (v7 := v7) (v8 := v8) (M2 := M2) (w4 := w4) (w5 := w5) ho lo hR kp
  have h12 := ho.2.1
  rw [right_split, wSs_app]
  simp only [er] at one
  generalize rb0 = b0 at *
  simp [b__law_right, N__law_right, env0, varE]
  refine web_use ho lo ?_
  refine compQ_start (items := hs.map .int) rfl ?_
  refine compQ_maps hs .int (fun h => .tup [.int h, .non]) (small (by omega)) rfl (fun h hh => ⟨_, rfl, fun P hP => hP, fun P hP => hP⟩) ?_
  rw [dct_none ho]
  rw [alK_false, srt_prs', obn_some']
  refine lway_use ho lo (by omega) fun k1 h1 => ?_
  refine forQ_start (itD_rng1 (by omega) (by omega)) ?_
  refine forQ_ind (fun xs env M2 => ∃ (v6 v7 v8 : Option D), Sub M M2 ∧ (∀ x ∈ xs, ∃ i, x = .int i) ∧ env = er hs ls R (.tup [.dct false (pK hs fun _ => none), .lst ((srtL ls).map prD)]) (.tup [.dct false (pK k1 (clF hs ls 12)), .lst ((clB hs ls 12).map prD)]) v6 v7 v8)
    ⟨none, none, none, Sub.refl, fun x hx => ?_, rfl⟩ ?_ ?_ ?_
  · obtain ⟨i, _, rfl⟩ := mem_rng hx
    exact ⟨_, rfl⟩
  · intros; exact itD_rng1 (by omega) (by omega)
  · rintro x xs _ M2 F ⟨v6, v7, v8, sb, hx, rfl⟩ hF
    refine ⟨_, rfl, ?_⟩
    exact one h1 rfl rfl fun v7 M3 sb' => hF _ _ ⟨_, v7, v8, sb.trans sb', fun y hy => hx y (List.mem_cons_of_mem _ hy), rfl⟩
  · rintro _ M2 ⟨v6, v7, v8, sb, hx, rfl⟩
    simp [varE, er]
    refine clus_use ho lo (by omega) fun k2 h2 => ?_
    refine told_use ?_
    refine told_alike h2 h1 (fun h _ => rfl) rfl ?_
    refine ⟨cpow_ok 19 (by omega), ?_⟩
    refine clus_use ho lo (by omega) fun k3 h3 => ?_
    refine told_use ?_
    refine told_alike h3 h1 (fun h _ => clF_far ho (by omega) h) ((clB_far ho lo (by omega)).trans (clB_far ho lo (by omega)).symm) ?_
    exact ⟨_, M, Frz.sub sb, hQ⟩
end
class LawT (T : Tab) : Prop where
  f0 : lk T.fn ._law_cell_at = some K01.spCell
  f1 : lk T.fn ._law_draws = some spDraws
  f2 : lk T.fn ._law_hands = some spHandsR
  f3 : lk T.fn ._law_lines = some spLinesR
  f4 : lk T.fn ._law_take = some spTake
  f5 : lk T.fn ._law_right = some spRightL
@[simp] theorem lw0 {T : Tab} [h : LawT T] : lk T.fn ._law_cell_at = some K01.spCell := h.f0
@[simp] theorem lw1 {T : Tab} [h : LawT T] : lk T.fn ._law_draws = some spDraws := h.f1
@[simp] theorem lw2 {T : Tab} [h : LawT T] : lk T.fn ._law_hands = some spHandsR := h.f2
@[simp] theorem lw3 {T : Tab} [h : LawT T] : lk T.fn ._law_lines = some spLinesR := h.f3
@[simp] theorem lw4 {T : Tab} [h : LawT T] : lk T.fn ._law_take = some spTake := h.f4
@[simp] theorem lw5 {T : Tab} [h : LawT T] : lk T.fn ._law_right = some spRightL := h.f5
theorem w_law {T : Tab} [hT : LawT T] : ∀ ds M Q E, spScriptL ds M Q E → wSs T b_law (fnK c Q E) (env0 N_law.length ds) M := by
  rintro _ M Q E ⟨ns, rfl, hns, hQ⟩
  simp [b_law, N_law, env0, varE]
  refine cell_use (E := fun _ _ => False) (k := 0) fun x2 => ?_
  obtain ⟨ms, hms, hml⟩ : ∃ ms : List Int, cut (ns.map D.int) (some 1) (some 6) = ms.map .int ∧ ms.length ≤ 63 := by
    refine ⟨cut ns (some 1) (some 6), ?_, ?_⟩
    · unfold cut; simp [List.map_take, List.map_drop]
    · unfold cut; simp; omega
  rw [slD_ro, hms]
  simp only [alL_false']
  show cnd _ (alL false _ _ _)
  refine ⟨small (by simp; omega), ?_⟩
  have e0 : ([D.int x2] ++ ms.map .int) = (x2 :: ms).map .int := rfl
  rw [e0]
  simp only [alL_false']
  refine forQ_start (items := (x2 :: ms).map .int) rfl ?_
  refine forQ_ind (fun xs env M2 => ∃ (rest : List Int) (v1 v2 v3 v4 : Option D), xs = rest.map .int ∧ env = [some (.ro false (ns.map .int)), v1, v2, v3, v4])
    ⟨x2 :: ms, none, none, none, none, rfl, rfl⟩ ?_ ?_ ?_
  · intros; rfl
  · rintro x xs _ M2 F ⟨rest, v1, v2, v3, v4, e, rfl⟩ hF
    cases rest with
    | nil => cases e
    | cons k rest =>
      cases e
      refine ⟨_, rfl, ?_⟩
      simp [varE]
      refine draws_use (m := 90) (by omega) fun st a ha => ?_
      refine handsR_use (E := fun _ _ => False) (n := 12) (by omega) (by omega) up_same fun hs st1 ho h12 => ?_
      rw [up_up]
      refine linesR_use (E := fun _ _ => False) ho up_same fun ls st2 lo => ?_
      rw [up_up]
      refine take_use (by omega) up_same fun r st3 r0 r1 => ?_
      rw [up_up]
      have hm : ∃ m : Int, 0 < m ∧ atI [D.int 3, D.int 13] (r / 2) = some (.int m) := by
        have : r = 0 ∨ r = 1 ∨ r = 2 := by omega
        rcases this with rfl | rfl | rfl
        · exact ⟨3, by omega, rfl⟩
        · exact ⟨3, by omega, rfl⟩
        · exact ⟨13, by omega, rfl⟩
      obtain ⟨m, m0, em⟩ := hm
      simp [em]
      refine ⟨cdiv_lt (by omega) (by omega), ?_⟩
      refine take_use m0 up_same fun r2 st4 q0 q1 => ?_
      rw [up_up]
      refine ⟨hs, ls, r2, rfl, ho, lo, q0, frz_bl ?_⟩
      simp
      exact hF _ _ ⟨rest, _, _, _, _, rfl, rfl⟩
  · rintro _ M2 ⟨rest, v1, v2, v3, v4, e, rfl⟩
    exact rt_self (E := E) (hQ _)
end L3.K26
set_option maxRecDepth 100000
set_option maxHeartbeats 4000000
namespace L3.K26
open PySem L2 PyProof.Rows WZ
open K01 hiding b_are_hands N_are_hands P_are_hands k_are_hands
open WY hiding b_are_lines N_are_lines P_are_lines k_are_lines
open RN hiding b__law_lines N__law_lines P__law_lines k__law_lines
def T0 : Tab := { gl := [(.«MOST_HANDS_ways», .int 12), (.«MOST_HANDS_webs», .int 12), (.«MOST_NUMBER», .int 99)], sub := [(.«NoHand», [.«NoHand»])], fl := [(.«Web», [.«own_hands», .«own_lines», .«sides»]), (.«Way», [.«parents», .«bridges»])], xc := [(.«NoHand», [])], isn := [], own := [] }
theorem all_mk {l : PySem.W.OpenLaw} {w : World} {K : PySem.W.Frag} {h : Heap} {mg : PySem.Str → Option Value} {fa C0 C1 C2 f0 f1 f2 f3 f4 f5 f6 f7 f8 f9 f10 f11 f12 f13 f14 f15 f16 f17 f18 f19 f20 f21 f22 f23 f24 f25 f26 f27 f28 f29 f30 f31 : Addr} (X : K.In h) (G : h.Ns mainGlobals mg) (hfa : mg "law" = some (.ref fa))
    {tk_MOST_HANDS_ways tk_MOST_HANDS_webs tk_MOST_NUMBER : PySem.Tok} {od0 an0 od1 an1 od2 an2 od3 an3 od4 an4 od5 an5 od6 an6 od7 an7 od8 an8 od9 an9 od10 an10 od11 an11 od12 an12 od13 an13 od14 an14 od15 an15 od16 an16 od17 an17 od18 an18 od19 an19 od20 an20 od21 an21 od22 an22 od23 an23 od24 an24 od25 an25 od26 an26 od27 an27 od28 an28 od29 an29 od30 an30 od31 an31 : Option Addr} {sl0 sl1 sl2 sl3 sl4 sl5 sl6 sl7 sl8 sl9 sl10 sl11 sl12 sl13 sl14 sl15 sl16 sl17 sl18 sl19 sl20 sl21 sl22 sl23 sl24 sl25 sl26 sl27 sl28 sl29 sl30 sl31 : Array (Option Value)} {oc0 kV0 dc0 pm0 cd0 ct0 oc1 kV1 dc1 pm1 cd1 ct1 oc2 kV2 dc2 pm2 cd2 ct2 oc3 kV3 dc3 pm3 cd3 ct3 oc4 kV4 dc4 pm4 cd4 ct4 oc5 kV5 dc5 pm5 cd5 ct5 oc6 kV6 dc6 pm6 cd6 ct6 oc7 kV7 dc7 pm7 cd7 ct7 oc8 kV8 dc8 pm8 cd8 ct8 oc9 kV9 dc9 pm9 cd9 ct9 oc10 kV10 dc10 pm10 cd10 ct10 oc11 kV11 dc11 pm11 cd11 ct11 oc12 kV12 dc12 pm12 cd12 ct12 oc13 kV13 dc13 pm13 cd13 ct13 oc14 kV14 dc14 pm14 cd14 ct14 oc15 kV15 dc15 pm15 cd15 ct15 oc16 kV16 dc16 pm16 cd16 ct16 oc17 kV17 dc17 pm17 cd17 ct17 oc18 kV18 dc18 pm18 cd18 ct18 oc19 kV19 dc19 pm19 cd19 ct19 oc20 kV20 dc20 pm20 cd20 ct20 oc21 kV21 dc21 pm21 cd21 ct21 oc22 kV22 dc22 pm22 cd22 ct22 oc23 kV23 dc23 pm23 cd23 ct23 oc24 kV24 dc24 pm24 cd24 ct24 oc25 kV25 dc25 pm25 cd25 ct25 oc26 kV26 dc26 pm26 cd26 ct26 oc27 kV27 dc27 pm27 cd27 ct27 oc28 kV28 dc28 pm28 cd28 ct28 oc29 kV29 dc29 pm29 cd29 ct29 oc30 kV30 dc30 pm30 cd30 ct30 oc31 kV31 dc31 pm31 cd31 ct31 : Value}
    (g_C0 : PySem.W.nsIn K mainGlobals "NoHand" = some (some (.ref C0)))
    (g_C1 : PySem.W.nsIn K mainGlobals "Web" = some (some (.ref C1)))
    (g_C2 : PySem.W.nsIn K mainGlobals "Way" = some (some (.ref C2)))
    (i_C0 : PySem.W.isClsIn K C0 = true)
    (t_C0 : PySem.W.typeIn K (.ref C0) = some (.type "type"))
    (s_C0_bool : PySem.W.subIn K (.ref C0) (.type "bool") = some false)
    (s_C0_int : PySem.W.subIn K (.ref C0) (.type "int") = some false)
    (s_C0_str : PySem.W.subIn K (.ref C0) (.type "str") = some false)
    (s_C0_list : PySem.W.subIn K (.ref C0) (.type "list") = some false)
    (s_C0_tuple : PySem.W.subIn K (.ref C0) (.type "tuple") = some false)
    (s_C0_dict : PySem.W.subIn K (.ref C0) (.type "dict") = some false)
    (s_C0_ValueError : PySem.W.subIn K (.ref C0) (.type "ValueError") = some true)
    (s_C0_BaseException : PySem.W.subIn K (.ref C0) (.type "BaseException") = some true)
    (ha_C0 : PySem.W.findIn K (.ref C0) "__class__" = some (some (.builtin "object.__class__")))
    (hm_C0 : PySem.W.mroIn K C0 (.type "object") = some true)
    (x_C0_C0 : PySem.W.subIn K (.ref C0) (.ref C0) = some true)
    (hg_C0 : PySem.W.findIn K (.ref C0) "__getattribute__" = some (some (.builtin "BaseException.__getattribute__")))
    (hk_C0 : PySem.W.findIn K (.ref C0) "__getattr__" = some none)
    (hd_C0 : PySem.W.hasDictIn K C0 = true)
    (ex_C0 : PySem.W.excIn K C0 vtail "ValueError.__new__" = true)
    (kx_C0 : PySem.W.keepIn K (.ref C0) = true)
    (hn : PySem.W.specialIn K (.builtin "object.__class__") "__get__" = some (some (.builtin "getset_descriptor.__get__")))
    (ht : PySem.W.takesIn K (.builtin "object.__class__") = some true)
    (pg_C1 : PySem.W.plainGet K C1 Str.empty = true)
    (hd_C1 : PySem.W.hasDictIn K C1 = true)
    (po_C1 : PySem.W.plainOver K C1 = true)
    (sa_C1 : PySem.W.findIn K (.ref C1) "__setattr__" = some (some (.builtin "object.__setattr__")))
    (pg_C2 : PySem.W.plainGet K C2 Str.empty = true)
    (hd_C2 : PySem.W.hasDictIn K C2 = true)
    (po_C2 : PySem.W.plainOver K C2 = true)
    (sa_C2 : PySem.W.findIn K (.ref C2) "__setattr__" = some (some (.builtin "object.__setattr__")))
    (mk_C1 : PySem.W.makesIn K C1 = true)
    (kc_C1 : PySem.W.keepIn K (.ref C1) = true)
    (mk_C2 : PySem.W.makesIn K C2 = true)
    (kc_C2 : PySem.W.keepIn K (.ref C2) = true)
    (n_C1_own_hands : PySem.W.findIn K (.ref C1) "own_hands" = some none)
    (n_C1_own_lines : PySem.W.findIn K (.ref C1) "own_lines" = some none)
    (n_C1_sides : PySem.W.findIn K (.ref C1) "sides" = some none)
    (n_C2_parents : PySem.W.findIn K (.ref C2) "parents" = some none)
    (n_C2_bridges : PySem.W.findIn K (.ref C2) "bridges" = some none)
    (g_MOST_HANDS_ways : PySem.W.nsIn K mainGlobals "MOST_HANDS_ways" = some (some (.int 12 tk_MOST_HANDS_ways)))
    (g_MOST_HANDS_webs : PySem.W.nsIn K mainGlobals "MOST_HANDS_webs" = some (some (.int 12 tk_MOST_HANDS_webs)))
    (g_MOST_NUMBER : PySem.W.nsIn K mainGlobals "MOST_NUMBER" = some (some (.int 99 tk_MOST_NUMBER)))
    (z0 : PySem.W.nsIn K mainGlobals "len" = some none)
    (z1 : PySem.W.nsIn K mainGlobals "all" = some none)
    (z2 : PySem.W.nsIn K mainGlobals "any" = some none)
    (z3 : PySem.W.nsIn K mainGlobals "sorted" = some none)
    (z4 : PySem.W.nsIn K mainGlobals "list" = some none)
    (z5 : PySem.W.nsIn K mainGlobals "dict" = some none)
    (z6 : PySem.W.nsIn K mainGlobals "min" = some none)
    (z7 : PySem.W.nsIn K mainGlobals "max" = some none)
    (z8 : PySem.W.nsIn K mainGlobals "int" = some none)
    (z9 : PySem.W.nsIn K mainGlobals "str" = some none)
    (z10 : PySem.W.nsIn K mainGlobals "tuple" = some none)
    (z11 : PySem.W.nsIn K mainGlobals "sum" = some none)
    (z12 : PySem.W.nsIn K mainGlobals "abs" = some none)
    (z13 : PySem.W.nsIn K mainGlobals "isinstance" = some none)
    (z14 : PySem.W.nsIn K mainGlobals "range" = some none)
    (z15 : PySem.W.nsIn K mainGlobals "enumerate" = some none)
    (z16 : PySem.W.nsIn K mainGlobals "zip" = some none)
    (z17 : PySem.W.nsIn K mainGlobals "reversed" = some none)
    (z18 : PySem.W.nsIn K mainGlobals "set" = some none)
    (z19 : PySem.W.nsIn K mainGlobals "bool" = some none)
    (z20 : PySem.W.nsIn K mainGlobals "ValueError" = some none)
    (a_is_whole : PySem.W.nsIn K mainGlobals "is_whole" = some (some (.ref f0)))
    (a_are_hands : PySem.W.nsIn K mainGlobals "are_hands" = some (some (.ref f1)))
    (a_is_line : PySem.W.nsIn K mainGlobals "is_line" = some (some (.ref f2)))
    (a_are_lines : PySem.W.nsIn K mainGlobals "are_lines" = some (some (.ref f3)))
    (a_clusters_joined : PySem.W.nsIn K mainGlobals "clusters_joined" = some (some (.ref f15)))
    (a_steps_from : PySem.W.nsIn K mainGlobals "steps_from" = some (some (.ref f16)))
    (a_parent_by : PySem.W.nsIn K mainGlobals "parent_by" = some (some (.ref f17)))
    (a_by_clusters : PySem.W.nsIn K mainGlobals "by_clusters" = some (some (.ref f18)))
    (a_by_neighbours : PySem.W.nsIn K mainGlobals "by_neighbours" = some (some (.ref f19)))
    (a_by_tree : PySem.W.nsIn K mainGlobals "by_tree" = some (some (.ref f20)))
    (a__law_cell_at : PySem.W.nsIn K mainGlobals "_law_cell_at" = some (some (.ref f21)))
    (a__law_draws : PySem.W.nsIn K mainGlobals "_law_draws" = some (some (.ref f22)))
    (a__law_take : PySem.W.nsIn K mainGlobals "_law_take" = some (some (.ref f23)))
    (a__law_hands : PySem.W.nsIn K mainGlobals "_law_hands" = some (some (.ref f24)))
    (a__law_lines : PySem.W.nsIn K mainGlobals "_law_lines" = some (some (.ref f25)))
    (a__law_near : PySem.W.nsIn K mainGlobals "_law_near" = some (some (.ref f26)))
    (a__law_steps : PySem.W.nsIn K mainGlobals "_law_steps" = some (some (.ref f27)))
    (a__law_way : PySem.W.nsIn K mainGlobals "_law_way" = some (some (.ref f28)))
    (a__law_told : PySem.W.nsIn K mainGlobals "_law_told" = some (some (.ref f29)))
    (a__law_right : PySem.W.nsIn K mainGlobals "_law_right" = some (some (.ref f30)))
    (a_law : PySem.W.nsIn K mainGlobals "law" = some (some (.ref f31)))
    (a_Web___init__ : PySem.W.findIn K (.ref C1) "__init__" = some (some (.ref f4)))
    (a_Web_hands : PySem.W.findIn K (.ref C1) "hands" = some (some (.ref f5)))
    (a_Web_lines : PySem.W.findIn K (.ref C1) "lines" = some (some (.ref f6)))
    (a_Web_has_hand : PySem.W.findIn K (.ref C1) "has_hand" = some (some (.ref f7)))
    (a_Web_neighbours : PySem.W.findIn K (.ref C1) "neighbours" = some (some (.ref f8)))
    (a_Way___init__ : PySem.W.findIn K (.ref C2) "__init__" = some (some (.ref f9)))
    (a_Way_all_parents : PySem.W.findIn K (.ref C2) "all_parents" = some (some (.ref f10)))
    (a_Way_all_bridges : PySem.W.findIn K (.ref C2) "all_bridges" = some (some (.ref f11)))
    (a_Way_parent_of : PySem.W.findIn K (.ref C2) "parent_of" = some (some (.ref f12)))
    (a_Way_up_from : PySem.W.findIn K (.ref C2) "up_from" = some (some (.ref f13)))
    (a_Way_leader : PySem.W.findIn K (.ref C2) "leader" = some (some (.ref f14)))
    (l0 : K.lookup f0 = some ⟨oc0, od0, .func (PySem.W.fnOf "is_whole" "is_whole" (defArgs s_is_whole) (defBody s_is_whole) (defScope s_is_whole) .none kV0 dc0 pm0 an0 cd0 ct0), sl0⟩)
    (c0 : PySem.W.codeIn K cd0 "is_whole" = true)
    (k0 : PySem.W.keepIn K (.ref f0) = true)
    (l1 : K.lookup f1 = some ⟨oc1, od1, .func (PySem.W.fnOf "are_hands" "are_hands" (defArgs s_are_hands) (defBody s_are_hands) (defScope s_are_hands) .none kV1 dc1 pm1 an1 cd1 ct1), sl1⟩)
    (c1 : PySem.W.codeIn K cd1 "are_hands" = true)
    (k1 : PySem.W.keepIn K (.ref f1) = true)
    (l2 : K.lookup f2 = some ⟨oc2, od2, .func (PySem.W.fnOf "is_line" "is_line" (defArgs s_is_line) (defBody s_is_line) (defScope s_is_line) .none kV2 dc2 pm2 an2 cd2 ct2), sl2⟩)
    (c2 : PySem.W.codeIn K cd2 "is_line" = true)
    (k2 : PySem.W.keepIn K (.ref f2) = true)
    (l3 : K.lookup f3 = some ⟨oc3, od3, .func (PySem.W.fnOf "are_lines" "are_lines" (defArgs s_are_lines) (defBody s_are_lines) (defScope s_are_lines) .none kV3 dc3 pm3 an3 cd3 ct3), sl3⟩)
    (c3 : PySem.W.codeIn K cd3 "are_lines" = true)
    (k3 : PySem.W.keepIn K (.ref f3) = true)
    (l4 : K.lookup f4 = some ⟨oc4, od4, .func (PySem.W.fnOf "__init__" "Web.__init__" (defArgs s_Web___init__) (defBody s_Web___init__) (defScope s_Web___init__) .none kV4 dc4 pm4 an4 cd4 ct4), sl4⟩)
    (c4 : PySem.W.codeIn K cd4 "Web.__init__" = true)
    (k4 : PySem.W.keepIn K (.ref f4) = true)
    (i4 : PySem.W.isFn K (.ref f4) = true)
    (l5 : K.lookup f5 = some ⟨oc5, od5, .func (PySem.W.fnOf "hands" "Web.hands" (defArgs s_Web_hands) (defBody s_Web_hands) (defScope s_Web_hands) .none kV5 dc5 pm5 an5 cd5 ct5), sl5⟩)
    (c5 : PySem.W.codeIn K cd5 "Web.hands" = true)
    (k5 : PySem.W.keepIn K (.ref f5) = true)
    (i5 : PySem.W.isFn K (.ref f5) = true)
    (l6 : K.lookup f6 = some ⟨oc6, od6, .func (PySem.W.fnOf "lines" "Web.lines" (defArgs s_Web_lines) (defBody s_Web_lines) (defScope s_Web_lines) .none kV6 dc6 pm6 an6 cd6 ct6), sl6⟩)
    (c6 : PySem.W.codeIn K cd6 "Web.lines" = true)
    (k6 : PySem.W.keepIn K (.ref f6) = true)
    (i6 : PySem.W.isFn K (.ref f6) = true)
    (l7 : K.lookup f7 = some ⟨oc7, od7, .func (PySem.W.fnOf "has_hand" "Web.has_hand" (defArgs s_Web_has_hand) (defBody s_Web_has_hand) (defScope s_Web_has_hand) .none kV7 dc7 pm7 an7 cd7 ct7), sl7⟩)
    (c7 : PySem.W.codeIn K cd7 "Web.has_hand" = true)
    (k7 : PySem.W.keepIn K (.ref f7) = true)
    (i7 : PySem.W.isFn K (.ref f7) = true)
    (l8 : K.lookup f8 = some ⟨oc8, od8, .func (PySem.W.fnOf "neighbours" "Web.neighbours" (defArgs s_Web_neighbours) (defBody s_Web_neighbours) (defScope s_Web_neighbours) .none kV8 dc8 pm8 an8 cd8 ct8), sl8⟩)
    (c8 : PySem.W.codeIn K cd8 "Web.neighbours" = true)
    (k8 : PySem.W.keepIn K (.ref f8) = true)
    (i8 : PySem.W.isFn K (.ref f8) = true)
    (l9 : K.lookup f9 = some ⟨oc9, od9, .func (PySem.W.fnOf "__init__" "Way.__init__" (defArgs s_Way___init__) (defBody s_Way___init__) (defScope s_Way___init__) .none kV9 dc9 pm9 an9 cd9 ct9), sl9⟩)
    (c9 : PySem.W.codeIn K cd9 "Way.__init__" = true)
    (k9 : PySem.W.keepIn K (.ref f9) = true)
    (i9 : PySem.W.isFn K (.ref f9) = true)
    (l10 : K.lookup f10 = some ⟨oc10, od10, .func (PySem.W.fnOf "all_parents" "Way.all_parents" (defArgs s_Way_all_parents) (defBody s_Way_all_parents) (defScope s_Way_all_parents) .none kV10 dc10 pm10 an10 cd10 ct10), sl10⟩)
    (c10 : PySem.W.codeIn K cd10 "Way.all_parents" = true)
    (k10 : PySem.W.keepIn K (.ref f10) = true)
    (i10 : PySem.W.isFn K (.ref f10) = true)
    (l11 : K.lookup f11 = some ⟨oc11, od11, .func (PySem.W.fnOf "all_bridges" "Way.all_bridges" (defArgs s_Way_all_bridges) (defBody s_Way_all_bridges) (defScope s_Way_all_bridges) .none kV11 dc11 pm11 an11 cd11 ct11), sl11⟩)
    (c11 : PySem.W.codeIn K cd11 "Way.all_bridges" = true)
    (k11 : PySem.W.keepIn K (.ref f11) = true)
    (i11 : PySem.W.isFn K (.ref f11) = true)
    (l12 : K.lookup f12 = some ⟨oc12, od12, .func (PySem.W.fnOf "parent_of" "Way.parent_of" (defArgs s_Way_parent_of) (defBody s_Way_parent_of) (defScope s_Way_parent_of) .none kV12 dc12 pm12 an12 cd12 ct12), sl12⟩)
    (c12 : PySem.W.codeIn K cd12 "Way.parent_of" = true)
    (k12 : PySem.W.keepIn K (.ref f12) = true)
    (i12 : PySem.W.isFn K (.ref f12) = true)
    (l13 : K.lookup f13 = some ⟨oc13, od13, .func (PySem.W.fnOf "up_from" "Way.up_from" (defArgs s_Way_up_from) (defBody s_Way_up_from) (defScope s_Way_up_from) .none kV13 dc13 pm13 an13 cd13 ct13), sl13⟩)
    (c13 : PySem.W.codeIn K cd13 "Way.up_from" = true)
    (k13 : PySem.W.keepIn K (.ref f13) = true)
    (i13 : PySem.W.isFn K (.ref f13) = true)
    (l14 : K.lookup f14 = some ⟨oc14, od14, .func (PySem.W.fnOf "leader" "Way.leader" (defArgs s_Way_leader) (defBody s_Way_leader) (defScope s_Way_leader) .none kV14 dc14 pm14 an14 cd14 ct14), sl14⟩)
    (c14 : PySem.W.codeIn K cd14 "Way.leader" = true)
    (k14 : PySem.W.keepIn K (.ref f14) = true)
    (i14 : PySem.W.isFn K (.ref f14) = true)
    (l15 : K.lookup f15 = some ⟨oc15, od15, .func (PySem.W.fnOf "clusters_joined" "clusters_joined" (defArgs s_clusters_joined) (defBody s_clusters_joined) (defScope s_clusters_joined) .none kV15 dc15 pm15 an15 cd15 ct15), sl15⟩)
    (c15 : PySem.W.codeIn K cd15 "clusters_joined" = true)
    (k15 : PySem.W.keepIn K (.ref f15) = true)
    (l16 : K.lookup f16 = some ⟨oc16, od16, .func (PySem.W.fnOf "steps_from" "steps_from" (defArgs s_steps_from) (defBody s_steps_from) (defScope s_steps_from) .none kV16 dc16 pm16 an16 cd16 ct16), sl16⟩)
    (c16 : PySem.W.codeIn K cd16 "steps_from" = true)
    (k16 : PySem.W.keepIn K (.ref f16) = true)
    (l17 : K.lookup f17 = some ⟨oc17, od17, .func (PySem.W.fnOf "parent_by" "parent_by" (defArgs s_parent_by) (defBody s_parent_by) (defScope s_parent_by) .none kV17 dc17 pm17 an17 cd17 ct17), sl17⟩)
    (c17 : PySem.W.codeIn K cd17 "parent_by" = true)
    (k17 : PySem.W.keepIn K (.ref f17) = true)
    (l18 : K.lookup f18 = some ⟨oc18, od18, .func (PySem.W.fnOf "by_clusters" "by_clusters" (defArgs s_by_clusters) (defBody s_by_clusters) (defScope s_by_clusters) .none kV18 dc18 pm18 an18 cd18 ct18), sl18⟩)
    (c18 : PySem.W.codeIn K cd18 "by_clusters" = true)
    (k18 : PySem.W.keepIn K (.ref f18) = true)
    (l19 : K.lookup f19 = some ⟨oc19, od19, .func (PySem.W.fnOf "by_neighbours" "by_neighbours" (defArgs s_by_neighbours) (defBody s_by_neighbours) (defScope s_by_neighbours) .none kV19 dc19 pm19 an19 cd19 ct19), sl19⟩)
    (c19 : PySem.W.codeIn K cd19 "by_neighbours" = true)
    (k19 : PySem.W.keepIn K (.ref f19) = true)
    (l20 : K.lookup f20 = some ⟨oc20, od20, .func (PySem.W.fnOf "by_tree" "by_tree" (defArgs s_by_tree) (defBody s_by_tree) (defScope s_by_tree) .none kV20 dc20 pm20 an20 cd20 ct20), sl20⟩)
    (c20 : PySem.W.codeIn K cd20 "by_tree" = true)
    (k20 : PySem.W.keepIn K (.ref f20) = true)
    (l21 : K.lookup f21 = some ⟨oc21, od21, .func (PySem.W.fnOf "_law_cell_at" "_law_cell_at" (defArgs s__law_cell_at) (defBody s__law_cell_at) (defScope s__law_cell_at) .none kV21 dc21 pm21 an21 cd21 ct21), sl21⟩)
    (c21 : PySem.W.codeIn K cd21 "_law_cell_at" = true)
    (k21 : PySem.W.keepIn K (.ref f21) = true)
    (l22 : K.lookup f22 = some ⟨oc22, od22, .func (PySem.W.fnOf "_law_draws" "_law_draws" (defArgs s__law_draws) (defBody s__law_draws) (defScope s__law_draws) .none kV22 dc22 pm22 an22 cd22 ct22), sl22⟩)
    (c22 : PySem.W.codeIn K cd22 "_law_draws" = true)
    (k22 : PySem.W.keepIn K (.ref f22) = true)
    (l23 : K.lookup f23 = some ⟨oc23, od23, .func (PySem.W.fnOf "_law_take" "_law_take" (defArgs s__law_take) (defBody s__law_take) (defScope s__law_take) .none kV23 dc23 pm23 an23 cd23 ct23), sl23⟩)
    (c23 : PySem.W.codeIn K cd23 "_law_take" = true)
    (k23 : PySem.W.keepIn K (.ref f23) = true)
    (l24 : K.lookup f24 = some ⟨oc24, od24, .func (PySem.W.fnOf "_law_hands" "_law_hands" (defArgs s__law_hands) (defBody s__law_hands) (defScope s__law_hands) .none kV24 dc24 pm24 an24 cd24 ct24), sl24⟩)
    (c24 : PySem.W.codeIn K cd24 "_law_hands" = true)
    (k24 : PySem.W.keepIn K (.ref f24) = true)
    (l25 : K.lookup f25 = some ⟨oc25, od25, .func (PySem.W.fnOf "_law_lines" "_law_lines" (defArgs s__law_lines) (defBody s__law_lines) (defScope s__law_lines) .none kV25 dc25 pm25 an25 cd25 ct25), sl25⟩)
    (c25 : PySem.W.codeIn K cd25 "_law_lines" = true)
    (k25 : PySem.W.keepIn K (.ref f25) = true)
    (l26 : K.lookup f26 = some ⟨oc26, od26, .func (PySem.W.fnOf "_law_near" "_law_near" (defArgs s__law_near) (defBody s__law_near) (defScope s__law_near) .none kV26 dc26 pm26 an26 cd26 ct26), sl26⟩)
    (c26 : PySem.W.codeIn K cd26 "_law_near" = true)
    (k26 : PySem.W.keepIn K (.ref f26) = true)
    (l27 : K.lookup f27 = some ⟨oc27, od27, .func (PySem.W.fnOf "_law_steps" "_law_steps" (defArgs s__law_steps) (defBody s__law_steps) (defScope s__law_steps) .none kV27 dc27 pm27 an27 cd27 ct27), sl27⟩)
    (c27 : PySem.W.codeIn K cd27 "_law_steps" = true)
    (k27 : PySem.W.keepIn K (.ref f27) = true)
    (l28 : K.lookup f28 = some ⟨oc28, od28, .func (PySem.W.fnOf "_law_way" "_law_way" (defArgs s__law_way) (defBody s__law_way) (defScope s__law_way) .none kV28 dc28 pm28 an28 cd28 ct28), sl28⟩)
    (c28 : PySem.W.codeIn K cd28 "_law_way" = true)
    (k28 : PySem.W.keepIn K (.ref f28) = true)
    (l29 : K.lookup f29 = some ⟨oc29, od29, .func (PySem.W.fnOf "_law_told" "_law_told" (defArgs s__law_told) (defBody s__law_told) (defScope s__law_told) .none kV29 dc29 pm29 an29 cd29 ct29), sl29⟩)
    (c29 : PySem.W.codeIn K cd29 "_law_told" = true)
    (k29 : PySem.W.keepIn K (.ref f29) = true)
    (l30 : K.lookup f30 = some ⟨oc30, od30, .func (PySem.W.fnOf "_law_right" "_law_right" (defArgs s__law_right) (defBody s__law_right) (defScope s__law_right) .none kV30 dc30 pm30 an30 cd30 ct30), sl30⟩)
    (c30 : PySem.W.codeIn K cd30 "_law_right" = true)
    (k30 : PySem.W.keepIn K (.ref f30) = true)
    (l31 : K.lookup f31 = some ⟨oc31, od31, .func (PySem.W.fnOf "law" "law" (defArgs s_law) (defBody s_law) (defScope s_law) .none kV31 dc31 pm31 an31 cd31 ct31), sl31⟩)
    (c31 : PySem.W.codeIn K cd31 "law" = true)
    (k31 : PySem.W.keepIn K (.ref f31) = true) :
    ∃ fd : FuncData, (∀ (s : Shared) (v : Value), BindsTo s fd ⟨[v], []⟩ [("_law_script", v)]) ∧ ∀ base : Heap, K.In base → base.Ns mainGlobals mg → FnOk l.prog w K mg base (L2.CX l.prog w) 9 fa fd ["_law_script"] (spEnd K) := by
  have e := hfa.symm.trans (PySem.W.mg_of X G a_law)
  cases e
  let c : Cfg := (mkC K [(.«NoHand», C0)] [(.«Web», C1), (.«Way», C2)] T0.fl)
  have X_C0 : XCls K C0 := ⟨i_C0, t_C0, ⟨hg_C0, hk_C0, s_C0_BaseException, hd_C0, ha_C0, hn, ht, hm_C0⟩, bt_all s_C0_bool s_C0_int s_C0_str s_C0_list s_C0_tuple s_C0_dict s_C0_ValueError⟩
  have Y_C1 : Cls K C1 := ⟨pg_C1, hd_C1, po_C1, sa_C1⟩
  have Y_C2 : Cls K C2 := ⟨pg_C2, hd_C2, po_C2, sa_C2⟩
  have W0 : Wok K mg c T0 := by
    refine wok_of2 (fun n hn => ?_) (fun n d h => ?_) (List.forall_mem_cons.mpr ⟨⟨PySem.W.mg_of X G g_C0, .inl ⟨X_C0, rfl⟩⟩, (fun _ h => nomatch h)⟩) (List.forall_mem_cons.mpr ⟨(fun l h => by have e : l = [.«NoHand»] := (by rcases h with h | h <;> first | (exact (Option.some.inj h).symm) | cases h); subst e; exact (List.forall_mem_cons.mpr ⟨⟨x_C0_C0, fun _ => (by decide : Nm.«NoHand» ∈ ([.«NoHand»] : List Nm))⟩, (fun _ h => nomatch h)⟩)), (fun _ h => nomatch h)⟩) (List.forall_mem_cons.mpr ⟨(fun h => nomatch h), (fun _ h => nomatch h)⟩) (fun n l h => ?_) (fun n h => ?_) (List.forall_mem_cons.mpr ⟨⟨Y_C1, by show (([.«own_hands», .«own_lines», .«sides»] : List Nm).map Nm.s).Nodup; decide +kernel, (List.forall_mem_cons.mpr ⟨n_C1_own_hands, (List.forall_mem_cons.mpr ⟨n_C1_own_lines, (List.forall_mem_cons.mpr ⟨n_C1_sides, (fun _ h => nomatch h)⟩)⟩)⟩)⟩, (List.forall_mem_cons.mpr ⟨⟨Y_C2, by show (([.«parents», .«bridges»] : List Nm).map Nm.s).Nodup; decide +kernel, (List.forall_mem_cons.mpr ⟨n_C2_parents, (List.forall_mem_cons.mpr ⟨n_C2_bridges, (fun _ h => nomatch h)⟩)⟩)⟩, (fun _ h => nomatch h)⟩)⟩) (fun n C h h2 => ?_) (fun n fs h => ?_)
    · exact (show ∀ n ∈ bnames, mg n = none from (List.forall_mem_cons.mpr ⟨PySem.W.mg_none_of X G z0, (List.forall_mem_cons.mpr ⟨PySem.W.mg_none_of X G z1, (List.forall_mem_cons.mpr ⟨PySem.W.mg_none_of X G z2, (List.forall_mem_cons.mpr ⟨PySem.W.mg_none_of X G z3, (List.forall_mem_cons.mpr ⟨PySem.W.mg_none_of X G z4, (List.forall_mem_cons.mpr ⟨PySem.W.mg_none_of X G z5, (List.forall_mem_cons.mpr ⟨PySem.W.mg_none_of X G z6, (List.forall_mem_cons.mpr ⟨PySem.W.mg_none_of X G z7, (List.forall_mem_cons.mpr ⟨PySem.W.mg_none_of X G z8, (List.forall_mem_cons.mpr ⟨PySem.W.mg_none_of X G z9, (List.forall_mem_cons.mpr ⟨PySem.W.mg_none_of X G z10, (List.forall_mem_cons.mpr ⟨PySem.W.mg_none_of X G z11, (List.forall_mem_cons.mpr ⟨PySem.W.mg_none_of X G z12, (List.forall_mem_cons.mpr ⟨PySem.W.mg_none_of X G z13, (List.forall_mem_cons.mpr ⟨PySem.W.mg_none_of X G z14, (List.forall_mem_cons.mpr ⟨PySem.W.mg_none_of X G z15, (List.forall_mem_cons.mpr ⟨PySem.W.mg_none_of X G z16, (List.forall_mem_cons.mpr ⟨PySem.W.mg_none_of X G z17, (List.forall_mem_cons.mpr ⟨PySem.W.mg_none_of X G z18, (List.forall_mem_cons.mpr ⟨PySem.W.mg_none_of X G z19, (List.forall_mem_cons.mpr ⟨PySem.W.mg_none_of X G z20, (fun _ h => nomatch h)⟩)⟩)⟩)⟩)⟩)⟩)⟩)⟩)⟩)⟩)⟩)⟩)⟩)⟩)⟩)⟩)⟩)⟩)⟩)⟩)⟩)) n hn
    · have := lkm h
      simp only [T0, List.mem_cons, List.not_mem_nil, or_false, Prod.mk.injEq] at this
      rcases this with ⟨rfl, rfl⟩ | ⟨rfl, rfl⟩ | ⟨rfl, rfl⟩
      · exact ⟨_, .int 12, PySem.W.mg_of X G g_MOST_HANDS_ways, ⟨tk_MOST_HANDS_ways, rfl⟩, fun _ _ _ => .int _⟩
      · exact ⟨_, .int 12, PySem.W.mg_of X G g_MOST_HANDS_webs, ⟨tk_MOST_HANDS_webs, rfl⟩, fun _ _ _ => .int _⟩
      · exact ⟨_, .int 99, PySem.W.mg_of X G g_MOST_NUMBER, ⟨tk_MOST_NUMBER, rfl⟩, fun _ _ _ => .int _⟩
    · have := lkm h
      simp only [T0, List.mem_cons, List.not_mem_nil, or_false, Prod.mk.injEq] at this
      rcases this with ⟨rfl, rfl⟩
      · rfl
    · simp only [T0, List.mem_cons, List.not_mem_nil, or_false] at h
    · have := lkm h
      simp only [List.mem_cons, List.mem_cons, List.not_mem_nil, or_false, Prod.mk.injEq] at this
      rcases this with ⟨rfl, rfl⟩ | ⟨rfl, rfl⟩
      · first | rfl | cases h2
      · first | rfl | cases h2
    · have := lkm h
      simp only [T0, List.mem_cons, List.not_mem_nil, or_false, Prod.mk.injEq] at this
      rcases this with ⟨rfl, rfl⟩
      · exact ⟨rfl, C0, rfl, X_C0, ex_C0, kx_C0⟩
  have F0 := fun_mk (st := s_is_whole) l0 c0 k0
  have b0 := F0.binds (ps := P_is_whole) fun _ _ _ _ _ _ us hl => match us, hl with | [_], _ => rfl
  have F1 := fun_mk (st := s_are_hands) l1 c1 k1
  have b1 := F1.binds (ps := P_are_hands) fun _ _ _ _ _ _ us hl => match us, hl with | [_], _ => rfl
  have F2 := fun_mk (st := s_is_line) l2 c2 k2
  have b2 := F2.binds (ps := P_is_line) fun _ _ _ _ _ _ us hl => match us, hl with | [_, _], _ => rfl
  have F3 := fun_mk (st := s_are_lines) l3 c3 k3
  have b3 := F3.binds (ps := P_are_lines) fun _ _ _ _ _ _ us hl => match us, hl with | [_, _], _ => rfl
  have F4 := fun_mk (st := s_Web___init__) l4 c4 k4
  have b4 := F4.binds (ps := P_Web___init__) fun _ _ _ _ _ _ us hl => match us, hl with | [_, _, _], _ => rfl
  have F5 := fun_mk (st := s_Web_hands) l5 c5 k5
  have b5 := F5.binds (ps := P_Web_hands) fun _ _ _ _ _ _ us hl => match us, hl with | [_], _ => rfl
  have F6 := fun_mk (st := s_Web_lines) l6 c6 k6
  have b6 := F6.binds (ps := P_Web_lines) fun _ _ _ _ _ _ us hl => match us, hl with | [_], _ => rfl
  have F7 := fun_mk (st := s_Web_has_hand) l7 c7 k7
  have b7 := F7.binds (ps := P_Web_has_hand) fun _ _ _ _ _ _ us hl => match us, hl with | [_, _], _ => rfl
  have F8 := fun_mk (st := s_Web_neighbours) l8 c8 k8
  have b8 := F8.binds (ps := P_Web_neighbours) fun _ _ _ _ _ _ us hl => match us, hl with | [_, _], _ => rfl
  have F9 := fun_mk (st := s_Way___init__) l9 c9 k9
  have b9 := F9.binds (ps := P_Way___init__) fun _ _ _ _ _ _ us hl => match us, hl with | [_, _, _], _ => rfl
  have F10 := fun_mk (st := s_Way_all_parents) l10 c10 k10
  have b10 := F10.binds (ps := P_Way_all_parents) fun _ _ _ _ _ _ us hl => match us, hl with | [_], _ => rfl
  have F11 := fun_mk (st := s_Way_all_bridges) l11 c11 k11
  have b11 := F11.binds (ps := P_Way_all_bridges) fun _ _ _ _ _ _ us hl => match us, hl with | [_], _ => rfl
  have F12 := fun_mk (st := s_Way_parent_of) l12 c12 k12
  have b12 := F12.binds (ps := P_Way_parent_of) fun _ _ _ _ _ _ us hl => match us, hl with | [_, _], _ => rfl
  have F13 := fun_mk (st := s_Way_up_from) l13 c13 k13
  have b13 := F13.binds (ps := P_Way_up_from) fun _ _ _ _ _ _ us hl => match us, hl with | [_, _], _ => rfl
  have F14 := fun_mk (st := s_Way_leader) l14 c14 k14
  have b14 := F14.binds (ps := P_Way_leader) fun _ _ _ _ _ _ us hl => match us, hl with | [_, _], _ => rfl
  have F15 := fun_mk (st := s_clusters_joined) l15 c15 k15
  have b15 := F15.binds (ps := P_clusters_joined) fun _ _ _ _ _ _ us hl => match us, hl with | [_, _], _ => rfl
  have F16 := fun_mk (st := s_steps_from) l16 c16 k16
  have b16 := F16.binds (ps := P_steps_from) fun _ _ _ _ _ _ us hl => match us, hl with | [_, _, _, _], _ => rfl
  have F17 := fun_mk (st := s_parent_by) l17 c17 k17
  have b17 := F17.binds (ps := P_parent_by) fun _ _ _ _ _ _ us hl => match us, hl with | [_, _, _], _ => rfl
  have F18 := fun_mk (st := s_by_clusters) l18 c18 k18
  have b18 := F18.binds (ps := P_by_clusters) fun _ _ _ _ _ _ us hl => match us, hl with | [_, _], _ => rfl
  have F19 := fun_mk (st := s_by_neighbours) l19 c19 k19
  have b19 := F19.binds (ps := P_by_neighbours) fun _ _ _ _ _ _ us hl => match us, hl with | [_], _ => rfl
  have F20 := fun_mk (st := s_by_tree) l20 c20 k20
  have b20 := F20.binds (ps := P_by_tree) fun _ _ _ _ _ _ us hl => match us, hl with | [_], _ => rfl
  have F21 := fun_mk (st := s__law_cell_at) l21 c21 k21
  have b21 := F21.binds (ps := P__law_cell_at) fun _ _ _ _ _ _ us hl => match us, hl with | [_, _], _ => rfl
  have F22 := fun_mk (st := s__law_draws) l22 c22 k22
  have b22 := F22.binds (ps := P__law_draws) fun _ _ _ _ _ _ us hl => match us, hl with | [_, _], _ => rfl
  have F23 := fun_mk (st := s__law_take) l23 c23 k23
  have b23 := F23.binds (ps := P__law_take) fun _ _ _ _ _ _ us hl => match us, hl with | [_, _], _ => rfl
  have F24 := fun_mk (st := s__law_hands) l24 c24 k24
  have b24 := F24.binds (ps := P__law_hands) fun _ _ _ _ _ _ us hl => match us, hl with | [_, _], _ => rfl
  have F25 := fun_mk (st := s__law_lines) l25 c25 k25
  have b25 := F25.binds (ps := P__law_lines) fun _ _ _ _ _ _ us hl => match us, hl with | [_, _], _ => rfl
  have F26 := fun_mk (st := s__law_near) l26 c26 k26
  have b26 := F26.binds (ps := P__law_near) fun _ _ _ _ _ _ us hl => match us, hl with | [_, _], _ => rfl
  have F27 := fun_mk (st := s__law_steps) l27 c27 k27
  have b27 := F27.binds (ps := P__law_steps) fun _ _ _ _ _ _ us hl => match us, hl with | [_, _, _, _], _ => rfl
  have F28 := fun_mk (st := s__law_way) l28 c28 k28
  have b28 := F28.binds (ps := P__law_way) fun _ _ _ _ _ _ us hl => match us, hl with | [_, _, _], _ => rfl
  have F29 := fun_mk (st := s__law_told) l29 c29 k29
  have b29 := F29.binds (ps := P__law_told) fun _ _ _ _ _ _ us hl => match us, hl with | [_], _ => rfl
  have F30 := fun_mk (st := s__law_right) l30 c30 k30
  have b30 := F30.binds (ps := P__law_right) fun _ _ _ _ _ _ us hl => match us, hl with | [_, _, _], _ => rfl
  have F31 := fun_mk (st := s_law) l31 c31 k31
  have b31 := F31.binds (ps := P_law) fun _ _ _ _ _ _ us hl => match us, hl with | [_], _ => rfl
  refine ⟨PySem.W.fnOf "law" "law" (defArgs s_law) (defBody s_law) (defScope s_law) .none kV31 dc31 pm31 an31 cd31 ct31, fun s v => .of_eq rfl, fun base _ _ => ?_⟩
  have K0 : Tok l.prog w K mg base c { T0 with fn := [], mt := [], cl := [] } 1 := tok_of (k := 0) (fun _ h => nomatch h) (fun _ h => nomatch h) (fun _ h => nomatch h)
  have G_is_whole : FnOk l.prog w K mg base (L2.CX l.prog w) 2 f0 (PySem.W.fnOf "is_whole" "is_whole" (defArgs s_is_whole) (defBody s_is_whole) (defScope s_is_whole) .none kV0 dc0 pm0 an0 cd0 ct0) P_is_whole (toSp c spWhole) := (fn_l3 (W0.tab _ _ _) F0 sc_is_whole m_is_whole k_is_whole K0 (by rintro _ M Q E ⟨_, rfl, _⟩; rfl) (fun ds M Q E h => ⟨_, fnK_ok, w_whole ds M Q E h⟩))
  have K1 : Tok l.prog w K mg base c { T0 with fn := [(.«is_whole», spWhole)], mt := [], cl := [] } 2 := tok_of (k := 1) (List.forall_mem_cons.mpr ⟨FnG.of G_is_whole F0 (PySem.W.mg_of X G a_is_whole) b0 (by omega), (fun _ h => nomatch h)⟩) (fun _ h => nomatch h) (fun _ h => nomatch h)
  have G_are_hands : FnOk l.prog w K mg base (L2.CX l.prog w) 3 f1 (PySem.W.fnOf "are_hands" "are_hands" (defArgs s_are_hands) (defBody s_are_hands) (defScope s_are_hands) .none kV1 dc1 pm1 an1 cd1 ct1) P_are_hands (toSp c spHandsOk) := (fn_l3 (W0.tab _ _ _) F1 sc_are_hands m_are_hands k_are_hands K1 (by rintro _ M Q E ⟨_, _, rfl, _⟩; rfl) (fun ds M Q E h => ⟨_, fnK_ok, (@WZ.w_hands c _ (by exact ⟨rfl, rfl, rfl⟩)) ds M Q E h⟩))
  have K2 : Tok l.prog w K mg base c { T0 with fn := [(.«is_whole», spWhole)], mt := [], cl := [] } 2 := tok_of (k := 1) (List.forall_mem_cons.mpr ⟨FnG.of G_is_whole F0 (PySem.W.mg_of X G a_is_whole) b0 (by omega), (fun _ h => nomatch h)⟩) (fun _ h => nomatch h) (fun _ h => nomatch h)
  have G_is_line : FnOk l.prog w K mg base (L2.CX l.prog w) 3 f2 (PySem.W.fnOf "is_line" "is_line" (defArgs s_is_line) (defBody s_is_line) (defScope s_is_line) .none kV2 dc2 pm2 an2 cd2 ct2) P_is_line (toSp c spLineOk) := (fn_l3 (W0.tab _ _ _) F2 sc_is_line m_is_line k_is_line K2 (by rintro _ M Q E ⟨_, _, _, rfl, _⟩; rfl) (fun ds M Q E h => ⟨_, fnK_ok, (@w_line c _ (by exact ⟨rfl⟩)) ds M Q E h⟩))
  have K3 : Tok l.prog w K mg base c { T0 with fn := [(.«is_line», spLineOk)], mt := [], cl := [] } 3 := tok_of (k := 2) (List.forall_mem_cons.mpr ⟨FnG.of G_is_line F2 (PySem.W.mg_of X G a_is_line) b2 (by omega), (fun _ h => nomatch h)⟩) (fun _ h => nomatch h) (fun _ h => nomatch h)
  have G_are_lines : FnOk l.prog w K mg base (L2.CX l.prog w) 4 f3 (PySem.W.fnOf "are_lines" "are_lines" (defArgs s_are_lines) (defBody s_are_lines) (defScope s_are_lines) .none kV3 dc3 pm3 an3 cd3 ct3) P_are_lines (toSp c spLinesOk) := (fn_l3 (W0.tab _ _ _) F3 sc_are_lines m_are_lines k_are_lines K3 (by rintro _ M Q E ⟨_, _, _, _, rfl, _⟩; rfl) (fun ds M Q E h => ⟨_, fnK_ok, (@w_lines c _ (by exact ⟨rfl⟩)) ds M Q E h⟩))
  have K4 : Tok l.prog w K mg base c { T0 with fn := [(.«are_hands», spHandsOk), (.«are_lines», spLinesOk)], mt := [], cl := [] } 4 := tok_of (k := 3) (List.forall_mem_cons.mpr ⟨FnG.of G_are_hands F1 (PySem.W.mg_of X G a_are_hands) b1 (by omega), (List.forall_mem_cons.mpr ⟨FnG.of G_are_lines F3 (PySem.W.mg_of X G a_are_lines) b3 (by omega), (fun _ h => nomatch h)⟩)⟩) (fun _ h => nomatch h) (fun _ h => nomatch h)
  have G_Web___init__ : FnOk l.prog w K mg base (L2.CX l.prog w) 5 f4 (PySem.W.fnOf "__init__" "Web.__init__" (defArgs s_Web___init__) (defBody s_Web___init__) (defScope s_Web___init__) .none kV4 dc4 pm4 an4 cd4 ct4) P_Web___init__ (toSp c (mkI .«Web» c spWeb)) := (fn_l3 (W0.tab _ _ _) F4 sc_Web___init__ m_Web___init__ k_Web___init__ K4 (by rintro _ M Q E ⟨x, ds, M0, Q0, rfl, _, _, ⟨_, _, _, _, rfl, _⟩, _⟩; rfl) (by rintro _ _ Q E ⟨x, ds, M0, Q0, rfl, hx, rfl, h, hq⟩; exact ⟨_, mkK_ok (n := .«Web») (sp := spWeb) (ds' := []) (M' := M0) hq, (@w_init c _ (by exact ⟨rfl, rfl, rfl⟩)) x ds M0 Q0 E h hx⟩))
  have K5 : Tok l.prog w K mg base c { T0 with fn := [], mt := [], cl := [] } 1 := tok_of (k := 0) (fun _ h => nomatch h) (fun _ h => nomatch h) (fun _ h => nomatch h)
  have G_Web_hands : FnOk l.prog w K mg base (L2.CX l.prog w) 2 f5 (PySem.W.fnOf "hands" "Web.hands" (defArgs s_Web_hands) (defBody s_Web_hands) (defScope s_Web_hands) .none kV5 dc5 pm5 an5 cd5 ct5) P_Web_hands (toSp c spHands) := (fn_l3 (W0.tab _ _ _) F5 sc_Web_hands m_Web_hands k_Web_hands K5 (by rintro _ M Q E ⟨_, _, rfl, _⟩; rfl) (fun ds M Q E h => ⟨_, fnK_ok, w_whands ds M Q E h⟩))
  have K6 : Tok l.prog w K mg base c { T0 with fn := [], mt := [], cl := [] } 1 := tok_of (k := 0) (fun _ h => nomatch h) (fun _ h => nomatch h) (fun _ h => nomatch h)
  have G_Web_lines : FnOk l.prog w K mg base (L2.CX l.prog w) 2 f6 (PySem.W.fnOf "lines" "Web.lines" (defArgs s_Web_lines) (defBody s_Web_lines) (defScope s_Web_lines) .none kV6 dc6 pm6 an6 cd6 ct6) P_Web_lines (toSp c spLines) := (fn_l3 (W0.tab _ _ _) F6 sc_Web_lines m_Web_lines k_Web_lines K6 (by rintro _ M Q E ⟨_, _, rfl, _⟩; rfl) (fun ds M Q E h => ⟨_, fnK_ok, w_wlines ds M Q E h⟩))
  have K7 : Tok l.prog w K mg base c { T0 with fn := [(.«is_whole», spWhole)], mt := [], cl := [] } 2 := tok_of (k := 1) (List.forall_mem_cons.mpr ⟨FnG.of G_is_whole F0 (PySem.W.mg_of X G a_is_whole) b0 (by omega), (fun _ h => nomatch h)⟩) (fun _ h => nomatch h) (fun _ h => nomatch h)
  have G_Web_has_hand : FnOk l.prog w K mg base (L2.CX l.prog w) 3 f7 (PySem.W.fnOf "has_hand" "Web.has_hand" (defArgs s_Web_has_hand) (defBody s_Web_has_hand) (defScope s_Web_has_hand) .none kV7 dc7 pm7 an7 cd7 ct7) P_Web_has_hand (toSp c spHas) := (fn_l3 (W0.tab _ _ _) F7 sc_Web_has_hand m_Web_has_hand k_Web_has_hand K7 (by rintro _ M Q E ⟨_, _, _, rfl, _⟩; rfl) (fun ds M Q E h => ⟨_, fnK_ok, (@w_has c _ (by exact ⟨rfl⟩)) ds M Q E h⟩))
  have K8 : Tok l.prog w K mg base c { T0 with fn := [], mt := [(.«Web», .«has_hand», spHas)], cl := [] } 3 := tok_of (k := 2) (fun _ h => nomatch h) (List.forall_mem_cons.mpr ⟨⟨by show ∀ f ∈ ([.«own_hands», .«own_lines», .«sides»] : List Nm), f.s ≠ Nm.s .«has_hand»; decide +kernel, fun C hC => by have hC : some C1 = some C := hC; cases hC; exact ⟨_, _, _, G_Web_has_hand.mono (by omega), ⟨a_Web_has_hand, i7, k7⟩, b7⟩⟩, (fun _ h => nomatch h)⟩) (fun _ h => nomatch h)
  have G_Web_neighbours : FnOk l.prog w K mg base (L2.CX l.prog w) 4 f8 (PySem.W.fnOf "neighbours" "Web.neighbours" (defArgs s_Web_neighbours) (defBody s_Web_neighbours) (defScope s_Web_neighbours) .none kV8 dc8 pm8 an8 cd8 ct8) P_Web_neighbours (toSp c spNear) := (fn_l3 (W0.tab _ _ _) F8 sc_Web_neighbours m_Web_neighbours k_Web_neighbours K8 (by rintro _ M Q E ⟨_, _, _, rfl, _⟩; rfl) (fun ds M Q E h => ⟨_, fnK_ok, (@w_near c _ (by exact ⟨rfl⟩) rfl) ds M Q E h⟩))
  have K9 : Tok l.prog w K mg base c { T0 with fn := [], mt := [], cl := [] } 1 := tok_of (k := 0) (fun _ h => nomatch h) (fun _ h => nomatch h) (fun _ h => nomatch h)
  have G_Way___init__ : FnOk l.prog w K mg base (L2.CX l.prog w) 2 f9 (PySem.W.fnOf "__init__" "Way.__init__" (defArgs s_Way___init__) (defBody s_Way___init__) (defScope s_Way___init__) .none kV9 dc9 pm9 an9 cd9 ct9) P_Way___init__ (toSp c (mkI .«Way» c spWay)) := (fn_l3 (W0.tab _ _ _) F9 sc_Way___init__ m_Way___init__ k_Way___init__ K9 (by rintro _ M Q E ⟨x, ds, M0, Q0, rfl, _, _, ⟨_, _, _, _, _, rfl, _⟩, _⟩; rfl) (by rintro _ _ Q E ⟨x, ds, M0, Q0, rfl, hx, rfl, h, hq⟩; exact ⟨_, mkK_ok (n := .«Way») (sp := spWay) (ds' := []) (M' := M0) hq, (@w_way c _ (by exact rfl)) x ds M0 Q0 E h hx⟩))
  have K10 : Tok l.prog w K mg base c { T0 with fn := [], mt := [], cl := [] } 1 := tok_of (k := 0) (fun _ h => nomatch h) (fun _ h => nomatch h) (fun _ h => nomatch h)
  have G_Way_all_parents : FnOk l.prog w K mg base (L2.CX l.prog w) 2 f10 (PySem.W.fnOf "all_parents" "Way.all_parents" (defArgs s_Way_all_parents) (defBody s_Way_all_parents) (defScope s_Way_all_parents) .none kV10 dc10 pm10 an10 cd10 ct10) P_Way_all_parents (toSp c spAllP) := (fn_l3 (W0.tab _ _ _) F10 sc_Way_all_parents m_Way_all_parents k_Way_all_parents K10 (by rintro _ M Q E ⟨_, _, _, rfl, _⟩; rfl) (fun ds M Q E h => ⟨_, fnK_ok, w_allP ds M Q E h⟩))
  have K11 : Tok l.prog w K mg base c { T0 with fn := [], mt := [], cl := [] } 1 := tok_of (k := 0) (fun _ h => nomatch h) (fun _ h => nomatch h) (fun _ h => nomatch h)
  have G_Way_all_bridges : FnOk l.prog w K mg base (L2.CX l.prog w) 2 f11 (PySem.W.fnOf "all_bridges" "Way.all_bridges" (defArgs s_Way_all_bridges) (defBody s_Way_all_bridges) (defScope s_Way_all_bridges) .none kV11 dc11 pm11 an11 cd11 ct11) P_Way_all_bridges (toSp c spAllB) := (fn_l3 (W0.tab _ _ _) F11 sc_Way_all_bridges m_Way_all_bridges k_Way_all_bridges K11 (by rintro _ M Q E ⟨_, _, _, rfl, _⟩; rfl) (fun ds M Q E h => ⟨_, fnK_ok, w_allB ds M Q E h⟩))
  have K12 : Tok l.prog w K mg base c { T0 with fn := [], mt := [], cl := [] } 1 := tok_of (k := 0) (fun _ h => nomatch h) (fun _ h => nomatch h) (fun _ h => nomatch h)
  have G_Way_parent_of : FnOk l.prog w K mg base (L2.CX l.prog w) 2 f12 (PySem.W.fnOf "parent_of" "Way.parent_of" (defArgs s_Way_parent_of) (defBody s_Way_parent_of) (defScope s_Way_parent_of) .none kV12 dc12 pm12 an12 cd12 ct12) P_Way_parent_of (toSp c spParent) := (fn_l3 (W0.tab _ _ _) F12 sc_Way_parent_of m_Way_parent_of k_Way_parent_of K12 (by rintro _ M Q E ⟨_, _, _, _, rfl, _⟩; rfl) (fun ds M Q E h => ⟨_, fnK_ok, w_parent ds M Q E h⟩))
  have K13 : Tok l.prog w K mg base c { T0 with fn := [], mt := [(.«Way», .«parent_of», spParent)], cl := [] } 2 := tok_of (k := 1) (fun _ h => nomatch h) (List.forall_mem_cons.mpr ⟨⟨by show ∀ f ∈ ([.«parents», .«bridges»] : List Nm), f.s ≠ Nm.s .«parent_of»; decide +kernel, fun C hC => by have hC : some C2 = some C := hC; cases hC; exact ⟨_, _, _, G_Way_parent_of.mono (by omega), ⟨a_Way_parent_of, i12, k12⟩, b12⟩⟩, (fun _ h => nomatch h)⟩) (fun _ h => nomatch h)
  have G_Way_up_from : FnOk l.prog w K mg base (L2.CX l.prog w) 3 f13 (PySem.W.fnOf "up_from" "Way.up_from" (defArgs s_Way_up_from) (defBody s_Way_up_from) (defScope s_Way_up_from) .none kV13 dc13 pm13 an13 cd13 ct13) P_Way_up_from (toSp c spUp) := (fn_l3 (W0.tab _ _ _) F13 sc_Way_up_from m_Way_up_from k_Way_up_from K13 (by rintro _ M Q E ⟨_, _, _, _, _, rfl, _⟩; rfl) (fun ds M Q E h => ⟨_, fnK_ok, (@w_up c _ (by exact ⟨rfl⟩)) ds M Q E h⟩))
  have K14 : Tok l.prog w K mg base c { T0 with fn := [], mt := [(.«Way», .«up_from», spUp)], cl := [] } 3 := tok_of (k := 2) (fun _ h => nomatch h) (List.forall_mem_cons.mpr ⟨⟨by show ∀ f ∈ ([.«parents», .«bridges»] : List Nm), f.s ≠ Nm.s .«up_from»; decide +kernel, fun C hC => by have hC : some C2 = some C := hC; cases hC; exact ⟨_, _, _, G_Way_up_from.mono (by omega), ⟨a_Way_up_from, i13, k13⟩, b13⟩⟩, (fun _ h => nomatch h)⟩) (fun _ h => nomatch h)
  have G_Way_leader : FnOk l.prog w K mg base (L2.CX l.prog w) 4 f14 (PySem.W.fnOf "leader" "Way.leader" (defArgs s_Way_leader) (defBody s_Way_leader) (defScope s_Way_leader) .none kV14 dc14 pm14 an14 cd14 ct14) P_Way_leader (toSp c spLeader) := (fn_l3 (W0.tab _ _ _) F14 sc_Way_leader m_Way_leader k_Way_leader K14 (by rintro _ M Q E ⟨_, _, _, _, rfl, _⟩; rfl) (fun ds M Q E h => ⟨_, fnK_ok, (@w_leader c _ (by exact ⟨rfl⟩)) ds M Q E h⟩))
  have K15 : Tok l.prog w K mg base c { T0 with fn := [], mt := [(.«Way», .«leader», spLeader)], cl := [] } 4 := tok_of (k := 3) (fun _ h => nomatch h) (List.forall_mem_cons.mpr ⟨⟨by show ∀ f ∈ ([.«parents», .«bridges»] : List Nm), f.s ≠ Nm.s .«leader»; decide +kernel, fun C hC => by have hC : some C2 = some C := hC; cases hC; exact ⟨_, _, _, G_Way_leader.mono (by omega), ⟨a_Way_leader, i14, k14⟩, b14⟩⟩, (fun _ h => nomatch h)⟩) (fun _ h => nomatch h)
  have G_clusters_joined : FnOk l.prog w K mg base (L2.CX l.prog w) 5 f15 (PySem.W.fnOf "clusters_joined" "clusters_joined" (defArgs s_clusters_joined) (defBody s_clusters_joined) (defScope s_clusters_joined) .none kV15 dc15 pm15 an15 cd15 ct15) P_clusters_joined (toSp c spJoined) := (fn_l3 (W0.tab _ _ _) F15 sc_clusters_joined m_clusters_joined k_clusters_joined K15 (by rintro _ M Q E ⟨_, _, _, _, rfl, _⟩; rfl) (fun ds M Q E h => ⟨_, fnK_ok, (@w_joined c _ (by exact ⟨rfl⟩)) ds M Q E h⟩))
  have K16 : Tok l.prog w K mg base c { T0 with fn := [], mt := [(.«Web», .«neighbours», spNear)], cl := [] } 4 := tok_of (k := 3) (fun _ h => nomatch h) (List.forall_mem_cons.mpr ⟨⟨by show ∀ f ∈ ([.«own_hands», .«own_lines», .«sides»] : List Nm), f.s ≠ Nm.s .«neighbours»; decide +kernel, fun C hC => by have hC : some C1 = some C := hC; cases hC; exact ⟨_, _, _, G_Web_neighbours.mono (by omega), ⟨a_Web_neighbours, i8, k8⟩, b8⟩⟩, (fun _ h => nomatch h)⟩) (fun _ h => nomatch h)
  have G_steps_from : FnOk l.prog w K mg base (L2.CX l.prog w) 5 f16 (PySem.W.fnOf "steps_from" "steps_from" (defArgs s_steps_from) (defBody s_steps_from) (defScope s_steps_from) .none kV16 dc16 pm16 an16 cd16 ct16) P_steps_from (toSp c spSteps) := (fn_l3 (W0.tab _ _ _) F16 sc_steps_from m_steps_from k_steps_from K16 (by rintro _ M Q E ⟨_, _, _, _, _, rfl, _⟩; rfl) (fun ds M Q E h => ⟨_, fnK_ok, (@w_steps c _ (by exact ⟨rfl⟩)) ds M Q E h⟩))
  have K17 : Tok l.prog w K mg base c { T0 with fn := [], mt := [(.«Web», .«neighbours», spNear)], cl := [] } 4 := tok_of (k := 3) (fun _ h => nomatch h) (List.forall_mem_cons.mpr ⟨⟨by show ∀ f ∈ ([.«own_hands», .«own_lines», .«sides»] : List Nm), f.s ≠ Nm.s .«neighbours»; decide +kernel, fun C hC => by have hC : some C1 = some C := hC; cases hC; exact ⟨_, _, _, G_Web_neighbours.mono (by omega), ⟨a_Web_neighbours, i8, k8⟩, b8⟩⟩, (fun _ h => nomatch h)⟩) (fun _ h => nomatch h)
  have G_parent_by : FnOk l.prog w K mg base (L2.CX l.prog w) 5 f17 (PySem.W.fnOf "parent_by" "parent_by" (defArgs s_parent_by) (defBody s_parent_by) (defScope s_parent_by) .none kV17 dc17 pm17 an17 cd17 ct17) P_parent_by (toSp c spParBy) := (fn_l3 (W0.tab _ _ _) F17 sc_parent_by m_parent_by k_parent_by K17 (by rintro _ M Q E ⟨_, _, _, _, _, _, _, _, rfl, _⟩; rfl) (fun ds M Q E h => ⟨_, fnK_ok, (@w_parby c _ (by exact ⟨rfl⟩)) ds M Q E h⟩))
  have K18 : Tok l.prog w K mg base c { T0 with fn := [(.«steps_from», spSteps), (.«parent_by», spParBy), (.«clusters_joined», spJoined)], mt := [(.«Web», .«hands», spHands), (.«Web», .«lines», spLines)], cl := [(.«Way», spWay)] } 5 := tok_of (k := 4) (List.forall_mem_cons.mpr ⟨FnG.of G_steps_from F16 (PySem.W.mg_of X G a_steps_from) b16 (by omega), (List.forall_mem_cons.mpr ⟨FnG.of G_parent_by F17 (PySem.W.mg_of X G a_parent_by) b17 (by omega), (List.forall_mem_cons.mpr ⟨FnG.of G_clusters_joined F15 (PySem.W.mg_of X G a_clusters_joined) b15 (by omega), (fun _ h => nomatch h)⟩)⟩)⟩) (List.forall_mem_cons.mpr ⟨⟨by show ∀ f ∈ ([.«own_hands», .«own_lines», .«sides»] : List Nm), f.s ≠ Nm.s .«hands»; decide +kernel, fun C hC => by have hC : some C1 = some C := hC; cases hC; exact ⟨_, _, _, G_Web_hands.mono (by omega), ⟨a_Web_hands, i5, k5⟩, b5⟩⟩, (List.forall_mem_cons.mpr ⟨⟨by show ∀ f ∈ ([.«own_hands», .«own_lines», .«sides»] : List Nm), f.s ≠ Nm.s .«lines»; decide +kernel, fun C hC => by have hC : some C1 = some C := hC; cases hC; exact ⟨_, _, _, G_Web_lines.mono (by omega), ⟨a_Web_lines, i6, k6⟩, b6⟩⟩, (fun _ h => nomatch h)⟩)⟩) (List.forall_mem_cons.mpr ⟨.inl ⟨C2, _, _, _, _, rfl, G_Way___init__.mono (by omega), ⟨mk_C2, a_Way___init__, i9, kc_C2⟩, b9, PySem.W.mg_of X G g_C2, mk_use⟩, (fun _ h => nomatch h)⟩)
  have G_by_clusters : FnOk l.prog w K mg base (L2.CX l.prog w) 6 f18 (PySem.W.fnOf "by_clusters" "by_clusters" (defArgs s_by_clusters) (defBody s_by_clusters) (defScope s_by_clusters) .none kV18 dc18 pm18 an18 cd18 ct18) P_by_clusters (toSp c spClus) := (fn_l3 (W0.tab _ _ _) F18 sc_by_clusters m_by_clusters k_by_clusters K18 (by rintro _ M Q E ⟨_, _, _, rfl, _⟩; rfl) (fun ds M Q E h => ⟨_, fnK_ok, (@w_clus c _ (by exact ⟨rfl, rfl, rfl, rfl, rfl, rfl⟩)) ds M Q E h⟩))
  have K19 : Tok l.prog w K mg base c { T0 with fn := [(.«by_clusters», spClus)], mt := [], cl := [] } 6 := tok_of (k := 5) (List.forall_mem_cons.mpr ⟨FnG.of G_by_clusters F18 (PySem.W.mg_of X G a_by_clusters) b18 (by omega), (fun _ h => nomatch h)⟩) (fun _ h => nomatch h) (fun _ h => nomatch h)
  have G_by_neighbours : FnOk l.prog w K mg base (L2.CX l.prog w) 7 f19 (PySem.W.fnOf "by_neighbours" "by_neighbours" (defArgs s_by_neighbours) (defBody s_by_neighbours) (defScope s_by_neighbours) .none kV19 dc19 pm19 an19 cd19 ct19) P_by_neighbours (toSp c spByN) := (fn_l3 (W0.tab _ _ _) F19 sc_by_neighbours m_by_neighbours k_by_neighbours K19 (by rintro _ M Q E ⟨_, _, rfl, _⟩; rfl) (fun ds M Q E h => ⟨_, fnK_ok, (@w_byn c _ (by exact ⟨rfl, rfl⟩)) ds M Q E h⟩))
  have K20 : Tok l.prog w K mg base c { T0 with fn := [(.«by_clusters», spClus)], mt := [], cl := [] } 6 := tok_of (k := 5) (List.forall_mem_cons.mpr ⟨FnG.of G_by_clusters F18 (PySem.W.mg_of X G a_by_clusters) b18 (by omega), (fun _ h => nomatch h)⟩) (fun _ h => nomatch h) (fun _ h => nomatch h)
  have G_by_tree : FnOk l.prog w K mg base (L2.CX l.prog w) 7 f20 (PySem.W.fnOf "by_tree" "by_tree" (defArgs s_by_tree) (defBody s_by_tree) (defScope s_by_tree) .none kV20 dc20 pm20 an20 cd20 ct20) P_by_tree (toSp c spByT) := (fn_l3 (W0.tab _ _ _) F20 sc_by_tree m_by_tree k_by_tree K20 (by rintro _ M Q E ⟨_, _, rfl, _⟩; rfl) (fun ds M Q E h => ⟨_, fnK_ok, (@w_byt c _ (by exact ⟨rfl, rfl⟩)) ds M Q E h⟩))
  have K21 : Tok l.prog w K mg base c { T0 with fn := [], mt := [], cl := [] } 1 := tok_of (k := 0) (fun _ h => nomatch h) (fun _ h => nomatch h) (fun _ h => nomatch h)
  have G__law_cell_at : FnOk l.prog w K mg base (L2.CX l.prog w) 2 f21 (PySem.W.fnOf "_law_cell_at" "_law_cell_at" (defArgs s__law_cell_at) (defBody s__law_cell_at) (defScope s__law_cell_at) .none kV21 dc21 pm21 an21 cd21 ct21) P__law_cell_at (toSp c K01.spCell) := (fn_l3 (W0.tab _ _ _) F21 sc__law_cell_at m__law_cell_at k__law_cell_at K21 (by rintro _ M Q E ⟨_, _, _, rfl, _⟩; rfl) (fun ds M Q E h => ⟨_, fnK_ok, w_cell ds M Q E h⟩))
  have K22 : Tok l.prog w K mg base c { T0 with fn := [], mt := [], cl := [] } 1 := tok_of (k := 0) (fun _ h => nomatch h) (fun _ h => nomatch h) (fun _ h => nomatch h)
  have G__law_draws : FnOk l.prog w K mg base (L2.CX l.prog w) 2 f22 (PySem.W.fnOf "_law_draws" "_law_draws" (defArgs s__law_draws) (defBody s__law_draws) (defScope s__law_draws) .none kV22 dc22 pm22 an22 cd22 ct22) P__law_draws (toSp c spDraws) := (fn_l3 (W0.tab _ _ _) F22 sc__law_draws m__law_draws k__law_draws K22 (by rintro _ M Q E ⟨_, _, rfl, _⟩; rfl) (fun ds M Q E h => ⟨_, fnK_ok, w_drw ds M Q E h⟩))
  have K23 : Tok l.prog w K mg base c { T0 with fn := [], mt := [], cl := [] } 1 := tok_of (k := 0) (fun _ h => nomatch h) (fun _ h => nomatch h) (fun _ h => nomatch h)
  have G__law_take : FnOk l.prog w K mg base (L2.CX l.prog w) 2 f23 (PySem.W.fnOf "_law_take" "_law_take" (defArgs s__law_take) (defBody s__law_take) (defScope s__law_take) .none kV23 dc23 pm23 an23 cd23 ct23) P__law_take (toSp c spTake) := (fn_l3 (W0.tab _ _ _) F23 sc__law_take m__law_take k__law_take K23 (by rintro _ M Q E ⟨_, _, _, rfl, _⟩; rfl) (fun ds M Q E h => ⟨_, fnK_ok, w_take ds M Q E h⟩))
  have K24 : Tok l.prog w K mg base c { T0 with fn := [(.«_law_take», spTake)], mt := [], cl := [] } 2 := tok_of (k := 1) (List.forall_mem_cons.mpr ⟨FnG.of G__law_take F23 (PySem.W.mg_of X G a__law_take) b23 (by omega), (fun _ h => nomatch h)⟩) (fun _ h => nomatch h) (fun _ h => nomatch h)
  have G__law_hands : FnOk l.prog w K mg base (L2.CX l.prog w) 3 f24 (PySem.W.fnOf "_law_hands" "_law_hands" (defArgs s__law_hands) (defBody s__law_hands) (defScope s__law_hands) .none kV24 dc24 pm24 an24 cd24 ct24) P__law_hands (toSp c spHandsR) := (fn_l3 (W0.tab _ _ _) F24 sc__law_hands m__law_hands k__law_hands K24 (by rintro _ M Q E ⟨_, _, _, rfl, _⟩; rfl) (fun ds M Q E h => ⟨_, fnK_ok, (@w_handsR c _ (by exact ⟨rfl⟩)) ds M Q E h⟩))
  have K25 : Tok l.prog w K mg base c { T0 with fn := [(.«_law_take», spTake)], mt := [], cl := [] } 2 := tok_of (k := 1) (List.forall_mem_cons.mpr ⟨FnG.of G__law_take F23 (PySem.W.mg_of X G a__law_take) b23 (by omega), (fun _ h => nomatch h)⟩) (fun _ h => nomatch h) (fun _ h => nomatch h)
  have G__law_lines : FnOk l.prog w K mg base (L2.CX l.prog w) 3 f25 (PySem.W.fnOf "_law_lines" "_law_lines" (defArgs s__law_lines) (defBody s__law_lines) (defScope s__law_lines) .none kV25 dc25 pm25 an25 cd25 ct25) P__law_lines (toSp c spLinesR) := (fn_l3 (W0.tab _ _ _) F25 sc__law_lines m__law_lines k__law_lines K25 (by rintro _ M Q E ⟨_, _, _, rfl, _⟩; rfl) (fun ds M Q E h => ⟨_, fnK_ok, (@w_linesR c _ (by exact ⟨rfl⟩)) ds M Q E h⟩))
  have K26 : Tok l.prog w K mg base c { T0 with fn := [], mt := [], cl := [] } 1 := tok_of (k := 0) (fun _ h => nomatch h) (fun _ h => nomatch h) (fun _ h => nomatch h)
  have G__law_near : FnOk l.prog w K mg base (L2.CX l.prog w) 2 f26 (PySem.W.fnOf "_law_near" "_law_near" (defArgs s__law_near) (defBody s__law_near) (defScope s__law_near) .none kV26 dc26 pm26 an26 cd26 ct26) P__law_near (toSp c spNearR) := (fn_l3 (W0.tab _ _ _) F26 sc__law_near m__law_near k__law_near K26 (by rintro _ M Q E ⟨_, _, _, rfl, _⟩; rfl) (fun ds M Q E h => ⟨_, fnK_ok, w_nearR ds M Q E h⟩))
  have K27 : Tok l.prog w K mg base c { T0 with fn := [(.«_law_near», spNearR)], mt := [], cl := [] } 2 := tok_of (k := 1) (List.forall_mem_cons.mpr ⟨FnG.of G__law_near F26 (PySem.W.mg_of X G a__law_near) b26 (by omega), (fun _ h => nomatch h)⟩) (fun _ h => nomatch h) (fun _ h => nomatch h)
  have G__law_steps : FnOk l.prog w K mg base (L2.CX l.prog w) 3 f27 (PySem.W.fnOf "_law_steps" "_law_steps" (defArgs s__law_steps) (defBody s__law_steps) (defScope s__law_steps) .none kV27 dc27 pm27 an27 cd27 ct27) P__law_steps (toSp c spLSteps) := (fn_l3 (W0.tab _ _ _) F27 sc__law_steps m__law_steps k__law_steps K27 (by rintro _ M Q E ⟨_, _, _, _, _, rfl, _⟩; rfl) (fun ds M Q E h => ⟨_, fnK_ok, (@w_lsteps c _ (by exact ⟨rfl⟩)) ds M Q E h⟩))
  have K28 : Tok l.prog w K mg base c { T0 with fn := [(.«_law_near», spNearR), (.«_law_steps», spLSteps)], mt := [], cl := [] } 3 := tok_of (k := 2) (List.forall_mem_cons.mpr ⟨FnG.of G__law_near F26 (PySem.W.mg_of X G a__law_near) b26 (by omega), (List.forall_mem_cons.mpr ⟨FnG.of G__law_steps F27 (PySem.W.mg_of X G a__law_steps) b27 (by omega), (fun _ h => nomatch h)⟩)⟩) (fun _ h => nomatch h) (fun _ h => nomatch h)
  have G__law_way : FnOk l.prog w K mg base (L2.CX l.prog w) 4 f28 (PySem.W.fnOf "_law_way" "_law_way" (defArgs s__law_way) (defBody s__law_way) (defScope s__law_way) .none kV28 dc28 pm28 an28 cd28 ct28) P__law_way (toSp c spLWay) := (fn_l3 (W0.tab _ _ _) F28 sc__law_way m__law_way k__law_way K28 (by rintro _ M Q E ⟨_, _, _, rfl, _⟩; rfl) (fun ds M Q E h => ⟨_, fnK_ok, (@w_lway c _ (by exact ⟨rfl, rfl⟩)) ds M Q E h⟩))
  have K29 : Tok l.prog w K mg base c { T0 with fn := [], mt := [(.«Way», .«all_parents», spAllP), (.«Way», .«all_bridges», spAllB)], cl := [] } 2 := tok_of (k := 1) (fun _ h => nomatch h) (List.forall_mem_cons.mpr ⟨⟨by show ∀ f ∈ ([.«parents», .«bridges»] : List Nm), f.s ≠ Nm.s .«all_parents»; decide +kernel, fun C hC => by have hC : some C2 = some C := hC; cases hC; exact ⟨_, _, _, G_Way_all_parents.mono (by omega), ⟨a_Way_all_parents, i10, k10⟩, b10⟩⟩, (List.forall_mem_cons.mpr ⟨⟨by show ∀ f ∈ ([.«parents», .«bridges»] : List Nm), f.s ≠ Nm.s .«all_bridges»; decide +kernel, fun C hC => by have hC : some C2 = some C := hC; cases hC; exact ⟨_, _, _, G_Way_all_bridges.mono (by omega), ⟨a_Way_all_bridges, i11, k11⟩, b11⟩⟩, (fun _ h => nomatch h)⟩)⟩) (fun _ h => nomatch h)
  have G__law_told : FnOk l.prog w K mg base (L2.CX l.prog w) 3 f29 (PySem.W.fnOf "_law_told" "_law_told" (defArgs s__law_told) (defBody s__law_told) (defScope s__law_told) .none kV29 dc29 pm29 an29 cd29 ct29) P__law_told (toSp c spTold) := (fn_l3 (W0.tab _ _ _) F29 sc__law_told m__law_told k__law_told K29 (by rintro _ M Q E ⟨_, _, _, rfl, _⟩; rfl) (fun ds M Q E h => ⟨_, fnK_ok, (@w_told c _ (by exact ⟨rfl, rfl⟩)) ds M Q E h⟩))
  have K30 : Tok l.prog w K mg base c { T0 with fn := [(.«_law_told», spTold), (.«_law_way», spLWay), (.«by_neighbours», spByN), (.«by_clusters», spClus), (.«by_tree», spByT)], mt := [(.«Way», .«all_parents», spAllP), (.«Way», .«all_bridges», spAllB)], cl := [(.«Web», spWeb)] } 7 := tok_of (k := 6) (List.forall_mem_cons.mpr ⟨FnG.of G__law_told F29 (PySem.W.mg_of X G a__law_told) b29 (by omega), (List.forall_mem_cons.mpr ⟨FnG.of G__law_way F28 (PySem.W.mg_of X G a__law_way) b28 (by omega), (List.forall_mem_cons.mpr ⟨FnG.of G_by_neighbours F19 (PySem.W.mg_of X G a_by_neighbours) b19 (by omega), (List.forall_mem_cons.mpr ⟨FnG.of G_by_clusters F18 (PySem.W.mg_of X G a_by_clusters) b18 (by omega), (List.forall_mem_cons.mpr ⟨FnG.of G_by_tree F20 (PySem.W.mg_of X G a_by_tree) b20 (by omega), (fun _ h => nomatch h)⟩)⟩)⟩)⟩)⟩) (List.forall_mem_cons.mpr ⟨⟨by show ∀ f ∈ ([.«parents», .«bridges»] : List Nm), f.s ≠ Nm.s .«all_parents»; decide +kernel, fun C hC => by have hC : some C2 = some C := hC; cases hC; exact ⟨_, _, _, G_Way_all_parents.mono (by omega), ⟨a_Way_all_parents, i10, k10⟩, b10⟩⟩, (List.forall_mem_cons.mpr ⟨⟨by show ∀ f ∈ ([.«parents», .«bridges»] : List Nm), f.s ≠ Nm.s .«all_bridges»; decide +kernel, fun C hC => by have hC : some C2 = some C := hC; cases hC; exact ⟨_, _, _, G_Way_all_bridges.mono (by omega), ⟨a_Way_all_bridges, i11, k11⟩, b11⟩⟩, (fun _ h => nomatch h)⟩)⟩) (List.forall_mem_cons.mpr ⟨.inl ⟨C1, _, _, _, _, rfl, G_Web___init__.mono (by omega), ⟨mk_C1, a_Web___init__, i4, kc_C1⟩, b4, PySem.W.mg_of X G g_C1, mk_use⟩, (fun _ h => nomatch h)⟩)
  have G__law_right : FnOk l.prog w K mg base (L2.CX l.prog w) 8 f30 (PySem.W.fnOf "_law_right" "_law_right" (defArgs s__law_right) (defBody s__law_right) (defScope s__law_right) .none kV30 dc30 pm30 an30 cd30 ct30) P__law_right (toSp c spRightL) := (fn_l3 (W0.tab _ _ _) F30 sc__law_right m__law_right k__law_right K30 (by rintro _ M Q E ⟨_, _, _, rfl, _⟩; rfl) (fun ds M Q E h => ⟨_, fnK_ok, (@w_right c _ (by exact ⟨rfl, rfl, rfl, rfl, rfl, rfl, rfl, rfl⟩)) ds M Q E h⟩))
  have K31 : Tok l.prog w K mg base c { T0 with fn := [(.«_law_cell_at», K01.spCell), (.«_law_draws», spDraws), (.«_law_hands», spHandsR), (.«_law_lines», spLinesR), (.«_law_take», spTake), (.«_law_right», spRightL)], mt := [], cl := [] } 8 := tok_of (k := 7) (List.forall_mem_cons.mpr ⟨FnG.of G__law_cell_at F21 (PySem.W.mg_of X G a__law_cell_at) b21 (by omega), (List.forall_mem_cons.mpr ⟨FnG.of G__law_draws F22 (PySem.W.mg_of X G a__law_draws) b22 (by omega), (List.forall_mem_cons.mpr ⟨FnG.of G__law_hands F24 (PySem.W.mg_of X G a__law_hands) b24 (by omega), (List.forall_mem_cons.mpr ⟨FnG.of G__law_lines F25 (PySem.W.mg_of X G a__law_lines) b25 (by omega), (List.forall_mem_cons.mpr ⟨FnG.of G__law_take F23 (PySem.W.mg_of X G a__law_take) b23 (by omega), (List.forall_mem_cons.mpr ⟨FnG.of G__law_right F30 (PySem.W.mg_of X G a__law_right) b30 (by omega), (fun _ h => nomatch h)⟩)⟩)⟩)⟩)⟩)⟩) (fun _ h => nomatch h) (fun _ h => nomatch h)
  have G_law : FnOk l.prog w K mg base (L2.CX l.prog w) 9 fa (PySem.W.fnOf "law" "law" (defArgs s_law) (defBody s_law) (defScope s_law) .none kV31 dc31 pm31 an31 cd31 ct31) P_law (toSp c spScriptL) := (fn_l3 (W0.tab _ _ _) F31 sc_law m_law k_law K31 (by rintro _ M Q E ⟨_, rfl, _⟩; rfl) (fun ds M Q E h => ⟨_, fnK_ok, (@w_law c _ (by exact ⟨rfl, rfl, rfl, rfl, rfl, rfl⟩)) ds M Q E h⟩))
  exact G_law.imp fun vs H Q E h => end_ofL vs H Q E h
theorem walk {l : PySem.W.OpenLaw} {q : Program} {loose : List PySem.Str} {XP : (PySem.Str → Option Value) → Heap → Prop} {YP : World → Heap → Prop} {d : DefRec} {K : Params → PySem.W.Frag} (hn : l.most = some 63) (hdf : d.params.defaults = [])
    (hY : ∀ (w : World) (h : Heap), YP w h → (K w.params).In h)
    (F : ∀ (w : World) (mg : PySem.Str → Option Value) (fa : Addr) (h : Heap), (K w.params).In h → h.Ns mainGlobals mg → mg d.name = some (.ref fa) →
      ∃ fd : FuncData, (∀ (s : Shared) (u : Value), BindsTo s fd ⟨[u], []⟩ [("_law_script", u)]) ∧ ∀ base : Heap, (K w.params).In base → base.Ns mainGlobals mg → FnOk l.prog w (K w.params) mg base (L2.CX l.prog w) 9 fa fd ["_law_script"] (spEnd (K w.params))) :
    PySem.W.WalkO q loose XP YP l.row.toRowW d [] (fun f vs => PySem.call f vs) :=
  L2.walk_of (n := 63) (k := 9) (x := "_law_script") (CX := fun w => L2.CX l.prog w) (sp := fun w => spEnd (K w.params)) hn (by decide) hdf ⟨rfl, by decide, by decide⟩ hY F (fun _ _ a ns hl _ hS => ⟨a, ns, rfl, hS, hl, fun _ => rfl⟩) fun w H s e s' h => cx_never H s e s' h
end L3.K26
open PySem PySem.W PyProof.Rows
set_option maxRecDepth 100000 in
set_option maxHeartbeats 0 in
theorem PySem.Challenge.cw_beatless_k26_neighbours_trees_clusters_holds : PySem.Challenge.rw_beatless_k26_neighbours_trees_clusters.Holds := by
  w_on; o_law; k_head; (case hw => w_witness2)
  k_fill
  refine L3.K26.walk (l := PySem.Challenge.rw_beatless_k26_neighbours_trees_clusters) rfl rfl (fun w h Y => PySem.W.kIn_of Y) ?F
  case F =>
    intro w mg fa h KX G hmg
    refine' L3.K26.all_mk KX G hmg ?g_C0 ?g_C1 ?g_C2 ?i_C0 ?t_C0 ?s_C0_bool ?s_C0_int ?s_C0_str ?s_C0_list ?s_C0_tuple ?s_C0_dict ?s_C0_ValueError ?s_C0_BaseException ?ha_C0 ?hm_C0 ?x_C0_C0 ?hg_C0 ?hk_C0 ?hd_C0 ?ex_C0 ?kx_C0 ?hn ?ht ?pg_C1 ?hd_C1 ?po_C1 ?sa_C1 ?pg_C2 ?hd_C2 ?po_C2 ?sa_C2 ?mk_C1 ?kc_C1 ?mk_C2 ?kc_C2 ?n_C1_own_hands ?n_C1_own_lines ?n_C1_sides ?n_C2_parents ?n_C2_bridges ?g_MOST_HANDS_ways ?g_MOST_HANDS_webs ?g_MOST_NUMBER ?z0 ?z1 ?z2 ?z3 ?z4 ?z5 ?z6 ?z7 ?z8 ?z9 ?z10 ?z11 ?z12 ?z13 ?z14 ?z15 ?z16 ?z17 ?z18 ?z19 ?z20 ?a_is_whole ?a_are_hands ?a_is_line ?a_are_lines ?a_clusters_joined ?a_steps_from ?a_parent_by ?a_by_clusters ?a_by_neighbours ?a_by_tree ?a__law_cell_at ?a__law_draws ?a__law_take ?a__law_hands ?a__law_lines ?a__law_near ?a__law_steps ?a__law_way ?a__law_told ?a__law_right ?a_law ?a_Web___init__ ?a_Web_hands ?a_Web_lines ?a_Web_has_hand ?a_Web_neighbours ?a_Way___init__ ?a_Way_all_parents ?a_Way_all_bridges ?a_Way_parent_of ?a_Way_up_from ?a_Way_leader ?l0 ?c0 ?k0 ?l1 ?c1 ?k1 ?l2 ?c2 ?k2 ?l3 ?c3 ?k3 ?l4 ?c4 ?k4 ?i4 ?l5 ?c5 ?k5 ?i5 ?l6 ?c6 ?k6 ?i6 ?l7 ?c7 ?k7 ?i7 ?l8 ?c8 ?k8 ?i8 ?l9 ?c9 ?k9 ?i9 ?l10 ?c10 ?k10 ?i10 ?l11 ?c11 ?k11 ?i11 ?l12 ?c12 ?k12 ?i12 ?l13 ?c13 ?k13 ?i13 ?l14 ?c14 ?k14 ?i14 ?l15 ?c15 ?k15 ?l16 ?c16 ?k16 ?l17 ?c17 ?k17 ?l18 ?c18 ?k18 ?l19 ?c19 ?k19 ?l20 ?c20 ?k20 ?l21 ?c21 ?k21 ?l22 ?c22 ?k22 ?l23 ?c23 ?k23 ?l24 ?c24 ?k24 ?l25 ?c25 ?k25 ?l26 ?c26 ?k26 ?l27 ?c27 ?k27 ?l28 ?c28 ?k28 ?l29 ?c29 ?k29 ?l30 ?c30 ?k30 ?l31 ?c31 ?k31
    (case g_C0 => k_is)
    (case g_C1 => k_is)
    (case g_C2 => k_is)
    (case i_C0 => k_is)
    (case t_C0 => k_is)
    (case s_C0_bool => k_is)
    (case s_C0_int => k_is)
    (case s_C0_str => k_is)
    (case s_C0_list => k_is)
    (case s_C0_tuple => k_is)
    (case s_C0_dict => k_is)
    (case s_C0_ValueError => k_is)
    (case s_C0_BaseException => k_is)
    (case ha_C0 => k_is)
    (case hm_C0 => k_is)
    (case x_C0_C0 => k_is)
    (case hg_C0 => k_is)
    (case hk_C0 => k_is)
    (case hd_C0 => k_is)
    (case ex_C0 => k_exc)
    (case kx_C0 => k_is)
    (case hn => k_is)
    (case ht => k_is)
    (case pg_C1 => k_is)
    (case hd_C1 => k_is)
    (case po_C1 => k_is)
    (case sa_C1 => k_is)
    (case pg_C2 => k_is)
    (case hd_C2 => k_is)
    (case po_C2 => k_is)
    (case sa_C2 => k_is)
    (case mk_C1 => k_is)
    (case kc_C1 => k_is)
    (case mk_C2 => k_is)
    (case kc_C2 => k_is)
    (case n_C1_own_hands => k_is)
    (case n_C1_own_lines => k_is)
    (case n_C1_sides => k_is)
    (case n_C2_parents => k_is)
    (case n_C2_bridges => k_is)
    (case g_MOST_HANDS_ways => k_is)
    (case g_MOST_HANDS_webs => k_is)
    (case g_MOST_NUMBER => k_is)
    (case z0 => k_is)
    (case z1 => k_is)
    (case z2 => k_is)
    (case z3 => k_is)
    (case z4 => k_is)
    (case z5 => k_is)
    (case z6 => k_is)
    (case z7 => k_is)
    (case z8 => k_is)
    (case z9 => k_is)
    (case z10 => k_is)
    (case z11 => k_is)
    (case z12 => k_is)
    (case z13 => k_is)
    (case z14 => k_is)
    (case z15 => k_is)
    (case z16 => k_is)
    (case z17 => k_is)
    (case z18 => k_is)
    (case z19 => k_is)
    (case z20 => k_is)
    (case a_is_whole => k_is)
    (case a_are_hands => k_is)
    (case a_is_line => k_is)
    (case a_are_lines => k_is)
    (case a_clusters_joined => k_is)
    (case a_steps_from => k_is)
    (case a_parent_by => k_is)
    (case a_by_clusters => k_is)
    (case a_by_neighbours => k_is)
    (case a_by_tree => k_is)
    (case a__law_cell_at => k_is)
    (case a__law_draws => k_is)
    (case a__law_take => k_is)
    (case a__law_hands => k_is)
    (case a__law_lines => k_is)
    (case a__law_near => k_is)
    (case a__law_steps => k_is)
    (case a__law_way => k_is)
    (case a__law_told => k_is)
    (case a__law_right => k_is)
    (case a_law => k_is)
    (case a_Web___init__ => k_is)
    (case a_Web_hands => k_is)
    (case a_Web_lines => k_is)
    (case a_Web_has_hand => k_is)
    (case a_Web_neighbours => k_is)
    (case a_Way___init__ => k_is)
    (case a_Way_all_parents => k_is)
    (case a_Way_all_bridges => k_is)
    (case a_Way_parent_of => k_is)
    (case a_Way_up_from => k_is)
    (case a_Way_leader => k_is)
    (case l0 => k_is)
    (case c0 => k_is)
    (case k0 => k_is)
    (case l1 => k_is)
    (case c1 => k_is)
    (case k1 => k_is)
    (case l2 => k_is)
    (case c2 => k_is)
    (case k2 => k_is)
    (case l3 => k_is)
    (case c3 => k_is)
    (case k3 => k_is)
    (case l4 => k_is)
    (case c4 => k_is)
    (case k4 => k_is)
    (case i4 => k_is)
    (case l5 => k_is)
    (case c5 => k_is)
    (case k5 => k_is)
    (case i5 => k_is)
    (case l6 => k_is)
    (case c6 => k_is)
    (case k6 => k_is)
    (case i6 => k_is)
    (case l7 => k_is)
    (case c7 => k_is)
    (case k7 => k_is)
    (case i7 => k_is)
    (case l8 => k_is)
    (case c8 => k_is)
    (case k8 => k_is)
    (case i8 => k_is)
    (case l9 => k_is)
    (case c9 => k_is)
    (case k9 => k_is)
    (case i9 => k_is)
    (case l10 => k_is)
    (case c10 => k_is)
    (case k10 => k_is)
    (case i10 => k_is)
    (case l11 => k_is)
    (case c11 => k_is)
    (case k11 => k_is)
    (case i11 => k_is)
    (case l12 => k_is)
    (case c12 => k_is)
    (case k12 => k_is)
    (case i12 => k_is)
    (case l13 => k_is)
    (case c13 => k_is)
    (case k13 => k_is)
    (case i13 => k_is)
    (case l14 => k_is)
    (case c14 => k_is)
    (case k14 => k_is)
    (case i14 => k_is)
    (case l15 => k_is)
    (case c15 => k_is)
    (case k15 => k_is)
    (case l16 => k_is)
    (case c16 => k_is)
    (case k16 => k_is)
    (case l17 => k_is)
    (case c17 => k_is)
    (case k17 => k_is)
    (case l18 => k_is)
    (case c18 => k_is)
    (case k18 => k_is)
    (case l19 => k_is)
    (case c19 => k_is)
    (case k19 => k_is)
    (case l20 => k_is)
    (case c20 => k_is)
    (case k20 => k_is)
    (case l21 => k_is)
    (case c21 => k_is)
    (case k21 => k_is)
    (case l22 => k_is)
    (case c22 => k_is)
    (case k22 => k_is)
    (case l23 => k_is)
    (case c23 => k_is)
    (case k23 => k_is)
    (case l24 => k_is)
    (case c24 => k_is)
    (case k24 => k_is)
    (case l25 => k_is)
    (case c25 => k_is)
    (case k25 => k_is)
    (case l26 => k_is)
    (case c26 => k_is)
    (case k26 => k_is)
    (case l27 => k_is)
    (case c27 => k_is)
    (case k27 => k_is)
    (case l28 => k_is)
    (case c28 => k_is)
    (case k28 => k_is)
    (case l29 => k_is)
    (case c29 => k_is)
    (case k29 => k_is)
    (case l30 => k_is)
    (case c30 => k_is)
    (case k30 => k_is)
    (case l31 => k_is)
    (case c31 => k_is)
    (case k31 => k_is)
#print axioms PySem.Challenge.cw_beatless_k26_neighbours_trees_clusters_holds
