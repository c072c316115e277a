import PyProof.Rows.All
import Wide.All
import OpenK.AllK
import Wide.FinOn
import KE.KStateDown
import KE.KOpsOwn
import HandS.ForMost
import HandS.ForExc
import HandS.Wide
import HandS.WideBits
import HandS.Flow
import HandS.Style
import HandS.Defaults
import HandS.Property
import HandS.ClsMeth
import HandS.IsInst
import HandS.Gcd
import HandS.TryMany
import HandS.CallSlots
import HandS.Zip
import HandS.Small
import HandS.TupAny
import HandS.OwnEq
import HandS.ExcField
import HandS.ExcIs
import HandS.ExcSuper
import KE.KExcSuper
import KE.KExcIs
import HandS.ExcInit
import HandS.ExcOwn
import HandS.RaiseMore
import HandS.RaiseFrom
import HandS.Rev
import HandS.RevRange
import HandS.SuiteRaise
import HandS.Finally
import HandS.HeadNt
import HandS.HeadEnd
import HandS.Head0
import HandS.Head1
import HandS.Head2
import HandS.Head3
import PySem.Challenge.RW_beatswatched_k68_signals_put_together
set_option Elab.async false
set_option autoImplicit false
set_option linter.all false
set_option maxRecDepth 100000
set_option maxHeartbeats 4000000
namespace PL
open PySem PySem.Spec PyProof.Rows L2
/-- the attributes' names -/
inductive Nm where
  | u_ahead | u_beats | u_behind | u_book | u_cells | u_counts | u_entries | u_found | u_gains | u_kept | u_lacking | u_list | u_lots | u_members | u_most | u_names | u_pieces | u_plans | u_state | u_steps | u_strengths | u_table | u_tickets | u_under
  | able | amounts | barred | beat | blocked | bound | cell | counts | course | crews | factor | family | fee | fitting | garble | heard | heights | hour | hours | house | house_cells | index | lacks | later | length | line | looks | many | march | most | moves | name | names | needs | number | one | open_cells | other | outcomes | pairs | parts | past | places | priced | prizes | room | search | shares | shares_one | shares_two | short | sides | sight | signals | spread | stakes | starts | states | steps | strengths | taken | target | targets | task | tolls | top | total | tree | tries | under | value | wage | walk | walks | watches | weights | worth | yard
  deriving DecidableEq
def Nm.s : Nm → Str
  | .u_ahead => "_ahead" | .u_beats => "_beats" | .u_behind => "_behind" | .u_book => "_book" | .u_cells => "_cells" | .u_counts => "_counts" | .u_entries => "_entries" | .u_found => "_found" | .u_gains => "_gains" | .u_kept => "_kept" | .u_lacking => "_lacking" | .u_list => "_list" | .u_lots => "_lots" | .u_members => "_members" | .u_most => "_most" | .u_names => "_names" | .u_pieces => "_pieces" | .u_plans => "_plans" | .u_state => "_state" | .u_steps => "_steps" | .u_strengths => "_strengths" | .u_table => "_table" | .u_tickets => "_tickets" | .u_under => "_under"
  | .able => "able" | .amounts => "amounts" | .barred => "barred" | .beat => "beat" | .blocked => "blocked" | .bound => "bound" | .cell => "cell" | .counts => "counts" | .course => "course" | .crews => "crews" | .factor => "factor" | .family => "family" | .fee => "fee" | .fitting => "fitting" | .garble => "garble" | .heard => "heard" | .heights => "heights" | .hour => "hour" | .hours => "hours" | .house => "house" | .house_cells => "house_cells" | .index => "index" | .lacks => "lacks" | .later => "later" | .length => "length" | .line => "line" | .looks => "looks" | .many => "many" | .march => "march" | .most => "most" | .moves => "moves" | .name => "name" | .names => "names" | .needs => "needs" | .number => "number" | .one => "one" | .open_cells => "open_cells" | .other => "other" | .outcomes => "outcomes" | .pairs => "pairs" | .parts => "parts" | .past => "past" | .places => "places" | .priced => "priced" | .prizes => "prizes" | .room => "room" | .search => "search" | .shares => "shares" | .shares_one => "shares_one" | .shares_two => "shares_two" | .short => "short" | .sides => "sides" | .sight => "sight" | .signals => "signals" | .spread => "spread" | .stakes => "stakes" | .starts => "starts" | .states => "states" | .steps => "steps" | .strengths => "strengths" | .taken => "taken" | .target => "target" | .targets => "targets" | .task => "task" | .tolls => "tolls" | .top => "top" | .total => "total" | .tree => "tree" | .tries => "tries" | .under => "under" | .value => "value" | .wage => "wage" | .walk => "walk" | .walks => "walks" | .watches => "watches" | .weights => "weights" | .worth => "worth" | .yard => "yard"
def Nm.all : List Nm := [.u_ahead, .u_beats, .u_behind, .u_book, .u_cells, .u_counts, .u_entries, .u_found, .u_gains, .u_kept, .u_lacking, .u_list, .u_lots, .u_members, .u_most, .u_names, .u_pieces, .u_plans, .u_state, .u_steps, .u_strengths, .u_table, .u_tickets, .u_under, .able, .amounts, .barred, .beat, .blocked, .bound, .cell, .counts, .course, .crews, .factor, .family, .fee, .fitting, .garble, .heard, .heights, .hour, .hours, .house, .house_cells, .index, .lacks, .later, .length, .line, .looks, .many, .march, .most, .moves, .name, .names, .needs, .number, .one, .open_cells, .other, .outcomes, .pairs, .parts, .past, .places, .priced, .prizes, .room, .search, .shares, .shares_one, .shares_two, .short, .sides, .sight, .signals, .spread, .stakes, .starts, .states, .steps, .strengths, .taken, .target, .targets, .task, .tolls, .top, .total, .tree, .tries, .under, .value, .wage, .walk, .walks, .watches, .weights, .worth, .yard]
theorem Nm.mem_all : ∀ n : Nm, n ∈ Nm.all := by intro n; cases n <;> decide
theorem Nm.inj_all : (Nm.all.map Nm.s).Nodup := by decide +kernel
theorem nodup_inj {α β : Type} {f : α → β} : ∀ {l : List α}, (l.map f).Nodup → ∀ {a b : α}, a ∈ l → b ∈ l → f a = f b → a = b
  | [], _, _, _, h, _, _ => nomatch h
  | c :: r, hn, a, b, ha, hb, e => by
    rw [List.map_cons, List.nodup_cons] at hn
    have out : ∀ x, x ∈ r → f x ≠ f c := fun x hx q => hn.1 (q ▸ List.mem_map_of_mem hx)
    rcases List.mem_cons.mp ha with h1 | h1
    · rcases List.mem_cons.mp hb with h2 | h2
      · rw [h1, h2]
      · exact absurd (e.symm.trans (by rw [h1])) (out b h2)
    · rcases List.mem_cons.mp hb with h2 | h2
      · exact absurd (e.trans (by rw [h2])) (out a h1)
      · exact nodup_inj hn.2 h1 h2 e
theorem Nm.inj {a b : Nm} (h : a.s = b.s) : a = b := nodup_inj Nm.inj_all (Nm.mem_all a) (Nm.mem_all b) h
/-- the classes -/
inductive Cl where
  | WatchError | ZeroUnder | BadNumber | TooMany | RepeatedHour | Meets | OtherHours | OtherHouse | NotADivisor | SharedFactor | WrongLength | EmptyLot | NotEnough | NoPlace | BadName | RepeatedName | UnknownName | BadSpread | BadPast | KnownCell | Contradiction | BadShares | NeverSeen | BadStretch | NoBeat | FailedDeed | BadText | BadLine | BadCourse | BadHabit | BadMove | OtherYard | Refused | NotDrawn | NothingLeft | AlreadySeen | AlreadyAway | NotAway
  | Asking | Beat | Best | Book | Closing | Collecting | Contest | CourseGame | Crew | Desk | Duel | Family | Fewest | Case | GreatWatch | GreatBound | Guarding | Habit | HintTable | HintGame | House | Kept | Trial | Laying | Lot | March | TurnTable | Manning | Plan | Ratio | BestCourse | Search | Roster | Flow | Season | Signal | Stretches | Table | Sight | Telling | GarbleGame | Tickets | Turned | Hiring | WageGame | Watch | Yard
  deriving DecidableEq
def Cl.s : Cl → Str
  | .WatchError => "WatchError" | .ZeroUnder => "ZeroUnder" | .BadNumber => "BadNumber" | .TooMany => "TooMany" | .RepeatedHour => "RepeatedHour" | .Meets => "Meets" | .OtherHours => "OtherHours" | .OtherHouse => "OtherHouse" | .NotADivisor => "NotADivisor" | .SharedFactor => "SharedFactor" | .WrongLength => "WrongLength" | .EmptyLot => "EmptyLot" | .NotEnough => "NotEnough" | .NoPlace => "NoPlace" | .BadName => "BadName" | .RepeatedName => "RepeatedName" | .UnknownName => "UnknownName" | .BadSpread => "BadSpread" | .BadPast => "BadPast" | .KnownCell => "KnownCell" | .Contradiction => "Contradiction" | .BadShares => "BadShares" | .NeverSeen => "NeverSeen" | .BadStretch => "BadStretch" | .NoBeat => "NoBeat" | .FailedDeed => "FailedDeed" | .BadText => "BadText" | .BadLine => "BadLine" | .BadCourse => "BadCourse" | .BadHabit => "BadHabit" | .BadMove => "BadMove" | .OtherYard => "OtherYard" | .Refused => "Refused" | .NotDrawn => "NotDrawn" | .NothingLeft => "NothingLeft" | .AlreadySeen => "AlreadySeen" | .AlreadyAway => "AlreadyAway" | .NotAway => "NotAway"
  | .Asking => "Asking" | .Beat => "Beat" | .Best => "Best" | .Book => "Book" | .Closing => "Closing" | .Collecting => "Collecting" | .Contest => "Contest" | .CourseGame => "CourseGame" | .Crew => "Crew" | .Desk => "Desk" | .Duel => "Duel" | .Family => "Family" | .Fewest => "Fewest" | .Case => "Case" | .GreatWatch => "GreatWatch" | .GreatBound => "GreatBound" | .Guarding => "Guarding" | .Habit => "Habit" | .HintTable => "HintTable" | .HintGame => "HintGame" | .House => "House" | .Kept => "Kept" | .Trial => "Trial" | .Laying => "Laying" | .Lot => "Lot" | .March => "March" | .TurnTable => "TurnTable" | .Manning => "Manning" | .Plan => "Plan" | .Ratio => "Ratio" | .BestCourse => "BestCourse" | .Search => "Search" | .Roster => "Roster" | .Flow => "Flow" | .Season => "Season" | .Signal => "Signal" | .Stretches => "Stretches" | .Table => "Table" | .Sight => "Sight" | .Telling => "Telling" | .GarbleGame => "GarbleGame" | .Tickets => "Tickets" | .Turned => "Turned" | .Hiring => "Hiring" | .WageGame => "WageGame" | .Watch => "Watch" | .Yard => "Yard"
/-- where a class stands: by the module's name for it -/
def ca (K : PySem.W.Frag) (c : Cl) : Addr := match PySem.W.nsIn K mainGlobals c.s with
  | some (some (.ref a)) => a
  | _ => 0
/-- pure data -/
inductive D where
  | non | bl (b : Bool) | int (i : Int) | str (x : Str)
  | tup (xs : List D) | lst (xs : List D) | obj (c : Cl) (fs : List (Nm × D))
/-- an error: its class, its attributes -/
structure Err where
  cls : Cl
  fs : List (Nm × D)
inductive Res (α : Type) where
  | ok (a : α) | exc (e : Err) | stuck
def Res.bind {α β : Type} : Res α → (α → Res β) → Res β
  | .ok a, f => f a
  | .exc e, _ => .exc e
  | .stuck, _ => .stuck
instance : Monad Res where
  pure := .ok
  bind := Res.bind
section
variable {α β γ : Type}
@[simp] theorem ok_bind (a : α) (f : α → Res β) : (Res.ok a >>= f) = f a := rfl
@[simp] theorem exc_bind (e : Err) (f : α → Res β) : ((Res.exc e : Res α) >>= f) = Res.exc e := rfl
@[simp] theorem stuck_bind (f : α → Res β) : ((Res.stuck : Res α) >>= f) = Res.stuck := rfl
@[simp] theorem pure_ok (a : α) : (pure a : Res α) = .ok a := rfl
@[simp] theorem bind_assoc' (r : Res α) (f : α → Res β) (g : β → Res γ) : ((r >>= f) >>= g) = (r >>= fun a => f a >>= g) := by cases r <;> rfl
@[simp] theorem map_ok (f : α → β) (a : α) : (f <$> (Res.ok a : Res α)) = Res.ok (f a) := rfl
@[simp] theorem map_exc (f : α → β) (e : Err) : (f <$> (Res.exc e : Res α)) = Res.exc e := rfl
@[simp] theorem map_stuck (f : α → β) : (f <$> (Res.stuck : Res α)) = Res.stuck := rfl
end
/-- what the text's class c is, as the rules ask it -/
structure ClF (K : PySem.W.Frag) (c : Cl) : Prop where
  cls : Cls K (ca K c)
  ha : PySem.W.findIn K (.ref (ca K c)) "__class__" = some (some (.builtin "object.__class__"))
  hn : PySem.W.specialIn K (.builtin "object.__class__") "__get__" = some (some (.builtin "getset_descriptor.__get__"))
  ht : PySem.W.takesIn K (.builtin "object.__class__") = some true
  hm : PySem.W.mroIn K (ca K c) (.type "object") = some true
  sf : PySem.W.selfFirst K (ca K c) = true
/-- .. with attributes of its instances -/
def AtF (K : PySem.W.Frag) (c : Cl) (fs : List (Nm × D)) : Prop := ClF K c ∧ ∀ p ∈ fs, NoAttr K (ca K c) p.1.s
/-- what the text's error class c is -/
structure XcF (K : PySem.W.Frag) (c : Cl) : Prop where
  xf : XfC K (ca K c)
  ec : ExcC K (ca K c)
def XtF (K : PySem.W.Frag) (c : Cl) (fs : List (Nm × D)) : Prop := XcF K c ∧ ∀ p ∈ fs, PySem.W.findIn K (.ref (ca K c)) p.1.s = some none
mutual
inductive Rep (K : PySem.W.Frag) (G : Hp) : V → D → Prop
  | non : Rep K G .non .non
  | bl (b : Bool) : Rep K G (.bl b) (.bl b)
  | int (i : Int) : Rep K G (.int i) (.int i)
  | str (x : Str) : Rep K G (.str x) (.str x)
  | tup {a : Addr} {vs : List V} {ds : List D} : SqT K G a vs → Reps K G vs ds → Rep K G (.ref a) (.tup ds)
  | lst {a : Addr} {vs : List V} {ds : List D} : Rd G a (.lst vs) → Reps K G vs ds → Rep K G (.ref a) (.lst ds)
  | obj {a dx : Addr} {fv : List (Str × V)} {c : Cl} {fs : List (Nm × D)} : G a = some (.ins (ca K c) dx fv) → AtF K c fs → RepF K G fv fs → Rep K G (.ref a) (.obj c fs)
inductive Reps (K : PySem.W.Frag) (G : Hp) : List V → List D → Prop
  | nil : Reps K G [] []
  | cons {v : V} {d : D} {vs : List V} {ds : List D} : Rep K G v d → Reps K G vs ds → Reps K G (v :: vs) (d :: ds)
inductive RepF (K : PySem.W.Frag) (G : Hp) : List (Str × V) → List (Nm × D) → Prop
  | nil : RepF K G [] []
  | cons {n : Nm} {v : V} {d : D} {vs : List (Str × V)} {ds : List (Nm × D)} : Rep K G v d → RepF K G vs ds → RepF K G ((n.s, v) :: vs) ((n, d) :: ds)
end
/-- all that the one knows the other knows -/
def Ext (G G' : Hp) : Prop := ∀ a o, G a = some o → G' a = some o
theorem Ext.refl {G : Hp} : Ext G G := fun _ _ h => h
theorem Ext.trans {G G1 G2 : Hp} (a : Ext G G1) (b : Ext G1 G2) : Ext G G2 := fun _ _ h => b _ _ (a _ _ h)
theorem Ext.free {G G' : Hp} (e : Ext G G') {a : Addr} (h : G' a = none) : G a = none := by
  cases q : G a with
  | none => rfl
  | some o => rw [e a o q] at h; cases h
theorem Ext.upd {G : Hp} {a : Addr} {o : HO} (h : G a = none) : Ext G (upd G a o) := fun b u q => by
  rw [upd_ne (ne_of_none q h)]; exact q
theorem Ext.rd {G G' : Hp} (e : Ext G G') {a : Addr} {u : HO} (h : Rd G a u) : Rd G' a u := by
  rcases h with h | ⟨o, h⟩
  · exact .inl (e _ _ h)
  · exact .inr ⟨o, e _ _ h⟩
theorem Ext.sql {G G' : Hp} (e : Ext G G') {K : PySem.W.Frag} {a : Addr} {xs : List V} (h : SqL K G a xs) : SqL K G' a xs := by
  rcases h with h | h
  · exact .inl (e.rd h)
  · exact .inr h
theorem Ext.sqt {G G' : Hp} (e : Ext G G') {K : PySem.W.Frag} {a : Addr} {xs : List V} (h : SqT K G a xs) : SqT K G' a xs := by
  rcases h with h | h
  · exact .inl (e.rd h)
  · exact .inr h
mutual
theorem Rep.mono {K : PySem.W.Frag} {G G' : Hp} (e : Ext G G') : ∀ {v : V} {d : D}, Rep K G v d → Rep K G' v d
  | _, _, .non => .non
  | _, _, .bl b => .bl b
  | _, _, .int i => .int i
  | _, _, .str x => .str x
  | _, _, .tup h r => .tup (e.sqt h) (Reps.mono e r)
  | _, _, .lst h r => .lst (e.rd h) (Reps.mono e r)
  | _, _, .obj h k r => .obj (e _ _ h) k (RepF.mono e r)
theorem Reps.mono {K : PySem.W.Frag} {G G' : Hp} (e : Ext G G') : ∀ {vs : List V} {ds : List D}, Reps K G vs ds → Reps K G' vs ds
  | _, _, .nil => .nil
  | _, _, .cons r t => .cons (Rep.mono e r) (Reps.mono e t)
theorem RepF.mono {K : PySem.W.Frag} {G G' : Hp} (e : Ext G G') : ∀ {vs : List (Str × V)} {ds : List (Nm × D)}, RepF K G vs ds → RepF K G' vs ds
  | _, _, .nil => .nil
  | _, _, .cons r t => .cons (Rep.mono e r) (RepF.mono e t)
end
section
variable {K : PySem.W.Frag} {G G' : Hp}
theorem Reps.length : ∀ {vs : List V} {ds : List D}, Reps K G vs ds → vs.length = ds.length
  | _, _, .nil => rfl
  | _, _, .cons _ t => by rw [List.length_cons, List.length_cons, t.length]
theorem Reps.get : ∀ {vs : List V} {ds : List D} {i : Nat} {v : V}, Reps K G vs ds → vs[i]? = some v → ∃ d, ds[i]? = some d ∧ Rep K G v d
  | _, _, _, _, .nil, e => by simp at e
  | _, _, 0, _, .cons r _, e => by simp at e; subst e; exact ⟨_, rfl, r⟩
  | _, _, i + 1, v, .cons _ t, e => by
    obtain ⟨d, h1, h2⟩ := Reps.get (i := i) (v := v) t (by simpa using e)
    exact ⟨d, by simpa using h1, h2⟩
theorem Reps.getD : ∀ {vs : List V} {ds : List D} {i : Nat} {d : D}, Reps K G vs ds → ds[i]? = some d → ∃ v, vs[i]? = some v ∧ Rep K G v d
  | _, _, _, _, .nil, e => by simp at e
  | _, _, 0, _, .cons r _, e => by simp at e; subst e; exact ⟨_, rfl, r⟩
  | _, _, i + 1, d, .cons _ t, e => by
    obtain ⟨v, h1, h2⟩ := Reps.getD (i := i) (d := d) t (by simpa using e)
    exact ⟨v, by simpa using h1, h2⟩
theorem Reps.append : ∀ {vs ws : List V} {ds es : List D}, Reps K G vs ds → Reps K G ws es → Reps K G (vs ++ ws) (ds ++ es)
  | _, _, _, _, .nil, s => s
  | _, _, _, _, .cons r t, s => .cons r (Reps.append t s)
theorem Reps.take : ∀ {vs : List V} {ds : List D} (n : Nat), Reps K G vs ds → Reps K G (vs.take n) (ds.take n)
  | _, _, 0, _ => .nil
  | _, _, _ + 1, .nil => .nil
  | _, _, n + 1, .cons r t => .cons r (Reps.take n t)
theorem Reps.drop : ∀ {vs : List V} {ds : List D} (n : Nat), Reps K G vs ds → Reps K G (vs.drop n) (ds.drop n)
  | _, _, 0, r => r
  | _, _, _ + 1, .nil => .nil
  | _, _, n + 1, .cons _ t => Reps.drop n t
theorem Reps.set {v : V} {d : D} (r : Rep K G v d) : ∀ {vs : List V} {ds : List D} (i : Nat), Reps K G vs ds → Reps K G (vs.set i v) (ds.set i d)
  | _, _, _, .nil => .nil
  | _, _, 0, .cons _ t => .cons r t
  | _, _, i + 1, .cons q t => .cons q (Reps.set r i t)
theorem Reps.reverse : ∀ {vs : List V} {ds : List D}, Reps K G vs ds → Reps K G vs.reverse ds.reverse
  | _, _, .nil => .nil
  | _, _, .cons r t => by
    rw [List.reverse_cons, List.reverse_cons]
    exact (Reps.reverse t).append (.cons r .nil)
theorem RepF.lookup {n : Nm} : ∀ {vs : List (Str × V)} {fs : List (Nm × D)} {d : D}, RepF K G vs fs → fs.lookup n = some d → ∃ v, vs.lookup n.s = some v ∧ Rep K G v d
  | _, _, _, .nil, e => nomatch (show (none : Option D) = some _ from e)
  | _, _, d, .cons (n := m) (v := v) (d := c) r t, e => by
    by_cases h : n = m
    · subst h
      rw [List.lookup_cons_self] at e
      cases e
      exact ⟨v, List.lookup_cons_self, r⟩
    · have h1 : (n == m) = false := by simpa using h
      have h2 : (n.s == m.s) = false := by
        rw [beq_eq_false_iff_ne]
        exact fun q => h (Nm.inj q)
      rw [List.lookup_cons, h1] at e
      obtain ⟨w, e1, e2⟩ := RepF.lookup t e
      exact ⟨w, by rw [List.lookup_cons, h2]; exact e1, e2⟩
theorem RepF.lookup_none {n : Nm} : ∀ {vs : List (Str × V)} {fs : List (Nm × D)}, RepF K G vs fs → fs.lookup n = none → vs.lookup n.s = none
  | _, _, .nil, _ => rfl
  | _, _, .cons (n := m) (v := v) (d := c) r t, e => by
    by_cases h : n = m
    · subst h
      rw [List.lookup_cons_self] at e
      cases e
    · have h1 : (n == m) = false := by simpa using h
      have h2 : (n.s == m.s) = false := by
        rw [beq_eq_false_iff_ne]
        exact fun q => h (Nm.inj q)
      rw [List.lookup_cons, h1] at e
      rw [List.lookup_cons, h2]
      exact RepF.lookup_none t e
theorem RepF.length : ∀ {vs : List (Str × V)} {fs : List (Nm × D)}, RepF K G vs fs → vs.length = fs.length
  | _, _, .nil => rfl
  | _, _, .cons _ t => by rw [List.length_cons, List.length_cons, t.length]
/-- a name that is none of theirs -/
theorem RepF.lookup_out {x : Str} (hx : ∀ n : Nm, n.s ≠ x) : ∀ {vs : List (Str × V)} {fs : List (Nm × D)}, RepF K G vs fs → vs.lookup x = none
  | _, _, .nil => rfl
  | _, _, .cons (n := m) r t => by
    have h2 : (x == m.s) = false := by
      rw [beq_eq_false_iff_ne]
      exact fun q => hx m q.symm
    rw [List.lookup_cons, h2]
    exact RepF.lookup_out hx t
/-- a field stored: at its place, or behind all -/
@[simp] def putD (n : Nm) (d : D) : List (Nm × D) → List (Nm × D)
  | [] => [(n, d)]
  | (m, c) :: r => if n = m then (n, d) :: r else (m, c) :: putD n d r
end
end PL
namespace PL
open PySem PySem.Spec L2
/-- from (G, H) to (G', H'): nothing known is lost, what is new in G' is new in H' -/
structure Grow (G H G' H' : Hp) : Prop where
  g : Ext G G'
  h : Ext H H'
  sub : Ext G' H'
  new : ∀ a o, G' a = some o → G a = some o ∨ H a = none
theorem Grow.refl {G H : Hp} (s : Ext G H) : Grow G H G H := ⟨.refl, .refl, s, fun _ _ h => .inl h⟩
theorem Grow.trans {G H G1 H1 G2 H2 : Hp} (a : Grow G H G1 H1) (b : Grow G1 H1 G2 H2) : Grow G H G2 H2 :=
  ⟨a.g.trans b.g, a.h.trans b.h, b.sub, fun x o q => by
    rcases b.new x o q with h | h
    · exact a.new x o h
    · exact .inr (a.h.free h)⟩
/-- a new object that is data -/
theorem Grow.laid {G H : Hp} (s : Ext G H) {a : Addr} (h : H a = none) (o : HO) : Grow G H (upd G a o) (upd H a o) := by
  refine ⟨.upd (s.free h), .upd h, fun b u q => ?_, fun b u q => ?_⟩
  · by_cases e : b = a
    · subst e; rw [upd_same] at q ⊢; exact q
    · rw [upd_ne e] at q ⊢; exact s _ _ q
  · by_cases e : b = a
    · subst e; exact .inr h
    · rw [upd_ne e] at q; exact .inl q
/-- a new object that is none of the data's -/
theorem Grow.side {G H : Hp} (s : Ext G H) {a : Addr} (h : H a = none) (o : HO) : Grow G H G (upd H a o) :=
  ⟨.refl, .upd h, s.trans (.upd h), fun _ _ q => .inl q⟩
theorem Grow.keeps {G H G' H' : Hp} (a : Grow G H G' H') {l : Addr} {o : HO} (hl : H l = some o) (gl : G l = none) : H' l = some o ∧ G' l = none := by
  refine ⟨a.h _ _ hl, ?_⟩
  cases q : G' l with
  | none => rfl
  | some u =>
    rcases a.new l u q with h | h
    · rw [gl] at h; cases h
    · rw [hl] at h; cases h
/-- one may always start from less data -/
theorem Grow.less {G0 G H G' H' : Hp} (a : Grow G H G' H') (s : Ext G0 G) (n : ∀ x o, G x = some o → G0 x = some o ∨ H x = none) : Grow G0 H G' H' :=
  ⟨s.trans a.g, a.h, a.sub, fun x o q => by
    rcases a.new x o q with h | h
    · exact n x o h
    · exact .inr h⟩
inductive Sl where
  /-- nothing is known -/
  | no
  /-- data -/
  | dat (d : D)
  /-- a list of one's own -/
  | own (xs : List D)
  /-- a list of one's own, of lists of one's own -/
  | own2 (xss : List (List D))
  /-- an instance of one's own, being made -/
  | ins (c : Cl) (fs : List (Nm × D))
  /-- the exception that an except suite handles -/
  | exn (e : Err)
def Sl.mine : Sl → Bool
  | .own _ => true
  | .own2 _ => true
  | .ins _ _ => true
  | _ => false
abbrev Ev := List Sl
/-- the entry: its data, its heap; the exception at hand -/
structure Base where
  G : Hp
  H : Hp
  xa : Option (Addr × Value × Option Addr)
  me : Option (Addr × Addr)
  /-- how a return is asked for: 0 data, 1 a list that nobody else knows, 2 one of such lists -/
  fr : Nat
/-- an error as it flies -/
def ErrOk (K : PySem.W.Frag) (G H : Hp) (cls : Value) (dx : Option Addr) (e : Err) : Prop :=
  cls = .ref (ca K e.cls) ∧ XtF K e.cls e.fs ∧ ((e.fs = [] ∧ dx = none) ∨ ∃ d fv, dx = some d ∧ H d = some (.xd fv) ∧ RepF K G fv e.fs)
theorem ErrOk.mono {K : PySem.W.Frag} {G G' H H' : Hp} {cls : Value} {dx : Option Addr} {e : Err} (g : Ext G G') (h : ∀ d fv, H d = some (.xd fv) → H' d = some (.xd fv)) (k : ErrOk K G H cls dx e) : ErrOk K G' H' cls dx e := by
  obtain ⟨k1, k2, k3⟩ := k
  refine ⟨k1, k2, ?_⟩
  rcases k3 with k3 | ⟨d, fv, e1, e2, r⟩
  · exact .inl k3
  · exact .inr ⟨d, fv, e1, h _ _ e2, r.mono g⟩
/-- rows that nobody else knows -/
def RowsOk (K : PySem.W.Frag) (B : Base) (G H : Hp) : List Addr → List (List D) → Prop
  | [], [] => True
  | a :: ls, xs :: xss => (∃ vs, H a = some (.lst vs) ∧ Reps K G vs xs ∧ G a = none ∧ B.H a = none) ∧ RowsOk K B G H ls xss
  | _, _ => False
def SlotOk (K : PySem.W.Frag) (B : Base) (G H : Hp) : Option (Option V) → Sl → Prop
  | _, .no => True
  | v, .dat d => ∃ x, v = some (some x) ∧ Rep K G x d
  | v, .own xs => ∃ l vs, v = some (some (.ref l)) ∧ H l = some (.lst vs) ∧ Reps K G vs xs ∧ G l = none ∧ B.H l = none
  | v, .own2 xss => ∃ (l : Addr) (ls : List Addr), v = some (some (.ref l)) ∧ H l = some (.lst (ls.map V.ref)) ∧ RowsOk K B G H ls xss ∧ G l = none ∧ B.H l = none ∧ (l :: ls).Nodup
  | v, .ins c fs => ∃ l dx fv, v = some (some (.ref l)) ∧ H l = some (.ins (ca K c) dx fv) ∧ AtF K c fs ∧ RepF K G fv fs ∧ G l = none ∧ B.H l = none ∧ B.me = some (l, dx)
  | v, .exn er => ∃ a cls dx, B.xa = some (a, cls, dx) ∧ v = some (some (.ref a)) ∧ ErrOk K G H cls dx er
/-- what a slot alone knows -/
def foot (H : Hp) : Option (Option V) → Sl → Addr → Prop
  | some (some (.ref l)), .own _, a => a = l
  | some (some (.ref l)), .ins _ _, a => a = l
  | some (some (.ref l)), .own2 _, a => a = l ∨ ∃ ls : List Addr, H l = some (.lst (ls.map V.ref)) ∧ a ∈ ls
  | _, _, _ => False
structure EnvOk (K : PySem.W.Frag) (B : Base) (G : Hp) (σ : St) (ρ : Ev) (H : Hp) : Prop where
  grow : Grow B.G B.H G H
  len : σ.length = ρ.length
  slot : ∀ (i : Nat) (s : Sl), ρ[i]? = some s → SlotOk K B G H σ[i]? s
  sep : ∀ (i j : Nat) (s t : Sl), ρ[i]? = some s → ρ[j]? = some t → i ≠ j → ∀ a, foot H σ[i]? s a → ¬ foot H σ[j]? t a
section
variable {K : PySem.W.Frag} {B : Base} {G G' H H' : Hp} {σ : St} {ρ : Ev}
theorem RowsOk.grow (g : Grow G H G' H') : ∀ {ls : List Addr} {xss : List (List D)}, RowsOk K B G H ls xss → RowsOk K B G' H' ls xss
  | [], [], _ => trivial
  | _ :: _, _ :: _, ⟨⟨vs, h1, r, g1, b1⟩, h⟩ => by
    obtain ⟨k1, k2⟩ := g.keeps h1 g1
    exact ⟨⟨vs, k1, r.mono g.g, k2, b1⟩, RowsOk.grow g h⟩
  | [], _ :: _, h => h
  | _ :: _, [], h => h
theorem RowsOk.at : ∀ {ls : List Addr} {xss : List (List D)} {a : Addr}, RowsOk K B G H ls xss → a ∈ ls → ∃ vs xs, H a = some (.lst vs) ∧ Reps K G vs xs ∧ G a = none ∧ B.H a = none
  | b :: ls, xs :: xss, a, ⟨⟨vs, h1, r, g1, b1⟩, h⟩, m => by
    rcases List.mem_cons.mp m with e | m
    · subst e; exact ⟨vs, xs, h1, r, g1, b1⟩
    · exact RowsOk.at h m
  | [], _, _, _, m => by cases m
  | _ :: _, [], _, h, _ => h.elim
theorem RowsOk.get : ∀ {ls : List Addr} {xss : List (List D)} {i : Nat} {xs : List D}, RowsOk K B G H ls xss → xss[i]? = some xs → ∃ a vs, ls[i]? = some a ∧ H a = some (.lst vs) ∧ Reps K G vs xs ∧ G a = none ∧ B.H a = none
  | _ :: _, _ :: _, 0, xs, ⟨⟨vs, h1, r, g1, b1⟩, h⟩, e => by
    cases e
    exact ⟨_, vs, rfl, h1, r, g1, b1⟩
  | _ :: _, _ :: _, i + 1, xs, ⟨_, h⟩, e => RowsOk.get (i := i) h e
  | [], [], _, _, _, e => by simp at e
  | [], _ :: _, _, _, h, _ => h.elim
  | _ :: _, [], _, _, h, _ => h.elim
theorem RowsOk.length : ∀ {ls : List Addr} {xss : List (List D)}, RowsOk K B G H ls xss → ls.length = xss.length
  | [], [], _ => rfl
  | _ :: _, _ :: _, ⟨_, h⟩ => by rw [List.length_cons, List.length_cons, RowsOk.length h]
  | [], _ :: _, h => h.elim
  | _ :: _, [], h => h.elim
/-- the heap changes elsewhere -/
theorem RowsOk.other {a : Addr} {o : HO} : ∀ {ls : List Addr} {xss : List (List D)}, RowsOk K B G H ls xss → a ∉ ls → RowsOk K B G (upd H a o) ls xss
  | [], [], _, _ => trivial
  | b :: ls, _ :: _, ⟨⟨vs, h1, r, g1, b1⟩, h⟩, m => by
    rw [List.mem_cons, not_or] at m
    exact ⟨⟨vs, by rw [upd_ne (fun z => m.1 z.symm)]; exact h1, r, g1, b1⟩, RowsOk.other h m.2⟩
  | [], _ :: _, h, _ => h
  | _ :: _, [], h, _ => h
/-- one row changes -/
theorem RowsOk.put {us : List V} {ys : List D} (r : Reps K G us ys) : ∀ {ls : List Addr} {xss : List (List D)} {i : Nat} {a : Addr}, RowsOk K B G H ls xss → ls[i]? = some a → ls.Nodup → RowsOk K B G (upd H a (.lst us)) ls (xss.set i ys)
  | b :: ls, _ :: _, 0, a, ⟨⟨vs, h1, _, g1, b1⟩, h⟩, e, n => by
    cases e
    rw [List.nodup_cons] at n
    exact ⟨⟨us, upd_same, r, g1, b1⟩, RowsOk.other h n.1⟩
  | b :: ls, _ :: _, i + 1, a, ⟨⟨vs, h1, r1, g1, b1⟩, h⟩, e, n => by
    rw [List.nodup_cons] at n
    have e : ls[i]? = some a := e
    have m : a ∈ ls := List.mem_of_getElem? e
    exact ⟨⟨vs, by rw [upd_ne (fun z => n.1 (by rw [z]; exact m))]; exact h1, r1, g1, b1⟩, RowsOk.put r h e n.2⟩
  | [], _, _, _, _, e, _ => by simp at e
  | _ :: _, [], _, _, h, _, _ => h.elim
theorem RowsOk.snoc {a : Addr} {vs : List V} {xs : List D} (h1 : H a = some (.lst vs)) (r : Reps K G vs xs) (g1 : G a = none) (b1 : B.H a = none) : ∀ {ls : List Addr} {xss : List (List D)}, RowsOk K B G H ls xss → RowsOk K B G H (ls ++ [a]) (xss ++ [xs])
  | [], [], _ => ⟨⟨vs, h1, r, g1, b1⟩, trivial⟩
  | _ :: _, _ :: _, ⟨z, h⟩ => ⟨z, RowsOk.snoc h1 r g1 b1 h⟩
  | [], _ :: _, h => h.elim
  | _ :: _, [], h => h.elim
theorem map_ref_inj {ls ms : List Addr} (h : ls.map V.ref = ms.map V.ref) : ls = ms := by
  induction ls generalizing ms with
  | nil => cases ms with
    | nil => rfl
    | cons _ _ => cases h
  | cons a ls ih => cases ms with
    | nil => cases h
    | cons b ms =>
      rw [List.map_cons, List.map_cons] at h
      injection h with e h
      cases e
      rw [ih h]
/-- what is a slot's alone stands in the heap, is no data, was not there at the entry -/
theorem foot_some {v : Option (Option V)} {s : Sl} {a : Addr} (h : SlotOk K B G H v s) (f : foot H v s a) : G a = none ∧ B.H a = none ∧ ∃ o, H a = some o ∧ ∀ fv, o ≠ .xd fv := by
  cases s with
  | no => cases v with
    | none => cases f
    | some w => cases w with
      | none => cases f
      | some w => cases w <;> cases f
  | dat d => cases v with
    | none => cases f
    | some w => cases w with
      | none => cases f
      | some w => cases w <;> cases f
  | exn e => cases v with
    | none => cases f
    | some w => cases w with
      | none => cases f
      | some w => cases w <;> cases f
  | own xs =>
    obtain ⟨l, vs, rfl, hl, r, gl, bl⟩ := h
    have e : a = l := f
    subst e
    exact ⟨gl, bl, _, hl, fun fv z => by cases z⟩
  | ins c fs =>
    obtain ⟨l, dx, fv, rfl, hl, af, r, gl, bl, me⟩ := h
    have e : a = l := f
    subst e
    exact ⟨gl, bl, _, hl, fun fv z => by cases z⟩
  | own2 xss =>
    obtain ⟨l, ls, rfl, hl, r, gl, bl, nd⟩ := h
    rcases (show a = l ∨ ∃ ls : List Addr, H l = some (.lst (ls.map V.ref)) ∧ a ∈ ls from f) with e | ⟨ms, hm, m⟩
    · subst e
      exact ⟨gl, bl, _, hl, fun fv z => by cases z⟩
    · rw [hl] at hm
      injection hm with hm
      injection hm with hm
      have e := map_ref_inj hm
      subst e
      obtain ⟨vs, xs, h1, r1, g1, b1⟩ := r.at m
      exact ⟨g1, b1, _, h1, fun fv z => by cases z⟩
theorem foot_grow {v : Option (Option V)} {s : Sl} {a : Addr} (h : SlotOk K B G H v s) (g : Ext H H') (f : foot H' v s a) : foot H v s a := by
  cases s with
  | own2 xss =>
    obtain ⟨l, ls, rfl, hl, r, gl, bl, nd⟩ := h
    rcases (show a = l ∨ ∃ ls : List Addr, H' l = some (.lst (ls.map V.ref)) ∧ a ∈ ls from f) with e | ⟨ms, hm, m⟩
    · exact .inl e
    · rw [g _ _ hl] at hm
      exact .inr ⟨ms, by rw [hl, hm], m⟩
  | own xs =>
    obtain ⟨l, vs, rfl, hl, r, gl, bl⟩ := h
    exact f
  | ins c fs =>
    obtain ⟨l, dx, fv, rfl, hl, af, r, gl, bl, me⟩ := h
    exact f
  | no => cases v with
    | none => cases f
    | some w => cases w with
      | none => cases f
      | some w => cases w <;> cases f
  | dat d => cases v with
    | none => cases f
    | some w => cases w with
      | none => cases f
      | some w => cases w <;> cases f
  | exn e => cases v with
    | none => cases f
    | some w => cases w with
      | none => cases f
      | some w => cases w <;> cases f
theorem foot_no {v : Option (Option V)} {a : Addr} : ¬ foot H v .no a := fun f => by
  cases v with
  | none => cases f
  | some w => cases w with
    | none => cases f
    | some w => cases w <;> cases f
theorem foot_dat {v : Option (Option V)} {d : D} {a : Addr} : ¬ foot H v (.dat d) a := fun f => by
  cases v with
  | none => cases f
  | some w => cases w with
    | none => cases f
    | some w => cases w <;> cases f
theorem foot_exn {v : Option (Option V)} {d : Err} {a : Addr} : ¬ foot H v (.exn d) a := fun f => by
  cases v with
  | none => cases f
  | some w => cases w with
    | none => cases f
    | some w => cases w <;> cases f
theorem SlotOk.grow {v : Option (Option V)} {s : Sl} (g : Grow G H G' H') (h : SlotOk K B G H v s) : SlotOk K B G' H' v s := by
  cases s with
  | no => trivial
  | dat d =>
    obtain ⟨x, e, r⟩ := h
    exact ⟨x, e, r.mono g.g⟩
  | own xs =>
    obtain ⟨l, vs, e, hl, r, gl, bl⟩ := h
    obtain ⟨k1, k2⟩ := g.keeps hl gl
    exact ⟨l, vs, e, k1, r.mono g.g, k2, bl⟩
  | own2 xss =>
    obtain ⟨l, ls, e, hl, r, gl, bl, nd⟩ := h
    obtain ⟨k1, k2⟩ := g.keeps hl gl
    exact ⟨l, ls, e, k1, r.grow g, k2, bl, nd⟩
  | ins c fs =>
    obtain ⟨l, dx, fv, e, hl, af, r, gl, bl⟩ := h
    obtain ⟨k1, k2⟩ := g.keeps hl gl
    exact ⟨l, dx, fv, e, k1, af, r.mono g.g, k2, bl⟩
  | exn er =>
    obtain ⟨a, cls, dx, e1, e2, e3⟩ := h
    exact ⟨a, cls, dx, e1, e2, e3.mono g.g fun _ _ => g.h _ _⟩
theorem EnvOk.growN (e : EnvOk K B G σ ρ H) (g : Grow G H G' H') : EnvOk K B G' σ ρ H' :=
  ⟨e.grow.trans g, e.len, fun i s q => (e.slot i s q).grow g, fun i j s t q1 q2 n a f1 f2 => e.sep i j s t q1 q2 n a (foot_grow (e.slot i s q1) g.h f1) (foot_grow (e.slot j t q2) g.h f2)⟩
theorem EnvOk.sub (e : EnvOk K B G σ ρ H) : Ext G H := e.grow.sub
/-- the same, seen from the data at hand -/
def Base.at (B : Base) (G : Hp) : Base := { B with G := G }
theorem RowsOk.base {B' : Base} (hb : B'.H = B.H) : ∀ {ls : List Addr} {xss : List (List D)}, RowsOk K B G H ls xss → RowsOk K B' G H ls xss
  | [], [], _ => trivial
  | _ :: _, _ :: _, ⟨⟨vs, h1, r, g1, b1⟩, h⟩ => ⟨⟨vs, h1, r, g1, by rw [hb]; exact b1⟩, RowsOk.base hb h⟩
  | [], _ :: _, h => h
  | _ :: _, [], h => h
theorem SlotOk.rebase {G1 : Hp} {v : Option (Option V)} {s : Sl} (h : SlotOk K B G H v s) : SlotOk K (B.at G1) G H v s := by
  cases s with
  | own2 xss =>
    obtain ⟨l, ls, e, hl, r, gl, bl, nd⟩ := h
    exact ⟨l, ls, e, hl, RowsOk.base (B := B) (B' := B.at G1) rfl r, gl, bl, nd⟩
  | _ => exact h
theorem SlotOk.unbase {G1 : Hp} {v : Option (Option V)} {s : Sl} (h : SlotOk K (B.at G1) G H v s) : SlotOk K B G H v s := by
  cases s with
  | own2 xss =>
    obtain ⟨l, ls, e, hl, r, gl, bl, nd⟩ := h
    exact ⟨l, ls, e, hl, RowsOk.base (B := B.at G1) (B' := B) rfl r, gl, bl, nd⟩
  | _ => exact h
theorem EnvOk.rebase (e : EnvOk K B G σ ρ H) : EnvOk K (B.at G) G σ ρ H := ⟨⟨.refl, e.grow.h, e.grow.sub, fun _ _ q => .inl q⟩, e.len, fun i s q => (e.slot i s q).rebase, e.sep⟩
theorem EnvOk.unbase {G1 H1 : Hp} (g : Grow B.G B.H G1 H1) (e : EnvOk K (B.at G1) G σ ρ H) : EnvOk K B G σ ρ H := ⟨⟨g.g.trans e.grow.g, e.grow.h, e.grow.sub, fun a o q => by
  rcases e.grow.new a o q with z | z
  · exact g.new a o z
  · exact .inr z⟩, e.len, fun i s q => (e.slot i s q).unbase, e.sep⟩
/-- one slot is set: what it alone knows is nobody else's -/
theorem EnvOk.put (e : EnvOk K B G σ ρ H) (i : Nat) {x : Option V} {s : Sl} (ok : i < ρ.length → SlotOk K B G H (some x) s) (new : ∀ (a : Addr), foot H (some x) s a → ∀ (j : Nat) (t : Sl), j ≠ i → ρ[j]? = some t → ¬ foot H σ[j]? t a) :
    EnvOk K B G (σ.set i x) (ρ.set i s) H := by
  have self : ∀ {u : Sl}, (ρ.set i s)[i]? = some u → u = s ∧ (σ.set i x)[i]? = some x ∧ i < ρ.length := fun {u} q => by
    have hl : i < ρ.length := by
      have := (List.getElem?_eq_some_iff.mp q).1
      rwa [List.length_set] at this
    rw [List.getElem?_set_self hl] at q
    cases q
    exact ⟨rfl, List.getElem?_set_self (by rw [e.len]; exact hl), hl⟩
  refine ⟨e.grow, by rw [List.length_set, List.length_set]; exact e.len, fun j t q => ?_, fun j k t u q1 q2 n a f1 f2 => ?_⟩
  · by_cases h : i = j
    · subst h
      obtain ⟨rfl, e2, hl⟩ := self q
      rw [e2]
      exact ok hl
    · rw [List.getElem?_set_ne h] at q ⊢
      exact e.slot j t q
  · by_cases hj : i = j
    · subst hj
      obtain ⟨rfl, e2, hl⟩ := self q1
      rw [e2] at f1
      rw [List.getElem?_set_ne n] at q2 f2
      exact new a f1 k u (Ne.symm n) q2 f2
    · rw [List.getElem?_set_ne hj] at q1 f1
      by_cases hk : i = k
      · subst hk
        obtain ⟨rfl, e2, hl⟩ := self q2
        rw [e2] at f2
        exact new a f2 j t n q1 f1
      · rw [List.getElem?_set_ne hk] at q2 f2
        exact e.sep j k t u q1 q2 n a f1 f2
/-- a name holds data from now on -/
theorem EnvOk.setDat (e : EnvOk K B G σ ρ H) (i : Nat) {v : V} {d : D} (r : Rep K G v d) : EnvOk K B G (σ.set i (some v)) (ρ.set i (.dat d)) H :=
  e.put i (fun _ => ⟨v, rfl, r⟩) fun a f => (foot_dat f).elim
/-- a name holds what one made and nobody else knows -/
theorem EnvOk.setMine (e : EnvOk K B G σ ρ H) (i : Nat) {l : Addr} {s : Sl} (ok : SlotOk K B G H (some (some (.ref l))) s) (new : ∀ (a : Addr), foot H (some (some (.ref l))) s a → ∀ (j : Nat) (t : Sl), j ≠ i → ρ[j]? = some t → ¬ foot H σ[j]? t a) :
    EnvOk K B G (σ.set i (some (.ref l))) (ρ.set i s) H := e.put i (fun _ => ok) new
/-- nothing of the frame's own stands at an address that is free -/
theorem EnvOk.noMine (e : EnvOk K B G σ ρ H) {l : Addr} (h : H l = none) : ∀ (j : Nat) (t : Sl), ρ[j]? = some t → ¬ foot H σ[j]? t l := fun j t q f => by
  obtain ⟨_, _, o, ho, _⟩ := foot_some (e.slot j t q) f
  rw [h] at ho
  cases ho
/-- nor at one of the data's -/
theorem EnvOk.noMineG (e : EnvOk K B G σ ρ H) {l : Addr} {o : HO} (h : G l = some o) : ∀ (j : Nat) (t : Sl), ρ[j]? = some t → ¬ foot H σ[j]? t l := fun j t q f => by
  obtain ⟨g, _⟩ := foot_some (e.slot j t q) f
  rw [h] at g
  cases g
/-- to forget a name -/
theorem EnvOk.forget (e : EnvOk K B G σ ρ H) (i : Nat) : EnvOk K B G σ (ρ.set i .no) H := by
  have key : ∀ {m : Nat} {u : Sl}, (ρ.set i .no)[m]? = some u → u = .no ∨ ρ[m]? = some u := fun {m u} q => by
    by_cases h : i = m
    · subst h
      have hl : i < ρ.length := by
        have := (List.getElem?_eq_some_iff.mp q).1
        rwa [List.length_set] at this
      rw [List.getElem?_set_self hl] at q
      cases q
      exact .inl rfl
    · rw [List.getElem?_set_ne h] at q
      exact .inr q
  refine ⟨e.grow, by rw [List.length_set]; exact e.len, fun j s q => ?_, fun j k s t q1 q2 n a f1 f2 => ?_⟩
  · rcases key q with rfl | q
    · trivial
    · exact e.slot j s q
  · rcases key q1 with rfl | q1
    · exact foot_no f1
    · rcases key q2 with rfl | q2
      · exact foot_no f2
      · exact e.sep j k s t q1 q2 n a f1 f2
/-- .. where the slot itself is emptied, or changed by others -/
theorem EnvOk.forgetSt (e : EnvOk K B G σ ρ H) (i : Nat) (x : Option V) : EnvOk K B G (σ.set i x) (ρ.set i .no) H :=
  e.put i (fun _ => trivial) fun a f => (foot_no f).elim
/-- the list of one's own at slot i is data from now on (nothing happens) -/
def freeze (i : Nat) (ρ : Ev) : Ev := match ρ[i]? with
  | some (.own xs) => ρ.set i (.dat (.lst xs))
  | some (.own2 xss) => ρ.set i (.dat (.lst (xss.map .lst)))
  | some (.ins c fs) => ρ.set i (.dat (.obj c fs))
  | _ => ρ
/-- what is a slot's alone becomes data -/
theorem EnvOk.toData (e : EnvOk K B G σ ρ H) {i : Nat} {v : V} {d : D} {s : Sl} (hs : ρ[i]? = some s) (hv : σ[i]? = some (some v)) (gg : Ext G G') (new : ∀ b u, G' b = some u → G b = some u ∨ (foot H σ[i]? s b ∧ H b = some u)) (r : Rep K G' v d) :
    EnvOk K B G' σ (ρ.set i (.dat d)) H := by
  have hi : i < ρ.length := (List.getElem?_eq_some_iff.mp hs).1
  have keep : ∀ {j : Nat} {t : Sl} {a : Addr}, i ≠ j → ρ[j]? = some t → foot H σ[j]? t a → G a = none → G' a = none := fun {j t a} n q f g => by
    cases h : G' a with
    | none => rfl
    | some u =>
      rcases new a u h with k | ⟨k, _⟩
      · rw [g] at k; cases k
      · exact absurd f (e.sep i j s t hs q n a k)
  refine ⟨⟨e.grow.g.trans gg, e.grow.h, fun b u q => ?_, fun b u q => ?_⟩, by rw [List.length_set]; exact e.len, fun j t q => ?_, fun j k t u q1 q2 n a f1 f2 => ?_⟩
  · rcases new b u q with h | ⟨_, h⟩
    · exact e.sub _ _ h
    · exact h
  · rcases new b u q with h | ⟨h, _⟩
    · exact e.grow.new _ _ h
    · exact .inr (foot_some (e.slot i s hs) h).2.1
  · by_cases h : i = j
    · subst h
      rw [List.getElem?_set_self hi] at q
      cases q
      exact ⟨_, hv, r⟩
    · rw [List.getElem?_set_ne h] at q
      have z := e.slot j t q
      have kp := fun a => keep (a := a) h q
      cases t with
      | no => trivial
      | dat d' =>
        obtain ⟨x, e1, r1⟩ := z
        exact ⟨x, e1, r1.mono gg⟩
      | own ys =>
        obtain ⟨l', vs, e1, h1, r1, g1, b1⟩ := z
        exact ⟨l', vs, e1, h1, r1.mono gg, kp l' (by rw [e1]; exact rfl) g1, b1⟩
      | own2 yss =>
        obtain ⟨l', ls, e1, h1, r1, g1, b1, nd⟩ := z
        have rows : ∀ {ms : List Addr} {zss : List (List D)}, (∀ a ∈ ms, a ∈ ls) → RowsOk K B G H ms zss → RowsOk K B G' H ms zss := by
          intro ms
          induction ms with
          | nil =>
            intro zss _ rk
            cases zss with
            | nil => trivial
            | cons _ _ => exact rk
          | cons a ms ih =>
            intro zss hm rk
            cases zss with
            | nil => exact rk
            | cons zs zss =>
              obtain ⟨⟨vs, k1, k2, k3, k4⟩, rk⟩ := rk
              exact ⟨⟨vs, k1, k2.mono gg, kp a (by rw [e1]; exact .inr ⟨ls, h1, hm a List.mem_cons_self⟩) k3, k4⟩, ih (fun b hb => hm b (List.mem_cons_of_mem _ hb)) rk⟩
        exact ⟨l', ls, e1, h1, rows (fun _ h => h) r1, kp l' (by rw [e1]; exact .inl rfl) g1, b1, nd⟩
      | ins c fs =>
        obtain ⟨l', dx, fv, e1, h1, af, r1, g1, b1⟩ := z
        exact ⟨l', dx, fv, e1, h1, af, r1.mono gg, kp l' (by rw [e1]; exact rfl) g1, b1⟩
      | exn er =>
        obtain ⟨a, cls, dx, e1, e2, e3⟩ := z
        exact ⟨a, cls, dx, e1, e2, e3.mono gg fun _ _ q => q⟩
  · have key : ∀ {m : Nat} {w : Sl}, (ρ.set i (.dat d))[m]? = some w → w = .dat d ∨ ρ[m]? = some w := fun {m w} q => by
      by_cases h : i = m
      · subst h
        rw [List.getElem?_set_self hi] at q
        cases q
        exact .inl rfl
      · rw [List.getElem?_set_ne h] at q
        exact .inr q
    rcases key q1 with rfl | q1
    · exact foot_dat f1
    · rcases key q2 with rfl | q2
      · exact foot_dat f2
      · exact e.sep j k t u q1 q2 n a f1 f2
/-- rows of one's own as data: the heap that knows them -/
def layRows (H : Hp) : List Addr → Hp → Hp
  | [], G => G
  | a :: ls, G => match H a with
    | some o => upd (layRows H ls G) a o
    | none => layRows H ls G
theorem layRows_ext : ∀ {ls : List Addr}, (∀ a ∈ ls, G a = none) → Ext G (layRows H ls G)
  | [], _ => .refl
  | a :: ls, h => fun b u q => by
    have ih := layRows_ext (ls := ls) (fun c hc => h c (List.mem_cons_of_mem _ hc)) b u q
    show (match H a with | some o => upd (layRows H ls G) a o | none => layRows H ls G) b = some u
    cases H a with
    | none => exact ih
    | some o =>
      show upd (layRows H ls G) a o b = some u
      rw [upd_ne (fun z => by rw [z, h a List.mem_cons_self] at q; cases q)]
      exact ih
theorem layRows_new : ∀ {ls : List Addr} {b : Addr} {u : HO}, layRows H ls G b = some u → G b = some u ∨ (b ∈ ls ∧ H b = some u)
  | [], _, _, q => .inl q
  | a :: ls, b, u, q => by
    have q : (match H a with | some o => upd (layRows H ls G) a o | none => layRows H ls G) b = some u := q
    cases ha : H a with
    | none =>
      rw [ha] at q
      rcases layRows_new (ls := ls) q with h | ⟨h1, h2⟩
      · exact .inl h
      · exact .inr ⟨List.mem_cons_of_mem _ h1, h2⟩
    | some o =>
      rw [ha] at q
      have q : upd (layRows H ls G) a o b = some u := q
      by_cases e : b = a
      · subst e
        rw [upd_same] at q
        exact .inr ⟨List.mem_cons_self, by rw [ha]; exact q⟩
      · rw [upd_ne e] at q
        rcases layRows_new (ls := ls) q with h | ⟨h1, h2⟩
        · exact .inl h
        · exact .inr ⟨List.mem_cons_of_mem _ h1, h2⟩
theorem layRows_reps {G1 : Hp} (gg : Ext G G1) : ∀ {ls : List Addr} {xss : List (List D)}, RowsOk K B G H ls xss → (∀ a ∈ ls, ∀ o, H a = some o → G1 a = some o) → Reps K G1 (ls.map V.ref) (xss.map .lst)
  | [], [], _, _ => .nil
  | a :: ls, xs :: xss, ⟨⟨vs, h1, r, g1, b1⟩, h⟩, k => .cons (.lst (.inl (k a List.mem_cons_self _ h1)) (r.mono gg)) (layRows_reps gg h fun b hb => k b (List.mem_cons_of_mem _ hb))
  | [], _ :: _, h, _ => h.elim
  | _ :: _, [], h, _ => h.elim
theorem layRows_get : ∀ {ls : List Addr} {a : Addr} {o : HO}, ls.Nodup → a ∈ ls → H a = some o → layRows H ls G a = some o
  | b :: ls, a, o, n, m, ha => by
    rw [List.nodup_cons] at n
    show (match H b with | some o => upd (layRows H ls G) b o | none => layRows H ls G) a = some o
    rcases List.mem_cons.mp m with e | m
    · subst e
      rw [ha]
      exact upd_same
    · have ih := layRows_get n.2 m ha
      cases H b with
      | none => exact ih
      | some u =>
        show upd (layRows H ls G) b u a = some o
        rw [upd_ne (fun z => n.1 (by rw [← z]; exact m))]
        exact ih
  | [], _, _, _, m, _ => by cases m
theorem EnvOk.freeze (e : EnvOk K B G σ ρ H) (i : Nat) : ∃ G', EnvOk K B G' σ (freeze i ρ) H ∧ Ext G G' := by
  have one : ∀ {l : Addr} {o : HO} {s : Sl}, H l = some o → foot H σ[i]? s l → ∀ b u, upd G l o b = some u → G b = some u ∨ (foot H σ[i]? s b ∧ H b = some u) := fun {l o s} hl f b u q => by
    by_cases h : b = l
    · subst h; rw [upd_same] at q; cases q; exact .inr ⟨f, hl⟩
    · rw [upd_ne h] at q; exact .inl q
  unfold PL.freeze
  split
  · rename_i xs hs
    obtain ⟨l, vs, hv, hl, r, gl, bl⟩ := e.slot i _ hs
    exact ⟨_, e.toData hs hv (.upd gl) (one hl (by rw [hv]; exact rfl)) (.lst (.inl upd_same) (r.mono (.upd gl))), .upd gl⟩
  · rename_i xss hs
    obtain ⟨l, ls, hv, hl, r, gl, bl, nd⟩ := e.slot i _ hs
    have nd' := nd
    rw [List.nodup_cons] at nd'
    have g0 : ∀ a ∈ l :: ls, G a = none := fun a ha => by
      rcases List.mem_cons.mp ha with h | h
      · rw [h]; exact gl
      · obtain ⟨_, _, _, _, g1, _⟩ := r.at h
        exact g1
    have gg := layRows_ext (H := H) (ls := l :: ls) g0
    refine ⟨layRows H (l :: ls) G, e.toData hs hv gg (fun b u q => ?_) (.lst (.inl (layRows_get nd List.mem_cons_self hl)) (layRows_reps gg r fun a ha o ho => layRows_get nd (List.mem_cons_of_mem _ ha) ho)), gg⟩
    rcases layRows_new q with h | ⟨h1, h2⟩
    · exact .inl h
    · refine .inr ⟨?_, h2⟩
      rw [hv]
      rcases List.mem_cons.mp h1 with h | h
      · exact .inl h
      · exact .inr ⟨ls, hl, h⟩
  · rename_i c fs hs
    obtain ⟨l, dx, fv, hv, hl, af, r, gl, bl⟩ := e.slot i _ hs
    exact ⟨_, e.toData hs hv (.upd gl) (one hl (by rw [hv]; exact rfl)) (.obj upd_same af (r.mono (.upd gl))), .upd gl⟩
  · exact ⟨G, e, .refl⟩
/-- what is a slot's alone changes -/
theorem EnvOk.change (e : EnvOk K B G σ ρ H) {i : Nat} {l : Addr} {o : HO} {s t : Sl} (hs : ρ[i]? = some s) (fl : foot H σ[i]? s l)
    (ok : SlotOk K B G (upd H l o) σ[i]? t) (ft : ∀ b, foot (upd H l o) σ[i]? t b → foot H σ[i]? s b ∨ ∀ (j : Nat) (u : Sl), j ≠ i → ρ[j]? = some u → ¬ foot H σ[j]? u b) : EnvOk K B G σ (ρ.set i t) (upd H l o) := by
  have hi : i < ρ.length := (List.getElem?_eq_some_iff.mp hs).1
  obtain ⟨gl, bl, o', ho', nx⟩ := foot_some (e.slot i s hs) fl
  have self : ∀ {u : Sl}, (ρ.set i t)[i]? = some u → u = t := fun {u} q => by
    rw [List.getElem?_set_self hi] at q
    cases q
    rfl
  have fo : ∀ {j : Nat} {u : Sl} {b : Addr}, i ≠ j → ρ[j]? = some u → foot (upd H l o) σ[j]? u b → foot H σ[j]? u b := fun {j u b} n q f => by
    cases u with
    | own2 yss =>
      obtain ⟨l', ls, e1, h1, _⟩ := e.slot j _ q
      rw [e1] at f ⊢
      have nl : l' ≠ l := fun z => e.sep i j s _ hs q n l fl (by rw [e1]; exact .inl z.symm)
      rcases (show b = l' ∨ ∃ ls : List Addr, upd H l o l' = some (.lst (ls.map V.ref)) ∧ b ∈ ls from f) with h | ⟨ms, hm, m⟩
      · exact .inl h
      · rw [upd_ne nl] at hm
        exact .inr ⟨ms, hm, m⟩
    | own ys =>
      obtain ⟨l', vs, e1, _⟩ := e.slot j _ q
      rw [e1] at f ⊢
      exact f
    | ins c fs =>
      obtain ⟨l', dx, fv, e1, _⟩ := e.slot j _ q
      rw [e1] at f ⊢
      exact f
    | no => exact (foot_no f).elim
    | dat d => exact (foot_dat f).elim
    | exn d => exact (foot_exn f).elim
  refine ⟨⟨e.grow.g, fun b u q => ?_, fun b u q => ?_, e.grow.new⟩, by rw [List.length_set]; exact e.len, fun j u q => ?_, fun j k u w q1 q2 n a f1 f2 => ?_⟩
  · rw [upd_ne (ne_of_none q bl)]; exact e.grow.h _ _ q
  · rw [upd_ne (ne_of_none q gl)]; exact e.sub _ _ q
  · by_cases h : i = j
    · subst h
      rw [self q]
      exact ok
    · rw [List.getElem?_set_ne h] at q
      have z := e.slot j u q
      have nl : ∀ l', foot H σ[j]? u l' → l' ≠ l := fun l' f z => by
        subst z
        exact e.sep i j s u hs q h l' fl f
      cases u with
      | no => trivial
      | dat d' => exact z
      | own ys =>
        obtain ⟨l', vs, e1, h1, r1, g1, b1⟩ := z
        exact ⟨l', vs, e1, by rw [upd_ne (nl l' (by rw [e1]; exact rfl))]; exact h1, r1, g1, b1⟩
      | own2 yss =>
        obtain ⟨l', ls, e1, h1, r1, g1, b1, nd⟩ := z
        refine ⟨l', ls, e1, by rw [upd_ne (nl l' (by rw [e1]; exact .inl rfl))]; exact h1, r1.other fun m => ?_, g1, b1, nd⟩
        exact nl l (by rw [e1]; exact .inr ⟨ls, h1, m⟩) rfl
      | ins c fs =>
        obtain ⟨l', dx, fv, e1, h1, af, r1, g1, b1⟩ := z
        exact ⟨l', dx, fv, e1, by rw [upd_ne (nl l' (by rw [e1]; exact rfl))]; exact h1, af, r1, g1, b1⟩
      | exn er =>
        obtain ⟨a, cls, dx, e1, e2, e3⟩ := z
        refine ⟨a, cls, dx, e1, e2, e3.mono (fun _ _ q => q) fun d fv q => ?_⟩
        have nd : d ≠ l := fun ed => by
          subst ed
          rw [ho'] at q
          cases q
          exact nx fv rfl
        rw [upd_ne nd]; exact q
  · by_cases hj : i = j
    · subst hj
      rw [self q1] at f1
      rw [List.getElem?_set_ne n] at q2
      have f2' := fo n q2 f2
      rcases ft a f1 with h | h
      · exact e.sep i k s w hs q2 n a h f2'
      · exact h k w (Ne.symm n) q2 f2'
    · rw [List.getElem?_set_ne hj] at q1
      have f1' := fo hj q1 f1
      by_cases hk : i = k
      · subst hk
        rw [self q2] at f2
        rcases ft a f2 with h | h
        · exact e.sep i j s u hs q1 hj a h f1'
        · exact h j u n q1 f1'
      · rw [List.getElem?_set_ne hk] at q2
        exact e.sep j k u w q1 q2 n a f1' (fo hk q2 f2)
end
def RG {α β : Type} (R : Hp → β → α → Prop) (K : PySem.W.Frag) (E : XK) (G H : Hp) (Q : β → Hp → Prop) : Res α → Prop
  | .ok a => ∀ G' v H', Grow G H G' H' → R G' v a → Q v H'
  | .exc e => ∀ G' cls dx H', Grow G H G' H' → ErrOk K G' H' cls dx e → E cls dx H'
  | .stuck => False
section
variable {α β γ δ : Type} {R : Hp → β → α → Prop} {R' : Hp → δ → γ → Prop} {K : PySem.W.Frag} {E : XK} {G H G' H' : Hp} {Q : β → Hp → Prop} {Q' : δ → Hp → Prop}
theorem RG.grow {r : Res α} (g : Grow G H G' H') (h : RG R K E G H Q r) : RG R K E G' H' Q r := by
  cases r with
  | ok a => exact fun G2 v H2 g2 r => h G2 v H2 (g.trans g2) r
  | exc e => exact fun G2 c d H2 g2 r => h G2 c d H2 (g.trans g2) r
  | stuck => exact h
theorem RG.bind {r : Res α} {f : α → Res γ} {P : β → Hp → Prop} (h : RG R' K E G H Q' (r >>= f)) (k : ∀ a G1 v H1, Grow G H G1 H1 → R G1 v a → RG R' K E G1 H1 Q' (f a) → P v H1) : RG R K E G H P r := by
  cases r with
  | ok a => exact fun G1 v H1 g r => k a G1 v H1 g r (RG.grow (R := R') g h)
  | exc e => exact h
  | stuck => exact h
theorem RG.imp {r : Res α} {P : β → Hp → Prop} (h : RG R K E G H Q r) (k : ∀ a G1 v H1, r = .ok a → Grow G H G1 H1 → R G1 v a → Q v H1 → P v H1) : RG R K E G H P r := by
  cases r with
  | ok a => exact fun G1 v H1 g r => k a G1 v H1 rfl g r (h G1 v H1 g r)
  | exc e => exact h
  | stuck => exact h
end
/-- where p holds -/
def chk {α : Type} (p : Prop) [Decidable p] (r : Res α) : Res α := if p then r else .stuck
theorem chk_pos {α : Type} {p : Prop} [Decidable p] {r : Res α} (h : p) : chk p r = r := if_pos h
theorem RG.chk {α β : Type} {R : Hp → β → α → Prop} {K : PySem.W.Frag} {E : XK} {G H : Hp} {Q : β → Hp → Prop} {p : Prop} [Decidable p] {r : Res α} (h : RG R K E G H Q (chk p r)) : p ∧ RG R K E G H Q r := by
  unfold PL.chk at h
  by_cases z : p
  · rw [if_pos z] at h; exact ⟨z, h⟩
  · rw [if_neg z] at h; exact h.elim
def ofOpt {α : Type} : Option α → Res α
  | some a => .ok a
  | none => .stuck
@[simp] theorem ofOpt_some {α : Type} (a : α) : ofOpt (some a) = .ok a := rfl
theorem RG.opt {α β : Type} {R : Hp → β → α → Prop} {K : PySem.W.Frag} {E : XK} {G H : Hp} {Q : β → Hp → Prop} {o : Option α} (h : RG R K E G H Q (ofOpt o)) : ∃ a, o = some a ∧ RG R K E G H Q (.ok a) := by
  cases o with
  | some a => exact ⟨a, rfl, h⟩
  | none => exact h.elim
/-- a pure reading: m of the environment -/
def tG {α β : Type} (R : Hp → β → α → Prop) (K : PySem.W.Frag) (B : Base) (W : WX) (m : Ev → Res α) : St → Hp → (β → Hp → Prop) → Prop :=
  fun σ H Q => ∃ G ρ, EnvOk K B G σ ρ H ∧ RG R K (fun c d H' => W c d σ H') G H Q (m ρ)
abbrev tM (K : PySem.W.Frag) (B : Base) (W : WX) (m : Ev → Res D) : TE := tG (Rep K) K B W m
abbrev tMA (K : PySem.W.Frag) (B : Base) (W : WX) (m : Ev → Res (List D)) : TA := tG (Reps K) K B W m
abbrev tMT (K : PySem.W.Frag) (B : Base) (W : WX) (m : Ev → Res Bool) : TT := tG (fun _ b c => b = c) K B W m
inductive Out where
  | nx (ρ : Ev) | rt (d : D) (ρ : Ev) | bk (ρ : Ev) | ct (ρ : Ev) | exc (e : Err) (ρ : Ev) | stuck
/-- what a return gives -/
def RtOk (K : PySem.W.Frag) (B : Base) (G : Hp) (σ : St) (ρ : Ev) (H : Hp) (v : V) (d : D) : Prop := match B.fr with
  | 0 => EnvOk K B G σ ρ H ∧ Rep K G v d
  | 1 => Grow B.G B.H G H ∧ ∃ xs, d = .lst xs ∧ SlotOk K B G H (some (some v)) (.own xs)
  | _ => Grow B.G B.H G H ∧ ∃ xss : List (List D), d = .lst (xss.map .lst) ∧ SlotOk K B G H (some (some v)) (.own2 xss)
theorem RtOk.dat {K : PySem.W.Frag} {B : Base} {G : Hp} {σ : St} {ρ : Ev} {H : Hp} {v : V} {d : D} (h : RtOk K B G σ ρ H v d) (hf : B.fr = 0) : EnvOk K B G σ ρ H ∧ Rep K G v d := by
  unfold RtOk at h
  rw [hf] at h
  exact h
theorem RtOk.ofDat {K : PySem.W.Frag} {B : Base} {G : Hp} {σ : St} {ρ : Ev} {H : Hp} {v : V} {d : D} (hf : B.fr = 0) (e : EnvOk K B G σ ρ H) (r : Rep K G v d) : RtOk K B G σ ρ H v d := by
  unfold RtOk
  rw [hf]
  exact ⟨e, r⟩
theorem RtOk.ofOwn {K : PySem.W.Frag} {B : Base} {G : Hp} {σ : St} {ρ : Ev} {H : Hp} {v : V} {xs : List D} (hf : B.fr = 1) (g : Grow B.G B.H G H) (s : SlotOk K B G H (some (some v)) (.own xs)) : RtOk K B G σ ρ H v (.lst xs) := by
  unfold RtOk
  rw [hf]
  exact ⟨g, xs, rfl, s⟩
theorem RtOk.ofOwn2 {K : PySem.W.Frag} {B : Base} {G : Hp} {σ : St} {ρ : Ev} {H : Hp} {v : V} {xss : List (List D)} (hf : B.fr = 2) (g : Grow B.G B.H G H) (s : SlotOk K B G H (some (some v)) (.own2 xss)) : RtOk K B G σ ρ H v (.lst (xss.map .lst)) := by
  unfold RtOk
  rw [hf]
  exact ⟨g, xss, rfl, s⟩
theorem RtOk.unbase {K : PySem.W.Frag} {B : Base} {G : Hp} {σ : St} {ρ : Ev} {H : Hp} {v : V} {d : D} {G1 H1 : Hp} (g : Grow B.G B.H G1 H1) (h : RtOk K (B.at G1) G σ ρ H v d) : RtOk K B G σ ρ H v d := by
  have gr : Grow G1 B.H G H → Grow B.G B.H G H := fun e => ⟨g.g.trans e.g, e.h, e.sub, fun a o q => by
    rcases e.new a o q with z | z
    · exact g.new a o z
    · exact .inr z⟩
  unfold RtOk at h ⊢
  have ef : (B.at G1).fr = B.fr := rfl
  rw [ef] at h
  cases hf : B.fr with
  | zero =>
    rw [hf] at h
    exact ⟨h.1.unbase g, h.2⟩
  | succ n =>
    rw [hf] at h
    cases n with
    | zero =>
      obtain ⟨h1, xs, h2, h3⟩ := h
      exact ⟨gr h1, xs, h2, h3.unbase⟩
    | succ n =>
      obtain ⟨h1, xs, h2, h3⟩ := h
      exact ⟨gr h1, xs, h2, h3.unbase⟩
def SG (K : PySem.W.Frag) (B : Base) (W : WX) (Dn : Ends) : Out → Prop
  | .nx ρ => ∀ G σ H, EnvOk K B G σ ρ H → Dn.nx σ H
  | .rt d ρ => ∀ G σ H v, RtOk K B G σ ρ H v d → Dn.rt v H
  | .bk ρ => ∀ G σ H, EnvOk K B G σ ρ H → Dn.bk σ H
  | .ct ρ => ∀ G σ H, EnvOk K B G σ ρ H → Dn.ct σ H
  | .exc e ρ => ∀ G σ H c d, EnvOk K B G σ ρ H → ErrOk K G H c d e → W c d σ H
  | .stuck => False
def tS (K : PySem.W.Frag) (B : Base) (W : WX) (m : Ev → Out) : TS := fun Dn σ H => ∃ G ρ, EnvOk K B G σ ρ H ∧ SG K B W Dn (m ρ)
/-- an expression's result, then what follows -/
def Out.of {α : Type} (r : Res α) (ρ : Ev) (f : α → Out) : Out := match r with
  | .ok a => f a
  | .exc e => .exc e ρ
  | .stuck => .stuck
@[simp] theorem Out.of_ok {α : Type} (a : α) (ρ : Ev) (f : α → Out) : Out.of (.ok a) ρ f = f a := rfl
@[simp] theorem Out.of_exc {α : Type} (e : Err) (ρ : Ev) (f : α → Out) : Out.of (.exc e : Res α) ρ f = .exc e ρ := rfl
@[simp] theorem Out.of_stuck {α : Type} (ρ : Ev) (f : α → Out) : Out.of (.stuck : Res α) ρ f = .stuck := rfl
/-- .. the environment as it is handed on -/
def Out.then (o : Out) (f : Ev → Out) : Out := match o with
  | .nx ρ => f ρ
  | o => o
@[simp] theorem Out.then_nx (ρ : Ev) (f : Ev → Out) : (Out.nx ρ).then f = f ρ := rfl
@[simp] theorem Out.then_rt (d : D) (ρ : Ev) (f : Ev → Out) : (Out.rt d ρ).then f = .rt d ρ := rfl
@[simp] theorem Out.then_bk (ρ : Ev) (f : Ev → Out) : (Out.bk ρ).then f = .bk ρ := rfl
@[simp] theorem Out.then_ct (ρ : Ev) (f : Ev → Out) : (Out.ct ρ).then f = .ct ρ := rfl
@[simp] theorem Out.then_exc (e : Err) (ρ : Ev) (f : Ev → Out) : (Out.exc e ρ).then f = .exc e ρ := rfl
@[simp] theorem Out.then_stuck (f : Ev → Out) : Out.stuck.then f = .stuck := rfl
section
variable {α β : Type} {R : Hp → β → α → Prop} {K : PySem.W.Frag} {B : Base} {W : WX} {G H : Hp} {σ : St} {ρ : Ev} {Dn : Ends}
/-- from a statement's end to its expression's -/
theorem SG.of {r : Res α} {f : α → Out} {P : β → Hp → Prop} (e : EnvOk K B G σ ρ H) (h : SG K B W Dn (Out.of r ρ f)) (k : ∀ a G1 v H1, r = .ok a → Grow G H G1 H1 → EnvOk K B G1 σ ρ H1 → R G1 v a → SG K B W Dn (f a) → P v H1) :
    RG R K (fun c d H' => W c d σ H') G H P r := by
  cases r with
  | ok a => exact fun G1 v H1 g r => k a G1 v H1 rfl g (e.growN g) r h
  | exc x => exact fun G1 c d H1 g r => h G1 σ H1 c d (e.growN g) r
  | stuck => exact h
theorem SG.then {o : Out} {f : Ev → Out} {N : St → Hp → Prop} (h : SG K B W Dn (o.then f)) (k : ∀ ρ' G σ H, EnvOk K B G σ ρ' H → SG K B W Dn (f ρ') → N σ H) : SG K B W { Dn with nx := N } o := by
  cases o with
  | nx ρ => exact fun G σ H e => k ρ G σ H e h
  | rt d ρ => exact h
  | bk ρ => exact h
  | ct ρ => exact h
  | exc e ρ => exact h
  | stuck => exact h
end
/-- a reading that asks more -/
theorem PE.imp {X : Cx} {e : Expr} {t t' : TE} (h : PE X e t) (k : ∀ σ H Q, t' σ H Q → t σ H Q) : PE X e t' := ⟨fun pins s σ H Q I q => h.run pins s σ H Q I (k σ H Q q)⟩
theorem PT.imp {X : Cx} {e : Expr} {t t' : TT} (h : PT X e t) (k : ∀ σ H Q, t' σ H Q → t σ H Q) : PT X e t' := ⟨fun pins s σ H Q I q => h.run pins s σ H Q I (k σ H Q q)⟩
theorem PW.imp {X : Cx} {e : Expr} {t t' : TT} (h : PW X e t) (k : ∀ σ H Q, t' σ H Q → t σ H Q) : PW X e t' := ⟨fun w pins s σ H Q I q => h.run w pins s σ H Q I (k σ H Q q)⟩
theorem PA.imp {X : Cx} {e : List Expr} {t t' : TA} (h : PA X e t) (k : ∀ σ H Q, t' σ H Q → t σ H Q) : PA X e t' := ⟨fun p pins s σ H Q I q => h.run p pins s σ H Q I (k σ H Q q)⟩
theorem PS.imp {X : Cx} {e : Stmt} {t t' : TS} (h : PS X e t) (k : ∀ Dn σ H, t' Dn σ H → t Dn σ H) : PS X e t' := ⟨fun pins s σ H Dn I q => h.run pins s σ H Dn I (k Dn σ H q)⟩
theorem PSs.imp {X : Cx} {e : List Stmt} {t t' : TS} (h : PSs X e t) (k : ∀ Dn σ H, t' Dn σ H → t Dn σ H) : PSs X e t' := ⟨fun pins s σ H Dn I q => h.run pins s σ H Dn I (k Dn σ H q)⟩
end PL
namespace PL
open PySem PySem.Spec L2
theorem RG.any {α β : Type} {R : Hp → β → α → Prop} {K : PySem.W.Frag} {E E' : XK} {G H : Hp} {Q : β → Hp → Prop} {r : Res α} (hn : ∀ e, r ≠ .exc e) (h : RG R K E G H Q r) : RG R K E' G H Q r := by
  cases r with
  | ok a => exact h
  | exc e => exact absurd rfl (hn e)
  | stuck => exact h
theorem RG.here {K : PySem.W.Frag} {E : XK} {G H : Hp} {Q : VK} {d : D} {v : V} (s : Ext G H) (h : RG (Rep K) K E G H Q (.ok d)) (r : Rep K G v d) : Q v H := h G v H (.refl s) r
/-- what is new: a list, a tuple -/
theorem RG.newL {K : PySem.W.Frag} {E : XK} {G H : Hp} {Q : VK} {ds : List D} {vs : List V} (s : Ext G H) (h : RG (Rep K) K E G H Q (.ok (.lst ds))) (r : Reps K G vs ds) : ∀ p, H p = none → Q (.ref p) (upd H p (.lst vs)) := fun p hp =>
  h _ _ _ (.laid s hp _) (.lst (.inl upd_same) (r.mono (.upd (s.free hp))))
theorem RG.newT {K : PySem.W.Frag} {E : XK} {G H : Hp} {Q : VK} {ds : List D} {vs : List V} (s : Ext G H) (h : RG (Rep K) K E G H Q (.ok (.tup ds))) (r : Reps K G vs ds) : ∀ p, H p = none → Q (.ref p) (upd H p (.tup vs)) := fun p hp =>
  h _ _ _ (.laid s hp _) (.tup (.of upd_same) (r.mono (.upd (s.free hp))))
/-- f: binaryOp op, compareOp op ..; m: what it is worth -/
def OpM (X : Cx) (W : WX) (f : Value → Value → Sem Value) (m : D → D → Res D) : Prop :=
  ∀ (pins : List (Addr × Obj)) (s : Shared) (σ : St) (G H : Hp) (x y : V) (v u : Value) (a b : D) (Q : VK), Inv X pins σ H s → RelV x v → RelV y u → Ext G H → Rep X.K G x a → Rep X.K G y b →
    RG (Rep X.K) X.K (fun c d H' => W c d σ H') G H Q (m a b) → wpAny (model X.prog X.w) X.A (f v u) (EP X pins σ Q) X.xe s
def UnM (X : Cx) (W : WX) (f : Value → Sem Value) (m : D → Res D) : Prop :=
  ∀ (pins : List (Addr × Obj)) (s : Shared) (σ : St) (G H : Hp) (x : V) (v : Value) (a : D) (Q : VK), Inv X pins σ H s → RelV x v → Ext G H → Rep X.K G x a →
    RG (Rep X.K) X.K (fun c d H' => W c d σ H') G H Q (m a) → wpAny (model X.prog X.w) X.A (f v) (EP X pins σ Q) X.xe s
def CallM (X : Cx) (W : WX) (f : Value) (m : List D → Res D) : Prop :=
  ∀ (pins : List (Addr × Obj)) (s : Shared) (σ : St) (G H : Hp) (xs : List V) (us : List Value) (ds : List D) (Q : VK), Inv X pins σ H s → Vals xs us → Ext G H → Reps X.K G xs ds →
    RG (Rep X.K) X.K (fun c d H' => W c d σ H') G H Q (m ds) → wpAny (model X.prog X.w) X.A (call f us) (EP X pins σ Q) X.xe s
section
variable {X : Cx} {W : WX} {f : Value → Value → Sem Value} {g : Value → Sem Value}
theorem OpM.of {r : R2} {m : D → D → Res D} (h : OpR X f r) (k : ∀ G H x y a b Q (E : XK), Ext G H → Rep X.K G x a → Rep X.K G y b → RG (Rep X.K) X.K E G H Q (m a b) → r x y H Q) : OpM X W f m :=
  fun pins s σ G H x y v u a b Q I rx ry e ra rb q => h pins s σ H x y v u Q I rx ry (k G H x y a b Q _ e ra rb q)
theorem UnM.of {r : V → Hp → VK → Prop} {m : D → Res D} (h : UnR X g r) (k : ∀ G H x a Q (E : XK), Ext G H → Rep X.K G x a → RG (Rep X.K) X.K E G H Q (m a) → r x H Q) : UnM X W g m :=
  fun pins s σ G H x v a Q I rx e ra q => h pins s σ H x v Q I rx (k G H x a Q _ e ra q)
theorem CallM.of {c : Value} {r : List V → Hp → VK → Prop} {m : List D → Res D} (h : CallR X c r) (k : ∀ G H xs ds Q (E : XK), Ext G H → Reps X.K G xs ds → RG (Rep X.K) X.K E G H Q (m ds) → r xs H Q) : CallM X W c m :=
  fun pins s σ G H xs us ds Q I rx e ra q => h pins s σ H xs us Q I rx (k G H xs ds Q _ e ra q)
/-- by one rule here, by another one there -/
theorem OpM.or {m m' : D → D → Res D} (h : OpM X W f m) (h' : OpM X W f m') (c : D → D → Bool) : OpM X W f (fun a b => if c a b then m a b else m' a b) :=
  fun pins s σ G H x y v u a b Q I rx ry e ra rb q => by
    by_cases z : c a b = true
    · exact h pins s σ G H x y v u a b Q I rx ry e ra rb (by simpa only [z, if_true] using q)
    · exact h' pins s σ G H x y v u a b Q I rx ry e ra rb (by simpa only [z, if_false, Bool.false_eq_true] using q)
end
/-- an operator that neither raises nor calls -/
def OpP (X : Cx) (f : Value → Value → Sem Value) (m : D → D → Res D) : Prop :=
  ∃ r : R2, OpR X f r ∧ ∀ G H x y a b Q (E : XK), Ext G H → Rep X.K G x a → Rep X.K G y b → RG (Rep X.K) X.K E G H Q (m a b) → r x y H Q
theorem OpP.m {X : Cx} {W : WX} {f : Value → Value → Sem Value} {m : D → D → Res D} (h : OpP X f m) : OpM X W f m := by
  obtain ⟨r, h1, h2⟩ := h
  exact OpM.of h1 h2
def mVar (i : Nat) : Ev → Res D := fun ρ => match ρ[i]? with
  | some (.dat d) => .ok d
  | _ => .stuck
def mCon (d : D) : Ev → Res D := fun _ => .ok d
def mOp (f : D → D → Res D) (ma mb : Ev → Res D) : Ev → Res D := fun ρ => ma ρ >>= fun a => mb ρ >>= fun b => f a b
def mUn (f : D → Res D) (ma : Ev → Res D) : Ev → Res D := fun ρ => ma ρ >>= f
/-- one's own list, read where nobody keeps it -/
def mOwn (i : Nat) (f : List D → Res D) : Ev → Res D := fun ρ => match ρ[i]? with
  | some (.own xs) => f xs
  | some (.dat (.lst xs)) => f xs
  | _ => .stuck
section
variable {X : Cx} {B : Base} {W : WX} {a b c : Expr} {ma mb mc : Ev → Res D} {pos : Pos}
theorem me_of {e : Expr} {t : TE} {m : Ev → Res D} (h : PE X e t) (k : ∀ G ρ σ H Q, EnvOk X.K B G σ ρ H → RG (Rep X.K) X.K (fun c d H' => W c d σ H') G H Q (m ρ) → t σ H Q) : PE X e (tM X.K B W m) :=
  PE.imp h fun σ H Q ⟨G, ρ, e, q⟩ => k G ρ σ H Q e q
theorem me_var (i : Nat) {x : Str} (hN : X.N[i]? = some x := by rfl) (hv : Vis X.env.scope x := by first | exact Or.inl rfl | exact Or.inr (Or.inl rfl) | exact Or.inr (Or.inr rfl)) (hd : (x == ("__debug__" : Str)) = false := by decide)
    (hcd : (x == ("__classdict__" : Str)) = false := by decide) : PE X (.Name x pos) (tM X.K B W (mVar i)) :=
  me_of (pe_var (i := i) hN hv hd hcd) fun G ρ σ H Q e q => by
    unfold mVar at q
    split at q
    · rename_i d hs
      obtain ⟨v, hv, r⟩ := e.slot i _ hs
      exact ⟨v, hv, RG.here e.sub q r⟩
    · exact q.elim
theorem me_con {e : Expr} {v : V} {d : D} (h : PE X e (tC v)) (r : ∀ G, Rep X.K G v d) : PE X e (tM X.K B W (mCon d)) :=
  me_of h fun _ _ _ _ _ e q => RG.here e.sub q (r _)
theorem me_int {i : Int} {j : Nat} : PE X (.Constant (.int i) j pos) (tM X.K B W (mCon (.int i))) := me_con pe_int fun _ => .int i
theorem me_bl {k : Bool} {j : Nat} : PE X (.Constant (.bool k) j pos) (tM X.K B W (mCon (.bl k))) := me_con pe_bl fun _ => .bl k
theorem me_non {j : Nat} : PE X (.Constant .none j pos) (tM X.K B W (mCon .non)) := me_con pe_non fun _ => .non
theorem me_str {x : Str} {j : Nat} : PE X (.Constant (.str x) j pos) (tM X.K B W (mCon (.str x))) := me_con pe_str fun _ => .str x
/-- a module's constant -/
theorem me_gint {x : Str} {i : Int} (hg : Gl X x) (hm : ∃ t, X.mg x = some (.int i t)) (hd : (x == ("__debug__" : Str)) = false := by decide) : PE X (.Name x pos) (tM X.K B W (mCon (.int i))) := by
  obtain ⟨t, hm⟩ := hm
  exact me_con (pe_glob (v := .int i) hg hm ⟨t, rfl⟩ hd) fun _ => .int i
theorem me_gstr {x z : Str} (hg : Gl X x) (hm : ∃ t, X.mg x = some (.str z t)) (hd : (x == ("__debug__" : Str)) = false := by decide) : PE X (.Name x pos) (tM X.K B W (mCon (.str z))) := by
  obtain ⟨t, hm⟩ := hm
  exact me_con (pe_glob (v := .str z) hg hm ⟨t, rfl⟩ hd) fun _ => .str z
/-- .. a list, a tuple of the module's -/
theorem me_gdat {x : Str} {p : Addr} {d : D} (hg : Gl X x) (hm : X.mg x = some (.ref p)) (r : ∀ G, Rep X.K G (.ref p) d) (hd : (x == ("__debug__" : Str)) = false := by decide) : PE X (.Name x pos) (tM X.K B W (mCon d)) :=
  me_con (pe_glob (v := .ref p) hg hm rfl hd) r
theorem bin_run {f : Value → Value → Sem Value} {m : D → D → Res D} (ho : OpM X W f m) (ha : PE X a (tM X.K B W ma)) (hb : PE X b (tM X.K B W mb)) {pins : List (Addr × Obj)} {s : Shared} {σ : St} {H : Hp} {Q : VK} (I : Inv X pins σ H s)
    (h : tM X.K B W (mOp m ma mb) σ H Q) :
    wpAny (model X.prog X.w) X.A (eval a X.env) (fun v s₁ => wpAny (model X.prog X.w) X.A (eval b X.env) (fun u s₂ => wpAny (model X.prog X.w) X.A (f v u) (EP X pins σ Q) X.xe s₂) X.xe s₁) X.xe s := by
  obtain ⟨G, ρ, e, h⟩ := h
  refine bin (R := fun x y H2 => ∃ G2 d c, Ext G2 H2 ∧ Rep X.K G2 x d ∧ Rep X.K G2 y c ∧ RG (Rep X.K) X.K (fun c d H' => W c d σ H') G2 H2 Q (m d c)) ha hb I ?_ fun v u s2 x y H2 I2 rx ry ⟨G2, d, c, e2, r1, r2, q⟩ => ho pins s2 σ G2 H2 x y v u d c Q I2 rx ry e2 r1 r2 q
  exact ⟨G, ρ, e, RG.bind h fun d G1 v H1 g r h1 => ⟨G1, ρ, e.growN g, RG.bind h1 fun c G2 u H2 g2 r2 h2 => ⟨G2, d, c, g2.sub, r.mono g2.g, r2, h2⟩⟩⟩
theorem me_op {op : Operator} {m : D → D → Res D} (ho : OpM X W (binaryOp op) m) (ha : PE X a (tM X.K B W ma)) (hb : PE X b (tM X.K B W mb)) : PE X (.BinOp a op b pos) (tM X.K B W (mOp m ma mb)) :=
  ⟨fun _ _ _ _ _ I h => wpAny_BinOp (bin_run ho ha hb I h)⟩
theorem me_un {op : UnaryOp} {m : D → Res D} (ho : UnM X W (unaryOp op) m) (ha : PE X a (tM X.K B W ma)) : PE X (.UnaryOp op a pos) (tM X.K B W (mUn m ma)) := by
  refine ⟨fun pins s σ H Q I h => ?_⟩
  obtain ⟨G, ρ, e, h⟩ := h
  refine PyProof.Rows.UnaryOp_ (thn (ha.run pins s σ H (fun x H1 => ∃ G1 d, Ext G1 H1 ∧ Rep X.K G1 x d ∧ RG (Rep X.K) X.K (fun c d H' => W c d σ H') G1 H1 Q (m d)) I ⟨G, ρ, e, RG.bind h fun d G1 v H1 g r h1 => ⟨G1, d, g.sub, r, h1⟩⟩) fun v s1 ⟨x, H1, I1, r1, G1, d, e1, r, q⟩ => ?_)
  exact ho pins s1 σ G1 H1 x v d Q I1 r1 e1 r q
theorem me_cmp {op : CmpOp} {m : D → D → Res D} (ho : OpM X W (compareOp op) m) (ha : PE X a (tM X.K B W ma)) (hb : PE X b (tM X.K B W mb)) (hm : behindInMarks op b = false := by first | exact nomark _ | rfl) : PE X (.Compare a [op] [b] pos) (tM X.K B W (mOp m ma mb)) :=
  ⟨fun _ _ _ _ _ I h => wpAny_Compare1 (bin_run ho ha hb I h) hm⟩
end
def truthD : D → Res Bool
  | .non => .ok false
  | .bl b => .ok b
  | .int i => .ok (i != 0)
  | .str y => chk (y.length ≤ sizeLine) (.ok ((y.length : Int) != 0))
  | .lst xs => .ok (!xs.isEmpty)
  | .tup xs => .ok (!xs.isEmpty)
  | _ => .stuck
theorem Reps.isEmpty {K : PySem.W.Frag} {G : Hp} {vs : List V} {ds : List D} (r : Reps K G vs ds) : vs.isEmpty = ds.isEmpty := by cases r <;> rfl
theorem truth_ok {K : PySem.W.Frag} {E : XK} {G H : Hp} {v : V} {d : D} {Q : Bool → Hp → Prop} (s : Ext G H) (r : Rep K G v d) (h : RG (fun _ b c => b = c) K E G H Q (truthD d)) : ∃ k, TruV K v H k ∧ Q k H := by
  have go : ∀ {k : Bool}, RG (fun _ b c => b = c) K E G H Q (.ok k) → Q k H := fun q => q G _ H (.refl s) rfl
  cases r with
  | non => exact ⟨false, rfl, go h⟩
  | bl b => exact ⟨b, rfl, go h⟩
  | int i => exact ⟨_, rfl, go h⟩
  | str x =>
    obtain ⟨z, h⟩ := RG.chk h
    exact ⟨_, ⟨z, rfl⟩, go h⟩
  | tup q r => exact ⟨_, .inr (.inl ⟨_, s.sqt q, rfl⟩), by rw [r.isEmpty]; exact go h⟩
  | lst q r => exact ⟨_, .inl ⟨_, .inl (s.rd q), rfl⟩, by rw [r.isEmpty]; exact go h⟩
  | obj _ _ _ => exact h.elim
def boolD : D → Res Bool
  | .bl b => .ok b
  | _ => .stuck
def mBl (m : Ev → Res D) : Ev → Res Bool := fun ρ => m ρ >>= boolD
/-- a < b < c -/
def chainD (g : D → D → Res D) (y : D) (m : Res D) : D → Res D
  | .bl true => m >>= fun z => g y z
  | .bl false => .ok (.bl false)
  | _ => .stuck
def mChain (f g : D → D → Res D) (ma mb mc : Ev → Res D) : Ev → Res D := fun ρ => ma ρ >>= fun x => mb ρ >>= fun y => f x y >>= chainD g y (mc ρ)
theorem chain_end {X : Cx} {B : Base} {W : WX} {r r' : R2} {m m' : D → D → Res D} {mc : Ev → Res D} {G H : Hp} {σ : St} {ρ : Ev} {x y : V} {a b : D} {Q : VK}
    (kr : ∀ G H x y a b Q (E : XK), Ext G H → Rep X.K G x a → Rep X.K G y b → RG (Rep X.K) X.K E G H Q (m a b) → r x y H Q) (kr' : ∀ G H x y a b Q (E : XK), Ext G H → Rep X.K G x a → Rep X.K G y b → RG (Rep X.K) X.K E G H Q (m' a b) → r' x y H Q)
    (e : EnvOk X.K B G σ ρ H) (ra : Rep X.K G x a) (rb : Rep X.K G y b) (q : RG (Rep X.K) X.K (fun c d H' => W c d σ H') G H Q (m a b >>= chainD m' b (mc ρ))) :
    r x y H fun z H3 => ∃ k, z = .bl k ∧ (if k = true then tM X.K B W mc σ H3 fun w' H4 => r' y w' H4 Q else Q (.bl false) H3) := by
  refine kr G H x y a b _ _ e.sub ra rb (RG.bind q fun d G1 v H1 g r q1 => ?_)
  cases r with
  | bl k =>
    refine ⟨k, rfl, ?_⟩
    cases k with
    | true =>
      rw [if_pos rfl]
      exact ⟨G1, ρ, e.growN g, RG.bind q1 fun c G2 u H2 g2 r2 q2 => kr' G2 H2 y u b c Q _ g2.sub (rb.mono (g.g.trans g2.g)) r2 q2⟩
    | false =>
      rw [if_neg Bool.false_ne_true]
      exact q1 G1 _ H1 (.refl g.sub) (.bl false)
  | _ => exact q1.elim
def mTru (m : Ev → Res D) : Ev → Res Bool := fun ρ => m ρ >>= truthD
def mtNot (m : Ev → Res Bool) : Ev → Res Bool := fun ρ => m ρ >>= fun b => .ok (!b)
def mtAnd (m m' : Ev → Res Bool) : Ev → Res Bool := fun ρ => m ρ >>= fun b => if b = true then m' ρ else .ok false
def mtOr (m m' : Ev → Res Bool) : Ev → Res Bool := fun ρ => m ρ >>= fun b => if b = true then .ok true else m' ρ
def mBool (m : Ev → Res Bool) : Ev → Res D := fun ρ => m ρ >>= fun b => .ok (.bl b)
def mAnd (m m' : Ev → Res D) : Ev → Res D := fun ρ => m ρ >>= fun a => truthD a >>= fun b => if b = true then m' ρ else .ok a
def mOr (m m' : Ev → Res D) : Ev → Res D := fun ρ => m ρ >>= fun a => truthD a >>= fun b => if b = true then .ok a else m' ρ
def mIf (c : Ev → Res Bool) (m m' : Ev → Res D) : Ev → Res D := fun ρ => c ρ >>= fun b => if b = true then m ρ else m' ρ
section
variable {X : Cx} {B : Base} {W : WX} {a b c : Expr} {rest : List Expr} {ma mb mc : Ev → Res D} {ta tb : Ev → Res Bool} {pos : Pos}
theorem mt_val (ha : PE X a (tM X.K B W ma)) (he : ∀ whole, isTrue a X.env whole = (do let v ← whole; standAt a.pos; holding [v] (truthy v)) := by intro _; rfl) : PT X a (tMT X.K B W (mTru ma)) :=
  PT.imp (pt_truth ha he) fun σ H Q ⟨G, ρ, e, q⟩ => ⟨G, ρ, e, RG.bind q fun d G1 v H1 g r q1 => truth_ok g.sub r q1⟩
theorem mt_cmp {op : CmpOp} {m : D → D → Res D} (ho : OpM X W (compareOp op) m) (ha : PE X a (tM X.K B W ma)) (hb : PE X b (tM X.K B W mb)) (hm : behindInMarks op b = false := by first | exact nomark _ | rfl) :
    PT X (.Compare a [op] [b] pos) (tMT X.K B W (mBl (mOp m ma mb))) := by
  refine ⟨fun pins s σ H Q I h => ?_⟩
  obtain ⟨G, ρ, e, h⟩ := h
  have h' : RG (fun _ b c => b = c) X.K (fun c d H' => W c d σ H') G H Q (mOp m ma mb ρ >>= boolD) := h
  have h2 : tM X.K B W (mOp m ma mb) σ H (fun x H1 => ∃ k, x = V.bl k ∧ Q k H1) := ⟨G, ρ, e, RG.bind h' fun d G1 v H1 g r q => by
    cases r with
    | bl k => exact ⟨k, rfl, q G1 _ H1 (.refl g.sub) rfl⟩
    | _ => exact q.elim⟩
  refine wpAny_isTrue_Compare1 (thn (bin_run ho ha hb I h2) fun v s1 h1 => thn h1 fun u s2 h2 => thn h2 fun c s3 ⟨z, H3, I3, r3, k, e, q3⟩ => ?_) hm
  subst e
  cases r3
  exact wpAny_truthy_bool ⟨H3, I3, q3⟩
/-- a < b < c -/
theorem me_chain {op op' : CmpOp} {m m' : D → D → Res D} (ho : OpP X (compareOp op) m) (ho' : OpP X (compareOp op') m') (ha : PE X a (tM X.K B W ma)) (hb : PE X b (tM X.K B W mb)) (hc : PE X c (tM X.K B W mc))
    (hm : lastMarks [op, op'] [b, c] = false := by with_unfolding_all rfl) : PE X (.Compare a [op, op'] [b, c] pos) (tM X.K B W (mChain m m' ma mb mc)) := by
  obtain ⟨r, hr, kr⟩ := ho
  obtain ⟨r', hr', kr'⟩ := ho'
  exact PE.imp (pe_chain hr hr' ha hb hc hm) fun σ H Q ⟨G, ρ, e, q⟩ => ⟨G, ρ, e, RG.bind q fun d G1 v H1 g rv q1 => ⟨G1, ρ, e.growN g, RG.bind q1 fun d2 G2 u H2 g2 ru q2 => chain_end kr kr' (e.growN (g.trans g2)) (rv.mono g2.g) ru q2⟩⟩
theorem mt_chain {op op' : CmpOp} {m m' : D → D → Res D} (ho : OpP X (compareOp op) m) (ho' : OpP X (compareOp op') m') (ha : PE X a (tM X.K B W ma)) (hb : PE X b (tM X.K B W mb)) (hc : PE X c (tM X.K B W mc))
    (hm : lastMarks [op, op'] [b, c] = false := by with_unfolding_all rfl) : PT X (.Compare a [op, op'] [b, c] pos) (tMT X.K B W (mBl (mChain m m' ma mb mc))) := by
  obtain ⟨r, hr, kr⟩ := ho
  obtain ⟨r', hr', kr'⟩ := ho'
  exact PT.imp (pt_chain hr hr' ha hb hc hm) fun σ H Q ⟨G, ρ, e, q⟩ => by
    have q' : RG (fun _ b c => b = c) X.K (fun c d H' => W c d σ H') G H Q (mChain m m' ma mb mc ρ >>= boolD) := q
    have h2 : RG (Rep X.K) X.K (fun c d H' => W c d σ H') G H (fun x H1 => ∃ k, x = V.bl k ∧ Q k H1) (mChain m m' ma mb mc ρ) := RG.bind q' fun d G1 v H1 g r q => by
      cases r with
      | bl k => exact ⟨k, rfl, q G1 _ H1 (.refl g.sub) rfl⟩
      | _ => exact q.elim
    exact ⟨G, ρ, e, RG.bind h2 fun d G1 v H1 g rv q1 => ⟨G1, ρ, e.growN g, RG.bind q1 fun d2 G2 u H2 g2 ru q2 => chain_end kr kr' (e.growN (g.trans g2)) (rv.mono g2.g) ru q2⟩⟩
theorem mt_not (ha : PT X a (tMT X.K B W ta)) : PT X (.UnaryOp .Not a pos) (tMT X.K B W (mtNot ta)) :=
  PT.imp (pt_not ha) fun σ H Q ⟨G, ρ, e, q⟩ => ⟨G, ρ, e, RG.bind q fun d G1 v H1 g r q1 => by
    have r' : v = d := r
    subst r'
    exact q1 G1 _ H1 (.refl g.sub) rfl⟩
theorem mw_and1 (ha : PT X a (tMT X.K B W ta)) : PW X (.BoolOp .And [a] pos) (tMT X.K B W ta) := pw_and1 ha
theorem mw_or1 (ha : PT X a (tMT X.K B W ta)) : PW X (.BoolOp .Or [a] pos) (tMT X.K B W ta) := pw_or1 ha
theorem mw_and (ha : PT X a (tMT X.K B W ta)) (hb : PW X (.BoolOp .And (b :: rest) pos) (tMT X.K B W tb)) : PW X (.BoolOp .And (a :: b :: rest) pos) (tMT X.K B W (mtAnd ta tb)) :=
  PW.imp (pw_and ha hb) fun σ H Q ⟨G, ρ, e, q⟩ => ⟨G, ρ, e, RG.bind q fun d G1 v H1 g r q1 => by
    have r' : v = d := r
    subst r'
    cases v with
    | true => exact ⟨G1, ρ, e.growN g, q1⟩
    | false => exact q1 G1 _ H1 (.refl g.sub) rfl⟩
theorem mw_or (ha : PT X a (tMT X.K B W ta)) (hb : PW X (.BoolOp .Or (b :: rest) pos) (tMT X.K B W tb)) : PW X (.BoolOp .Or (a :: b :: rest) pos) (tMT X.K B W (mtOr ta tb)) :=
  PW.imp (pw_or ha hb) fun σ H Q ⟨G, ρ, e, q⟩ => ⟨G, ρ, e, RG.bind q fun d G1 v H1 g r q1 => by
    have r' : v = d := r
    subst r'
    cases v with
    | true => exact q1 G1 _ H1 (.refl g.sub) rfl
    | false => exact ⟨G1, ρ, e.growN g, q1⟩⟩
theorem mt_w {e : Expr} (h : PW X e (tMT X.K B W ta)) : PT X e (tMT X.K B W ta) := h.pt
/-- and, or, not as values -/
theorem me_one {op : BoolOp} (ha : PE X a (tM X.K B W ma)) : PE X (.BoolOp op [a] pos) (tM X.K B W ma) := pe_one ha
theorem me_and (ha : PE X a (tM X.K B W ma)) (hb : PE X (.BoolOp .And (b :: rest) pos) (tM X.K B W mb)) : PE X (.BoolOp .And (a :: b :: rest) pos) (tM X.K B W (mAnd ma mb)) :=
  PE.imp (pe_andT ha hb) fun σ H Q ⟨G, ρ, e, q⟩ => ⟨G, ρ, e, RG.bind q fun d G1 v H1 g r q1 => by
    refine truth_ok (Q := fun k H2 => if k = true then tM X.K B W mb σ H2 Q else Q v H2) g.sub r (RG.bind q1 fun k G2 k' H2 g2 r2 q2 => ?_)
    have r' : k' = k := r2
    subst r'
    cases k' with
    | true => exact ⟨G2, ρ, (e.growN g).growN g2, q2⟩
    | false => exact q2 G2 _ H2 (.refl g2.sub) (r.mono g2.g)⟩
theorem me_or (ha : PE X a (tM X.K B W ma)) (hb : PE X (.BoolOp .Or (b :: rest) pos) (tM X.K B W mb)) : PE X (.BoolOp .Or (a :: b :: rest) pos) (tM X.K B W (mOr ma mb)) :=
  PE.imp (pe_orT ha hb) fun σ H Q ⟨G, ρ, e, q⟩ => ⟨G, ρ, e, RG.bind q fun d G1 v H1 g r q1 => by
    refine truth_ok (Q := fun k H2 => if k = true then Q v H2 else tM X.K B W mb σ H2 Q) g.sub r (RG.bind q1 fun k G2 k' H2 g2 r2 q2 => ?_)
    have r' : k' = k := r2
    subst r'
    cases k' with
    | true => exact q2 G2 _ H2 (.refl g2.sub) (r.mono g2.g)
    | false => exact ⟨G2, ρ, (e.growN g).growN g2, q2⟩⟩
theorem me_not (ha : PE X a (tM X.K B W ma)) : PE X (.UnaryOp .Not a pos) (tM X.K B W (mBool (mtNot (mTru ma)))) :=
  PE.imp (pe_notT ha) fun σ H Q ⟨G, ρ, e, q⟩ => ⟨G, ρ, e, by
    unfold mBool mtNot mTru at q
    rw [bind_assoc', bind_assoc'] at q
    refine RG.bind q fun d G1 v H1 g r q1 => ?_
    refine truth_ok (Q := fun k H2 => Q (.bl (!k)) H2) g.sub r (RG.bind q1 fun k G2 k' H2 g2 r2 q2 => ?_)
    have r' : k' = k := r2
    subst r'
    exact q2 G2 _ H2 (.refl g2.sub) (.bl _)⟩
theorem me_if (hc : PT X c (tMT X.K B W ta)) (ha : PE X a (tM X.K B W ma)) (hb : PE X b (tM X.K B W mb)) : PE X (.IfExp c a b pos) (tM X.K B W (mIf ta ma mb)) :=
  PE.imp (pe_ifExp hc ha hb) fun σ H Q ⟨G, ρ, e, q⟩ => ⟨G, ρ, e, RG.bind q fun d G1 v H1 g r q1 => by
    have r' : v = d := r
    subst r'
    cases v with
    | true => exact ⟨G1, ρ, e.growN g, q1⟩
    | false => exact ⟨G1, ρ, e.growN g, q1⟩⟩
end
def mNil : Ev → Res (List D) := fun _ => .ok []
def mCons (m : Ev → Res D) (ms : Ev → Res (List D)) : Ev → Res (List D) := fun ρ => m ρ >>= fun d => ms ρ >>= fun ds => .ok (d :: ds)
def mTup (ms : Ev → Res (List D)) : Ev → Res D := fun ρ => ms ρ >>= fun ds => chk (ds.length ≤ sizeLine) (.ok (.tup ds))
def mLst (ms : Ev → Res (List D)) : Ev → Res D := fun ρ => ms ρ >>= fun ds => chk (ds.length ≤ sizeLine) (.ok (.lst ds))
section
variable {X : Cx} {B : Base} {W : WX} {e : Expr} {es : List Expr} {m : Ev → Res D} {ms : Ev → Res (List D)} {pos : Pos}
theorem ma_nil : PA X [] (tMA X.K B W mNil) := PA.imp pa_nil fun _ _ _ ⟨_, _, e, q⟩ => q _ _ _ (.refl e.sub) .nil
theorem ma_cons (ha : PE X e (tM X.K B W m)) (hr : PA X es (tMA X.K B W ms)) (hs : starEach (e :: es) X.env = (false, eval e X.env) :: starEach es X.env := by rfl) : PA X (e :: es) (tMA X.K B W (mCons m ms)) :=
  PA.imp (pa_cons ha hr hs) fun σ H Q ⟨G, ρ, e, q⟩ => ⟨G, ρ, e, RG.bind q fun d G1 v H1 g r q1 => ⟨G1, ρ, e.growN g, RG.bind q1 fun ds G2 vs H2 g2 r2 q2 => q2 G2 _ H2 (.refl g2.sub) (.cons (r.mono g2.g) r2)⟩⟩
theorem me_tup {x1} (h : PA X es (tMA X.K B W ms)) : PE X (.Tuple es x1 pos) (tM X.K B W (mTup ms)) :=
  PE.imp (pe_tup h) fun σ H Q ⟨G, ρ, e, q⟩ => ⟨G, ρ, e, RG.bind q fun ds G1 vs H1 g r q1 => by
    obtain ⟨z, q1⟩ := RG.chk q1
    exact ⟨by rw [r.length]; exact z, RG.newT g.sub q1 r⟩⟩
theorem me_lst (h : PA X es (tMA X.K B W ms)) : PE X (.List es pos) (tM X.K B W (mLst ms)) :=
  PE.imp (pe_lst h) fun σ H Q ⟨G, ρ, e, q⟩ => ⟨G, ρ, e, RG.bind q fun ds G1 vs H1 g r q1 => by
    obtain ⟨z, q1⟩ := RG.chk q1
    exact ⟨by rw [r.length]; exact z, RG.newL g.sub q1 r⟩⟩
end
end PL
namespace PL
open PySem PySem.Spec L2
open PyProof.Rows (b2i)
def DivOk (a b : Int) : Prop := b ≠ 0 ∧ Builtin.divisionGoesByPylong a b = false
instance (a b : Int) : Decidable (DivOk a b) := by unfold DivOk; infer_instance
instance (a b : Int) : Decidable (CMulX a b) := by unfold CMulX; infer_instance
instance (a b : Int) : Decidable (CPow a b) := by unfold CPow; infer_instance
def addD : D → D → Res D
  | .int a, .int b => .ok (.int (a + b))
  | .int a, .bl b => .ok (.int (a + b2i b))
  | .str a, .str b => chk (a.length + b.length ≤ sizeLine) (.ok (.str (a ++ b)))
  | .lst a, .lst b => chk (a.length + b.length ≤ sizeLine) (.ok (.lst (a ++ b)))
  | .tup a, .tup b => chk (a.length + b.length ≤ sizeLine) (.ok (.tup (a ++ b)))
  | _, _ => .stuck
def subD : D → D → Res D
  | .int a, .int b => .ok (.int (a - b))
  | _, _ => .stuck
def mulD : D → D → Res D
  | .int a, .int b => chk (CMulX a b) (.ok (.int (a * b)))
  | .lst a, .int k => chk (-(2 ^ 63) ≤ k ∧ k < 2 ^ 63 ∧ a.length * k.toNat ≤ sizeLine) (.ok (.lst (List.replicate k.toNat a).flatten))
  | _, _ => .stuck
def fdivD : D → D → Res D
  | .int a, .int b => chk (DivOk a b) (.ok (.int (a.fdiv b)))
  | _, _ => .stuck
def modD : D → D → Res D
  | .int a, .int b => chk (b ≠ 0) (.ok (.int (a.fmod b)))
  | _, _ => .stuck
def powD : D → D → Res D
  | .int a, .int b => chk (CPow a b) (.ok (.int (a ^ b.toNat)))
  | _, _ => .stuck
instance (a b : Int) : Decidable (CShl a b) := by unfold CShl; infer_instance
def shlD : D → D → Res D
  | .int a, .int b => chk (CShl a b) (.ok (.int (a * 2 ^ b.toNat)))
  | _, _ => .stuck
def cmpD (f : Int → Int → Bool) : D → D → Res D
  | .int a, .int b => .ok (.bl (f a b))
  | _, _ => .stuck
abbrev ltD : D → D → Res D := cmpD fun a b => decide (a < b)
abbrev leD : D → D → Res D := cmpD fun a b => decide (a ≤ b)
abbrev gtD : D → D → Res D := cmpD fun a b => decide (b < a)
abbrev geD : D → D → Res D := cmpD fun a b => decide (b ≤ a)
def negD : D → Res D
  | .int a => .ok (.int (-a))
  | _ => .stuck
section
variable {X : Cx}
theorem Rd.ne_frz {H : Hp} {a : Addr} {xs : List V} (h : Rd H a (.lst xs)) {K : PySem.W.Frag} : SqL K H a xs := .inl h
/-- the object of a list that is read -/
theorem rd_obj {pins : List (Addr × Obj)} {σ : St} {H : Hp} {s : Shared} {l : Addr} {xs : List V} (I : Inv X pins σ H s) (h : Rd H l (.lst xs)) :
    xs.length ≤ sizeLine ∧ ∃ (its : List Value) (n : Nat), Vals xs its ∧ xs.length = its.length ∧ s.heap.get? l = some { cls := .type "list", data := .seq its.toArray n } := by
  obtain ⟨z, its, n, r, e⟩ := h.ok I.hok
  exact ⟨z, its, n, r, r.length, e⟩
def rCatR : R2 := fun x y H Q => ∃ l b xs zs, x = .ref l ∧ y = .ref b ∧ Rd H l (.lst xs) ∧ Rd H b (.lst zs) ∧ xs.length + zs.length ≤ sizeLine ∧ ∀ p, H p = none → Q (.ref p) (upd H p (.lst (xs ++ zs)))
theorem op_catR : OpR X (binaryOp .Add) rCatR := by
  intro pins s σ H x y v u Q I rx ry h
  obtain ⟨l, b, xs, zs, rfl, rfl, hH, hB, hz, q⟩ := h
  cases rx
  cases ry
  obtain ⟨z, its, n, r, hl, e⟩ := rd_obj I hH
  obtain ⟨z2, its2, n2, r2, hl2, e2⟩ := rd_obj I hB
  refine PySem.P.add_list e e2 ?_ (by rw [List.size_toArray, List.size_toArray]; omega)
  have ea : its.toArray ++ its2.toArray = (its ++ its2).toArray := by simp
  rw [ea]
  exact ⟨.ref _, _, I.lnew (t' := s.toks) (r.append r2) (by rw [List.length_append]; omega), rfl, q _ I.fresh⟩
theorem op_addD : OpP X (binaryOp .Add) addD := by
  refine ⟨_, op_add.or (op_add_ib.or (op_add_str.or (op_catR.or op_catA))), fun G H x y a b Q E s ra rb h => ?_⟩
  cases ra with
  | int i =>
    cases rb with
    | int j => exact .inl ⟨i, j, rfl, rfl, RG.here s h (.int _)⟩
    | bl k => exact .inr (.inl ⟨i, k, rfl, rfl, RG.here s h (.int _)⟩)
    | _ => exact h.elim
  | str i =>
    cases rb with
    | str j =>
      obtain ⟨z, h⟩ := RG.chk h
      exact .inr (.inr (.inl ⟨i, j, rfl, rfl, z, RG.here s h (.str _)⟩))
    | _ => exact h.elim
  | lst q r =>
    cases rb with
    | lst q2 r2 =>
      obtain ⟨z, h⟩ := RG.chk h
      exact .inr (.inr (.inr (.inl ⟨_, _, _, _, rfl, rfl, s.rd q, s.rd q2, by rw [r.length, r2.length]; exact z, RG.newL s h (r.append r2)⟩)))
    | _ => exact h.elim
  | tup q r =>
    cases rb with
    | tup q2 r2 =>
      obtain ⟨z, h⟩ := RG.chk h
      refine .inr (.inr (.inr (.inr ⟨_, _, _, _, rfl, rfl, s.sqt q, s.sqt q2, by rw [r.length, r2.length]; exact z, fun e => ?_, fun e e2 => ?_, fun _ _ => RG.newT s h (r.append r2)⟩)))
      · subst e
        cases r
        exact RG.here s h (.tup q2 r2)
      · subst e2
        cases r2
        rw [List.append_nil] at h
        exact RG.here s h (.tup q r)
    | _ => exact h.elim
  | _ => cases rb <;> exact h.elim
theorem op_int2 {op : Operator} {m : D → D → Res D} {C : Int → Int → Prop} {g : Int → Int → Int} (ho : OpR X (binaryOp op) (rI C fun i j => .int (g i j)))
    (k : ∀ (a b : D) (E : XK) (G H : Hp) (Q : VK), RG (Rep X.K) X.K E G H Q (m a b) → ∃ i j, a = .int i ∧ b = .int j ∧ C i j ∧ RG (Rep X.K) X.K E G H Q (.ok (.int (g i j)))) : OpP X (binaryOp op) m :=
  ⟨_, ho, fun G H x y a b Q E s ra rb h => by
    obtain ⟨i, j, rfl, rfl, c, h⟩ := k a b E G H Q h
    cases ra
    cases rb
    exact ⟨i, j, rfl, rfl, c, RG.here s h (.int _)⟩⟩
theorem op_subD : OpP X (binaryOp .Sub) subD :=
  ⟨_, op_sub, fun G H x y a b Q E s ra rb h => by
    cases ra with
    | int i => cases rb with
      | int j => exact ⟨i, j, rfl, rfl, RG.here s h (.int _)⟩
      | _ => exact h.elim
    | _ => cases rb <;> exact h.elim⟩
def rRepR2 : R2 := fun x y H Q => ∃ l k xs, x = .ref l ∧ y = .int k ∧ Rd H l (.lst xs) ∧ -(2 ^ 63) ≤ k ∧ k < 2 ^ 63 ∧ xs.length * k.toNat ≤ sizeLine ∧ ∀ p, H p = none → Q (.ref p) (upd H p (.lst (List.replicate k.toNat xs).flatten))
theorem Reps.flatten {K : PySem.W.Frag} {G : Hp} {vs : List V} {ds : List D} (r : Reps K G vs ds) : ∀ n : Nat, Reps K G (List.replicate n vs).flatten (List.replicate n ds).flatten
  | 0 => .nil
  | n + 1 => by
    rw [List.replicate_succ, List.replicate_succ, List.flatten_cons, List.flatten_cons]
    exact r.append (Reps.flatten r n)
/-- only what is tracked is repeated -/
theorem foldl_rep0 (its : List Value) (m : Nat) : List.foldl (fun u w => u ++ w) #[] (List.replicate m its.toArray) = (List.replicate m its).flatten.toArray := by
  simpa using foldl_rep its m []
theorem op_repR : OpR X (binaryOp .Mult) rRepR2 := by
  rintro pins s σ H x y v u Q I rx ry ⟨l, k, xs, rfl, rfl, hH, h1, h2, hz, q⟩
  cases rx
  obtain ⟨t, rfl⟩ := ry
  obtain ⟨_, its, n, r, hl, e⟩ := rd_obj I hH
  have e1 : its.toArray.size * k.toNat ≤ sizeLine := by simpa [← hl] using hz
  have e2 : (sizeLine : Nat) ≤ (2 ^ 63 - 1) / 8 := by decide
  have c1 : ¬ (!Builtin.List.listFitsIndex k) = true := by rw [fitsIndex_both h1 h2]; simp
  have c2 : ¬ its.toArray.size * k.toNat > (2 ^ 63 - 1) / 8 := Nat.not_lt.mpr (Nat.le_trans e1 e2)
  have c3 : ¬ Builtin.List.listTooLong (its.toArray.size * k.toNat) = true := by rw [notLongL e1]; simp
  have new : List.foldl (fun u w => u ++ w) #[] (List.replicate (if its.toArray.isEmpty = true then 0 else k.toNat) its.toArray) = (List.replicate k.toNat its).flatten.toArray := by
    rw [foldl_rep0]
    cases its <;> simp
  have fin := AutoListH.list___mul___list_int_3 l its.toArray n k t c1 c2 c3
  have ty : ∀ s' : Shared, s'.TypeIs (.int k t) "int" := fun s' => typeIs_int s' k t
  refine wpAny_binaryOp_repeat_ref (by decide) ⟨_, e, rfl⟩ ty noFill_list_mul F.fills_int_mul F.slot_int_rmul repeat_list F.slot_int_index.lookup ?_
  refine call_meets F.slot_int_rmul (ty s) F.entry_int_rmul (F.args_int_rmul_2 _ _) (int___rmul___int_list k t l its.toArray n) ⟨e, rfl, ⟨_, e, rfl⟩, ?_⟩
  refine call_meets F.slot_list_mul ⟨_, e, rfl⟩ F.entry_list_mul (F.args_list_mul_2 _ _) fin ⟨e, ?_⟩
  rw [new]
  have hlen : (List.replicate k.toNat xs).flatten.length ≤ sizeLine := by rw [PyProof.Rows.lm_len_rep_flat, Nat.mul_comm]; exact hz
  exact ⟨.ref _, _, I.lnew (t' := s.toks) (r.rep k.toNat) hlen, rfl, q _ I.fresh⟩
theorem op_mulD : OpP X (binaryOp .Mult) mulD := by
  refine ⟨_, op_mulX.or op_repR, fun G H x y a b Q E s ra rb h => ?_⟩
  cases ra with
  | int i =>
    cases rb with
    | int j =>
      obtain ⟨z, h⟩ := RG.chk h
      exact .inl ⟨i, j, rfl, rfl, z, RG.here s h (.int _)⟩
    | _ => exact h.elim
  | lst q r =>
    cases rb with
    | int k =>
      obtain ⟨⟨z1, z2, z3⟩, h⟩ := RG.chk h
      exact .inr ⟨_, k, _, rfl, rfl, s.rd q, z1, z2, by rw [r.length]; exact z3, RG.newL s h (r.flatten _)⟩
    | _ => exact h.elim
  | _ => cases rb <;> exact h.elim
theorem op_fdivD : OpP X (binaryOp .FloorDiv) fdivD := by
  have ho : OpR X (binaryOp .FloorDiv) (rI DivOk fun i j => .int (i.fdiv j)) := opI fun _ _ _ _ _ _ _ hc q => PyProof.Rows.floordiv_int hc.1 q (.inl hc.2)
  refine op_int2 ho fun a b E G H Q h => ?_
  cases a with
  | int i => cases b with
    | int j =>
      obtain ⟨z, h⟩ := RG.chk h
      exact ⟨i, j, rfl, rfl, z, h⟩
    | _ => exact h.elim
  | _ => cases b <;> exact h.elim
theorem op_modD : OpP X (binaryOp .Mod) modD := by
  refine op_int2 op_modN fun a b E G H Q h => ?_
  cases a with
  | int i => cases b with
    | int j =>
      obtain ⟨z, h⟩ := RG.chk h
      exact ⟨i, j, rfl, rfl, z, h⟩
    | _ => exact h.elim
  | _ => cases b <;> exact h.elim
theorem op_powD : OpP X (binaryOp .Pow) powD := by
  refine op_int2 op_pow fun a b E G H Q h => ?_
  cases a with
  | int i => cases b with
    | int j =>
      obtain ⟨z, h⟩ := RG.chk h
      exact ⟨i, j, rfl, rfl, z, h⟩
    | _ => exact h.elim
  | _ => cases b <;> exact h.elim
theorem op_shlD : OpP X (binaryOp .LShift) shlD := by
  refine op_int2 op_shlW fun a b E G H Q h => ?_
  cases a with
  | int i => cases b with
    | int j =>
      obtain ⟨z, h⟩ := RG.chk h
      exact ⟨i, j, rfl, rfl, z, h⟩
    | _ => exact h.elim
  | _ => cases b <;> exact h.elim
theorem un_negD {W : WX} : UnM X W (unaryOp .USub) negD := UnM.of un_neg fun G H x a Q E s ra h => by
  cases ra with
  | int i => exact ⟨i, rfl, RG.here s h (.int _)⟩
  | _ => exact h.elim
theorem op_cmpD {op : CmpOp} {g : Int → Int → Bool} (ho : OpR X (compareOp op) (rI0 fun i j => .bl (g i j))) : OpP X (compareOp op) (cmpD g) :=
  ⟨_, ho, fun G H x y a b Q E s ra rb h => by
    cases ra with
    | int i => cases rb with
      | int j => exact ⟨i, j, rfl, rfl, RG.here s h (.bl _)⟩
      | _ => exact h.elim
    | _ => cases rb <;> exact h.elim⟩
theorem op_ltD : OpP X (compareOp .Lt) ltD := op_cmpD op_lt
theorem op_leD : OpP X (compareOp .LtE) leD := op_cmpD op_le
theorem op_gtD : OpP X (compareOp .Gt) gtD := op_cmpD op_gt
theorem op_geD : OpP X (compareOp .GtE) geD := op_cmpD op_ge
end
end PL
namespace PL
open PySem PySem.Spec L2
open PyProof.Rows (b2i)
open PySem.Spec
mutual
def toPy : D → PyData
  | .non => .none
  | .bl b => .bool b
  | .int i => .int i
  | .str x => .str x
  | .tup xs => .tuple (toPys xs)
  | .lst xs => .list (toPys xs)
  | .obj _ _ => .none
def toPys : List D → List PyData
  | [] => []
  | x :: xs => toPy x :: toPys xs
end
mutual
/-- no object within -/
def flat : D → Bool
  | .obj _ _ => false
  | .tup xs => flats xs
  | .lst xs => flats xs
  | _ => true
def flats : List D → Bool
  | [] => true
  | x :: xs => flat x && flats xs
end
mutual
theorem toPy_rep {K : PySem.W.Frag} {G H : Hp} (s : Ext G H) : ∀ {v : V} {d : D}, Rep K G v d → flat d = true → Dp K H v (toPy d)
  | _, _, .non, _ => .non
  | _, _, .bl b, _ => .bl b
  | _, _, .int i, _ => .int i
  | _, _, .str x, _ => .str x
  | _, .tup xs, .tup q r, f => .tup (s.sqt q) (toPys_rep s r f)
  | _, .lst xs, .lst q r, f => .lst (.inl (s.rd q)) (toPys_rep s r f)
  | _, _, .obj _ _ _, f => nomatch (show false = true from f)
theorem toPys_rep {K : PySem.W.Frag} {G H : Hp} (s : Ext G H) : ∀ {vs : List V} {ds : List D}, Reps K G vs ds → flats ds = true → DpAll K H vs (toPys ds)
  | _, _, .nil, _ => .nil
  | _, _, .cons r t, f => by
    obtain ⟨f1, f2⟩ := Bool.and_eq_true_iff.mp f
    exact .cons (toPy_rep s r f1) (toPys_rep s t f2)
end
def isFlatV : D → Bool
  | .non => true
  | .bl _ => true
  | .int _ => true
  | .str _ => true
  | _ => false
/-- what == tells -/
def eqB (a b : D) : Bool := PyData.eqv (toPy a) (toPy b)
def eqOk (a b : D) : Bool := flat a && flat b && SeqAt.shaped (toPy a) && SeqAt.shaped (toPy b)
def eqD : D → D → Res D
  | .str a, .str b => .ok (.bl (decide (a = b)))
  | .int a, .int b => .ok (.bl (decide (a = b)))
  | .int _, .str _ => .ok (.bl false)
  | .str _, .int _ => .ok (.bl false)
  | .non, .str _ => .ok (.bl false)
  | .str _, .non => .ok (.bl false)
  | .bl a, .bl b => .ok (.bl (decide (a = b)))
  | a, b => chk (eqOk a b = true) (.ok (.bl (eqB a b)))
def neD (a b : D) : Res D := eqD a b >>= fun r => match r with
  | .bl k => .ok (.bl (!k))
  | _ => .stuck
section
variable {X : Cx}
theorem eq_cases {K : PySem.W.Frag} {G H : Hp} {x y : V} {a b : D} (s : Ext G H) (ra : Rep K G x a) (rb : Rep K G y b) {α : Type} (P : Bool → Prop) (h : ∀ k, eqD a b = .ok (.bl k) → P k) (hs : eqD a b ≠ .stuck) :
    (scal x y = true ∧ P (decide (x = y))) ∨ ∃ d e, Dp K H x d ∧ Dp K H y e ∧ SeqAt.shaped d = true ∧ SeqAt.shaped e = true ∧ P (PyData.eqv d e) := by
  have gen : eqD a b = chk (eqOk a b = true) (.ok (.bl (eqB a b))) → ∃ d e, Dp K H x d ∧ Dp K H y e ∧ SeqAt.shaped d = true ∧ SeqAt.shaped e = true ∧ P (PyData.eqv d e) := fun e => by
    by_cases z : eqOk a b = true
    · rw [chk_pos z] at e
      have z' := z
      unfold eqOk at z'
      simp only [Bool.and_eq_true] at z'
      obtain ⟨⟨⟨f1, f2⟩, s1⟩, s2⟩ := z'
      exact ⟨_, _, toPy_rep s ra f1, toPy_rep s rb f2, s1, s2, h _ e⟩
    · unfold chk at e
      rw [if_neg z] at e
      exact absurd e hs
  cases ra <;> cases rb <;> first
    | exact .inr (gen rfl)
    | (refine .inl ⟨rfl, ?_⟩
       first
         | (have q := h _ rfl; simpa using q)
         | (have q := h _ rfl; exact q))
theorem eqD_fine : ∀ {a b : D} {e : Err}, eqD a b ≠ .exc e := by
  intro a b e
  unfold eqD
  split <;> first | (intro z; cases z; done) | (unfold chk; split <;> (intro z; cases z))
theorem eqD_bl {a b r : D} (h : eqD a b = .ok r) : ∃ k, r = .bl k := by
  unfold eqD at h
  split at h <;> first | (cases h; exact ⟨_, rfl⟩) | (unfold chk at h; split at h <;> cases h; exact ⟨_, rfl⟩)
theorem op_eqP (hu : X.A.units + 64 < cLine) : OpP X (compareOp .Eq) eqD := by
  refine ⟨_, op_eq.or (op_eqD hu), fun G H x y a b Q E s ra rb h => ?_⟩
  have hs : eqD a b ≠ .stuck := fun z => by rw [z] at h; exact h
  exact eq_cases (α := Unit) s ra rb (fun k => Q (.bl k) H) (fun k e => by rw [e] at h; exact RG.here s h (.bl _)) hs
theorem op_neP (hu : X.A.units + 64 < cLine) : OpP X (compareOp .NotEq) neD := by
  refine ⟨_, op_ne.or (op_neD hu), fun G H x y a b Q E s ra rb h => ?_⟩
  have hs : eqD a b ≠ .stuck := fun z => by
    unfold neD at h
    rw [z] at h
    exact h
  exact eq_cases (α := Unit) s ra rb (fun k => Q (.bl (!k)) H) (fun k e => by
    unfold neD at h
    rw [e] at h
    exact RG.here s h (.bl _)) hs
end
def isD : D → D → Res D
  | .non, .non => .ok (.bl true)
  | _, .non => .ok (.bl false)
  | .bl a, .bl b => .ok (.bl (decide (a = b)))
  | _, .bl _ => .ok (.bl false)
  | _, _ => .stuck
def isnD (a b : D) : Res D := isD a b >>= fun r => match r with
  | .bl k => .ok (.bl (!k))
  | _ => .stuck
section
variable {X : Cx}
theorem op_isV : OpR X (compareOp .Is) (fun x y H Q => ∃ b, y = .bl b ∧ Q (.bl (decide (x = .bl b))) H) := by
  intro pins s σ H x y v u Q I rx ry h
  obtain ⟨b, rfl, q⟩ := h
  cases (show u = Value.bool b from ry)
  cases x with
  | bl a =>
    cases (show v = Value.bool a from rx)
    by_cases e : a = b
    · subst e
      exact wpAny_is_self rfl ⟨.bl true, H, I, rfl, by simpa using q⟩
    · exact wpAny_is_other rfl (fun z => e (Value.bool.inj z)) ⟨.bl false, H, I, rfl, by simpa [e] using q⟩
  | _ =>
    first
      | (cases rx; exact wpAny_is_other rfl (fun z => by cases z) ⟨.bl false, H, I, rfl, by simpa using q⟩)
      | (obtain ⟨t, rfl⟩ := rx; exact wpAny_is_other rfl (fun z => by cases z) ⟨.bl false, H, I, rfl, by simpa using q⟩)
theorem op_notV : OpR X (compareOp .IsNot) (fun x y H Q => ∃ b, y = .bl b ∧ Q (.bl (!decide (x = .bl b))) H) := by
  intro pins s σ H x y v u Q I rx ry h
  obtain ⟨b, rfl, q⟩ := h
  cases (show u = Value.bool b from ry)
  cases x with
  | bl a =>
    cases (show v = Value.bool a from rx)
    by_cases e : a = b
    · subst e
      exact wpAny_isNot_self rfl ⟨.bl false, H, I, rfl, by simpa using q⟩
    · exact wpAny_isNot_other rfl (fun z => e (Value.bool.inj z)) ⟨.bl true, H, I, rfl, by simpa [e] using q⟩
  | _ =>
    first
      | (cases rx; exact wpAny_isNot_other rfl (fun z => by cases z) ⟨.bl true, H, I, rfl, by simpa using q⟩)
      | (obtain ⟨t, rfl⟩ := rx; exact wpAny_isNot_other rfl (fun z => by cases z) ⟨.bl true, H, I, rfl, by simpa using q⟩)
theorem op_isP : OpP X (compareOp .Is) isD := by
  refine ⟨_, op_isN.or op_isV, fun G H x y a b Q E s ra rb h => ?_⟩
  cases rb with
  | non =>
    refine .inl ⟨rfl, ?_⟩
    cases ra <;> exact RG.here s h (.bl _)
  | bl k =>
    refine .inr ⟨k, rfl, ?_⟩
    cases ra with
    | bl j => simpa using RG.here s h (.bl _)
    | _ => exact RG.here s h (.bl _)
  | _ => cases ra <;> exact h.elim
theorem op_isnP : OpP X (compareOp .IsNot) isnD := by
  refine ⟨_, op_notN.or op_notV, fun G H x y a b Q E s ra rb h => ?_⟩
  cases rb with
  | non =>
    refine .inl ⟨rfl, ?_⟩
    cases ra <;> exact RG.here s h (.bl _)
  | bl k =>
    refine .inr ⟨k, rfl, ?_⟩
    cases ra with
    | bl j => simpa using RG.here s h (.bl _)
    | _ => exact RG.here s h (.bl _)
  | _ => cases ra <;> exact h.elim
end
def eqF : D → D → Bool
  | .non, .non => true
  | .bl a, .bl b => a == b
  | .bl a, .int b => (if a then 1 else 0) == b
  | .int a, .bl b => a == (if b then 1 else 0)
  | .int a, .int b => a == b
  | .str a, .str b => a == b
  | _, _ => false
def inD : D → D → Res D
  | a, .lst xs => chk (isFlatV a = true ∧ xs.all isFlatV = true) (.ok (.bl (xs.any fun y => eqF y a)))
  | a, .tup xs => chk (isFlatV a = true ∧ xs.all isFlatV = true) (.ok (.bl (xs.any fun y => eqF y a)))
  | .str a, .str b => .ok (.bl (!(Builtin.Str.occurrences b a 0 b.length 1).isEmpty))
  | _, _ => .stuck
def ninD (a b : D) : Res D := inD a b >>= fun r => match r with
  | .bl k => .ok (.bl (!k))
  | _ => .stuck
theorem flatV_rep {K : PySem.W.Frag} {G : Hp} {v : V} {d : D} (r : Rep K G v d) (f : isFlatV d = true) : flatV v = true := by cases r <;> first | rfl | cases f
theorem flatVs_rep {K : PySem.W.Frag} {G : Hp} : ∀ {vs : List V} {ds : List D}, Reps K G vs ds → ds.all isFlatV = true → vs.all flatV = true
  | _, _, .nil, _ => rfl
  | _, _, .cons r t, f => by
    rw [List.all_cons, Bool.and_eq_true] at f
    rw [List.all_cons, flatV_rep r f.1, flatVs_rep t f.2]
    rfl
theorem eqF_rep {K : PySem.W.Frag} {G : Hp} {v w : V} {d e : D} (r : Rep K G v d) (q : Rep K G w e) (f : isFlatV d = true) (g : isFlatV e = true) : eqV v w = eqF d e := by
  cases r <;> first | (cases f; done) | (cases q <;> first | (cases g; done) | rfl)
theorem inV_rep {K : PySem.W.Frag} {G : Hp} {v : V} {d : D} (r : Rep K G v d) (f : isFlatV d = true) : ∀ {vs : List V} {ds : List D}, Reps K G vs ds → ds.all isFlatV = true → inV v vs = ds.any fun y => eqF y d
  | _, _, .nil, _ => rfl
  | _, _, .cons (v := w) (vs := ws) q t, g => by
    rw [List.all_cons, Bool.and_eq_true] at g
    have ih := inV_rep r f t g.2
    show (eqV w v || inV v ws) = _
    rw [List.any_cons, eqF_rep q r g.1 f, ih]
section
variable {X : Cx}
theorem in_go {K : PySem.W.Frag} {E : XK} {G H : Hp} {Q : VK} {x y : V} {a b : D} (s : Ext G H) (ra : Rep K G x a) (rb : Rep K G y b) (P : Bool → Prop) (h : ∀ k, inD a b = .ok (.bl k) → P k) (hs : inD a b ≠ .stuck) (neg : Bool) (F : Bool → Bool) (hF : ∀ k, F k = if neg then !k else k) {Q' : Bool → Prop} (hp : ∀ k, P k → Q' (F k)) :
    (∃ p xs, y = .ref p ∧ (SqL K H p xs ∨ SqT K H p xs) ∧ flatV x = true ∧ xs.all flatV = true ∧ Q' (if neg then !inV x xs else inV x xs)) ∨ ∃ i j, x = .str i ∧ y = .str j ∧ Q' (F (!(Builtin.Str.occurrences j i 0 j.length 1).isEmpty)) := by
  cases rb with
  | @lst p vs ds q r =>
    have e : inD a (.lst ds) = chk (isFlatV a = true ∧ ds.all isFlatV = true) (.ok (.bl (ds.any fun y => eqF y a))) := by cases a <;> rfl
    by_cases z : isFlatV a = true ∧ ds.all isFlatV = true
    · rw [e, chk_pos z] at h
      refine .inl ⟨_, _, rfl, .inl (.inl (s.rd q)), flatV_rep ra z.1, flatVs_rep r z.2, ?_⟩
      rw [inV_rep ra z.1 r z.2, ← hF]
      exact hp _ (h _ rfl)
    · exact absurd (by rw [e]; unfold chk; rw [if_neg z]) hs
  | @tup p vs ds q r =>
    have e : inD a (.tup ds) = chk (isFlatV a = true ∧ ds.all isFlatV = true) (.ok (.bl (ds.any fun y => eqF y a))) := by cases a <;> rfl
    by_cases z : isFlatV a = true ∧ ds.all isFlatV = true
    · rw [e, chk_pos z] at h
      refine .inl ⟨_, _, rfl, .inr (s.sqt q), flatV_rep ra z.1, flatVs_rep r z.2, ?_⟩
      rw [inV_rep ra z.1 r z.2, ← hF]
      exact hp _ (h _ rfl)
    · exact absurd (by rw [e]; unfold chk; rw [if_neg z]) hs
  | str j =>
    cases ra with
    | str i => exact .inr ⟨i, j, rfl, rfl, hp _ (h _ rfl)⟩
    | _ => exact absurd rfl hs
  | _ => cases ra <;> exact absurd rfl hs
theorem op_inP : OpP X (compareOp .In) inD := by
  refine ⟨_, op_in_seq.or op_in_str, fun G H x y a b Q E s ra rb h => ?_⟩
  have hs : inD a b ≠ .stuck := fun z => by rw [z] at h; exact h
  exact in_go (E := E) (Q := Q) s ra rb (fun k => Q (.bl k) H) (fun k e => by rw [e] at h; exact RG.here s h (.bl _)) hs false (fun k => k) (fun _ => rfl) (Q' := fun k => Q (.bl k) H) fun _ h => h
theorem op_ninP : OpP X (compareOp .NotIn) ninD := by
  refine ⟨_, op_notIn_seq.or op_notin_str, fun G H x y a b Q E s ra rb h => ?_⟩
  have hs : inD a b ≠ .stuck := fun z => by
    unfold ninD at h
    rw [z] at h; exact h
  exact in_go (E := E) (Q := Q) s ra rb (fun k => Q (.bl (!k)) H) (fun k e => by
    unfold ninD at h
    rw [e] at h; exact RG.here s h (.bl _)) hs true (fun k => !k) (fun _ => rfl) (Q' := fun k => Q (.bl k) H) fun _ h => h
end
def ixD : D → D → Res D
  | .lst xs, .int i => ofOpt (atI xs i)
  | .tup xs, .int i => ofOpt (atI xs i)
  | .str z, .int i => chk (z.length ≤ sizeLine) (ofOpt (atI z.cps.toList i) >>= fun c => .ok (.str ⟨#[c]⟩))
  | _, _ => .stuck
theorem Reps.atI {K : PySem.W.Frag} {G : Hp} {vs : List V} {ds : List D} (r : Reps K G vs ds) {i : Int} {d : D} (h : L2.atI ds i = some d) : ∃ v, L2.atI vs i = some v ∧ Rep K G v d := by
  unfold L2.atI at h ⊢
  rw [r.length]
  cases e : ixN ds.length i with
  | none => rw [e] at h; cases h
  | some j =>
    rw [e] at h
    exact r.getD h
def IxM (X : Cx) (W : WX) (m : D → D → Res D) : Prop :=
  ∀ (value slice : Expr) (pins : List (Addr × Obj)) (s : Shared) (σ : St) (G H : Hp) (x y : V) (v u : Value) (a b : D) (Q : VK), Inv X pins σ H s → RelV x v → RelV y u → Ext G H → Rep X.K G x a → Rep X.K G y b →
    RG (Rep X.K) X.K (fun c d H' => W c d σ H') G H Q (m a b) → subscripted slice false v u = operate [v, u] (getItem v u) → (∀ a, v = .ref a → subscripted slice true v u = runValue (.builtin "lifetime.subscript" ⟨[v, u], []⟩)) →
    wpAny (model X.prog X.w) X.A (PyProof.Rows.subscriptTail value slice v u) (EP X pins σ Q) X.xe s
section
variable {X : Cx} {B : Base} {W : WX} {a b : Expr} {ma mb : Ev → Res D} {pos : Pos}
theorem ix_D : IxM X W ixD := by
  intro value slice pins s σ G H x y v u a b Q I rx ry e ra rb h hs _
  refine ix_seq value slice pins s σ H x y v u Q I rx ry ?_ hs
  cases rb with
  | int i =>
    cases ra with
    | lst q r =>
      obtain ⟨d, hd, h⟩ := RG.opt h
      obtain ⟨w, e1, r1⟩ := r.atI hd
      exact .inl ⟨_, _, i, w, rfl, rfl, .inl (e.rd q), e1, RG.here e h r1⟩
    | tup q r =>
      obtain ⟨d, hd, h⟩ := RG.opt h
      obtain ⟨w, e1, r1⟩ := r.atI hd
      exact .inr (.inl ⟨_, _, i, w, rfl, rfl, e.sqt q, e1, RG.here e h r1⟩)
    | str z =>
      obtain ⟨l, h⟩ := RG.chk h
      cases hc : atI z.cps.toList i with
      | some c =>
        rw [hc] at h
        exact .inr (.inr ⟨z, i, c, rfl, rfl, l, hc, RG.here e h (.str _)⟩)
      | none =>
        rw [hc] at h
        exact h.elim
    | _ => exact h.elim
  | _ => cases ra <;> exact h.elim
theorem me_ix {m : D → D → Res D} (ho : IxM X W m) (ha : PE X a (tM X.K B W ma)) (hb : PE X b (tM X.K B W mb)) (hs : PlainIx b := by intro _ _; rfl) (hs2 : ∀ p i, subscripted b true (.ref p) i = runValue (.builtin "lifetime.subscript" ⟨[.ref p, i], []⟩) := by intro _ _; with_unfolding_all rfl) :
    PE X (.Subscript a b pos) (tM X.K B W (mOp m ma mb)) := by
  refine ⟨fun pins s σ H Q I ⟨G, ρ, e, h⟩ => ?_⟩
  refine PyProof.Rows.Subscript_ (binT (R := fun x y H2 => ∃ G2 d c, Ext G2 H2 ∧ Rep X.K G2 x d ∧ Rep X.K G2 y c ∧ RG (Rep X.K) X.K (fun c d H' => W c d σ H') G2 H2 Q (m d c)) ha hb I ?_ fun v u s2 x y H2 I2 rx ry ⟨G2, d, c, e2, r1, r2, q⟩ => ?_)
  · exact ⟨G, ρ, e, RG.bind h fun d G1 v H1 g r h1 => ⟨G1, ρ, e.growN g, RG.bind h1 fun c G2 u H2 g2 r2 h2 => ⟨G2, d, c, g2.sub, r.mono g2.g, r2, h2⟩⟩⟩
  · exact ho a b pins s2 σ G2 H2 x y v u d c Q I2 rx ry e2 r1 r2 q (hs _ _) fun p z => by rw [z]; exact hs2 p u
end
def cutL {α : Type} (xs : List α) (lo hi : Option Int) : List α := (xs.drop (HT.sIx xs.length 0 lo)).take (HT.sIx xs.length xs.length hi - HT.sIx xs.length 0 lo)
theorem Reps.cut {K : PySem.W.Frag} {G : Hp} {vs : List V} {ds : List D} (r : Reps K G vs ds) (lo hi : Option Int) : Reps K G (cutV vs lo hi) (cutL ds lo hi) := by
  unfold cutV cutL
  rw [r.length]
  exact (r.drop _).take _
def slD : D → Option Int → Option Int → Res D
  | .lst xs, lo, hi => .ok (.lst (cutL xs lo hi))
  | .tup xs, lo, hi => .ok (.tup (cutL xs lo hi))
  | .str z, lo, hi => chk (z.length ≤ sizeLine) (.ok (.str (cutS z lo hi)))
  | _, _, _ => .stuck
def partD : D → Res (Option Int)
  | .int i => .ok (some i)
  | _ => .stuck
def mNoP : Ev → Res (Option Int) := fun _ => .ok none
def mPart (m : Ev → Res D) : Ev → Res (Option Int) := fun ρ => m ρ >>= partD
def mSl (m : Ev → Res D) (l h : Ev → Res (Option Int)) : Ev → Res D := fun ρ => m ρ >>= fun d => l ρ >>= fun a => h ρ >>= fun b => slD d a b
def revD : D → Res D
  | .lst xs => .ok (.lst xs.reverse)
  | _ => .stuck
section
variable {X : Cx} {B : Base} {W : WX} {a : Expr} {lo hi : Option Expr} {ma : Ev → Res D} {ml mh : Ev → Res (Option Int)} {pos p2 : Pos}
theorem mo_none : PO X none (tG (fun _ b c => b = c) X.K B W mNoP) := ⟨fun pins s σ H Q I ⟨G, ρ, e, h⟩ => po_none.run pins s σ H Q I (h G _ H (.refl e.sub) rfl)⟩
theorem mo_some {e : Expr} (h : PE X e (tM X.K B W ma)) : PO X (some e) (tG (fun _ b c => b = c) X.K B W (mPart ma)) :=
  ⟨fun pins s σ H Q I ⟨G, ρ, e, q⟩ => (po_some h).run pins s σ H Q I ⟨G, ρ, e, RG.bind q fun d G1 v H1 g r q1 => by
    cases r with
    | int i => exact ⟨i, rfl, q1 G1 _ H1 (.refl g.sub) rfl⟩
    | _ => exact q1.elim⟩⟩
theorem me_sl (ha : PE X a (tM X.K B W ma)) (hl : PO X lo (tG (fun _ b c => b = c) X.K B W ml)) (hh : PO X hi (tG (fun _ b c => b = c) X.K B W mh)) : PE X (.Subscript a (.Slice lo hi none p2) pos) (tM X.K B W (mSl ma ml mh)) :=
  PE.imp (pe_slice (sl_list.or (sl_tupA.or sl_str)) ha hl hh) fun σ H Q ⟨G, ρ, e, q⟩ => ⟨G, ρ, e, RG.bind q fun d G1 v H1 g r q1 => ⟨G1, ρ, e.growN g, RG.bind q1 fun l G2 l' H2 g2 r2 q2 => by
    have e2 : l' = l := r2
    subst e2
    exact ⟨G2, ρ, (e.growN g).growN g2, RG.bind q2 fun u G3 u' H3 g3 r3 q3 => by
      have e3 : u' = u := r3
      subst e3
      have r' := r.mono (g2.trans g3).g
      cases r' with
      | lst z t => exact .inl ⟨_, _, rfl, .inl (g3.sub.rd z), RG.newL g3.sub q3 (t.cut _ _)⟩
      | tup z t =>
        refine .inr (.inl ⟨_, _, rfl, g3.sub.sqt z, fun w => ?_, fun _ => RG.newT g3.sub q3 (t.cut _ _)⟩)
        have w1 := w
        rw [t.length] at w1
        have q4 : RG (Rep X.K) X.K (fun c d H' => W c d σ H') G3 H3 Q (.ok (.tup (cutL _ l' u'))) := q3
        unfold cutL at q4
        rw [w1.1, w1.2, List.drop_zero, Nat.sub_zero, List.take_length] at q4
        exact RG.here g3.sub q4 (.tup z t)
      | str z =>
        obtain ⟨z1, q3⟩ := RG.chk q3
        exact .inr (.inr ⟨z, rfl, z1, RG.here g3.sub q3 (.str _)⟩)
      | _ => exact q3.elim⟩⟩⟩
theorem me_rev {k : Nat} {p1 p3 p4 : Pos} (ha : PE X a (tM X.K B W ma)) : PE X (.Subscript a (.Slice none none (some (.UnaryOp .USub (.Constant (.int 1) k p1) p2)) p3) pos) (tM X.K B W (mUn revD ma)) :=
  PE.imp (pe_revL ha) fun σ H Q ⟨G, ρ, e, q⟩ => ⟨G, ρ, e, RG.bind q fun d G1 v H1 g r q1 => by
    cases r with
    | lst z t => exact ⟨_, _, rfl, .inl (g.sub.rd z), RG.newL g.sub q1 t.reverse⟩
    | _ => exact q1.elim⟩
end
end PL
namespace PL
open PySem PySem.Spec L2
open PyProof.Rows (b2i)
/-- what all of the text's defs share -/
structure Tk where
  P : Program
  w : World
  K : PySem.W.Frag
  mg : Str → Option Value
  base : Heap
abbrev tkOf (X : Cx) : Tk := ⟨X.prog, X.w, X.K, X.mg, X.base⟩
/-- the def at f, called with j values, is worth m; its frames and what it calls take k -/
def FnM (T : Tk) (k : Nat) (f : Addr) (j : Nat) (m : List D → Res D) : Prop :=
  ∀ (A : Around) (outer : List Env) (s : Shared) (G H : Hp) (us : List Value) (vs : List V) (ds : List D) (Q : VK) (E : XK), Room k A → Env0 T.P T.w T.K T.mg T.base A outer s H → Vals vs us → vs.length = j → Ext G H → Reps T.K G vs ds →
    RG (Rep T.K) T.K E G H Q (m ds) → codeAny (model T.P T.w) A (.call (.ref f) ⟨us, []⟩) (CR (L2.CX T.P T.w) outer T.P T.w H s Q E) s
/-- .. with keywords ks behind the j values -/
def FnKM (T : Tk) (k : Nat) (f : Addr) (j : Nat) (ks : List Str) (m : List D → List D → Res D) : Prop :=
  ∀ (A : Around) (outer : List Env) (s : Shared) (G H : Hp) (us ws : List Value) (vs zs : List V) (ds es : List D) (Q : VK) (E : XK), Room k A → Env0 T.P T.w T.K T.mg T.base A outer s H → Vals vs us → Vals zs ws → vs.length = j → zs.length = ks.length → Ext G H → Reps T.K G vs ds → Reps T.K G zs es →
    RG (Rep T.K) T.K E G H Q (m ds es) → codeAny (model T.P T.w) A (.call (.ref f) ⟨us, ks.zip ws⟩) (CR (L2.CX T.P T.w) outer T.P T.w H s Q E) s
/-- __init__ at f of a new instance of c, called with j values besides: its attributes -/
def InM (T : Tk) (k : Nat) (f : Addr) (c : Cl) (j : Nat) (m : List D → Res (List (Nm × D))) : Prop :=
  ∀ (A : Around) (outer : List Env) (s : Shared) (G H : Hp) (x dx : Addr) (us : List Value) (vs : List V) (ds : List D) (Q : VK) (E : XK), Room k A → Env0 T.P T.w T.K T.mg T.base A outer s H → Vals vs us → vs.length = j →
    H x = some (.ins (ca T.K c) dx []) → G x = none → (∀ a o, a ≠ x → G a = some o → H a = some o) → Reps T.K G vs ds →
    (match m ds with
      | .ok fs => ∀ G' H' fv, Grow G (fun a => if a = x then none else H a) G' H' → G' x = none → H' x = some (.ins (ca T.K c) dx fv) → AtF T.K c fs → RepF T.K G' fv fs → Q .non H'
      | .exc e => ∀ G' H' cls d, Grow G (fun a => if a = x then none else H a) G' H' → ErrOk T.K G' H' cls d e → E cls d H'
      | .stuck => False) →
    codeAny (model T.P T.w) A (.call (.ref f) ⟨.ref x :: us, []⟩) (CR (L2.CX T.P T.w) outer T.P T.w H s Q E) s
section
variable {T : Tk} {k k' : Nat} {f : Addr} {j : Nat} {m : List D → Res D}
theorem FnM.mono (F : FnM T k f j m) (h : k ≤ k') : FnM T k' f j m := fun A outer s G H us vs ds Q E hr => F A outer s G H us vs ds Q E (hr.mono h)
end
def CEnd (X : Cx) (pins : List (Addr × Obj)) (σ : St) (Q : VK) : Result → Shared → Prop
  | .ok (.ret v), s' => EP X pins σ Q v s'
  | .ok _, _ => False
  | .error e, s' => X.xe e s'
section
variable {X : Cx} {W : WX} {pins : List (Addr × Obj)} {σ : St} {G H : Hp} {s : Shared} {A : Around} {k j : Nat} {f : Addr} {m : List D → Res D} {us : List Value} {vs : List V} {ds : List D} {Q : VK}
/-- what a call's end is to the caller -/
theorem cr_go (tk : Takes X W) (I : Inv X pins σ H s) {r : Result} {s' : Shared} (h : CR (L2.CX X.prog X.w) X.stack X.prog X.w H s Q (WE W σ) r s') : CEnd X pins σ Q r s' := by
  cases r with
  | error e => exact tk e s' (XE.of_call I (fun _ _ _ h => h) h)
  | ok fl =>
    cases fl with
    | ret u => exact I.after h
    | next => exact False.elim h
    | brk => exact False.elim h
    | cont => exact False.elim h
theorem FnM.go (F : FnM (tkOf X) k f j m) (tk : Takes X W) (hr : Room k A) (e0 : Env0 X.prog X.w X.K X.mg X.base A X.stack s H) (I : Inv X pins σ H s) (r : Vals vs us) (hl : vs.length = j) (e : Ext G H) (rr : Reps X.K G vs ds)
    (h : RG (Rep X.K) X.K (fun c d H' => W c d σ H') G H Q (m ds)) :
    codeAny (model X.prog X.w) A (.call (.ref f) ⟨us, []⟩) (CEnd X pins σ Q) s :=
  codeAny_mono (F A X.stack s G H us vs ds Q (WE W σ) hr e0 r hl e rr h) fun _ _ q => cr_go tk I q
theorem FnM.call (F : FnM (tkOf X) k f j m) (tk : Takes X W) (hr : Room k X.A) (I : Inv X pins σ H s) (r : Vals vs us) (hl : vs.length = j) (e : Ext G H) (rr : Reps X.K G vs ds)
    (h : RG (Rep X.K) X.K (fun c d H' => W c d σ H') G H Q (m ds)) : wpAny (model X.prog X.w) X.A (call (.ref f) us) (EP X pins σ Q) X.xe s := by
  refine wpAny_call (codeAny_mono (F.go tk hr I.env0 I r hl e rr h) fun r s' q => ?_)
  cases r with
  | error e => exact q
  | ok fl => cases fl <;> exact q
end
def mCall (g : List D → Res D) (ms : Ev → Res (List D)) : Ev → Res D := fun ρ => ms ρ >>= g
def mCallK (g : List D → List D → Res D) (ms ks : Ev → Res (List D)) : Ev → Res D := fun ρ => ms ρ >>= fun ds => ks ρ >>= fun es => g ds es
/-- the module's name x is such a def -/
structure Glo (T : Tk) (k : Nat) (x : Str) (j : Nat) (m : List D → Res D) : Prop where
  ex : ∃ f, T.mg x = some (.ref f) ∧ PySem.W.keepIn T.K (.ref f) = true ∧ FnM T k f j m
structure GloK (T : Tk) (k : Nat) (x : Str) (j : Nat) (ks : List Str) (m : List D → List D → Res D) : Prop where
  ex : ∃ f, T.mg x = some (.ref f) ∧ PySem.W.keepIn T.K (.ref f) = true ∧ FnKM T k f j ks m
section
variable {X : Cx} {B : Base} {W : WX} {k j : Nat} {x : Str} {g : List D → Res D} {e : Expr} {es : List Expr} {ms mk : Ev → Res (List D)} {p pos : Pos}
theorem reps_len {K : PySem.W.Frag} {G : Hp} {vs : List V} {ds : List D} (r : Reps K G vs ds) {j : Nat} (h : ds.length = j) : vs.length = j := r.length.trans h
theorem me_call (F : Glo (tkOf X) k x j g) (tk : Takes X W) (hr : Room k X.A) (hg : Gl X x) (ha : PA X (e :: es) (tMA X.K B W ms)) (hj : ∀ ρ ds, ms ρ = .ok ds → ds.length = j) (hdb : (x == ("__debug__" : Str)) = false := by decide)
    (he : starEach (e :: es) X.env = (false, eval e X.env) :: starEach es X.env := by rfl) (hpl : (backTo pos (starEach es X.env)).any (·.1) = false := by rfl) : PE X (.Call (.Name x p) (e :: es) [] pos) (tM X.K B W (mCall g ms)) := by
  obtain ⟨f, hm, hk, F⟩ := F.ex
  refine ⟨fun pins s σ H Q I ⟨G, ρ, e0, h⟩ => ?_⟩
  refine wpAny_Call_Name_kw (ld_glob I hg hm ?_ hdb)
  refine PySem.W.callWith_K (h₀ := X.base) I.ok.mod.kin hk (thn (ha.run pos pins s σ H (fun vs H1 => ∃ G1 ds, Ext G1 H1 ∧ Reps X.K G1 vs ds ∧ ds.length = j ∧ RG (Rep X.K) X.K (fun c d H' => W c d σ H') G1 H1 Q (g ds)) I ?_) fun us s1 ⟨vs, H1, I1, r, G1, ds, e1, rr, hl, q⟩ => ⟨I1.kIn, ?_⟩) he hpl
  · refine ⟨G, ρ, e0, ?_⟩
    have z := hj ρ
    unfold mCall at h
    cases hms : ms ρ with
    | ok ds => 
      rw [hms] at h
      exact fun G1 vs H1 g r => ⟨G1, ds, g.sub, r, z ds hms, RG.grow g h⟩
    | exc x => rw [hms] at h; exact h
    | stuck => rw [hms] at h; exact h
  · exact F.call tk hr I1 r (reps_len rr hl) e1 rr q
theorem me_call0 (F : Glo (tkOf X) k x 0 g) (tk : Takes X W) (hr : Room k X.A) (hg : Gl X x) (hdb : (x == ("__debug__" : Str)) = false := by decide) : PE X (.Call (.Name x p) [] [] pos) (tM X.K B W (mCall g mNil)) := by
  obtain ⟨f, hm, hk, F⟩ := F.ex
  refine ⟨fun pins s σ H Q I ⟨G, ρ, e0, h⟩ => ?_⟩
  refine wpAny_Call_Name_kw (ld_glob I hg hm ?_ hdb)
  exact PySem.W.callWith_K0 I.kIn hk (F.call (us := []) tk hr I .nil rfl e0.sub .nil h)
/-- how many -/
theorem mLen_nil : ∀ (ρ : Ev) (ds : List D), mNil ρ = .ok ds → ds.length = 0 := fun _ ds h => by cases h; rfl
theorem mLen_cons {m : Ev → Res D} {ms : Ev → Res (List D)} {n : Nat} (h : ∀ ρ ds, ms ρ = .ok ds → ds.length = n) : ∀ ρ ds, mCons m ms ρ = .ok ds → ds.length = n + 1 := fun ρ ds q => by
  unfold mCons at q
  cases h1 : m ρ with
  | ok d =>
    rw [h1] at q
    cases h2 : ms ρ with
    | ok es =>
      rw [h2] at q
      cases q
      rw [List.length_cons, h ρ es h2]
    | _ => rw [h2] at q; cases q
  | _ => rw [h1] at q; cases q
end
def fldD (n : Nm) : D → Res D
  | .obj _ fs => ofOpt (fs.lookup n)
  | _ => .stuck
def noX {α : Type} : Res α → Res α
  | .exc _ => .stuck
  | r => r
/-- .. where some classes have a property of the name -/
def attrO (n : Option Nm) (fs : List (Nm × D)) : Res D := match n with
  | some n => ofOpt (fs.lookup n)
  | none => .stuck
def attrC (n : Option Nm) (c : Cl) (fs : List (Nm × D)) : Option (List D → Res D) → Res D
  | some g => noX (g [.obj c fs])
  | none => attrO n fs
def attrD (n : Option Nm) (ps : Cl → Option (List D → Res D)) : D → Res D
  | .obj c fs => attrC n c fs (ps c)
  | _ => .stuck
/-- a constant of some classes -/
def conD (ps : Cl → Option D) : D → Res D
  | .obj c _ => ofOpt (ps c)
  | _ => .stuck
structure PropF (T : Tk) (k : Nat) (c : Cl) (f : Str) (g : List D → Res D) : Prop where
  ex : ∃ p fa, PropOf T.K (ca T.K c) f p fa ∧ FnM T k fa 1 g
section
variable {X : Cx} {B : Base} {W : WX} {e : Expr} {m : Ev → Res D} {pos : Pos} {f : Str}
theorem me_fld (n : Nm) (he : PE X e (tM X.K B W m)) (hf : n.s = f := by rfl) (hb : attributeBase e f X.env (eval e X.env) = eval e X.env := by rfl) : PE X (.Attribute e f pos) (tM X.K B W (mUn (fldD n) m)) := by
  subst hf
  refine PE.imp (pe_fld he hb) fun σ H Q ⟨G, ρ, e, q⟩ => ⟨G, ρ, e, RG.bind q fun d G1 v H1 g r q1 => ?_⟩
  cases r with
  | obj h at_ r =>
    obtain ⟨d, hd, q1⟩ := RG.opt q1
    obtain ⟨w, e1, r1⟩ := r.lookup hd
    have hm : (n, d) ∈ (_ : List (Nm × D)) := mem_of_lookup hd
    exact ⟨_, _, _, _, w, rfl, g.sub _ _ h, at_.1.cls, at_.2 _ hm, e1, RG.here g.sub q1 r1⟩
  | _ => exact q1.elim
where
  mem_of_lookup {α β : Type} [DecidableEq α] {a : α} {b : β} : ∀ {l : List (α × β)}, l.lookup a = some b → (a, b) ∈ l
  | [], h => nomatch (show (none : Option β) = some b from h)
  | (c, d) :: r, h => by
    rw [List.lookup_cons] at h
    by_cases z : a = c
    · subst z
      rw [beq_self_eq_true] at h
      cases h
      exact List.mem_cons_self
    · rw [beq_false_of_ne z] at h
      exact List.mem_cons_of_mem _ (mem_of_lookup h)
theorem me_con_cls {ps : Cl → Option D} (hx : ∀ n : Nm, n.s ≠ f) (hp : ∀ c d, ps c = some d → ∃ v u, Con X.K (ca X.K c) f v u ∧ ∀ G, Rep X.K G v d) (he : PE X e (tM X.K B W m)) (hb : attributeBase e f X.env (eval e X.env) = eval e X.env := by rfl) :
    PE X (.Attribute e f pos) (tM X.K B W (mUn (conD ps) m)) := by
  refine PE.imp (pe_con he hb) fun σ H Q ⟨G, ρ, e, q⟩ => ⟨G, ρ, e, RG.bind q fun d G1 v H1 g r q1 => ?_⟩
  cases r with
  | obj h at_ r =>
    obtain ⟨d, hd, q1⟩ := RG.opt q1
    obtain ⟨v, u, c, rv⟩ := hp _ d hd
    exact ⟨_, _, _, _, v, u, rfl, g.sub _ _ h, at_.1.cls, c, r.lookup_out hx, RG.here g.sub q1 (rv _)⟩
  | _ => exact q1.elim
theorem me_attr {k : Nat} {n : Option Nm} {ps : Cl → Option (List D → Res D)} (hn : ∀ n' : Nm, n = some n' → n'.s = f) (hp : ∀ c g, ps c = some g → PropF (tkOf X) k c f g) (hr : Room (k + 1) X.A) (he : PE X e (tM X.K B W m)) (hb : attributeBase e f X.env (eval e X.env) = eval e X.env := by rfl) :
    PE X (.Attribute e f pos) (tM X.K B W (mUn (attrD n ps) m)) := by
  refine ⟨fun pins s σ H Q I ⟨G, ρ, e0, h⟩ => ?_⟩
  refine attr_of hb (thn (he.run pins s σ H (fun x H1 => ∃ G1 d, Ext G1 H1 ∧ Rep X.K G1 x d ∧ RG (Rep X.K) X.K (fun c d H' => W c d σ H') G1 H1 Q (attrD n ps d)) I ⟨G, ρ, e0, RG.bind h fun d G1 v H1 g r h1 => ⟨G1, d, g.sub, r, h1⟩⟩) fun u s1 ⟨x, H1, I1, rx, G1, d, e1, r, q⟩ => ?_)
  cases r with
  | @obj a dx fv c fs hG at_ r =>
    obtain rfl : u = Value.ref a := rx
    have q' : RG (Rep X.K) X.K (fun c d H' => W c d σ H') G1 H1 Q (attrC n c fs (ps c)) := q
    cases hps : ps c with
    | none =>
      rw [hps] at q'
      cases n with
      | none => exact q'.elim
      | some n =>
        obtain rfl := hn n rfl
        obtain ⟨d, hd, q'⟩ := RG.opt q'
        obtain ⟨w, e2, r2⟩ := r.lookup hd
        exact getattr_ok I1 (e1 _ _ hG) at_.1.cls (at_.2 _ (me_fld.mem_of_lookup hd)) e2 fun u' s2 I2 ru => ⟨w, H1, I2, ru, RG.here e1 q' r2⟩
    | some g =>
      rw [hps] at q'
      obtain ⟨p, fa, hp, F⟩ := (hp c g hps).ex
      obtain ⟨mA, O, _, _, _, _⟩ := ins_get I1.hok (e1 _ _ hG)
      obtain ⟨od, J, _⟩ := O.look
      obtain ⟨rest, hrec⟩ := hp.rec_
      have I2 := I1.tok (s1.toks + 1)
      have c' := at_.1.cls
      have hc : (PySem.W.clsIn X.K (ca X.K c)).isSome = true := by
        obtain ⟨cd, hc, _⟩ := PySem.W.any_some c'.hd
        rw [hc]
        rfl
      have q2 : RG (Rep X.K) X.K (fun _ _ _ => False) G1 H1 Q (g [.obj c fs]) := by
        have q4 : RG (Rep X.K) X.K (fun c d H' => W c d σ H') G1 H1 Q (noX (g [.obj c fs])) := q'
        cases hg : g [.obj c fs] with
        | ok d => rw [hg] at q4; exact q4
        | exc x => rw [hg] at q4; exact q4.elim
        | stuck => rw [hg] at q4; exact q4
      refine PySem.W.get_bind I1.kIn J (PySem.W.plainGet_of (c'.get f)).1 (PySem.W.findObj_data hc hp.at_ hp.get hp.tak) (PySem.W.plainGet_of (c'.get f)).2 (wpAny_call (PySem.W.prop_get (s := { s1 with toks := s1.toks + 1 }) I1.kIn hrec ?_))
      refine codeAny_mono (F X.A.in1 X.stack { s1 with toks := s1.toks + 1 } G1 H1 [.ref a] [.ref a] [.obj c fs] Q (fun _ _ _ => False) hr.in1 I2.env0.in1 (.cons rfl .nil) rfl e1 (.cons (.obj hG at_ r) .nil) q2) fun rr s' hq => ?_
      cases rr with
      | error er =>
        obtain ⟨_, _, _, _, _, _, _, _, _, _, _, _, z⟩ := hq
        exact z.elim
      | ok fl =>
        cases fl with
        | ret u =>
          obtain ⟨v, H', I3, rv, q3⟩ := I2.after hq
          exact wpAny_of_eq (PySem.W.handedOut_of (handed_of rv)) ⟨v, H', I3, rv, q3⟩
        | next => exact False.elim hq
        | brk => exact False.elim hq
        | cont => exact False.elim hq
  | _ => exact q.elim
end
end PL
namespace PL
open PySem PySem.Spec L2
open PyProof.Rows (b2i)
structure MethF (T : Tk) (k : Nat) (c : Cl) (m : Str) (j : Nat) (g : List D → Res D) : Prop where
  ex : ∃ f, Meth T.K (ca T.K c) m f ∧ FnM T k f (j + 1) g
/-- mn: the attribute of that name, if there is one -/
def methD (mn : Option Nm) (ps : Cl → Option (List D → Res D)) : D → Res (List D → Res D)
  | .obj c fs => ofOpt (ps c) >>= fun g => chk (mn.all (fun n => (fs.lookup n).isNone) = true) (.ok fun ds => g (.obj c fs :: ds))
  | _ => .stuck
def mMeth (mn : Option Nm) (ps : Cl → Option (List D → Res D)) (mo : Ev → Res D) (ms : Ev → Res (List D)) : Ev → Res D := fun ρ => mo ρ >>= fun o => methD mn ps o >>= fun g => ms ρ >>= g
theorem RG.len {K : PySem.W.Frag} {E : XK} {G H : Hp} {Q : VK} {j : Nat} {r : Res (List D)} {f : List D → Res D} {P : List V → Hp → Prop} (hj : ∀ ds, r = .ok ds → ds.length = j) (h : RG (Rep K) K E G H Q (r >>= f))
    (k : ∀ ds G1 vs H1, ds.length = j → Grow G H G1 H1 → Reps K G1 vs ds → RG (Rep K) K E G1 H1 Q (f ds) → P vs H1) : RG (Reps K) K E G H P r := by
  cases r with
  | ok ds => exact fun G1 vs H1 g rr => k ds G1 vs H1 (hj ds rfl) g rr (RG.grow g h)
  | exc e => exact h
  | stuck => exact h
section
variable {X : Cx} {B : Base} {W : WX} {k j : Nat} {m : Str} {mn : Option Nm} {ps : Cl → Option (List D → Res D)} {o e : Expr} {es : List Expr} {mo : Ev → Res D} {ms : Ev → Res (List D)} {pos apos : Pos}
theorem no_field {K : PySem.W.Frag} {G : Hp} {fv : List (Str × V)} {fs : List (Nm × D)} {m : Str} {mn : Option Nm} (hmn : ∀ n : Nm, n.s = m → mn = some n) (r : RepF K G fv fs) (h : mn.all (fun n => (fs.lookup n).isNone) = true) : fv.lookup m = none := by
  by_cases z : ∃ n : Nm, n.s = m
  · obtain ⟨n, rfl⟩ := z
    have e := hmn n rfl
    subst e
    exact r.lookup_none (Option.isNone_iff_eq_none.mp h)
  · exact r.lookup_out fun n q => z ⟨n, q⟩
theorem meth_find {K : PySem.W.Frag} {E : XK} {G H : Hp} {Q : VK} {x : V} {d : D} {m : Str} {mn : Option Nm} {f : (List D → Res D) → Res D} (hmn : ∀ n : Nm, n.s = m → mn = some n) (r : Rep K G x d) (q : RG (Rep K) K E G H Q (methD mn ps d >>= f)) :
    ∃ a dx fv c fs g, x = .ref a ∧ d = .obj c fs ∧ G a = some (.ins (ca K c) dx fv) ∧ AtF K c fs ∧ RepF K G fv fs ∧ ps c = some g ∧ fv.lookup m = none ∧ RG (Rep K) K E G H Q (f fun ds => g (.obj c fs :: ds)) := by
  cases r with
  | @obj a dx fv c fs hG at_ r =>
    have q' : RG (Rep K) K E G H Q ((ofOpt (ps c) >>= fun g => chk (mn.all (fun n => (fs.lookup n).isNone) = true) (.ok fun ds => g (.obj c fs :: ds))) >>= f) := q
    cases hps : ps c with
    | none => rw [hps] at q'; exact q'.elim
    | some g =>
      rw [hps] at q'
      by_cases z : mn.all (fun n => (fs.lookup n).isNone) = true
      · rw [ofOpt_some, ok_bind, chk_pos z, ok_bind] at q'
        exact ⟨a, dx, fv, c, fs, g, rfl, rfl, hG, at_, r, hps, no_field hmn r z, q'⟩
      · rw [ofOpt_some, ok_bind] at q'
        unfold chk at q'
        rw [if_neg z] at q'
        exact q'.elim
  | _ => exact q.elim
theorem me_meth {pl : Sem Bool} (hmn : ∀ n : Nm, n.s = m → mn = some n) (hp : ∀ c g, ps c = some g → MethF (tkOf X) k c m j g) (tk : Takes X W) (hr : Room k X.A) (ho : PE X o (tM X.K B W mo)) (ha : PA X (e :: es) (tMA X.K B W ms)) (hj : ∀ ρ ds, ms ρ = .ok ds → ds.length = j)
    (hst : starEach (e :: es) X.env = (false, eval e X.env) :: starEach es X.env := by rfl) (hpl : (backTo pos (starEach es X.env)).any (·.1) = false := by rfl)
    (ht : eval (.Call (.Attribute o m apos) (e :: es) [] pos) X.env = (do
      let ov ← eval o X.env
      standAt apos.atName
      let (f, first) ← holding [ov] (getMethod ov m pl)
      callWith pos f first (backTo pos (starEach (e :: es) X.env)) (backToKw pos (keywordEach [] X.env))) := by rfl) :
    PE X (.Call (.Attribute o m apos) (e :: es) [] pos) (tM X.K B W (mMeth mn ps mo ms)) := by
  refine ⟨fun pins s σ H Q I ⟨G, ρ, e0, h⟩ => ?_⟩
  refine PySem.W.methodCall_KW (pl := pl) (thn (ho.run pins s σ H (fun x H1 => ∃ G1 d, EnvOk X.K B G1 σ ρ H1 ∧ Rep X.K G1 x d ∧ RG (Rep X.K) X.K (fun c d H' => W c d σ H') G1 H1 Q (methD mn ps d >>= fun g => ms ρ >>= g)) I ⟨G, ρ, e0, RG.bind h fun d G1 v H1 g r h1 => ⟨G1, d, e0.growN g, r, h1⟩⟩) fun u s1 ⟨x, H1, I1, rx, G1, d, e1, r, q⟩ => ?_) ht
  obtain ⟨a, dx, fv, c, fs, g, rfl, rfl, hG, at_, rf, hps, hno, q⟩ := meth_find hmn r q
  obtain ⟨f, hm, F⟩ := (hp c g hps).ex
  obtain rfl : u = Value.ref a := rx
  refine getmeth_ok I1 (e1.sub _ _ hG) at_.1.cls hm hno ?_
  refine PySem.W.callWith_K (first := [.ref a]) (h₀ := X.base) I.ok.mod.kin hm.kp (thn (ha.run pos pins s1 σ H1 (fun vs H2 => ∃ G2 ds, ds.length = j ∧ Ext G1 G2 ∧ Ext G2 H2 ∧ Reps X.K G2 vs ds ∧ RG (Rep X.K) X.K (fun c d H' => W c d σ H') G2 H2 Q (g (.obj c fs :: ds))) I1 ⟨G1, ρ, e1, RG.len (hj ρ) q fun ds G2 vs H2 hl g2 rr q2 => ⟨G2, ds, hl, g2.g, g2.sub, rr, q2⟩⟩) fun us s2 ⟨vs, H2, I2, r2, G2, ds, hl, e12, e2, rr, q2⟩ => ⟨I2.kIn, ?_⟩) hst hpl
  exact F.call (vs := .ref a :: vs) (us := .ref a :: us) tk hr I2 (.cons rfl r2) (by rw [List.length_cons, reps_len rr hl]) e2 (.cons (Rep.mono e12 (.obj hG at_ rf)) rr) q2
theorem me_meth0 {pl : Sem Bool} (hmn : ∀ n : Nm, n.s = m → mn = some n) (hp : ∀ c g, ps c = some g → MethF (tkOf X) k c m 0 g) (tk : Takes X W) (hr : Room k X.A) (ho : PE X o (tM X.K B W mo))
    (ht : eval (.Call (.Attribute o m apos) [] [] pos) X.env = (do
      let ov ← eval o X.env
      standAt apos.atName
      let (f, first) ← holding [ov] (getMethod ov m pl)
      callWith pos f first (backTo pos (starEach [] X.env)) (backToKw pos (keywordEach [] X.env))) := by rfl) :
    PE X (.Call (.Attribute o m apos) [] [] pos) (tM X.K B W (mMeth mn ps mo mNil)) := by
  refine ⟨fun pins s σ H Q I ⟨G, ρ, e0, h⟩ => ?_⟩
  refine PySem.W.methodCall_KW (pl := pl) (thn (ho.run pins s σ H (fun x H1 => ∃ G1 d, EnvOk X.K B G1 σ ρ H1 ∧ Rep X.K G1 x d ∧ RG (Rep X.K) X.K (fun c d H' => W c d σ H') G1 H1 Q (methD mn ps d >>= fun g => mNil ρ >>= g)) I ⟨G, ρ, e0, RG.bind h fun d G1 v H1 g r h1 => ⟨G1, d, e0.growN g, r, h1⟩⟩) fun u s1 ⟨x, H1, I1, rx, G1, d, e1, r, q⟩ => ?_) ht
  obtain ⟨a, dx, fv, c, fs, g, rfl, rfl, hG, at_, rf, hps, hno, q⟩ := meth_find hmn r q
  obtain ⟨f, hm, F⟩ := (hp c g hps).ex
  obtain rfl : u = Value.ref a := rx
  refine getmeth_ok I1 (e1.sub _ _ hG) at_.1.cls hm hno ?_
  exact PySem.W.callWith_K0 (first := [.ref a]) I1.kIn hm.kp (F.call (vs := [.ref a]) (us := [.ref a]) tk hr I1 (.cons rfl .nil) rfl e1.sub (.cons (.obj hG at_ rf) .nil) q)
end
structure MakF (T : Tk) (k : Nat) (c : Cl) (j : Nat) (m : List D → Res (List (Nm × D))) : Prop where
  ex : ∃ f, Mk T.K (ca T.K c) f ∧ InM T k f c j m
def newD (c : Cl) (m : List D → Res (List (Nm × D))) : List D → Res D := fun ds => m ds >>= fun fs => .ok (.obj c fs)
section
variable {X : Cx} {B : Base} {W : WX} {k j : Nat} {c : Cl} {x : Str} {m : List D → Res (List (Nm × D))} {e : Expr} {es : List Expr} {ms : Ev → Res (List D)} {p pos : Pos}
theorem MakF.go {pins : List (Addr × Obj)} {σ : St} {G H : Hp} {s : Shared} {Q : VK} {us : List Value} {vs : List V} {ds : List D} (F : MakF (tkOf X) k c j m) (tk : Takes X W) (hr : Room (k + 1) X.A) (I : Inv X pins σ H s) (r : Vals vs us) (hl : vs.length = j) (e : Ext G H) (rr : Reps X.K G vs ds)
    (h : RG (Rep X.K) X.K (fun c d H' => W c d σ H') G H Q (newD c m ds)) : wpAny (model X.prog X.w) X.A (call (.ref (ca X.K c)) us) (EP X pins σ Q) X.xe s := by
  obtain ⟨f, M, F⟩ := F.ex
  have I2 := Inv.made (C := ca X.K c) I
  have nx : H (s.heap.objs.size + 1) = none := I.hok.fresh (Nat.le_succ _)
  have nd : H s.heap.objs.size = none := I.hok.fresh (Nat.le_refl _)
  have ne : s.heap.objs.size ≠ s.heap.objs.size + 1 := Nat.ne_of_lt (Nat.lt_succ_self _)
  refine wpAny_call (make_map (f := f) I.kIn M.makes M.init (beq_iff_eq.mp M.fn) (codeAny_mono (F _ X.stack _ G _ (s.heap.objs.size + 1) s.heap.objs.size us vs ds (fun v H2 => v = .non ∧ Q (.ref (s.heap.objs.size + 1)) H2) (WE W σ) (hr.make (ca X.K c) us []) (I2.env0.make (ca X.K c) us []) r hl upd_same (e.free nx) (fun a o _ q => ?_) rr ?_) fun r s' hq' => ?_))
  · rw [upd_ne (ne_of_none (e _ _ q) nx), upd_ne (ne_of_none (e _ _ q) nd)]
    exact e _ _ q
  · have up : Ext H (fun a => if a = s.heap.objs.size + 1 then none else upd (upd H s.heap.objs.size (.own (s.heap.objs.size + 1))) (s.heap.objs.size + 1) (.ins (ca X.K c) s.heap.objs.size []) a) := fun a o q => by
      have h1 : a ≠ s.heap.objs.size + 1 := ne_of_none q nx
      show (if a = s.heap.objs.size + 1 then none else _) = some o
      rw [if_neg h1, upd_ne h1, upd_ne (ne_of_none q nd)]
      exact q
    unfold newD at h
    cases hm : m ds with
    | stuck => rw [hm] at h; exact h
    | exc er =>
      rw [hm] at h
      exact fun G' H' cls d g er' => h G' cls d H' ⟨g.g, up.trans g.h, g.sub, fun a o q => by
        rcases g.new a o q with z | z
        · exact .inl z
        · exact .inr (up.free z)⟩ er'
    | ok fs =>
      rw [hm] at h
      refine fun G' H' fv g gx hx at_ rf => ⟨rfl, h (upd G' (s.heap.objs.size + 1) (.ins (ca X.K c) s.heap.objs.size fv)) _ H' ⟨g.g.trans (.upd gx), up.trans g.h, fun a o q => ?_, fun a o q => ?_⟩ (.obj upd_same at_ (rf.mono (.upd gx)))⟩
      · by_cases z : a = s.heap.objs.size + 1
        · subst z; rw [upd_same] at q; cases q; exact hx
        · rw [upd_ne z] at q; exact g.sub _ _ q
      · by_cases z : a = s.heap.objs.size + 1
        · subst z; exact .inr nx
        · rw [upd_ne z] at q
          rcases g.new a o q with y | y
          · exact .inl y
          · exact .inr (up.free y)
  · cases r with
    | error er => exact tk er s' (XE.of_call I2 (fun _ _ _ h => h) hq')
    | ok fl =>
      cases fl with
      | ret u =>
        obtain ⟨v, H', I3, rv, ev, q3⟩ := I2.after hq'
        subst ev
        exact ⟨rv, ⟨V.ref (s.heap.objs.size + 1), H', I3, rfl, q3⟩⟩
      | next => exact False.elim hq'
      | brk => exact False.elim hq'
      | cont => exact False.elim hq'
theorem me_make (F : MakF (tkOf X) k c j m) (tk : Takes X W) (hr : Room (k + 1) X.A) (hg : Gl X x) (hm : X.mg x = some (.ref (ca X.K c))) (ha : PA X (e :: es) (tMA X.K B W ms)) (hj : ∀ ρ ds, ms ρ = .ok ds → ds.length = j) (hdb : (x == ("__debug__" : Str)) = false := by decide)
    (he : starEach (e :: es) X.env = (false, eval e X.env) :: starEach es X.env := by rfl) (hpl : (backTo pos (starEach es X.env)).any (·.1) = false := by rfl) : PE X (.Call (.Name x p) (e :: es) [] pos) (tM X.K B W (mCall (newD c m) ms)) := by
  obtain ⟨f, M, _⟩ := id F.ex
  refine ⟨fun pins s σ H Q I ⟨G, ρ, e0, h⟩ => ?_⟩
  refine wpAny_Call_Name_kw (ld_glob I hg hm ?_ hdb)
  refine PySem.W.callWith_K (h₀ := X.base) I.ok.mod.kin M.kp (thn (ha.run pos pins s σ H (fun vs H2 => ∃ G2 ds, ds.length = j ∧ Ext G2 H2 ∧ Reps X.K G2 vs ds ∧ RG (Rep X.K) X.K (fun c d H' => W c d σ H') G2 H2 Q (newD c m ds)) I ⟨G, ρ, e0, RG.len (hj ρ) h fun ds G2 vs H2 hl g2 rr q2 => ⟨G2, ds, hl, g2.sub, rr, q2⟩⟩) fun us s1 ⟨vs, H1, I1, r, G2, ds, hl, e2, rr, q⟩ => ⟨I1.kIn, ?_⟩) he hpl
  exact F.go tk hr I1 r (reps_len rr hl) e2 rr q
end
/-- by a method of the left one's class (the right one is of the same class, or an int) -/
def ownD (base : D → D → Res D) (ps : Cl → Option (List D → Res D)) (rs : Cl → Option (List D → Res D)) : D → D → Res D
  | .obj c fs, .int i => ofOpt (ps c) >>= fun g => g [.obj c fs, .int i]
  | .obj c fs, .obj c' gs => ofOpt (ps c) >>= fun g => chk (c' = c) (g [.obj c fs, .obj c' gs])
  | .int i, .obj c fs => ofOpt (rs c) >>= fun g => g [.obj c fs, .int i]
  | a, b => base a b
/-- c's method for the operator op, and the reflected one -/
structure BinF (T : Tk) (k : Nat) (op : Operator) (c : Cl) (g : List D → Res D) : Prop where
  ex : ∃ (f : Addr) (rc : Option Value), PySem.W.findIn T.K (.ref (ca T.K c)) (PySem.dunder op.info.2) = some (some (.ref f)) ∧ PySem.W.isFn T.K (.ref f) = true ∧
    PySem.W.findIn T.K (.ref (ca T.K c)) (dunderR op.info.2) = some rc ∧ (rc = none ∨ ∃ g : Addr, rc = some (.ref g)) ∧ FnM T k f 2 g
structure RinF (T : Tk) (k : Nat) (op : Operator) (c : Cl) (g : List D → Res D) : Prop where
  ex : ∃ (f f' : Addr), PySem.W.findIn T.K (.ref (ca T.K c)) (dunderR op.info.2) = some (some (.ref f)) ∧ PySem.W.isFn T.K (.ref f) = true ∧
    PySem.W.findIn T.K (.ref (ca T.K c)) (PySem.dunder op.info.2) = some (some (.ref f')) ∧ FnM T k f 2 g ∧ PySem.W.subIn T.K (.ref (ca T.K c)) (.type "int") = some false
end PL
namespace PL
open PySem PySem.Spec L2
open PyProof.Rows (b2i)
/-- what the int's side of an operator says where an instance stands on the other side -/
structure IntOp (op : Operator) : Prop where
  fo : ∃ fo ro, ∀ K : PySem.W.Frag, PySem.W.findIn K (.type "int") (PySem.dunder op.info.2) = some fo ∧ PySem.W.findIn K (.type "int") (dunderR op.info.2) = some ro
  fills : fillsNumberSlot (.type "int") op.info.2 = pure true
  dec : ∃ id B, Slot "int" (PySem.dunder op.info.2) id ∧ entryFor table id = some B ∧ (∀ a b : Value, argsOk id ⟨[a, b], []⟩) ∧
    ∀ (i : Int) (t : Tok) (x C dx : Addr), Meets (B ⟨[.int i t, .ref x], []⟩) (fun _ R s => s.heap.get? x = some (⟨.ref C, some dx, .plain, #[]⟩ : Obj) ∧ R (.ok (.ret Value.notImplemented)) s)
theorem int_add_ref (i : Int) (t : Tok) (x C dx : Addr) : Meets (Builtin.«int.__add__» ⟨[.int i t, .ref x], []⟩) (fun _ R s => s.heap.get? x = some (⟨.ref C, some dx, .plain, #[]⟩ : Obj) ∧ R (.ok (.ret Value.notImplemented)) s) :=
  .of_wp fun prog w A R s h => by
    obtain ⟨hp, g, d, tk, os⟩ := s
    obtain ⟨ho, h⟩ := h
    wp_walk using AutoSeq1.wpAny_loadPart' ho
    exact ⟨_, rfl, h⟩
theorem intAdd : IntOp .Add where
  fo := by
    have h1 : (PySem.fastLookup "int" (PySem.dunder "add")).isSome = true := by decide +kernel
    have h2 : (PySem.fastLookup "int" (dunderR "add")).isSome = true := by decide +kernel
    obtain ⟨fo, e1⟩ := Option.isSome_iff_exists.mp h1
    obtain ⟨ro, e2⟩ := Option.isSome_iff_exists.mp h2
    exact ⟨fo, ro, fun K => ⟨e1, e2⟩⟩
  fills := F.fills_int_add
  dec := ⟨_, _, F.slot_int_add, F.entry_int_add, F.args_int_add_2, int_add_ref⟩
theorem int_sub_ref (i : Int) (t : Tok) (x C dx : Addr) : Meets (Builtin.«int.__sub__» ⟨[.int i t, .ref x], []⟩) (fun _ R s => s.heap.get? x = some (⟨.ref C, some dx, .plain, #[]⟩ : Obj) ∧ R (.ok (.ret Value.notImplemented)) s) :=
  .of_wp fun prog w A R s h => by
    obtain ⟨hp, g, d, tk, os⟩ := s
    obtain ⟨ho, h⟩ := h
    wp_walk using AutoSeq1.wpAny_loadPart' ho
    exact ⟨_, rfl, h⟩
theorem intSub : IntOp .Sub where
  fo := by
    have h1 : (PySem.fastLookup "int" (PySem.dunder "sub")).isSome = true := by decide +kernel
    have h2 : (PySem.fastLookup "int" (dunderR "sub")).isSome = true := by decide +kernel
    obtain ⟨fo, e1⟩ := Option.isSome_iff_exists.mp h1
    obtain ⟨ro, e2⟩ := Option.isSome_iff_exists.mp h2
    exact ⟨fo, ro, fun K => ⟨e1, e2⟩⟩
  fills := F.fills_int_sub
  dec := ⟨_, _, F.slot_int_sub, F.entry_int_sub, F.args_int_sub_2, int_sub_ref⟩
theorem int_mul_ref (i : Int) (t : Tok) (x C dx : Addr) : Meets (Builtin.«int.__mul__» ⟨[.int i t, .ref x], []⟩) (fun _ R s => s.heap.get? x = some (⟨.ref C, some dx, .plain, #[]⟩ : Obj) ∧ R (.ok (.ret Value.notImplemented)) s) :=
  .of_wp fun prog w A R s h => by
    obtain ⟨hp, g, d, tk, os⟩ := s
    obtain ⟨ho, h⟩ := h
    wp_walk using AutoSeq1.wpAny_loadPart' ho
    exact ⟨_, rfl, h⟩
theorem intMult : IntOp .Mult where
  fo := by
    have h1 : (PySem.fastLookup "int" (PySem.dunder "mul")).isSome = true := by decide +kernel
    have h2 : (PySem.fastLookup "int" (dunderR "mul")).isSome = true := by decide +kernel
    obtain ⟨fo, e1⟩ := Option.isSome_iff_exists.mp h1
    obtain ⟨ro, e2⟩ := Option.isSome_iff_exists.mp h2
    exact ⟨fo, ro, fun K => ⟨e1, e2⟩⟩
  fills := F.fills_int_mul
  dec := ⟨_, _, F.slot_int_mul, F.entry_int_mul, F.args_int_mul_2, int_mul_ref⟩
theorem int_floordiv_ref (i : Int) (t : Tok) (x C dx : Addr) : Meets (Builtin.«int.__floordiv__» ⟨[.int i t, .ref x], []⟩) (fun _ R s => s.heap.get? x = some (⟨.ref C, some dx, .plain, #[]⟩ : Obj) ∧ R (.ok (.ret Value.notImplemented)) s) :=
  .of_wp fun prog w A R s h => by
    obtain ⟨hp, g, d, tk, os⟩ := s
    obtain ⟨ho, h⟩ := h
    wp_walk using AutoSeq1.wpAny_loadPart' ho
    exact ⟨_, rfl, h⟩
theorem intFloorDiv : IntOp .FloorDiv where
  fo := by
    have h1 : (PySem.fastLookup "int" (PySem.dunder "floordiv")).isSome = true := by decide +kernel
    have h2 : (PySem.fastLookup "int" (dunderR "floordiv")).isSome = true := by decide +kernel
    obtain ⟨fo, e1⟩ := Option.isSome_iff_exists.mp h1
    obtain ⟨ro, e2⟩ := Option.isSome_iff_exists.mp h2
    exact ⟨fo, ro, fun K => ⟨e1, e2⟩⟩
  fills := F.fills_int_floordiv
  dec := ⟨_, _, F.slot_int_floordiv, F.entry_int_floordiv, F.args_int_floordiv_2, int_floordiv_ref⟩
theorem int_mod_ref (i : Int) (t : Tok) (x C dx : Addr) : Meets (Builtin.«int.__mod__» ⟨[.int i t, .ref x], []⟩) (fun _ R s => s.heap.get? x = some (⟨.ref C, some dx, .plain, #[]⟩ : Obj) ∧ R (.ok (.ret Value.notImplemented)) s) :=
  .of_wp fun prog w A R s h => by
    obtain ⟨hp, g, d, tk, os⟩ := s
    obtain ⟨ho, h⟩ := h
    wp_walk using AutoSeq1.wpAny_loadPart' ho
    exact ⟨_, rfl, h⟩
theorem intMod : IntOp .Mod where
  fo := by
    have h1 : (PySem.fastLookup "int" (PySem.dunder "mod")).isSome = true := by decide +kernel
    have h2 : (PySem.fastLookup "int" (dunderR "mod")).isSome = true := by decide +kernel
    obtain ⟨fo, e1⟩ := Option.isSome_iff_exists.mp h1
    obtain ⟨ro, e2⟩ := Option.isSome_iff_exists.mp h2
    exact ⟨fo, ro, fun K => ⟨e1, e2⟩⟩
  fills := F.fills_int_mod
  dec := ⟨_, _, F.slot_int_mod, F.entry_int_mod, F.args_int_mod_2, int_mod_ref⟩
theorem int_lshift_ref (i : Int) (t : Tok) (x C dx : Addr) : Meets (Builtin.«int.__lshift__» ⟨[.int i t, .ref x], []⟩) (fun _ R s => s.heap.get? x = some (⟨.ref C, some dx, .plain, #[]⟩ : Obj) ∧ R (.ok (.ret Value.notImplemented)) s) :=
  .of_wp fun prog w A R s h => by
    obtain ⟨hp, g, d, tk, os⟩ := s
    obtain ⟨ho, h⟩ := h
    wp_walk using AutoSeq1.wpAny_loadPart' ho
    exact ⟨_, rfl, h⟩
theorem intLShift : IntOp .LShift where
  fo := by
    have h1 : (PySem.fastLookup "int" (PySem.dunder "lshift")).isSome = true := by decide +kernel
    have h2 : (PySem.fastLookup "int" (dunderR "lshift")).isSome = true := by decide +kernel
    obtain ⟨fo, e1⟩ := Option.isSome_iff_exists.mp h1
    obtain ⟨ro, e2⟩ := Option.isSome_iff_exists.mp h2
    exact ⟨fo, ro, fun K => ⟨e1, e2⟩⟩
  fills := F.fills_int_lshift
  dec := ⟨_, _, F.slot_int_lshift, F.entry_int_lshift, F.args_int_lshift_2, int_lshift_ref⟩
theorem int_and_ref (i : Int) (t : Tok) (x C dx : Addr) : Meets (Builtin.«int.__and__» ⟨[.int i t, .ref x], []⟩) (fun _ R s => s.heap.get? x = some (⟨.ref C, some dx, .plain, #[]⟩ : Obj) ∧ R (.ok (.ret Value.notImplemented)) s) :=
  .of_wp fun prog w A R s h => by
    obtain ⟨hp, g, d, tk, os⟩ := s
    obtain ⟨ho, h⟩ := h
    wp_walk using AutoSeq1.wpAny_loadPart' ho
    exact ⟨_, rfl, h⟩
theorem intBitAnd : IntOp .BitAnd where
  fo := by
    have h1 : (PySem.fastLookup "int" (PySem.dunder "and")).isSome = true := by decide +kernel
    have h2 : (PySem.fastLookup "int" (dunderR "and")).isSome = true := by decide +kernel
    obtain ⟨fo, e1⟩ := Option.isSome_iff_exists.mp h1
    obtain ⟨ro, e2⟩ := Option.isSome_iff_exists.mp h2
    exact ⟨fo, ro, fun K => ⟨e1, e2⟩⟩
  fills := F.fills_int_and
  dec := ⟨_, _, F.slot_int_and, F.entry_int_and, F.args_int_and_2, int_and_ref⟩
theorem int_or_ref (i : Int) (t : Tok) (x C dx : Addr) : Meets (Builtin.«int.__or__» ⟨[.int i t, .ref x], []⟩) (fun _ R s => s.heap.get? x = some (⟨.ref C, some dx, .plain, #[]⟩ : Obj) ∧ R (.ok (.ret Value.notImplemented)) s) :=
  .of_wp fun prog w A R s h => by
    obtain ⟨hp, g, d, tk, os⟩ := s
    obtain ⟨ho, h⟩ := h
    wp_walk using AutoSeq1.wpAny_loadPart' ho
    exact ⟨_, rfl, h⟩
theorem intBitOr : IntOp .BitOr where
  fo := by
    have h1 : (PySem.fastLookup "int" (PySem.dunder "or")).isSome = true := by decide +kernel
    have h2 : (PySem.fastLookup "int" (dunderR "or")).isSome = true := by decide +kernel
    obtain ⟨fo, e1⟩ := Option.isSome_iff_exists.mp h1
    obtain ⟨ro, e2⟩ := Option.isSome_iff_exists.mp h2
    exact ⟨fo, ro, fun K => ⟨e1, e2⟩⟩
  fills := F.fills_int_or
  dec := ⟨_, _, F.slot_int_or, F.entry_int_or, F.args_int_or_2, int_or_ref⟩
theorem int_xor_ref (i : Int) (t : Tok) (x C dx : Addr) : Meets (Builtin.«int.__xor__» ⟨[.int i t, .ref x], []⟩) (fun _ R s => s.heap.get? x = some (⟨.ref C, some dx, .plain, #[]⟩ : Obj) ∧ R (.ok (.ret Value.notImplemented)) s) :=
  .of_wp fun prog w A R s h => by
    obtain ⟨hp, g, d, tk, os⟩ := s
    obtain ⟨ho, h⟩ := h
    wp_walk using AutoSeq1.wpAny_loadPart' ho
    exact ⟨_, rfl, h⟩
theorem intBitXor : IntOp .BitXor where
  fo := by
    have h1 : (PySem.fastLookup "int" (PySem.dunder "xor")).isSome = true := by decide +kernel
    have h2 : (PySem.fastLookup "int" (dunderR "xor")).isSome = true := by decide +kernel
    obtain ⟨fo, e1⟩ := Option.isSome_iff_exists.mp h1
    obtain ⟨ro, e2⟩ := Option.isSome_iff_exists.mp h2
    exact ⟨fo, ro, fun K => ⟨e1, e2⟩⟩
  fills := F.fills_int_xor
  dec := ⟨_, _, F.slot_int_xor, F.entry_int_xor, F.args_int_xor_2, int_xor_ref⟩
theorem int_pow_ref (i : Int) (t : Tok) (x C dx : Addr) : Meets (Builtin.«int.__pow__» ⟨[.int i t, .ref x], []⟩) (fun _ R s => s.heap.get? x = some (⟨.ref C, some dx, .plain, #[]⟩ : Obj) ∧ R (.ok (.ret Value.notImplemented)) s) :=
  .of_wp fun prog w A R s h => by
    obtain ⟨hp, g, d, tk, os⟩ := s
    obtain ⟨ho, h⟩ := h
    wp_walk using AutoSeq1.wpAny_loadPart' ho
    exact ⟨_, rfl, h⟩
theorem intPow : IntOp .Pow where
  fo := by
    have h1 : (PySem.fastLookup "int" (PySem.dunder "pow")).isSome = true := by decide +kernel
    have h2 : (PySem.fastLookup "int" (dunderR "pow")).isSome = true := by decide +kernel
    obtain ⟨fo, e1⟩ := Option.isSome_iff_exists.mp h1
    obtain ⟨ro, e2⟩ := Option.isSome_iff_exists.mp h2
    exact ⟨fo, ro, fun K => ⟨e1, e2⟩⟩
  fills := F.fills_int_pow
  dec := ⟨_, _, F.slot_int_pow, F.entry_int_pow, F.args_int_pow_2, int_pow_ref⟩
theorem int_rshift_ref (i : Int) (t : Tok) (x C dx : Addr) : Meets (Builtin.«int.__rshift__» ⟨[.int i t, .ref x], []⟩) (fun _ R s => s.heap.get? x = some (⟨.ref C, some dx, .plain, #[]⟩ : Obj) ∧ R (.ok (.ret Value.notImplemented)) s) :=
  .of_wp fun prog w A R s h => by
    obtain ⟨hp, g, d, tk, os⟩ := s
    obtain ⟨ho, h⟩ := h
    wp_walk using AutoSeq1.wpAny_loadPart' ho
    exact ⟨_, rfl, h⟩
theorem intRShift : IntOp .RShift where
  fo := by
    have h1 : (PySem.fastLookup "int" (PySem.dunder "rshift")).isSome = true := by decide +kernel
    have h2 : (PySem.fastLookup "int" (dunderR "rshift")).isSome = true := by decide +kernel
    obtain ⟨fo, e1⟩ := Option.isSome_iff_exists.mp h1
    obtain ⟨ro, e2⟩ := Option.isSome_iff_exists.mp h2
    exact ⟨fo, ro, fun K => ⟨e1, e2⟩⟩
  fills := F.fills_int_rshift
  dec := ⟨_, _, F.slot_int_rshift, F.entry_int_rshift, F.args_int_rshift_2, int_rshift_ref⟩
theorem sub_int_cls (K : PySem.W.Frag) (C : Addr) : PySem.W.subIn K (.type "int") (.ref C) = some false := by
  have h : ∃ l : List Value, fastBuiltinMro "int" = some l ∧ l.all (fun v => match v with
    | .type _ => true
    | _ => false) = true := ⟨[.type "int", .type "object"], by decide +kernel, by decide +kernel⟩
  obtain ⟨l, e, a⟩ := h
  show (fastBuiltinMro "int").map (·.contains (.ref C)) = some false
  rw [e, Option.map_some]
  refine congrArg some ?_
  rw [List.contains_eq_any_beq, List.any_eq_false]
  intro v hv z
  have y := List.all_eq_true.mp a v hv
  have e2 : Value.ref C = v := beq_iff_eq.mp z
  subst e2
  cases y
theorem cmpback {P : Value → Shared → Prop} {z : V} {v : Value} {s' : Shared} (r : RelV z v) (h : P v s') : PySem.W.CmpBack P v s' := by
  cases z <;> first
    | (cases (show v = _ from r); exact h)
    | (obtain ⟨t, e⟩ := (show ∃ t, v = _ from r); cases e; exact h)
section
variable {X : Cx} {W : WX} {pins : List (Addr × Obj)} {σ : St} {G H : Hp} {s : Shared} {Q : VK}
/-- the object of an instance that is data -/
theorem ins_obj {K : PySem.W.Frag} {x : V} {d : D} {c : Cl} {fs : List (Nm × D)} (I : Inv X pins σ H s) (e : Ext G H) (r : Rep X.K G x (.obj c fs)) :
    ∃ a dx od, x = .ref a ∧ PySem.W.InstAt s.heap a (PySem.W.instObj (ca X.K c) dx) (ca X.K c) (some od) ∧ AtF X.K c fs ∧ s.heap.get? a = some (PySem.W.instObj (ca X.K c) dx) := by
  cases r with
  | @obj a dx fv _ _ hG at_ r =>
    obtain ⟨mA, O, _, _, _, _⟩ := ins_get I.hok (e _ _ hG)
    obtain ⟨od, J, _⟩ := O.look
    exact ⟨a, dx, od, rfl, J, at_, O.obj⟩
theorem ownGo {k : Nat} {f : Addr} {g : List D → Res D} (F : FnM (tkOf X) k f 2 g) (tk : Takes X W) (hr : Room k X.A) (I : Inv X pins σ H s) {x y : V} {v u : Value} {a b : D} (rx : RelV x v) (ry : RelV y u) (e : Ext G H) (ra : Rep X.K G x a) (rb : Rep X.K G y b)
    (h : RG (Rep X.K) X.K (fun c d H' => W c d σ H') G H Q (g [a, b])) : wpAny (model X.prog X.w) X.A (call (.ref f) [v, u]) (PySem.W.CmpBack (EP X pins σ Q)) X.xe s :=
  wpAny_mono (F.call tk hr I (.cons rx (.cons ry .nil)) rfl e (.cons ra (.cons rb .nil)) h) (fun w s' z => by
    obtain ⟨z', H', I', rz, qz⟩ := z
    exact cmpback rz ⟨z', H', I', rz, qz⟩) fun _ _ z => z
theorem op_own1 {k : Nat} {op : Operator} {c : Cl} {g : List D → Res D} (io : IntOp op) (B : BinF (tkOf X) k op c g) (tk : Takes X W) (hr : Room k X.A) (I : Inv X pins σ H s) {x y : V} {v u : Value} {fs : List (Nm × D)} {b : D} (rx : RelV x v) (ry : RelV y u) (e : Ext G H) (ra : Rep X.K G x (.obj c fs)) (rb : Rep X.K G y b)
    (hb : (∃ i, b = .int i) ∨ ∃ gs, b = .obj c gs) (h : RG (Rep X.K) X.K (fun c d H' => W c d σ H') G H Q (g [.obj c fs, b])) : wpAny (model X.prog X.w) X.A (binaryOp op v u) (EP X pins σ Q) X.xe s := by
  obtain ⟨f, rc, hs, hf, hrc, hp, F⟩ := B.ex
  obtain ⟨a, dx, od, rfl, J, at_, _⟩ := ins_obj (K := X.K) (d := b) I e ra
  have ex : v = Value.ref a := rx
  obtain ⟨m, hF⟩ := I.fr
  rcases hb with ⟨i, rfl⟩ | ⟨gs, rfl⟩
  · obtain ⟨fo, ro, hfo⟩ := io.fo
    have ry' := ry
    cases rb
    obtain ⟨t, eu⟩ := (show ∃ t, u = Value.int i t from ry)
    rw [ex, eu]
    refine PySem.W.ksp_binT (T := "int") hF I.ok.mod.kin J rfl at_.1.sf hs hf hrc hp (hfo X.K).1 (hfo X.K).2 (sub_int_cls X.K _) ?_
    rw [← ex, ← eu]
    exact ownGo F tk hr I rx ry' e ra (.int i) h
  · obtain ⟨a2, dx2, od2, rfl, J2, _, _⟩ := ins_obj (K := X.K) (d := .obj c gs) I e rb
    have eu : u = Value.ref a2 := ry
    rw [ex, eu]
    refine PySem.W.binop_K hF I.ok.mod.kin J J2.type at_.1.sf hs hf ?_
    rw [← ex, ← eu]
    exact ownGo F tk hr I rx ry e ra rb h
/-- an int on the left -/
theorem op_own2 {k : Nat} {op : Operator} {c : Cl} {g : List D → Res D} (io : IntOp op) (B : RinF (tkOf X) k op c g) (tk : Takes X W) (hr : Room k X.A) (I : Inv X pins σ H s) {y : V} {v u : Value} {fs : List (Nm × D)} {i : Int} (rx : RelV (.int i) v) (ry : RelV y u) (e : Ext G H) (rb : Rep X.K G y (.obj c fs))
    (h : RG (Rep X.K) X.K (fun c d H' => W c d σ H') G H Q (g [.obj c fs, .int i])) : wpAny (model X.prog X.w) X.A (binaryOp op v u) (EP X pins σ Q) X.xe s := by
  obtain ⟨f, f', hs, hf, hd, F, hsub⟩ := B.ex
  obtain ⟨a, dx, od, rfl, J, at_, ho⟩ := ins_obj (K := X.K) (d := .int i) I e rb
  obtain rfl : u = Value.ref a := ry
  obtain ⟨t, rfl⟩ := (show ∃ t, v = Value.int i t from rx)
  obtain ⟨m, hF⟩ := I.fr
  have KX := I.kIn
  obtain ⟨cd, rest, hcd, hm⟩ := PySem.W.ksp_first at_.1.sf
  obtain ⟨id, B, slot, entry, args, dec⟩ := io.dec
  have fills := io.fills
  have one := PySem.W.ksp_try (M := model X.prog X.w) (A := X.A) (b := .int i t) KX J hs hf (ownGo F tk hr I (x := .ref a) (y := .int i) (v := .ref a) (u := .int i t) rfl ⟨t, rfl⟩ e rb (.int i) h)
  rcases hi : op.info with ⟨sym, nm⟩
  rw [hi] at hs hd slot fills one
  dsimp only at hs hd slot fills one
  have ta : s.TypeIs (.int i t) "int" := typeIs_int s i t
  have L3 : PySem.W.Looks (model X.prog X.w) s.heap (fillsNumberSlot (.ref (ca X.K c)) nm) true := PySem.W.fills_K KX hcd hm hd
  have L5 : PySem.W.Looks (model X.prog X.w) s.heap (isSubtype (.ref (ca X.K c)) (.type "int")) false := PySem.W.looks_subIn KX hsub
  have hne : (Value.type "int" == Value.ref (ca X.K c)) = false := Bool.eq_false_iff.mpr fun q => by cases beq_iff_eq.mp q
  simp only [binaryOp, hi]
  refine wpAny_holding (wpAny_bind ?_)
  simp only [binaryOp1]
  refine wpAny_bind (wpAny_typeOf ta (wpAny_bind (J.type.here (wpAny_bind (wpAny_of_eq fills ?_)))))
  simp only [hne, Bool.false_eq_true, if_false]
  refine wpAny_bind (L3.here ?_)
  simp only [Bool.and_self, if_true]
  refine wpAny_bind (L5.here ?_)
  have hpy : numberSlotInPython (.type "int") nm = pure false := rfl
  simp only [Bool.false_eq_true, if_false, pure_bind, Bool.not_false, Bool.and_self, if_true, hpy]
  refine wpAny_bind (wpAny_tryMethod_declines ta slot (wpAny_mono (call_meets slot ta entry (args _ _) (dec i t a _ dx) ⟨ho, rfl, ?_⟩) (fun _ _ z => z) fun _ _ z => z))
  refine wpAny_bind (wpAny_mono one (fun r s' z => ?_) fun _ _ z => z)
  obtain ⟨v, rfl, hq⟩ := z
  exact wpAny_bind (wpAny_rule (wpAny_pure (wpAny_pure hq)))
end
end PL
namespace PL
open PySem PySem.Spec L2
open PyProof.Rows (b2i)
section
variable {X : Cx} {W : WX}
theorem op_ownD {k : Nat} {op : Operator} {base : D → D → Res D} {ps rs : Cl → Option (List D → Res D)} (io : IntOp op) (hb : OpM X W (binaryOp op) base) (hp : ∀ c g, ps c = some g → BinF (tkOf X) k op c g) (hrf : ∀ c g, rs c = some g → RinF (tkOf X) k op c g) (tk : Takes X W) (hr : Room k X.A) :
    OpM X W (binaryOp op) (ownD base ps rs) := by
  intro pins s σ G H x y v u a b Q I rx ry e ra rb q
  cases a with
  | obj c fs =>
    cases b with
    | int i =>
      obtain ⟨g, hg, q⟩ : ∃ g, ps c = some g ∧ RG (Rep X.K) X.K (fun c d H' => W c d σ H') G H Q (g [.obj c fs, .int i]) := by
        have q' : RG (Rep X.K) X.K (fun c d H' => W c d σ H') G H Q (ofOpt (ps c) >>= fun g => g [.obj c fs, .int i]) := q
        cases h : ps c with
        | none => rw [h] at q'; exact q'.elim
        | some g => rw [h] at q'; exact ⟨g, rfl, q'⟩
      exact op_own1 io (hp c g hg) tk hr I rx ry e ra rb (.inl ⟨i, rfl⟩) q
    | obj c' gs =>
      obtain ⟨g, hg, ec, q⟩ : ∃ g, ps c = some g ∧ c' = c ∧ RG (Rep X.K) X.K (fun c d H' => W c d σ H') G H Q (g [.obj c fs, .obj c' gs]) := by
        have q' : RG (Rep X.K) X.K (fun c d H' => W c d σ H') G H Q (ofOpt (ps c) >>= fun g => chk (c' = c) (g [.obj c fs, .obj c' gs])) := q
        cases h : ps c with
        | none => rw [h] at q'; exact q'.elim
        | some g =>
          rw [h, ofOpt_some, ok_bind] at q'
          obtain ⟨z, q'⟩ := RG.chk q'
          exact ⟨g, rfl, z, q'⟩
      subst ec
      exact op_own1 io (hp _ g hg) tk hr I rx ry e ra rb (.inr ⟨gs, rfl⟩) q
    | _ => exact hb pins s σ G H x y v u _ _ Q I rx ry e ra rb q
  | int i =>
    cases b with
    | obj c fs =>
      obtain ⟨g, hg, q⟩ : ∃ g, rs c = some g ∧ RG (Rep X.K) X.K (fun c d H' => W c d σ H') G H Q (g [.obj c fs, .int i]) := by
        have q' : RG (Rep X.K) X.K (fun c d H' => W c d σ H') G H Q (ofOpt (rs c) >>= fun g => g [.obj c fs, .int i]) := q
        cases h : rs c with
        | none => rw [h] at q'; exact q'.elim
        | some g => rw [h] at q'; exact ⟨g, rfl, q'⟩
      cases ra
      exact op_own2 io (hrf c g hg) tk hr I rx ry e rb q
    | _ => exact hb pins s σ G H x y v u _ _ Q I rx ry e ra rb q
  | _ => cases b <;> exact hb pins s σ G H x y v u _ _ Q I rx ry e ra rb q
end
/-- no built-in type is below an own class -/
def tyS : D → Option String
  | .non => some "NoneType"
  | .bl _ => some "bool"
  | .int _ => some "int"
  | .str _ => some "str"
  | .tup _ => some "tuple"
  | .lst _ => some "list"
  | .obj _ _ => none
def tyV (K : PySem.W.Frag) : D → Value
  | .non => .type "NoneType"
  | .bl _ => .type "bool"
  | .int _ => .type "int"
  | .str _ => .type "str"
  | .tup _ => .type "tuple"
  | .lst _ => .type "list"
  | .obj c _ => .ref (ca K c)
def blind (T : String) : Bool := match fastBuiltinMro T with
  | some l => l.all fun v => match v with
    | .type _ => true
    | _ => false
  | none => false
theorem sub_blind {T : String} (h : blind T = true) (K : PySem.W.Frag) (C : Addr) : PySem.W.subIn K (.type T) (.ref C) = some false := by
  unfold blind at h
  show (fastBuiltinMro T).map (·.contains (.ref C)) = some false
  cases e : fastBuiltinMro T with
  | none => rw [e] at h; cases h
  | some l =>
    rw [e] at h
    rw [Option.map_some]
    refine congrArg some ?_
    rw [List.contains_eq_any_beq, List.any_eq_false]
    intro v hv z
    have y := List.all_eq_true.mp h v hv
    have e2 : Value.ref C = v := beq_iff_eq.mp z
    subst e2
    cases y
theorem tyV_blind {K : PySem.W.Frag} {d : D} {C : Addr} (h : ∀ c fs, d ≠ .obj c fs) : PySem.W.subIn K (tyV K d) (.ref C) = some false := by
  cases d with
  | non => exact sub_blind (by decide +kernel) K C
  | bl b => exact sub_blind (by decide +kernel) K C
  | int b => exact sub_blind (by decide +kernel) K C
  | str b => exact sub_blind (by decide +kernel) K C
  | tup b => exact sub_blind (by decide +kernel) K C
  | lst b => exact sub_blind (by decide +kernel) K C
  | obj c fs => exact absurd rfl (h c fs)
/-- isinstance's look at a value -/
theorem rep_ty {K : PySem.W.Frag} {G H : Hp} {x : V} {d : D} (s : Ext G H) (r : Rep K G x d) : TyX K H x (tyV K d) := by
  cases r with
  | non => exact .base .non
  | bl b => exact .base (.bl b)
  | int b => exact .base (.int b)
  | str b => exact .base (.str b)
  | tup q r =>
    rcases s.sqt q with (h | ⟨o, h⟩) | ⟨o, its, n, h1, h2, _⟩
    · exact .base (.tup h)
    · exact .fTuple h
    · exact .kTuple h1 h2
  | lst q r =>
    rcases s.rd q with h | ⟨o, h⟩
    · exact .base (.lst h)
    · exact .base (.frz h)
  | obj h k r => exact .base (.ins (s _ _ h) k.1.cls k.1.ha k.1.hn k.1.ht k.1.hm)
theorem looks_ty {X : Cx} {pins : List (Addr × Obj)} {σ : St} {G H : Hp} {s : Shared} {x : V} {v : Value} {d : D} (I : Inv X pins σ H s) (e : Ext G H) (r : Rep X.K G x d) (rx : RelV x v) : PySem.W.Looks (model X.prog X.w) s.heap (typeOf v) (tyV X.K d) := by
  obtain ⟨P, Z, p, _⟩ := kit_of I rx (rep_ty e r)
  exact Z.ty _ _ I.kIn p
structure CmpF (T : Tk) (k : Nat) (op : CmpOp) (c : Cl) (g : List D → Res D) : Prop where
  ex : ∃ f : Addr, PySem.W.findIn T.K (.ref (ca T.K c)) (cmpInfo op).2.1 = some (some (.ref f)) ∧ PySem.W.isFn T.K (.ref f) = true ∧ FnM T k f 2 g
def notObj : D → Bool
  | .obj _ _ => false
  | _ => true
def sameCl (c : Cl) : D → Bool
  | .obj c' _ => decide (c' = c)
  | _ => true
def ownC (base : D → D → Res D) (ps : Cl → Option (List D → Res D)) : D → D → Res D
  | .obj c fs, b => ofOpt (ps c) >>= fun g => chk (sameCl c b = true) (g [.obj c fs, b])
  | a, b => base a b
section
variable {X : Cx} {W : WX}
theorem op_ownC {k : Nat} {op : CmpOp} {base : D → D → Res D} {ps : Cl → Option (List D → Res D)} (hop : ∀ a b, compareOp op a b = richCompare op a b) (hb : OpM X W (compareOp op) base) (hp : ∀ c g, ps c = some g → CmpF (tkOf X) k op c g) (tk : Takes X W) (hr : Room k X.A) :
    OpM X W (compareOp op) (ownC base ps) := by
  intro pins s σ G H x y v u a b Q I rx ry e ra rb q
  cases a with
  | obj c fs =>
    obtain ⟨g, hg, sc, q⟩ : ∃ g, ps c = some g ∧ sameCl c b = true ∧ RG (Rep X.K) X.K (fun c d H' => W c d σ H') G H Q (g [.obj c fs, b]) := by
      have q' : RG (Rep X.K) X.K (fun c d H' => W c d σ H') G H Q (ofOpt (ps c) >>= fun g => chk (sameCl c b = true) (g [.obj c fs, b])) := q
      cases h : ps c with
      | none => rw [h] at q'; exact q'.elim
      | some g =>
        rw [h, ofOpt_some, ok_bind] at q'
        obtain ⟨z, q'⟩ := RG.chk q'
        exact ⟨g, rfl, z, q'⟩
    obtain ⟨f, hs, hf, F⟩ := (hp c g hg).ex
    obtain ⟨a, dx, od, rfl, J, at_, _⟩ := ins_obj (K := X.K) (d := b) I e ra
    have ex : v = Value.ref a := rx
    obtain ⟨m, hF⟩ := I.fr
    have hn : PySem.W.notFirst X.K (ca X.K c) (tyV X.K b) = true := by
      unfold PySem.W.notFirst
      cases b with
      | obj c' gs =>
        have z : c' = c := of_decide_eq_true sc
        subst z
        exact Bool.or_eq_true_iff.mpr (.inl (beq_iff_eq.mpr rfl))
      | _ => exact Bool.or_eq_true_iff.mpr (.inr (beq_iff_eq.mpr (tyV_blind fun c fs z => nomatch z)))
    rw [hop, ex]
    refine PySem.W.cmp_K (op := op) hr.units0 hF I.ok.mod.kin J (looks_ty I e rb ry) hn hs hf ?_
    rw [← ex]
    exact ownGo F tk hr I rx ry e ra rb q
  | _ => exact hb pins s σ G H x y v u _ _ Q I rx ry e ra rb q
theorem cmp_eq (a b : Value) : compareOp .Eq a b = richCompare .Eq a b := rfl
theorem cmp_lt (a b : Value) : compareOp .Lt a b = richCompare .Lt a b := rfl
theorem cmp_le (a b : Value) : compareOp .LtE a b = richCompare .LtE a b := rfl
theorem cmp_gt (a b : Value) : compareOp .Gt a b = richCompare .Gt a b := rfl
theorem cmp_ge (a b : Value) : compareOp .GtE a b = richCompare .GtE a b := rfl
end
structure IxF (T : Tk) (k : Nat) (c : Cl) (g : List D → Res D) : Prop where
  ex : ∃ f : Addr, PySem.W.findIn T.K (.ref (ca T.K c)) "__getitem__" = some (some (.ref f)) ∧ PySem.W.fnIn T.K f = true ∧ PySem.W.isFn T.K (.ref f) = true ∧ FnM T k f 2 g
def ixO (ps : Cl → Option (List D → Res D)) : D → D → Res D
  | .obj c fs, i => ofOpt (ps c) >>= fun g => g [.obj c fs, i]
  | a, i => ixD a i
section
variable {X : Cx} {W : WX}
theorem ix_O {k : Nat} {ps : Cl → Option (List D → Res D)} (hp : ∀ c g, ps c = some g → IxF (tkOf X) k c g) (tk : Takes X W) (hr : Room (k + 1) X.A) : IxM X W (ixO ps) := by
  intro value slice pins s σ G H x y v u a b Q I rx ry e ra rb q hsl hsl2
  cases a with
  | obj c fs =>
    obtain ⟨g, hg, q⟩ : ∃ g, ps c = some g ∧ RG (Rep X.K) X.K (fun c d H' => W c d σ H') G H Q (g [.obj c fs, b]) := by
      have q' : RG (Rep X.K) X.K (fun c d H' => W c d σ H') G H Q (ofOpt (ps c) >>= fun g => g [.obj c fs, b]) := q
      cases h : ps c with
      | none => rw [h] at q'; exact q'.elim
      | some g => rw [h] at q'; exact ⟨g, rfl, q'⟩
    obtain ⟨f, hs, hf, hfn, F⟩ := (hp c g hg).ex
    obtain ⟨a, dx, od, rfl, J, at_, _⟩ := ins_obj (K := X.K) (d := b) I e ra
    obtain rfl : v = Value.ref a := rx
    obtain ⟨m, hF⟩ := I.fr
    refine PySem.W.sub_K (value := value) (slice := slice) hF I.ok.mod.kin J hs hf hfn ?_ (hsl2 a rfl)
    refine wpAny_call (codeAny_mono (F.go (A := X.A.in1) (us := [.ref a, u]) (vs := [.ref a, y]) tk hr.in1 I.env0.in1 I (.cons rfl (.cons ry .nil)) rfl e (.cons ra (.cons rb .nil)) q) fun r s' z => ?_)
    cases r with
    | error e => exact z
    | ok fl => cases fl <;> exact z
  | _ => exact ix_D value slice pins s σ G H x y v u _ _ Q I rx ry e ra rb q hsl hsl2
end
structure IsiF (K : PySem.W.Frag) (c : V) (u : Value) (f : D → Option Bool) : Prop where
  cls : ClsV c u
  rel : RelV c u
  ok : ∀ d b, f d = some b → PySem.W.kitOne K (tyV K d) u = some b
def isiD (f : D → Option Bool) : D → Res D := fun d => ofOpt (f d) >>= fun b => .ok (.bl b)
/-- of a built-in type; t: which own classes say no -/
def isTy (T : String) (t : Cl → Bool) : D → Option Bool
  | .obj c _ => if t c then some false else none
  | d => match tyS d with
    | some S => kitB S T
    | none => none
/-- of an own class; t: what the own classes say -/
def isOwn (t : Cl → Option Bool) : D → Option Bool
  | .obj c _ => t c
  | _ => some false
theorem isTy_ok {K : PySem.W.Frag} {T : String} {t : Cl → Bool} (ht : ∀ c, t c = true → PySem.W.kitOne K (.ref (ca K c)) (.type T) = some false) : IsiF K (.ty T) (.type T) (isTy T t) :=
  ⟨.ty T, rfl, fun d b h => by
    cases d with
    | obj c fs =>
      unfold isTy at h
      by_cases z : t c = true
      · simp only [z, if_true] at h
        cases h
        exact ht c z
      · simp only [z, if_false] at h
        exact absurd h (by simp)
    | _ => exact h⟩
/-- the class C itself can be asked -/
def clsAsk (K : PySem.W.Frag) (C : Addr) : Bool := decide (PySem.W.kitOne K (.type "int") (.ref C) = some false) && decide (PySem.W.kitOne K (.type "bool") (.ref C) = some false) && decide (PySem.W.kitOne K (.type "str") (.ref C) = some false) && decide (PySem.W.kitOne K (.type "tuple") (.ref C) = some false) && decide (PySem.W.kitOne K (.type "list") (.ref C) = some false) && decide (PySem.W.kitOne K (.type "NoneType") (.ref C) = some false)
theorem isOwn_ok {K : PySem.W.Frag} {C : Addr} {t : Cl → Option Bool} (hc : clsAsk K C = true) (ht : ∀ c b, t c = some b → PySem.W.kitOne K (.ref (ca K c)) (.ref C) = some b) : IsiF K (.ref C) (.ref C) (isOwn t) := by
  unfold clsAsk at hc
  simp only [Bool.and_eq_true, decide_eq_true_eq] at hc
  obtain ⟨⟨⟨⟨⟨h1, h2⟩, h3⟩, h4⟩, h5⟩, h6⟩ := hc
  refine ⟨.own C, rfl, fun d b h => ?_⟩
  cases d with
  | obj c fs => exact ht c b h
  | non => cases h; exact h6
  | bl _ => cases h; exact h2
  | int _ => cases h; exact h1
  | str _ => cases h; exact h3
  | tup _ => cases h; exact h4
  | lst _ => cases h; exact h5
section
variable {X : Cx} {B : Base} {W : WX} {e ce : Expr} {m : Ev → Res D} {p pos : Pos}
theorem me_isi {f : D → Option Bool} {c : V} {u : Value} (hi : IsiF X.K c u f) (hc : PE X ce (tC c)) (he : PE X e (tM X.K B W m)) (hg : Gl X "isinstance") (hm : X.mg "isinstance" = none)
    (hs1 : starEach [e, ce] X.env = (false, eval e X.env) :: starEach [ce] X.env := by rfl) (hs2 : starEach [ce] X.env = (false, eval ce X.env) :: starEach [] X.env := by rfl) (hpl : (backTo pos (starEach [ce] X.env)).any (·.1) = false := by rfl) :
    PE X (.Call (.Name "isinstance" p) [e, ce] [] pos) (tM X.K B W (mUn (isiD f) m)) := by
  refine PE.imp (pe_callB call_isi hg hm (by kernel_rfl) (pa_cons he (pa_cons hc pa_nil hs2) hs1) (by decide) (by decide) hs1 hpl) fun σ H Q ⟨G, ρ, e0, q⟩ => ⟨G, ρ, e0, RG.bind q fun d G1 v H1 g r q1 => ?_⟩
  have q2 : RG (Rep X.K) X.K (fun c d H' => W c d σ H') G1 H1 Q (ofOpt (f d) >>= fun b => .ok (.bl b)) := q1
  cases hf : f d with
  | none => rw [hf] at q2; exact q2.elim
  | some b =>
    rw [hf] at q2
    exact ⟨v, c, _, u, b, rfl, hi.cls, rep_ty g.sub r, hi.ok d b hf, q2 G1 _ H1 (.refl g.sub) (.bl b)⟩
/-- the class as it stands in the call: a built-in type's name, a module's name -/
theorem pe_ty {x : Str} {T : String} (hg : Gl X x) (hm : X.mg x = none) (hv : bootBuiltins x = some (.type T)) (hn : x ≠ "__name__" := by decide) (hd : (x == ("__debug__" : Str)) = false := by decide) : PE X (.Name x pos) (tC (.ty T)) := pe_bltn hg hm hv rfl hn hd
theorem pe_cl {x : Str} {C : Addr} (hg : Gl X x) (hm : X.mg x = some (.ref C)) (hd : (x == ("__debug__" : Str)) = false := by decide) : PE X (.Name x pos) (tC (.ref C)) := pe_glob hg hm rfl hd
theorem me_callB {x : Str} {id : String} {es : List Expr} {g : List D → Res D} {ms : Ev → Res (List D)} (hc : CallM X W (.builtin id) g) (hg : Gl X x) (hm : X.mg x = none) (hv : bootBuiltins x = some (.builtin id)) (ha : PA X (e :: es) (tMA X.K B W ms))
    (hn : x ≠ "__name__" := by decide) (hdb : (x == ("__debug__" : Str)) = false := by decide)
    (he : starEach (e :: es) X.env = (false, eval e X.env) :: starEach es X.env := by rfl) (hpl : (backTo pos (starEach es X.env)).any (·.1) = false := by rfl) : PE X (.Call (.Name x p) (e :: es) [] pos) (tM X.K B W (mCall g ms)) := by
  refine ⟨fun pins s σ H Q I ⟨G, ρ, e0, h⟩ => ?_⟩
  refine wpAny_Call_Name_kw (ld_blt I hg hm hv ?_ hn hdb)
  refine PyProof.Rows.callWith_builtin1 (thn (ha.run pos pins s σ H (fun vs H1 => ∃ G1 ds, Ext G1 H1 ∧ Reps X.K G1 vs ds ∧ RG (Rep X.K) X.K (fun c d H' => W c d σ H') G1 H1 Q (g ds)) I ⟨G, ρ, e0, RG.bind h fun ds G1 vs H1 g r q => ⟨G1, ds, g.sub, r, q⟩⟩) fun us s1 ⟨vs, H1, I1, r1, G1, ds, e1, rr, q1⟩ => ?_) he hpl
  exact hc pins s1 σ G1 H1 vs us ds Q I1 r1 e1 rr q1
theorem me_callT {x : Str} {T : String} {es : List Expr} {g : List D → Res D} {ms : Ev → Res (List D)} (hc : CallM X W (.type T) g) (hg : Gl X x) (hm : X.mg x = none) (hv : bootBuiltins x = some (.type T)) (ha : PA X (e :: es) (tMA X.K B W ms))
    (hn : x ≠ "__name__" := by decide) (hdb : (x == ("__debug__" : Str)) = false := by decide)
    (he : starEach (e :: es) X.env = (false, eval e X.env) :: starEach es X.env := by rfl) (hpl : (backTo pos (starEach es X.env)).any (·.1) = false := by rfl) : PE X (.Call (.Name x p) (e :: es) [] pos) (tM X.K B W (mCall g ms)) := by
  refine ⟨fun pins s σ H Q I ⟨G, ρ, e0, h⟩ => ?_⟩
  refine wpAny_Call_Name_kw (ld_blt I hg hm hv ?_ hn hdb)
  refine PyProof.Rows.callWith_type1 (thn (ha.run pos pins s σ H (fun vs H1 => ∃ G1 ds, Ext G1 H1 ∧ Reps X.K G1 vs ds ∧ RG (Rep X.K) X.K (fun c d H' => W c d σ H') G1 H1 Q (g ds)) I ⟨G, ρ, e0, RG.bind h fun ds G1 vs H1 g r q => ⟨G1, ds, g.sub, r, q⟩⟩) fun us s1 ⟨vs, H1, I1, r1, G1, ds, e1, rr, q1⟩ => ?_) he hpl
  exact hc pins s1 σ G1 H1 vs us ds Q I1 r1 e1 rr q1
/-- a module's name for a built-in function -/
theorem me_callF {x : Str} {id : String} {es : List Expr} {g : List D → Res D} {ms : Ev → Res (List D)} (hc : CallM X W (.builtin id) g) (hg : Gl X x) (hm : X.mg x = some (.builtin id)) (ha : PA X (e :: es) (tMA X.K B W ms)) (hdb : (x == ("__debug__" : Str)) = false := by decide)
    (he : starEach (e :: es) X.env = (false, eval e X.env) :: starEach es X.env := by rfl) (hpl : (backTo pos (starEach es X.env)).any (·.1) = false := by rfl) : PE X (.Call (.Name x p) (e :: es) [] pos) (tM X.K B W (mCall g ms)) := by
  refine ⟨fun pins s σ H Q I ⟨G, ρ, e0, h⟩ => ?_⟩
  refine wpAny_Call_Name_kw (ld_glob I hg hm ?_ hdb)
  refine PyProof.Rows.callWith_builtin1 (thn (ha.run pos pins s σ H (fun vs H1 => ∃ G1 ds, Ext G1 H1 ∧ Reps X.K G1 vs ds ∧ RG (Rep X.K) X.K (fun c d H' => W c d σ H') G1 H1 Q (g ds)) I ⟨G, ρ, e0, RG.bind h fun ds G1 vs H1 g r q => ⟨G1, ds, g.sub, r, q⟩⟩) fun us s1 ⟨vs, H1, I1, r1, G1, ds, e1, rr, q1⟩ => ?_) he hpl
  exact hc pins s1 σ G1 H1 vs us ds Q I1 r1 e1 rr q1
end
def lenD : List D → Res D
  | [.lst xs] => .ok (.int xs.length)
  | [.tup xs] => .ok (.int xs.length)
  | [.str z] => chk (z.length ≤ sizeLine) (.ok (.int z.length))
  | _ => .stuck
def absD : List D → Res D
  | [.int i] => .ok (.int (if i < 0 then -i else i))
  | _ => .stuck
def intD : List D → Res D
  | [.int i] => .ok (.int i)
  | [.bl k] => .ok (.int (if k then 1 else 0))
  | _ => .stuck
def boolB : List D → Res D
  | [.int i] => .ok (.bl (i != 0))
  | [.bl k] => .ok (.bl k)
  | _ => .stuck
def listD : List D → Res D
  | [.lst xs] => .ok (.lst xs)
  | [.tup xs] => .ok (.lst xs)
  | _ => .stuck
def tupleD : List D → Res D
  | [.lst xs] => .ok (.tup xs)
  | [.tup xs] => .ok (.tup xs)
  | _ => .stuck
def gcdD : List D → Res D
  | [.int a, .int b] => .ok (.int ((Nat.gcd a.natAbs b.natAbs : Nat) : Int))
  | _ => .stuck
def strD : List D → Res D
  | [.int i] => chk (i.natAbs.log2 < 1920) (.ok (.str (toString i)))
  | [.str z] => .ok (.str z)
  | _ => .stuck
/-- all ints -/
def intsD : List D → Option (List Int)
  | [] => some []
  | .int i :: r => (intsD r).map (i :: ·)
  | _ => none
def blsD : List D → Option (List Bool)
  | [] => some []
  | .bl i :: r => (blsD r).map (i :: ·)
  | _ => none
def maxI : List Int → Int
  | [] => 0
  | [a] => a
  | a :: r => max a (maxI r)
def minI : List Int → Int
  | [] => 0
  | [a] => a
  | a :: r => min a (minI r)
def sumD : List D → Res D
  | [.lst xs] => ofOpt (intsD xs) >>= fun ns => .ok (.int ns.sum)
  | _ => .stuck
def maxD : List D → Res D
  | [.int i, .int j] => .ok (.int (if j > i then j else i))
  | [.lst xs] => ofOpt (intsD xs) >>= fun ns => chk (0 < ns.length) (.ok (.int (maxI ns)))
  | _ => .stuck
def minD : List D → Res D
  | [.int i, .int j] => .ok (.int (if j < i then j else i))
  | [.lst xs] => ofOpt (intsD xs) >>= fun ns => chk (0 < ns.length) (.ok (.int (minI ns)))
  | _ => .stuck
def anyD : List D → Res D
  | [.lst xs] => ofOpt (blsD xs) >>= fun ns => .ok (.bl (ns.any id))
  | _ => .stuck
def allD : List D → Res D
  | [.lst xs] => ofOpt (blsD xs) >>= fun ns => .ok (.bl (ns.all id))
  | _ => .stuck
theorem Reps.ints {K : PySem.W.Frag} {G : Hp} : ∀ {vs : List V} {ds : List D} {ns : List Int}, Reps K G vs ds → intsD ds = some ns → vs = ns.map V.int
  | _, _, _, .nil, h => by cases h; rfl
  | _, _, _, .cons (d := .int i) r t, h => by
    cases r
    obtain ⟨ms, hm, e⟩ := Option.map_eq_some_iff.mp (show (intsD _).map (i :: ·) = some _ from h)
    subst e
    rw [t.ints hm]
    rfl
  | _, _, _, .cons (d := .non) r t, h => nomatch (show (none : Option (List Int)) = some _ from h)
  | _, _, _, .cons (d := .bl _) r t, h => nomatch (show (none : Option (List Int)) = some _ from h)
  | _, _, _, .cons (d := .str _) r t, h => nomatch (show (none : Option (List Int)) = some _ from h)
  | _, _, _, .cons (d := .tup _) r t, h => nomatch (show (none : Option (List Int)) = some _ from h)
  | _, _, _, .cons (d := .lst _) r t, h => nomatch (show (none : Option (List Int)) = some _ from h)
  | _, _, _, .cons (d := .obj _ _) r t, h => nomatch (show (none : Option (List Int)) = some _ from h)
theorem Reps.bls {K : PySem.W.Frag} {G : Hp} : ∀ {vs : List V} {ds : List D} {ns : List Bool}, Reps K G vs ds → blsD ds = some ns → vs = ns.map V.bl
  | _, _, _, .nil, h => by cases h; rfl
  | _, _, _, .cons (d := .bl i) r t, h => by
    cases r
    obtain ⟨ms, hm, e⟩ := Option.map_eq_some_iff.mp (show (blsD _).map (i :: ·) = some _ from h)
    subst e
    rw [t.bls hm]
    rfl
  | _, _, _, .cons (d := .non) r t, h => nomatch (show (none : Option (List Bool)) = some _ from h)
  | _, _, _, .cons (d := .int _) r t, h => nomatch (show (none : Option (List Bool)) = some _ from h)
  | _, _, _, .cons (d := .str _) r t, h => nomatch (show (none : Option (List Bool)) = some _ from h)
  | _, _, _, .cons (d := .tup _) r t, h => nomatch (show (none : Option (List Bool)) = some _ from h)
  | _, _, _, .cons (d := .lst _) r t, h => nomatch (show (none : Option (List Bool)) = some _ from h)
  | _, _, _, .cons (d := .obj _ _) r t, h => nomatch (show (none : Option (List Bool)) = some _ from h)
theorem maxI_spec : ∀ {ns : List Int}, 0 < ns.length → ∀ m, m ∈ ns → (∀ y, y ∈ ns → y ≤ m) → m = maxI ns := by
  have key : ∀ {ns : List Int}, 0 < ns.length → maxI ns ∈ ns ∧ ∀ y, y ∈ ns → y ≤ maxI ns := by
    intro ns
    induction ns with
    | nil => intro h; cases h
    | cons a r ih =>
      intro _
      cases r with
      | nil => exact ⟨List.mem_cons_self, fun y hy => by
          rcases List.mem_cons.mp hy with h | h
          · rw [h]; exact Int.le_refl _
          · cases h⟩
      | cons b r =>
        obtain ⟨h1, h2⟩ := ih (Nat.succ_pos _)
        show max a (maxI (b :: r)) ∈ _ ∧ ∀ y, y ∈ _ → y ≤ max a (maxI (b :: r))
        refine ⟨?_, fun y hy => ?_⟩
        · rcases Int.le_total a (maxI (b :: r)) with h | h
          · rw [Int.max_eq_right h]; exact List.mem_cons_of_mem _ h1
          · rw [Int.max_eq_left h]; exact List.mem_cons_self
        · rcases List.mem_cons.mp hy with h | h
          · rw [h]; exact Int.le_max_left _ _
          · exact Int.le_trans (h2 y h) (Int.le_max_right _ _)
  intro ns h m hm ha
  obtain ⟨h1, h2⟩ := key h
  exact Int.le_antisymm (h2 m hm) (ha _ h1)
theorem minI_spec : ∀ {ns : List Int}, 0 < ns.length → ∀ m, m ∈ ns → (∀ y, y ∈ ns → m ≤ y) → m = minI ns := by
  have key : ∀ {ns : List Int}, 0 < ns.length → minI ns ∈ ns ∧ ∀ y, y ∈ ns → minI ns ≤ y := by
    intro ns
    induction ns with
    | nil => intro h; cases h
    | cons a r ih =>
      intro _
      cases r with
      | nil => exact ⟨List.mem_cons_self, fun y hy => by
          rcases List.mem_cons.mp hy with h | h
          · rw [h]; exact Int.le_refl _
          · cases h⟩
      | cons b r =>
        obtain ⟨h1, h2⟩ := ih (Nat.succ_pos _)
        show min a (minI (b :: r)) ∈ _ ∧ ∀ y, y ∈ _ → min a (minI (b :: r)) ≤ y
        refine ⟨?_, fun y hy => ?_⟩
        · rcases Int.le_total a (minI (b :: r)) with h | h
          · rw [Int.min_eq_left h]; exact List.mem_cons_self
          · rw [Int.min_eq_right h]; exact List.mem_cons_of_mem _ h1
        · rcases List.mem_cons.mp hy with h | h
          · rw [h]; exact Int.min_le_left _ _
          · exact Int.le_trans (Int.min_le_right _ _) (h2 y h)
  intro ns h m hm ha
  obtain ⟨h1, h2⟩ := key h
  exact Int.le_antisymm (ha _ h1) (h2 m hm)
section
variable {X : Cx} {W : WX}
theorem call_lenD : CallM X W (.builtin "len") lenD := CallM.of call_len fun G H xs ds Q E s r h => by
  cases r with
  | nil => exact h.elim
  | cons r t =>
    cases t with
    | cons _ _ => cases r <;> exact h.elim
    | nil =>
      cases r with
      | lst q rr => exact ⟨_, _, rfl, .inl ⟨_, .inl (s.rd q), rfl⟩, by rw [rr.length]; exact RG.here s h (.int _)⟩
      | tup q rr => exact ⟨_, _, rfl, .inr ⟨_, s.sqt q, rfl⟩, by rw [rr.length]; exact RG.here s h (.int _)⟩
      | str z =>
        obtain ⟨l, h⟩ := RG.chk h
        exact ⟨_, _, rfl, ⟨l, rfl⟩, RG.here s h (.int _)⟩
      | _ => exact h.elim
theorem call_absD : CallM X W (.builtin "abs") absD := CallM.of call_abs fun G H xs ds Q E s r h => by
  cases r with
  | nil => exact h.elim
  | cons r t =>
    cases t with
    | cons _ _ => cases r <;> exact h.elim
    | nil => cases r with
      | int i => exact ⟨i, rfl, RG.here s h (.int _)⟩
      | _ => exact h.elim
theorem call_intD : CallM X W (.type "int") intD := CallM.of call_int1 fun G H xs ds Q E s r h => by
  cases r with
  | nil => exact h.elim
  | cons r t =>
    cases t with
    | cons _ _ => cases r <;> exact h.elim
    | nil => cases r with
      | int i => exact .inl ⟨i, rfl, RG.here s h (.int _)⟩
      | bl k => exact .inr ⟨k, rfl, RG.here s h (.int _)⟩
      | _ => exact h.elim
theorem call_boolB : CallM X W (.type "bool") boolB := CallM.of call_bool1 fun G H xs ds Q E s r h => by
  cases r with
  | nil => exact h.elim
  | cons r t =>
    cases t with
    | cons _ _ => cases r <;> exact h.elim
    | nil => cases r with
      | int i => exact .inl ⟨i, rfl, RG.here s h (.bl _)⟩
      | bl k => exact .inr ⟨k, rfl, RG.here s h (.bl _)⟩
      | _ => exact h.elim
theorem call_listD : CallM X W (.type "list") listD := CallM.of call_list_of fun G H xs ds Q E s r h => by
  cases r with
  | nil => exact h.elim
  | cons r t =>
    cases t with
    | cons _ _ => cases r <;> exact h.elim
    | nil => cases r with
      | lst q rr => exact ⟨_, _, rfl, .inl (.inl (s.rd q)), RG.newL s h rr⟩
      | tup q rr => exact ⟨_, _, rfl, .inr (s.sqt q), RG.newL s h rr⟩
      | _ => exact h.elim
theorem call_tupleD : CallM X W (.type "tuple") tupleD := CallM.of call_tuple_of fun G H xs ds Q E s r h => by
  cases r with
  | nil => exact h.elim
  | cons r t =>
    cases t with
    | cons _ _ => cases r <;> exact h.elim
    | nil => cases r with
      | lst q rr => exact ⟨_, _, rfl, .inl ⟨.inl (s.rd q), RG.newT s h rr⟩⟩
      | tup q rr => exact ⟨_, _, rfl, .inr ⟨s.sqt q, RG.here s h (.tup q rr)⟩⟩
      | _ => exact h.elim
theorem call_gcdD : CallM X W (.builtin "math.gcd") gcdD := CallM.of cr_gcd fun G H xs ds Q E s r h => by
  cases r with
  | nil => exact h.elim
  | cons r t =>
    cases t with
    | nil => cases r <;> exact h.elim
    | cons r2 t =>
      cases t with
      | cons _ _ => cases r <;> cases r2 <;> exact h.elim
      | nil =>
        cases r with
        | int i => cases r2 with
          | int j => exact ⟨i, j, rfl, RG.here s h (.int _)⟩
          | _ => exact h.elim
        | _ => cases r2 <;> exact h.elim
theorem call_strD : CallM X W (.type "str") strD := fun pins s σ G H xs us ds Q I rx e r h => by
  cases r with
  | nil => exact h.elim
  | cons r t =>
    cases t with
    | cons _ _ => cases r <;> exact h.elim
    | nil => cases r with
      | int i =>
        obtain ⟨z, h⟩ := RG.chk h
        exact call_str_int pins s σ H _ us Q I rx ⟨i, rfl, z, RG.here e h (.str _)⟩
      | str z => exact SkE.call_str_str pins s σ H _ us Q I rx ⟨z, rfl, RG.here e h (.str _)⟩
      | _ => exact h.elim
theorem call_sumD (hc : X.calm = true) : CallM X W (.builtin "sum") sumD := CallM.of (cr_sum hc) fun G H xs ds Q E s r h => by
  cases r with
  | nil => exact h.elim
  | cons r t =>
    cases t with
    | cons _ _ => cases r <;> exact h.elim
    | nil => cases r with
      | lst q rr =>
        rename_i ds
        have h' : RG (Rep X.K) X.K E G H Q (ofOpt (intsD ds) >>= fun ns => .ok (.int ns.sum)) := h
        cases e : intsD ds with
        | none => rw [e] at h'; exact h'.elim
        | some ns =>
          rw [e] at h'
          have ev := rr.ints e
          subst ev
          exact ⟨_, ns, rfl, .inl (s.rd q), RG.here s h' (.int _)⟩
      | _ => exact h.elim
theorem call_anyD (hc : X.calm = true) : CallM X W (.builtin "any") anyD := CallM.of (cr_any hc) fun G H xs ds Q E s r h => by
  cases r with
  | nil => exact h.elim
  | cons r t =>
    cases t with
    | cons _ _ => cases r <;> exact h.elim
    | nil => cases r with
      | lst q rr =>
        rename_i ds
        have h' : RG (Rep X.K) X.K E G H Q (ofOpt (blsD ds) >>= fun ns => .ok (.bl (ns.any id))) := h
        cases e : blsD ds with
        | none => rw [e] at h'; exact h'.elim
        | some ns =>
          rw [e] at h'
          have ev := rr.bls e
          subst ev
          exact ⟨_, ns, rfl, .inl (s.rd q), RG.here s h' (.bl _)⟩
      | _ => exact h.elim
theorem call_allD (hc : X.calm = true) : CallM X W (.builtin "all") allD := CallM.of (cr_all hc) fun G H xs ds Q E s r h => by
  cases r with
  | nil => exact h.elim
  | cons r t =>
    cases t with
    | cons _ _ => cases r <;> exact h.elim
    | nil => cases r with
      | lst q rr =>
        rename_i ds
        have h' : RG (Rep X.K) X.K E G H Q (ofOpt (blsD ds) >>= fun ns => .ok (.bl (ns.all id))) := h
        cases e : blsD ds with
        | none => rw [e] at h'; exact h'.elim
        | some ns =>
          rw [e] at h'
          have ev := rr.bls e
          subst ev
          exact ⟨_, ns, rfl, .inl (s.rd q), RG.here s h' (.bl _)⟩
      | _ => exact h.elim
theorem call_maxD (hc : X.calm = true) : CallM X W (.builtin "max") maxD := fun pins s σ G H xs us ds Q I rx e r h => by
  cases r with
  | nil => exact h.elim
  | cons r t =>
    cases t with
    | nil => cases r with
      | lst q rr =>
        rename_i ds
        have h' : RG (Rep X.K) X.K (fun c d H' => W c d σ H') G H Q (ofOpt (intsD ds) >>= fun ns => chk (0 < ns.length) (.ok (.int (maxI ns)))) := h
        cases e1 : intsD ds with
        | none => rw [e1] at h'; exact h'.elim
        | some ns =>
          rw [e1, ofOpt_some, ok_bind] at h'
          obtain ⟨z, h'⟩ := RG.chk h'
          have ev := rr.ints e1
          subst ev
          exact cr_max hc pins s σ H _ us Q I rx ⟨_, ns, rfl, .inl (e.rd q), z, fun m hm ha => by rw [maxI_spec z m hm ha]; exact RG.here e h' (.int _)⟩
      | _ => exact h.elim
    | cons r2 t =>
      cases t with
      | cons _ _ => cases r <;> cases r2 <;> exact h.elim
      | nil =>
        cases r with
        | int i => cases r2 with
          | int j => exact call_max2 hc pins s σ H _ us Q I rx ⟨i, j, rfl, RG.here e h (.int _)⟩
          | _ => exact h.elim
        | _ => cases r2 <;> exact h.elim
theorem call_minD (hc : X.calm = true) : CallM X W (.builtin "min") minD := fun pins s σ G H xs us ds Q I rx e r h => by
  cases r with
  | nil => exact h.elim
  | cons r t =>
    cases t with
    | nil => cases r with
      | lst q rr =>
        rename_i ds
        have h' : RG (Rep X.K) X.K (fun c d H' => W c d σ H') G H Q (ofOpt (intsD ds) >>= fun ns => chk (0 < ns.length) (.ok (.int (minI ns)))) := h
        cases e1 : intsD ds with
        | none => rw [e1] at h'; exact h'.elim
        | some ns =>
          rw [e1, ofOpt_some, ok_bind] at h'
          obtain ⟨z, h'⟩ := RG.chk h'
          have ev := rr.ints e1
          subst ev
          exact cr_min hc pins s σ H _ us Q I rx ⟨_, ns, rfl, .inl (e.rd q), z, fun m hm ha => by rw [minI_spec z m hm ha]; exact RG.here e h' (.int _)⟩
      | _ => exact h.elim
    | cons r2 t =>
      cases t with
      | cons _ _ => cases r <;> cases r2 <;> exact h.elim
      | nil =>
        cases r with
        | int i => cases r2 with
          | int j => exact call_min2 hc pins s σ H _ us Q I rx ⟨i, j, rfl, RG.here e h (.int _)⟩
          | _ => exact h.elim
        | _ => cases r2 <;> exact h.elim
/-- by an own method of the class (len: __len__, abs: __abs__) -/
def ownF (base : List D → Res D) (ps : Cl → Option (List D → Res D)) : List D → Res D
  | [.obj c fs] => ofOpt (ps c) >>= fun g => g [.obj c fs]
  | ds => base ds
end
end PL
namespace PL
open PySem PySem.Spec L2
open PyProof.Rows (b2i)
def Out.opt : Option Ev → Out
  | some ρ => .nx ρ
  | none => .stuck
@[simp] theorem Out.opt_some (ρ : Ev) : Out.opt (some ρ) = .nx ρ := rfl
section
variable {X : Cx} {B : Base} {W : WX} {st : Stmt} {rest body : List Stmt} {e c : Expr} {m : Ev → Res D} {t : Ev → Res Bool} {o o' : Ev → Out} {pos p' : Pos}
theorem ms_nil : PSs X [] (tS X.K B W .nx) := PSs.imp pss_nil fun Dn σ H ⟨G, ρ, e, q⟩ => q G σ H e
theorem ms_cons (h1 : PS X st (tS X.K B W o)) (h2 : PSs X rest (tS X.K B W o')) : PSs X (st :: rest) (tS X.K B W fun ρ => (o ρ).then o') :=
  PSs.imp (pss_cons h1 h2) fun Dn σ H ⟨G, ρ, e, q⟩ => ⟨G, ρ, e, SG.then q fun ρ' G σ H e q => ⟨G, ρ', e, q⟩⟩
theorem ms_one (h1 : PS X st (tS X.K B W o)) : PSs X [st] (tS X.K B W o) := pss_one h1
theorem ms_frz (i : Nat) (h : PSs X rest (tS X.K B W o)) : PSs X rest (tS X.K B W fun ρ => o (freeze i ρ)) := PSs.imp h fun Dn σ H ⟨G, ρ, e, q⟩ =>
  let ⟨G', e', _⟩ := e.freeze i
  ⟨G', _, e', q⟩
theorem ms_frz1 (i : Nat) (h : PS X st (tS X.K B W o)) : PS X st (tS X.K B W fun ρ => o (freeze i ρ)) := PS.imp h fun Dn σ H ⟨G, ρ, e, q⟩ =>
  let ⟨G', e', _⟩ := e.freeze i
  ⟨G', _, e', q⟩
theorem ms_fgt (i : Nat) (h : PSs X rest (tS X.K B W o)) : PSs X rest (tS X.K B W fun ρ => o (ρ.set i .no)) := PSs.imp h fun Dn σ H ⟨G, ρ, e, q⟩ => ⟨G, _, e.forget i, q⟩
theorem ms_stuck : PS X st (tS X.K B W fun _ => .stuck) := PS.imp ps_never fun _ _ _ ⟨_, _, _, q⟩ => q.elim
theorem mss_stuck : PSs X rest (tS X.K B W fun _ => .stuck) := PSs.imp pss_never fun _ _ _ ⟨_, _, _, q⟩ => q.elim
theorem me_stuck : PE X e (tM X.K B W fun _ => .stuck) := ⟨fun _ _ _ _ _ _ ⟨_, _, _, q⟩ => q.elim⟩
theorem mt_stuck : PT X e (tMT X.K B W fun _ => .stuck) := ⟨fun _ _ _ _ _ _ ⟨_, _, _, q⟩ => q.elim⟩
theorem ms_pass : PS X (.Pass pos) (tS X.K B W .nx) := PS.imp ps_pass fun Dn σ H ⟨G, ρ, e, q⟩ => q G σ H e
theorem ms_break : PS X (.Break pos) (tS X.K B W .bk) := PS.imp ps_break fun Dn σ H ⟨G, ρ, e, q⟩ => q G σ H e
theorem ms_continue : PS X (.Continue pos) (tS X.K B W .ct) := PS.imp ps_continue fun Dn σ H ⟨G, ρ, e, q⟩ => q G σ H e
def oExpr (m : Ev → Res D) : Ev → Out := fun ρ => Out.of (m ρ) ρ fun _ => .nx ρ
theorem ms_expr (he : PE X e (tM X.K B W m)) (hs : swapsWith e none pos.line X.env = pure false := by rfl) : PS X (.Expr e pos) (tS X.K B W (oExpr m)) :=
  PS.imp (ps_expr he hs) fun Dn σ H ⟨G, ρ, e, q⟩ => ⟨G, ρ, e, SG.of e q fun a G1 v H1 _ g e1 r q1 => q1 G1 σ H1 e1⟩
def oRet (m : Ev → Res D) : Ev → Out := fun ρ => Out.of (m ρ) ρ fun d => .rt d ρ
theorem ms_ret (hf : B.fr = 0) (he : PE X e (tM X.K B W m)) : PS X (.Return (some e) pos) (tS X.K B W (oRet m)) :=
  PS.imp (ps_ret he) fun Dn σ H ⟨G, ρ, e, q⟩ => ⟨G, ρ, e, SG.of e q fun a G1 v H1 _ g e1 r q1 => q1 G1 σ H1 v (.ofDat hf e1 r)⟩
def oRetN : Ev → Out := fun ρ => .rt .non ρ
theorem ms_retN (hf : B.fr = 0) : PS X (.Return none pos) (tS X.K B W oRetN) := PS.imp ps_retN fun Dn σ H ⟨G, ρ, e, q⟩ => q G σ H .non (.ofDat hf e .non)
def oIf (t : Ev → Res Bool) (a b : Ev → Out) : Ev → Out := fun ρ => Out.of (t ρ) ρ fun k => if k = true then a ρ else b ρ
theorem ms_if {a b : List Stmt} {oa ob : Ev → Out} (hc : PT X c (tMT X.K B W t)) (ha : PSs X a (tS X.K B W oa)) (hb : PSs X b (tS X.K B W ob)) : PS X (.If c a b pos) (tS X.K B W (oIf t oa ob)) :=
  PS.imp (ps_if hc ha hb) fun Dn σ H ⟨G, ρ, e, q⟩ => ⟨G, ρ, e, SG.of e q fun k G1 v H1 _ g e1 r q1 => by
    have r' : v = k := r
    subst r'
    cases v with
    | true => exact ⟨G1, ρ, e1, q1⟩
    | false => exact ⟨G1, ρ, e1, q1⟩⟩
/-- name = e -/
def oSet (i : Nat) (m : Ev → Res D) : Ev → Out := fun ρ => Out.of (m ρ) ρ fun d => .nx (ρ.set i (.dat d))
theorem ms_set (i : Nat) {x : Str} (he : PE X e (tM X.K B W m)) (hN : X.N.Nodup := by decide) (hi : X.N[i]? = some x := by rfl) (hx : Loc X.env.scope x := by first | exact .inl rfl | exact .inr rfl) (hs : swapsWith e (some (.Name x p')) pos.line X.env = pure false := by rfl)
    (hf : X.fn x = true ∨ X.env.scope.names.lookup x = some .local := by first | exact .inl rfl | exact .inr rfl) : PS X (.Assign [.Name x p'] e pos) (tS X.K B W (oSet i m)) :=
  PS.imp (ps_set hN hi hx he hs hf) fun Dn σ H ⟨G, ρ, e, q⟩ => ⟨G, ρ, e, SG.of e q fun d G1 v H1 _ g e1 r q1 => q1 G1 _ H1 (e1.setDat i r)⟩
end
/-- the slots js are written -/
def gM (K : PySem.W.Frag) (B : Base) (js : List Nat) (f : D → Ev → Option Ev) : TG := fun v σ H Q => ∃ G d ρ ρ', EnvOk K B G σ ρ H ∧ Rep K G v d ∧ f d ρ = some ρ' ∧ ∀ σ', EnvOk K B G σ' ρ' H → σ'.length = σ.length → (∀ j, j ∉ js → σ'[j]? = σ[j]?) → Q σ' H
def gMs (K : PySem.W.Frag) (B : Base) (js : List Nat) (f : List D → Ev → Option Ev) : TGs := fun vs σ H Q => ∃ G ds ρ ρ', EnvOk K B G σ ρ H ∧ Reps K G vs ds ∧ f ds ρ = some ρ' ∧ ∀ σ', EnvOk K B G σ' ρ' H → σ'.length = σ.length → (∀ j, j ∉ js → σ'[j]? = σ[j]?) → Q σ' H
theorem PG.imp {X : Cx} {tg : Expr} {t t' : TG} (h : PG X tg t) (k : ∀ v σ H Q, t' v σ H Q → t v σ H Q) : PG X tg t' := ⟨fun pins s σ H v u Q I r q => h.run pins s σ H v u Q I r (k v σ H Q q)⟩
theorem PGs.imp {X : Cx} {tg : List Expr} {t t' : TGs} (h : PGs X tg t) (k : ∀ v σ H Q, t' v σ H Q → t v σ H Q) : PGs X tg t' := ⟨fun pins s σ H v u Q I r q => h.run pins s σ H v u Q I r (k v σ H Q q)⟩
abbrev GP (X : Cx) (B : Base) (tg : Expr) (js : List Nat) (f : D → Ev → Option Ev) : Prop := PG X tg (gM X.K B js f)
structure GPs (X : Cx) (B : Base) (ts : List Expr) (js : List Nat) (f : List D → Ev → Option Ev) : Prop where
  len : ∀ ds ρ ρ', f ds ρ = some ρ' → ds.length = ts.length
  run : PGs X ts (gMs X.K B js f)
@[simp] def gN (i : Nat) : D → Ev → Option Ev := fun d ρ => some (ρ.set i (.dat d))
@[simp] def gNi : List D → Ev → Option Ev
  | [], ρ => some ρ
  | _, _ => none
@[simp] def gCo (f : D → Ev → Option Ev) (fs : List D → Ev → Option Ev) : List D → Ev → Option Ev
  | d :: ds, ρ => (f d ρ).bind (fs ds)
  | _, _ => none
@[simp] def gTu (fs : List D → Ev → Option Ev) : D → Ev → Option Ev
  | .tup ds, ρ => fs ds ρ
  | _, _ => none
section
variable {X : Cx} {B : Base} {W : WX} {pos : Pos}
theorem gp_name (i : Nat) {x : Str} (hN : X.N.Nodup := by decide) (hi : X.N[i]? = some x := by rfl) (hx : Loc X.env.scope x := by first | exact .inl rfl | exact .inr rfl) (hf : X.fn x = true ∨ X.env.scope.names.lookup x = some .local := by first | exact .inl rfl | exact .inr rfl) : GP X B (.Name x pos) [i] (gN i) :=
  PG.imp (pg_name hN hi hx hf) fun v σ H Q ⟨G, d, ρ, ρ', e, r, q, k⟩ => by
    cases q
    exact k _ (e.setDat i r) (List.length_set ..) fun j hj => List.getElem?_set_ne fun z => hj (by rw [z]; exact List.mem_cons_self)
theorem gp_nil : GPs X B [] [] gNi := ⟨fun ds ρ ρ' q => (by cases ds <;> first | rfl | (cases q)), PGs.imp pgs_nil fun vs σ H Q ⟨G, ds, ρ, ρ', e, r, q, k⟩ => by
  cases r with
  | nil => cases q; exact ⟨rfl, k _ e rfl fun _ _ => rfl⟩
  | cons _ _ => cases q⟩
theorem gp_cons {t : Expr} {ts : List Expr} {js ks : List Nat} {f : D → Ev → Option Ev} {fs : List D → Ev → Option Ev} (h1 : GP X B t js f) (h2 : GPs X B ts ks fs) (hs : (assignEach (t :: ts) X.env).map (·.2) = assign t X.env :: (assignEach ts X.env).map (·.2) := by rfl) : GPs X B (t :: ts) (js ++ ks) (gCo f fs) := by
  refine ⟨fun ds ρ ρ' q => ?_, PGs.imp (pgs_cons h1 h2.run hs) fun vs σ H Q ⟨G, ds, ρ, ρ', e, r, q, k⟩ => ?_⟩
  · cases ds with
    | nil => cases q
    | cons d ds =>
      obtain ⟨ρ1, e1, e2⟩ := Option.bind_eq_some_iff.mp (show (f d ρ).bind (fs ds) = some ρ' from q)
      rw [List.length_cons, List.length_cons, h2.len _ _ _ e2]
  · cases r with
    | nil => cases q
    | @cons v d vs ds r rr =>
      obtain ⟨ρ1, e1, e2⟩ := Option.bind_eq_some_iff.mp (show (f d ρ).bind (fs ds) = some ρ' from q)
      exact ⟨v, vs, rfl, G, d, ρ, ρ1, e, r, e1, fun σ' e' l1 o1 => ⟨G, ds, ρ1, ρ', e', rr, e2, fun σ2 e3 l2 o2 => k σ2 e3 (l2.trans l1) fun j hj => (o2 j fun z => hj (List.mem_append_right _ z)).trans (o1 j fun z => hj (List.mem_append_left _ z))⟩⟩
theorem gp_tup {es : List Expr} {k : Nat} {js : List Nat} {fs : List D → Ev → Option Ev} (hc : X.calm = true) (h : GPs X B es js fs) (hn : (assignEach es X.env).length = es.length := by rfl) (hst : (assignEach es X.env).findIdx? (·.1) = none := by rfl) : GP X B (.Tuple es k pos) js (gTu fs) :=
  PG.imp (pg_tup hc h.run hn hst) fun v σ H Q ⟨G, d, ρ, ρ', e, r, q, kk⟩ => by
    cases r with
    | tup s r => exact ⟨_, _, rfl, e.sub.sqt s, by rw [r.length]; exact h.len _ _ _ q, G, _, ρ, ρ', e, r, q, kk⟩
    | _ => cases q
/-- target = e -/
def oAsg (f : D → Ev → Option Ev) (m : Ev → Res D) : Ev → Out := fun ρ => Out.of (m ρ) ρ fun d => Out.opt (f d ρ)
theorem SG.opt {K : PySem.W.Frag} {Dn : Ends} {o : Option Ev} (h : SG K B W Dn (Out.opt o)) : ∃ ρ, o = some ρ ∧ SG K B W Dn (.nx ρ) := by
  cases o with
  | none => exact h.elim
  | some ρ => exact ⟨ρ, rfl, h⟩
theorem ms_asg {tg e : Expr} {js : List Nat} {f : D → Ev → Option Ev} {m : Ev → Res D} (hg : GP X B tg js f) (he : PE X e (tM X.K B W m)) (hs : swapsWithSole [tg] e pos.line X.env = pure false := by rfl) (hw : swappedStores [tg] e X.env = pure none := by rfl)
    (h1 : (assignEach [tg] X.env).map (·.2) = [assign tg X.env] := by rfl) : PS X (.Assign [tg] e pos) (tS X.K B W (oAsg f m)) :=
  PS.imp (ps_asg he hg hs hw h1) fun Dn σ H ⟨G, ρ, e, q⟩ => ⟨G, ρ, e, SG.of e q fun d G1 v H1 _ g1 e1 r q1 => by
    obtain ⟨ρ', e2, q2⟩ := SG.opt q1
    exact ⟨G1, d, ρ, ρ', e1, r, e2, fun σ' e' _ _ => q2 G1 σ' H1 e'⟩⟩
/-- a, b = x, y -/
def o2 (i j : Nat) (ms : Ev → Res (List D)) : Ev → Out := fun ρ => Out.of (ms ρ) ρ fun ds => match ds with
  | [a, b] => .nx ((ρ.set i (.dat a)).set j (.dat b))
  | _ => .stuck
def o3 (i j l : Nat) (ms : Ev → Res (List D)) : Ev → Out := fun ρ => Out.of (ms ρ) ρ fun ds => match ds with
  | [a, b, c] => .nx (((ρ.set i (.dat a)).set j (.dat b)).set l (.dat c))
  | _ => .stuck
theorem ms_par (i j : Nat) {x y : Str} {a b : Expr} {ms : Ev → Res (List D)} {px py pt : Pos} {kt k2 pt2} (hc : X.calm = true) (ha : PA X [a, b] (tMA X.K B W ms)) (hij : i ≠ j := by decide) (hN : X.N.Nodup := by decide) (hi : X.N[i]? = some x := by rfl) (hj : X.N[j]? = some y := by rfl)
    (hx : X.env.scope.names.lookup x = some .local := by rfl) (hy : X.env.scope.names.lookup y = some .local := by rfl)
    (hw : swappedStores [.Tuple [.Name x px, .Name y py] kt pt] (.Tuple [a, b] k2 pt2) X.env = pure (some [x, y]) := by rfl)
    (hs : swapsWithSole [.Tuple [.Name x px, .Name y py] kt pt] (.Tuple [a, b] k2 pt2) pos.line X.env = pure false := by rfl) :
    PS X (.Assign [.Tuple [.Name x px, .Name y py] kt pt] (.Tuple [a, b] k2 pt2) pos) (tS X.K B W (o2 i j ms)) :=
  PS.imp (ps_par hc hN hi hj hij hx hy ha hw hs) fun Dn σ H ⟨G, ρ, e, q⟩ => ⟨G, ρ, e, SG.of e q fun ds G1 vs H1 _ g1 e1 r q1 => by
    cases r with
    | nil => exact q1.elim
    | cons r1 r =>
      cases r with
      | nil => exact q1.elim
      | cons r2 r =>
        cases r with
        | nil => exact ⟨_, _, rfl, q1 G1 _ H1 ((e1.setDat i r1).setDat j r2)⟩
        | cons _ _ => exact q1.elim⟩
theorem ms_par3 (i j l : Nat) {x y z : Str} {a b c : Expr} {ms : Ev → Res (List D)} {px py pz pt : Pos} {kt k2 pt2} (hc : X.calm = true) (ha : PA X [a, b, c] (tMA X.K B W ms)) (hij : i ≠ j := by decide) (hil : i ≠ l := by decide) (hjl : j ≠ l := by decide) (hN : X.N.Nodup := by decide)
    (hi : X.N[i]? = some x := by rfl) (hj : X.N[j]? = some y := by rfl) (hl : X.N[l]? = some z := by rfl)
    (hx : X.env.scope.names.lookup x = some .local := by rfl) (hy : X.env.scope.names.lookup y = some .local := by rfl) (hz : X.env.scope.names.lookup z = some .local := by rfl)
    (hw : swappedStores [.Tuple [.Name x px, .Name y py, .Name z pz] kt pt] (.Tuple [a, b, c] k2 pt2) X.env = pure (some [x, y, z]) := by rfl)
    (hs : swapsWithSole [.Tuple [.Name x px, .Name y py, .Name z pz] kt pt] (.Tuple [a, b, c] k2 pt2) pos.line X.env = pure false := by rfl) :
    PS X (.Assign [.Tuple [.Name x px, .Name y py, .Name z pz] kt pt] (.Tuple [a, b, c] k2 pt2) pos) (tS X.K B W (o3 i j l ms)) :=
  PS.imp (ps_par3 hc hN hi hj hl hij hil hjl hx hy hz ha hw hs) fun Dn σ H ⟨G, ρ, e, q⟩ => ⟨G, ρ, e, SG.of e q fun ds G1 vs H1 _ g1 e1 r q1 => by
    cases r with
    | nil => exact q1.elim
    | cons r1 r =>
      cases r with
      | nil => exact q1.elim
      | cons r2 r =>
        cases r with
        | nil => exact q1.elim
        | cons r3 r =>
          cases r with
          | nil => exact ⟨_, _, _, rfl, q1 G1 _ H1 (((e1.setDat i r1).setDat j r2).setDat l r3)⟩
          | cons _ _ => exact q1.elim⟩
end
def ItOk (K : PySem.W.Frag) (G1 : Hp) (J : It) (ds : List D) : Prop :=
  ∀ (i : Nat) (G H : Hp), Ext G1 G → Ext G H → (ds.length ≤ i → J.stop i H) ∧ ∀ d, ds[i]? = some d → J.go i H ∧ ∀ x H', J.yld i H x H' → ∃ G', Grow G H G' H' ∧ Rep K G' x d
abbrev IP (X : Cx) (B : Base) (W : WX) (tg iter : Expr) (m : Ev → Res (List D)) : Prop := PI X tg iter (tG (ItOk X.K) X.K B W m)
theorem PI.imp {X : Cx} {tg iter : Expr} {t t' : TI} (h : PI X tg iter t) (k : ∀ σ H R, t' σ H R → t σ H R) : PI X tg iter t' := ⟨fun pins s σ H R I q => h.run pins s σ H R I (k σ H R q)⟩
/-- items that are data at hand -/
theorem itOk_at {K : PySem.W.Frag} {G1 : Hp} {J : It} {vs : List V} {ds : List D} (r : Reps K G1 vs ds) (hs : ∀ i G H, Ext G1 G → Ext G H → vs.length ≤ i → J.stop i H) (hg : ∀ i G H v, Ext G1 G → Ext G H → vs[i]? = some v → J.go i H ∧ ∀ x H', J.yld i H x H' → H' = H ∧ x = v) : ItOk K G1 J ds := by
  refine fun i G H e1 e2 => ⟨fun h => hs i G H e1 e2 (by rw [r.length]; exact h), fun d hd => ?_⟩
  obtain ⟨v, hv, rv⟩ := r.getD hd
  obtain ⟨k1, k2⟩ := hg i G H v e1 e2 hv
  refine ⟨k1, fun x H' y => ?_⟩
  obtain ⟨rfl, rfl⟩ := k2 x H' y
  exact ⟨G, .refl e2, rv.mono e1⟩
def itD : D → Res (List D)
  | .lst xs => .ok xs
  | .tup xs => .ok xs
  | _ => .stuck
def iMap (f : D → Res (List D)) (m : Ev → Res D) : Ev → Res (List D) := fun ρ => m ρ >>= f
def iMapA (f : List D → Res (List D)) (m : Ev → Res (List D)) : Ev → Res (List D) := fun ρ => m ρ >>= f
section
variable {X : Cx} {B : Base} {W : WX} {tg : Expr} {pos : Pos}
/-- the list, the tuple of e -/
theorem pi_seq {l : Expr} {tl : TE} (hl : PE X l tl) : PI X tg l (fun σ H R => tl σ H fun x H1 => ∃ a, x = .ref a ∧ (((∃ xs, SqL X.K H1 a xs) ∧ R (Itl X.K a) H1) ∨ ((∃ xs, SqT X.K H1 a xs) ∧ R (Itt X.K a) H1))) := by
  refine ⟨fun pins s σ H R I h => ?_⟩
  refine thn (hl.run pins s σ H _ I h) fun v s1 ⟨x, H1, I1, r1, q1⟩ => ?_
  obtain ⟨a, e, q⟩ := q1
  subst e
  cases r1
  have fp : ∀ b ∈ [s1.heap.objs.size], FpOk X pins H1 b := fun b hb => by
    have e : b = s1.heap.objs.size := by simpa using hb
    subst e
    exact I1.fpOk (Nat.le_refl _) (I1.hok.fresh (Nat.le_refl _))
  rcases q with ⟨⟨xs, hq⟩, q⟩ | ⟨⟨xs, hq⟩, q⟩
  · obtain ⟨its, rv, p, hz⟩ := I1.list hq
    refine wpAny_pyIter_list p.isList ?_
    exact ⟨s1.heap.objs.size, [s1.heap.objs.size], _, _, H1, rfl, I1.kept (t' := s1.toks) fun b o e => Heap.get?_push_of_some _ e, turn_list a _, ⟨_, Heap.get?_push_size _ rfl, rfl, rfl⟩, fp, q⟩
  · obtain ⟨its, rv, p, hz⟩ := I1.tuple hq
    refine wpAny_pyIter_tuple (show s1.heap.IsTuple a its.toArray from p) ?_
    exact ⟨s1.heap.objs.size, [s1.heap.objs.size], _, _, H1, rfl, I1.kept (t' := s1.toks) fun b o e => Heap.get?_push_of_some _ e, turn_tuple a _, ⟨_, Heap.get?_push_size _ rfl, rfl, rfl⟩, fp, q⟩
theorem itOk_list {K : PySem.W.Frag} {G1 : Hp} {a : Addr} {vs : List V} {ds : List D} (h : Rd G1 a (.lst vs)) (r : Reps K G1 vs ds) : ItOk K G1 (Itl K a) ds :=
  itOk_at r (fun i G H e1 e2 hl => ⟨vs, .inl (e2.rd (e1.rd h)), hl⟩) fun i G H v e1 e2 hv => ⟨⟨vs, v, .inl (e2.rd (e1.rd h)), hv⟩, fun x H' ⟨y1, y2⟩ => ⟨y1, by
    have z := y2 vs (.inl (e2.rd (e1.rd h)))
    rw [hv] at z
    exact (Option.some.inj z).symm⟩⟩
theorem itOk_tup {K : PySem.W.Frag} {G1 : Hp} {a : Addr} {vs : List V} {ds : List D} (h : SqT K G1 a vs) (r : Reps K G1 vs ds) : ItOk K G1 (Itt K a) ds :=
  itOk_at r (fun i G H e1 e2 hl => ⟨vs, e2.sqt (e1.sqt h), hl⟩) fun i G H v e1 e2 hv => ⟨⟨vs, v, e2.sqt (e1.sqt h), hv⟩, fun x H' ⟨y1, y2⟩ => ⟨y1, by
    have z := y2 vs (e2.sqt (e1.sqt h))
    rw [hv] at z
    exact (Option.some.inj z).symm⟩⟩
theorem ip_seq {e : Expr} {m : Ev → Res D} (he : PE X e (tM X.K B W m)) : IP X B W tg e (iMap itD m) :=
  PI.imp (pi_seq he) fun σ H R ⟨G, ρ, e0, q⟩ => ⟨G, ρ, e0, RG.bind q fun d G1 v H1 g r q1 => by
    cases r with
    | lst h r => exact ⟨_, rfl, .inl ⟨⟨_, .inl (g.sub.rd h)⟩, q1 G1 _ H1 (.refl g.sub) (itOk_list h r)⟩⟩
    | tup h r => exact ⟨_, rfl, .inr ⟨⟨_, g.sub.sqt h⟩, q1 G1 _ H1 (.refl g.sub) (itOk_tup h r)⟩⟩
    | _ => exact q1.elim⟩
def rngL (lo : Int) (n : Nat) : List D := (List.range n).map fun i => .int (lo + (i : Nat))
def rng1 : List D → Res (List D)
  | [.int j] => chk (-(2 ^ 62) ≤ j ∧ j < 2 ^ 62) (.ok (rngL 0 j.toNat))
  | _ => .stuck
def rng2 : List D → Res (List D)
  | [.int i, .int j] => chk (-(2 ^ 62) ≤ i ∧ i < 2 ^ 62 ∧ -(2 ^ 62) ≤ j ∧ j < 2 ^ 62) (.ok (rngL i (j - i).toNat))
  | _ => .stuck
theorem itOk_rng {K : PySem.W.Frag} {G1 : Hp} (lo : Int) (n : Nat) : ItOk K G1 (Itr lo n) (rngL lo n) := by
  refine fun i G H e1 e2 => ⟨fun h => by
    have h' : n ≤ i := by simpa [rngL] using h
    exact h', fun d hd => ?_⟩
  have hi : i < n := by
    have := (List.getElem?_eq_some_iff.mp hd).1
    simpa [rngL] using this
  have hd' : d = .int (lo + (i : Nat)) := by
    unfold rngL at hd
    rw [List.getElem?_map, List.getElem?_range hi] at hd
    exact (Option.some.inj hd).symm
  subst hd'
  refine ⟨hi, fun x H' y => ?_⟩
  obtain ⟨rfl, rfl⟩ := y
  exact ⟨G, .refl e2, .int _⟩
theorem ip_range1 {a : Expr} {ms : Ev → Res (List D)} {p : Pos} (ha : PA X [a] (tMA X.K B W ms)) (hg : Gl X "range") (hm : X.mg "range" = none) (hs : starEach [a] X.env = [(false, eval a X.env)] := by rfl) : IP X B W tg (.Call (.Name "range" p) [a] [] pos) (iMapA rng1 ms) :=
  PI.imp (pi_range1 hg hm ha hs) fun σ H R ⟨G, ρ, e0, q⟩ => ⟨G, ρ, e0, RG.bind q fun ds G1 vs H1 g r q1 => by
    cases r with
    | nil => exact q1.elim
    | cons r t =>
      cases t with
      | nil =>
        cases r with
        | int j =>
          obtain ⟨z, q1⟩ := RG.chk q1
          exact ⟨j, rfl, z.1, z.2, q1 G1 _ H1 (.refl g.sub) (itOk_rng _ _)⟩
        | _ => exact q1.elim
      | cons r2 t => cases r <;> exact q1.elim⟩
theorem ip_range2 {a b : Expr} {ms : Ev → Res (List D)} {p : Pos} (ha : PA X [a, b] (tMA X.K B W ms)) (hg : Gl X "range") (hm : X.mg "range" = none) (hs : starEach [a, b] X.env = [(false, eval a X.env), (false, eval b X.env)] := by rfl) (hs2 : starEach [b] X.env = [(false, eval b X.env)] := by rfl) :
    IP X B W tg (.Call (.Name "range" p) [a, b] [] pos) (iMapA rng2 ms) :=
  PI.imp (pi_range2 hg hm ha hs hs2) fun σ H R ⟨G, ρ, e0, q⟩ => ⟨G, ρ, e0, RG.bind q fun ds G1 vs H1 g r q1 => by
    cases r with
    | nil => exact q1.elim
    | cons r t =>
      cases t with
      | nil => cases r <;> exact q1.elim
      | cons r2 t =>
        cases t with
        | nil =>
          cases r with
          | int i =>
            cases r2 with
            | int j =>
              obtain ⟨z, q1⟩ := RG.chk q1
              exact ⟨i, j, rfl, z, q1 G1 _ H1 (.refl g.sub) (itOk_rng _ _)⟩
            | _ => exact q1.elim
          | _ => cases r2 <;> exact q1.elim
        | cons r3 t => cases r <;> cases r2 <;> exact q1.elim⟩
def zipL : List D → List D → List D
  | a :: as, b :: bs => .tup [a, b] :: zipL as bs
  | _, _ => []
def zipD : List D → Res (List D)
  | [.lst a, .lst b] => .ok (zipL a b)
  | [.tup a, .tup b] => .ok (zipL a b)
  | _ => .stuck
theorem zipL_get : ∀ (as bs : List D) (i : Nat), (zipL as bs)[i]? = (match as[i]?, bs[i]? with
    | some a, some b => some (.tup [a, b])
    | _, _ => none)
  | [], _, i => by cases i <;> rfl
  | a :: as, [], i => by
    show ([] : List D)[i]? = _
    cases h : (a :: as)[i]? <;> simp
  | a :: as, b :: bs, 0 => rfl
  | a :: as, b :: bs, i + 1 => by
    show (zipL as bs)[i]? = _
    rw [zipL_get as bs i]
    rfl
theorem zip_item {K : PySem.W.Frag} {G H : Hp} {T : Addr} {x y : V} {d c : D} (s : Ext G H) (hT : H T = none) (r1 : Rep K G x d) (r2 : Rep K G y c) : ∃ G', Grow G H G' (upd H T (.tup [x, y])) ∧ Rep K G' (.ref T) (.tup [d, c]) :=
  ⟨_, .laid s hT _, .tup (.of upd_same) (.cons (r1.mono (.upd (s.free hT))) (.cons (r2.mono (.upd (s.free hT))) .nil))⟩
theorem itOk_zip {K : PySem.W.Frag} {G1 : Hp} {a b : Addr} {vs us : List V} {ds cs : List D} (h : Rd G1 a (.lst vs)) (h2 : Rd G1 b (.lst us)) (r : Reps K G1 vs ds) (r2 : Reps K G1 us cs) : ItOk K G1 (Itz K a b) (zipL ds cs) := by
  refine fun i G H e1 e2 => ⟨fun hl => ⟨vs, us, .inl (e2.rd (e1.rd h)), .inl (e2.rd (e1.rd h2)), ?_⟩, fun d hd => ?_⟩
  · have z : (zipL ds cs)[i]? = none := List.getElem?_eq_none hl
    rw [zipL_get] at z
    rw [r.length, r2.length]
    refine Classical.byContradiction fun w => ?_
    have w1 : i < ds.length := by omega
    have w2 : i < cs.length := by omega
    rw [List.getElem?_eq_getElem w1, List.getElem?_eq_getElem w2] at z
    cases z
  · rw [zipL_get] at hd
    cases hx : ds[i]? with
    | none => rw [hx] at hd; cases hd
    | some d1 =>
      cases hy : cs[i]? with
      | none => rw [hx, hy] at hd; cases hd
      | some d2 =>
        rw [hx, hy] at hd
        cases hd
        obtain ⟨v, hv, rv⟩ := r.getD hx
        obtain ⟨u, hu, ru⟩ := r2.getD hy
        refine ⟨⟨vs, us, v, u, .inl (e2.rd (e1.rd h)), .inl (e2.rd (e1.rd h2)), hv, hu⟩, fun x H' y => ?_⟩
        obtain ⟨T, p, q, rfl, hT, rfl, k1, k2⟩ := y
        have z1 := k1 vs (.inl (e2.rd (e1.rd h)))
        have z2 := k2 us (.inl (e2.rd (e1.rd h2)))
        rw [hv] at z1
        rw [hu] at z2
        cases z1
        cases z2
        exact zip_item e2 hT (rv.mono e1) (ru.mono e1)
theorem itOk_zipT {K : PySem.W.Frag} {G1 : Hp} {a b : Addr} {vs us : List V} {ds cs : List D} (h : SqT K G1 a vs) (h2 : SqT K G1 b us) (r : Reps K G1 vs ds) (r2 : Reps K G1 us cs) : ItOk K G1 (RZ.ItzT K a b) (zipL ds cs) := by
  refine fun i G H e1 e2 => ⟨fun hl => ⟨vs, us, e2.sqt (e1.sqt h), e2.sqt (e1.sqt h2), ?_⟩, fun d hd => ?_⟩
  · have z : (zipL ds cs)[i]? = none := List.getElem?_eq_none hl
    rw [zipL_get] at z
    rw [r.length, r2.length]
    refine Classical.byContradiction fun w => ?_
    have w1 : i < ds.length := by omega
    have w2 : i < cs.length := by omega
    rw [List.getElem?_eq_getElem w1, List.getElem?_eq_getElem w2] at z
    cases z
  · rw [zipL_get] at hd
    cases hx : ds[i]? with
    | none => rw [hx] at hd; cases hd
    | some d1 =>
      cases hy : cs[i]? with
      | none => rw [hx, hy] at hd; cases hd
      | some d2 =>
        rw [hx, hy] at hd
        cases hd
        obtain ⟨v, hv, rv⟩ := r.getD hx
        obtain ⟨u, hu, ru⟩ := r2.getD hy
        refine ⟨⟨vs, us, v, u, e2.sqt (e1.sqt h), e2.sqt (e1.sqt h2), hv, hu⟩, fun x H' y => ?_⟩
        obtain ⟨T, p, q, rfl, hT, rfl, k1, k2⟩ := y
        have z1 := k1 vs (e2.sqt (e1.sqt h))
        have z2 := k2 us (e2.sqt (e1.sqt h2))
        rw [hv] at z1
        rw [hu] at z2
        cases z1
        cases z2
        exact zip_item e2 hT (rv.mono e1) (ru.mono e1)
theorem ip_zip {e e2 : Expr} {ms : Ev → Res (List D)} {p tpos : Pos} {elts : List Expr} {kk : Nat} (ha : PA X [e, e2] (tMA X.K B W ms)) (hg : Gl X "zip") (hm : X.mg "zip" = none)
    (hs : starEach [e, e2] X.env = (false, eval e X.env) :: starEach [e2] X.env := by rfl) (hpl : (backTo pos (starEach [e2] X.env)).any (·.1) = false := by rfl) :
    IP X B W (.Tuple elts kk tpos) (.Call (.Name "zip" p) [e, e2] [] pos) (iMapA zipD ms) :=
  PI.imp (RZ.pi_zipA hg hm ha hs hpl) fun σ H R ⟨G, ρ, e0, q⟩ => ⟨G, ρ, e0, RG.bind q fun ds G1 vs H1 g r q1 => by
    cases r with
    | nil => exact q1.elim
    | cons r t =>
      cases t with
      | nil => cases r <;> exact q1.elim
      | cons r2 t =>
        cases t with
        | nil =>
          cases r with
          | lst h r =>
            cases r2 with
            | lst h2 r2 => exact ⟨_, _, _, _, rfl, .inl ⟨.inl (g.sub.rd h), .inl (g.sub.rd h2), q1 G1 _ H1 (.refl g.sub) (itOk_zip h h2 r r2)⟩⟩
            | _ => exact q1.elim
          | tup h r =>
            cases r2 with
            | tup h2 r2 => exact ⟨_, _, _, _, rfl, .inr ⟨g.sub.sqt h, g.sub.sqt h2, q1 G1 _ H1 (.refl g.sub) (itOk_zipT h h2 r r2)⟩⟩
            | _ => exact q1.elim
          | _ => cases r2 <;> exact q1.elim
        | cons r3 t => cases r <;> cases r2 <;> exact q1.elim⟩
def enumL : Nat → List D → List D
  | _, [] => []
  | n, a :: as => .tup [.int (n : Nat), a] :: enumL (n + 1) as
theorem enumL_get : ∀ (as : List D) (n i : Nat), (enumL n as)[i]? = as[i]?.map fun a => .tup [.int ((n + i : Nat) : Int), a]
  | [], n, i => by cases i <;> rfl
  | a :: as, n, 0 => rfl
  | a :: as, n, i + 1 => by
    show (enumL (n + 1) as)[i]? = _
    rw [enumL_get as (n + 1) i, List.getElem?_cons_succ, Nat.add_right_comm]
    rfl
theorem enumL_len : ∀ (as : List D) (n : Nat), (enumL n as).length = as.length
  | [], _ => rfl
  | a :: as, n => by
    show (enumL (n + 1) as).length + 1 = _
    rw [enumL_len as (n + 1)]
    rfl
def enumD : List D → Res (List D)
  | [.lst a] => .ok (enumL 0 a)
  | _ => .stuck
theorem itOk_enum {K : PySem.W.Frag} {G1 : Hp} {a : Addr} {vs : List V} {ds : List D} (h : Rd G1 a (.lst vs)) (r : Reps K G1 vs ds) : ItOk K G1 (Ite K a) (enumL 0 ds) := by
  refine fun i G H e1 e2 => ⟨fun hl => ⟨vs, .inl (e2.rd (e1.rd h)), ?_⟩, fun d hd => ?_⟩
  · rw [r.length]
    rw [enumL_len] at hl
    exact hl
  · rw [enumL_get, Nat.zero_add] at hd
    cases hx : ds[i]? with
    | none => rw [hx] at hd; cases hd
    | some d1 =>
      rw [hx] at hd
      cases hd
      obtain ⟨v, hv, rv⟩ := r.getD hx
      refine ⟨⟨vs, v, .inl (e2.rd (e1.rd h)), hv⟩, fun x H' y => ?_⟩
      obtain ⟨T, p, rfl, hT, rfl, k1⟩ := y
      have z1 := k1 vs (.inl (e2.rd (e1.rd h)))
      rw [hv] at z1
      cases z1
      exact zip_item e2 hT (.int _) (rv.mono e1)
theorem ip_enum {e : Expr} {ms : Ev → Res (List D)} {p tpos : Pos} {elts : List Expr} {kk : Nat} (ha : PA X [e] (tMA X.K B W ms)) (hg : Gl X "enumerate") (hm : X.mg "enumerate" = none) (hs : starEach [e] X.env = [(false, eval e X.env)] := by rfl) :
    IP X B W (.Tuple elts kk tpos) (.Call (.Name "enumerate" p) [e] [] pos) (iMapA enumD ms) :=
  PI.imp (pi_enum hg hm ha hs) fun σ H R ⟨G, ρ, e0, q⟩ => ⟨G, ρ, e0, RG.bind q fun ds G1 vs H1 g r q1 => by
    cases r with
    | nil => exact q1.elim
    | cons r t =>
      cases t with
      | nil =>
        cases r with
        | lst h r => exact ⟨_, _, rfl, .inl (g.sub.rd h), q1 G1 _ H1 (.refl g.sub) (itOk_enum h r)⟩
        | _ => exact q1.elim
      | cons r2 t => cases r <;> exact q1.elim⟩
end
def forL (f : D → Ev → Option Ev) (b : Ev → Out) : List D → Ev → Out
  | [], ρ => .nx ρ
  | d :: ds, ρ => match f d ρ with
    | none => .stuck
    | some ρ1 => match b ρ1 with
      | .nx ρ2 => forL f b ds ρ2
      | .ct ρ2 => forL f b ds ρ2
      | .bk ρ2 => .nx ρ2
      | .rt d ρ => .rt d ρ
      | .exc e ρ => .exc e ρ
      | .stuck => .stuck
def oFor (m : Ev → Res (List D)) (f : D → Ev → Option Ev) (b : Ev → Out) : Ev → Out := fun ρ => Out.of (m ρ) ρ fun ds => forL f b ds ρ
def whN (c : Ev → Res Bool) (b : Ev → Out) : Nat → Ev → Out
  | 0, _ => .stuck
  | n + 1, ρ => Out.of (c ρ) ρ fun k => if k = true then match b ρ with
      | .nx ρ2 => whN c b n ρ2
      | .ct ρ2 => whN c b n ρ2
      | .bk ρ2 => .nx ρ2
      | .rt d ρ => .rt d ρ
      | .exc e ρ => .exc e ρ
      | .stuck => .stuck
    else .nx ρ
open Classical in
noncomputable def oWhile (c : Ev → Res Bool) (b : Ev → Out) : Ev → Out := fun ρ => if h : ∃ n, whN c b n ρ ≠ .stuck then whN c b h.choose ρ else .stuck
section
variable {X : Cx} {B : Base} {W : WX} {tg iter c : Expr} {body : List Stmt} {pos : Pos} {m : Ev → Res (List D)} {js : List Nat} {f : D → Ev → Option Ev} {b : Ev → Out} {t : Ev → Res Bool}
theorem ms_for (hc : X.calm = true) (hp : PassesOwn (model X.prog X.w) X.A X.env X.xe) (hi : IP X B W tg iter m) (hg : GP X B tg js f) (hb : ∀ B' : Base, B'.fr = B.fr → PSs X body (tS X.K B' W b)) (hs : ∀ x, foldedSetIterable iter X.env x = pure x := by intro _; rfl) :
    PS X (.For tg iter body [] pos) (tS X.K B W (oFor m f b)) := by
  have hb' : PSs X body (fun Dn σ H => ∃ B' : Base, B'.fr = B.fr ∧ tS X.K B' W b Dn σ H) := ⟨fun pins s σ H Dn I ⟨B', hf, q⟩ => (hb B' hf).run pins s σ H Dn I q⟩
  refine PS.imp (ps_for hp hc hi hg hb' hs) fun Dn σ H ⟨G, ρ, e, q⟩ => ⟨G, ρ, e, SG.of e q fun ds G1 J H1 _ g1 e1 r q1 => ?_⟩
  refine ⟨fun i m σ H => m = ds.length - i ∧ i ≤ ds.length ∧ ∃ G ρ, EnvOk X.K B G σ ρ H ∧ Ext G1 G ∧ SG X.K B W Dn (forL f b (ds.drop i) ρ), ⟨ds.length, rfl, Nat.zero_le _, G1, ρ, e1, .refl, q1⟩, ?_⟩
  rintro i mm σ2 H2 ⟨rfl, hl, G2, ρ2, e2, x2, q2⟩
  obtain ⟨k1, k2⟩ := r i G2 H2 x2 e2.sub
  by_cases hlt : i < ds.length
  · obtain ⟨go, yl⟩ := k2 ds[i] (List.getElem?_eq_getElem hlt)
    rw [List.drop_eq_getElem_cons hlt] at q2
    refine .inr ⟨go, fun σ' H' => ∃ m', m' < ds.length - i ∧ m' = ds.length - (i + 1) ∧ i + 1 ≤ ds.length ∧ ∃ G ρ, EnvOk X.K B G σ' ρ H' ∧ Ext G1 G ∧ SG X.K B W Dn (forL f b (ds.drop (i + 1)) ρ), fun σ' H' z => z, fun x H3 y => ?_⟩
    obtain ⟨G3, g3, r3⟩ := yl x H3 y
    have e3 := e2.growN g3
    have q3 : SG X.K B W Dn (match f ds[i] ρ2 with
      | none => Out.stuck
      | some ρ1 => match b ρ1 with
        | .nx ρ2 => forL f b (ds.drop (i + 1)) ρ2
        | .ct ρ2 => forL f b (ds.drop (i + 1)) ρ2
        | .bk ρ2 => .nx ρ2
        | .rt d ρ => .rt d ρ
        | .exc e ρ => .exc e ρ
        | .stuck => .stuck) := q2
    cases hf : f ds[i] ρ2 with
    | none => rw [hf] at q3; exact q3.elim
    | some ρ4 =>
      rw [hf] at q3
      refine ⟨G3, ds[i], ρ2, ρ4, e3, r3, hf, fun σ4 e4 _ _ => ?_⟩
      refine ⟨B.at G3, rfl, G3, ρ4, e4.rebase, ?_⟩
      have step : ∀ (ρ5 : Ev) (σ' : St) (G' H' : Hp), EnvOk X.K (B.at G3) G' σ' ρ5 H' → SG X.K B W Dn (forL f b (ds.drop (i + 1)) ρ5) →
          ∃ m', m' < ds.length - i ∧ m' = ds.length - (i + 1) ∧ i + 1 ≤ ds.length ∧ ∃ G ρ, EnvOk X.K B G σ' ρ H' ∧ Ext G1 G ∧ SG X.K B W Dn (forL f b (ds.drop (i + 1)) ρ) := fun ρ5 σ' G' H' e5 q5 =>
        ⟨ds.length - (i + 1), by omega, rfl, hlt, G', ρ5, e5.unbase e3.grow, (x2.trans g3.g).trans e5.grow.g, q5⟩
      dsimp only at q3
      cases hb1 : b ρ4 with
      | nx ρ5 => rw [hb1] at q3; exact fun G' σ' H' e5 => step ρ5 σ' G' H' e5 q3
      | ct ρ5 => rw [hb1] at q3; exact fun G' σ' H' e5 => step ρ5 σ' G' H' e5 q3
      | bk ρ5 => rw [hb1] at q3; exact fun G' σ' H' e5 => q3 G' σ' H' (e5.unbase e3.grow)
      | rt d ρ5 => rw [hb1] at q3; exact fun G' σ' H' v e5 => q3 G' σ' H' v (e5.unbase e3.grow)
      | exc er ρ5 => rw [hb1] at q3; exact fun G' σ' H' c d e5 r => q3 G' σ' H' c d (e5.unbase e3.grow) r
      | stuck => rw [hb1] at q3; exact q3
  · have ei : i = ds.length := by omega
    subst ei
    rw [List.drop_length] at q2
    exact .inl ⟨k1 (Nat.le_refl _), q2 G2 σ2 H2 e2⟩
theorem whN_more {n : Nat} : ∀ {ρ : Ev} {k : Nat}, whN t b n ρ ≠ .stuck → whN t b (n + k) ρ = whN t b n ρ := by
  induction n with
  | zero => intro ρ k h; exact absurd rfl h
  | succ n ih =>
    intro ρ k h
    rw [Nat.add_right_comm]
    unfold whN at h ⊢
    cases ht : t ρ with
    | exc e => rfl
    | stuck => rfl
    | ok v =>
      rw [ht] at h
      simp only [Out.of_ok] at h ⊢
      cases v with
      | false => rfl
      | true =>
        simp only [if_true] at h ⊢
        cases hb : b ρ with
        | nx ρ2 => rw [hb] at h; exact ih h
        | ct ρ2 => rw [hb] at h; exact ih h
        | _ => rfl
theorem oWhile_of {n : Nat} {ρ : Ev} (h : whN t b n ρ ≠ .stuck) : oWhile t b ρ = whN t b n ρ := by
  unfold oWhile
  have hx : ∃ n, whN t b n ρ ≠ .stuck := ⟨n, h⟩
  rw [dif_pos hx]
  have h2 := hx.choose_spec
  rcases Nat.le_total n hx.choose with z | z
  · obtain ⟨k, hk⟩ := Nat.le.dest z
    have w := whN_more (k := k) h
    rw [hk] at w
    exact w
  · obtain ⟨k, hk⟩ := Nat.le.dest z
    have w := whN_more (k := k) h2
    rw [hk] at w
    exact w.symm
theorem ms_while (hp : PassesOwn (model X.prog X.w) X.A X.env X.xe) (hc : PT X c (tMT X.K B W t)) (hb : PSs X body (tS X.K B W b)) : PS X (.While c body [] pos) (tS X.K B W (oWhile t b)) := by
  refine PS.imp (ps_while hp hc hb) fun Dn σ H ⟨G, ρ, e, q⟩ => ?_
  obtain ⟨n, q⟩ : ∃ n, SG X.K B W Dn (whN t b n ρ) := by
    unfold oWhile at q
    by_cases h : ∃ n, whN t b n ρ ≠ .stuck
    · rw [dif_pos h] at q
      exact ⟨_, q⟩
    · rw [dif_neg h] at q
      exact q.elim
  refine ⟨fun n σ H => ∃ G ρ, EnvOk X.K B G σ ρ H ∧ SG X.K B W Dn (whN t b n ρ), ⟨n, G, ρ, e, q⟩, ?_⟩
  rintro n σ2 H2 ⟨G2, ρ2, e2, q2⟩
  cases n with
  | zero => exact q2.elim
  | succ n =>
    refine ⟨G2, ρ2, e2, SG.of e2 (show SG X.K B W Dn (Out.of (t ρ2) ρ2 _) from q2) fun k G3 v H3 _ g3 e3 r q3 => ?_⟩
    have r' : v = k := r
    subst r'
    cases v with
    | false => exact q3 G3 σ2 H3 e3
    | true =>
      refine ⟨fun σ' H' => ∃ G ρ, EnvOk X.K B G σ' ρ H' ∧ SG X.K B W Dn (whN t b n ρ), fun σ' H' z => ⟨n, Nat.lt_succ_self _, z⟩, G3, ρ2, e3, ?_⟩
      simp only [if_true] at q3
      cases hb1 : b ρ2 with
      | nx ρ5 => rw [hb1] at q3; exact fun G' σ' H' e5 => ⟨G', ρ5, e5, q3⟩
      | ct ρ5 => rw [hb1] at q3; exact fun G' σ' H' e5 => ⟨G', ρ5, e5, q3⟩
      | bk ρ5 => rw [hb1] at q3; exact q3
      | rt d ρ5 => rw [hb1] at q3; exact q3
      | exc er ρ5 => rw [hb1] at q3; exact q3
      | stuck => rw [hb1] at q3; exact q3
end
end PL
namespace PL
open PySem PySem.Spec L2
open PyProof.Rows (b2i)
/-- an expression that makes a new list -/
def FG (K : PySem.W.Frag) (E : XK) (G H : Hp) (Q : VK) : Res (List D) → Prop
  | .ok ds => ∀ G' p vs H', Grow G H G' H' → H' p = some (.lst vs) → Reps K G' vs ds → G' p = none → H p = none → Q (.ref p) H'
  | .exc e => ∀ G' cls dx H', Grow G H G' H' → ErrOk K G' H' cls dx e → E cls dx H'
  | .stuck => False
def tF (K : PySem.W.Frag) (B : Base) (W : WX) (m : Ev → Res (List D)) : TE := fun σ H Q => ∃ G ρ, EnvOk K B G σ ρ H ∧ FG K (fun c d H' => W c d σ H') G H Q (m ρ)
theorem RG.fresh {K : PySem.W.Frag} {E : XK} {G H : Hp} {Q : VK} {ds : List D} {vs : List V} {G1 H1 : Hp} (g : Grow G H G1 H1) (h : FG K E G H Q (.ok ds)) (r : Reps K G1 vs ds) : ∀ p, H1 p = none → Q (.ref p) (upd H1 p (.lst vs)) := fun p hp =>
  h G1 p vs _ (g.trans (.side g.sub hp _)) upd_same r (g.sub.free hp) (g.h.free hp)
theorem RG.bindF {α β : Type} {R : Hp → β → α → Prop} {K : PySem.W.Frag} {E : XK} {G H : Hp} {Q : VK} {r : Res α} {f : α → Res (List D)} {P : β → Hp → Prop} (h : FG K E G H Q (r >>= f)) (k : ∀ a G1 v H1, Grow G H G1 H1 → R G1 v a → FG K E G H Q (f a) → P v H1) : RG R K E G H P r := by
  cases r with
  | ok a => exact fun G1 v H1 g r => k a G1 v H1 g r h
  | exc e => exact h
  | stuck => exact h
theorem FG.chk {K : PySem.W.Frag} {E : XK} {G H : Hp} {Q : VK} {p : Prop} [Decidable p] {r : Res (List D)} (h : FG K E G H Q (chk p r)) : p ∧ FG K E G H Q r := by
  unfold PL.chk at h
  by_cases z : p
  · rw [if_pos z] at h; exact ⟨z, h⟩
  · rw [if_neg z] at h; exact h.elim
def lstOf (m : Ev → Res (List D)) : Ev → Res D := fun ρ => m ρ >>= fun ds => .ok (.lst ds)
section
variable {X : Cx} {B : Base} {W : WX} {e a b : Expr} {m : Ev → Res (List D)} {ma mb : Ev → Res D} {pos : Pos}
/-- as data -/
theorem me_fresh (h : PE X e (tF X.K B W m)) : PE X e (tM X.K B W (lstOf m)) := PE.imp h fun σ H Q ⟨G, ρ, e, q⟩ => ⟨G, ρ, e, by
  unfold lstOf at q
  cases hm : m ρ with
  | ok ds =>
    rw [hm] at q
    intro G' p vs H' g hp r gp hn
    refine q (upd G' p (.lst vs)) _ H' ⟨g.g.trans (.upd gp), g.h, fun a o z => ?_, fun a o z => ?_⟩ (.lst (.inl upd_same) (r.mono (.upd gp)))
    · by_cases w : a = p
      · subst w; rw [upd_same] at z; cases z; exact hp
      · rw [upd_ne w] at z; exact g.sub _ _ z
    · by_cases w : a = p
      · subst w; exact .inr hn
      · rw [upd_ne w] at z; exact g.new _ _ z
  | exc x => rw [hm] at q; exact q
  | stuck => rw [hm] at q; exact q⟩
def fLst (ms : Ev → Res (List D)) : Ev → Res (List D) := fun ρ => ms ρ >>= fun ds => chk (ds.length ≤ sizeLine) (.ok ds)
theorem mf_lst {es : List Expr} {ms : Ev → Res (List D)} (h : PA X es (tMA X.K B W ms)) : PE X (.List es pos) (tF X.K B W (fLst ms)) :=
  PE.imp (pe_lst h) fun σ H Q ⟨G, ρ, e, q⟩ => ⟨G, ρ, e, RG.bindF q fun ds G1 vs H1 g r q1 => by
    obtain ⟨z, q1⟩ := FG.chk q1
    exact ⟨by rw [r.length]; exact z, RG.fresh g q1 r⟩⟩
theorem FG.grow {K : PySem.W.Frag} {E : XK} {G H G' H' : Hp} {Q : VK} {r : Res (List D)} (g : Grow G H G' H') (h : FG K E G H Q r) : FG K E G' H' Q r := by
  cases r with
  | ok ds => exact fun G2 p vs H2 g2 hp r gp hn => h G2 p vs H2 (g.trans g2) hp r gp (g.h.free hn)
  | exc e => exact fun G2 c d H2 g2 k => h G2 c d H2 (g.trans g2) k
  | stuck => exact h
def fOp (f : D → D → Res (List D)) (ma mb : Ev → Res D) : Ev → Res (List D) := fun ρ => ma ρ >>= fun a => mb ρ >>= fun b => f a b
theorem mf_op {op : Operator} {r : R2} {f : D → D → Res (List D)} (ho : OpR X (binaryOp op) r) (k : ∀ G H x y a b Q (E : XK), Ext G H → Rep X.K G x a → Rep X.K G y b → FG X.K E G H Q (f a b) → r x y H Q) (ha : PE X a (tM X.K B W ma)) (hb : PE X b (tM X.K B W mb)) :
    PE X (.BinOp a op b pos) (tF X.K B W (fOp f ma mb)) :=
  PE.imp (pe_op ho ha hb) fun σ H Q ⟨G, ρ, e, q⟩ => ⟨G, ρ, e, RG.bindF q fun d G1 v H1 g r q1 => ⟨G1, ρ, e.growN g, RG.bindF (FG.grow g q1) fun c G2 u H2 g2 r2 q2 =>
    k G2 H2 v u d c Q _ g2.sub (r.mono g2.g) r2 (FG.grow g2 q2)⟩⟩
/-- list * int -/
def repL : D → D → Res (List D)
  | .lst xs, .int k => chk (-(2 ^ 63) ≤ k ∧ k < 2 ^ 63 ∧ xs.length * k.toNat ≤ sizeLine) (.ok (List.replicate k.toNat xs).flatten)
  | _, _ => .stuck
theorem mf_rep (ha : PE X a (tM X.K B W ma)) (hb : PE X b (tM X.K B W mb)) : PE X (.BinOp a .Mult b pos) (tF X.K B W (fOp repL ma mb)) :=
  mf_op op_repR (fun G H x y a b Q E s ra rb h => by
    cases ra with
    | lst q t => cases rb with
      | int k =>
        obtain ⟨z, h⟩ := FG.chk h
        exact ⟨_, k, _, rfl, rfl, s.rd q, z.1, z.2.1, by rw [t.length]; exact z.2.2, RG.fresh (.refl s) h (t.flatten _)⟩
      | _ => exact h.elim
    | _ => cases rb <;> exact h.elim) ha hb
/-- list + list -/
def catL : D → D → Res (List D)
  | .lst xs, .lst ys => chk (xs.length + ys.length ≤ sizeLine) (.ok (xs ++ ys))
  | _, _ => .stuck
theorem mf_cat (ha : PE X a (tM X.K B W ma)) (hb : PE X b (tM X.K B W mb)) : PE X (.BinOp a .Add b pos) (tF X.K B W (fOp catL ma mb)) :=
  mf_op op_catR (fun G H x y a b Q E s ra rb h => by
    cases ra with
    | lst q t => cases rb with
      | lst q2 t2 =>
        obtain ⟨z, h⟩ := FG.chk h
        exact ⟨_, _, _, _, rfl, rfl, s.rd q, s.rd q2, by rw [t.length, t2.length]; exact z, RG.fresh (.refl s) h (t.append t2)⟩
      | _ => exact h.elim
    | _ => cases rb <;> exact h.elim) ha hb
/-- list(x) -/
def fList (ma : Ev → Res D) : Ev → Res (List D) := fun ρ => ma ρ >>= itD
theorem mf_list {p : Pos} (ha : PE X a (tM X.K B W ma)) (hg : Gl X "list") (hm : X.mg "list" = none) (hs : starEach [a] X.env = (false, eval a X.env) :: starEach [] X.env := by rfl) (hpl : (backTo pos (starEach [] X.env)).any (·.1) = false := by rfl) : PE X (.Call (.Name "list" p) [a] [] pos) (tF X.K B W (fList ma)) :=
  PE.imp (pe_callTy call_list_of hg hm (by kernel_rfl) (pa_cons ha pa_nil hs) (by decide) (by decide) hs hpl) fun σ H Q ⟨G, ρ, e, q⟩ => ⟨G, ρ, e, RG.bindF q fun d G1 v H1 g r q1 => by
    cases r with
    | lst s t => exact ⟨_, _, rfl, .inl (.inl (g.sub.rd s)), RG.fresh g q1 t⟩
    | tup s t => exact ⟨_, _, rfl, .inr (g.sub.sqt s), RG.fresh g q1 t⟩
    | _ => exact q1.elim⟩
/-- x[a:b] of a list -/
def fSl (m : Ev → Res D) (l h : Ev → Res (Option Int)) : Ev → Res (List D) := fun ρ => m ρ >>= fun d => l ρ >>= fun a => h ρ >>= fun b => match d with
  | .lst xs => .ok (cutL xs a b)
  | _ => .stuck
/-- name = a new list -/
def oSetF (i : Nat) (m : Ev → Res (List D)) : Ev → Out := fun ρ => Out.of (m ρ) ρ fun ds => .nx (ρ.set i (.own ds))
theorem setF {K : PySem.W.Frag} {G H : Hp} {σ : St} {ρ : Ev} {Dn : Ends} {i : Nat} (e : EnvOk K B G σ ρ H) (q : SG K B W Dn (oSetF i m ρ)) : FG K (fun c d H' => W c d σ H') G H (fun v H1 => Dn.nx (σ.set i (some v)) H1) (m ρ) := by
  unfold oSetF at q
  cases hm : m ρ with
  | ok ds =>
    rw [hm] at q
    intro G' p vs H' g hp r gp hn
    have e1 := e.growN g
    have q' : SG K B W Dn (.nx (ρ.set i (.own ds))) := q
    exact q' G' _ H' (e1.setMine i ⟨p, vs, rfl, hp, r, gp, e.grow.h.free hn⟩ fun a fa j t _ ht ft => by
      have ea : a = p := fa
      subst ea
      exact e.noMine hn j t ht (foot_grow (e.slot j t ht) g.h ft))
  | exc x =>
    rw [hm] at q
    exact fun G1 c d H1 g k => q G1 σ H1 c d (e.growN g) k
  | stuck => rw [hm] at q; exact q
theorem ms_setF (i : Nat) {x : Str} {p' : Pos} (he : PE X e (tF X.K B W m)) (hN : X.N.Nodup := by decide) (hi : X.N[i]? = some x := by rfl) (hx : Loc X.env.scope x := by first | exact .inl rfl | exact .inr rfl) (hs : swapsWith e (some (.Name x p')) pos.line X.env = pure false := by rfl)
    (hf : X.fn x = true ∨ X.env.scope.names.lookup x = some .local := by first | exact .inl rfl | exact .inr rfl) : PS X (.Assign [.Name x p'] e pos) (tS X.K B W (oSetF i m)) :=
  PS.imp (ps_set hN hi hx he hs hf) fun Dn σ H ⟨G, ρ, e, q⟩ => ⟨G, ρ, e, setF e q⟩
theorem own_at {K : PySem.W.Frag} {G H : Hp} {σ : St} {ρ : Ev} {i : Nat} {xs : List D} (e : EnvOk K B G σ ρ H) (hs : ρ[i]? = some (.own xs)) : ∃ l vs, σ[i]? = some (some (.ref l)) ∧ H l = some (.lst vs) ∧ Reps K G vs xs ∧ G l = none ∧ B.H l = none := e.slot i _ hs
theorem own_put {K : PySem.W.Frag} {G H : Hp} {σ : St} {ρ : Ev} {i : Nat} {xs ys : List D} {l : Addr} {us : List V} (e : EnvOk K B G σ ρ H) (hs : ρ[i]? = some (.own xs)) (hv : σ[i]? = some (some (.ref l))) (gl : G l = none) (bl : B.H l = none) (r : Reps K G us ys) :
    EnvOk K B G σ (ρ.set i (.own ys)) (upd H l (.lst us)) := e.change hs (by rw [hv]; exact rfl) (by rw [hv]; exact ⟨l, us, rfl, upd_same, r, gl, bl⟩) fun b f => .inl (by rw [hv] at f ⊢; exact f)
def ownOf (ρ : Ev) (i : Nat) : Option (List D) := match ρ[i]? with
  | some (.own xs) => some xs
  | _ => none
theorem ownOf_some {ρ : Ev} {i : Nat} {xs : List D} (h : ownOf ρ i = some xs) : ρ[i]? = some (.own xs) := by
  unfold ownOf at h
  split at h
  · rename_i ys hs
    cases h
    exact hs
  · cases h
def oOwn (i : Nat) (f : List D → Ev → Out) : Ev → Out := fun ρ => match ownOf ρ i with
  | some xs => f xs ρ
  | none => .stuck
theorem SG.own {K : PySem.W.Frag} {Dn : Ends} {i : Nat} {f : List D → Ev → Out} {ρ : Ev} (h : SG K B W Dn (oOwn i f ρ)) : ∃ xs, ρ[i]? = some (.own xs) ∧ SG K B W Dn (f xs ρ) := by
  unfold oOwn at h
  cases ho : ownOf ρ i with
  | none => rw [ho] at h; exact h.elim
  | some xs => rw [ho] at h; exact ⟨xs, ownOf_some ho, h⟩
def oChk (p : Prop) [Decidable p] (o : Out) : Out := if p then o else .stuck
theorem SG.chk {K : PySem.W.Frag} {Dn : Ends} {p : Prop} [Decidable p] {o : Out} (h : SG K B W Dn (oChk p o)) : p ∧ SG K B W Dn o := by
  unfold oChk at h
  by_cases z : p
  · rw [if_pos z] at h; exact ⟨z, h⟩
  · rw [if_neg z] at h; exact h.elim
/-- x.append(e) -/
def oApp (i : Nat) (m : Ev → Res D) : Ev → Out := oOwn i fun xs ρ => Out.of (m ρ) ρ fun d => oChk (xs.length < sizeLine) (.nx (ρ.set i (.own (xs ++ [d]))))
theorem ms_app (i : Nat) {x : Str} {p1 p2 p3 : Pos} (he : PE X e (tM X.K B W ma)) (hN : X.N[i]? = some x := by rfl) (hv : Vis X.env.scope x := by first | exact Or.inl rfl | exact Or.inr (Or.inl rfl) | exact Or.inr (Or.inr rfl)) (hd : (x == ("__debug__" : Str)) = false := by decide) (hcd : (x == ("__classdict__" : Str)) = false := by decide)
    (hbase : attributeBase (.Name x p1) "append" X.env (eval (.Name x p1) X.env) = eval (.Name x p1) X.env := by rfl)
    (hfew : ((backTo p3 (starEach [e] X.env)).all (fun x => !x.1) && (backToKw p3 (keywordEach [] X.env)).all (fun x => x.1.isSome) && decide (([e] : List Expr).length + ([] : List Keyword).length + (if ([] : List Keyword).isEmpty then 0 else 1) < 30)) = true := by rfl)
    (hline : (p2.endLine == p3.line) = true := by rfl) (hs : starEach [e] X.env = (false, eval e X.env) :: starEach [] X.env := by rfl) (hplain : (backTo p3 (starEach [] X.env)).any (·.1) = false := by rfl)
    (hsw : swapsWith (.Call (.Attribute (.Name x p1) "append" p2) [e] [] p3) none pos.line X.env = pure false := by rfl) :
    PS X (.Expr (.Call (.Attribute (.Name x p1) "append" p2) [e] [] p3) pos) (tS X.K B W (oApp i ma)) :=
  PS.imp (ps_expr (pe_bm PySem.F.plainAttrs_list PySem.F.slot_list_append PySem.F.type_list_append mt_append (pe_var (i := i) hN hv hd hcd) (pa_cons he pa_nil hs) hbase hfew hline hs hplain) hsw) fun Dn σ H ⟨G, ρ, e, q⟩ => by
    obtain ⟨xs, hx, q⟩ := SG.own q
    obtain ⟨l, vs, hv, hl, r, gl, bl⟩ := own_at e hx
    refine ⟨_, hv, .inl ⟨rfl, vs, .of hl⟩, G, ρ, e, SG.of e q fun d G1 v H1 _ g e1 rv q1 => ?_⟩
    obtain ⟨z, q1⟩ := SG.chk q1
    obtain ⟨k1, k2⟩ := g.keeps hl gl
    have r1 := r.mono g.g
    exact ⟨l, vs, v, rfl, rfl, k1, by rw [r.length]; exact z, q1 G1 σ _ (own_put e1 hx hv k2 bl (r1.append (.cons rv .nil)))⟩
/-- x.reverse() -/
def oRev (i : Nat) : Ev → Out := oOwn i fun xs ρ => .nx (ρ.set i (.own xs.reverse))
theorem ms_rev (i : Nat) {x : Str} {p1 p2 p3 : Pos} (hN : X.N[i]? = some x := by rfl) (hv : Vis X.env.scope x := by first | exact Or.inl rfl | exact Or.inr (Or.inl rfl) | exact Or.inr (Or.inr rfl)) (hd : (x == ("__debug__" : Str)) = false := by decide) (hcd : (x == ("__classdict__" : Str)) = false := by decide)
    (hbase : attributeBase (.Name x p1) "reverse" X.env (eval (.Name x p1) X.env) = eval (.Name x p1) X.env := by rfl) (hline : (p2.endLine == p3.line) = true := by rfl)
    (hsw : swapsWith (.Call (.Attribute (.Name x p1) "reverse" p2) [] [] p3) none pos.line X.env = pure false := by rfl) :
    PS X (.Expr (.Call (.Attribute (.Name x p1) "reverse" p2) [] [] p3) pos) (tS X.K B W (oRev i)) :=
  PS.imp (ps_expr (pe_bm0 PySem.F.plainAttrs_list PySem.F.slot_list_reverse PySem.F.type_list_reverse mt_reverse (pe_var (i := i) hN hv hd hcd) hbase hline) hsw) fun Dn σ H ⟨G, ρ, e, q⟩ => by
    obtain ⟨xs, hx, q⟩ := SG.own q
    obtain ⟨l, vs, hv, hl, r, gl, bl⟩ := own_at e hx
    exact ⟨_, hv, .inl ⟨rfl, vs, .of hl⟩, l, vs, rfl, rfl, hl, q G σ _ (own_put e hx hv gl bl r.reverse)⟩
/-- x[k] = e -/
def ixSet (xs : List D) (d : D) (i : Nat) : D → Ev → Out
  | .int k, ρ => match ixN xs.length k with
    | some j => .nx (ρ.set i (.own (xs.set j d)))
    | none => .stuck
  | _, _ => .stuck
def oSetIx (i : Nat) (mk m : Ev → Res D) : Ev → Out := oOwn i fun xs ρ => Out.of (m ρ) ρ fun d => Out.of (mk ρ) ρ fun k => ixSet xs d i k ρ
theorem ms_setIx (i : Nat) {x : Str} {k : Expr} {p1 p2 : Pos} {mk : Ev → Res D} (he : PE X e (tM X.K B W ma)) (hk : PE X k (tM X.K B W mk)) (hN : X.N[i]? = some x := by rfl) (hv : Vis X.env.scope x := by first | exact Or.inl rfl | exact Or.inr (Or.inl rfl) | exact Or.inr (Or.inr rfl)) (hd : (x == ("__debug__" : Str)) = false := by decide) (hcd : (x == ("__classdict__" : Str)) = false := by decide)
    (ha : ∀ v, assign (.Subscript (.Name x p1) k p2) X.env v = (do
      let ov ← holding [v] (eval (.Name x p1) X.env)
      let iv ← holding [v, ov] (eval k X.env)
      standAt p2
      holding [v, ov, iv] (setItem ov iv v)
      release [v, ov, iv] []) := by intro _; rfl)
    (hs : swapsWithSole [.Subscript (.Name x p1) k p2] e pos.line X.env = pure false := by rfl) (hw : swappedStores [.Subscript (.Name x p1) k p2] e X.env = pure none := by rfl)
    (h1 : (assignEach [.Subscript (.Name x p1) k p2] X.env).map (·.2) = [assign (.Subscript (.Name x p1) k p2) X.env] := by rfl) :
    PS X (.Assign [.Subscript (.Name x p1) k p2] e pos) (tS X.K B W (oSetIx i mk ma)) :=
  PS.imp (ps_asg he (pg_sub (pe_var (i := i) hN hv hd hcd) hk set_list ha) hs hw h1) fun Dn σ H ⟨G, ρ, e, q⟩ => by
    obtain ⟨xs, hx, q⟩ := SG.own q
    refine ⟨G, ρ, e, SG.of e q fun d G1 v H1 _ g e1 rv q1 => ?_⟩
    obtain ⟨l, vs, hv, hl, r, gl, bl⟩ := own_at e1 hx
    refine ⟨_, hv, G1, ρ, e1, SG.of e1 q1 fun kk G2 w H2 _ g2 e2 rw' q2 => ?_⟩
    obtain ⟨k1, k2⟩ := g2.keeps hl gl
    cases rw' with
    | int n =>
      have q3 : SG X.K B W Dn (match ixN xs.length n with
        | some j => .nx (ρ.set i (.own (xs.set j d)))
        | none => .stuck) := q2
      cases hj : ixN xs.length n with
      | none => rw [hj] at q3; exact q3.elim
      | some j =>
        rw [hj] at q3
        exact ⟨l, vs, n, j, rfl, rfl, k1, by rw [r.length]; exact hj, q3 G2 σ _ (own_put e2 hx hv k2 bl ((r.mono g2.g).set (rv.mono g2.g) j))⟩
    | _ => exact q2.elim
def flatFs (fs : List (Nm × D)) : Bool := fs.all fun p => isFlatV p.2
theorem flat_rep {K : PySem.W.Frag} {G G' : Hp} {v : V} {d : D} (r : Rep K G v d) (f : isFlatV d = true) : Rep K G' v d := by
  cases r with
  | non => exact .non
  | bl b => exact .bl b
  | int b => exact .int b
  | str b => exact .str b
  | _ => cases f
theorem flat_repF {K : PySem.W.Frag} {G G' : Hp} : ∀ {fv : List (Str × V)} {fs : List (Nm × D)}, RepF K G fv fs → flatFs fs = true → RepF K G' fv fs
  | _, _, .nil, _ => .nil
  | _, _, .cons r t, f => by
    unfold flatFs at f
    rw [List.all_cons, Bool.and_eq_true] at f
    exact .cons (flat_rep r f.1) (flat_repF t f.2)
def frzAll (is : List Nat) (ρ : Ev) : Ev := is.foldl (fun ρ i => freeze i ρ) ρ
theorem EnvOk.frzAll {K : PySem.W.Frag} {H : Hp} {σ : St} : ∀ (is : List Nat) {ρ : Ev} {G : Hp}, EnvOk K B G σ ρ H → ∃ G', EnvOk K B G' σ (frzAll is ρ) H ∧ Ext G G'
  | [], _, G, e => ⟨G, e, .refl⟩
  | i :: is, ρ, G, e => by
    obtain ⟨G1, e1, x1⟩ := e.freeze i
    obtain ⟨G2, e2, x2⟩ := EnvOk.frzAll is e1
    exact ⟨G2, e2, x1.trans x2⟩
def peekD : Res D → Res D
  | .ok d => chk (isFlatV d = true) (.ok d)
  | .exc e => chk (flatFs e.fs = true) (.exc e)
  | .stuck => .stuck
def peekT : Res Bool → Res Bool
  | .ok d => .ok d
  | .exc e => chk (flatFs e.fs = true) (.exc e)
  | .stuck => .stuck
def mPeek (is : List Nat) (m : Ev → Res D) : Ev → Res D := fun ρ => peekD (m (frzAll is ρ))
def mtPeek (is : List Nat) (m : Ev → Res Bool) : Ev → Res Bool := fun ρ => peekT (m (frzAll is ρ))
theorem grow_back {G0 G H G' H' : Hp} (s : Ext G0 G) (g : Grow G H G' H') : Grow G0 H G0 H' := ⟨.refl, g.h, s.trans (g.g.trans g.sub), fun _ _ q => .inl q⟩
theorem err_flat {K : PySem.W.Frag} {G G' H : Hp} {c : Value} {d : Option Addr} {er : Err} (k : ErrOk K G H c d er) (f : flatFs er.fs = true) : ErrOk K G' H c d er := by
  obtain ⟨k1, k2, k3⟩ := k
  refine ⟨k1, k2, ?_⟩
  rcases k3 with k3 | ⟨dx, fv, e1, e2, r⟩
  · exact .inl k3
  · exact .inr ⟨dx, fv, e1, e2, flat_repF r f⟩
theorem me_peek (is : List Nat) (h : PE X e (tM X.K B W ma)) : PE X e (tM X.K B W (mPeek is ma)) := PE.imp h fun σ H Q ⟨G, ρ, e0, q⟩ => by
  obtain ⟨G', e1, x⟩ := EnvOk.frzAll is e0
  refine ⟨G', _, e1, ?_⟩
  unfold mPeek at q
  cases hm : ma (frzAll is ρ) with
  | ok d =>
    rw [hm] at q
    obtain ⟨f, q⟩ := RG.chk (show RG (Rep X.K) X.K _ G H Q (chk (isFlatV d = true) (.ok d)) from q)
    exact fun G2 v H2 g r => q G v H2 (grow_back x g) (flat_rep r f)
  | exc er =>
    rw [hm] at q
    obtain ⟨f, q⟩ := RG.chk (show RG (Rep X.K) X.K _ G H Q (chk (flatFs er.fs = true) (.exc er)) from q)
    exact fun G2 c d H2 g k => q G c d H2 (grow_back x g) (err_flat k f)
  | stuck => rw [hm] at q; exact q
theorem mt_peek (is : List Nat) {t : Ev → Res Bool} (h : PT X e (tMT X.K B W t)) : PT X e (tMT X.K B W (mtPeek is t)) := PT.imp h fun σ H Q ⟨G, ρ, e0, q⟩ => by
  obtain ⟨G', e1, x⟩ := EnvOk.frzAll is e0
  refine ⟨G', _, e1, ?_⟩
  unfold mtPeek at q
  cases hm : t (frzAll is ρ) with
  | ok d =>
    rw [hm] at q
    exact fun G2 v H2 g r => q G v H2 (grow_back x g) r
  | exc er =>
    rw [hm] at q
    obtain ⟨f, q⟩ := RG.chk (show RG (fun _ b c => b = c) X.K _ G H Q (chk (flatFs er.fs = true) (.exc er)) from q)
    exact fun G2 c d H2 g k => q G c d H2 (grow_back x g) (err_flat k f)
  | stuck => rw [hm] at q; exact q
/-- x[k] of an own list: the item itself -/
def ownIx (xs : List D) : D → Res D
  | .int k => ofOpt (atI xs k)
  | _ => .stuck
def mOwnIx (i : Nat) (mk : Ev → Res D) : Ev → Res D := fun ρ => match ownOf ρ i with
  | some xs => mk ρ >>= ownIx xs
  | none => .stuck
theorem me_ownIx (i : Nat) {x : Str} {k : Expr} {p1 : Pos} {mk : Ev → Res D} (hk : PE X k (tM X.K B W mk)) (hN : X.N[i]? = some x := by rfl) (hv : Vis X.env.scope x := by first | exact Or.inl rfl | exact Or.inr (Or.inl rfl) | exact Or.inr (Or.inr rfl)) (hd : (x == ("__debug__" : Str)) = false := by decide) (hcd : (x == ("__classdict__" : Str)) = false := by decide)
    (hs : PlainIx k := by intro _ _; rfl) : PE X (.Subscript (.Name x p1) k pos) (tM X.K B W (mOwnIx i mk)) :=
  PE.imp (pe_ix ix_seq (pe_var (i := i) hN hv hd hcd) hk hs) fun σ H Q ⟨G, ρ, e, q⟩ => by
    unfold mOwnIx at q
    cases ho : ownOf ρ i with
    | none => rw [ho] at q; exact q.elim
    | some xs =>
      rw [ho] at q
      obtain ⟨l, vs, hv, hl, r, gl, bl⟩ := own_at e (ownOf_some ho)
      refine ⟨_, hv, G, ρ, e, RG.bind q fun d G1 v H1 g rv q1 => ?_⟩
      cases rv with
      | int n =>
        obtain ⟨d, hd, q1⟩ := RG.opt q1
        obtain ⟨w, e1, r1⟩ := (r.mono g.g).atI hd
        exact .inl ⟨l, vs, n, w, rfl, rfl, .of (g.keeps hl gl).1, e1, RG.here g.sub q1 r1⟩
      | _ => exact q1.elim
/-- list(x), tuple(x) of an own list -/
def fOwn (i : Nat) : Ev → Res (List D) := fun ρ => ofOpt (ownOf ρ i)
theorem mf_listOwn (i : Nat) {x : Str} {p p1 : Pos} (hg : Gl X "list") (hm : X.mg "list" = none) (hN : X.N[i]? = some x := by rfl) (hv : Vis X.env.scope x := by first | exact Or.inl rfl | exact Or.inr (Or.inl rfl) | exact Or.inr (Or.inr rfl)) (hd : (x == ("__debug__" : Str)) = false := by decide) (hcd : (x == ("__classdict__" : Str)) = false := by decide)
    (hs : starEach [.Name x p1] X.env = (false, eval (.Name x p1) X.env) :: starEach [] X.env := by rfl) (hpl : (backTo pos (starEach [] X.env)).any (·.1) = false := by rfl) : PE X (.Call (.Name "list" p) [.Name x p1] [] pos) (tF X.K B W (fOwn i)) :=
  PE.imp (pe_callTy call_list_of hg hm (by kernel_rfl) (pa_cons (pe_var (i := i) hN hv hd hcd) pa_nil hs) (by decide) (by decide) hs hpl) fun σ H Q ⟨G, ρ, e, q⟩ => by
    unfold fOwn at q
    cases ho : ownOf ρ i with
    | none => rw [ho] at q; exact q.elim
    | some xs =>
      rw [ho] at q
      obtain ⟨l, vs, hv, hl, r, gl, bl⟩ := own_at e (ownOf_some ho)
      exact ⟨_, hv, l, vs, rfl, .inl (.of hl), RG.fresh (.refl e.sub) q r⟩
def mOwnT (i : Nat) : Ev → Res D := fun ρ => ofOpt (ownOf ρ i) >>= fun xs => .ok (.tup xs)
theorem me_tupOwn (i : Nat) {x : Str} {p p1 : Pos} (hg : Gl X "tuple") (hm : X.mg "tuple" = none) (hN : X.N[i]? = some x := by rfl) (hv : Vis X.env.scope x := by first | exact Or.inl rfl | exact Or.inr (Or.inl rfl) | exact Or.inr (Or.inr rfl)) (hd : (x == ("__debug__" : Str)) = false := by decide) (hcd : (x == ("__classdict__" : Str)) = false := by decide)
    (hs : starEach [.Name x p1] X.env = (false, eval (.Name x p1) X.env) :: starEach [] X.env := by rfl) (hpl : (backTo pos (starEach [] X.env)).any (·.1) = false := by rfl) : PE X (.Call (.Name "tuple" p) [.Name x p1] [] pos) (tM X.K B W (mOwnT i)) :=
  PE.imp (pe_callTy call_tuple_of hg hm (by kernel_rfl) (pa_cons (pe_var (i := i) hN hv hd hcd) pa_nil hs) (by decide) (by decide) hs hpl) fun σ H Q ⟨G, ρ, e, q⟩ => by
    unfold mOwnT at q
    cases ho : ownOf ρ i with
    | none => rw [ho] at q; exact q.elim
    | some xs =>
      rw [ho] at q
      obtain ⟨l, vs, hv, hl, r, gl, bl⟩ := own_at e (ownOf_some ho)
      exact ⟨_, hv, l, vs, rfl, .inl ⟨.of hl, RG.newT e.sub q r⟩⟩
end
def lcGo (f : D → Ev → Option Ev) (t : Ev → Res Bool) (m : Ev → Res D) (ρ : Ev) : List D → Res (List D)
  | [] => .ok []
  | d :: ds => match f d ρ with
    | none => .stuck
    | some ρ1 => t ρ1 >>= fun k => if k = true then m ρ1 >>= fun y => lcGo f t m ρ ds >>= fun ys => .ok (y :: ys) else lcGo f t m ρ ds
def mYes : Ev → Res Bool := fun _ => .ok true
/-- the names of the comprehension's own, forgotten -/
def wipeE (ρ : Ev) : List Nat → Ev
  | [] => ρ
  | v :: vs => (wipeE ρ vs).set v .no
def fLc (vs : List Nat) (mi : Ev → Res (List D)) (f : D → Ev → Option Ev) (t : Ev → Res Bool) (m : Ev → Res D) : Ev → Res (List D) := fun ρ => mi ρ >>= fun ds => noX (lcGo f t m (wipeE ρ vs) ds) >>= fun ys => chk (ys.length ≤ sizeLine) (.ok ys)
def noW : WX := fun _ _ _ _ => False
theorem PTs.imp {X : Cx} {ifs : List Expr} {t t' : TT} (h : PTs X ifs t) (k : ∀ σ H Q, t' σ H Q → t σ H Q) : PTs X ifs t' := ⟨fun pins s σ H Q I q => h.run pins s σ H Q I (k σ H Q q)⟩
section
variable {X : Cx} {B : Base} {W : WX} {pos : Pos}
theorem mts_nil : PTs X [] (tMT X.K B W mYes) := PTs.imp pts_nil fun σ H Q ⟨G, ρ, e, q⟩ => q G _ H (.refl e.sub) rfl
theorem mts_one {c : Expr} {t : Ev → Res Bool} (h : PT X c (tMT X.K B W t)) : PTs X [c] (tMT X.K B W t) := pts_one h
theorem wipe_get {σ : St} : ∀ {vs : List Nat} {j : Nat}, j ∉ vs → (wipe σ vs)[j]? = σ[j]?
  | [], _, _ => rfl
  | v :: vs, j, h => by
    have hv : v ≠ j := fun z => h (by rw [z]; exact List.mem_cons_self)
    show ((wipe σ vs).set v none)[j]? = _
    rw [List.getElem?_set_ne hv]
    exact wipe_get fun z => h (List.mem_cons_of_mem _ z)
theorem wipe_in {σ : St} : ∀ {vs : List Nat} {j : Nat}, j ∈ vs → j < σ.length → (wipe σ vs)[j]? = some none
  | v :: vs, j, h, hl => by
    show ((wipe σ vs).set v none)[j]? = _
    by_cases z : v = j
    · subst z
      rw [List.getElem?_set_self (by rw [wipe_length]; exact hl)]
    · rw [List.getElem?_set_ne z]
      rcases List.mem_cons.mp h with w | w
      · exact absurd w.symm z
      · exact wipe_in w hl
theorem wipe_agree {σ σ2 : St} {vs : List Nat} (hl : σ2.length = σ.length) (h : ∀ j, j ∉ vs → σ2[j]? = σ[j]?) : wipe σ2 vs = wipe σ vs := by
  refine List.ext_getElem? fun j => ?_
  by_cases z : j ∈ vs
  · by_cases w : j < σ.length
    · rw [wipe_in z w, wipe_in z (by rw [hl]; exact w)]
    · rw [List.getElem?_eq_none (by rw [wipe_length]; omega), List.getElem?_eq_none (by rw [wipe_length]; omega)]
  · rw [wipe_get z, wipe_get z]
    exact h j z
theorem EnvOk.wipe {K : PySem.W.Frag} {G H : Hp} {σ : St} {ρ : Ev} (e : EnvOk K B G σ ρ H) : ∀ vs : List Nat, EnvOk K B G (L2.wipe σ vs) (wipeE ρ vs) H
  | [] => e
  | v :: vs => (EnvOk.wipe e vs).forgetSt v none
/-- what a comprehension makes -/
theorem lc_main {K : PySem.W.Frag} {G H : Hp} {σ : St} {ρ : Ev} {Q : VK} {vs js : List Nat} {mi : Ev → Res (List D)} {f : D → Ev → Option Ev} {t : Ev → Res Bool} {m : Ev → Res D} (hj : ∀ j ∈ js, j ∈ vs) (e : EnvOk K B G σ ρ H) (q : FG K (fun c d H' => W c d σ H') G H Q (fLc vs mi f t m ρ)) :
    tLc (tG (ItOk K) K B W mi) (gM K B js f) (tMT K B noW t) (tM K B noW m) vs σ H Q := by
  refine ⟨G, ρ, e, RG.bindF q fun ds G1 J H1 g r q1 => fun Dd hD => ?_⟩
  have e1 := (e.growN g).wipe vs
  obtain ⟨ys, hys, hz, q2⟩ : ∃ ys, lcGo f t m (wipeE ρ vs) ds = .ok ys ∧ ys.length ≤ sizeLine ∧ FG K (fun c d H' => W c d σ H') G H Q (.ok ys) := by
    have q3 : FG K (fun c d H' => W c d σ H') G H Q (noX (lcGo f t m (wipeE ρ vs) ds) >>= fun ys => chk (ys.length ≤ sizeLine) (.ok ys)) := q1
    cases hr : lcGo f t m (wipeE ρ vs) ds with
    | ok ys =>
      rw [hr] at q3
      obtain ⟨z, q3⟩ := FG.chk (show FG K _ G H Q (chk (ys.length ≤ sizeLine) (.ok ys)) from q3)
      exact ⟨ys, rfl, z, q3⟩
    | exc x => rw [hr] at q3; exact q3.elim
    | stuck => rw [hr] at q3; exact q3.elim
  refine ⟨fun i k H' => k = ds.length - i ∧ i ≤ ds.length ∧ ∃ G' acc accv rest, Grow G1 H1 G' H' ∧ H' Dd = some (.lst accv) ∧ Reps K G' accv acc ∧ G' Dd = none ∧ lcGo f t m (wipeE ρ vs) (ds.drop i) = .ok rest ∧ acc ++ rest = ys,
    ⟨ds.length, rfl, Nat.zero_le _, G1, [], [], ys, .side g.sub hD _, upd_same, .nil, g.sub.free hD, hys, rfl⟩, ?_⟩
  rintro i k H2 ⟨rfl, hl, G2, acc, accv, rest, g2, hD2, r2, gD, hgo, hap⟩
  obtain ⟨k1, k2⟩ := r i G2 H2 g2.g g2.sub
  by_cases hlt : i < ds.length
  · obtain ⟨go, yl⟩ := k2 ds[i] (List.getElem?_eq_getElem hlt)
    rw [List.drop_eq_getElem_cons hlt] at hgo
    refine .inr ⟨go, fun H' => ∃ m', m' < ds.length - i ∧ m' = ds.length - (i + 1) ∧ i + 1 ≤ ds.length ∧ ∃ G' acc accv rest, Grow G1 H1 G' H' ∧ H' Dd = some (.lst accv) ∧ Reps K G' accv acc ∧ G' Dd = none ∧ lcGo f t m (wipeE ρ vs) (ds.drop (i + 1)) = .ok rest ∧ acc ++ rest = ys, fun H' z => z, fun x H3 y => ?_⟩
    obtain ⟨G3, g3, r3⟩ := yl x H3 y
    have hgo' : (match f ds[i] (wipeE ρ vs) with
      | none => Res.stuck
      | some ρ1 => t ρ1 >>= fun k => if k = true then m ρ1 >>= fun y => lcGo f t m (wipeE ρ vs) (ds.drop (i + 1)) >>= fun ys => .ok (y :: ys) else lcGo f t m (wipeE ρ vs) (ds.drop (i + 1))) = .ok rest := hgo
    cases hf : f ds[i] (wipeE ρ vs) with
    | none => rw [hf] at hgo'; cases hgo'
    | some ρ1 =>
      rw [hf] at hgo'
      dsimp only at hgo'
      have g13 := g2.trans g3
      refine ⟨G3, ds[i], _, ρ1, e1.growN g13, r3, hf, fun σ2 e2 l2 o2 => ⟨?_, G3, ρ1, e2, ?_⟩⟩
      · refine (wipe_agree ?_ fun j hjv => ?_)
        · rw [l2, wipe_length]
        · rw [o2 j fun z => hjv (hj j z), wipe_get hjv]
      · cases ht : t ρ1 with
        | exc x => rw [ht] at hgo'; cases hgo'
        | stuck => rw [ht] at hgo'; cases hgo'
        | ok k =>
          rw [ht, ok_bind] at hgo'
          refine fun G4 v H4 g4 r4 => ?_
          have r4' : v = k := r4
          subst r4'
          cases v with
          | false =>
            simp only [Bool.false_eq_true, if_false] at hgo' ⊢
            have g14 := g13.trans g4
            obtain ⟨w1, w2⟩ := (g3.trans g4).keeps hD2 gD
            exact ⟨ds.length - (i + 1), by omega, rfl, hlt, G4, acc, accv, rest, g14, w1, r2.mono (g3.trans g4).g, w2, hgo', hap⟩
          | true =>
            simp only [if_true] at hgo' ⊢
            cases hm : m ρ1 with
            | exc x => rw [hm] at hgo'; cases hgo'
            | stuck => rw [hm] at hgo'; cases hgo'
            | ok y =>
              rw [hm, ok_bind] at hgo'
              cases hl2 : lcGo f t m (wipeE ρ vs) (ds.drop (i + 1)) with
              | exc x => rw [hl2] at hgo'; cases hgo'
              | stuck => rw [hl2] at hgo'; cases hgo'
              | ok rest' =>
                rw [hl2, ok_bind] at hgo'
                cases hgo'
                refine ⟨G4, ρ1, e2.growN g4, ?_⟩
                rw [hm]
                refine fun G5 v H5 g5 r5 => ?_
                have g25 := (g3.trans g4).trans g5
                obtain ⟨w1, w2⟩ := g25.keeps hD2 gD
                have hlen : acc.length < sizeLine := by
                  have := congrArg List.length hap
                  rw [List.length_append, List.length_cons] at this
                  omega
                refine ⟨accv, w1, by rw [r2.length]; exact hlen, ds.length - (i + 1), by omega, rfl, hlt, G5, acc ++ [y], accv ++ [v], rest', ?_, upd_same, (r2.mono g25.g).append (.cons r5 .nil), w2, rfl, by rw [List.append_assoc]; exact hap⟩
                have g15 := g2.trans g25
                exact ⟨g15.g, fun a o z => by rw [upd_ne (ne_of_none z hD)]; exact g15.h _ _ z, fun a o z => by rw [upd_ne (ne_of_none z w2)]; exact g15.sub _ _ z, g15.new⟩
  · have ei : i = ds.length := by omega
    subst ei
    rw [List.drop_length] at hgo
    cases hgo
    rw [List.append_nil] at hap
    subst hap
    exact .inl ⟨k1 (Nat.le_refl _), q2 G2 Dd accv H2 (g.trans g2) hD2 r2 gD (g.h.free hD)⟩
theorem mf_lc {elt tg iter : Expr} {ifs : List Expr} {scope : Scope} {own : List (Str × Nat)} {js : List Nat} {mi : Ev → Res (List D)} {f : D → Ev → Option Ev} {t : Ev → Res Bool} {m : Ev → Res D} (hc : X.calm = true) (ok : BlkOk X.N X.env.scope scope own) (hi : IP X B W tg iter mi)
    (hg : ∀ (s : Shared) (H : Hp) (C : Addr) (cl : List (Str × Addr)) (fp : List Addr), GP (X.blk s H scope (compEnvC scope cl C X.env) fp) B tg js f) (ht : ∀ (s : Shared) (H : Hp) (C : Addr) (cl : List (Str × Addr)) (fp : List Addr), PTs (X.blk s H scope (compEnvC scope cl C X.env) fp) ifs (tMT X.K B noW t))
    (he : ∀ (s : Shared) (H : Hp) (C : Addr) (cl : List (Str × Addr)) (fp : List Addr), PE (X.blk s H scope (compEnvC scope cl C X.env) fp) elt (tM X.K B noW m)) (hj : ∀ j ∈ js, j ∈ own.map (·.2) := by decide) (hN : X.N.Nodup := by decide) (hs : ∀ x, foldedSetIterable iter X.env x = pure x := by intro _; rfl) :
    PE X (.ListComp elt [⟨tg, iter, ifs, 0⟩] scope pos) (tF X.K B W (fLc (own.map (·.2)) mi f t m)) :=
  PE.imp (pe_lc hc hN hi ok hg ht he hs) fun σ H Q ⟨G, ρ, e, q⟩ => lc_main hj e q
/-- name = [e for x in xs], on one line -/
theorem ms_setLc (i : Nat) {y : Str} {py spos : Pos} {elt tg iter : Expr} {ifs : List Expr} {scope : Scope} {own : List (Str × Nat)} {js : List Nat} {mi : Ev → Res (List D)} {f : D → Ev → Option Ev} {t : Ev → Res Bool} {m : Ev → Res D} (hc : X.calm = true) (ok : BlkOk X.N X.env.scope scope own) (hi : IP X B W tg iter mi)
    (hg : ∀ (s : Shared) (H : Hp) (C : Addr) (cl : List (Str × Addr)) (fp : List Addr), GP (X.blk s H scope (compEnvC scope cl C X.env) fp) B tg js f) (ht : ∀ (s : Shared) (H : Hp) (C : Addr) (cl : List (Str × Addr)) (fp : List Addr), PTs (X.blk s H scope (compEnvC scope cl C X.env) fp) ifs (tMT X.K B noW t))
    (he : ∀ (s : Shared) (H : Hp) (C : Addr) (cl : List (Str × Addr)) (fp : List Addr), PE (X.blk s H scope (compEnvC scope cl C X.env) fp) elt (tM X.K B noW m)) (hsw : swapsWith (.ListComp elt [⟨tg, iter, ifs, 0⟩] scope pos) (some (.Name y py)) spos.line X.env = pure true) (hj : ∀ j ∈ js, j ∈ own.map (·.2) := by decide) (hN : X.N.Nodup := by decide)
    (hy : X.N[i]? = some y := by rfl) (hyl : X.env.scope.names.lookup y = some .local := by rfl) (hs : ∀ x, foldedSetIterable iter X.env x = pure x := by intro _; rfl) :
    PS X (.Assign [.Name y py] (.ListComp elt [⟨tg, iter, ifs, 0⟩] scope pos) spos) (tS X.K B W (oSetF i (fLc (own.map (·.2)) mi f t m))) :=
  PS.imp (L2.ps_setLc hc hN hy hyl hsw hi ok hg ht he hs) fun Dn σ H ⟨G, ρ, e, q⟩ => lc_main hj e (setF e q)
end
end PL
namespace PL
open PySem PySem.Spec
open PySem.Calls PyProof PyProof.Rows
open PySem.W (ksEnv ksFn kxs_mw ks_superIn codeIn clsIn findIn subIn mroIn typeIn keepIn nsIn hasDictIn)
abbrev veI : String := "ValueError.__init__"
section
variable {prog : Program} {w : World} {A : Around} {E : Value → Shared → Prop} {h : Heap} {g : Array GenState} {d : Drawn} {t : Nat} {os : OsState}
variable {nm q : Str} {C N : Addr} {bs bm : List Value} {hdct : Bool} {sn : List Str} {sub : List Value} {ab : Bool} {col : Option Bool} {dd : Option Addr} {k0 k1 k2 k3 k5 : Option Value}
/-- ValueError.__init__ bound to the object, called -/
theorem ve_bound {u e t0 : Addr} {us : List Value} {Q : Value → Shared → Prop}
    (hC : h.get? C = some (excClassObj nm q C N bs bm hdct sn sub ab col dd k0 k1 k2 k3 k5 "ValueError.__new__")) (he : h.get? e = some (PySem.HandSPX.excO C t0)) (hu : h.get? u = some (kxs_mw veI e)) (hz : us.length ≤ sizeLine)
    (fin : ∀ h' t1, (∀ b o, b ≠ e → h.get? b = some o → h'.get? b = some o) → h'.get? e = some (PySem.HandSPX.excO C t1) → Q .none ⟨h', g, d, t, os⟩) :
    wpAny (model prog w) A (call (.ref u) us) Q E ⟨h, g, d, t, os⟩ := by
  have FB := PySem.F.excBase_ValueError
  refine wpAny_call (codeAny_of_tree ?_)
  show wpAny _ A.in1 (callAny (.ref u) ⟨us, []⟩) _ _ _
  simp only [callAny]
  refine wpAny_bind (wpAny_load hu ?_)
  have y1 : (Value.type "method-wrapper" == Value.type "method" || Value.type "method-wrapper" == Value.type "builtin_function_or_method" || Value.type "method-wrapper" == Value.type "method-wrapper") = true := by decide
  simp only [kxs_mw, y1, if_true]
  refine PySem.W.KFB.if_so (by decide) ?_
  refine wpAny_bind (PySem.ESX.check_bound FB hC he rfl ?_)
  refine wpAny_bind (wpAny_pure (wpAny_pure ⟨PySem.plainId_quiet FB.init.plain _, codeAny_builtin FB.initEntry ?_⟩))
  exact PySem.W.exc_init_tree (t0 := t0) (cls := .ref C) (dv := none) (c2 := .none) (c3 := .none) (b4 := .bool false) he hz fun h' k e' _ => fin h' _ k e'
end
/-- the text of an __init__ as the written part holds it; file: the module's -/
structure XiT (prog : Program) (K : PySem.W.Frag) (C fI : Addr) (qual : Str) (params : Arguments) (body : List Stmt) (scope : Scope) : Prop where
  cls : ∃ nm q N bs bm sn sub ab col dd k0 k1 k2 k3 k5, K.lookup C = some (excClassObj nm q C N bs bm true sn sub ab col dd k0 k1 k2 k3 k5 "ValueError.__new__") ∧ PySem.HandSPX.refsVE bm = true
  fn : ∃ (oc : Value) (od : Option Addr) (doc pm : Value) (an : Option Addr) (ct : Value) (osl : Array (Option Value)) (cda cc : Addr),
    K.lookup fI = some ⟨oc, od, .func (ksFn "__init__" qual params body scope .none .none doc pm an (.ref cda) ct cc), osl⟩ ∧ codeIn K (.ref cda) qual = true ∧
    (∃ ccl cdd vs ccs file tf, K.lookup cda = some ⟨ccl, cdd, .fields vs, ccs⟩ ∧ vs[2]? = some (.str file tf) ∧ ((prog.main.file : Str) == file) = true) ∧ ∃ cl cld csl, K.lookup cc = some ⟨cl, cld, .cell (some (.ref C)), csl⟩
  sa : findIn K (.ref C) "__setattr__" = some (some (.builtin "object.__setattr__"))
  iC : findIn K (.ref C) "__init__" = some (some (.ref fI))
  tC : typeIn K (.ref fI) = some (.type "function")
  self : mroIn K C (.ref C) = some true
  ve : subIn K (.ref C) (.type "ValueError") = some true
  sup : ks_superIn K C C "__init__" = some (some (.builtin veI))
  opq : nsIn K PySem.cStatics "thirdparty.any" = some none
  top : (prog.main.scope.names.lookup ("super" : Str)).isSome = false
section
variable {prog : Program} {w : World} {A : Around} {E : Value → Shared → Prop} {R : Result → Shared → Prop} {s : Shared} {K : PySem.W.Frag} {C fI : Addr} {qual : Str} {params : Arguments} {body : List Stmt} {scope : Scope}
/-- what a call of __init__ has laid -/
theorem xi_enter (T : XiT prog K C fI qual params body scope) {us : List Value} {bd : List (Str × Value)} (X : K.In s.heap) (hlim : s.heap.NoLimit) (room : A.depth < recursionLimit)
    (hb : ∀ doc pm an cdv ct cc, bindArgs (ksFn "__init__" qual params body scope .none .none doc pm an cdv ct cc) ⟨us, []⟩ = pure bd) (hcell : ∀ x ∈ scope.names, x.2 ≠ .cell) (hloc : ∀ x ∈ bd, scope.names.lookup x.1 = some .local)
    (hco : scope.isCoroutine = false) (hgen : scope.isGenerator = false) (hk : scope.kind = .function)
    (go : ∀ (cda cc L : Addr) (h₀ : Heap) (tk : Nat), h₀.Ns L (fun x => bd.reverse.lookup x) → (∀ b o, s.heap.get? b = some o → h₀.get? b = some o) → L = s.heap.objs.size →
      (∃ ccl cdd vs ccs file tf, K.lookup cda = some ⟨ccl, cdd, .fields vs, ccs⟩ ∧ vs[2]? = some (.str file tf) ∧ ((prog.main.file : Str) == file) = true) → (∃ cl cld csl, K.lookup cc = some ⟨cl, cld, .cell (some (.ref C)), csl⟩) →
      (∃ oc od doc pm an ct osl, K.lookup fI = some ⟨oc, od, .func (ksFn "__init__" qual params body scope .none .none doc pm an (.ref cda) ct cc), osl⟩) →
      _root_.PySem.wpAt (model prog w) (A.deeper (ksEnv qual scope L fI (.ref cda) cc)) (.func body (ksEnv qual scope L fI (.ref cda) cc)) (execs body (ksEnv qual scope L fI (.ref cda) cc)) (fun f s' => R (.ok (.ret (match f with | .ret v => v | _ => .none))) s')
        (fun e s' => wpAny (model prog w) (A.deeper (ksEnv qual scope L fI (.ref cda) cc)) (leaving (ksEnv qual scope L fI (.ref cda) cc) e) (fun _ s'' => R (.error e) s'') (fun e' s'' => R (.error e') s'') s')
        { s with heap := h₀, toks := tk }) : codeAny (model prog w) A (.call (.ref fI) ⟨us, []⟩) R s := by
  obtain ⟨oc, od, doc, pm, an, ct, osl, cda, cc, ho, hcd, file, cell⟩ := T.fn
  exact PySem.ks_codeAny_call_defAt (fd := ksFn "__init__" qual params body scope .none .none doc pm an (.ref cda) ct cc) (body := body) (binds := bd) room (X _ _ ho) rfl hlim (PySem.W.codeRec_of X hcd) rfl (BindsTo.of_eq (hb ..)) hcell hloc
    (fun h₀ ns k => go cda cc s.heap.objs.size h₀ _ ns k rfl file cell ⟨oc, od, doc, pm, an, ct, osl, ho⟩) hco hgen hk
/-- super().__init__(e) -/
theorem xi_super {mg mb : Str → Option Value} {cda cc L x t0 : Addr} {m : Str → Option Value} {ar : Arg} {e : Expr} {p0 p1 p2 p3 p4 : Pos} {Q : Flow → Shared → Prop} (T : XiT prog K C fI qual params body scope) (X : K.In s.heap)
    (file : ∃ ccl cdd vs ccs file tf, K.lookup cda = some ⟨ccl, cdd, .fields vs, ccs⟩ ∧ vs[2]? = some (.str file tf) ∧ ((prog.main.file : Str) == file) = true) (cell : ∃ cl cld csl, K.lookup cc = some ⟨cl, cld, .cell (some (.ref C)), csl⟩)
    (hfn : ∃ oc od doc pm an ct osl, K.lookup fI = some ⟨oc, od, .func (ksFn "__init__" qual params body scope .none .none doc pm an (.ref cda) ct cc), osl⟩) (hg : s.heap.Ns mainGlobals mg) (hbl : s.heap.Ns builtinsNs mb) (nog : mg "super" = none) (bsup : mb "super" = some (.type "super"))
    (hns : s.heap.Ns L m) (hp : (params.posonlyargs ++ params.args).head? = some ar) (hv : m ar.arg = some (.ref x)) (hx : s.heap.get? x = some (PySem.HandSPX.excO C t0)) (hnx : K.lookup x = none)
    (hks : scope.names.lookup ("super" : Str) = some .globalImplicit) (hkc : scope.names.lookup ("__class__" : Str) = some .free) (hka : scope.names.lookup ar.arg = some .local) (hk : scope.kind = .function)
    (hsw : swapsWith (.Call (.Attribute (.Call (.Name "super" p0) [] [] p1) "__init__" p2) [e] [] p3) none p4.line (ksEnv qual scope L fI (.ref cda) cc) = pure false)
    (heq : ∃ pl, eval (.Call (.Attribute (.Call (.Name "super" p0) [] [] p1) "__init__" p2) [e] [] p3) (ksEnv qual scope L fI (.ref cda) cc) = (do
      let ov ← attributeBase (.Call (.Name "super" p0) [] [] p1) "__init__" (ksEnv qual scope L fI (.ref cda) cc) (eval (.Call (.Name "super" p0) [] [] p1) (ksEnv qual scope L fI (.ref cda) cc))
      standAt p2.atName
      let (f, first) ← holding [ov] (getMethod ov "__init__" pl)
      callWith p3 f first (backTo p3 (starEach [e] (ksEnv qual scope L fI (.ref cda) cc))) []))
    (hst : starEach [e] (ksEnv qual scope L fI (.ref cda) cc) = (false, eval e (ksEnv qual scope L fI (.ref cda) cc)) :: starEach [] (ksEnv qual scope L fI (.ref cda) cc)) (hpl : (backTo p3 (starEach [] (ksEnv qual scope L fI (.ref cda) cc))).any (·.1) = false)
    (he : ∀ (s1 : Shared) (Q : Value → Shared → Prop), s1.heap.Ns L m → (∀ v tk, Q v { s1 with toks := tk }) → wpAny (model prog w) A (eval e (ksEnv qual scope L fI (.ref cda) cc)) Q E s1)
    (go : ∀ h' tk t1, (∀ b o, b ≠ x → s.heap.get? b = some o → h'.get? b = some o) → h'.get? x = some (PySem.HandSPX.excO C t1) → Q .next { s with heap := h', toks := tk }) :
    _root_.PySem.wpAt (model prog w) A (.func body (ksEnv qual scope L fI (.ref cda) cc)) (exec (.Expr (.Call (.Attribute (.Call (.Name "super" p0) [] [] p1) "__init__" p2) [e] [] p3) p4) (ksEnv qual scope L fI (.ref cda) cc)) Q E s := by
  obtain ⟨ccl, cdd, vs, ccs, fl, tf, hcode, hvs, hfile⟩ := file
  obtain ⟨cl, cld, csl, hcell⟩ := cell
  obtain ⟨oc, od, doc, pm, an, ct, osl, ho⟩ := hfn
  obtain ⟨nm, q, N, bs, bm, sn, sub, ab, col, dd, k0, k1, k2, k3, k5, hC, hbm⟩ := T.cls
  obtain ⟨pl, heq⟩ := heq
  have hcl : clsIn K C = some { name := nm, bases := bs, mro := .ref C :: bm, ns := N, qualname := q, hasDict := true, slotNames := sn, subclasses := sub, abstract := ab, collection := col, hasDel := false } := by unfold PySem.W.clsIn; rw [hC] <;> rfl
  have hCx : x ≠ C := fun z => by rw [z, hC] at hnx; cases hnx
  obtain ⟨hh, g, d, t, os⟩ := s
  refine PySem.ks_wpAt_Expr_any ?_ (by simp [interactive, hk]) hsw
  refine PySem.ks_wpAt_MethodCall (pl := pl) ?_ heq
  refine PySem.ks_wpAt_super_base (env := ksEnv qual scope L fI (.ref cda) cc) hks hkc (by decide) rfl (X _ _ ho) rfl hp rfl (X _ _ hcode) rfl hvs hfile T.top ?_
  refine PySem.W.ks_loadName_global hk hks (loadGlobal_builtin (env := ksEnv qual scope L fI (.ref cda) cc) hg nog hbl bsup ⟨rfl, ?_⟩)
  refine wpAny_loadName_free hk hkc rfl ⟨_, X _ _ hcell, rfl⟩ ?_
  refine wpAny_loadName_local hk hka hns hv ?_
  refine PySem.ks_wpAny_isType_cls (X _ _ hC) rfl ⟨rfl, ?_⟩
  refine PySem.ks_wpAny_call_super (X _ _ hC) rfl hx rfl (fun c z => by cases z) (PySem.W.looks_mroIn X T.self) fun h1 hso k1 => ?_
  have X1 := X.keeps k1
  have hI : PySem.W.Looks (model prog w) h1 (isInstance (.ref x) (.type "ValueError")) true := (PySem.W.InstAt.type (ox := PySem.HandSPX.excO C t0) (C := C) (od := none) ⟨k1 _ _ hx, rfl, rfl, trivial⟩).andThen (PySem.W.looks_subIn X1 T.ve)
  have hs : PySem.W.alongIn K "__init__" (((.ref C :: bm).dropWhile (· != Value.ref C)).drop 1) = some (some (.builtin veI)) := by
    have z := T.sup
    unfold PySem.W.ks_superIn at z
    rw [hcl] at z
    exact z
  refine PySem.W.kxs_getMethod PySem.W.kxs_ValueError hso (PySem.W.looks_opaque X1 T.opq) (l₀ := .ref C :: bm) (fun A Q E s k q => wpAny_bind ((PySem.W.looks_clsIn X1 hcl) A _ E s k (wpAny_pure q))) rfl X1 hs hI hCx (by decide) ?_
  have hu : (h1.push (kxs_mw veI x)).get? h1.objs.size = some (kxs_mw veI x) := Heap.get?_push_at rfl rfl
  have k2 : ∀ b o, hh.get? b = some o → (h1.push (kxs_mw veI x)).get? b = some o := fun b o e => Heap.get?_push_of_some _ (k1 _ _ e)
  show wpAny _ _ (callWith p3 (Value.ref h1.objs.size) [] (backTo p3 (starEach [e] _)) []) _ _ _
  rw [hst]
  refine PySem.W.kxs_callWith (i := veI) (x := x) (by show (false || (backTo p3 (starEach [] _)).any (·.1)) = false; rw [hpl]; rfl) ?_
  refine evalArgs_plain (spliced_cons (he ⟨h1.push (kxs_mw veI x), g, d, t + 1, os⟩ _ (hns.keeps k2) fun v tk => spliced_nil ⟨hu, ?_⟩))
  refine ve_bound (t0 := t0) (us := [v]) (k2 _ _ (X _ _ hC)) (k2 _ _ hx) hu (by rw [sizeLine_eq]; exact (by decide : 1 ≤ 16777216)) fun h' t1 k3 e' => ?_
  exact go h' tk t1 (fun b o hb q => k3 b o hb (k2 b o q)) e'
/-- self.f = a, the first one -/
theorem xi_new {L x t0 : Addr} {env : Env} {m : Str → Option Value} {f a self : Str} {v : Value} {q1 q2 q3 q4 : Pos} {Q : Flow → Shared → Prop} (T : XiT prog K C fI qual params body scope) (X : K.In s.heap) (hns : s.heap.Ns L m) (hx : s.heap.get? x = some (PySem.HandSPX.excO C t0))
    (hL : env.locals = L) (hk : env.scope.kind = .function) (hf : findIn K (.ref C) f = some none) (ha : m a = some v) (hself : m self = some (.ref x)) (la : env.kindOf a = some .local) (lself : env.kindOf self = some .local)
    (da : (a == ("__debug__" : Str)) = false) (ds : (self == ("__debug__" : Str)) = false) (hsw : swapsWith (.Name a q3) (some (.Attribute (.Name self q1) f q2)) q4.line env = pure false)
    (go : ∀ h' tk dx, (∀ b o, b ≠ x → s.heap.get? b = some o → h'.get? b = some o) → h'.get? x = some ({ cls := .ref C, dict := some dx, data := .fields #[.ref t0, .none, .none, .none, .bool false, .none] } : Obj) → s.heap.objs.size ≤ dx → dx ≠ x → h'.Ns1 dx (fun y => if y = f then some v else none) → Q .next { s with heap := h', toks := tk }) :
    wpAny (model prog w) A (exec (.Assign [.Attribute (.Name self q1) f q2] (.Name a q3) q4) env) Q E s := by
  obtain ⟨nm, q, N, bs, bm, sn, sub, ab, col, dd, k0, k1, k2, k3, k5, hC, hbm⟩ := T.cls
  have hcl : clsIn K C = some { name := nm, bases := bs, mro := .ref C :: bm, ns := N, qualname := q, hasDict := true, slotNames := sn, subclasses := sub, abstract := ab, collection := col, hasDel := false } := by unfold PySem.W.clsIn; rw [hC] <;> rfl
  subst hL
  refine plainObj_wpAny_Assign_Attribute ?_ hsw
  refine wpAny_Name (wpAny_loadName_local hk la hns ha ?_) da
  refine wpAny_Name (wpAny_loadName_local hk lself hns hself ?_) ds
  obtain ⟨hh, g, d, t, os⟩ := s
  refine PySem.W.set_plain X (ox := PySem.HandSPX.excO C t0) (od := none) ⟨hx, rfl, rfl, trivial⟩ T.sa ?_
  exact PySem.HandSPX.exc_osa X hx hcl (show PySem.HandSPX.refsVE (.ref C :: bm) = true from hbm) rfl hf fun h' tk' dx k dn dne hx' hn => go h' tk' dx k hx' dn dne hn
/-- .. a further one -/
theorem xi_more {L x t0 dx : Addr} {env : Env} {m m0 : Str → Option Value} {nl : List Str} {f a self : Str} {v : Value} {q1 q2 q3 q4 : Pos} {Q : Flow → Shared → Prop} (T : XiT prog K C fI qual params body scope) (X : K.In s.heap) (hns : s.heap.Ns L m) (hx : s.heap.get? x = some ({ cls := .ref C, dict := some dx, data := .fields #[.ref t0, .none, .none, .none, .bool false, .none] } : Obj))
    (hd : s.heap.Ns1 dx m0) (hw : Within m0 nl) (hz : nl.length ≤ 1000)
    (hL : env.locals = L) (hk : env.scope.kind = .function) (hf : findIn K (.ref C) f = some none) (ha : m a = some v) (hself : m self = some (.ref x)) (la : env.kindOf a = some .local) (lself : env.kindOf self = some .local)
    (da : (a == ("__debug__" : Str)) = false) (ds : (self == ("__debug__" : Str)) = false) (hsw : swapsWith (.Name a q3) (some (.Attribute (.Name self q1) f q2)) q4.line env = pure false)
    (go : ∀ h' tk, (∀ b o, b ≠ dx → s.heap.get? b = some o → h'.get? b = some o) → h'.Ns1 dx (fun y => if y = f then some v else m0 y) → Q .next { s with heap := h', toks := tk }) :
    wpAny (model prog w) A (exec (.Assign [.Attribute (.Name self q1) f q2] (.Name a q3) q4) env) Q E s := by
  obtain ⟨nm, q, N, bs, bm, sn, sub, ab, col, dd, k0, k1, k2, k3, k5, hC, hbm⟩ := T.cls
  have hcl : clsIn K C = some { name := nm, bases := bs, mro := .ref C :: bm, ns := N, qualname := q, hasDict := true, slotNames := sn, subclasses := sub, abstract := ab, collection := col, hasDel := false } := by unfold PySem.W.clsIn; rw [hC] <;> rfl
  subst hL
  refine plainObj_wpAny_Assign_Attribute ?_ hsw
  refine wpAny_Name (wpAny_loadName_local hk la hns ha ?_) da
  refine wpAny_Name (wpAny_loadName_local hk lself hns hself ?_) ds
  obtain ⟨hh, g, d, t, os⟩ := s
  obtain ⟨oD, _, _, hoD, _, _⟩ := hd.count hw
  refine PySem.W.set_plain X (ox := { cls := .ref C, dict := some dx, data := .fields #[.ref t0, .none, .none, .none, .bool false, .none] }) (od := some oD) ⟨hx, rfl, rfl, hoD⟩ T.sa ?_
  exact PySem.OEX.osa_old X hx hd hw hz hcl (show PySem.HandSPX.refsVE (.ref C :: bm) = true from hbm) rfl hf fun h' tk' k hn => go h' tk' k hn
/-- the text: a constant, or a constant with a parameter behind it -/
theorem xt_con {env : Env} {x : Str} {j : Nat} {p : Pos} {L : Addr} {m : Str → Option Value} : ∀ (s1 : Shared) (Q : Value → Shared → Prop), s1.heap.Ns L m → (∀ v tk, Q v { s1 with toks := tk }) → wpAny (model prog w) A (eval (.Constant (.str x) j p) env) Q E s1 :=
  fun s1 Q _ h => Constant_str (h _ _)
theorem xt_add {env : Env} {x n y : Str} {tn : Tok} {j : Nat} {p1 p2 p3 : Pos} {L : Addr} {m : Str → Option Value} (hL : env.locals = L) (hk : env.scope.kind = .function) (hn : m n = some (.str y tn)) (ln : env.kindOf n = some .local) (dn : (n == ("__debug__" : Str)) = false) (hz : x.length + y.length ≤ sizeLine) :
    ∀ (s1 : Shared) (Q : Value → Shared → Prop), s1.heap.Ns L m → (∀ v tk, Q v { s1 with toks := tk }) → wpAny (model prog w) A (eval (.BinOp (.Constant (.str x) j p1) .Add (.Name n p2) p3) env) Q E s1 := by
  intro s1 Q hns h
  subst hL
  refine wpAny_BinOp (Constant_str (wpAny_Name (wpAny_loadName_local hk ln (show Heap.Ns _ _ _ from hns) hn ?_) dn))
  exact add_str (fun t' tk => h _ _) hz
end
/-- what a made error is -/
structure XMade (h h' : Heap) (e C d : Addr) (nl : List Str) (mA : Str → Option Value) : Prop where
  keep : ∀ b o, h.get? b = some o → h'.get? b = some o
  new : h.objs.size ≤ e
  obj : ∃ oe vs, h'.get? e = some oe ∧ oe.cls = .ref C ∧ oe.dict = some d ∧ oe.data = .fields vs ∧ vs[1]? = some .none
  dbig : h.objs.size ≤ d
  dne : d ≠ e
  ns : h'.Ns1 d mA
/-- the scope and the parameters of such an __init__ -/
structure XSc (scope : Scope) : Prop where
  cell : ∀ x ∈ scope.names, x.2 ≠ .cell
  co : scope.isCoroutine = false
  gen : scope.isGenerator = false
  kind : scope.kind = .function
  sup : scope.names.lookup ("super" : Str) = some .globalImplicit
  cls : scope.names.lookup ("__class__" : Str) = some .free
  self : scope.names.lookup ("self" : Str) = some .local
section
variable {prog : Program} {w : World} {A : Around} {E : Value → Shared → Prop} {R : Result → Shared → Prop} {s : Shared} {K : PySem.W.Frag} {C fI : Addr} {qual : Str} {params : Arguments} {body : List Stmt} {scope : Scope}
/-- C(..) where the __init__ at fI does its work -/
theorem x_made (T : XiT prog K C fI qual params body scope) {us : List Value} {nl : List Str} {mA : Str → Option Value} (X : K.In s.heap) (hz : us.length ≤ 1000)
    (run : ∀ (A' : Around) (s' : Shared) (x t0 : Addr) (R' : Result → Shared → Prop), A'.depth = A.depth + 1 → K.In s'.heap → K.lookup x = none → (∀ b o, s.heap.get? b = some o → s'.heap.get? b = some o) → s'.heap.get? x = some (PySem.HandSPX.excO C t0) →
      (∀ h' tk dx t1, (∀ b o, b ≠ x → s'.heap.get? b = some o → h'.get? b = some o) → h'.get? x = some ({ cls := .ref C, dict := some dx, data := .fields #[.ref t1, .none, .none, .none, .bool false, .none] } : Obj) → s'.heap.objs.size ≤ dx → dx ≠ x → h'.Ns1 dx mA → R' (.ok (.ret .none)) { s' with heap := h', toks := tk }) →
      codeAny (model prog w) A' (.call (.ref fI) ⟨.ref x :: us, []⟩) R' s')
    (hq : ∀ h' tk e d, XMade s.heap h' e C d nl mA → R (.ok (.ret (.ref e))) { s with heap := h', toks := tk }) : codeAny (model prog w) A (.call (.ref C) ⟨us, []⟩) R s := by
  obtain ⟨nm, q, N, bs, bm, sn, sub, ab, col, dd, k0, k1, k2, k3, k5, hC, hbm⟩ := T.cls
  obtain ⟨hp, g, dr, tk, os⟩ := s
  have k : ∀ b o, hp.get? b = some o → ((hp.push (PySem.W.kdv_tup us)).push (PySem.HandSPX.excO C hp.objs.size)).get? b = some o := fun b o e => Heap.get?_push_of_some _ (Heap.get?_push_of_some _ e)
  have hget : ((hp.push (PySem.W.kdv_tup us)).push (PySem.HandSPX.excO C hp.objs.size)).get? (hp.objs.size + 1) = some (PySem.HandSPX.excO C hp.objs.size) := by heap_get
  have hnx : K.lookup (hp.objs.size + 1) = none := by
    cases e : K.lookup (hp.objs.size + 1) with
    | none => rfl
    | some o =>
      have z : hp.get? (hp.objs.size + 1) = some o := X _ _ e
      exact absurd (Nat.lt_of_succ_lt (Heap.lt_size z)) (Nat.lt_irrefl _)
  refine PySem.HandSPX.call_own PySem.F.excBase_ValueError (fun X => PySem.HandSPX.refsVE_contains X bm hbm) (X _ _ hC) (PySem.W.looks_findIn X T.iC) (fun self => PySem.W.bind_fn X self T.tC) (by rw [sizeLine_eq]; omega) ?_
  refine run _ ⟨(hp.push (PySem.W.kdv_tup us)).push (PySem.HandSPX.excO C hp.objs.size), g, dr, tk, os⟩ _ _ _ (by first | rfl | simp [Around.under, Code.weight, Code.isCreation, Code.isGuard, Code.isCaller, Code.frames, Code.isFrame, guardIds]) (X.keeps k) hnx k hget fun h' tk' dx t1 k' hx dn dne hns => ?_
  have old : ∀ b o, hp.get? b = some o → h'.get? b = some o := fun b o e => k' b o (Nat.ne_of_lt (Nat.lt_succ_of_lt (Heap.lt_size e))) (k b o e)
  have z : hp.objs.size + 1 + 1 ≤ dx := by
    first
      | (simpa only [Heap.size_push] using dn)
      | exact dn
      | (have q := dn; rw [Heap.size_push, Heap.size_push] at q; exact q)
  exact ⟨rfl, hq h' tk' (hp.objs.size + 1) dx ⟨old, Nat.le_succ _, ⟨_, _, hx, rfl, rfl, rfl, rfl⟩, Nat.le_trans (Nat.le_trans (Nat.le_succ _) (Nat.le_succ _)) z, dne, hns⟩⟩
end
abbrev supE (e : Expr) (p0 p1 p2 p3 : Pos) : Expr := .Call (.Attribute (.Call (.Name "super" p0) [] [] p1) "__init__" p2) [e] [] p3
abbrev stoE (f a : Str) (q1 q2 q3 q4 : Pos) : Stmt := .Assign [.Attribute (.Name "self" q1) f q2] (.Name a q3) q4
/-- what the walk asks of the super statement's text -/
structure SupOk (e : Expr) (p0 p1 p2 p3 p4 : Pos) : Prop where
  sw : ∀ env, swapsWith (supE e p0 p1 p2 p3) none p4.line env = pure false
  eq : ∀ env, ∃ pl, eval (supE e p0 p1 p2 p3) env = (do
      let ov ← attributeBase (.Call (.Name "super" p0) [] [] p1) "__init__" env (eval (.Call (.Name "super" p0) [] [] p1) env)
      standAt p2.atName
      let (f, first) ← holding [ov] (getMethod ov "__init__" pl)
      callWith p3 f first (backTo p3 (starEach [e] env)) [])
  st : ∀ env, starEach [e] env = (false, eval e env) :: starEach [] env
  pl : ∀ env, (backTo p3 (starEach [] env)).any (·.1) = false
section
variable {prog : Program} {w : World} {A : Around} {E : Value → Shared → Prop} {R : Result → Shared → Prop} {s : Shared} {K : PySem.W.Frag} {mg : Str → Option Value} {base : Heap} {C fI : Addr} {qual : Str} {params : Arguments} {scope : Scope} {f1 a1 f2 a2 tx : Str} {j : Nat} {p0 p1 p2 p3 p4 t1 t2 t3 q1 q2 q3 q4 r1 r2 r3 r4 : Pos} {ar : Arg}
theorem xi_run1 (T : XiT prog K C fI qual params [.Expr (supE (.Constant (.str tx) j t1) p0 p1 p2 p3) p4, stoE f1 a1 q1 q2 q3 q4] scope) (S : XSc scope) (SO : SupOk (.Constant (.str tx) j t1) p0 p1 p2 p3 p4) (l1 : scope.names.lookup a1 = some .local)
    (hp : (params.posonlyargs ++ params.args).head? = some ar) (har : ar.arg = "self") (h1 : findIn K (.ref C) f1 = some none) (n1 : (("self" : Str) == a1) = false) (d1 : (a1 == ("__debug__" : Str)) = false) (sw1 : ∀ env, swapsWith (.Name a1 q3) (some (.Attribute (.Name "self" q1) f1 q2)) q4.line env = pure false)
    (hb : ∀ x v doc pm an cdv ct cc, bindArgs (ksFn "__init__" qual params [.Expr (supE (.Constant (.str tx) j t1) p0 p1 p2 p3) p4, stoE f1 a1 q1 q2 q3 q4] scope .none .none doc pm an cdv ct cc) ⟨[x, v], []⟩ = pure [(("self" : Str), x), (a1, v)])
    (M : L2.Mod K mg base) (nog : mg "super" = none) (v : Value) (A' : Around) (s' : Shared) (x t0 : Addr) (R' : Result → Shared → Prop) (room : A'.depth < recursionLimit) (X : K.In s'.heap) (kb : ∀ b o, base.get? b = some o → s'.heap.get? b = some o) (hlim : s'.heap.NoLimit) (hnx : K.lookup x = none) (hx : s'.heap.get? x = some (PySem.HandSPX.excO C t0))
    (hq : ∀ h' tk dx t1, (∀ b o, b ≠ x → s'.heap.get? b = some o → h'.get? b = some o) → h'.get? x = some ({ cls := .ref C, dict := some dx, data := .fields #[.ref t1, .none, .none, .none, .bool false, .none] } : Obj) → s'.heap.objs.size ≤ dx → dx ≠ x → h'.Ns1 dx (fun y => if y = f1 then some v else none) → R' (.ok (.ret .none)) { s' with heap := h', toks := tk }) :
    codeAny (model prog w) A' (.call (.ref fI) ⟨[.ref x, v], []⟩) R' s' := by
  obtain ⟨mb, hb1, hb2⟩ := M.blt
  have hsa : (a1 == ("self" : Str)) = false := by
    rw [beq_eq_false_iff_ne] at n1 ⊢
    exact fun z => n1 z.symm
  refine xi_enter T X hlim room (bd := [("self", .ref x), (a1, v)]) (fun _ _ _ _ _ _ => hb _ _ _ _ _ _ _ _) S.cell (fun y hy => ?_) S.co S.gen S.kind fun cda cc L h₀ tk ns k hL file cell hfn => ?_
  · rcases List.mem_cons.mp hy with rfl | hy
    · exact S.self
    · rcases List.mem_cons.mp hy with rfl | hy
      · exact l1
      · cases hy
  · have X0 := X.keeps k
    have hxL : L ≠ x := by rw [hL]; exact Nat.ne_of_gt (Heap.lt_size hx)
    have mself : (fun y => ([("self", .ref x), (a1, v)] : List (Str × Value)).reverse.lookup y) ar.arg = some (.ref x) := by
      rw [har]
      show List.lookup _ [(a1, v), (("self" : Str), Value.ref x)] = _
      rw [List.lookup_cons, n1, List.lookup_cons_self]
    have ma : (fun y => ([("self", .ref x), (a1, v)] : List (Str × Value)).reverse.lookup y) a1 = some v := List.lookup_cons_self
    refine PySem.ks_wpAt_execs_cons ?_
    refine xi_super T X0 file cell hfn (M.glob.keeps fun b o q => k b o (kb b o q)) (hb1.keeps fun b o q => k b o (kb b o q)) nog ((hb2 _ (by decide)).trans (by kernel_rfl)) ns hp mself (k _ _ hx) hnx S.sup S.cls (by rw [har]; exact S.self) S.kind (SO.sw _) (SO.eq _) (SO.st _) (SO.pl _) xt_con fun h2 tk2 t2 k2 hx2 => ?_
    have ns2 : h2.Ns L _ := ns.at fun o q => k2 L o hxL q
    have X2 : K.In h2 := fun b o q => k2 b o (fun z => by rw [z, hnx] at q; cases q) (X0 b o q)
    refine PySem.ks_wpAt_execs_cons (_root_.PySem.wpAt_of_wpAny ?_)
    refine xi_new (v := v) T X2 ns2 hx2 rfl S.kind h1 ma (by rw [har] at mself; exact mself) l1 S.self d1 (by decide) (sw1 _) fun h3 tk3 dx k3 hx3 dn dne hn => ?_
    refine _root_.PySem.wpAt_of_wpAny (wpAny_execs_nil ?_)
    refine hq h3 tk3 dx t2 (fun b o hbx q => k3 b o hbx (k2 b o hbx (k b o q))) hx3 ?_ dne hn
    have z1 : s'.heap.objs.size < h2.objs.size := by rw [← hL]; exact ns2.lt
    exact Nat.le_of_lt (Nat.lt_of_lt_of_le z1 dn)
theorem xi_run2 (T : XiT prog K C fI qual params [.Expr (supE (.BinOp (.Constant (.str tx) j t1) .Add (.Name a1 t2) t3) p0 p1 p2 p3) p4, stoE f1 a1 q1 q2 q3 q4, stoE f2 a2 r1 r2 r3 r4] scope) (S : XSc scope) (SO : SupOk (.BinOp (.Constant (.str tx) j t1) .Add (.Name a1 t2) t3) p0 p1 p2 p3 p4) (l1 : scope.names.lookup a1 = some .local) (l2 : scope.names.lookup a2 = some .local)
    (hp : (params.posonlyargs ++ params.args).head? = some ar) (har : ar.arg = "self") (h1 : findIn K (.ref C) f1 = some none) (h2 : findIn K (.ref C) f2 = some none) (n1 : (("self" : Str) == a1) = false) (n2 : (("self" : Str) == a2) = false) (n12 : (a1 == a2) = false) (d1 : (a1 == ("__debug__" : Str)) = false) (d2 : (a2 == ("__debug__" : Str)) = false)
    (sw1 : ∀ env, swapsWith (.Name a1 q3) (some (.Attribute (.Name "self" q1) f1 q2)) q4.line env = pure false) (sw2 : ∀ env, swapsWith (.Name a2 r3) (some (.Attribute (.Name "self" r1) f2 r2)) r4.line env = pure false)
    (hb : ∀ x v u doc pm an cdv ct cc, bindArgs (ksFn "__init__" qual params [.Expr (supE (.BinOp (.Constant (.str tx) j t1) .Add (.Name a1 t2) t3) p0 p1 p2 p3) p4, stoE f1 a1 q1 q2 q3 q4, stoE f2 a2 r1 r2 r3 r4] scope .none .none doc pm an cdv ct cc) ⟨[x, v, u], []⟩ = pure [(("self" : Str), x), (a1, v), (a2, u)])
    (M : L2.Mod K mg base) (nog : mg "super" = none) (y : Str) (ty : Tok) (u : Value) (hz : tx.length + y.length ≤ sizeLine) (A' : Around) (s' : Shared) (x t0 : Addr) (R' : Result → Shared → Prop) (room : A'.depth < recursionLimit) (X : K.In s'.heap) (kb : ∀ b o, base.get? b = some o → s'.heap.get? b = some o) (hlim : s'.heap.NoLimit) (hnx : K.lookup x = none) (hx : s'.heap.get? x = some (PySem.HandSPX.excO C t0))
    (hq : ∀ h' tk dx t1, (∀ b o, b ≠ x → s'.heap.get? b = some o → h'.get? b = some o) → h'.get? x = some ({ cls := .ref C, dict := some dx, data := .fields #[.ref t1, .none, .none, .none, .bool false, .none] } : Obj) → s'.heap.objs.size ≤ dx → dx ≠ x → h'.Ns1 dx (fun z => if z = f2 then some u else if z = f1 then some (.str y ty) else none) → R' (.ok (.ret .none)) { s' with heap := h', toks := tk }) :
    codeAny (model prog w) A' (.call (.ref fI) ⟨[.ref x, .str y ty, u], []⟩) R' s' := by
  obtain ⟨mb, hb1, hb2⟩ := M.blt
  refine xi_enter T X hlim room (bd := [("self", .ref x), (a1, .str y ty), (a2, u)]) (fun _ _ _ _ _ _ => hb _ _ _ _ _ _ _ _ _) S.cell (fun y hy => ?_) S.co S.gen S.kind fun cda cc L h₀ tk ns k hL file cell hfn => ?_
  · rcases List.mem_cons.mp hy with rfl | hy
    · exact S.self
    · rcases List.mem_cons.mp hy with rfl | hy
      · exact l1
      · rcases List.mem_cons.mp hy with rfl | hy
        · exact l2
        · cases hy
  · have X0 := X.keeps k
    have hxL : L ≠ x := by rw [hL]; exact Nat.ne_of_gt (Heap.lt_size hx)
    have mself : (fun z => ([("self", .ref x), (a1, Value.str y ty), (a2, u)] : List (Str × Value)).reverse.lookup z) ar.arg = some (.ref x) := by
      rw [har]
      show List.lookup _ [(a2, u), (a1, Value.str y ty), (("self" : Str), Value.ref x)] = _
      rw [List.lookup_cons, n2, List.lookup_cons, n1, List.lookup_cons_self]
    have ma1 : (fun z => ([("self", .ref x), (a1, Value.str y ty), (a2, u)] : List (Str × Value)).reverse.lookup z) a1 = some (.str y ty) := by
      show List.lookup _ [(a2, u), (a1, Value.str y ty), (("self" : Str), Value.ref x)] = _
      rw [List.lookup_cons, n12, List.lookup_cons_self]
    have ma2 : (fun z => ([("self", .ref x), (a1, Value.str y ty), (a2, u)] : List (Str × Value)).reverse.lookup z) a2 = some u := List.lookup_cons_self
    refine PySem.ks_wpAt_execs_cons ?_
    refine xi_super T X0 file cell hfn (M.glob.keeps fun b o q => k b o (kb b o q)) (hb1.keeps fun b o q => k b o (kb b o q)) nog ((hb2 _ (by decide)).trans (by kernel_rfl)) ns hp mself (k _ _ hx) hnx S.sup S.cls (by rw [har]; exact S.self) S.kind (SO.sw _) (SO.eq _) (SO.st _) (SO.pl _) (xt_add rfl S.kind ma1 l1 d1 hz) fun h2 tk2 t2 k2 hx2 => ?_
    have ns2 : h2.Ns L _ := ns.at fun o q => k2 L o hxL q
    have X2 : K.In h2 := fun b o q => k2 b o (fun z => by rw [z, hnx] at q; cases q) (X0 b o q)
    refine PySem.ks_wpAt_execs_cons (_root_.PySem.wpAt_of_wpAny ?_)
    have mself' := mself
    rw [har] at mself'
    refine xi_new (v := .str y ty) T X2 ns2 hx2 rfl S.kind h1 ma1 mself' l1 S.self d1 (by decide) (sw1 _) fun h3 tk3 dx k3 hx3 dn dne hn => ?_
    have ns3 : h3.Ns L _ := ns2.at fun o q => k3 L o hxL q
    have X3 : K.In h3 := fun b o q => k3 b o (fun z => by rw [z, hnx] at q; cases q) (X2 b o q)
    refine PySem.ks_wpAt_execs_cons (_root_.PySem.wpAt_of_wpAny ?_)
    have hd2 : h2.objs.size ≤ dx := dn
    refine xi_more (v := u) (nl := [f1]) (m0 := fun z => if z = f1 then some (.str y ty) else none) T X3 ns3 hx3 hn (Within.cons f1 _ Within.nil) (by rw [List.length_singleton]; omega) rfl S.kind ‹findIn K (.ref C) f2 = some none› ma2 mself' l2 S.self d2 (by decide) (sw2 _) fun h4 tk4 k4 hn4 => ?_
    refine _root_.PySem.wpAt_of_wpAny (wpAny_execs_nil ?_)
    have old : ∀ b o, b ≠ x → s'.heap.get? b = some o → h4.get? b = some o := fun b o hbx q => k4 b o (Nat.ne_of_lt (Nat.lt_of_lt_of_le (Heap.lt_size (k2 b o hbx (k b o q))) hd2)) (k3 b o hbx (k2 b o hbx (k b o q)))
    refine hq h4 tk4 dx t2 old (k4 _ _ (Ne.symm dne) hx3) ?_ dne hn4
    have z1 : s'.heap.objs.size < h2.objs.size := by rw [← hL]; exact ns2.lt
    exact Nat.le_of_lt (Nat.lt_of_lt_of_le z1 dn)
end
end PL
namespace PL
open PySem PySem.Spec L2
open PyProof.Rows (b2i)
def XG (K : PySem.W.Frag) (E : XK) (G H : Hp) (Q : XK) : Res Err → Prop
  | .ok er => ∀ G' cls dx H', Grow G H G' H' → ErrOk K G' H' cls dx er → Q cls dx H'
  | .exc er => ∀ G' cls dx H', Grow G H G' H' → ErrOk K G' H' cls dx er → E cls dx H'
  | .stuck => False
def tX (K : PySem.W.Frag) (B : Base) (W : WX) (mx : Ev → Res Err) : St → Hp → XK → Prop := fun σ H Q => ∃ G ρ, EnvOk K B G σ ρ H ∧ XG K (fun c d H' => W c d σ H') G H Q (mx ρ)
def oRaise (mx : Ev → Res Err) : Ev → Out := fun ρ => match mx ρ with
  | .ok er => .exc er ρ
  | .exc er => .exc er ρ
  | .stuck => .stuck
theorem XG.bind {α β : Type} {R : Hp → β → α → Prop} {K : PySem.W.Frag} {E : XK} {G H : Hp} {Q : XK} {r : Res α} {f : α → Res Err} {P : β → Hp → Prop} (h : XG K E G H Q (r >>= f)) (k : ∀ a G1 v H1, Grow G H G1 H1 → R G1 v a → XG K E G H Q (f a) → P v H1) : RG R K E G H P r := by
  cases r with
  | ok a => exact fun G1 v H1 g r => k a G1 v H1 g r h
  | exc e => exact h
  | stuck => exact h
theorem XG.chk {K : PySem.W.Frag} {E : XK} {G H : Hp} {Q : XK} {p : Prop} [Decidable p] {r : Res Err} (h : XG K E G H Q (chk p r)) : p ∧ XG K E G H Q r := by
  unfold PL.chk at h
  by_cases z : p
  · rw [if_pos z] at h; exact ⟨z, h⟩
  · rw [if_neg z] at h; exact h.elim
theorem ms_raise {X : Cx} {B : Base} {W : WX} {e : Expr} {mx : Ev → Res Err} {pos : Pos} (hc : X.calm = true) (tk : Takes X W) (he : PMk X e (tX X.K B W mx)) : PS X (.Raise (some e) none pos) (tS X.K B W (oRaise mx)) :=
  PS.imp (ps_raise hc tk he) fun Dn σ H ⟨G, ρ, e, q⟩ => ⟨G, ρ, e, by
    unfold oRaise at q
    cases hm : mx ρ with
    | ok er => rw [hm] at q; exact fun G' c d H' g k => q G' σ H' c d (e.growN g) k
    | exc er => rw [hm] at q; exact fun G' c d H' g k => q G' σ H' c d (e.growN g) k
    | stuck => rw [hm] at q; exact q⟩
/-- a class without an __init__ of its own -/
structure X0F (T : Tk) (c : Cl) : Prop where
  ex : PySem.W.excIn T.K (ca T.K c) [.type "ValueError", .type "Exception", .type "BaseException", .type "object"] "ValueError.__new__" = true
  g : T.mg c.s = some (.ref (ca T.K c))
  kp : PySem.W.keepIn T.K (.ref (ca T.K c)) = true
  eb : PySem.W.subIn T.K (.ref (ca T.K c)) (.type "BaseException") = some true
  ty : PySem.W.typeIn T.K (.ref (ca T.K c)) = some (.type "type")
  xc : XcF T.K c
def mX0 (c : Cl) : Ev → Res Err := fun _ => .ok ⟨c, []⟩
theorem mx_0 {X : Cx} {B : Base} {W : WX} {c : Cl} {x m : Str} {j : Nat} {p p2 pos : Pos} (F : X0F (tkOf X) c) (hg : Gl X x) (hx : c.s = x := by rfl) (hdb : (x == ("__debug__" : Str)) = false := by decide) :
    PMk X (.Call (.Name x p) [.Constant (.str m) j p2] [] pos) (tX X.K B W (mX0 c)) := by
  subst hx
  intro pins s σ H Q I ⟨G, ρ, e, q⟩
  exact pmk_own PySem.F.excBase_ValueError F.ex F.g F.kp (raises_own F.eb F.ty) hg hdb pins s σ H Q I (q G _ _ H (.refl e.sub) ⟨rfl, ⟨F.xc, fun p hp => by cases hp⟩, .inl ⟨rfl, rfl⟩⟩)
/-- the error stands, its dict is the data's -/
theorem x_end {X : Cx} {pins : List (Addr × Obj)} {σ : St} {H1 : Hp} {hp h' : Heap} {g : Array GenState} {dr : Drawn} {tk tk' : Nat} {os : OsState} {Q : XK} {e C d : Addr} {nl : List Str} {mA : Str → Option Value} {fv : List (Str × V)}
    (I1 : Inv X pins σ H1 ⟨hp, g, dr, tk, os⟩) (M : XMade hp h' e C d nl mA) (rel : ∀ f, RelO (fv.lookup f) (mA f)) (r : Raises X (.ref C)) (q : H1 d = none → Q (.ref C) (some d) (upd H1 d (.xd fv))) : MkP X pins σ Q (.ref e) ⟨h', g, dr, tk', os⟩ := by
  obtain ⟨oe, us, hoe, hc, hd, hdat, h1⟩ := M.obj
  have hns := M.ns
  obtain ⟨G', g1, g2⟩ := restrict h' fun b => decide (b ≠ e)
  have gk : ∀ b, b ≠ e → G'.get? b = h'.get? b := fun b hb => g1 b (decide_eq_true hb)
  have ge : G'.get? e = none := g2 e (by simp)
  have kept : ∀ b o, hp.get? b = some o → G'.get? b = some o := fun b o z => (gk b (Nat.ne_of_lt (Nat.lt_of_lt_of_le (Heap.lt_size z) M.new))).trans (M.keep b o z)
  have ob : ObjOk X.prog X.w (upd H1 d (.xd fv)) G' d (.xd fv) := ⟨_, hns.at (fun o z => (gk d M.dne).trans z), rel⟩
  have J : Inv X pins σ (upd H1 d (.xd fv)) ⟨G', g, dr, tk', os⟩ := I1.laid (t' := tk') kept M.dbig ob
  refine ⟨e, oe, us, ⟨G', g, dr, tk', os⟩, _, .ref C, some d, rfl, J, fun b o z => ?_, ge, hoe, ⟨hc, hd⟩, hdat, h1, ?_, rfl, I1.bare, r, q (I1.hok.fresh M.dbig)⟩
  · by_cases hb : b = e
    · have z' : G'.get? b = some o := z
      rw [hb, ge] at z'; cases z'
    · exact (gk b hb).symm.trans z
  · rw [upd_ne (Ne.symm M.dne)]
    exact I1.hok.fresh M.new
/-- a class with an __init__ that keeps one thing, two things -/
structure X1F (T : Tk) (c : Cl) (f : Nm) : Prop where
  g : T.mg c.s = some (.ref (ca T.K c))
  kp : PySem.W.keepIn T.K (.ref (ca T.K c)) = true
  eb : PySem.W.subIn T.K (.ref (ca T.K c)) (.type "BaseException") = some true
  ty : PySem.W.typeIn T.K (.ref (ca T.K c)) = some (.type "type")
  xc : XcF T.K c
  n1 : PySem.W.findIn T.K (.ref (ca T.K c)) f.s = some none
  made : ∀ (A : Around) (s : Shared) (R : Result → Shared → Prop) (v : Value), T.K.In s.heap → (∀ b o, T.base.get? b = some o → s.heap.get? b = some o) → s.heap.NoLimit → A.depth + 1 < recursionLimit → L2.Mod T.K T.mg T.base →
    (∀ h' tk e d, XMade s.heap h' e (ca T.K c) d [] (fun y => if y = f.s then some v else none) → R (.ok (.ret (.ref e))) { s with heap := h', toks := tk }) → codeAny (model T.P T.w) A (.call (.ref (ca T.K c)) ⟨[v], []⟩) R s
structure X2F (T : Tk) (c : Cl) (n : Nat) (f f' : Nm) : Prop where
  g : T.mg c.s = some (.ref (ca T.K c))
  kp : PySem.W.keepIn T.K (.ref (ca T.K c)) = true
  eb : PySem.W.subIn T.K (.ref (ca T.K c)) (.type "BaseException") = some true
  ty : PySem.W.typeIn T.K (.ref (ca T.K c)) = some (.type "type")
  xc : XcF T.K c
  n1 : PySem.W.findIn T.K (.ref (ca T.K c)) f.s = some none
  n2 : PySem.W.findIn T.K (.ref (ca T.K c)) f'.s = some none
  ne : f ≠ f'
  made : ∀ (A : Around) (s : Shared) (R : Result → Shared → Prop) (y : Str) (ty : Tok) (u : Value), n + y.length ≤ sizeLine → T.K.In s.heap → (∀ b o, T.base.get? b = some o → s.heap.get? b = some o) → s.heap.NoLimit → A.depth + 1 < recursionLimit → L2.Mod T.K T.mg T.base →
    (∀ h' tk e d, XMade s.heap h' e (ca T.K c) d [] (fun z => if z = f'.s then some u else if z = f.s then some (.str y ty) else none) → R (.ok (.ret (.ref e))) { s with heap := h', toks := tk }) → codeAny (model T.P T.w) A (.call (.ref (ca T.K c)) ⟨[.str y ty, u], []⟩) R s
def xF1 (c : Cl) (f : Nm) : List D → Res Err
  | [d] => .ok ⟨c, [(f, d)]⟩
  | _ => .stuck
def xF2 (c : Cl) (n : Nat) (f f' : Nm) : List D → Res Err
  | [.str y, d] => chk (n + y.length ≤ sizeLine) (.ok ⟨c, [(f, .str y), (f', d)]⟩)
  | _ => .stuck
def mX (g : List D → Res Err) (ms : Ev → Res (List D)) : Ev → Res Err := fun ρ => ms ρ >>= g
section
variable {X : Cx} {B : Base} {W : WX} {c : Cl} {f f' : Nm} {n k : Nat} {x : Str} {e e' : Expr} {ms : Ev → Res (List D)} {p pos : Pos}
theorem x_laid {K : PySem.W.Frag} {G H : Hp} (s : Ext G H) {d : Addr} (hd : H d = none) (fv : List (Str × V)) : Grow G H G (upd H d (.xd fv)) := .side s hd _
theorem mx_1 (F : X1F (tkOf X) c f) (hr : Room k X.A) (hg : Gl X x) (ha : PA X [e] (tMA X.K B W ms)) (hx : c.s = x := by rfl) (hdb : (x == ("__debug__" : Str)) = false := by decide)
    (he : starEach [e] X.env = (false, eval e X.env) :: starEach [] X.env := by rfl) (hpl : (backTo pos (starEach [] X.env)).any (·.1) = false := by rfl) : PMk X (.Call (.Name x p) [e] [] pos) (tX X.K B W (mX (xF1 c f) ms)) := by
  subst hx
  intro pins s σ H Q I ⟨G, ρ, e0, q⟩
  refine wpAny_Call_Name_kw (ld_glob I hg F.g ?_ hdb)
  refine PySem.W.callWith_K (h₀ := X.base) I.ok.mod.kin F.kp (thn (ha.run pos pins s σ H (fun vs H1 => ∃ G1 ds, Grow G H G1 H1 ∧ Reps X.K G1 vs ds ∧ XG X.K (fun c d H' => W c d σ H') G H Q (xF1 c f ds)) I ⟨G, ρ, e0, XG.bind q fun ds G1 vs H1 g r q1 => ⟨G1, ds, g, r, q1⟩⟩) fun us s1 ⟨vs, H1, I1, rv, G1, ds, g, r, q1⟩ => ⟨I1.kIn, ?_⟩) he hpl
  cases r with
  | nil => exact q1.elim
  | @cons v d _ _ r t =>
    cases t with
    | cons _ _ => exact q1.elim
    | nil =>
      cases rv with
      | cons ru rn =>
        cases rn
        have hlim := I1.nolimit
        obtain ⟨hp, gg, dr, tk, os⟩ := s1
        refine wpAny_call (F.made _ _ _ _ I1.kIn I1.bk hlim (by have := hr.dp; omega) I1.ok.mod fun h' tk' ex dx M => ?_)
        refine x_end (fv := [(f.s, v)]) I1 M (fun y => ?_) (raises_own F.eb F.ty) fun hn => ?_
        · by_cases z : y = f.s
          · subst z
            rw [if_pos rfl, List.lookup_cons_self]
            exact ru
          · rw [if_neg z]
            have z2 : (y == f.s) = false := by simpa using z
            rw [List.lookup_cons, z2]
            trivial
        · exact q1 G1 _ _ _ (g.trans (.side g.sub hn _)) ⟨rfl, ⟨F.xc, fun p hp => by
            rcases List.mem_cons.mp hp with rfl | hp
            · exact F.n1
            · cases hp⟩, .inr ⟨dx, _, rfl, upd_same, .cons r .nil⟩⟩
theorem mx_2 (F : X2F (tkOf X) c n f f') (hr : Room k X.A) (hg : Gl X x) (ha : PA X [e, e'] (tMA X.K B W ms)) (hx : c.s = x := by rfl) (hdb : (x == ("__debug__" : Str)) = false := by decide)
    (he : starEach [e, e'] X.env = (false, eval e X.env) :: starEach [e'] X.env := by rfl) (hpl : (backTo pos (starEach [e'] X.env)).any (·.1) = false := by rfl) : PMk X (.Call (.Name x p) [e, e'] [] pos) (tX X.K B W (mX (xF2 c n f f') ms)) := by
  subst hx
  intro pins s σ H Q I ⟨G, ρ, e0, q⟩
  refine wpAny_Call_Name_kw (ld_glob I hg F.g ?_ hdb)
  refine PySem.W.callWith_K (h₀ := X.base) I.ok.mod.kin F.kp (thn (ha.run pos pins s σ H (fun vs H1 => ∃ G1 ds, Grow G H G1 H1 ∧ Reps X.K G1 vs ds ∧ XG X.K (fun c d H' => W c d σ H') G H Q (xF2 c n f f' ds)) I ⟨G, ρ, e0, XG.bind q fun ds G1 vs H1 g r q1 => ⟨G1, ds, g, r, q1⟩⟩) fun us s1 ⟨vs, H1, I1, rv, G1, ds, g, r, q1⟩ => ⟨I1.kIn, ?_⟩) he hpl
  cases r with
  | nil => exact q1.elim
  | cons r t =>
    cases t with
    | nil => cases r <;> exact q1.elim
    | @cons v2 d2 _ _ r2 t =>
      cases t with
      | cons _ _ => cases r <;> exact q1.elim
      | nil =>
        cases r with
        | str y =>
          obtain ⟨hz, q1⟩ := XG.chk q1
          cases rv with
          | cons ru rn =>
            cases rn with
            | cons ru2 rn =>
              cases rn
              obtain ⟨ty, rfl⟩ := (show ∃ t, _ = Value.str y t from ru)
              have hlim := I1.nolimit
              obtain ⟨hp, gg, dr, tk, os⟩ := s1
              refine wpAny_call (F.made _ _ _ y ty _ hz I1.kIn I1.bk hlim (by have := hr.dp; omega) I1.ok.mod fun h' tk' ex dx M => ?_)
              have hne : f'.s ≠ f.s := fun z => F.ne (Nm.inj z.symm)
              refine x_end (fv := [(f.s, .str y), (f'.s, v2)]) I1 M (fun z => ?_) (raises_own F.eb F.ty) fun hn => ?_
              rotate_left
              · exact q1 G1 _ _ _ (g.trans (.side g.sub hn _)) ⟨rfl, ⟨F.xc, fun p hp => by
                  rcases List.mem_cons.mp hp with rfl | hp
                  · exact F.n1
                  · rcases List.mem_cons.mp hp with rfl | hp
                    · exact F.n2
                    · cases hp⟩, .inr ⟨dx, _, rfl, upd_same, .cons (.str y) (.cons r2 .nil)⟩⟩
              · by_cases z1 : z = f'.s
                · subst z1
                  have z2 : (f'.s == f.s) = false := by simpa using hne
                  rw [if_pos rfl, List.lookup_cons, z2, List.lookup_cons_self]
                  exact ru2
                · rw [if_neg z1]
                  have z2 : (z == f'.s) = false := by simpa using z1
                  by_cases z3 : z = f.s
                  · subst z3
                    rw [if_pos rfl, List.lookup_cons_self]
                    exact ru
                  · rw [if_neg z3]
                    have z4 : (z == f.s) = false := by simpa using z3
                    rw [List.lookup_cons, z4, List.lookup_cons, z2]
                    trivial
        | _ => exact q1.elim
end
def dropX (ρ : Ev) : Ev := ρ.map fun
  | .exn _ => .no
  | s => s
structure Hd where
  t : Cl → Option Bool
  i : Option Nat
  o : Ev → Out
def enterX (i : Option Nat) (e : Err) (ρ : Ev) : Ev := match i with
  | none => dropX ρ
  | some i => (dropX ρ).set i (.exn e)
def leaveX (i : Option Nat) (ρ : Ev) : Ev := match i with
  | none => dropX ρ
  | some i => dropX (ρ.set i .no)
def Out.leave (i : Option Nat) : Out → Out
  | .nx ρ => .nx (leaveX i ρ)
  | .bk ρ => .bk (leaveX i ρ)
  | .ct ρ => .ct (leaveX i ρ)
  | .rt d ρ => .rt d (leaveX i ρ)
  | .exc _ _ => .stuck
  | .stuck => .stuck
def hdGo : List Hd → Err → Ev → Out
  | [], e, ρ => .exc e ρ
  | h :: r, e, ρ => match h.t e.cls with
    | some true => (h.o (enterX h.i e ρ)).leave h.i
    | some false => hdGo r e ρ
    | none => .stuck
def oTry (ob : Ev → Out) (hs : List Hd) : Ev → Out := fun ρ => match ob ρ with
  | .exc e ρ' => hdGo hs e ρ'
  | o => o
def Base.xat (B : Base) (y : Option (Addr × Value × Option Addr)) : Base := { B with xa := y }
section
variable {K : PySem.W.Frag} {B : Base} {G H : Hp} {σ : St} {ρ : Ev}
theorem dropX_get {i : Nat} {s : Sl} (h : (dropX ρ)[i]? = some s) : s = .no ∨ (ρ[i]? = some s ∧ ∀ e, s ≠ .exn e) := by
  unfold dropX at h
  rw [List.getElem?_map] at h
  cases q : ρ[i]? with
  | none => rw [q] at h; cases h
  | some t =>
    rw [q] at h
    cases t with
    | exn e => cases h; exact .inl rfl
    | no => cases h; exact .inl rfl
    | dat d => cases h; exact .inr ⟨rfl, fun e z => nomatch z⟩
    | own xs => cases h; exact .inr ⟨rfl, fun e z => nomatch z⟩
    | own2 xs => cases h; exact .inr ⟨rfl, fun e z => nomatch z⟩
    | ins c fs => cases h; exact .inr ⟨rfl, fun e z => nomatch z⟩
theorem EnvOk.dropX (y : Option (Addr × Value × Option Addr)) (e : EnvOk K B G σ ρ H) : EnvOk K (B.xat y) G σ (dropX ρ) H := by
  refine ⟨e.grow, by unfold PL.dropX; rw [List.length_map]; exact e.len, fun i s q => ?_, fun i j s t q1 q2 n a f1 f2 => ?_⟩
  · rcases dropX_get q with rfl | ⟨z, nx⟩
    · trivial
    · have w := e.slot i s z
      cases s with
      | exn er => exact absurd rfl (nx er)
      | own2 xss =>
        obtain ⟨l, ls, e1, hl, r, gl, bl, nd⟩ := w
        exact ⟨l, ls, e1, hl, RowsOk.base (B := B) (B' := B.xat y) rfl r, gl, bl, nd⟩
      | _ => exact w
  · rcases dropX_get q1 with rfl | ⟨z1, _⟩
    · exact foot_no f1
    · rcases dropX_get q2 with rfl | ⟨z2, _⟩
      · exact foot_no f2
      · exact e.sep i j s t z1 z2 n a f1 f2
/-- the error's name -/
theorem EnvOk.setExn (e : EnvOk K B G σ ρ H) (i : Nat) {a : Addr} {cls : Value} {d : Option Addr} {er : Err} (hb : B.xa = some (a, cls, d)) (k : ErrOk K G H cls d er) : EnvOk K B G (σ.set i (some (.ref a))) (ρ.set i (.exn er)) H := by
  exact e.put i (fun _ => ⟨a, cls, d, hb, rfl, k⟩) fun b f => (foot_exn f).elim
end
/-- the clauses of a try -/
inductive HdsX (X : Cx) (B : Base) : List ExceptHandler → List Hd → Prop
  | nil : HdsX X B [] []
  | un {x : Str} {c : Value} {t : Cl → Option Bool} {o : Ev → Out} {b₀ : Stmt} {suite : List Stmt} {np hp : Pos} {hds : List ExceptHandler} {l : List Hd} (hc : Names X x c) (ht : ∀ k b, t k = some b → PySem.W.exmOne X.K (.ref (ca X.K k)) c = some b)
      (hsu : ∀ (a : Addr) (oe : Obj) (cls : Value) (d : Option Addr) (pn : List (Addr × Obj)), Zc cls d oe → (∃ vs, oe.data = .fields vs) → PSs (X.suite a ((a, oe) :: pn)) (b₀ :: suite) (tS X.K (B.xat (some (a, cls, d))) noW o)) (r : HdsX X B hds l) :
      HdsX X B (.ExceptHandler (some (.Name x np)) none (b₀ :: suite) hp :: hds) (⟨t, none, o⟩ :: l)
  | as {x n : Str} {i : Nat} {c : Value} {t : Cl → Option Bool} {o : Ev → Out} {b₀ : Stmt} {suite : List Stmt} {np hp : Pos} {hds : List ExceptHandler} {l : List Hd} (hc : Names X x c) (ht : ∀ k b, t k = some b → PySem.W.exmOne X.K (.ref (ca X.K k)) c = some b) (hi : X.N[i]? = some n) (hln : X.env.kindOf n = some .local)
      (hsu : ∀ (a : Addr) (oe : Obj) (cls : Value) (d : Option Addr) (pn : List (Addr × Obj)), Zc cls d oe → (∃ vs, oe.data = .fields vs) → PSs (X.suite a ((a, oe) :: pn)) (b₀ :: suite) (tS X.K (B.xat (some (a, cls, d))) noW o)) (r : HdsX X B hds l) :
      HdsX X B (.ExceptHandler (some (.Name x np)) (some n) (b₀ :: suite) hp :: hds) (⟨t, some i, o⟩ :: l)
def endsX (i : Option Nat) (D : Ends) : Ends := match i with
  | none => D
  | some i => { nx := fun σ' H' => D.nx (σ'.set i none) H', rt := D.rt, bk := fun σ' H' => D.bk (σ'.set i none) H', ct := fun σ' H' => D.ct (σ'.set i none) H' }
theorem SG.leave {K : PySem.W.Frag} {B : Base} {W : WX} {Dn : Ends} {i : Option Nat} {o : Out} {y : Option (Addr × Value × Option Addr)} (h : SG K B W Dn (o.leave i)) : SG K (B.xat y) noW (endsX i Dn) o := by
  have back : ∀ {G σ ρ H}, EnvOk K (B.xat y) G σ ρ H → EnvOk K B G (match i with | none => σ | some i => σ.set i none) (leaveX i ρ) H := fun {G σ ρ H} e => by
    cases i with
    | none => exact e.dropX B.xa
    | some i => exact (e.forgetSt i none).dropX B.xa
  cases o with
  | nx ρ =>
    intro G σ H e
    have z := h G _ H (back e)
    cases i <;> exact z
  | bk ρ =>
    intro G σ H e
    have z := h G _ H (back e)
    cases i <;> exact z
  | ct ρ =>
    intro G σ H e
    have z := h G _ H (back e)
    cases i <;> exact z
  | rt d ρ =>
    intro G σ H v e
    have conv : ∀ {σ' : St} {ρ' : Ev}, (EnvOk K (B.xat y) G σ ρ H → EnvOk K B G σ' ρ' H) → RtOk K B G σ' ρ' H v d := fun {σ' ρ'} bk => by
      unfold RtOk at e ⊢
      have ef : (B.xat y).fr = B.fr := rfl
      rw [ef] at e
      cases hf : B.fr with
      | zero =>
        rw [hf] at e
        exact ⟨bk e.1, e.2⟩
      | succ n =>
        rw [hf] at e
        cases n with
        | zero => exact e
        | succ n =>
          obtain ⟨h1, xss, h2, l, ls, e1, hl, r, gl, bl, nd⟩ := e
          exact ⟨h1, xss, h2, l, ls, e1, hl, RowsOk.base (B := B.xat y) (B' := B) rfl r, gl, bl, nd⟩
    cases i with
    | none => exact h G _ H v (conv fun e => e.dropX B.xa)
    | some i => exact h G _ H v (conv fun e => (e.forgetSt i none).dropX B.xa)
  | exc e ρ => exact h.elim
  | stuck => exact h.elim
section
variable {X : Cx} {B : Base} {W : WX} {body : List Stmt} {h₀ : ExceptHandler} {hds : List ExceptHandler} {l : List Hd} {pos : Pos} {ob : Ev → Out}
/-- what the clauses wish -/
def wHd (K : PySem.W.Frag) (B : Base) (W : WX) (Dn : Ends) (l : List Hd) : WX := fun cls d σ H => ∃ G ρ er, EnvOk K B G σ ρ H ∧ ErrOk K G H cls d er ∧ SG K B W Dn (hdGo l er ρ)
theorem ms_try (hs : X.stack = X.env :: X.outer) (hf : X.env.frame = some X.env.locals) (hN : X.N.Nodup) (tk : Takes X W)
    (hb : ∀ (W' : WX) (pn : List (Addr × Obj)) (xe : Value → Shared → Prop), Takes (X.tr pn xe) W' → PassesOwn (model X.prog X.w) X.A X.env xe → PSs (X.tr pn xe) body (tS X.K B W' ob))
    (hh : HdsX X B (h₀ :: hds) l) : PS X (.Try body (h₀ :: hds) [] [] pos) (tS X.K B W (oTry ob l)) := by
  refine ⟨fun pins s σ H Dn I ⟨G, ρ, e, q⟩ => ?_⟩
  have okX := I.ok
  have frX : X.A.frames = some (X.env :: X.outer) := by rw [okX.frames, hs]
  have start : tS X.K B (wHd X.K B W Dn l) ob Dn σ H := by
    refine ⟨G, ρ, e, ?_⟩
    unfold oTry at q
    cases hm : ob ρ with
    | exc er ρ' => rw [hm] at q; exact fun G' σ' H' c d e' k => ⟨G', ρ', er, e', k, q⟩
    | nx _ => rw [hm] at q; exact q
    | bk _ => rw [hm] at q; exact q
    | ct _ => rw [hm] at q; exact q
    | rt _ _ => rw [hm] at q; exact q
    | stuck => rw [hm] at q; exact q
  refine wpAny_Try_except (wpAny_mono ((hb (wHd X.K B W Dn l) (X.pn ++ pins) (fun e sa => wpAny (model X.prog X.w) X.A (noteFrame e X.env) (fun _ sb => wpAny (model X.prog X.w) X.A (setFlight e none) (fun _ sc =>
    wpAny (model X.prog X.w) X.A (handleBy e X.env (h₀ :: hds)) (SP X pins Dn) X.xe sc) X.xe sb) X.xe sa) (fun u s' xx => ?_) PassesOwn.looking).run [] s σ H Dn (I.toTry _) start) (fun f s1 hsp => ?_) (fun e s1 he => he))
  · obtain ⟨a, BB, sI, pins', σ1, H1, cls, d, rfl, Jt, nb, up, sky, na, os, ag, w⟩ := xx
    have J0 : Inv X pins σ1 H1 sI := Jt.ofTry okX
    have sky1 : Sky BB (X.env :: X.outer) a (Zc cls d) X.env.locals s'.heap := by rw [← hs]; exact sky
    show wpAny (model X.prog X.w) X.A (noteFrame (.ref a) X.env) _ _ _
    refine Sky.land Zc.steady frX hf sky1 fun ha fla upa => ?_
    have Ja : Inv X pins σ1 H1 { s' with heap := ha } := J0.landed nb fla.1 (up.trans upa) os ag
    obtain ⟨oea, vsa, hea, hza, hda⟩ := fla.there
    have nfr : a ∉ frs (X.env :: X.outer) := fun hm => by
      obtain ⟨_, o', eo, hnf⟩ := fla.2.2.1.mem hm
      rw [hea] at eo; cases eo
      exact hnf _ hda
    have nL : a ≠ X.env.locals := fun z => nfr (List.mem_filterMap.mpr ⟨X.env, List.mem_cons_self, by rw [hf, z]⟩)
    have nF : a ∉ X.fs := fun hm => by
      obtain ⟨ev, hev, qe⟩ := List.mem_filterMap.mp hm
      exact nfr (List.mem_filterMap.mpr ⟨ev, List.mem_cons_of_mem _ hev, qe⟩)
    have Sa := Ja.suite hea hda na nL nF
    have walk : ∀ {hs' : List ExceptHandler} {l' : List Hd}, HdsX X B hs' l' → wHd X.K B W Dn l' cls d σ1 H1 → wpAny (model X.prog X.w) X.A (handleBy (.ref a) X.env hs') (SP X pins Dn) X.xe { s' with heap := ha } := by
      intro hs' l' hk
      -- the test of a clause
      have test : ∀ {x : Str} {c : Value} {np : Pos} {Q : Value → Shared → Prop} {E : Value → Shared → Prop}, Names X x c → Q c { s' with heap := ha } → wpAny (model X.prog X.w) (X.A.mark (some (.ref a))) (eval (.Name x np) X.env) Q E { s' with heap := ha } := fun {x c np Q E} hc q => by
        obtain ⟨hg, hdbg, hm | ⟨hm, hv, hnn⟩⟩ := hc
        · exact ld_glob (X := X.suite a ((a, oea) :: (X.pn ++ pins))) Sa hg hm q hdbg
        · exact ld_blt (X := X.suite a ((a, oea) :: (X.pn ++ pins))) Sa hg hm hv q hnn hdbg
      have LT : PySem.W.Looks (model X.prog X.w) ha (typeOf (.ref a)) cls := fun A Q E s k q => wpAny_typeOf_ref (k _ _ hea) (by rw [hza.1]; exact q)
      induction hk with
      | nil =>
        rintro ⟨G1, ρ1, er, e1, ke, q1⟩
        refine wpAny_handleBy_nil ?_
        obtain ⟨k1, k2, k3, oe, vs, T, oT, ts, he, hz, hd, h1, hr⟩ := id fla
        unfold PySem.passOn
        refine wpAny_bind (wpAny_field he hd h1 ?_)
        rw [if_neg (show ¬ ((Value.ref T == Value.none) = true) from by simp)]
        have fin : wpAny (model X.prog X.w) X.A (setFlight (.ref a) X.env.frame) (fun _ sd => wpAny (model X.prog X.w) X.A (throw (.ref a) : Sem Flow) (SP X pins Dn) X.xe sd) X.xe { s' with heap := ha } := by
          rw [hf]
          exact HandSPX.setFlight_upZ fla fun hb' hhb upb => wpAny_throw (tk _ _ ⟨a, BB, sI, pins, σ1, H1, cls, d, rfl, J0, nb, (up.trans upa).trans upb, .inr (.inr (by rw [hs]; exact hhb)), na, os, ag, q1 G1 σ1 H1 cls d e1 ke⟩)
        first
          | exact wpAny_bind (wpAny_pure (wpAny_bind fin))
          | exact wpAny_bind fin
      | @un x c t o b₀ suite np hp hds2 l2 hc ht hsu r ih =>
        rintro ⟨G1, ρ1, er, e1, ke, q1⟩
        obtain ⟨ec, _, _⟩ := id ke
        refine wpAny_handleBy_cons (codeAny_handlers_test ?_) (by intro q; cases q)
        have q2 : SG X.K B W Dn (match t er.cls with
          | some true => (o (enterX none er ρ1)).leave none
          | some false => hdGo l2 er ρ1
          | none => .stuck) := q1
        cases hte : t er.cls with
        | none => rw [hte] at q2; exact q2.elim
        | some b =>
          rw [hte] at q2
          have LM := PySem.W.exm_one (M := model X.prog X.w) Ja.kIn LT (by rw [ec]; exact ht _ _ hte)
          refine test hc (LM.here ?_)
          cases b with
          | false =>
            show wpAny _ X.A (handleBy (.ref a) X.env hds2) _ _ _
            exact ih ⟨G1, ρ1, er, e1, ke, q2⟩
          | true =>
            refine codeAny_handlers_suite (HandSPX.lands_againZ fla fun hb' flb upb => ?_)
            have Jb : Inv X pins σ1 H1 { s' with heap := hb' } := J0.landed nb flb.1 ((up.trans upa).trans upb) os ag
            obtain ⟨oeb, vsb, heb, hzb, hdb⟩ := flb.there
            have Sb := Jb.suite heb hdb na nL nF
            refine wpAny_mono ((hsu a oeb cls d (X.pn ++ pins) hzb ⟨_, hdb⟩).run [] _ σ1 H1 Dn Sb ⟨G1, _, e1.dropX _, SG.leave (i := none) q2⟩) (fun f s6 hsp => ?_) (fun _ _ z => False.elim z)
            cases f with
            | next =>
              obtain ⟨σ6, H6, S6, q6⟩ := hsp
              exact ⟨_, _, S6.unsuite okX, q6⟩
            | brk =>
              obtain ⟨σ6, H6, S6, q6⟩ := hsp
              exact ⟨_, _, S6.unsuite okX, q6⟩
            | cont =>
              obtain ⟨σ6, H6, S6, q6⟩ := hsp
              exact ⟨_, _, S6.unsuite okX, q6⟩
            | ret u =>
              obtain ⟨v6, σ6, H6, S6, r6, q6⟩ := hsp
              exact ⟨_, _, _, S6.unsuite okX, r6, q6⟩
      | @as x n i c t o b₀ suite np hp hds2 l2 hc ht hi hln hsu r ih =>
        rintro ⟨G1, ρ1, er, e1, ke, q1⟩
        obtain ⟨ec, _, _⟩ := id ke
        refine wpAny_handleBy_cons (codeAny_handlers_test ?_) (by intro q; cases q)
        have q2 : SG X.K B W Dn (match t er.cls with
          | some true => (o (enterX (some i) er ρ1)).leave (some i)
          | some false => hdGo l2 er ρ1
          | none => .stuck) := q1
        cases hte : t er.cls with
        | none => rw [hte] at q2; exact q2.elim
        | some b =>
          rw [hte] at q2
          have LM := PySem.W.exm_one (M := model X.prog X.w) Ja.kIn LT (by rw [ec]; exact ht _ _ hte)
          refine test hc (LM.here ?_)
          cases b with
          | false =>
            show wpAny _ X.A (handleBy (.ref a) X.env hds2) _ _ _
            exact ih ⟨G1, ρ1, er, e1, ke, q2⟩
          | true =>
            refine codeAny_handlers_suite_as (HandSPX.lands_againZ fla fun hb' flb upb => ?_)
            have Jb : Inv X pins σ1 H1 { s' with heap := hb' } := J0.landed nb flb.1 ((up.trans upa).trans upb) os ag
            obtain ⟨oeb, vsb, heb, hzb, hdb⟩ := flb.there
            have Sb := Jb.suite heb hdb na nL nF
            have eb := (e1.dropX (some (a, cls, d))).setExn i rfl ke
            refine store_ok (X := X.suite a ((a, oeb) :: (X.pn ++ pins))) (v := .ref a) Sb hN hi (.inl hln) rfl (fun s5 S5 => ?_) (.inr hln)
            refine wpAny_mono ((hsu a oeb cls d (X.pn ++ pins) hzb ⟨_, hdb⟩).run [] s5 _ H1 (endsX (some i) Dn) S5 ⟨G1, _, eb, SG.leave (i := some i) q2⟩) (fun f s6 hsp => ?_) (fun _ _ z => False.elim z)
            have gone : ∀ {σ6 : St} {H6 : Hp} {Q : Shared → Prop}, Inv (X.suite a ((a, oeb) :: (X.pn ++ pins))) [] σ6 H6 s6 → (∀ s7, Inv X pins (σ6.set i none) H6 s7 → Q s7) →
                wpAny (model X.prog X.w) X.A (do bindName X.env n .none; unbindBehindTheSuite X.env n hp) (fun _ s7 => Q s7) X.xe s6 := fun {σ6 H6 Q} S6 hq => gone_ok (S6.unsuite okX) hN hi hln hq
            cases f with
            | next =>
              obtain ⟨σ6, H6, S6, q6⟩ := hsp
              exact gone S6 fun s7 J7 => ⟨_, _, J7, q6⟩
            | brk =>
              obtain ⟨σ6, H6, S6, q6⟩ := hsp
              exact gone S6 fun s7 J7 => ⟨_, _, J7, q6⟩
            | cont =>
              obtain ⟨σ6, H6, S6, q6⟩ := hsp
              exact gone S6 fun s7 J7 => ⟨_, _, J7, q6⟩
            | ret u =>
              obtain ⟨v6, σ6, H6, S6, r6, q6⟩ := hsp
              exact gone S6 fun s7 J7 => ⟨_, _, _, J7, r6, q6⟩
    exact walk hh w
  · cases f with
    | next =>
      obtain ⟨σ1, H1, J1, q1⟩ := hsp
      exact wpAny_execs_nil ⟨σ1, H1, J1.ofTry okX, q1⟩
    | brk =>
      obtain ⟨σ1, H1, J1, q1⟩ := hsp
      exact ⟨σ1, H1, J1.ofTry okX, q1⟩
    | cont =>
      obtain ⟨σ1, H1, J1, q1⟩ := hsp
      exact ⟨σ1, H1, J1.ofTry okX, q1⟩
    | ret u =>
      obtain ⟨v1, σ1, H1, J1, r1, q1⟩ := hsp
      exact ⟨v1, σ1, H1, J1.ofTry okX, r1, q1⟩
end
def mXf (i : Nat) (f : Nm) : Ev → Res D := fun ρ => match ρ[i]? with
  | some (.exn er) => ofOpt (er.fs.lookup f)
  | _ => .stuck
def mXi (i : Nat) (t : Cl → Option Bool) : Ev → Res D := fun ρ => match ρ[i]? with
  | some (.exn er) => ofOpt (t er.cls) >>= fun b => .ok (.bl b)
  | _ => .stuck
section
variable {X : Cx} {B : Base} {W : WX} {a : Addr} {oe : Obj} {cls : Value} {d : Option Addr} {pn : List (Addr × Obj)} {pos : Pos}
theorem exn_at {K : PySem.W.Frag} {G H : Hp} {σ : St} {ρ : Ev} {i : Nat} {er : Err} (e : EnvOk K (B.xat (some (a, cls, d))) G σ ρ H) (h : ρ[i]? = some (.exn er)) : σ[i]? = some (some (.ref a)) ∧ ErrOk K G H cls d er := by
  obtain ⟨a', c', d', e1, e2, e3⟩ := e.slot i _ h
  cases (show some (a, cls, d) = some (a', c', d') from e1)
  exact ⟨e2, e3⟩
theorem me_xf (i : Nat) (f : Nm) {x fs : Str} {p1 : Pos} (hz : Zc cls d oe) (hd : ∃ vs, oe.data = .fields vs) (hfs : f.s = fs := by rfl) (hN : X.N[i]? = some x := by rfl) (hv : Vis X.env.scope x := by first | exact Or.inl rfl | exact Or.inr (Or.inl rfl) | exact Or.inr (Or.inr rfl)) (hdb : (x == ("__debug__" : Str)) = false := by decide) (hcd : (x == ("__classdict__" : Str)) = false := by decide)
    (hb : attributeBase (.Name x p1) fs X.env (eval (.Name x p1) X.env) = eval (.Name x p1) X.env := by rfl) :
    PE (X.suite a ((a, oe) :: pn)) (.Attribute (.Name x p1) fs pos) (tM X.K (B.xat (some (a, cls, d))) W (mXf i f)) := by
  subst hfs
  refine ⟨fun pins s σ H Q I ⟨G, ρ, e, q⟩ => ?_⟩
  unfold mXf at q
  split at q
  · rename_i er hs
    obtain ⟨hv1, ke⟩ := exn_at e hs
    obtain ⟨k1, ⟨kx, kn⟩, k3⟩ := ke
    subst k1
    obtain ⟨dd, hl, q⟩ := RG.opt q
    have hm : (f, dd) ∈ er.fs := me_fld.mem_of_lookup hl
    rcases k3 with ⟨k3, _⟩ | ⟨dx, fv, ed, ea, rf⟩
    · rw [k3] at hm; cases hm
    · subst ed
      obtain ⟨w, e2, r2⟩ := rf.lookup hl
      exact (pe_xf (C := ca X.K er.cls) (n := f.s) kx.xf (kn _ hm) hz hd (pe_var (X := X.suite a ((a, oe) :: pn)) (i := i) hN hv hdb hcd) hb).run pins s σ H Q I ⟨_, hv1, rfl, rfl, dx, fv, w, rfl, ea, e2, RG.here e.sub q r2⟩
  · exact q.elim
/-- isinstance of the caught error, with or without a dict -/
theorem call_isX {er : Err} {G0 : Hp} (hz : Zc cls d oe) (hd : ∃ vs, oe.data = .fields vs) (hc : cls = .ref (ca X.K er.cls)) (kx : XcF X.K er.cls) : CallR (X.suite a ((a, oe) :: pn)) (.builtin "isinstance") (fun xs H Q => ∃ (c : V) (u : Value) (b : Bool), xs = [.ref a, c] ∧ (∀ w, RelV c w → w = u) ∧ (d = none ∨ ∃ dx fv, d = some dx ∧ H dx = some (.xd fv)) ∧ PySem.W.kitOne X.K cls u = some b ∧ Q (.bl b) H) := by
  intro pins s σ H xs us Q I r h
  obtain ⟨c, u, b, rfl, hcv, hdx, hk, q⟩ := h
  cases r with
  | cons rx rr =>
    cases rr with
    | cons rt rr =>
      cases rr
      cases rx
      obtain rfl := hcv _ rt
      obtain ⟨ha, _⟩ := I.pin (a, oe) (List.mem_append_left _ List.mem_cons_self)
      obtain ⟨vs, hdat⟩ := hd
      have nc : PySem.W.notCls oe = true := by unfold PySem.W.notCls; rw [hdat] <;> rfl
      have E := kx.ec
      have hcl : (PySem.W.clsIn X.K (ca X.K er.cls)).isSome = true := by
        obtain ⟨cd, hc, _⟩ := PySem.W.any_some E.hd
        rw [hc]
        rfl
      rw [hc] at hk
      obtain ⟨od, J⟩ : ∃ od, PySem.W.InstAt s.heap a oe (ca X.K er.cls) od := by
        rcases hdx with hdx | ⟨dx, fv, hdx, hH⟩
        · exact ⟨none, ha, hz.1.trans hc, nc, by rw [hz.2, hdx]; trivial⟩
        · have hx : ObjOk X.prog X.w H s.heap dx (.xd fv) := I.hok dx _ hH
          obtain ⟨mA, hns, _⟩ := hx
          obtain ⟨od, ho, _⟩ := lookIn_ns hns
          exact ⟨some od, ha, hz.1.trans hc, nc, by rw [hz.2, hdx]; exact ho⟩
      exact PySem.W.kia_one (PySem.W.kitx_exc hcl E.hg E.hk E.hs E.ha E.hn E.ht E.hm) I.kIn J hk (fun z => nomatch z) fun tk => ⟨.bl b, H, I.kept (t' := tk) fun _ _ z => z, rfl, q⟩
theorem me_xi (i : Nat) {t : Cl → Option Bool} {x : Str} {ce : Expr} {cv : V} {u : Value} {p p1 : Pos} (hz : Zc cls d oe) (hd : ∃ vs, oe.data = .fields vs) (hrel : ∀ w, RelV cv w → w = u) (ht : ∀ k b, t k = some b → PySem.W.kitOne X.K (.ref (ca X.K k)) u = some b) (hce : PE (X.suite a ((a, oe) :: pn)) ce (tC cv)) (hg : Gl X "isinstance") (hm : X.mg "isinstance" = none)
    (hN : X.N[i]? = some x := by rfl) (hv : Vis X.env.scope x := by first | exact Or.inl rfl | exact Or.inr (Or.inl rfl) | exact Or.inr (Or.inr rfl)) (hdb : (x == ("__debug__" : Str)) = false := by decide) (hcd : (x == ("__classdict__" : Str)) = false := by decide)
    (hs1 : starEach [.Name x p1, ce] X.env = (false, eval (.Name x p1) X.env) :: starEach [ce] X.env := by rfl) (hs2 : starEach [ce] X.env = (false, eval ce X.env) :: starEach [] X.env := by rfl) (hpl : (backTo pos (starEach [ce] X.env)).any (·.1) = false := by rfl) :
    PE (X.suite a ((a, oe) :: pn)) (.Call (.Name "isinstance" p) [.Name x p1, ce] [] pos) (tM X.K (B.xat (some (a, cls, d))) W (mXi i t)) := by
  refine ⟨fun pins s σ H Q I ⟨G, ρ, e, q⟩ => ?_⟩
  unfold mXi at q
  split at q
  · rename_i er hs
    obtain ⟨hv1, ke⟩ := exn_at e hs
    obtain ⟨k1, ⟨kx, kn⟩, k3⟩ := ke
    cases hte : t er.cls with
    | none => rw [hte] at q; exact q.elim
    | some b =>
      rw [hte] at q
      refine (pe_callB (X := X.suite a ((a, oe) :: pn)) (call_isX (G0 := G) hz hd k1 kx) hg hm (by kernel_rfl) (pa_cons (pe_var (X := X.suite a ((a, oe) :: pn)) (i := i) hN hv hdb hcd) (pa_cons hce pa_nil hs2) hs1) (by decide) (by decide) hs1 hpl).run pins s σ H Q I ⟨_, hv1, cv, u, b, rfl, hrel, ?_, by rw [k1]; exact ht _ _ hte, q G _ H (.refl e.sub) (.bl b)⟩
      rcases k3 with ⟨_, k3⟩ | ⟨dx, fv, ed, ea, _⟩
      · exact .inl k3
      · exact .inr ⟨dx, fv, ed, ea⟩
  · exact q.elim
end
end PL
namespace PL
open PySem PySem.Spec L2
open PyProof.Rows (b2i)
/-- the slots at the entry -/
def ev0 (n : Nat) (ds : List D) : Ev := ds.map .dat ++ List.replicate (n - ds.length) .no
/-- a body's end as a call's -/
def Out.fin : Out → Res D
  | .rt d _ => .ok d
  | .nx _ => .ok .non
  | .exc e _ => .exc e
  | _ => .stuck
@[irreducible] def mDef (n : Nat) (o : Ev → Out) : List D → Res D := fun ds => (o (ev0 n ds)).fin
def Base.of (G H : Hp) (fr : Nat := 0) : Base := ⟨G, H, none, none, fr⟩
theorem env_start {K : PySem.W.Frag} {G H : Hp} {N : List Str} {vs : List V} {ds : List D} {fr : Nat} (s : Ext G H) (r : Reps K G vs ds) : EnvOk K (Base.of G H fr) G (L2.start N vs) (ev0 N.length ds) H := by
  refine ⟨.refl s, ?_, fun i sl q => ?_, fun i j sl t q1 q2 n a f1 f2 => ?_⟩
  · unfold L2.start ev0
    rw [List.length_append, List.length_append, List.length_map, List.length_map, List.length_replicate, List.length_replicate, r.length]
  · unfold ev0 at q
    by_cases hi : i < ds.length
    · rw [List.getElem?_append_left (by simpa using hi), List.getElem?_map] at q
      obtain ⟨d, hd, e⟩ := Option.map_eq_some_iff.mp q
      subst e
      obtain ⟨v, hv, rv⟩ := r.getD hd
      refine ⟨v, ?_, rv⟩
      unfold L2.start
      rw [List.getElem?_append_left (by rw [List.length_map, r.length]; exact hi), List.getElem?_map, hv]
      rfl
    · rw [List.getElem?_append_right (by simpa using hi), List.getElem?_replicate] at q
      split at q <;> cases q
      trivial
  · unfold ev0 at q1
    by_cases hi : i < ds.length
    · rw [List.getElem?_append_left (by simpa using hi), List.getElem?_map] at q1
      obtain ⟨d, hd, e⟩ := Option.map_eq_some_iff.mp q1
      subst e
      exact foot_dat f1
    · rw [List.getElem?_append_right (by simpa using hi), List.getElem?_replicate] at q1
      split at q1 <;> cases q1
      exact foot_no f1
section
variable {T : Tk} {K : PySem.W.Frag} {k n j : Nat} {x qual : Str} {params : Arguments} {body : List Stmt} {scope : Scope} {dvs : List V} {kws : List (Str × V)} {f : Addr} {fd : FuncData} {N ps : List Str} {o : Ev → Out}
abbrev cxT (T : Tk) (N : List Str) (qual : Str) (scope : Scope) (f : Addr) (cdv : Value) (A : Around) (outer : List Env) (s : Shared) (H : Hp) (E : XK) : Cx := cxOf (L2.CX T.P T.w) T.P T.w T.K T.mg T.base N qual scope f cdv A outer s H E
/-- what a def promises -/
def spD (K : PySem.W.Frag) (j : Nat) (m : List D → Res D) : Sp := fun vs H Q E => vs.length = j ∧ ∃ G ds, Ext G H ∧ Reps K G vs ds ∧ RG (Rep K) K E G H Q (m ds)
/-- a body read so, by a frame of the def -/
abbrev BodyOk (T : Tk) (k : Nat) (N : List Str) (qual : Str) (scope : Scope) (f : Addr) (body : List Stmt) (o : Ev → Out) : Prop :=
  ∀ (cdv : Value) (A : Around) (outer : List Env) (s : Shared) (H : Hp) (E : XK), Room k (A.deeper (PyProof.Rows.envOfC qual scope s.heap.objs.size f cdv)) → ∀ B : Base, B.fr = 0 → PSs (cxT T N qual scope f cdv A outer s H E) body (tS T.K B (fun c d _ H' => E c d H') o)
theorem fnD (F : FunD T.K x qual params body scope dvs kws f fd) (S : FnScope N ps scope) (hb : BodyOk T k N qual scope f body o) : FnOk T.P T.w T.K T.mg T.base (L2.CX T.P T.w) (k + 1) f fd ps (spD T.K ps.length (mDef N.length o)) :=
  F.ok S (fun vs H Q E h => h.1) fun cdv A outer s H vs Q E hr ⟨hl, G, ds, e, r, q⟩ => ⟨_, hb cdv A outer s H E hr (Base.of G H) rfl, G, _, env_start e r, by
    have q' : RG (Rep T.K) T.K E G H Q (o (ev0 N.length ds)).fin := by unfold mDef at q; exact q
    cases ho : o (ev0 N.length ds) with
    | rt d ρ => rw [ho] at q'; exact fun G' σ H' v e' => q' G' v H' (e'.dat rfl).1.grow (e'.dat rfl).2
    | nx ρ => rw [ho] at q'; exact fun G' σ H' e' => q' G' _ H' e'.grow .non
    | exc er ρ => rw [ho] at q'; exact fun G' σ H' c d e' kk => q' G' c d H' e'.grow kk
    | bk ρ => rw [ho] at q'; exact q'.elim
    | ct ρ => rw [ho] at q'; exact q'.elim
    | stuck => rw [ho] at q'; exact q'⟩
/-- called with j values, defaults behind them -/
theorem FnM.of {m : List D → Res D} {dd : List Value} {dv : List V} {df : List D} (F : FnOk T.P T.w T.K T.mg T.base (L2.CX T.P T.w) k f fd ps (spD T.K ps.length m)) (hb : Binds T.K fd ps dd) (hd : Vals dv dd) (rd : ∀ G, Reps T.K G dv df) (hj : j + dv.length = ps.length) :
    FnM T k f j (fun ds => m (ds ++ df)) := by
  intro A outer s G H us vs ds Q E hr e0 r hl e rr h
  have r2 := r.append hd
  have l2 : (us ++ dd).length = ps.length := by rw [← r2.length, List.length_append, hl]; exact hj
  exact F.run A outer s H ⟨us, []⟩ (us ++ dd) (vs ++ dv) Q E hr e0 (hb s us (e0.mod.kin.keeps fun b o q => (e0.bs b o q).1) l2) r2 ⟨by rw [List.length_append, hl]; exact hj, G, ds ++ df, e, rr.append (rd G), h⟩
/-- every parameter is written -/
theorem FnM.of0 {m : List D → Res D} (F : FnOk T.P T.w T.K T.mg T.base (L2.CX T.P T.w) k f fd ps (spD T.K ps.length m)) (hb : Binds T.K fd ps []) (hj : j = ps.length := by rfl) : FnM T k f j m := by
  have z := FnM.of (df := []) (j := j) F hb .nil (fun _ => .nil) hj
  simpa only [List.append_nil] using z
/-- called with keywords ks behind j values; g puts them into the parameters' order -/
theorem FnKM.of {m : List D → Res D} {ks : List Str} {g : List Value → List Value → List Value} {gV : List V → List V → List V} {gD : List D → List D → List D} (F : FnOk T.P T.w T.K T.mg T.base (L2.CX T.P T.w) k f fd ps (spD T.K ps.length m)) (hb : KBn T.K fd ps j ks g gV)
    (hg : ∀ G vs zs ds es, vs.length = j → zs.length = ks.length → Reps T.K G vs ds → Reps T.K G zs es → Reps T.K G (gV vs zs) (gD ds es) ∧ (gV vs zs).length = ps.length) : FnKM T k f j ks (fun ds es => m (gD ds es)) := by
  intro A outer s G H us ws vs zs ds es Q E hr e0 r rz hl hz e rr rrz h
  obtain ⟨k1, k2⟩ := hg G vs zs ds es hl hz rr rrz
  exact F.run A outer s H ⟨us, ks.zip ws⟩ (g us ws) (gV vs zs) Q E hr e0 (hb.to s us ws (e0.mod.kin.keeps fun b o q => (e0.bs b o q).1) (r.length.symm.trans hl) (rz.length.symm.trans hz)) (hb.rel r rz) ⟨k2, G, gD ds es, e, k1, h⟩
end
def Out.ini (c : Cl) : Out → Res (List (Nm × D))
  | .nx (.ins c' fs :: _) => if c' = c then .ok fs else .stuck
  | .rt .non (.ins c' fs :: _) => if c' = c then .ok fs else .stuck
  | .exc e _ => .exc e
  | _ => .stuck
def mIni (c : Cl) (n : Nat) (o : Ev → Out) : List D → Res (List (Nm × D)) := fun ds => (o ((ev0 n (.non :: ds)).set 0 (.ins c []))).ini c
section
variable {T : Tk} {k n j : Nat} {c : Cl} {x qual : Str} {params : Arguments} {body : List Stmt} {scope : Scope} {dvs : List V} {kws : List (Str × V)} {f : Addr} {fd : FuncData} {N ps : List Str} {o : Ev → Out}
def IG (K : PySem.W.Frag) (c : Cl) (E : XK) (G H : Hp) (Q : VK) (x dx : Addr) : Res (List (Nm × D)) → Prop
  | .ok fs => ∀ G' H' fv, Grow G (fun a => if a = x then none else H a) G' H' → G' x = none → H' x = some (.ins (ca K c) dx fv) → AtF K c fs → RepF K G' fv fs → Q .non H'
  | .exc e => ∀ G' H' cls d, Grow G (fun a => if a = x then none else H a) G' H' → ErrOk K G' H' cls d e → E cls d H'
  | .stuck => False
/-- what an __init__ promises -/
def spI (K : PySem.W.Frag) (c : Cl) (j : Nat) (m : List D → Res (List (Nm × D))) : Sp := fun vs H Q E => vs.length = j + 1 ∧ ∃ x dx ws G ds, vs = .ref x :: ws ∧ H x = some (.ins (ca K c) dx []) ∧ G x = none ∧ (∀ a o, a ≠ x → G a = some o → H a = some o) ∧ Reps K G ws ds ∧ ClF K c ∧ IG K c E G H Q x dx (m ds)
theorem env_init {K : PySem.W.Frag} {G H : Hp} {N : List Str} {vs : List V} {ds : List D} {x dx : Addr} (hx : H x = some (.ins (ca K c) dx [])) (gx : G x = none) (s : ∀ a o, a ≠ x → G a = some o → H a = some o) (r : Reps K G vs ds) (hc : ClF K c) (hN : 0 < N.length) :
    EnvOk K ⟨G, fun a => if a = x then none else H a, none, some (x, dx), 0⟩ G (L2.start N (.ref x :: vs)) ((ev0 N.length (.non :: ds)).set 0 (.ins c [])) H := by
  have sub : Ext G H := fun a o q => s a o (fun z => by rw [z, gx] at q; cases q) q
  have len : (L2.start N (.ref x :: vs)).length = (ev0 N.length (.non :: ds)).length := by
    unfold L2.start ev0
    rw [List.length_append, List.length_append, List.length_map, List.length_map, List.length_replicate, List.length_replicate, List.length_cons, List.length_cons, r.length]
  have pos : 0 < (ev0 N.length (.non :: ds)).length := by unfold ev0; rw [List.length_append, List.length_map, List.length_cons]; omega
  have other : ∀ {i : Nat} {sl : Sl}, i ≠ 0 → (ev0 N.length (.non :: ds))[i]? = some sl → (sl = .no ∨ ∃ d v, sl = .dat d ∧ (L2.start N (.ref x :: vs))[i]? = some (some v) ∧ Rep K G v d) := fun {i sl} h0 q => by
    obtain ⟨i, rfl⟩ := Nat.exists_eq_succ_of_ne_zero h0
    unfold ev0 at q
    by_cases hi : i < ds.length
    · rw [List.getElem?_append_left (by rw [List.length_map, List.length_cons]; omega), List.getElem?_map] at q
      obtain ⟨d, hd, e⟩ := Option.map_eq_some_iff.mp q
      subst e
      obtain ⟨v, hv, rv⟩ := r.getD (show ds[i]? = some d from hd)
      refine .inr ⟨d, v, rfl, ?_, rv⟩
      unfold L2.start
      rw [List.getElem?_append_left (by rw [List.length_map, List.length_cons, r.length]; omega), List.getElem?_map]
      show ((vs[i]?).map some) = _
      rw [hv]
      rfl
    · rw [List.getElem?_append_right (by rw [List.length_map, List.length_cons]; omega), List.getElem?_replicate] at q
      split at q <;> cases q
      exact .inl rfl
  refine ⟨⟨.refl, fun a o q => ?_, sub, fun a o q => .inl q⟩, by rw [List.length_set]; exact len, fun i sl q => ?_, fun i j sl t q1 q2 n a f1 f2 => ?_⟩
  · by_cases z : a = x
    · exact absurd (show (if a = x then none else H a) = some o from q) (by rw [if_pos z]; exact fun w => nomatch w)
    · have w : (if a = x then none else H a) = some o := q
      rw [if_neg z] at w
      exact w
  · by_cases h0 : i = 0
    · subst h0
      rw [List.getElem?_set_self pos] at q
      cases q
      exact ⟨x, dx, [], rfl, hx, ⟨hc, fun p hp => by cases hp⟩, .nil, gx, if_pos rfl, rfl⟩
    · rw [List.getElem?_set_ne (Ne.symm h0)] at q
      rcases other h0 q with rfl | ⟨d, v, rfl, hv, rv⟩
      · trivial
      · exact ⟨v, hv, rv⟩
  · have z : ∀ {i : Nat} {sl : Sl}, ((ev0 N.length (.non :: ds)).set 0 (.ins c []))[i]? = some sl → foot H (L2.start N (.ref x :: vs))[i]? sl a → i = 0 := fun {i sl} q f => by
      refine Classical.byContradiction fun h0 => ?_
      rw [List.getElem?_set_ne (Ne.symm h0)] at q
      rcases other h0 q with rfl | ⟨d, v, rfl, _⟩
      · exact foot_no f
      · exact foot_dat f
    exact n ((z q1 f1).trans (z q2 f2).symm)
theorem iniD (F : FunD T.K x qual params body scope dvs kws f fd) (S : FnScope N ps scope) (hb : BodyOk T k N qual scope f body o) (hc : ClF T.K c) (hj : ps.length = j + 1) : FnOk T.P T.w T.K T.mg T.base (L2.CX T.P T.w) (k + 1) f fd ps (spI T.K c j (mIni c N.length o)) :=
  F.ok S (fun vs H Q E h => by rw [h.1, hj]) fun cdv A outer s H vs Q E hr ⟨hl, x, dx, ws, G, ds, ev, hx, gx, sb, r, _, q⟩ => by
    subst ev
    have hN : 0 < N.length := by
      have := congrArg List.length S.pre
      rw [List.length_take] at this
      omega
    refine ⟨_, hb cdv A outer s H E hr ⟨G, fun a => if a = x then none else H a, none, some (x, dx), 0⟩ rfl, G, _, env_init hx gx sb r hc hN, ?_⟩
    have q' : IG T.K c E G H Q x dx ((o ((ev0 N.length (.non :: ds)).set 0 (.ins c []))).ini c) := q
    have fin : ∀ {G' σ H' c' fs r}, EnvOk T.K ⟨G, fun a => if a = x then none else H a, none, some (x, dx), 0⟩ G' σ (.ins c' fs :: r) H' → IG T.K c E G H Q x dx (if c' = c then .ok fs else .stuck) → Q .non H' := fun {G' σ H' c' fs r} e' w => by
      by_cases z : c' = c
      · subst z
        rw [if_pos rfl] at w
        obtain ⟨l, dx', fv, _, h1, h2, h3, h4, _, h5⟩ := e'.slot 0 _ rfl
        cases (show some (x, dx) = some (l, dx') from h5)
        exact w G' H' fv e'.grow h4 h1 h2 h3
      · rw [if_neg z] at w
        exact w.elim
    cases ho : o ((ev0 N.length (.non :: ds)).set 0 (.ins c [])) with
    | nx ρ =>
      rw [ho] at q'
      intro G' σ H' e'
      match ρ, q', e' with
      | .ins c' fs :: r, q', e' => exact fin e' q'
      | [], q', _ => exact q'.elim
      | .no :: _, q', _ => exact q'.elim
      | .dat _ :: _, q', _ => exact q'.elim
      | .own _ :: _, q', _ => exact q'.elim
      | .own2 _ :: _, q', _ => exact q'.elim
      | .exn _ :: _, q', _ => exact q'.elim
    | rt d ρ =>
      rw [ho] at q'
      intro G' σ H' v e1
      obtain ⟨e', rv⟩ := e1.dat rfl
      clear e1
      cases rv with
      | non =>
        match ρ, q', e' with
        | .ins c' fs :: r, q', e' => exact fin e' q'
        | [], q', _ => exact q'.elim
        | .no :: _, q', _ => exact q'.elim
        | .dat _ :: _, q', _ => exact q'.elim
        | .own _ :: _, q', _ => exact q'.elim
        | .own2 _ :: _, q', _ => exact q'.elim
        | .exn _ :: _, q', _ => exact q'.elim
      | _ => exact q'.elim
    | exc er ρ => rw [ho] at q'; exact fun G' σ H' c d e' kk => q' G' H' c d e'.grow kk
    | bk ρ => rw [ho] at q'; exact q'.elim
    | ct ρ => rw [ho] at q'; exact q'.elim
    | stuck => rw [ho] at q'; exact q'
theorem InM.of {m : List D → Res (List (Nm × D))} {dd : List Value} {dv : List V} {df : List D} {l : Nat} (hc : ClF T.K c) (F : FnOk T.P T.w T.K T.mg T.base (L2.CX T.P T.w) k f fd ps (spI T.K c l m)) (hb : Binds T.K fd ps dd) (hd : Vals dv dd) (rd : ∀ G, Reps T.K G dv df) (hp : ps.length = l + 1) (hj : j + dv.length = l) :
    InM T k f c j (fun ds => m (ds ++ df)) := by
  intro A outer s G H x dx us vs ds Q E hr e0 r hl hx gx sb rr h
  have r2 : Vals (.ref x :: (vs ++ dv)) (.ref x :: (us ++ dd)) := .cons rfl (r.append hd)
  have l3 : (V.ref x :: (vs ++ dv)).length = l + 1 := by rw [List.length_cons, List.length_append, hl, hj]
  have l2 : (.ref x :: us ++ dd).length = ps.length := by rw [hp, ← l3]; exact r2.length.symm
  refine F.run A outer s H ⟨.ref x :: us, []⟩ (.ref x :: us ++ dd) (.ref x :: (vs ++ dv)) Q E hr e0 (hb s (.ref x :: us) (e0.mod.kin.keeps fun b o q => (e0.bs b o q).1) l2) r2 ⟨l3, x, dx, vs ++ dv, G, ds ++ df, rfl, hx, gx, sb, rr.append (rd G), hc, ?_⟩
  cases hm : m (ds ++ df) with
  | ok fs => simp only [hm] at h; exact h
  | exc e => simp only [hm] at h; exact h
  | stuck => simp only [hm] at h
theorem InM.of0 {m : List D → Res (List (Nm × D))} (hc : ClF T.K c) (F : FnOk T.P T.w T.K T.mg T.base (L2.CX T.P T.w) k f fd ps (spI T.K c j m)) (hb : Binds T.K fd ps []) (hp : ps.length = j + 1 := by rfl) : InM T k f c j m := by
  have z := InM.of (df := []) (j := j) hc F hb .nil (fun _ => .nil) hp rfl
  simpa only [List.append_nil] using z
end
/-- self.f = e -/
def oFld (i : Nat) (c : Cl) (n : Nm) (m : Ev → Res D) : Ev → Out := fun ρ => Out.of (m ρ) ρ fun d => match ρ[i]? with
  | some (.ins c' fs) => oChk (c' = c ∧ fs.length < 1000) (.nx (ρ.set i (.ins c (putD n d fs))))
  | _ => .stuck
/-- self.f -/
def mIns (i : Nat) (n : Nm) : Ev → Res D := fun ρ => match ρ[i]? with
  | some (.ins _ fs) => ofOpt (fs.lookup n)
  | _ => .stuck
theorem RepF.put {K : PySem.W.Frag} {G : Hp} {n : Nm} {v : V} {d : D} (r : Rep K G v d) : ∀ {fv : List (Str × V)} {fs : List (Nm × D)}, RepF K G fv fs → RepF K G (putF n.s v fv) (putD n d fs)
  | _, _, .nil => .cons r .nil
  | _, _, .cons (n := m) (v := w) (d := c) q t => by
    unfold putF putD
    by_cases z : n = m
    · subst z
      rw [if_pos rfl, if_pos rfl]
      exact .cons r t
    · rw [if_neg z, if_neg fun y => z (Nm.inj y.symm)]
      exact .cons q (RepF.put r t)
theorem putD_mem {n : Nm} {d : D} {p : Nm × D} : ∀ {fs : List (Nm × D)}, p ∈ putD n d fs → p = (n, d) ∨ p ∈ fs
  | [], h => .inl (List.mem_singleton.mp h)
  | (m, c) :: r, h => by
    unfold putD at h
    by_cases z : n = m
    · rw [if_pos z] at h
      rcases List.mem_cons.mp h with h | h
      · exact .inl h
      · exact .inr (List.mem_cons_of_mem _ h)
    · rw [if_neg z] at h
      rcases List.mem_cons.mp h with h | h
      · exact .inr (h ▸ List.mem_cons_self)
      · rcases putD_mem h with h | h
        · exact .inl h
        · exact .inr (List.mem_cons_of_mem _ h)
section
variable {X : Cx} {B : Base} {W : WX} {e : Expr} {m : Ev → Res D} {pos p' p1 : Pos} {x fs : Str}
theorem ms_fld (i : Nat) (c : Cl) (n : Nm) (na : NoAttr X.K (ca X.K c) n.s) (he : PE X e (tM X.K B W m)) (hn : n.s = fs := by rfl) (hN : X.N[i]? = some x := by rfl) (hv : Vis X.env.scope x := by first | exact Or.inl rfl | exact Or.inr (Or.inl rfl) | exact Or.inr (Or.inr rfl)) (hd : (x == ("__debug__" : Str)) = false := by decide) (hcd : (x == ("__classdict__" : Str)) = false := by decide)
    (hs : swapsWith e (some (.Attribute (.Name x p1) fs p')) pos.line X.env = pure false := by rfl) : PS X (.Assign [.Attribute (.Name x p1) fs p'] e pos) (tS X.K B W (oFld i c n m)) := by
  subst hn
  refine PS.imp (ps_fld (pe_var (i := i) hN hv hd hcd) he hs) fun Dn σ H ⟨G, ρ, e0, q⟩ => ⟨G, ρ, e0, SG.of e0 q fun d G1 v H1 _ g e1 r q1 => ?_⟩
  cases hs : ρ[i]? with
  | none => rw [hs] at q1; exact q1.elim
  | some s =>
    rw [hs] at q1
    cases s with
    | ins c' fs =>
      obtain ⟨⟨ec, hz⟩, q1⟩ := SG.chk (show SG X.K B W Dn (oChk (c' = c ∧ fs.length < 1000) (.nx (ρ.set i (.ins c (putD n d fs))))) from q1)
      subst ec
      obtain ⟨l, dx, fv, hv, hl, af, rf, gl, bl, me⟩ := e1.slot i _ hs
      have af2 : AtF X.K c' (putD n d fs) := ⟨af.1, fun p hp => by
        rcases putD_mem hp with rfl | hp
        · exact na
        · exact af.2 p hp⟩
      refine ⟨_, hv, l, ca X.K c', dx, fv, rfl, hl, af.1.cls, na, by rw [rf.length]; exact hz, q1 G1 σ _ (e1.change hs (by rw [hv]; exact rfl) (by rw [hv]; exact ⟨l, dx, _, rfl, upd_same, af2, rf.put r, gl, bl, me⟩) fun b f => .inl (by rw [hv] at f ⊢; exact f))⟩
    | _ => exact q1.elim
theorem me_ins (i : Nat) (n : Nm) (hn : n.s = fs := by rfl) (hN : X.N[i]? = some x := by rfl) (hv : Vis X.env.scope x := by first | exact Or.inl rfl | exact Or.inr (Or.inl rfl) | exact Or.inr (Or.inr rfl)) (hd : (x == ("__debug__" : Str)) = false := by decide) (hcd : (x == ("__classdict__" : Str)) = false := by decide)
    (hb : attributeBase (.Name x p1) fs X.env (eval (.Name x p1) X.env) = eval (.Name x p1) X.env := by rfl) : PE X (.Attribute (.Name x p1) fs pos) (tM X.K B W (mIns i n)) := by
  subst hn
  refine PE.imp (pe_fld (pe_var (i := i) hN hv hd hcd) hb) fun σ H Q ⟨G, ρ, e0, q⟩ => ?_
  unfold mIns at q
  split at q
  · rename_i c fs hs
    obtain ⟨d, hd, q⟩ := RG.opt q
    obtain ⟨l, dx, fv, hv, hl, af, rf, _⟩ := e0.slot i _ hs
    obtain ⟨w, e1, r1⟩ := rf.lookup hd
    exact ⟨_, hv, l, _, dx, fv, w, rfl, hl, af.1.cls, af.2 _ (me_fld.mem_of_lookup hd), e1, RG.here e0.sub q r1⟩
  · exact q.elim
/-- a constant of the class, by self in the making -/
def mInsC (i : Nat) (ps : Cl → Option D) : Ev → Res D := fun ρ => match ρ[i]? with
  | some (.ins c _) => ofOpt (ps c)
  | _ => .stuck
theorem me_insC (i : Nat) {ps : Cl → Option D} (hx : ∀ n : Nm, n.s ≠ fs) (hp : ∀ c d, ps c = some d → ∃ v u, Con X.K (ca X.K c) fs v u ∧ ∀ G, Rep X.K G v d) (hN : X.N[i]? = some x := by rfl) (hv : Vis X.env.scope x := by first | exact Or.inl rfl | exact Or.inr (Or.inl rfl) | exact Or.inr (Or.inr rfl)) (hd : (x == ("__debug__" : Str)) = false := by decide) (hcd : (x == ("__classdict__" : Str)) = false := by decide)
    (hb : attributeBase (.Name x p1) fs X.env (eval (.Name x p1) X.env) = eval (.Name x p1) X.env := by rfl) : PE X (.Attribute (.Name x p1) fs pos) (tM X.K B W (mInsC i ps)) := by
  refine PE.imp (pe_con (pe_var (i := i) hN hv hd hcd) hb) fun σ H Q ⟨G, ρ, e0, q⟩ => ?_
  unfold mInsC at q
  split at q
  · rename_i c fs hs
    obtain ⟨d, hd, q⟩ := RG.opt q
    obtain ⟨l, dx, fv, hv, hl, af, rf, _⟩ := e0.slot i _ hs
    obtain ⟨v, u, k, rv⟩ := hp _ d hd
    exact ⟨_, hv, l, _, dx, fv, v, u, rfl, hl, af.1.cls, k, rf.lookup_out hx, RG.here e0.sub q (rv _)⟩
  · exact q.elim
end
end PL
namespace PL
open PySem PySem.Spec L2
open PySem.W (Frag)
abbrev Fb := Frag → Bool
section
variable {K : Frag}
theorem b2 {a b : Bool} (h : (a && b) = true) : a = true ∧ b = true := Bool.and_eq_true_iff.mp h
theorem ca_ga (K : Frag) (c : Cl) : ca K c = He.ga K c.s := rfl
def gloB (x : Str) : Fb := fun K => decide (PySem.W.nsIn K mainGlobals x = some (some (.ref (He.ga K x))))
def freeB (x : Str) : Fb := fun K => decide (PySem.W.nsIn K mainGlobals x = some none)
def bltB (x : Str) (id : String) : Fb := fun K => decide (PySem.W.nsIn K mainGlobals x = some (some (.builtin id)))
def intB (x : Str) (i : Int) : Fb := fun K => match PySem.W.nsIn K mainGlobals x with
  | some (some (.int j _)) => decide (j = i)
  | _ => false
def strB (x z : Str) : Fb := fun K => match PySem.W.nsIn K mainGlobals x with
  | some (some (.str j _)) => decide (j = z)
  | _ => false
variable {h : Heap} {mg : Str → Option Value}
theorem gloB_ok (X : K.In h) (G : h.Ns mainGlobals mg) {x : Str} (c : gloB x K = true) : mg x = some (.ref (He.ga K x)) := PySem.W.mg_of X G (of_decide_eq_true c)
theorem freeB_ok (X : K.In h) (G : h.Ns mainGlobals mg) {x : Str} (c : freeB x K = true) : mg x = none := PySem.W.mg_none_of X G (of_decide_eq_true c)
theorem bltB_ok (X : K.In h) (G : h.Ns mainGlobals mg) {x : Str} {id : String} (c : bltB x id K = true) : mg x = some (.builtin id) := PySem.W.mg_of X G (of_decide_eq_true c)
theorem intB_ok (X : K.In h) (G : h.Ns mainGlobals mg) {x : Str} {i : Int} (c : intB x i K = true) : ∃ t, mg x = some (.int i t) := by
  unfold intB at c
  split at c
  · rename_i j t e
    have ej := of_decide_eq_true c
    subst ej
    exact ⟨t, PySem.W.mg_of X G e⟩
  · cases c
theorem strB_ok (X : K.In h) (G : h.Ns mainGlobals mg) {x z : Str} (c : strB x z K = true) : ∃ t, mg x = some (.str z t) := by
  unfold strB at c
  split at c
  · rename_i j t e
    have ej := of_decide_eq_true c
    subst ej
    exact ⟨t, PySem.W.mg_of X G e⟩
  · cases c
def fndB (c : Cl) (m : Str) (v : Option Value) : Fb := fun K => decide (PySem.W.findIn K (.ref (ca K c)) m = some v)
def clB (c : Cl) : Fb := fun K => PySem.W.plainGet K (ca K c) Str.empty && PySem.W.hasDictIn K (ca K c) && PySem.W.plainOver K (ca K c) && fndB c "__setattr__" (some (.builtin "object.__setattr__")) K && fndB c "__class__" (some (.builtin "object.__class__")) K &&
  decide (PySem.W.specialIn K (.builtin "object.__class__") "__get__" = some (some (.builtin "getset_descriptor.__get__"))) && decide (PySem.W.takesIn K (.builtin "object.__class__") = some true) && decide (PySem.W.mroIn K (ca K c) (.type "object") = some true) && PySem.W.selfFirst K (ca K c)
theorem clB_ok {c : Cl} (e : clB c K = true) : ClF K c := by
  unfold clB fndB at e
  simp only [Bool.and_eq_true, decide_eq_true_eq] at e
  obtain ⟨⟨⟨⟨⟨⟨⟨⟨h1, h2⟩, h3⟩, h4⟩, h5⟩, h6⟩, h7⟩, h8⟩, h9⟩ := e
  exact ⟨⟨h1, h2, h3, h4⟩, h5, h6, h7, h8, h9⟩
/-- no class has the attribute's name -/
def naB (c : Cl) (n : Nm) : Fb := fndB c n.s none
theorem naB_ok {c : Cl} {n : Nm} (e : naB c n K = true) : NoAttr K (ca K c) n.s := by
  unfold naB fndB at e
  have z : PySem.W.findIn K (.ref (ca K c)) n.s = some none := of_decide_eq_true e
  exact z
/-- where a method, a property's getter stands -/
def mA (c : Cl) (m : Str) : Frag → Addr := fun K => He.ma K (ca K c) m
def pA (c : Cl) (m : Str) : Frag → Addr := fun K => match PySem.W.recIn K (He.ma K (ca K c) m) "property" with
  | some (.ref g :: _) => g
  | _ => 0
def mtB (c : Cl) (m : Str) : Fb := fun K => fndB c m (some (.ref (mA c m K))) K && PySem.W.isFn K (.ref (mA c m K)) && PySem.W.keepIn K (.ref (mA c m K))
theorem mtB_ok {c : Cl} {m : Str} (e : mtB c m K = true) : Meth K (ca K c) m (mA c m K) := by
  unfold mtB fndB at e
  simp only [Bool.and_eq_true, decide_eq_true_eq] at e
  exact ⟨e.1.1, e.1.2, e.2⟩
def mkB (c : Cl) : Fb := fun K => PySem.W.makesIn K (ca K c) && fndB c "__init__" (some (.ref (mA c "__init__" K))) K && PySem.W.isFn K (.ref (mA c "__init__" K)) && PySem.W.keepIn K (.ref (ca K c))
theorem mkB_ok {c : Cl} (e : mkB c K = true) : Mk K (ca K c) (mA c "__init__" K) := by
  unfold mkB fndB at e
  simp only [Bool.and_eq_true, decide_eq_true_eq] at e
  exact ⟨e.1.1.1, e.1.1.2, e.1.2, e.2⟩
def prB (c : Cl) (f : Str) : Fb := fun K => fndB c f (some (.ref (mA c f K))) K && decide (PySem.W.specialIn K (.ref (mA c f K)) "__get__" = some (some (.builtin "property.__get__"))) && decide (PySem.W.takesIn K (.ref (mA c f K)) = some true) &&
  match PySem.W.recIn K (mA c f K) "property" with
  | some (.ref g :: _) => true
  | _ => false
theorem prB_ok {c : Cl} {f : Str} (e : prB c f K = true) : PropOf K (ca K c) f (mA c f K) (pA c f K) := by
  unfold prB fndB at e
  simp only [Bool.and_eq_true, decide_eq_true_eq] at e
  obtain ⟨⟨⟨h1, h2⟩, h3⟩, h4⟩ := e
  refine ⟨h1, h2, h3, ?_⟩
  unfold pA
  have h5 : (match PySem.W.recIn K (mA c f K) "property" with
    | some (.ref g :: _) => true
    | _ => false) = true := h4
  split at h5
  · rename_i g r e
    refine ⟨r, ?_⟩
    have e2 : PySem.W.recIn K (He.ma K (ca K c) f) "property" = some (.ref g :: r) := e
    rw [e2]
    exact e
  · cases h5
/-- a constant of the class: an int -/
def ciB (c : Cl) (f : Str) (i : Int) : Fb := fun K => (match PySem.W.findIn K (.ref (ca K c)) f with
  | some (some (.int j t)) => decide (j = i) && decide (PySem.W.specialIn K (.int j t) "__get__" = some none)
  | _ => false) && !PySem.W.copiedNames.contains f
theorem ciB_ok {c : Cl} {f : Str} {i : Int} (e : ciB c f i K = true) : ∃ v u, Con K (ca K c) f v u ∧ ∀ G, Rep K G v (.int i) := by
  unfold ciB at e
  obtain ⟨e1, e2⟩ := b2 e
  split at e1
  · rename_i j t q
    obtain ⟨h1, h2⟩ := b2 e1
    have hj := of_decide_eq_true h1
    subst hj
    exact ⟨.int j, .int j t, ⟨q, ⟨t, rfl⟩, of_decide_eq_true h2, by simpa using e2⟩, fun G => .int j⟩
  · cases e1
def bnB (c : Cl) (op : Operator) : Fb := fun K => fndB c (PySem.dunder op.info.2) (some (.ref (mA c (PySem.dunder op.info.2) K))) K && PySem.W.isFn K (.ref (mA c (PySem.dunder op.info.2) K)) &&
  (fndB c (dunderR op.info.2) none K || fndB c (dunderR op.info.2) (some (.ref (mA c (dunderR op.info.2) K))) K)
theorem bnB_ok {T : Tk} {k : Nat} {c : Cl} {op : Operator} {g : List D → Res D} (e : bnB c op T.K = true) (F : FnM T k (mA c (PySem.dunder op.info.2) T.K) 2 g) : BinF T k op c g := by
  unfold bnB fndB at e
  simp only [Bool.and_eq_true, Bool.or_eq_true, decide_eq_true_eq] at e
  obtain ⟨⟨h1, h2⟩, h3⟩ := e
  rcases h3 with h3 | h3
  · exact ⟨_, none, h1, h2, h3, .inl rfl, F⟩
  · exact ⟨_, _, h1, h2, h3, .inr ⟨_, rfl⟩, F⟩
def rnB (c : Cl) (op : Operator) : Fb := fun K => fndB c (dunderR op.info.2) (some (.ref (mA c (dunderR op.info.2) K))) K && PySem.W.isFn K (.ref (mA c (dunderR op.info.2) K)) && fndB c (PySem.dunder op.info.2) (some (.ref (mA c (PySem.dunder op.info.2) K))) K && decide (PySem.W.subIn K (.ref (ca K c)) (.type "int") = some false)
theorem rnB_ok {T : Tk} {k : Nat} {c : Cl} {op : Operator} {g : List D → Res D} (e : rnB c op T.K = true) (F : FnM T k (mA c (dunderR op.info.2) T.K) 2 g) : RinF T k op c g := by
  unfold rnB fndB at e
  simp only [Bool.and_eq_true, decide_eq_true_eq] at e
  obtain ⟨⟨⟨h1, h2⟩, h3⟩, h4⟩ := e
  exact ⟨_, _, h1, h2, h3, F, h4⟩
def cpB (c : Cl) (op : CmpOp) : Fb := fun K => fndB c (cmpInfo op).2.1 (some (.ref (mA c (cmpInfo op).2.1 K))) K && PySem.W.isFn K (.ref (mA c (cmpInfo op).2.1 K))
theorem cpB_ok {T : Tk} {k : Nat} {c : Cl} {op : CmpOp} {g : List D → Res D} (e : cpB c op T.K = true) (F : FnM T k (mA c (cmpInfo op).2.1 T.K) 2 g) : CmpF T k op c g := by
  unfold cpB fndB at e
  simp only [Bool.and_eq_true, decide_eq_true_eq] at e
  exact ⟨_, e.1, e.2, F⟩
def ixB (c : Cl) : Fb := fun K => fndB c "__getitem__" (some (.ref (mA c "__getitem__" K))) K && PySem.W.fnIn K (mA c "__getitem__" K) && PySem.W.isFn K (.ref (mA c "__getitem__" K))
theorem ixB_ok {T : Tk} {k : Nat} {c : Cl} {g : List D → Res D} (e : ixB c T.K = true) (F : FnM T k (mA c "__getitem__" T.K) 2 g) : IxF T k c g := by
  unfold ixB fndB at e
  simp only [Bool.and_eq_true, decide_eq_true_eq] at e
  exact ⟨_, e.1.1, e.1.2, e.2, F⟩
def kiB (c c' : Cl) (b : Bool) : Fb := fun K => decide (PySem.W.kitOne K (.ref (ca K c)) (.ref (ca K c')) = some b)
def ktB (c : Cl) (T : String) (b : Bool) : Fb := fun K => decide (PySem.W.kitOne K (.ref (ca K c)) (.type T) = some b)
def akB (c : Cl) : Fb := fun K => clsAsk K (ca K c)
def exB (c c' : Cl) (b : Bool) : Fb := fun K => decide (PySem.W.exmOne K (.ref (ca K c)) (.ref (ca K c')) = some b)
def ecB (c : Cl) : Fb := fun K => fndB c "__getattribute__" (some (.builtin "BaseException.__getattribute__")) K && fndB c "__getattr__" none K && decide (PySem.W.subIn K (.ref (ca K c)) (.type "BaseException") = some true) && PySem.W.hasDictIn K (ca K c) && fndB c "__class__" (some (.builtin "object.__class__")) K &&
  decide (PySem.W.specialIn K (.builtin "object.__class__") "__get__" = some (some (.builtin "getset_descriptor.__get__"))) && decide (PySem.W.takesIn K (.builtin "object.__class__") = some true) && decide (PySem.W.mroIn K (ca K c) (.type "object") = some true)
theorem ecB_ok {c : Cl} (e : ecB c K = true) : XcF K c := by
  unfold ecB fndB at e
  simp only [Bool.and_eq_true, decide_eq_true_eq] at e
  obtain ⟨⟨⟨⟨⟨⟨⟨h1, h2⟩, h3⟩, h4⟩, h5⟩, h6⟩, h7⟩, h8⟩ := e
  exact ⟨⟨h1, h2, h3, h4⟩, ⟨h1, h2, h3, h4, h5, h6, h7, h8⟩⟩
/-- it may be raised -/
def rsB (c : Cl) : Fb := fun K => gloB c.s K && PySem.W.keepIn K (.ref (ca K c)) && decide (PySem.W.subIn K (.ref (ca K c)) (.type "BaseException") = some true) && decide (PySem.W.typeIn K (.ref (ca K c)) = some (.type "type")) && ecB c K
def x0B (c : Cl) : Fb := fun K => rsB c K && PySem.W.excIn K (ca K c) [.type "ValueError", .type "Exception", .type "BaseException", .type "object"] "ValueError.__new__"
theorem x0B_ok {T : Tk} {h : Heap} (X : T.K.In h) (G : h.Ns mainGlobals T.mg) {c : Cl} (e : x0B c T.K = true) : X0F T c := by
  unfold x0B rsB at e
  simp only [Bool.and_eq_true, decide_eq_true_eq] at e
  obtain ⟨⟨⟨⟨⟨h1, h2⟩, h3⟩, h4⟩, h5⟩, h6⟩ := e
  exact ⟨h6, gloB_ok X G h1, h2, h3, h4, ecB_ok h5⟩
abbrev XW : Type := Option (Str × Str × Arguments × FuncBody × Scope × Addr × Addr × Value × Value)
def xnA (K : Frag) (a : Addr) : XW := match K.lookup a with
  | some ⟨_, _, .func fd, _⟩ => some (fd.name, fd.qualname, fd.params, fd.body, fd.scope, fd.globals, fd.builtins, fd.defaults, fd.kwdefaults)
  | _ => none
/-- an error's __init__ -/
structure XDef where
  c : Cl
  qual : Str
  params : Arguments
  body : List Stmt
  scope : Scope
def XDef.val (d : XDef) : XW := some ("__init__", d.qual, d.params, .stmts d.body, d.scope, mainGlobals, builtinsNs, .none, .none)
def XDef.at_ (d : XDef) : Frag → Addr := mA d.c "__init__"
def xclB (c : Cl) : Fb := fun K => match K.lookup (ca K c) with
  | some ⟨.type t, _, .cls cd, sl⟩ => (match cd.mro, sl.toList with
    | .ref C' :: bm, [_, _, _, _, some (.builtin n), _] => decide (t = "type") && decide (C' = ca K c) && decide (n = "ValueError.__new__") && !cd.hasDel && cd.hasDict && PySem.HandSPX.refsVE bm
    | _, _ => false)
  | _ => false
def xclosB (c : Cl) (qual file : Str) : Fb := fun K => match K.lookup (mA c "__init__" K) with
  | some ⟨_, _, .func fd, _⟩ => (match fd.closure, fd.code with
    | [(n, cc)], .ref cda => decide (n = "__class__") && PySem.W.codeIn K (.ref cda) qual && (match K.lookup cda with
      | some ⟨_, _, .fields vs, _⟩ => (match (vs[2]? : Option Value) with
        | some (Value.str f _) => f == file
        | _ => false)
      | _ => false) && (match K.lookup cc with
      | some ⟨_, _, .cell (some v), _⟩ => decide (v = .ref (ca K c))
      | _ => false)
    | _, _ => false)
  | _ => false
def xiB (c : Cl) (qual file : Str) : Fb := fun K => rsB c K && xclB c K && xclosB c qual file K && fndB c "__setattr__" (some (.builtin "object.__setattr__")) K && fndB c "__init__" (some (.ref (mA c "__init__" K))) K && decide (PySem.W.typeIn K (.ref (mA c "__init__" K)) = some (.type "function")) &&
  decide (PySem.W.mroIn K (ca K c) (.ref (ca K c)) = some true) && decide (PySem.W.subIn K (.ref (ca K c)) (.type "ValueError") = some true) && decide (PySem.W.ks_superIn K (ca K c) (ca K c) "__init__" = some (some (.builtin veI))) && decide (PySem.W.nsIn K PySem.cStatics "thirdparty.any" = some none)
theorem xclB_ok {c : Cl} (e : xclB c K = true) : ∃ nm q N bs bm sn sub ab col dd k0 k1 k2 k3 k5, K.lookup (ca K c) = some (PySem.excClassObj nm q (ca K c) N bs bm true sn sub ab col dd k0 k1 k2 k3 k5 "ValueError.__new__") ∧ PySem.HandSPX.refsVE bm = true := by
  unfold xclB at e
  split at e
  · rename_i t dd cd sl hl
    split at e
    · rename_i C' bm k0 k1 k2 k3 n k5 hm hs
      simp only [Bool.and_eq_true, decide_eq_true_eq] at e
      obtain ⟨⟨⟨⟨⟨h1, h2⟩, h3⟩, h4⟩, h5⟩, h6⟩ := e
      obtain ⟨nm, bs, mro, ns, q, hd, sn, sub, ab, col, del⟩ := cd
      simp only at hm h4 h5
      subst h1 h2 h3 hm h5
      have h4' : del = false := by simpa using h4
      subst h4'
      refine ⟨nm, q, ns, bs, bm, sn, sub, ab, col, dd, k0, k1, k2, k3, k5, ?_, h6⟩
      rw [hl]
      have e2 : sl = #[k0, k1, k2, k3, some (.builtin "ValueError.__new__"), k5] := by
        have := congrArg List.toArray hs
        simpa using this
      rw [e2]
    · cases e
  · cases e
theorem xi_of {prog : Program} {c : Cl} {qual : Str} {params : Arguments} {body : List Stmt} {scope : Scope} (e : xiB c qual prog.main.file K = true) (ew : xnA K (mA c "__init__" K) = XDef.val ⟨c, qual, params, body, scope⟩) (top : (prog.main.scope.names.lookup ("super" : Str)).isSome = false) :
    XiT prog K (ca K c) (mA c "__init__" K) qual params body scope := by
  unfold xiB at e
  simp only [Bool.and_eq_true, decide_eq_true_eq] at e
  obtain ⟨⟨⟨⟨⟨⟨⟨⟨⟨h1, h2⟩, h3⟩, h4⟩, h5⟩, h6⟩, h7⟩, h8⟩, h9⟩, h10⟩ := e
  refine ⟨xclB_ok h2, ?_, of_decide_eq_true h4, of_decide_eq_true h5, h6, h7, h8, h9, h10, top⟩
  unfold xclosB at h3
  unfold xnA at ew
  split at h3
  · rename_i oc od fd osl hl
    rw [hl] at ew
    split at h3
    · rename_i n cc cda hcl hco
      simp only [Bool.and_eq_true, decide_eq_true_eq] at h3
      obtain ⟨⟨⟨k1, k2⟩, k3⟩, k4⟩ := h3
      obtain ⟨n1, n2, n3, n4, n5, n6, n7, n8, n9, n10, n11, n12, n13, n14, n15⟩ := fd
      simp only at hcl hco
      unfold XDef.val at ew
      simp only [Option.some.injEq, Prod.mk.injEq] at ew
      obtain ⟨w1, w2, w3, w4, w5, w6, w7, w8, w9⟩ := ew
      subst w1 w2 w3 w4 w5 w6 w7 w8 w9 hcl hco k1
      refine ⟨oc, od, n10, n11, n12, n14, osl, cda, cc, hl, k2, ?_, ?_⟩
      · split at k3
        · rename_i ccl cdd vs ccs hc
          split at k3
          · rename_i f tf hv
            refine ⟨ccl, cdd, vs, ccs, f, tf, hc, hv, ?_⟩
            have z : f = prog.main.file := by simpa using k3
            simpa using z.symm
          · cases k3
        · cases k3
      · split at k4
        · rename_i cl cld v csl hc
          have z := of_decide_eq_true k4
          subst z
          exact ⟨cl, cld, csl, hc⟩
        · cases k4
    · cases h3
  · cases h3
end
abbrev AlP : Type := Bool × List He.FnW × List XW
def obsP (fb : List Fb) (fn : List He5.DefA) (xn : List XDef) (K : Frag) : AlP := ((fb.all fun f => f K) && fn.all fun d => d.ok K, fn.map fun d => He5.fnA K (d.at_ K), xn.map fun d => xnA K (d.at_ K))
def valP (fn : List He5.DefA) (xn : List XDef) : AlP := (true, fn.map He5.DefA.val, xn.map XDef.val)
def SaysP (fb : List Fb) (fn : List He5.DefA) (xn : List XDef) (K : Frag) : Prop := obsP fb fn xn K = valP fn xn
/-- without lists: no list of the head's is the script -/
def noL (K : Frag) : Frag := K.filter fun p => match p.2.cls with
  | .type n => n != "list"
  | _ => true
def NoLs (K : Frag) : Prop := ∀ a o, K.lookup a = some o → o.cls ≠ .type "list"
theorem mem_frG {g : Addr → Option Obj} {as : List Addr} {p : Addr × Obj} (h : p ∈ He.frG g as) : g p.1 = some p.2 := by
  unfold He.frG at h
  obtain ⟨a, _, e⟩ := List.mem_filterMap.mp h
  cases q : g a with
  | none => rw [q] at e; cases e
  | some o => rw [q] at e; cases e; exact q
theorem mem_lookup {K : Frag} {a : Addr} {o : Obj} (h : K.lookup a = some o) : (a, o) ∈ K := by
  induction K with
  | nil => cases h
  | cons p r ih =>
    obtain ⟨b, q⟩ := p
    rw [List.lookup_cons] at h
    by_cases z : (a == b) = true
    · rw [z] at h
      have e : a = b := by simpa using z
      subst e
      cases h
      exact List.mem_cons_self
    · have z' : (a == b) = false := by simpa using z
      rw [z'] at h
      exact List.mem_cons_of_mem _ (ih h)
theorem noL_in {as : List Addr} {h : Heap} : (noL (He.frG h.get? as)).In h := fun _ _ e => mem_frG (List.mem_filter.mp (mem_lookup e)).1
theorem noL_no {K : Frag} : NoLs (noL K) := fun a o e z => by
  have q := (List.mem_filter.mp (mem_lookup e)).2
  rw [show ((a, o) : Addr × Obj).2.cls = Value.type "list" from z] at q
  simp at q
def obsPG (n : Nat) (fb : List Fb) (fn : List He5.DefA) (xn : List XDef) (g : Addr → Option Obj) : AlP := obsP fb fn xn (noL (He.frG g (He5.asA g n)))
def hookP (n : Nat) (fb : List Fb) (fn : List He5.DefA) (xn : List XDef) : PySem.W.Hook where
  α := AlP
  obs := fun s => obsPG n fb fn xn s.heap.get?
  val := fun _ => valP fn xn
  says := fun _ h => ∃ K : Frag, K.In h ∧ SaysP fb fn xn K ∧ NoLs K
  of := fun _ _ e => ⟨_, noL_in, e, noL_no⟩
  keeps := fun _ _ _ ⟨K, hK, c⟩ k => ⟨K, PySem.W.Frag.In.keeps hK k, c⟩
theorem obsPG_eq {n : Nat} {fb : List Fb} {fn : List He5.DefA} {xn : List XDef} {g : Addr → Option Obj} {s : Shared} (h : ∀ a, g a = s.heap.get? a) : obsPG n fb fn xn g = (hookP n fb fn xn).obs s := by
  have e : g = s.heap.get? := funext h
  rw [e] <;> rfl
section
variable {fb : List Fb} {fn : List He5.DefA} {xn : List XDef} {K : Frag}
theorem SaysP.fact (c : SaysP fb fn xn K) (i : Nat) {f : Fb} (h : fb[i]? = some f := by rfl) : f K = true := by
  have c1 := (b2 (show ((fb.all fun f => f K) && fn.all fun d => d.ok K) = true from congrArg (fun z : AlP => z.1) c)).1
  exact List.all_eq_true.mp c1 f (List.mem_of_getElem? h)
theorem SaysP.def_ (c : SaysP fb fn xn K) (i : Nat) {d : He5.DefA} (h : fn[i]? = some d := by rfl) : ∃ fd, FunD K d.name d.qual d.params d.body d.scope (d.dvs K) (d.kws K) (d.at_ K) fd := by
  have c2 := (b2 (show ((fb.all fun f => f K) && fn.all fun d => d.ok K) = true from congrArg (fun z : AlP => z.1) c)).2
  have e : fn.map (fun d => He5.fnA K (d.at_ K)) = fn.map He5.DefA.val := congrArg (fun z : AlP => z.2.1) c
  have e2 : (fn.map fun d => He5.fnA K (d.at_ K))[i]? = (fn.map He5.DefA.val)[i]? := by rw [e]
  rw [List.getElem?_map, List.getElem?_map, h] at e2
  exact He5.DefA.funD (Option.some.inj e2) (List.all_eq_true.mp c2 d (List.mem_of_getElem? h))
theorem SaysP.ini_ (c : SaysP fb fn xn K) (i : Nat) {d : XDef} (h : xn[i]? = some d := by rfl) : xnA K (d.at_ K) = d.val := by
  have e : xn.map (fun d => xnA K (d.at_ K)) = xn.map XDef.val := congrArg (fun z : AlP => z.2.2) c
  have e2 : (xn.map fun d => xnA K (d.at_ K))[i]? = (xn.map XDef.val)[i]? := by rw [e]
  rw [List.getElem?_map, List.getElem?_map, h] at e2
  exact Option.some.inj e2
end
section
variable {T : Tk} {c : Cl} {f1 f2 : Nm} {qual tx a1 a2 : Str} {params : Arguments} {scope : Scope} {j : Nat} {p0 p1 p2 p3 p4 t1 t2 t3 q1 q2 q3 q4 r1 r2 r3 r4 : Pos} {ar : Arg} {h : Heap}
theorem rs_of (X : T.K.In h) (G : h.Ns mainGlobals T.mg) (e : rsB c T.K = true) : T.mg c.s = some (.ref (ca T.K c)) ∧ PySem.W.keepIn T.K (.ref (ca T.K c)) = true ∧ PySem.W.subIn T.K (.ref (ca T.K c)) (.type "BaseException") = some true ∧ PySem.W.typeIn T.K (.ref (ca T.K c)) = some (.type "type") ∧ XcF T.K c := by
  unfold rsB at e
  simp only [Bool.and_eq_true, decide_eq_true_eq] at e
  obtain ⟨⟨⟨⟨h1, h2⟩, h3⟩, h4⟩, h5⟩ := e
  exact ⟨gloB_ok X G h1, h2, h3, h4, ecB_ok h5⟩
theorem xi_rs {file : Str} (e : xiB c qual file T.K = true) : rsB c T.K = true := by
  unfold xiB at e
  simp only [Bool.and_eq_true, decide_eq_true_eq] at e
  exact e.1.1.1.1.1.1.1.1.1
theorem x1_of (X : T.K.In h) (G : h.Ns mainGlobals T.mg) (e : xiB c qual T.P.main.file T.K = true) (ew : xnA T.K (mA c "__init__" T.K) = XDef.val ⟨c, qual, params, [.Expr (supE (.Constant (.str tx) j t1) p0 p1 p2 p3) p4, stoE f1.s a1 q1 q2 q3 q4], scope⟩)
    (hn : fndB c f1.s none T.K = true) (nog : T.mg "super" = none) (top : (T.P.main.scope.names.lookup ("super" : Str)).isSome = false) (S : XSc scope) (SO : SupOk (.Constant (.str tx) j t1) p0 p1 p2 p3 p4) (l1 : scope.names.lookup a1 = some .local)
    (hp : (params.posonlyargs ++ params.args).head? = some ar) (har : ar.arg = "self") (n1 : (("self" : Str) == a1) = false) (d1 : (a1 == ("__debug__" : Str)) = false) (sw1 : ∀ env, swapsWith (.Name a1 q3) (some (.Attribute (.Name "self" q1) f1.s q2)) q4.line env = pure false)
    (hb : ∀ x v doc pm an cdv ct cc, bindArgs (PySem.W.ksFn "__init__" qual params [.Expr (supE (.Constant (.str tx) j t1) p0 p1 p2 p3) p4, stoE f1.s a1 q1 q2 q3 q4] scope .none .none doc pm an cdv ct cc) ⟨[x, v], []⟩ = pure [(("self" : Str), x), (a1, v)]) : X1F T c f1 := by
  have TX := xi_of e ew top
  obtain ⟨g1, g2, g3, g4, g5⟩ := rs_of X G (xi_rs e)
  have h1 : PySem.W.findIn T.K (.ref (ca T.K c)) f1.s = some none := of_decide_eq_true hn
  refine ⟨g1, g2, g3, g4, g5, h1, fun A s R v KI kb hlim room M hq => ?_⟩
  refine x_made TX KI (by show 1 ≤ 1000; omega) (fun A' s' x t0 R' hd KI' hnx kk hx hq' => ?_) hq
  exact xi_run1 TX S SO l1 hp har h1 n1 d1 sw1 hb M nog v A' s' x t0 R' (by rw [hd]; exact room) KI' (fun b o q => kk b o (kb b o q)) (hlim.keeps kk) hnx hx hq'
theorem x2_of (X : T.K.In h) (G : h.Ns mainGlobals T.mg) (e : xiB c qual T.P.main.file T.K = true) (ew : xnA T.K (mA c "__init__" T.K) = XDef.val ⟨c, qual, params, [.Expr (supE (.BinOp (.Constant (.str tx) j t1) .Add (.Name a1 t2) t3) p0 p1 p2 p3) p4, stoE f1.s a1 q1 q2 q3 q4, stoE f2.s a2 r1 r2 r3 r4], scope⟩)
    (hn : fndB c f1.s none T.K = true) (hn2 : fndB c f2.s none T.K = true) (ne : f1 ≠ f2) (nog : T.mg "super" = none) (top : (T.P.main.scope.names.lookup ("super" : Str)).isSome = false) (S : XSc scope) (SO : SupOk (.BinOp (.Constant (.str tx) j t1) .Add (.Name a1 t2) t3) p0 p1 p2 p3 p4) (l1 : scope.names.lookup a1 = some .local) (l2 : scope.names.lookup a2 = some .local)
    (hp : (params.posonlyargs ++ params.args).head? = some ar) (har : ar.arg = "self") (n1 : (("self" : Str) == a1) = false) (n2 : (("self" : Str) == a2) = false) (n12 : (a1 == a2) = false) (d1 : (a1 == ("__debug__" : Str)) = false) (d2 : (a2 == ("__debug__" : Str)) = false)
    (sw1 : ∀ env, swapsWith (.Name a1 q3) (some (.Attribute (.Name "self" q1) f1.s q2)) q4.line env = pure false) (sw2 : ∀ env, swapsWith (.Name a2 r3) (some (.Attribute (.Name "self" r1) f2.s r2)) r4.line env = pure false)
    (hb : ∀ x v u doc pm an cdv ct cc, bindArgs (PySem.W.ksFn "__init__" qual params [.Expr (supE (.BinOp (.Constant (.str tx) j t1) .Add (.Name a1 t2) t3) p0 p1 p2 p3) p4, stoE f1.s a1 q1 q2 q3 q4, stoE f2.s a2 r1 r2 r3 r4] scope .none .none doc pm an cdv ct cc) ⟨[x, v, u], []⟩ = pure [(("self" : Str), x), (a1, v), (a2, u)]) : X2F T c tx.length f1 f2 := by
  have TX := xi_of e ew top
  obtain ⟨g1, g2, g3, g4, g5⟩ := rs_of X G (xi_rs e)
  have h1 : PySem.W.findIn T.K (.ref (ca T.K c)) f1.s = some none := of_decide_eq_true hn
  have h2 : PySem.W.findIn T.K (.ref (ca T.K c)) f2.s = some none := of_decide_eq_true hn2
  refine ⟨g1, g2, g3, g4, g5, h1, h2, ne, fun A s R y ty u hz KI kb hlim room M hq => ?_⟩
  refine x_made TX KI (by show 2 ≤ 1000; omega) (fun A' s' x t0 R' hd KI' hnx kk hx hq' => ?_) hq
  exact xi_run2 TX S SO l1 l2 hp har h1 h2 n1 n2 n12 d1 d2 sw1 sw2 hb M nog y ty u hz A' s' x t0 R' (by rw [hd]; exact room) KI' (fun b o q => kk b o (kb b o q)) (hlim.keeps kk) hnx hx hq'
end
def unNm : UnaryOp → Str
  | .Invert => "__invert__"
  | .UAdd => "__pos__"
  | .USub => "__neg__"
  | .Not => ""
def uaB (c : Cl) (op : UnaryOp) : Fb := fun K => fndB c (unNm op) (some (.ref (mA c (unNm op) K))) K && PySem.W.isFn K (.ref (mA c (unNm op) K))
def cvB (x f : Str) (i : Int) : Fb := fun K => PySem.W.readsIn K (He.ga K x) (.type "type") && decide (PySem.W.specialIn K (.ref (He.ga K x)) "__getattribute__" = some (some (.builtin "type.__getattribute__"))) &&
  (match PySem.W.findCls K (.ref (He.ga K x)) (.type "type") f with
  | some (.val (.int j _)) => decide (j = i)
  | _ => false)
end PL
namespace PL
open PySem PySem.Spec L2
open PySem.W (Frag)
/-- a class's body -/
def clsB : Stmt → List Stmt
  | .ClassDef _ _ _ b _ _ _ _ _ _ _ => b
  | _ => []
def nth (l : List Stmt) (i : Nat) : Stmt := l.getD i (.Pass ⟨0, 0, 0, 0⟩)
/-- all that the head tells -/
structure FX (P0 : Program) (fb : List Fb) (fn : List He5.DefA) (xn : List XDef) (T : Tk) : Prop where
  pr : T.P = P0
  ex : ∃ h : Heap, T.K.In h ∧ h.Ns mainGlobals T.mg
  c : SaysP fb fn xn T.K
section
variable {P0 : Program} {fb : List Fb} {fn : List He5.DefA} {xn : List XDef} {T : Tk}
theorem FX.fact (Z : FX P0 fb fn xn T) (i : Nat) {f : Fb} (h : fb[i]? = some f := by rfl) : f T.K = true := Z.c.fact i h
theorem FX.glo (Z : FX P0 fb fn xn T) (i : Nat) {x : Str} (h : fb[i]? = some (gloB x) := by rfl) : T.mg x = some (.ref (He.ga T.K x)) := by
  obtain ⟨_, X, G⟩ := Z.ex
  exact gloB_ok X G (Z.fact i h)
theorem FX.free (Z : FX P0 fb fn xn T) (i : Nat) {x : Str} (h : fb[i]? = some (freeB x) := by rfl) : T.mg x = none := by
  obtain ⟨_, X, G⟩ := Z.ex
  exact freeB_ok X G (Z.fact i h)
theorem FX.blt (Z : FX P0 fb fn xn T) (i : Nat) {x : Str} {id : String} (h : fb[i]? = some (bltB x id) := by rfl) : T.mg x = some (.builtin id) := by
  obtain ⟨_, X, G⟩ := Z.ex
  exact bltB_ok X G (Z.fact i h)
theorem FX.int (Z : FX P0 fb fn xn T) (i : Nat) {x : Str} {n : Int} (h : fb[i]? = some (intB x n) := by rfl) : ∃ t, T.mg x = some (.int n t) := by
  obtain ⟨_, X, G⟩ := Z.ex
  exact intB_ok X G (Z.fact i h)
theorem FX.str (Z : FX P0 fb fn xn T) (i : Nat) {x z : Str} (h : fb[i]? = some (strB x z) := by rfl) : ∃ t, T.mg x = some (.str z t) := by
  obtain ⟨_, X, G⟩ := Z.ex
  exact strB_ok X G (Z.fact i h)
theorem FX.cl (Z : FX P0 fb fn xn T) (i : Nat) {c : Cl} (h : fb[i]? = some (clB c) := by rfl) : ClF T.K c := clB_ok (Z.fact i h)
theorem FX.x0 (Z : FX P0 fb fn xn T) (i : Nat) {c : Cl} (h : fb[i]? = some (x0B c) := by rfl) : X0F T c := by
  obtain ⟨_, X, G⟩ := Z.ex
  exact x0B_ok X G (Z.fact i h)
theorem FX.def_ (Z : FX P0 fb fn xn T) (i : Nat) {d : He5.DefA} (h : fn[i]? = some d := by rfl) : ∃ fd, FunD T.K d.name d.qual d.params d.body d.scope (d.dvs T.K) (d.kws T.K) (d.at_ T.K) fd := Z.c.def_ i h
/-- a module's def without defaults -/
theorem FX.fun_ (Z : FX P0 fb fn xn T) {k j : Nat} {x : Str} {m : List D → Res D} (hg : T.mg x = some (.ref (He.ga T.K x))) (kp : PySem.W.keepIn T.K (.ref (He.ga T.K x)) = true) (F : FnM T k (He.ga T.K x) j m) : Glo T k x j m := ⟨_, hg, kp, F⟩
end
theorem FnM.none {T : Tk} {k j : Nat} (f : Addr) : FnM T k f j (fun _ => .stuck) := fun _ _ _ _ _ _ _ _ _ _ _ _ _ _ _ _ h => h.elim
def oSetL (i : Nat) (m : Ev → Res (List D)) : Ev → Out := oSet i (lstOf m)
theorem setL {K : Frag} {B : Base} {W : WX} {G H : Hp} {σ : St} {ρ : Ev} {Dn : Ends} {i : Nat} {m : Ev → Res (List D)} (e : EnvOk K B G σ ρ H) (q : SG K B W Dn (oSetL i m ρ)) : FG K (fun c d H' => W c d σ H') G H (fun v H1 => Dn.nx (σ.set i (some v)) H1) (m ρ) := by
  unfold oSetL oSet lstOf at q
  cases hm : m ρ with
  | ok ds =>
    rw [hm] at q
    intro G' p vs H' g hp r gp hn
    have g2 : Grow G H (upd G' p (.lst vs)) H' := ⟨g.g.trans (.upd gp), g.h, fun a o z => by
      by_cases w : a = p
      · subst w; rw [upd_same] at z; cases z; exact hp
      · rw [upd_ne w] at z; exact g.sub _ _ z, fun a o z => by
      by_cases w : a = p
      · subst w; exact .inr hn
      · rw [upd_ne w] at z; exact g.new _ _ z⟩
    exact q (upd G' p (.lst vs)) _ H' ((e.growN g2).setDat i (.lst (.inl upd_same) (r.mono (.upd gp))))
  | exc x =>
    rw [hm] at q
    exact fun G1 c d H1 g k => q G1 σ H1 c d (e.growN g) k
  | stuck => rw [hm] at q; exact q
section
variable {X : Cx} {B : Base} {W : WX} {pos : Pos}
theorem ms_setLcD (i : Nat) {y : Str} {py spos : Pos} {elt tg iter : Expr} {ifs : List Expr} {scope : Scope} {own : List (Str × Nat)} {js : List Nat} {mi : Ev → Res (List D)} {f : D → Ev → Option Ev} {t : Ev → Res Bool} {m : Ev → Res D} (hc : X.calm = true) (ok : BlkOk X.N X.env.scope scope own) (hi : IP X B W tg iter mi)
    (hg : ∀ (s : Shared) (H : Hp) (C : Addr) (cl : List (Str × Addr)) (fp : List Addr), GP (X.blk s H scope (compEnvC scope cl C X.env) fp) B tg js f) (ht : ∀ (s : Shared) (H : Hp) (C : Addr) (cl : List (Str × Addr)) (fp : List Addr), PTs (X.blk s H scope (compEnvC scope cl C X.env) fp) ifs (tMT X.K B noW t))
    (he : ∀ (s : Shared) (H : Hp) (C : Addr) (cl : List (Str × Addr)) (fp : List Addr), PE (X.blk s H scope (compEnvC scope cl C X.env) fp) elt (tM X.K B noW m)) (hsw : swapsWith (.ListComp elt [⟨tg, iter, ifs, 0⟩] scope pos) (some (.Name y py)) spos.line X.env = pure true) (hj : ∀ j ∈ js, j ∈ own.map (·.2) := by decide) (hN : X.N.Nodup := by decide)
    (hy : X.N[i]? = some y := by rfl) (hyl : X.env.scope.names.lookup y = some .local := by rfl) (hs : ∀ x, foldedSetIterable iter X.env x = pure x := by intro _; rfl) :
    PS X (.Assign [.Name y py] (.ListComp elt [⟨tg, iter, ifs, 0⟩] scope pos) spos) (tS X.K B W (oSetL i (fLc (own.map (·.2)) mi f t m))) :=
  PS.imp (L2.ps_setLc hc hN hy hyl hsw hi ok hg ht he hs) fun Dn σ H ⟨G, ρ, e, q⟩ => lc_main hj e (setL e q)
end
def oSeq (a b : Ev → Out) : Ev → Out := fun ρ => (a ρ).then b
def oFrz (i : Nat) (o : Ev → Out) : Ev → Out := fun ρ => o (freeze i ρ)
def oNo : Ev → Out := fun _ => .stuck
abbrev mStuck : Ev → Res D := fun _ => .stuck
section
variable {X : Cx} {B : Base} {W : WX} {st : Stmt} {rest : List Stmt} {o o' : Ev → Out}
theorem mq_cons (h1 : PS X st (tS X.K B W o)) (h2 : PSs X rest (tS X.K B W o')) : PSs X (st :: rest) (tS X.K B W (oSeq o o')) := ms_cons h1 h2
theorem mq_frz (i : Nat) (h : PSs X rest (tS X.K B W o)) : PSs X rest (tS X.K B W (oFrz i o)) := ms_frz i h
theorem mq_stuck : PSs X rest (tS X.K B W oNo) := mss_stuck
theorem mq_no : PS X st (tS X.K B W oNo) := ms_stuck
end
/-- no attribute has the name -/
theorem nm_out {x : Str} (h : (Nm.all.map Nm.s).contains x = false) : ∀ n : Nm, n.s ≠ x := fun n e => by
  have m : n.s ∈ Nm.all.map Nm.s := List.mem_map_of_mem (Nm.mem_all n)
  rw [e] at m
  rw [List.contains_iff_mem.mpr m] at h
  cases h
theorem nm_no {x : Str} (h : (Nm.all.map Nm.s).contains x = false) : ∀ n : Nm, n.s = x → (none : Option Nm) = some n := fun n e => absurd e (nm_out h n)
theorem BinF.mono {T : Tk} {k k' : Nat} {op : Operator} {c : Cl} {g : List D → Res D} (F : BinF T k op c g) (h : k ≤ k') : BinF T k' op c g := by
  obtain ⟨f, rc, h1, h2, h3, h4, h5⟩ := F.ex
  exact ⟨f, rc, h1, h2, h3, h4, h5.mono h⟩
theorem RinF.mono {T : Tk} {k k' : Nat} {op : Operator} {c : Cl} {g : List D → Res D} (F : RinF T k op c g) (h : k ≤ k') : RinF T k' op c g := by
  obtain ⟨f, f', h1, h2, h3, h4, h5⟩ := F.ex
  exact ⟨f, f', h1, h2, h3, h4.mono h, h5⟩
end PL
namespace K68
noncomputable section
open PySem PySem.Spec L2 PL
abbrev P0 : Program := PySem.Challenge.pw_beatswatched_k68_signals_put_together
def st__law_draws : Stmt := (nth P0.main.body 21)
def d__law_draws : He5.DefA := ⟨(fun K => He.ga K "_law_draws"), "_law_draws", "_law_draws", defArgs st__law_draws, defBody st__law_draws, defScope st__law_draws, [], []⟩
def st__law_cell : Stmt := (nth P0.main.body 20)
def d__law_cell : He5.DefA := ⟨(fun K => He.ga K "_law_cell"), "_law_cell", "_law_cell", defArgs st__law_cell, defBody st__law_cell, defScope st__law_cell, [], []⟩
def st__law_filled : Stmt := (nth P0.main.body 29)
def d__law_filled : He5.DefA := ⟨(fun K => He.ga K "_law_filled"), "_law_filled", "_law_filled", defArgs st__law_filled, defBody st__law_filled, defScope st__law_filled, [], []⟩
def st__law_signal_rows : Stmt := (nth P0.main.body 33)
def d__law_signal_rows : He5.DefA := ⟨(fun K => He.ga K "_law_signal_rows"), "_law_signal_rows", "_law_signal_rows", defArgs st__law_signal_rows, defBody st__law_signal_rows, defScope st__law_signal_rows, [], []⟩
def st__law_gcd : Stmt := (nth P0.main.body 23)
def d__law_gcd : He5.DefA := ⟨(fun K => He.ga K "_law_gcd"), "_law_gcd", "_law_gcd", defArgs st__law_gcd, defBody st__law_gcd, defScope st__law_gcd, [], []⟩
def st__law_lcm : Stmt := (nth P0.main.body 24)
def d__law_lcm : He5.DefA := ⟨(fun K => He.ga K "_law_lcm"), "_law_lcm", "_law_lcm", defArgs st__law_lcm, defBody st__law_lcm, defScope st__law_lcm, [], []⟩
def st__law_table : Stmt := (nth P0.main.body 30)
def d__law_table : He5.DefA := ⟨(fun K => He.ga K "_law_table"), "_law_table", "_law_table", defArgs st__law_table, defBody st__law_table, defScope st__law_table, [], []⟩
def st_Ratio___init__ : Stmt := (nth (clsB (nth P0.main.body 11)) 1)
def d_Ratio___init__ : He5.DefA := ⟨(mA .Ratio "__init__"), "__init__", "Ratio.__init__", defArgs st_Ratio___init__, defBody st_Ratio___init__, defScope st_Ratio___init__, [(.int 1)], []⟩
def st_as_ratio : Stmt := (nth P0.main.body 12)
def d_as_ratio : He5.DefA := ⟨(fun K => He.ga K "as_ratio"), "as_ratio", "as_ratio", defArgs st_as_ratio, defBody st_as_ratio, defScope st_as_ratio, [], []⟩
def st_Ratio___add__ : Stmt := (nth (clsB (nth P0.main.body 11)) 6)
def d_Ratio___add__ : He5.DefA := ⟨(mA .Ratio "__add__"), "__add__", "Ratio.__add__", defArgs st_Ratio___add__, defBody st_Ratio___add__, defScope st_Ratio___add__, [], []⟩
def st_Ratio___radd__ : Stmt := (nth (clsB (nth P0.main.body 11)) 7)
def d_Ratio___radd__ : He5.DefA := ⟨(mA .Ratio "__radd__"), "__radd__", "Ratio.__radd__", defArgs st_Ratio___radd__, defBody st_Ratio___radd__, defScope st_Ratio___radd__, [], []⟩
def st_shares_checked : Stmt := (nth P0.main.body 14)
def d_shares_checked : He5.DefA := ⟨(fun K => He.ga K "shares_checked"), "shares_checked", "shares_checked", defArgs st_shares_checked, defBody st_shares_checked, defScope st_shares_checked, [], []⟩
def st_Signal___init__ : Stmt := (nth (clsB (nth P0.main.body 17)) 1)
def d_Signal___init__ : He5.DefA := ⟨(mA .Signal "__init__"), "__init__", "Signal.__init__", defArgs st_Signal___init__, defBody st_Signal___init__, defScope st_Signal___init__, [], []⟩
def st__law_number : Stmt := (nth P0.main.body 28)
def d__law_number : He5.DefA := ⟨(fun K => He.ga K "_law_number"), "_law_number", "_law_number", defArgs st__law_number, defBody st__law_number, defScope st__law_number, [], []⟩
def st__law_signal : Stmt := (nth P0.main.body 31)
def d__law_signal : He5.DefA := ⟨(fun K => He.ga K "_law_signal"), "_law_signal", "_law_signal", defArgs st__law_signal, defBody st__law_signal, defScope st__law_signal, [], []⟩
def st__law_share : Stmt := (nth P0.main.body 41)
def d__law_share : He5.DefA := ⟨(fun K => He.ga K "_law_share"), "_law_share", "_law_share", defArgs st__law_share, defBody st__law_share, defScope st__law_share, [], []⟩
def st_Signal___getitem__ : Stmt := (nth (clsB (nth P0.main.body 17)) 5)
def d_Signal___getitem__ : He5.DefA := ⟨(mA .Signal "__getitem__"), "__getitem__", "Signal.__getitem__", defArgs st_Signal___getitem__, defBody st_Signal___getitem__, defScope st_Signal___getitem__, [], []⟩
def st_Ratio___mul__ : Stmt := (nth (clsB (nth P0.main.body 11)) 10)
def d_Ratio___mul__ : He5.DefA := ⟨(mA .Ratio "__mul__"), "__mul__", "Ratio.__mul__", defArgs st_Ratio___mul__, defBody st_Ratio___mul__, defScope st_Ratio___mul__, [], []⟩
def st_passed_on : Stmt := (nth P0.main.body 16)
def d_passed_on : He5.DefA := ⟨(fun K => He.ga K "passed_on"), "passed_on", "passed_on", defArgs st_passed_on, defBody st_passed_on, defScope st_passed_on, [], []⟩
def st_Signal___mul__ : Stmt := (nth (clsB (nth P0.main.body 17)) 8)
def d_Signal___mul__ : He5.DefA := ⟨(mA .Signal "__mul__"), "__mul__", "Signal.__mul__", defArgs st_Signal___mul__, defBody st_Signal___mul__, defScope st_Signal___mul__, [], []⟩
def st_Signal___and__ : Stmt := (nth (clsB (nth P0.main.body 17)) 9)
def d_Signal___and__ : He5.DefA := ⟨(mA .Signal "__and__"), "__and__", "Signal.__and__", defArgs st_Signal___and__, defBody st_Signal___and__, defScope st_Signal___and__, [], []⟩
def st_Ratio___neg__ : Stmt := (nth (clsB (nth P0.main.body 11)) 15)
def d_Ratio___neg__ : He5.DefA := ⟨(mA .Ratio "__neg__"), "__neg__", "Ratio.__neg__", defArgs st_Ratio___neg__, defBody st_Ratio___neg__, defScope st_Ratio___neg__, [], []⟩
def st_Ratio___rsub__ : Stmt := (nth (clsB (nth P0.main.body 11)) 9)
def d_Ratio___rsub__ : He5.DefA := ⟨(mA .Ratio "__rsub__"), "__rsub__", "Ratio.__rsub__", defArgs st_Ratio___rsub__, defBody st_Ratio___rsub__, defScope st_Ratio___rsub__, [], []⟩
def st_Signal_rows : Stmt := (nth (clsB (nth P0.main.body 17)) 4)
def d_Signal_rows : He5.DefA := ⟨(pA .Signal "rows"), "rows", "Signal.rows", defArgs st_Signal_rows, defBody st_Signal_rows, defScope st_Signal_rows, [], []⟩
def st_blended : Stmt := (nth P0.main.body 18)
def d_blended : He5.DefA := ⟨(fun K => He.ga K "blended"), "blended", "blended", defArgs st_blended, defBody st_blended, defScope st_blended, [], []⟩
def st__law_made : Stmt := (nth P0.main.body 37)
def d__law_made : He5.DefA := ⟨(fun K => He.ga K "_law_made"), "_law_made", "_law_made", defArgs st__law_made, defBody st__law_made, defScope st__law_made, [], []⟩
def st__law_is_int : Stmt := (nth P0.main.body 22)
def d__law_is_int : He5.DefA := ⟨(fun K => He.ga K "_law_is_int"), "_law_is_int", "_law_is_int", defArgs st__law_is_int, defBody st__law_is_int, defScope st__law_is_int, [], []⟩
def st_Ratio___eq__ : Stmt := (nth (clsB (nth P0.main.body 11)) 18)
def d_Ratio___eq__ : He5.DefA := ⟨(mA .Ratio "__eq__"), "__eq__", "Ratio.__eq__", defArgs st_Ratio___eq__, defBody st_Ratio___eq__, defScope st_Ratio___eq__, [], []⟩
def st__law_same : Stmt := (nth P0.main.body 27)
def d__law_same : He5.DefA := ⟨(fun K => He.ga K "_law_same"), "_law_same", "_law_same", defArgs st__law_same, defBody st__law_same, defScope st__law_same, [], []⟩
def st__law_garbled : Stmt := (nth P0.main.body 34)
def d__law_garbled : He5.DefA := ⟨(fun K => He.ga K "_law_garbled"), "_law_garbled", "_law_garbled", defArgs st__law_garbled, defBody st__law_garbled, defScope st__law_garbled, [], []⟩
def st__law_is_ratio : Stmt := (nth P0.main.body 25)
def d__law_is_ratio : He5.DefA := ⟨(fun K => He.ga K "_law_is_ratio"), "_law_is_ratio", "_law_is_ratio", defArgs st__law_is_ratio, defBody st__law_is_ratio, defScope st__law_is_ratio, [], []⟩
def st__law_worth : Stmt := (nth P0.main.body 26)
def d__law_worth : He5.DefA := ⟨(fun K => He.ga K "_law_worth"), "_law_worth", "_law_worth", defArgs st__law_worth, defBody st__law_worth, defScope st__law_worth, [], []⟩
def st__law_signal_is : Stmt := (nth P0.main.body 32)
def d__law_signal_is : He5.DefA := ⟨(fun K => He.ga K "_law_signal_is"), "_law_signal_is", "_law_signal_is", defArgs st__law_signal_is, defBody st__law_signal_is, defScope st__law_signal_is, [], []⟩
def st__law_garbles : Stmt := (nth P0.main.body 38)
def d__law_garbles : He5.DefA := ⟨(fun K => He.ga K "_law_garbles"), "_law_garbles", "_law_garbles", defArgs st__law_garbles, defBody st__law_garbles, defScope st__law_garbles, [], []⟩
def st__law_both : Stmt := (nth P0.main.body 35)
def d__law_both : He5.DefA := ⟨(fun K => He.ga K "_law_both"), "_law_both", "_law_both", defArgs st__law_both, defBody st__law_both, defScope st__law_both, [], []⟩
def st__law_hears_both : Stmt := (nth P0.main.body 39)
def d__law_hears_both : He5.DefA := ⟨(fun K => He.ga K "_law_hears_both"), "_law_hears_both", "_law_hears_both", defArgs st__law_hears_both, defBody st__law_hears_both, defScope st__law_hears_both, [], []⟩
def st__law_number_is : Stmt := (nth P0.main.body 36)
def d__law_number_is : He5.DefA := ⟨(fun K => He.ga K "_law_number_is"), "_law_number_is", "_law_number_is", defArgs st__law_number_is, defBody st__law_number_is, defScope st__law_number_is, [], []⟩
def st__law_is_blended : Stmt := (nth P0.main.body 40)
def d__law_is_blended : He5.DefA := ⟨(fun K => He.ga K "_law_is_blended"), "_law_is_blended", "_law_is_blended", defArgs st__law_is_blended, defBody st__law_is_blended, defScope st__law_is_blended, [], []⟩
def st__law_kept : Stmt := (nth P0.main.body 42)
def d__law_kept : He5.DefA := ⟨(fun K => He.ga K "_law_kept"), "_law_kept", "_law_kept", defArgs st__law_kept, defBody st__law_kept, defScope st__law_kept, [], []⟩
def st_law : Stmt := (nth P0.main.body 43)
def d_law : He5.DefA := ⟨(fun K => He.ga K "law"), "law", "law", defArgs st_law, defBody st_law, defScope st_law, [], []⟩
def fb : List Fb := [
  freeB "len",
  freeB "range",
  freeB "int",
  gloB "_law_draws",
  freeB "abs",
  gloB "_law_cell",
  freeB "sum",
  freeB "list",
  gloB "_law_filled",
  gloB "_law_signal_rows",
  gloB "_law_gcd",
  gloB "_law_lcm",
  gloB "_law_table",
  xiB .BadNumber "BadNumber.__init__" P0.main.file,
  fndB .BadNumber (Nm.s .name) none,
  fndB .BadNumber (Nm.s .value) none,
  freeB "super",
  ciB .Signal "MOST" 12,
  xiB .TooMany "TooMany.__init__" P0.main.file,
  fndB .TooMany (Nm.s .name) none,
  fndB .TooMany (Nm.s .most) none,
  xiB .WrongLength "WrongLength.__init__" P0.main.file,
  fndB .WrongLength (Nm.s .length) none,
  freeB "isinstance",
  kiB .Ratio .Ratio true,
  kiB .Signal .Ratio false,
  akB .Ratio,
  gloB "Ratio",
  x0B .ZeroUnder,
  bltB "gcd" "math.gcd",
  naB .Ratio .top,
  naB .Ratio .under,
  clB .Ratio,
  mkB .Ratio,
  gloB "as_ratio",
  x0B .BadShares,
  bnB .Ratio .Add,
  rnB .Ratio .Add,
  gloB "shares_checked",
  freeB "tuple",
  naB .Signal .states,
  naB .Signal .outcomes,
  naB .Signal .u_table,
  gloB "_law_number",
  clB .Signal,
  mkB .Signal,
  gloB "Signal",
  gloB "_law_signal",
  gloB "_law_share",
  x0B .NoPlace,
  ixB .Signal,
  bnB .Ratio .Mult,
  gloB "passed_on",
  bnB .Signal .Mult,
  bnB .Signal .BitAnd,
  cvB "Signal" "MOST" 12,
  uaB .Ratio .USub,
  rnB .Ratio .Sub,
  prB .Signal "rows",
  freeB "zip",
  gloB "blended",
  kiB .BadNumber .WatchError true,
  kiB .BadShares .WatchError true,
  kiB .NoPlace .WatchError true,
  kiB .TooMany .WatchError true,
  kiB .WrongLength .WatchError true,
  kiB .ZeroUnder .WatchError true,
  gloB "WatchError",
  ktB .BadNumber "ValueError" true,
  ktB .BadShares "ValueError" true,
  ktB .NoPlace "ValueError" true,
  ktB .TooMany "ValueError" true,
  ktB .WrongLength "ValueError" true,
  ktB .ZeroUnder "ValueError" true,
  freeB "ValueError",
  exB .BadNumber .TooMany false,
  exB .BadShares .TooMany false,
  exB .NoPlace .TooMany false,
  exB .TooMany .TooMany true,
  exB .WrongLength .TooMany false,
  exB .ZeroUnder .TooMany false,
  gloB "TooMany",
  kiB .BadNumber .TooMany false,
  kiB .BadShares .TooMany false,
  kiB .NoPlace .TooMany false,
  kiB .TooMany .TooMany true,
  kiB .WrongLength .TooMany false,
  kiB .ZeroUnder .TooMany false,
  exB .BadNumber .BadNumber true,
  exB .BadShares .BadNumber false,
  exB .NoPlace .BadNumber false,
  exB .TooMany .BadNumber false,
  exB .WrongLength .BadNumber false,
  exB .ZeroUnder .BadNumber false,
  gloB "BadNumber",
  kiB .BadNumber .BadNumber true,
  kiB .BadShares .BadNumber false,
  kiB .NoPlace .BadNumber false,
  kiB .TooMany .BadNumber false,
  kiB .WrongLength .BadNumber false,
  kiB .ZeroUnder .BadNumber false,
  exB .BadNumber .WrongLength false,
  exB .BadShares .WrongLength false,
  exB .NoPlace .WrongLength false,
  exB .TooMany .WrongLength false,
  exB .WrongLength .WrongLength true,
  exB .ZeroUnder .WrongLength false,
  gloB "WrongLength",
  gloB "_law_made",
  ktB .Ratio "int" false,
  ktB .Signal "int" false,
  ktB .Ratio "bool" false,
  ktB .Signal "bool" false,
  freeB "bool",
  gloB "_law_is_int",
  kiB .Ratio .Signal false,
  kiB .Signal .Signal true,
  akB .Signal,
  cpB .Ratio .Eq,
  ktB .Ratio "str" false,
  ktB .Signal "str" false,
  freeB "str",
  ktB .Ratio "tuple" false,
  ktB .Signal "tuple" false,
  ktB .Ratio "list" false,
  ktB .Signal "list" false,
  gloB "_law_same",
  gloB "_law_garbled",
  gloB "_law_is_ratio",
  gloB "_law_worth",
  gloB "_law_signal_is",
  gloB "_law_garbles",
  gloB "_law_both",
  gloB "_law_hears_both",
  gloB "_law_number_is",
  gloB "_law_is_blended",
  gloB "_law_kept",
  gloB "law"]
def fn : List He5.DefA := [d__law_draws, d__law_cell, d__law_filled, d__law_signal_rows, d__law_gcd, d__law_lcm, d__law_table, d_Ratio___init__, d_as_ratio, d_Ratio___add__, d_Ratio___radd__, d_shares_checked, d_Signal___init__, d__law_number, d__law_signal, d__law_share, d_Signal___getitem__, d_Ratio___mul__, d_passed_on, d_Signal___mul__, d_Signal___and__, d_Ratio___neg__, d_Ratio___rsub__, d_Signal_rows, d_blended, d__law_made, d__law_is_int, d_Ratio___eq__, d__law_same, d__law_garbled, d__law_is_ratio, d__law_worth, d__law_signal_is, d__law_garbles, d__law_both, d__law_hears_both, d__law_number_is, d__law_is_blended, d__law_kept, d_law]
def xd_BadNumber : XDef := ⟨.BadNumber, "BadNumber.__init__", defArgs (nth (clsB (nth P0.main.body 5)) 0), defBody (nth (clsB (nth P0.main.body 5)) 0), defScope (nth (clsB (nth P0.main.body 5)) 0)⟩
def xd_TooMany : XDef := ⟨.TooMany, "TooMany.__init__", defArgs (nth (clsB (nth P0.main.body 6)) 0), defBody (nth (clsB (nth P0.main.body 6)) 0), defScope (nth (clsB (nth P0.main.body 6)) 0)⟩
def xd_WrongLength : XDef := ⟨.WrongLength, "WrongLength.__init__", defArgs (nth (clsB (nth P0.main.body 7)) 0), defBody (nth (clsB (nth P0.main.body 7)) 0), defScope (nth (clsB (nth P0.main.body 7)) 0)⟩
def xn : List XDef := [xd_BadNumber, xd_TooMany, xd_WrongLength]
abbrev Rw : PySem.W.OpenRow := PySem.W.OpenLaw.row PySem.Challenge.rw_beatswatched_k68_signals_put_together
abbrev hk : PySem.W.Hook := hookP 5 fb fn xn
def ob (s : PySem.W.SharedT) : AlP := obsPG 5 fb fn xn (HandSHeadRun.getT s)
theorem ob_eq (s : PySem.W.SharedT) : ob s = hk.obs s.abs := obsPG_eq (HandSHeadRun.getT_eq s)
def names0 : List Str := ["gcd", "_wall", "WatchError", "ZeroUnder", "BadNumber", "TooMany", "WrongLength", "NoPlace", "BadShares", "Ratio", "as_ratio", "shares_checked", "passed_on", "Signal", "blended", "_law_cell", "_law_draws", "_law_is_int", "_law_gcd", "_law_lcm", "_law_is_ratio", "_law_worth", "_law_same", "_law_number", "_law_filled", "_law_table", "_law_signal", "_law_signal_is", "_law_signal_rows", "_law_garbled"]
def names1 : List Str := ["_law_both", "_law_number_is", "_law_made", "_law_garbles", "_law_hears_both", "_law_is_blended", "_law_share", "_law_kept"]
def names : List Str := names0 ++ names1
theorem head_run (w : World) : HandSHeadRun.RunEqI Rw (PySem.W.view Rw.prog [0, 43]) hk ob 20000 names w := by
  unfold HandSHeadRun.RunEqI
  kernel_rfl
end
end K68
namespace PL
open PySem PySem.Spec L2
open PyProof.Rows (b2i)
/-- by the operator, one after the other -/
def sumGo (f : D → D → Res D) : D → List D → Res D
  | a, [] => .ok a
  | a, x :: xs => match f a x with
    | .ok b => sumGo f b xs
    | _ => .stuck
def sumO (f : D → D → Res D) : List D → Res D
  | [.lst xs] => sumGo f (.int 0) xs
  | _ => .stuck
theorem sumGo_no {f : D → D → Res D} : ∀ (xs : List D) (a : D) (e : Err), sumGo f a xs ≠ .exc e
  | [], a, e => fun h => by cases h
  | x :: xs, a, e => fun h => by
    have h' : (match f a x with | .ok b => sumGo f b xs | _ => .stuck) = .exc e := h
    cases hf : f a x with
    | ok b => rw [hf] at h'; exact sumGo_no xs b e h'
    | exc _ => rw [hf] at h'; cases h'
    | stuck => rw [hf] at h'; cases h'
/-- the place where sum stands: one frame of the machine further, no error may leave -/
abbrev Cx.sm (X : Cx) : Cx := { X with A := X.A.in1, xe := fun _ _ => False }
/-- on numbers the operator adds -/
structure AddsN (f : D → D → Res D) : Prop where
  ii : ∀ a b r, f (.int a) (.int b) = .ok r → r = .int (a + b)
  ib : ∀ a b r, f (.int a) (.bl b) = .ok r → r = .int (a + b2i b)
section
variable {X : Cx} {pins : List (Addr × Obj)} {σ : St} {f : D → D → Res D}
theorem wpAny_iteB {α : Type} {c : Bool} {M : Model} {A : Around} {t e : Sem α} {Q : α → Shared → Prop} {E : Value → Shared → Prop} {s : Shared} (h1 : wpAny M A t Q E s) (h2 : wpAny M A e Q E s) : wpAny M A (if c = true then t else e) Q E s := by
  cases c
  · exact h2
  · exact h1
theorem okSm (ok : X.Ok) : (Cx.sm X).Ok :=
  ⟨ok.mod, ok.kind, ok.glob, ok.blt, ok.above, ok.inj, ok.has, ok.cab, ok.hd, ok.frames, ok.stk, ok.exf, ok.bs, ok.bsz, ok.noex, ok.exfs, ok.funs, ok.frf⟩
theorem okUnsm (ok : (Cx.sm X).Ok) : X.Ok :=
  ⟨ok.mod, ok.kind, ok.glob, ok.blt, ok.above, ok.inj, ok.has, ok.cab, ok.hd, ok.frames, ok.stk, ok.exf, ok.bs, ok.bsz, ok.noex, ok.exfs, ok.funs, ok.frf⟩
theorem invSm {H : Hp} {s : Shared} (I : Inv X pins σ H s) : Inv (Cx.sm X) pins σ H s := ⟨okSm I.ok, I.os, I.bare, I.base, I.loc, I.cell, I.free, I.freeC, I.pin, I.hok, I.len⟩
theorem invUnsm {H : Hp} {s : Shared} (I : Inv (Cx.sm X) pins σ H s) : Inv X pins σ H s := ⟨okUnsm I.ok, I.os, I.bare, I.base, I.loc, I.cell, I.free, I.freeC, I.pin, I.hok, I.len⟩
theorem takesSm : Takes (Cx.sm X) noW := fun u s' ⟨_, _, _, _, _, _, _, _, _, _, _, _, _, _, _, _, w⟩ => w.elim
/-- the record that keeps the sum so far -/
def sumRec (u : Value) (c : Nat) : Obj := { cls := .type "list", dict := none, data := .seq #[u] c, slots := #[] }
theorem sum_go (hc : X.calm = true) (ho : OpM (Cx.sm X) noW (binaryOp .Add) f) (hf : AddsN f) {it S a : Addr} {vs : List V} {R : Result → Shared → Prop} (ne : it ≠ S) :
    ∀ (rest : List D) (i : Nat) (s : Shared) (G H : Hp) (av : V) (total : Value) (ad d : D) (c : Nat) (st : Int), (st = 0 ∨ st = 2) → Inv X pins σ H s → Ext G H → RelV av total → Rep X.K G av ad → Rd G a (.lst vs) → Reps X.K G (vs.drop i) rest →
      FpOk X pins H it → FpOk X pins H S → s.heap.IsListIter it a i → s.heap.get? S = some (sumRec total c) → sumGo f ad rest = .ok d →
      (∀ G' H' v u s', Grow G H G' H' → Rep X.K G' v d → Inv X pins σ H' s' → RelV v u → R (.ok (.ret u)) s') → codeAny (model X.prog X.w) X.A (.builtin "sum.loop" ⟨[.ref it, .ref S, rawInt st, rawInt 0], []⟩) R s := by
  intro rest
  induction rest with
  | nil =>
    intro i s G H av total ad d c st hst I e ra rep hl rr f1 f2 hit hS hd hR
    cases hd
    have rr0 := rr.length
    rw [List.length_drop, List.length_nil] at rr0
    obtain ⟨its, rv, p, hz⟩ := I.list (xs := vs) (a := a) (.inl (e.rd hl))
    have hlen := rv.length
    refine codeAny_builtin PySem.F.entry_sum_loop ?_
    rw [Around.under_plainId PySem.F.plain_sum_loop _]
    show wpAny _ X.A.in1 (seqItems? (.ref S) >>= _) _ _ s
    refine wpAny_bind (wpAny_seqItems hS rfl ?_)
    show wpAny _ X.A.in1 (tryCatch (pyNext (.ref it)) _ >>= _) _ _ s
    refine wpAny_bind (wpAny_tryCatch (wpAny_pyNext_list_end (A := X.A.in1) (I.ok.hd hc) hit p.isList (by simp; omega) fun h' eb => ?_))
    have I1 : Inv X pins σ H { s with heap := h' } := I.turned (t' := s.toks) (fun b o hb e => eb b o hb e) f1.1 f1.2.1 f1.2.2.2.1 f1.2.2.2.2.1 f1.2.2.2.2.2
    have fin := hR G H av total { s with heap := h' } (.refl e) rep I1 ra
    cases av with
    | int n => obtain ⟨t, rfl⟩ := ra; exact wpAny_pure fin
    | bl n => obtain rfl := ra; exact wpAny_pure fin
    | non => obtain rfl := ra; exact wpAny_pure fin
    | str x => obtain ⟨t, rfl⟩ := ra; exact wpAny_pure fin
    | byt x => obtain ⟨t, rfl⟩ := ra; exact wpAny_pure fin
    | flt x => cases rep
    | ref x => obtain rfl := ra; exact wpAny_pure fin
    | ty x => cases rep
  | cons xd rest ih =>
    intro i s G H av total ad d c st hst I e ra rep hl rr f1 f2 hit hS hd hR
    have hd' : (match f ad xd with | .ok b => sumGo f b rest | _ => .stuck) = .ok d := hd
    cases hfx : f ad xd with
    | stuck => rw [hfx] at hd'; cases hd'
    | exc er => rw [hfx] at hd'; cases hd'
    | ok bd =>
    rw [hfx] at hd'
    obtain ⟨x, vr, hvr, rx, rr'⟩ : ∃ x vr, vs.drop i = x :: vr ∧ Rep X.K G x xd ∧ Reps X.K G vr rest := by
      generalize vs.drop i = l at rr
      cases rr with
      | cons r1 r2 => exact ⟨_, _, rfl, r1, r2⟩
    have hi : vs[i]? = some x := by
      have := congrArg (fun l => l[0]?) hvr
      simpa using this
    have hdr : vs.drop (i + 1) = vr := by
      rw [← List.drop_drop, hvr]
      rfl
    obtain ⟨its, rv, p, hz⟩ := I.list (xs := vs) (a := a) (.inl (e.rd hl))
    obtain ⟨u, hu, ru⟩ := rv.get hi
    refine codeAny_builtin PySem.F.entry_sum_loop ?_
    rw [Around.under_plainId PySem.F.plain_sum_loop _]
    show wpAny _ X.A.in1 (seqItems? (.ref S) >>= _) _ _ s
    refine wpAny_bind (wpAny_seqItems hS rfl ?_)
    show wpAny _ X.A.in1 (tryCatch (pyNext (.ref it)) _ >>= _) _ _ s
    refine wpAny_bind (wpAny_tryCatch (wpAny_pyNext_list_item hit p.isList (x := u) (by simpa using hu) fun h' st' sb => ?_))
    have I1 : Inv X pins σ H { s with heap := h' } := I.turned (t' := s.toks) (fun b o hb e => (sb.2 b hb).trans e) f1.1 f1.2.1 f1.2.2.2.1 f1.2.2.2.2.1 f1.2.2.2.2.2
    have hS1 : h'.get? S = some (sumRec total c) := (sb.2 S (Ne.symm ne)).trans hS
    -- the next round
    have next : ∀ (s2 : Shared) (G2 H2 : Hp) (bv : V) (r : Value) (c2 : Nat), Grow G H G2 H2 → Inv X pins σ H2 s2 → RelV bv r → Rep X.K G2 bv bd → s2.heap.IsListIter it a (i + 1) → FpOk X pins H2 it → FpOk X pins H2 S → s2.heap.get? S = some (sumRec r c2) →
        ∀ st2 : Int, (st2 = 0 ∨ st2 = 2) → codeAny (model X.prog X.w) X.A (.builtin "sum.loop" ⟨[.ref it, .ref S, rawInt st2, rawInt 0], []⟩) R s2 := fun s2 G2 H2 bv r c2 g I2 rb repb hit2 g1 g2 hS2 st2 hst2 => by
      refine ih (i + 1) s2 G2 H2 bv r bd d c2 st2 hst2 I2 g.sub rb repb (g.g.rd hl) ?_ g1 g2 hit2 hS2 hd' fun G' H' v w s' gg rv' I' rw' => hR G' H' v w s' (g.trans gg) rv' I' rw'
      rw [hdr]
      exact rr'.mono g.g
    -- by the operator
    have plain : wpAny (model X.prog X.w) X.A.in1 ((holding [u] (binaryOp .Add total u)).attempt) (fun res s2 => ∃ r, res = .ok r ∧ ∃ G2 H2 bv, Grow G H G2 H2 ∧ Inv X pins σ H2 s2 ∧ RelV bv r ∧ Rep X.K G2 bv bd ∧ s2.heap.IsListIter it a (i + 1) ∧ FpOk X pins H2 it ∧ FpOk X pins H2 S ∧ s2.heap.get? S = some (sumRec total c)) (fun _ _ => False) { s with heap := h' } := by
      obtain ⟨oi, hoi, ci, di⟩ := id st'
      have Ip : Inv X (pins ++ pinsAt [it, S] h') σ H { s with heap := h' } := I1.pinned (fun b hb => by
        rcases List.mem_cons.mp hb with rfl | hb
        · exact f1
        · rcases List.mem_cons.mp hb with rfl | hb
          · exact f2
          · cases hb) fun b hb => by
        rcases List.mem_cons.mp hb with rfl | hb
        · exact ⟨oi, hoi, fun v z => by rw [di] at z; cases z⟩
        · rcases List.mem_cons.mp hb with rfl | hb
          · exact ⟨_, hS1, fun v z => by cases z⟩
          · cases hb
      refine wpAny_attempt (wpAny_holding (wpAny_mono (ho (pins ++ pinsAt [it, S] h') { s with heap := h' } σ G H av x total u ad xd (fun bv H2 => ∃ G2, Grow G H G2 H2 ∧ Rep X.K G2 bv bd) (invSm Ip) ra ru e rep rx (by rw [hfx]; exact fun G' v H' g r => ⟨G', g, r⟩)) (fun r s2 ⟨bv, H2, I2, rb, G2, g, repb⟩ => ?_) fun _ _ z => z.elim))
      have I2 := invUnsm I2
      have p1 := I2.pin (it, oi) (List.mem_append_right _ (List.mem_append_right _ (mem_pinsAt (by simp) hoi)))
      have p2 := I2.pin (S, _) (List.mem_append_right _ (List.mem_append_right _ (mem_pinsAt (by simp) hS1)))
      exact ⟨r, rfl, G2, H2, bv, g, I2.unpinned, rb, repb, ⟨oi, p1.1, ci, di⟩, ⟨p1.2.1, f1.2⟩, ⟨p2.2.1, f2.2⟩, p2.1⟩
    -- .. and the record is written twice
    have after : ∀ (r : Value) (s2 : Shared) (G2 H2 : Hp) (bv : V) (c0 : Nat) (u0 : Value), Grow G H G2 H2 → Inv X pins σ H2 s2 → RelV bv r → Rep X.K G2 bv bd → s2.heap.IsListIter it a (i + 1) → FpOk X pins H2 it → FpOk X pins H2 S → s2.heap.get? S = some (sumRec u0 c0) →
        ∀ st2 : Int, (st2 = 0 ∨ st2 = 2) → ∀ t2 : Nat, (Code.builtin "sum.loop" ⟨[.ref it, .ref S, rawInt st2, rawInt 0], []⟩).quiet = true ∧ codeAny (model X.prog X.w) X.A (.builtin "sum.loop" ⟨[.ref it, .ref S, rawInt st2, rawInt 0], []⟩) R { s2 with heap := s2.heap.update S (Obj.mapSeq fun _ => #[r]), toks := t2 } := fun r s2 G2 H2 bv c0 u0 g I2 rb repb hit2 g1 g2 hS2 st2 hst2 t2 => by
      refine ⟨plainId_quiet PySem.F.plain_sum_loop _, next _ G2 H2 bv r _ g ?_ rb repb ?_ g1 g2 (Heap.get?_update_self _ hS2 rfl) st2 hst2⟩
      · exact I2.turned (fun b o hb e => (Heap.get?_update_other _ _ (Ne.symm hb)).trans e) g2.1 g2.2.1 g2.2.2.2.1 g2.2.2.2.2.1 g2.2.2.2.2.2
      · exact hit2.at fun o e => (Heap.get?_update_other _ _ (Ne.symm ne)).trans e
    have plainT : ∀ (nx : Value → Int) (E : Value → Shared → Prop), (∀ r, (∀ b t, r ≠ .float b t) → nx r = 2) → wpAny (model X.prog X.w) X.A.in1 ((holding [u] (binaryOp .Add total u)).attempt >>= fun y => (match y with
        | .ok r => (updateSeq S fun _ => #[r]) >>= fun _ => letGo [total, u] >>= fun _ => (updateSeq S fun _ => #[r]) >>= fun _ => again (.builtin "sum.loop" ⟨[.ref it, .ref S, rawInt (nx r), rawInt 0], []⟩)
        | .error e => (updateSeq S fun _ => #[]) >>= fun _ => letGo [total, u] [e] >>= fun _ => throw e : Sem PySem.Fin)) (fun (fin : PySem.Fin) s' => (match fin with
          | .done v => R (.ok v) s'
          | .again k => k.quiet = true ∧ codeAny (model X.prog X.w) X.A k R s' : Prop)) E { s with heap := h' } := fun nx E hnx => by
      refine wpAny_bind (wpAny_mono plain (fun res s2 ⟨r, er, G2, H2, bv, g, I2, rb, repb, hit2, g1, g2, hS2⟩ => ?_) fun _ _ z => z.elim)
      subst er
      have e2 : nx r = 2 := hnx r fun b t z => by
        subst z
        cases repb <;> first
          | (obtain ⟨_, q⟩ := rb; cases q)
          | cases rb
      show wpAny _ X.A.in1 (updateSeq S (fun _ => #[r]) >>= _) _ _ _
      refine wpAny_bind (wpAny_updateSeq hS2 rfl ?_)
      have hS3 := Heap.get?_update_self (Obj.mapSeq fun _ => #[r]) hS2 rfl
      refine wpAny_bind (wpAny_letGo ?_)
      refine wpAny_bind (wpAny_updateSeq hS3 rfl ?_)
      rw [e2]
      refine wpAny_pure ⟨plainId_quiet PySem.F.plain_sum_loop _, next _ G2 H2 bv r _ g ?_ rb repb ?_ g1 g2 (Heap.get?_update_self _ hS3 rfl) 2 (.inr rfl)⟩
      · exact I2.turned (t' := s2.toks) (fun b o hb e => (Heap.get?_update_other _ _ (Ne.symm hb)).trans ((Heap.get?_update_other _ _ (Ne.symm hb)).trans e)) g2.1 g2.2.1 g2.2.2.2.1 g2.2.2.2.2.1 g2.2.2.2.2.2
      · exact hit2.at fun o e => (Heap.get?_update_other _ _ (Ne.symm ne)).trans ((Heap.get?_update_other _ _ (Ne.symm ne)).trans e)
    cases av with
    | int n =>
      obtain ⟨t, rfl⟩ := ra
      cases rep
      have nf : ∀ r : Value, (∀ b t, r ≠ .float b t) → (match r with | .float .. => (1 : Int) | _ => 2) = 2 := fun r h => by
        cases r <;> first
          | rfl
          | exact absurd rfl (h _ _)
      rcases hst with rfl | rfl
      · cases x with
        | int m =>
          obtain ⟨t', rfl⟩ := ru
          cases rx
          have eb := hf.ii n m bd hfx
          subst eb
          show wpAny _ X.A.in1 (if (_ : Bool) = true then (mkInt (n + m) >>= _) else _) _ _ _
          split
          · refine wpAny_bind (wpAny_mkInt ?_)
            refine wpAny_bind (wpAny_updateSeq hS1 rfl ?_)
            exact wpAny_pure (after _ { s with heap := h' } G H (.int (n + m)) c _ (.refl e) I1 ⟨_, rfl⟩ (.int _) st' f1 f2 hS1 0 (.inl rfl) _)
          · refine wpAny_bind (wpAny_rule ?_)
            exact plainT (fun _ => 2) _ fun _ _ => rfl
        | bl m =>
          obtain rfl := ru
          cases rx
          have eb := hf.ib n m bd hfx
          subst eb
          cases m
          · refine wpAny_iteB (t := mkInt (n + 0) >>= _) ?_ ?_
            · refine wpAny_bind (wpAny_mkInt ?_)
              refine wpAny_bind (wpAny_updateSeq hS1 rfl ?_)
              exact wpAny_pure (after _ { s with heap := h' } G H (.int (n + 0)) c _ (.refl e) I1 ⟨_, rfl⟩ (.int _) st' f1 f2 hS1 0 (.inl rfl) _)
            · refine wpAny_bind (wpAny_rule ?_)
              exact plainT (fun _ => 2) _ fun _ _ => rfl
          · refine wpAny_iteB (t := mkInt (n + 1) >>= _) ?_ ?_
            · refine wpAny_bind (wpAny_mkInt ?_)
              refine wpAny_bind (wpAny_updateSeq hS1 rfl ?_)
              exact wpAny_pure (after _ { s with heap := h' } G H (.int (n + 1)) c _ (.refl e) I1 ⟨_, rfl⟩ (.int _) st' f1 f2 hS1 0 (.inl rfl) _)
            · refine wpAny_bind (wpAny_rule ?_)
              exact plainT (fun _ => 2) _ fun _ _ => rfl
        | non => obtain rfl := ru; exact wpAny_bind (wpAny_rule (plainT _ _ nf))
        | str _ => obtain ⟨_, rfl⟩ := ru; exact wpAny_bind (wpAny_rule (plainT _ _ nf))
        | byt _ => obtain ⟨_, rfl⟩ := ru; exact wpAny_bind (wpAny_rule (plainT _ _ nf))
        | flt _ => cases rx
        | ref _ => obtain rfl := ru; exact wpAny_bind (wpAny_rule (plainT _ _ nf))
        | ty _ => cases rx
      · exact plainT (fun _ => 2) _ fun _ _ => rfl
    | bl n => obtain rfl := ra; exact plainT (fun _ => 2) _ fun _ _ => rfl
    | non => obtain rfl := ra; exact plainT (fun _ => 2) _ fun _ _ => rfl
    | str x => obtain ⟨t, rfl⟩ := ra; exact plainT (fun _ => 2) _ fun _ _ => rfl
    | byt x => obtain ⟨t, rfl⟩ := ra; exact plainT (fun _ => 2) _ fun _ _ => rfl
    | flt x => cases rep
    | ref x => obtain rfl := ra; exact plainT (fun _ => 2) _ fun _ _ => rfl
    | ty x => cases rep
end
theorem addsN_own {ps rs : Cl → Option (List D → Res D)} : AddsN (ownD addD ps rs) :=
  ⟨fun a b r h => by cases h; rfl, fun a b r h => by cases h; rfl⟩
theorem call_sumO {X : Cx} {W : WX} {f : D → D → Res D} (hc : X.calm = true) (ho : OpM (Cx.sm X) noW (binaryOp .Add) f) (hf : AddsN f) : CallM X W (.builtin "sum") (sumO f) := by
  intro pins s σ G H xs us ds Q I r e rr h
  cases rr with
  | nil => exact h.elim
  | cons r1 t1 =>
    cases t1 with
    | cons _ _ => cases r1 <;> exact h.elim
    | nil => cases r1 with
      | @lst a vs ds q rr =>
        have h' : RG (Rep X.K) X.K (fun c d H' => W c d σ H') G H Q (sumGo f (.int 0) ds) := h
        obtain ⟨its, rv, p, hz⟩ := I.list (xs := vs) (a := a) (.inl (e.rd q))
        rw [Vals.ref1 r]
        cases hd : sumGo f (.int 0) ds with
        | stuck => rw [hd] at h'; exact h'.elim
        | exc er =>
          exact absurd hd (sumGo_no ds _ er)
        | ok d =>
          rw [hd] at h'
          refine call_function_tree PySem.F.kind_sum PySem.F.plain_sum PySem.F.entry_sum (PySem.F.args_sum1 _) ?_
          unfold Builtin.«sum»
          simp only [List.length_cons, List.length_nil]
          rw [if_neg (by decide)]
          refine wpAny_bind (wpAny_of_eq (show Builtin.Builtins.bindParams "sum" ["start"] 0 { } = pure [none] from rfl) ?_)
          refine wpAny_bind (wpAny_pyIter_list p.isList ?_)
          refine wpAny_bind (wpAny_mkInt ?_)
          refine wpAny_bind (wpAny_pure ?_)
          simp only [List.forIn_cons, List.forIn_nil]
          refine wpAny_bind (wpAny_bind (wpAny_bind (wpAny_isInstance (T := "int") (b := false) (typeIs_int _ _ _) sub_int_str ?_)))
          simp only [Bool.false_eq_true, if_false]
          refine wpAny_pure (wpAny_bind (wpAny_bind (wpAny_isInstance (T := "int") (b := false) (typeIs_int _ _ _) sub_int_bytes ?_)))
          simp only [Bool.false_eq_true, if_false]
          refine wpAny_pure (wpAny_bind (wpAny_bind (wpAny_isInstance (T := "int") (b := false) (typeIs_int _ _ _) sub_int_bytearray ?_)))
          simp only [Bool.false_eq_true, if_false]
          refine wpAny_pure (wpAny_pure ?_)
          refine wpAny_bind (wpAny_newObj_type ?_)
          have nIt : H s.heap.objs.size = none := I.hok.fresh (Nat.le_refl _)
          have I2 : ∀ (o1 o2 : Obj) (tk : Nat), Inv X pins σ H { s with heap := (s.heap.push o1).push o2, toks := tk } := fun o1 o2 tk => I.kept fun b o e => Heap.get?_push_of_some _ (Heap.get?_push_of_some _ e)
          refine wpAny_pure ⟨plainId_quiet PySem.F.plain_sum_loop _, sum_go hc ho hf (it := s.heap.objs.size) (a := a) (vs := vs) (Nat.ne_of_lt (by simp only [Heap.size_push]; exact Nat.lt_succ_self _)) ds 0 _ G H (.int 0) (.int 0 s.toks) (.int 0) d 0 0 (.inl rfl) (I2 _ _ _) e ⟨s.toks, rfl⟩ (.int 0) q rr (I.fpOk (Nat.le_refl _) nIt) (I.fpOk (by simp only [Heap.size_push]; omega) (I.hok.fresh (by simp only [Heap.size_push]; omega))) ?_ ?_ hd fun G' H' v u s' g rv I' ru => ⟨v, H', I', ru, h' G' v H' g rv⟩⟩
          · exact ⟨_, Heap.get?_push_of_some _ (Heap.get?_push_size _ rfl), rfl, rfl⟩
          · exact Heap.get?_push_size _ rfl
      | _ => exact h.elim
end PL
namespace PL
open PySem PySem.Spec L2
open PySem.W (Frag)
theorem reps_ints {K : Frag} {G : Hp} : ∀ ns : List Int, Reps K G (ns.map V.int) (ns.map D.int)
  | [] => .nil
  | n :: ns => .cons (.int n) (reps_ints ns)
theorem sql_noL {K : Frag} {H : Hp} {a : Addr} {xs : List V} (n : NoLs K) (h : SqL K H a xs) : Rd H a (.lst xs) := by
  rcases h with h | ⟨o, its, m, hk, hc, _⟩
  · exact h
  · exact absurd hc (n _ _ hk)
/-- where no error may leave -/
def spN (sp : Sp) : Sp := fun vs H Q _ => sp vs H Q fun _ _ _ => False
theorem fn_nox {P : Program} {w : World} {K : Frag} {mg : Str → Option Value} {base : Heap} {k : Nat} {f : Addr} {fd : FuncData} {ps : List Str} {sp : Sp} (F : FnOk P w K mg base (L2.CX P w) k f fd ps sp) : FnOk P w K mg base CX0 k f fd ps (spN sp) :=
  ⟨fun vs H Q E h => F.len vs H Q _ h, fun A outer s H args us vs Q E hr e0 b r h => codeAny_mono (F.run A outer s H args us vs Q _ hr e0 b r h) fun r s' q => by
    cases r with
    | ok fl => cases fl <;> exact q
    | error e => obtain ⟨_, _, _, _, _, _, _, _, _, _, _, _, z⟩ := q; exact z⟩
/-- the law: its walk, and what its reading answers -/
theorem pl_end {l : PySem.W.OpenLaw} {fb : List Fb} {fn : List He5.DefA} {xn : List XDef} {n i g kb : Nat} {q : Program} {loose : List Str} {XP : (Str → Option Value) → Heap → Prop} {dr : DefRec} {d : He5.DefA} {m : List D → Res D}
    (hn : l.most = some 63) (hdf : dr.params.defaults = []) (hr : Room kb callerA) (hnm : dr.name = ("law" : Str)) (hd : fn[i]? = some d) (hat : ∀ K, d.at_ K = He.ga K "law") (hg : fb[g]? = some (gloB "law"))
    (hb : ∀ (K : Frag) (fd : FuncData), FunD K d.name d.qual d.params d.body d.scope (d.dvs K) (d.kws K) (d.at_ K) fd → ∀ (s : Shared) (v : Value), BindsTo s fd ⟨[v], []⟩ [("script", v)])
    (hF : ∀ (T : Tk), FX l.prog fb fn xn T → ∀ fd, FunD T.K d.name d.qual d.params d.body d.scope (d.dvs T.K) (d.kws T.K) (d.at_ T.K) fd → FnOk T.P T.w T.K T.mg T.base (L2.CX T.P T.w) kb (d.at_ T.K) fd ["script"] (spD T.K 1 m))
    (hm : ∀ ns : List Int, ns.length ≤ 63 → m [.lst (ns.map D.int)] = .ok (.bl true)) :
    PySem.W.WalkO q loose XP (hookP n fb fn xn).says l.row.toRowW dr [] (fun f vs => PySem.call f vs) := by
  refine L2.walk_ofE (l := l) (n := 63) (k := kb) (x := "script") (CX := CX0) hn (by decide) hdf hr ?_ (fun _ _ _ _ z => z)
  intro w mg fa h Y G hmg0
  obtain ⟨K, KX, c, nl⟩ := Y
  rw [hnm] at hmg0
  have e := hmg0.symm.trans (gloB_ok KX G (c.fact g hg))
  obtain ⟨fd, F⟩ := c.def_ i hd
  have ef : fa = d.at_ K := by rw [hat]; cases e; rfl
  subst ef
  refine ⟨K, fd, spN (spD K 1 m), KX, hb K fd F, fun H a ns hl _ hS => ⟨rfl, H, [.lst (ns.map D.int)], fun _ _ z => z, .cons (.lst (sql_noL nl hS) (reps_ints ns)) .nil, ?_⟩, fun base KB GB => fn_nox (hF ⟨l.prog, w, K, mg, base⟩ ⟨rfl, ⟨base, KB, GB⟩, c⟩ fd F)⟩
  rw [hm ns hl]
  intro G' v H' _ rv
  cases rv
  rfl
end PL
namespace PL
open PySem PySem.Spec L2
open PyProof.Rows (b2i)
/-- r's value has Q, its error E -/
@[irreducible] def wr {α : Type} (r : Res α) (Q : α → Prop) (E : Err → Prop) : Prop := match r with
  | .ok a => Q a
  | .exc e => E e
  | .stuck => False
abbrev noE : Err → Prop := fun _ => False
@[simp] theorem wr_ok {α : Type} {a : α} {Q : α → Prop} {E : Err → Prop} : wr (.ok a) Q E = Q a := by with_unfolding_all exact id rfl
@[simp] theorem wr_exc {α : Type} {e : Err} {Q : α → Prop} {E : Err → Prop} : wr (.exc e : Res α) Q E = E e := by with_unfolding_all exact id rfl
@[simp] theorem wr_stuck {α : Type} {Q : α → Prop} {E : Err → Prop} : wr (.stuck : Res α) Q E = False := by with_unfolding_all exact id rfl
theorem wr_bind {α β : Type} {r : Res α} {f : α → Res β} {Q : β → Prop} {E : Err → Prop} : wr (r >>= f) Q E = wr r (fun a => wr (f a) Q E) E := by
  with_unfolding_all
    cases r <;> rfl
theorem wr_mono {α : Type} {r : Res α} {Q Q' : α → Prop} {E E' : Err → Prop} (h : wr r Q E) (hq : ∀ a, Q a → Q' a) (he : ∀ e, E e → E' e) : wr r Q' E' := by
  with_unfolding_all
    cases r with
    | ok a => exact hq a h
    | exc e => exact he e h
    | stuck => exact h
theorem wr_imp {α : Type} {r : Res α} {Q Q' : α → Prop} {E : Err → Prop} (h : wr r Q E) (hq : ∀ a, Q a → Q' a) : wr r Q' E := by with_unfolding_all exact wr_mono h hq fun _ z => z
theorem wr_ex {α : Type} {r : Res α} {Q : α → Prop} (h : wr r Q noE) : ∃ a, r = .ok a ∧ Q a := by
  with_unfolding_all
    cases r with
    | ok a => exact ⟨a, rfl, h⟩
    | exc e => exact h.elim
    | stuck => exact h.elim
theorem wr_eq {α : Type} {r : Res α} {a : α} (h : wr r (fun x => x = a) noE) : r = .ok a := by
  with_unfolding_all
    obtain ⟨b, e, z⟩ := wr_ex h
    rw [e, z]
theorem wr_of {α : Type} {r : Res α} {a : α} {Q : α → Prop} {E : Err → Prop} (h : r = .ok a) (q : Q a) : wr r Q E := by
  with_unfolding_all
    rw [h]; exact q
theorem wr_err {α : Type} {r : Res α} {e : Err} (h : wr r (fun _ => False) (fun x => x = e)) : r = .exc e := by
  with_unfolding_all
    cases r with
    | ok a => exact h.elim
    | exc x => rw [show x = e from h]
    | stuck => exact h.elim
theorem wr_ofOpt {α : Type} {o : Option α} {a : α} {Q : α → Prop} {E : Err → Prop} (h : o = some a) (q : Q a) : wr (ofOpt o) Q E := by
  with_unfolding_all
    rw [h]; exact q
@[simp] theorem wr_chk {α : Type} {p : Prop} [Decidable p] {r : Res α} {Q : α → Prop} {E : Err → Prop} : wr (chk p r) Q E = (p ∧ wr r Q E) := by
  with_unfolding_all
    unfold chk
    by_cases z : p
    · rw [if_pos z]; exact propext ⟨fun h => ⟨z, h⟩, fun h => h.2⟩
    · rw [if_neg z]; exact propext ⟨fun h => h.elim, fun h => absurd h.1 z⟩
theorem wr_if {α : Type} {c : Prop} [Decidable c] {r r' : Res α} {Q : α → Prop} {E : Err → Prop} : wr (if c then r else r') Q E = if c then wr r Q E else wr r' Q E := by
  with_unfolding_all
    by_cases z : c
    · rw [if_pos z, if_pos z]
    · rw [if_neg z, if_neg z]
section
variable {α : Type} {Q : D → Prop} {E : Err → Prop} {ρ : Ev}
@[simp] theorem wm_var {i : Nat} : wr (mVar i ρ) Q E = match ρ[i]? with | some (.dat d) => Q d | _ => False := by
  with_unfolding_all
    unfold mVar
    cases ρ[i]? with
    | none => rfl
    | some sl => cases sl <;> rfl
@[simp] theorem wm_con {d : D} : wr (mCon d ρ) Q E = Q d := by with_unfolding_all exact id rfl
@[simp] theorem wm_op {f : D → D → Res D} {a b : Ev → Res D} : wr (mOp f a b ρ) Q E = wr (a ρ) (fun x => wr (b ρ) (fun y => wr (f x y) Q E) E) E := by
  with_unfolding_all
    unfold mOp
    rw [wr_bind]
    congr
    funext x
    rw [wr_bind]
@[simp] theorem wm_un {f : D → Res D} {a : Ev → Res D} : wr (mUn f a ρ) Q E = wr (a ρ) (fun x => wr (f x) Q E) E := by with_unfolding_all exact wr_bind
@[simp] theorem wm_nil {Q : List D → Prop} : wr (mNil ρ) Q E = Q [] := by with_unfolding_all exact id rfl
@[simp] theorem wm_cons {Q : List D → Prop} {m : Ev → Res D} {ms : Ev → Res (List D)} : wr (mCons m ms ρ) Q E = wr (m ρ) (fun x => wr (ms ρ) (fun xs => Q (x :: xs)) E) E := by
  with_unfolding_all
    unfold mCons
    rw [wr_bind]
    congr
    funext x
    rw [wr_bind]
    rfl
@[simp] theorem wm_call {g : List D → Res D} {ms : Ev → Res (List D)} : wr (mCall g ms ρ) Q E = wr (ms ρ) (fun xs => wr (g xs) Q E) E := by with_unfolding_all exact wr_bind
@[simp] theorem wm_tup {ms : Ev → Res (List D)} : wr (mTup ms ρ) Q E = wr (ms ρ) (fun xs => xs.length ≤ sizeLine ∧ Q (.tup xs)) E := by
  with_unfolding_all
    unfold mTup
    rw [wr_bind]
    congr
    funext x
    rw [wr_chk]
    rfl
@[simp] theorem wm_lstOf {m : Ev → Res (List D)} : wr (lstOf m ρ) Q E = wr (m ρ) (fun xs => Q (.lst xs)) E := by
  with_unfolding_all
    unfold lstOf
    rw [wr_bind]
    rfl
@[simp] theorem wm_fLst {Q : List D → Prop} {m : Ev → Res (List D)} : wr (fLst m ρ) Q E = wr (m ρ) (fun xs => xs.length ≤ sizeLine ∧ Q xs) E := by
  with_unfolding_all
    unfold fLst
    rw [wr_bind]
    congr
    funext x
    rw [wr_chk]
    rfl
@[simp] theorem wm_fList {Q : List D → Prop} {m : Ev → Res D} : wr (fList m ρ) Q E = wr (m ρ) (fun x => wr (itD x) Q E) E := by with_unfolding_all exact wr_bind
@[simp] theorem wm_fOp {Q : List D → Prop} {f : D → D → Res (List D)} {a b : Ev → Res D} : wr (fOp f a b ρ) Q E = wr (a ρ) (fun x => wr (b ρ) (fun y => wr (f x y) Q E) E) E := by
  with_unfolding_all
    unfold fOp
    rw [wr_bind]
    congr
    funext x
    rw [wr_bind]
@[simp] theorem wm_iMap {Q : List D → Prop} {f : D → Res (List D)} {m : Ev → Res D} : wr (iMap f m ρ) Q E = wr (m ρ) (fun x => wr (f x) Q E) E := by with_unfolding_all exact wr_bind
@[simp] theorem wm_iMapA {Q : List D → Prop} {f : List D → Res (List D)} {m : Ev → Res (List D)} : wr (iMapA f m ρ) Q E = wr (m ρ) (fun x => wr (f x) Q E) E := by with_unfolding_all exact wr_bind
@[simp] theorem wm_sl {m : Ev → Res D} {l h : Ev → Res (Option Int)} : wr (mSl m l h ρ) Q E = wr (m ρ) (fun d => wr (l ρ) (fun a => wr (h ρ) (fun b => wr (slD d a b) Q E) E) E) E := by
  with_unfolding_all
    unfold mSl
    rw [wr_bind]
    congr
    funext x
    rw [wr_bind]
    congr
    funext y
    rw [wr_bind]
@[simp] theorem wm_noP {Q : Option Int → Prop} : wr (mNoP ρ) Q E = Q none := by with_unfolding_all exact id rfl
@[simp] theorem wm_part {Q : Option Int → Prop} {m : Ev → Res D} : wr (mPart m ρ) Q E = wr (m ρ) (fun d => wr (partD d) Q E) E := by with_unfolding_all exact wr_bind
@[simp] theorem wm_bl {Q : Bool → Prop} {m : Ev → Res D} : wr (mBl m ρ) Q E = wr (m ρ) (fun d => wr (boolD d) Q E) E := by with_unfolding_all exact wr_bind
@[simp] theorem wm_tru {Q : Bool → Prop} {m : Ev → Res D} : wr (mTru m ρ) Q E = wr (m ρ) (fun d => wr (truthD d) Q E) E := by with_unfolding_all exact wr_bind
@[simp] theorem wm_not {Q : Bool → Prop} {m : Ev → Res Bool} : wr (mtNot m ρ) Q E = wr (m ρ) (fun b => Q (!b)) E := by
  with_unfolding_all
    unfold mtNot
    rw [wr_bind]
    rfl
@[simp] theorem wm_tand {Q : Bool → Prop} {m m' : Ev → Res Bool} : wr (mtAnd m m' ρ) Q E = wr (m ρ) (fun b => if b = true then wr (m' ρ) Q E else Q false) E := by
  with_unfolding_all
    unfold mtAnd
    rw [wr_bind]
    congr
    funext b
    rw [wr_if]
    rfl
@[simp] theorem wm_tor {Q : Bool → Prop} {m m' : Ev → Res Bool} : wr (mtOr m m' ρ) Q E = wr (m ρ) (fun b => if b = true then Q true else wr (m' ρ) Q E) E := by
  with_unfolding_all
    unfold mtOr
    rw [wr_bind]
    congr
    funext b
    rw [wr_if]
    rfl
@[simp] theorem wm_bool {m : Ev → Res Bool} : wr (mBool m ρ) Q E = wr (m ρ) (fun b => Q (.bl b)) E := by
  with_unfolding_all
    unfold mBool
    rw [wr_bind]
    rfl
@[simp] theorem wm_and {m m' : Ev → Res D} : wr (mAnd m m' ρ) Q E = wr (m ρ) (fun a => wr (truthD a) (fun b => if b = true then wr (m' ρ) Q E else Q a) E) E := by
  with_unfolding_all
    unfold mAnd
    rw [wr_bind]
    congr
    funext a
    rw [wr_bind]
    congr
    funext b
    rw [wr_if]
    rfl
@[simp] theorem wm_or {m m' : Ev → Res D} : wr (mOr m m' ρ) Q E = wr (m ρ) (fun a => wr (truthD a) (fun b => if b = true then Q a else wr (m' ρ) Q E) E) E := by
  with_unfolding_all
    unfold mOr
    rw [wr_bind]
    congr
    funext a
    rw [wr_bind]
    congr
    funext b
    rw [wr_if]
    rfl
@[simp] theorem wm_if {c : Ev → Res Bool} {m m' : Ev → Res D} : wr (mIf c m m' ρ) Q E = wr (c ρ) (fun b => if b = true then wr (m ρ) Q E else wr (m' ρ) Q E) E := by
  with_unfolding_all
    unfold mIf
    rw [wr_bind]
    congr
    funext b
    rw [wr_if]
end
/-- what is asked of an end -/
structure Po where
  nx : Ev → Prop
  rt : D → Prop
  bk : Ev → Prop
  ct : Ev → Prop
  exc : Err → Ev → Prop
@[irreducible] def ends (P : Po) : Out → Prop
  | .nx ρ => P.nx ρ
  | .rt d _ => P.rt d
  | .bk ρ => P.bk ρ
  | .ct ρ => P.ct ρ
  | .exc e ρ => P.exc e ρ
  | .stuck => False
/-- P behind o at ρ -/
@[irreducible] def wp (o : Ev → Out) (P : Po) (ρ : Ev) : Prop := ends P (o ρ)
theorem ends_of {α : Type} {r : Res α} {ρ : Ev} {f : α → Out} {P : Po} : ends P (Out.of r ρ f) = wr r (fun a => ends P (f a)) (fun e => P.exc e ρ) := by
  with_unfolding_all
    cases r <;> rfl
theorem ends_mono {P P' : Po} (h1 : ∀ ρ, P.nx ρ → P'.nx ρ) (h2 : ∀ d, P.rt d → P'.rt d) (h3 : ∀ ρ, P.bk ρ → P'.bk ρ) (h4 : ∀ ρ, P.ct ρ → P'.ct ρ) (h5 : ∀ e ρ, P.exc e ρ → P'.exc e ρ) {o : Out} (h : ends P o) : ends P' o := by
  with_unfolding_all
    cases o with
    | nx ρ => exact h1 _ h
    | rt d ρ => exact h2 _ h
    | bk ρ => exact h3 _ h
    | ct ρ => exact h4 _ h
    | exc e ρ => exact h5 _ _ h
    | stuck => exact h
section
variable {P : Po} {ρ : Ev} {m : Ev → Res D} {o o' : Ev → Out} {i : Nat}
@[simp] theorem wp_seq : wp (oSeq o o') P ρ = wp o { P with nx := wp o' P } ρ := by
  with_unfolding_all
    unfold wp oSeq
    cases o ρ <;> rfl
@[simp] theorem wp_set : wp (oSet i m) P ρ = wr (m ρ) (fun d => P.nx (ρ.set i (.dat d))) (fun e => P.exc e ρ) := by with_unfolding_all exact ends_of
@[simp] theorem wp_setL {m : Ev → Res (List D)} : wp (oSetL i m) P ρ = wr (m ρ) (fun d => P.nx (ρ.set i (.dat (.lst d)))) (fun e => P.exc e ρ) := by
  with_unfolding_all
    unfold oSetL
    rw [wp_set, wm_lstOf]
@[simp] theorem wp_setF {m : Ev → Res (List D)} : wp (oSetF i m) P ρ = wr (m ρ) (fun d => P.nx (ρ.set i (.own d))) (fun e => P.exc e ρ) := by with_unfolding_all exact ends_of
@[simp] theorem wp_ret : wp (oRet m) P ρ = wr (m ρ) P.rt (fun e => P.exc e ρ) := by with_unfolding_all exact ends_of
@[simp] theorem wp_retN : wp oRetN P ρ = P.rt .non := by with_unfolding_all exact id rfl
@[simp] theorem wp_expr : wp (oExpr m) P ρ = wr (m ρ) (fun _ => P.nx ρ) (fun e => P.exc e ρ) := by with_unfolding_all exact ends_of
@[simp] theorem wp_if {t : Ev → Res Bool} : wp (oIf t o o') P ρ = wr (t ρ) (fun b => if b = true then wp o P ρ else wp o' P ρ) (fun e => P.exc e ρ) := by
  with_unfolding_all
    unfold wp oIf
    rw [ends_of]
    congr
    funext b
    cases b <;> rfl
@[simp] theorem wp_nx : wp Out.nx P ρ = P.nx ρ := by with_unfolding_all exact id rfl
@[simp] theorem wp_bk : wp Out.bk P ρ = P.bk ρ := by with_unfolding_all exact id rfl
@[simp] theorem wp_ct : wp Out.ct P ρ = P.ct ρ := by with_unfolding_all exact id rfl
@[simp] theorem wp_asg {f : D → Ev → Option Ev} : wp (oAsg f m) P ρ = wr (m ρ) (fun d => ends P (Out.opt (f d ρ))) (fun e => P.exc e ρ) := by with_unfolding_all exact ends_of
@[simp] theorem wp_o2 {i j : Nat} {ms : Ev → Res (List D)} : wp (o2 i j ms) P ρ = wr (ms ρ) (fun ds => match ds with | [a, b] => P.nx ((ρ.set i (.dat a)).set j (.dat b)) | _ => False) (fun e => P.exc e ρ) := by
  with_unfolding_all
    unfold wp o2
    rw [ends_of]
    congr
    funext ds
    match ds with
    | [] => rfl
    | [_] => rfl
    | [_, _] => rfl
    | _ :: _ :: _ :: _ => rfl
@[simp] theorem wp_o3 {i j l : Nat} {ms : Ev → Res (List D)} : wp (o3 i j l ms) P ρ = wr (ms ρ) (fun ds => match ds with | [a, b, c] => P.nx (((ρ.set i (.dat a)).set j (.dat b)).set l (.dat c)) | _ => False) (fun e => P.exc e ρ) := by
  with_unfolding_all
    unfold wp o3
    rw [ends_of]
    congr
    funext ds
    match ds with
    | [] => rfl
    | [_] => rfl
    | [_, _] => rfl
    | [_, _, _] => rfl
    | _ :: _ :: _ :: _ :: _ => rfl
@[simp] theorem wp_app : wp (oApp i m) P ρ = match ρ[i]? with | some (.own xs) => wr (m ρ) (fun d => xs.length < sizeLine ∧ P.nx (ρ.set i (.own (xs ++ [d])))) (fun e => P.exc e ρ) | _ => False := by
  with_unfolding_all
    unfold wp oApp oOwn ownOf
    cases ρ[i]? with
    | none => rfl
    | some sl =>
      cases sl with
      | own xs =>
        show ends P (Out.of (m ρ) ρ _) = _
        rw [ends_of]
        congr
        funext d
        unfold oChk
        by_cases z : xs.length < sizeLine
        · rw [if_pos z]; exact propext ⟨fun h => ⟨z, h⟩, fun h => h.2⟩
        · rw [if_neg z]; exact propext ⟨fun h => h.elim, fun h => absurd h.1 z⟩
      | _ => rfl
@[simp] theorem wp_frz : wp (oFrz i o) P ρ = wp o P (freeze i ρ) := by with_unfolding_all exact id rfl
@[simp] theorem wp_for {mi : Ev → Res (List D)} {f : D → Ev → Option Ev} : wp (oFor mi f o) P ρ = wr (mi ρ) (fun ds => ends P (forL f o ds ρ)) (fun e => P.exc e ρ) := by with_unfolding_all exact ends_of
@[simp] theorem wp_raise {mx : Ev → Res Err} : wp (oRaise mx) P ρ = wr (mx ρ) (fun e => P.exc e ρ) (fun e => P.exc e ρ) := by
  with_unfolding_all
    unfold wp oRaise
    cases mx ρ <;> rfl
end
/-- behind each turn the word I, of as many items as are done -/
theorem for_inv {P : Po} {f : D → Ev → Option Ev} {o : Ev → Out} (I : Nat → Ev → Prop) {ds : List D} {ρ : Ev} (h0 : I 0 ρ)
    (hs : ∀ (i : Nat) (d : D) (ρ : Ev), ds[i]? = some d → I i ρ → ∃ ρ1, f d ρ = some ρ1 ∧ wp o ⟨I (i + 1), P.rt, P.nx, I (i + 1), P.exc⟩ ρ1) (hd : ∀ ρ, I ds.length ρ → P.nx ρ) : ends P (forL f o ds ρ) := by
  with_unfolding_all
    have main : ∀ (l : List D) (i : Nat) (ρ : Ev), ds.drop i = l → i ≤ ds.length → I i ρ → ends P (forL f o l ρ) := by
      intro l
      induction l with
      | nil =>
        intro i ρ e hi hI
        have z : ds.length ≤ i := by
          have := congrArg List.length e
          rw [List.length_drop, List.length_nil] at this
          omega
        have z2 : i = ds.length := by omega
        subst z2
        exact hd ρ hI
      | cons d l ih =>
        intro i ρ e hi hI
        have hlt : i < ds.length := by
          have := congrArg List.length e
          rw [List.length_drop, List.length_cons] at this
          omega
        rw [List.drop_eq_getElem_cons hlt] at e
        cases e
        obtain ⟨ρ1, e1, w⟩ := hs i _ ρ (List.getElem?_eq_getElem hlt) hI
        unfold forL
        unfold wp at w
        cases ho : o ρ1 with
        | nx ρ2 => rw [ho] at w; simp only [e1, ho]; exact ih (i + 1) ρ2 rfl hlt w
        | ct ρ2 => rw [ho] at w; simp only [e1, ho]; exact ih (i + 1) ρ2 rfl hlt w
        | bk ρ2 => rw [ho] at w; simp only [e1, ho]; exact w
        | rt d ρ2 => rw [ho] at w; simp only [e1, ho]; exact w
        | exc e ρ2 => rw [ho] at w; simp only [e1, ho]; exact w
        | stuck => rw [ho] at w; exact w.elim
    exact main ds 0 ρ rfl (Nat.zero_le _) h0
/-- the word I, a measure that falls -/
theorem while_inv {P : Po} {c : Ev → Res Bool} {b : Ev → Out} (I : Nat → Ev → Prop) {n : Nat} {ρ : Ev} (h0 : I n ρ)
    (hs : ∀ (n : Nat) (ρ : Ev), I n ρ → wr (c ρ) (fun k => if k = true then wp b ⟨fun ρ => ∃ m, m < n ∧ I m ρ, P.rt, P.nx, fun ρ => ∃ m, m < n ∧ I m ρ, P.exc⟩ ρ else P.nx ρ) (fun e => P.exc e ρ)) : wp (oWhile c b) P ρ := by
  with_unfolding_all
    have main : ∀ (n : Nat) (ρ : Ev), I n ρ → ∃ k, ends P (whN c b k ρ) := by
      intro n
      induction n using Nat.strongRecOn with
      | ind n ih =>
        intro ρ hI
        have w := hs n ρ hI
        cases hc : c ρ with
        | stuck => rw [hc] at w; exact w.elim
        | exc e =>
          rw [hc] at w
          refine ⟨1, ?_⟩
          unfold whN
          rw [hc]
          exact w
        | ok k =>
          rw [hc] at w
          cases k with
          | false =>
            refine ⟨1, ?_⟩
            unfold whN
            rw [hc]
            exact w
          | true =>
            have w' : ends _ (b ρ) := w
            have go : ∀ ρ2, (∃ m, m < n ∧ I m ρ2) → ((∀ k, ends P (whN c b k ρ2) → ends P (whN c b (k + 1) ρ)) → ∃ k, ends P (whN c b k ρ)) := fun ρ2 ⟨m, hm, I2⟩ f => by
              obtain ⟨k, hk⟩ := ih m hm ρ2 I2
              exact ⟨k + 1, f k hk⟩
            cases hb : b ρ with
            | nx ρ2 =>
              rw [hb] at w'
              refine go ρ2 w' fun k hk => ?_
              unfold whN
              rw [hc, Out.of_ok, if_pos rfl, hb]
              exact hk
            | ct ρ2 =>
              rw [hb] at w'
              refine go ρ2 w' fun k hk => ?_
              unfold whN
              rw [hc, Out.of_ok, if_pos rfl, hb]
              exact hk
            | bk ρ2 =>
              rw [hb] at w'
              refine ⟨1, ?_⟩
              unfold whN
              rw [hc, Out.of_ok, if_pos rfl, hb]
              exact w'
            | rt d ρ2 =>
              rw [hb] at w'
              refine ⟨1, ?_⟩
              unfold whN
              rw [hc, Out.of_ok, if_pos rfl, hb]
              exact w'
            | exc e ρ2 =>
              rw [hb] at w'
              refine ⟨1, ?_⟩
              unfold whN
              rw [hc, Out.of_ok, if_pos rfl, hb]
              exact w'
            | stuck => rw [hb] at w'; exact w'.elim
    obtain ⟨k, hk⟩ := main n ρ h0
    unfold wp
    rw [oWhile_of (n := k) (fun z => by rw [z] at hk; exact hk)]
    exact hk
theorem wr_def {n : Nat} {o : Ev → Out} {ds : List D} {Q : D → Prop} {E : Err → Prop} (h : wp o ⟨fun _ => Q .non, Q, fun _ => False, fun _ => False, fun e _ => E e⟩ (ev0 n ds)) : wr (mDef n o ds) Q E := by
  with_unfolding_all
    unfold mDef
    unfold wp at h
    cases ho : o (ev0 n ds) with
    | bk ρ => rw [ho] at h; exact h.elim
    | ct ρ => rw [ho] at h; exact h.elim
    | stuck => rw [ho] at h; exact h.elim
    | nx ρ => rw [ho] at h; exact h
    | rt d ρ => rw [ho] at h; exact h
    | exc e ρ => rw [ho] at h; exact h
theorem lc_map {f : D → Ev → Option Ev} {m : Ev → Res D} {ρ : Ev} {F : D → D} : ∀ {ds : List D}, (∀ d ∈ ds, ∃ ρ1, f d ρ = some ρ1 ∧ m ρ1 = .ok (F d)) → lcGo f mYes m ρ ds = .ok (ds.map F)
  | [], _ => rfl
  | d :: ds, h => by
    obtain ⟨ρ1, e1, e2⟩ := h d List.mem_cons_self
    have ih := lc_map (f := f) (m := m) (ρ := ρ) (F := F) (ds := ds) fun x hx => h x (List.mem_cons_of_mem _ hx)
    unfold lcGo
    rw [e1]
    simp only [mYes, ok_bind, if_true]
    rw [e2, ok_bind, ih]
    rfl
/-- each item has its own answer -/
theorem wm_fLc {vs : List Nat} {mi : Ev → Res (List D)} {f : D → Ev → Option Ev} {m : Ev → Res D} {Q : List D → Prop} {E : Err → Prop} {ρ : Ev} (F : D → D)
    (h : wr (mi ρ) (fun ds => (∀ d ∈ ds, ∃ ρ1, f d (wipeE ρ vs) = some ρ1 ∧ m ρ1 = .ok (F d)) ∧ ds.length ≤ sizeLine ∧ Q (ds.map F)) E) : wr (fLc vs mi f mYes m ρ) Q E := by
  with_unfolding_all
    unfold fLc
    rw [wr_bind]
    refine wr_imp h fun ds ⟨h1, h2, h3⟩ => ?_
    rw [lc_map h1]
    show wr (chk _ _) Q E
    rw [wr_chk]
    exact ⟨by rw [List.length_map]; exact h2, h3⟩
end PL
namespace PL
open PySem PySem.Spec L2
open PyProof.Rows (b2i)
/-- fewer than n bits -/
def Bd (n : Nat) (a : Int) : Prop := a.natAbs < 2 ^ n
theorem Bd.mono {n m : Nat} {a : Int} (h : Bd n a) (l : n ≤ m) : Bd m a := by with_unfolding_all exact Nat.lt_of_lt_of_le h (Nat.pow_le_pow_right (by decide) l)
theorem Bd.mul {n m : Nat} {a b : Int} (h : Bd n a) (k : Bd m b) : Bd (n + m) (a * b) := by
  with_unfolding_all
    unfold Bd at *
    rw [Int.natAbs_mul, Nat.pow_add]
    exact Nat.mul_lt_mul'' h k
theorem Bd.add {n m : Nat} {a b : Int} (h : Bd n a) (k : Bd m b) : Bd (max n m + 1) (a + b) := by
  with_unfolding_all
    have h1 := h.mono (Nat.le_max_left n m)
    have k1 := k.mono (Nat.le_max_right n m)
    unfold Bd at *
    have e : 2 ^ (max n m + 1) = 2 ^ max n m + 2 ^ max n m := by rw [Nat.pow_succ]; omega
    rw [e]
    omega
theorem Bd.neg {n : Nat} {a : Int} (h : Bd n a) : Bd n (-a) := by
  with_unfolding_all
    unfold Bd at *
    rw [Int.natAbs_neg]
    exact h
theorem Bd.sub {n m : Nat} {a b : Int} (h : Bd n a) (k : Bd m b) : Bd (max n m + 1) (a - b) := by with_unfolding_all exact h.add k.neg
theorem Bd.bits {n : Nat} {a : Int} (h : Bd n a) : Builtin.Int.intBits a ≤ n := by
  with_unfolding_all
    unfold Bd at h
    unfold Builtin.Int.intBits
    split
    · exact Nat.zero_le _
    · rename_i z
      have z' : a ≠ 0 := by simpa using z
      have := (Nat.log2_lt (by omega : a.natAbs ≠ 0)).mpr h
      omega
theorem Bd.cmul {n m : Nat} {a b : Int} (h : Bd n a) (k : Bd m b) (l : n + m ≤ 134217728) : CMulX a b := by
  with_unfolding_all
    have h1 := h.bits
    have k1 := k.bits
    unfold CMulX
    omega
theorem cmul_small {a b : Int} (h1 : -18446744073709551616 < a) (h2 : a < 18446744073709551616) (h3 : -18446744073709551616 < b) (h4 : b < 18446744073709551616) : CMulX a b := by
  with_unfolding_all
    exact
      Bd.cmul (n := 64) (m := 64) (by unfold Bd; omega) (by unfold Bd; omega) (by decide)
theorem Bd.div {n : Nat} {b : Int} (h : Bd n b) (hb : b ≠ 0) (l : n ≤ 9000) {a : Int} : DivOk a b := by
  with_unfolding_all
    refine ⟨hb, PyProof.noPylong_of_log2 ?_⟩
    unfold Bd at h
    have := (Nat.log2_lt (by omega : b.natAbs ≠ 0)).mpr h
    omega
theorem div_small {a b : Int} (h1 : b ≠ 0) (h2 : -18446744073709551616 < b) (h3 : b < 18446744073709551616) : DivOk a b := Bd.div (n := by with_unfolding_all exact 64) (by unfold Bd; omega) h1 (by decide)
section
variable {Q : D → Prop} {E : Err → Prop}
@[simp] theorem wo_add {a b : Int} : wr (addD (.int a) (.int b)) Q E = Q (.int (a + b)) := by with_unfolding_all exact id rfl
@[simp] theorem wo_sub {a b : Int} : wr (subD (.int a) (.int b)) Q E = Q (.int (a - b)) := by with_unfolding_all exact id rfl
@[simp] theorem wo_mul {a b : Int} : wr (mulD (.int a) (.int b)) Q E = (CMulX a b ∧ Q (.int (a * b))) := by with_unfolding_all exact wr_chk
@[simp] theorem wo_div {a b : Int} : wr (fdivD (.int a) (.int b)) Q E = (DivOk a b ∧ Q (.int (a.fdiv b))) := by with_unfolding_all exact wr_chk
@[simp] theorem wo_mod {a b : Int} : wr (modD (.int a) (.int b)) Q E = (b ≠ 0 ∧ Q (.int (a.fmod b))) := by with_unfolding_all exact wr_chk
@[simp] theorem wo_pow {a b : Int} : wr (powD (.int a) (.int b)) Q E = (CPow a b ∧ Q (.int (a ^ b.toNat))) := by with_unfolding_all exact wr_chk
@[simp] theorem wo_cmp {f : Int → Int → Bool} {a b : Int} : wr (cmpD f (.int a) (.int b)) Q E = Q (.bl (f a b)) := by with_unfolding_all exact id rfl
@[simp] theorem wo_neg {a : Int} : wr (negD (.int a)) Q E = Q (.int (-a)) := by with_unfolding_all exact id rfl
@[simp] theorem wo_eq {a b : Int} : wr (eqD (.int a) (.int b)) Q E = Q (.bl (decide (a = b))) := by with_unfolding_all exact id rfl
@[simp] theorem wo_eqs {a b : Str} : wr (eqD (.str a) (.str b)) Q E = Q (.bl (decide (a = b))) := by with_unfolding_all exact id rfl
@[simp] theorem wo_ne {a b : Int} : wr (neD (.int a) (.int b)) Q E = Q (.bl (!decide (a = b))) := by with_unfolding_all exact id rfl
@[simp] theorem wo_nes {a b : Str} : wr (neD (.str a) (.str b)) Q E = Q (.bl (!decide (a = b))) := by with_unfolding_all exact id rfl
@[simp] theorem wo_isN {a : D} : wr (isD a .non) Q E = Q (.bl (match a with | .non => true | _ => false)) := by
  with_unfolding_all
    cases a <;> rfl
@[simp] theorem wo_isB {a b : Bool} : wr (isD (.bl a) (.bl b)) Q E = Q (.bl (decide (a = b))) := by with_unfolding_all exact id rfl
@[simp] theorem wo_lenL {xs : List D} : wr (lenD [.lst xs]) Q E = Q (.int xs.length) := by with_unfolding_all exact id rfl
@[simp] theorem wo_lenT {xs : List D} : wr (lenD [.tup xs]) Q E = Q (.int xs.length) := by with_unfolding_all exact id rfl
@[simp] theorem wo_abs {a : Int} : wr (absD [.int a]) Q E = Q (.int (if a < 0 then -a else a)) := by with_unfolding_all exact id rfl
@[simp] theorem wo_int {a : Int} : wr (intD [.int a]) Q E = Q (.int a) := by with_unfolding_all exact id rfl
@[simp] theorem wo_intB {a : Bool} : wr (intD [.bl a]) Q E = Q (.int (if a = true then 1 else 0)) := by
  with_unfolding_all
    cases a <;> rfl
@[simp] theorem wo_max {a b : Int} : wr (maxD [.int a, .int b]) Q E = Q (.int (if b > a then b else a)) := by with_unfolding_all exact id rfl
@[simp] theorem wo_min {a b : Int} : wr (minD [.int a, .int b]) Q E = Q (.int (if b < a then b else a)) := by with_unfolding_all exact id rfl
@[simp] theorem wo_gcd {a b : Int} : wr (gcdD [.int a, .int b]) Q E = Q (.int (Int.gcd a b)) := by with_unfolding_all exact id rfl
@[simp] theorem wo_ixL {xs : List D} {i : Int} : wr (ixD (.lst xs) (.int i)) Q E = wr (ofOpt (atI xs i)) Q E := by with_unfolding_all exact id rfl
@[simp] theorem wo_ixT {xs : List D} {i : Int} : wr (ixD (.tup xs) (.int i)) Q E = wr (ofOpt (atI xs i)) Q E := by with_unfolding_all exact id rfl
@[simp] theorem wo_opt {α : Type} {a : α} {Q : α → Prop} : wr (ofOpt (some a)) Q E = Q a := by with_unfolding_all exact id rfl
@[simp] theorem wo_itL {xs : List D} {Q : List D → Prop} : wr (itD (.lst xs)) Q E = Q xs := by with_unfolding_all exact id rfl
@[simp] theorem wo_itT {xs : List D} {Q : List D → Prop} : wr (itD (.tup xs)) Q E = Q xs := by with_unfolding_all exact id rfl
@[simp] theorem wo_rng1 {j : Int} {Q : List D → Prop} : wr (rng1 [.int j]) Q E = ((-(2 ^ 62) ≤ j ∧ j < 2 ^ 62) ∧ Q (rngL 0 j.toNat)) := by with_unfolding_all exact wr_chk
@[simp] theorem wo_rng2 {i j : Int} {Q : List D → Prop} : wr (rng2 [.int i, .int j]) Q E = ((-(2 ^ 62) ≤ i ∧ i < 2 ^ 62 ∧ -(2 ^ 62) ≤ j ∧ j < 2 ^ 62) ∧ Q (rngL i (j - i).toNat)) := by with_unfolding_all exact wr_chk
@[simp] theorem wo_rep {xs : List D} {k : Int} {Q : List D → Prop} : wr (repL (.lst xs) (.int k)) Q E = ((-(2 ^ 63) ≤ k ∧ k < 2 ^ 63 ∧ xs.length * k.toNat ≤ sizeLine) ∧ Q (List.replicate k.toNat xs).flatten) := by with_unfolding_all exact wr_chk
@[simp] theorem wo_cat {xs ys : List D} {Q : List D → Prop} : wr (catL (.lst xs) (.lst ys)) Q E = (xs.length + ys.length ≤ sizeLine ∧ Q (xs ++ ys)) := by with_unfolding_all exact wr_chk
@[simp] theorem wo_blB {b : Bool} {Q : Bool → Prop} : wr (boolD (.bl b)) Q E = Q b := by with_unfolding_all exact id rfl
@[simp] theorem wo_trB {b : Bool} {Q : Bool → Prop} : wr (truthD (.bl b)) Q E = Q b := by with_unfolding_all exact id rfl
@[simp] theorem wo_trL {xs : List D} {Q : Bool → Prop} : wr (truthD (.lst xs)) Q E = Q (!xs.isEmpty) := by with_unfolding_all exact id rfl
@[simp] theorem wo_rev {xs : List D} : wr (revD (.lst xs)) Q E = Q (.lst xs.reverse) := by with_unfolding_all exact id rfl
@[simp] theorem wo_slL {xs : List D} {a b : Option Int} : wr (slD (.lst xs) a b) Q E = Q (.lst (cutL xs a b)) := by with_unfolding_all exact id rfl
@[simp] theorem wo_partI {i : Int} {Q : Option Int → Prop} : wr (partD (.int i)) Q E = Q (some i) := by with_unfolding_all exact id rfl
@[simp] theorem wo_tupL {xs : List D} : wr (tupleD [.lst xs]) Q E = Q (.tup xs) := by with_unfolding_all exact id rfl
theorem ints_map : ∀ ns : List Int, intsD (ns.map D.int) = some ns
  | [] => rfl
  | n :: ns => by
    show (intsD (ns.map D.int)).map (n :: ·) = some (n :: ns)
    rw [ints_map ns]
    rfl
@[simp] theorem wo_sum {ns : List Int} : wr (sumD [.lst (ns.map D.int)]) Q E = Q (.int ns.sum) := by
  with_unfolding_all
    show wr (ofOpt (intsD (ns.map D.int)) >>= fun ns => .ok (.int ns.sum)) Q E = _
    rw [ints_map]
    rfl
end
/-- a whole number, no truth value -/
def isI : D → Bool
  | .int _ => true
  | _ => false
theorem fdiv_mul {a g : Int} (h : g ∣ a) : a.fdiv g * g = a := by
  with_unfolding_all
    obtain ⟨q, rfl⟩ := h
    by_cases z : g = 0
    · subst z; simp
    · rw [Int.mul_fdiv_cancel_left _ z, Int.mul_comm]
theorem pos_of_mul {q g : Int} (h : 0 < q * g) (hg : 0 < g) : 0 < q := Classical.byContradiction fun z => by
  have := Int.mul_le_mul_of_nonneg_right (show q ≤ 0 by omega) (Int.le_of_lt hg)
  rw [Int.zero_mul] at this
  omega
theorem le_mul_pos {q g : Int} (h : 0 ≤ q) (hg : 0 < g) : q ≤ q * g := by
  with_unfolding_all
    have := Int.mul_le_mul_of_nonneg_left (show 1 ≤ g by omega) h
    rwa [Int.mul_one] at this
theorem Bd.le {n : Nat} {a b : Int} (h : Bd n a) (h0 : 0 ≤ b) (hb : b ≤ a) : Bd n b := by
  with_unfolding_all
    unfold Bd at *
    omega
theorem Bd.dvd {n : Nat} {a b : Int} (h : Bd n a) (ha : a ≠ 0) (hb : b ∣ a) : Bd n b := by
  with_unfolding_all
    unfold Bd at *
    exact Nat.lt_of_le_of_lt (Nat.le_of_dvd (by omega) (Int.natAbs_dvd_natAbs.mpr hb)) h
theorem atI_nn {α : Type} {xs : List α} (i : Nat) : atI xs (i : Int) = xs[i]? := by
  with_unfolding_all
    unfold atI ixN
    rw [if_pos (Int.natCast_nonneg i)]
    by_cases h : i < xs.length
    · rw [if_pos (by omega)]
      rfl
    · rw [if_neg (by omega), List.getElem?_eq_none (by omega)]
      rfl
theorem atI_of {α : Type} {xs : List α} {i : Int} (h : 0 ≤ i) : atI xs i = xs[i.toNat]? := by
  with_unfolding_all
    have := atI_nn (xs := xs) i.toNat
    rwa [Int.toNat_of_nonneg h] at this
@[simp] theorem atI_lit {α : Type} {xs : List α} (i : Nat) : atI xs (OfNat.ofNat i : Int) = xs[i]? := by with_unfolding_all exact atI_nn i
@[simp] theorem atI_zero {α : Type} {xs : List α} : atI xs (0 : Int) = xs[0]? := by with_unfolding_all exact atI_nn 0
@[simp] theorem atI_one {α : Type} {xs : List α} : atI xs (1 : Int) = xs[1]? := by with_unfolding_all exact atI_nn 1
theorem rngL_get {lo : Int} {n i : Nat} {d : D} (h : (rngL lo n)[i]? = some d) : i < n ∧ d = .int (lo + i) := by
  with_unfolding_all
    unfold rngL at h
    rw [List.getElem?_map] at h
    by_cases z : i < n
    · rw [List.getElem?_range z] at h
      cases h
      exact ⟨z, rfl⟩
    · rw [List.getElem?_eq_none (by rw [List.length_range]; omega)] at h
      cases h
@[simp] theorem rngL_len {lo : Int} {n : Nat} : (rngL lo n).length = n := by
  with_unfolding_all
    unfold rngL
    rw [List.length_map, List.length_range]
theorem cut_to {α : Type} (xs : List α) (k : Nat) : cutL xs none (some (k : Int)) = xs.take k := by
  with_unfolding_all
    unfold cutL
    rw [HT.sIx_none, HT.sIx_nat, List.drop_zero, Nat.sub_zero, List.take_eq_take_iff, Nat.min_assoc, Nat.min_self]
theorem cut_from {α : Type} (xs : List α) (k : Nat) : cutL xs (some (k : Int)) none = xs.drop k := by
  with_unfolding_all
    unfold cutL
    rw [HT.sIx_none, HT.sIx_nat, List.take_of_length_le (by rw [List.length_drop]; omega)]
    by_cases h : k ≤ xs.length
    · rw [Nat.min_eq_left h]
    · rw [Nat.min_eq_right (by omega), List.drop_length, List.drop_eq_nil_of_le (by omega)]
theorem cut_fromTo {α : Type} (xs : List α) (i j : Nat) (h : i ≤ xs.length) : cutL xs (some (i : Int)) (some (j : Int)) = (xs.drop i).take (j - i) := by
  with_unfolding_all
    unfold cutL
    rw [HT.sIx_nat, HT.sIx_nat, Nat.min_eq_left h]
    by_cases hj : j ≤ xs.length
    · rw [Nat.min_eq_left hj]
    · rw [Nat.min_eq_right (by omega), List.take_of_length_le (by rw [List.length_drop]; omega), List.take_of_length_le (by rw [List.length_drop]; omega)]
end PL
namespace PL
open PySem PySem.Spec L2
open PyProof.Rows (b2i)
theorem wr_ini {c : Cl} {n : Nat} {o : Ev → Out} {ds : List D} {Q : List (Nm × D) → Prop} {E : Err → Prop}
    (h : wp o ⟨fun ρ => match ρ with | .ins c' fs :: _ => c' = c ∧ Q fs | _ => False, fun _ => False, fun _ => False, fun _ => False, fun e _ => E e⟩ ((ev0 n (.non :: ds)).set 0 (.ins c []))) : wr (mIni c n o ds) Q E := by
  unfold mIni
  unfold wp at h
  cases ho : o ((ev0 n (.non :: ds)).set 0 (.ins c [])) with
  | bk ρ => rw [ho] at h; unfold ends at h; exact h.elim
  | ct ρ => rw [ho] at h; unfold ends at h; exact h.elim
  | stuck => rw [ho] at h; unfold ends at h; exact h.elim
  | rt d ρ => rw [ho] at h; unfold ends at h; exact h.elim
  | exc e ρ => rw [ho] at h; unfold ends at h; unfold wr; exact h
  | nx ρ =>
    rw [ho] at h
    unfold ends at h
    match ρ, h with
    | .ins c' fs :: r, h =>
      obtain ⟨e, h⟩ := (show c' = c ∧ Q fs from h)
      show wr (if c' = c then Res.ok fs else .stuck) Q E
      rw [if_pos e]
      unfold wr
      exact h
section
variable {Q : D → Prop} {E : Err → Prop} {P : Po} {ρ : Ev}
@[simp] theorem wp_fld {i : Nat} {c : Cl} {n : Nm} {m : Ev → Res D} : wp (oFld i c n m) P ρ = wr (m ρ) (fun d => match ρ[i]? with | some (.ins c' fs) => (c' = c ∧ fs.length < 1000) ∧ P.nx (ρ.set i (.ins c (putD n d fs))) | _ => False) (fun e => P.exc e ρ) := by
  with_unfolding_all
    unfold wp oFld
    rw [ends_of]
    congr
    funext d
    cases ρ[i]? with
    | none => rfl
    | some sl =>
      cases sl with
      | ins c' fs =>
        show ends P (oChk _ _) = _
        unfold oChk
        by_cases z : c' = c ∧ fs.length < 1000
        · rw [if_pos z]; exact propext ⟨fun h => ⟨z, h⟩, fun h => h.2⟩
        · rw [if_neg z]; exact propext ⟨fun h => h.elim, fun h => absurd h.1 z⟩
      | _ => rfl
@[simp] theorem wm_ins {i : Nat} {n : Nm} : wr (mIns i n ρ) Q E = match ρ[i]? with | some (.ins _ fs) => wr (ofOpt (fs.lookup n)) Q E | _ => False := by
  with_unfolding_all
    unfold mIns
    cases ρ[i]? with
    | none => rfl
    | some sl => cases sl <;> rfl
@[simp] theorem wm_X0 {c : Cl} {Q : Err → Prop} : wr (mX0 c ρ) Q E = Q ⟨c, []⟩ := by with_unfolding_all exact id rfl
@[simp] theorem wm_X {g : List D → Res Err} {ms : Ev → Res (List D)} {Q : Err → Prop} : wr (mX g ms ρ) Q E = wr (ms ρ) (fun ds => wr (g ds) Q E) E := by with_unfolding_all exact wr_bind
theorem wo_new {c : Cl} {m : List D → Res (List (Nm × D))} {ds : List D} : wr (newD c m ds) Q E = wr (m ds) (fun fs => Q (.obj c fs)) E := by
  with_unfolding_all
    unfold newD
    rw [wr_bind]
    rfl
theorem wo_fld {c : Cl} {n : Nm} {fs : List (Nm × D)} : wr (fldD n (.obj c fs)) Q E = wr (ofOpt (fs.lookup n)) Q E := by with_unfolding_all exact id rfl
theorem wo_own2 {base : D → D → Res D} {ps rs : Cl → Option (List D → Res D)} {c : Cl} {fs gs : List (Nm × D)} {g : List D → Res D} (h : ps c = some g) : wr (ownD base ps rs (.obj c fs) (.obj c gs)) Q E = wr (g [.obj c fs, .obj c gs]) Q E := by
  with_unfolding_all
    show wr (ofOpt (ps c) >>= fun g => chk (c = c) (g [.obj c fs, .obj c gs])) Q E = _
    rw [h, ofOpt_some, ok_bind, wr_chk]
    exact propext ⟨fun h => h.2, fun h => ⟨rfl, h⟩⟩
theorem wo_ownI {base : D → D → Res D} {ps rs : Cl → Option (List D → Res D)} {c : Cl} {fs : List (Nm × D)} {i : Int} {g : List D → Res D} (h : ps c = some g) : wr (ownD base ps rs (.obj c fs) (.int i)) Q E = wr (g [.obj c fs, .int i]) Q E := by
  with_unfolding_all
    show wr (ofOpt (ps c) >>= fun g => g [.obj c fs, .int i]) Q E = _
    rw [h, ofOpt_some, ok_bind]
theorem wo_ownR {base : D → D → Res D} {ps rs : Cl → Option (List D → Res D)} {c : Cl} {fs : List (Nm × D)} {i : Int} {g : List D → Res D} (h : rs c = some g) : wr (ownD base ps rs (.int i) (.obj c fs)) Q E = wr (g [.obj c fs, .int i]) Q E := by
  with_unfolding_all
    show wr (ofOpt (rs c) >>= fun g => g [.obj c fs, .int i]) Q E = _
    rw [h, ofOpt_some, ok_bind]
@[simp] theorem wo_ownN {base : D → D → Res D} {ps rs : Cl → Option (List D → Res D)} {i j : Int} : wr (ownD base ps rs (.int i) (.int j)) Q E = wr (base (.int i) (.int j)) Q E := by with_unfolding_all exact id rfl
end
@[simp] theorem ends_nx {P : Po} {ρ : Ev} : ends P (.nx ρ) = P.nx ρ := by with_unfolding_all exact id rfl
@[simp] theorem wm_chain {f g : D → D → Res D} {a b c : Ev → Res D} {Q : D → Prop} {E : Err → Prop} {ρ : Ev} : wr (mChain f g a b c ρ) Q E = wr (a ρ) (fun x => wr (b ρ) (fun y => wr (f x y) (fun r => wr (chainD g y (c ρ) r) Q E) E) E) E := by
  with_unfolding_all
    unfold mChain
    rw [wr_bind]
    congr
    funext x
    rw [wr_bind]
    congr
    funext y
    rw [wr_bind]
@[simp] theorem wo_chain {g : D → D → Res D} {y : D} {m : Res D} {k : Bool} {Q : D → Prop} {E : Err → Prop} : wr (chainD g y m (.bl k)) Q E = if k = true then wr m (fun z => wr (g y z) Q E) E else Q (.bl false) := by
  with_unfolding_all
    cases k with
    | true => exact wr_bind
    | false => rfl
/-- a fraction as an instance -/
def R (q : Rat) : D := .obj .Ratio [(.top, .int q.num), (.under, .int q.den)]
@[simp] theorem wo_top {q : Rat} {Q : D → Prop} {E : Err → Prop} : wr (fldD .top (R q)) Q E = Q (.int q.num) := by with_unfolding_all exact id rfl
@[simp] theorem wo_under {q : Rat} {Q : D → Prop} {E : Err → Prop} : wr (fldD .under (R q)) Q E = Q (.int q.den) := by with_unfolding_all exact id rfl
theorem wo_ownRR {Q : D → Prop} {E : Err → Prop} {base : D → D → Res D} {ps rs : Cl → Option (List D → Res D)} {p q : Rat} {g : List D → Res D} (h : ps .Ratio = some g) : wr (ownD base ps rs (R p) (R q)) Q E = wr (g [R p, R q]) Q E := by with_unfolding_all exact wo_own2 h
theorem wo_ownRI {Q : D → Prop} {E : Err → Prop} {base : D → D → Res D} {ps rs : Cl → Option (List D → Res D)} {p : Rat} {i : Int} {g : List D → Res D} (h : ps .Ratio = some g) : wr (ownD base ps rs (R p) (.int i)) Q E = wr (g [R p, .int i]) Q E := by with_unfolding_all exact wo_ownI h
theorem wo_ownIR {Q : D → Prop} {E : Err → Prop} {base : D → D → Res D} {ps rs : Cl → Option (List D → Res D)} {p : Rat} {i : Int} {g : List D → Res D} (h : rs .Ratio = some g) : wr (ownD base ps rs (.int i) (R p)) Q E = wr (g [R p, .int i]) Q E := by with_unfolding_all exact wo_ownR h
theorem wo_ownC {Q : D → Prop} {E : Err → Prop} {base : D → D → Res D} {ps : Cl → Option (List D → Res D)} {p q : Rat} {g : List D → Res D} {r : D} (h : ps .Ratio = some g) (e : g [R p, R q] = .ok r) (hq : Q r) : wr (ownC base ps (R p) (R q)) Q E := by
  with_unfolding_all
    show wr (ofOpt (ps .Ratio) >>= fun g => chk (sameCl .Ratio (R q) = true) (g [R p, R q])) Q E
    rw [h, ofOpt_some, ok_bind, wr_chk, e]
    exact ⟨rfl, hq⟩
/-- fewer than n bits above and below the line -/
def Sz (n : Nat) (q : Rat) : Prop := Bd n q.num ∧ Bd n (q.den : Int)
theorem Sz.mono {n m : Nat} {q : Rat} (h : Sz n q) (l : n ≤ m) : Sz m q := by with_unfolding_all exact ⟨h.1.mono l, h.2.mono l⟩
theorem Bd.nat {n : Nat} {a : Nat} (h : a < 2 ^ n) : Bd n (a : Int) := by with_unfolding_all exact h
theorem divInt_size {n : Nat} {t u : Int} (h1 : Bd n t) (h2 : Bd n u) (hu : u ≠ 0) : Sz n (Rat.divInt t u) := by
  with_unfolding_all
    refine ⟨?_, ?_⟩
    · rw [Rat.num_divInt]
      unfold Bd at *
      refine Nat.lt_of_le_of_lt (Int.natAbs_ediv_le_natAbs _ _) ?_
      rw [Int.natAbs_mul]
      refine Nat.lt_of_le_of_lt (Nat.mul_le_mul_right _ (show u.sign.natAbs ≤ 1 from ?_)) (by rw [Nat.one_mul]; exact h1)
      rcases Int.lt_trichotomy u 0 with z | z | z
      · rw [Int.sign_eq_neg_one_of_neg z]; decide
      · exact absurd z hu
      · rw [Int.sign_eq_one_of_pos z]; decide
    · rw [Rat.den_divInt, if_neg hu]
      exact Bd.nat (Nat.lt_of_le_of_lt (Nat.div_le_self _ _) h2)
/-- dividing by the greatest common divisor, with the sign of the one below -/
theorem divInt_parts {t u : Int} (hu : 0 < u) : (Rat.divInt t u).num = t.fdiv (Int.gcd t u) ∧ ((Rat.divInt t u).den : Int) = u.fdiv (Int.gcd t u) := by
  with_unfolding_all
    have g0 : (0 : Int) ≤ Int.gcd t u := Int.natCast_nonneg _
    refine ⟨?_, ?_⟩
    · rw [Rat.num_divInt, Int.sign_eq_one_of_pos hu, Int.one_mul, Int.fdiv_eq_ediv_of_nonneg _ g0, Int.gcd_comm]
    · rw [Rat.den_divInt, if_neg (by omega), Int.fdiv_eq_ediv_of_nonneg _ g0, Int.natCast_ediv, Int.gcd_comm, Int.natAbs_of_nonneg (by omega)]
theorem divInt_partsN {t u : Int} (hu : u < 0) : (Rat.divInt t u).num = t.fdiv (-(Int.gcd t u : Int)) ∧ ((Rat.divInt t u).den : Int) = u.fdiv (-(Int.gcd t u : Int)) := by
  with_unfolding_all
    have h := divInt_parts (t := -t) (u := -u) (by omega)
    rw [Rat.neg_divInt_neg, Int.gcd_neg, Int.neg_gcd] at h
    rw [h.1, h.2]
    refine ⟨?_, ?_⟩ <;> rw [← Int.neg_fdiv_neg, Int.neg_neg]
theorem gcd_add_dvd (p q : Rat) : (Int.gcd (p.num * q.den + q.num * p.den) (p.den * q.den) : Int) ∣ (q.den : Int) * q.den := by
  with_unfolding_all
    have h1 : (Int.gcd (p.num * q.den + q.num * p.den) (p.den * q.den) : Int) ∣ p.num * q.den + q.num * p.den := Int.gcd_dvd_left _ _
    have h2 : (Int.gcd (p.num * q.den + q.num * p.den) (p.den * q.den) : Int) ∣ p.den * q.den := Int.gcd_dvd_right _ _
    generalize (Int.gcd (p.num * q.den + q.num * p.den) (p.den * q.den) : Int) = d at h1 h2
    have h3 : d ∣ p.num * (q.den * q.den) := by
      have e : p.num * (q.den * q.den) = (p.num * q.den + q.num * p.den) * q.den - p.den * q.den * q.num := by grind
      rw [e]
      exact Int.dvd_sub (Int.dvd_mul_of_dvd_left h1) (Int.dvd_mul_of_dvd_left h2)
    have h4 : d ∣ p.den * (q.den * q.den) := by
      rw [← Int.mul_assoc]
      exact Int.dvd_mul_of_dvd_left h2
    have h5 := Int.dvd_coe_gcd h3 h4
    rw [Int.gcd_mul_right] at h5
    have e : Int.gcd p.num p.den = 1 := p.reduced
    rw [e, Nat.one_mul] at h5
    exact Int.dvd_natAbs.mp h5
theorem gcd_pos {t u : Int} (hu : u ≠ 0) : (Int.gcd t u : Int) ≠ 0 := fun z => by
  have := Int.gcd_eq_zero_iff.mp (Int.ofNat_eq_zero.mp z)
  omega
theorem den_pos (q : Rat) : (0 : Int) < q.den := by
  with_unfolding_all
    have := q.den_pos
    omega
theorem gcd_add_bd {n m : Nat} {p q : Rat} (hq : Sz m q) (l : 2 * m ≤ 9000) : Bd 9000 (Int.gcd (p.num * q.den + q.num * p.den) (p.den * q.den)) := by
  with_unfolding_all
    have h := (hq.2.mul hq.2).mono (show m + m ≤ 9000 by omega)
    have z := den_pos q
    exact h.dvd (Int.ne_of_gt (Int.mul_pos z z)) (gcd_add_dvd p q)
theorem add_divInt (p q : Rat) : Rat.divInt (p.num * q.den + q.num * p.den) (p.den * q.den) = p + q := by
  with_unfolding_all
    have h1 := den_pos p
    have h2 := den_pos q
    rw [← Rat.divInt_add_divInt _ _ (by omega) (by omega), Rat.num_divInt_den, Rat.num_divInt_den]
theorem mul_divInt (p q : Rat) : Rat.divInt (p.num * q.num) (p.den * q.den) = p * q := by
  with_unfolding_all
    rw [← Rat.divInt_mul_divInt, Rat.num_divInt_den, Rat.num_divInt_den]
theorem Sz.add {n m : Nat} {p q : Rat} (hp : Sz n p) (hq : Sz m q) : Sz (n + m + 1) (p + q) := by
  with_unfolding_all
    have h1 := den_pos p
    have h2 := den_pos q
    rw [← add_divInt]
    refine divInt_size (((hp.1.mul hq.2).add (hq.1.mul hp.2)).mono (by omega)) ((hp.2.mul hq.2).mono (by omega)) (Int.ne_of_gt (Int.mul_pos h1 h2))
theorem Sz.mul {n m : Nat} {p q : Rat} (hp : Sz n p) (hq : Sz m q) : Sz (n + m) (p * q) := by
  with_unfolding_all
    have h1 := den_pos p
    have h2 := den_pos q
    rw [← mul_divInt]
    exact divInt_size (hp.1.mul hq.1) (hp.2.mul hq.2) (Int.ne_of_gt (Int.mul_pos h1 h2))
theorem Sz.neg {n : Nat} {p : Rat} (hp : Sz n p) : Sz n (-p) := by with_unfolding_all exact ⟨by rw [Rat.neg_num]; exact hp.1.neg, by rw [Rat.neg_den]; exact hp.2⟩
theorem Sz.int {n : Nat} {i : Int} (h : Bd n i) (hn : 1 ≤ n) : Sz n (i : Rat) := by with_unfolding_all exact ⟨h, Nat.lt_of_lt_of_le (show (1 : Nat) < 2 ^ 1 by decide) (Nat.pow_le_pow_right (by decide) hn)⟩
/-- a whole number, or a fraction -/
inductive NumD : D → Rat → Prop
  | int (i : Int) : NumD (.int i) i
  | rat (q : Rat) : NumD (R q) q
/-- the word I, of the items that are left -/
theorem for_rem {P : Po} {f : D → Ev → Option Ev} {o : Ev → Out} (I : List D → Ev → Prop) {ds : List D} {ρ : Ev} (h0 : I ds ρ)
    (hs : ∀ (J : List D → Ev → Prop), (∀ l ρ, I l ρ → J l ρ) → ∀ (d : D) (l : List D) (ρ : Ev), I (d :: l) ρ → ∃ ρ1, f d ρ = some ρ1 ∧ wp o ⟨J l, P.rt, P.nx, J l, P.exc⟩ ρ1) (hd : ∀ ρ, I [] ρ → P.nx ρ) : ends P (forL f o ds ρ) := by
  with_unfolding_all
    have hs := hs I fun _ _ h => h
    induction ds generalizing ρ with
    | nil => exact hd ρ h0
    | cons d l ih =>
      obtain ⟨ρ1, e1, w⟩ := hs d l ρ h0
      unfold forL
      unfold wp at w
      cases ho : o ρ1 with
      | nx ρ2 => rw [ho] at w; simp only [e1, ho]; exact ih w
      | ct ρ2 => rw [ho] at w; simp only [e1, ho]; exact ih w
      | bk ρ2 => rw [ho] at w; simp only [e1, ho]; exact w
      | rt d ρ2 => rw [ho] at w; simp only [e1, ho]; exact w
      | exc e ρ2 => rw [ho] at w; simp only [e1, ho]; exact w
      | stuck => rw [ho] at w; exact w.elim
/-- .. by the number of items done -/
theorem for_ix {P : Po} {f : D → Ev → Option Ev} {o : Ev → Out} (I : Nat → Ev → Prop) {ds : List D} {ρ : Ev} (h0 : I 0 ρ)
    (hs : ∀ (J : Nat → Ev → Prop), (∀ i ρ, I i ρ → J i ρ) → ∀ (i : Nat) (d : D) (ρ : Ev), ds[i]? = some d → I i ρ → ∃ ρ1, f d ρ = some ρ1 ∧ wp o ⟨J (i + 1), P.rt, P.nx, J (i + 1), P.exc⟩ ρ1) (hd : ∀ ρ, I ds.length ρ → P.nx ρ) : ends P (forL f o ds ρ) := by
  with_unfolding_all
    exact
      for_inv I h0 (hs I fun _ _ h => h) hd
theorem zip_eq : ∀ (a b : List D), zipL a b = (a.zip b).map fun p => .tup [p.1, p.2]
  | [], _ => rfl
  | _ :: _, [] => rfl
  | x :: a, y :: b => by
    show D.tup [x, y] :: zipL a b = _
    rw [zip_eq a b]
    rfl
@[simp] theorem wo_zip {a b : List D} {Q : List D → Prop} {E : Err → Prop} : wr (zipD [.lst a, .lst b]) Q E = Q (zipL a b) := by with_unfolding_all exact id rfl
/-- all are numbers -/
inductive NumDs : List D → List Rat → Prop
  | nil : NumDs [] []
  | cons {d : D} {q : Rat} {ds : List D} {qs : List Rat} : NumD d q → NumDs ds qs → NumDs (d :: ds) (q :: qs)
theorem NumDs.length {ds : List D} {qs : List Rat} (h : NumDs ds qs) : ds.length = qs.length := by
  with_unfolding_all
    induction h with
    | nil => rfl
    | cons _ _ ih => rw [List.length_cons, List.length_cons, ih]
theorem NumDs.rats : ∀ qs : List Rat, NumDs (qs.map R) qs
  | [] => .nil
  | q :: qs => .cons (.rat q) (NumDs.rats qs)
theorem NumDs.map {α : Type} {f : α → D} {g : α → Rat} (h : ∀ a, NumD (f a) (g a)) : ∀ l : List α, NumDs (l.map f) (l.map g)
  | [] => .nil
  | a :: l => .cons (h a) (NumDs.map h l)
inductive NumDss : List (List D) → List (List Rat) → Prop
  | nil : NumDss [] []
  | cons {d : List D} {q : List Rat} {ds : List (List D)} {qs : List (List Rat)} : NumDs d q → NumDss ds qs → NumDss (d :: ds) (q :: qs)
theorem NumDss.length {ds : List (List D)} {qs : List (List Rat)} (h : NumDss ds qs) : ds.length = qs.length := by
  with_unfolding_all
    induction h with
    | nil => rfl
    | cons _ _ ih => rw [List.length_cons, List.length_cons, ih]
@[simp] theorem cut_one {α : Type} (x : α) (xs : List α) : cutL (x :: xs) (some 1) none = xs := by with_unfolding_all exact cut_from (x :: xs) 1
/-- a + the sum of the products -/
def dotA : Rat → List Rat → List Rat → Rat
  | a, w :: ws, q :: qs => dotA (a + w * q) ws qs
  | a, _, _ => a
theorem Sz.zero : Sz 1 (0 : Rat) := by with_unfolding_all exact ⟨by unfold Bd; decide, by unfold Bd; decide⟩
theorem lc_mapM {α : Type} {f : D → Ev → Option Ev} {m : Ev → Res D} {ρ : Ev} {g F : α → D} : ∀ {l : List α}, (∀ a ∈ l, ∃ ρ1, f (g a) ρ = some ρ1 ∧ wr (m ρ1) (fun d => d = F a) noE) → lcGo f mYes m ρ (l.map g) = .ok (l.map F)
  | [], _ => rfl
  | a :: l, h => by
    obtain ⟨ρ1, e1, e2⟩ := h a List.mem_cons_self
    have ih := lc_mapM (f := f) (m := m) (ρ := ρ) (g := g) (F := F) (l := l) fun x hx => h x (List.mem_cons_of_mem _ hx)
    rw [List.map_cons]
    unfold lcGo
    rw [e1]
    simp only [mYes, ok_bind, if_true]
    rw [wr_eq e2, ok_bind, ih]
    rfl
theorem wm_lcM {α : Type} (l : List α) (g F : α → D) {vs : List Nat} {mi : Ev → Res (List D)} {f : D → Ev → Option Ev} {m : Ev → Res D} {Q : List D → Prop} {E : Err → Prop} {ρ : Ev} (hi : wr (mi ρ) (fun ds => ds = l.map g) noE) (hl : l.length ≤ sizeLine)
    (h : ∀ a ∈ l, ∃ ρ1, f (g a) (wipeE ρ vs) = some ρ1 ∧ wr (m ρ1) (fun d => d = F a) noE) (hq : Q (l.map F)) : wr (fLc vs mi f mYes m ρ) Q E := by
  with_unfolding_all
    unfold fLc
    rw [wr_bind, wr_eq hi]
    show wr (noX (lcGo f mYes m (wipeE ρ vs) (l.map g)) >>= _) Q E
    rw [lc_mapM h]
    show wr (chk _ _) Q E
    rw [wr_chk]
    exact ⟨by rw [List.length_map]; exact hl, hq⟩
theorem wm_lcOf {xs ys : List D} {vs : List Nat} {mi : Ev → Res (List D)} {f : D → Ev → Option Ev} {m : Ev → Res D} {Q : List D → Prop} {E : Err → Prop} {ρ : Ev} (hi : wr (mi ρ) (fun ds => ds = xs) noE) (h : lcGo f mYes m (wipeE ρ vs) xs = .ok ys)
    (hl : ys.length ≤ sizeLine) (hq : Q ys) : wr (fLc vs mi f mYes m ρ) Q E := by
  with_unfolding_all
    unfold fLc
    rw [wr_bind, wr_eq hi]
    show wr (noX (lcGo f mYes m (wipeE ρ vs) xs) >>= _) Q E
    rw [h]
    show wr (chk _ _) Q E
    rw [wr_chk]
    exact ⟨hl, hq⟩
/-- top and under as the law keeps them -/
def pairD (p : Int × Int) : D := .tup [.int p.1, .int p.2]
/-- as the program takes them -/
def numP (plain : Int) (p : Int × Int) : D := if plain = 1 ∧ p.1.fmod p.2 = 0 then .int (p.1.fdiv p.2) else R (Rat.divInt p.1 p.2)
theorem numP_num {plain : Int} {p : Int × Int} (hu : 0 < p.2) : NumD (numP plain p) (Rat.divInt p.1 p.2) := by
  with_unfolding_all
    unfold numP
    split
    · rename_i h
      have e : Rat.divInt p.1 p.2 = ((p.1.fdiv p.2 : Int) : Rat) := by
        have d : p.2 ∣ p.1 := Int.dvd_of_fmod_eq_zero h.2
        have e2 := fdiv_mul d
        rw [Rat.divInt_eq_div]
        have hz : (p.2 : Rat) ≠ 0 := fun z => by
          have := Rat.intCast_eq_zero_iff.mp z
          omega
        have e3 : ((p.1.fdiv p.2 * p.2 : Int) : Rat) = (p.1 : Rat) := by rw [e2]
        rw [Rat.intCast_mul] at e3
        rw [← e3]
        exact Rat.mul_div_cancel hz
      rw [e]
      exact .int _
    · exact .rat _
theorem sumO_go {f : D → D → Res D} {xs : List D} : sumO f [.lst xs] = sumGo f (.int 0) xs := by with_unfolding_all exact id rfl
theorem sumGo_cons {f : D → D → Res D} {a b x : D} {xs : List D} (h : f a x = .ok b) : sumGo f a (x :: xs) = sumGo f b xs := by
  with_unfolding_all
    show (match f a x with | .ok b => sumGo f b xs | _ => .stuck) = _
    rw [h]
end PL
namespace PL
open PySem PySem.Spec L2
open PyProof.Rows (b2i)
@[simp] theorem wp_try {ob : Ev → Out} {hs : List Hd} {P : Po} {ρ : Ev} : wp (oTry ob hs) P ρ = wp ob { P with exc := fun e ρ' => ends P (hdGo hs e ρ') } ρ := by
  with_unfolding_all
    unfold wp oTry
    cases ob ρ <;> rfl
def Po.leave (P : Po) (i : Option Nat) : Po := ⟨fun ρ => P.nx (leaveX i ρ), P.rt, fun ρ => P.bk (leaveX i ρ), fun ρ => P.ct (leaveX i ρ), fun _ _ => False⟩
theorem ends_leave {P : Po} {i : Option Nat} {o : Out} : ends P (o.leave i) = ends (P.leave i) o := by
  with_unfolding_all
    cases o <;> rfl
@[simp] theorem hd_nil {P : Po} {e : Err} {ρ : Ev} : ends P (hdGo [] e ρ) = P.exc e ρ := by with_unfolding_all exact id rfl
theorem hd_yes {P : Po} {e : Err} {ρ : Ev} {h : Hd} {r : List Hd} (z : h.t e.cls = some true) (w : wp h.o (P.leave h.i) (enterX h.i e ρ)) : ends P (hdGo (h :: r) e ρ) := by
  with_unfolding_all
    unfold hdGo
    rw [z]
    show ends P (Out.leave _ _)
    rw [ends_leave]
    exact w
theorem hd_no {P : Po} {e : Err} {ρ : Ev} {h : Hd} {r : List Hd} (z : h.t e.cls = some false) (w : ends P (hdGo r e ρ)) : ends P (hdGo (h :: r) e ρ) := by
  with_unfolding_all
    unfold hdGo
    rw [z]
    exact w
@[simp] theorem wm_xf {i : Nat} {f : Nm} {ρ : Ev} {Q : D → Prop} {E : Err → Prop} : wr (mXf i f ρ) Q E = match ρ[i]? with | some (.exn er) => wr (ofOpt (er.fs.lookup f)) Q E | _ => False := by
  with_unfolding_all
    unfold mXf
    cases ρ[i]? with
    | none => rfl
    | some s => cases s <;> rfl
@[simp] theorem wm_xi {i : Nat} {t : Cl → Option Bool} {ρ : Ev} {Q : D → Prop} {E : Err → Prop} : wr (mXi i t ρ) Q E = match ρ[i]? with | some (.exn er) => wr (ofOpt (t er.cls)) (fun b => Q (.bl b)) E | _ => False := by
  with_unfolding_all
    unfold mXi
    cases ρ[i]? with
    | none => rfl
    | some s =>
      cases s with
      | exn e => exact wr_bind
      | _ => rfl
/-- data that _law_same finds to be itself, at so many levels -/
inductive SameOk : Nat → D → Prop
  | non (n : Nat) : SameOk n .non
  | bl (n : Nat) (b : Bool) : SameOk n (.bl b)
  | int (n : Nat) (i : Int) : SameOk n (.int i)
  | str (n : Nat) (x : Str) : SameOk n (.str x)
  | tup {n : Nat} {xs : List D} : (∀ x ∈ xs, SameOk n x) → xs.length < 2 ^ 61 → SameOk (n + 1) (.tup xs)
  | lst {n : Nat} {xs : List D} : (∀ x ∈ xs, SameOk n x) → xs.length < 2 ^ 61 → SameOk (n + 1) (.lst xs)
section
variable {α : Type} {xs : List α}
@[simp] theorem atI_2 : atI xs (2 : Int) = xs[2]? := by with_unfolding_all exact atI_nn 2
@[simp] theorem atI_3 : atI xs (3 : Int) = xs[3]? := by with_unfolding_all exact atI_nn 3
@[simp] theorem atI_4 : atI xs (4 : Int) = xs[4]? := by with_unfolding_all exact atI_nn 4
@[simp] theorem atI_5 : atI xs (5 : Int) = xs[5]? := by with_unfolding_all exact atI_nn 5
@[simp] theorem atI_6 : atI xs (6 : Int) = xs[6]? := by with_unfolding_all exact atI_nn 6
@[simp] theorem atI_7 : atI xs (7 : Int) = xs[7]? := by with_unfolding_all exact atI_nn 7
@[simp] theorem atI_8 : atI xs (8 : Int) = xs[8]? := by with_unfolding_all exact atI_nn 8
@[simp] theorem atI_9 : atI xs (9 : Int) = xs[9]? := by with_unfolding_all exact atI_nn 9
@[simp] theorem atI_10 : atI xs (10 : Int) = xs[10]? := by with_unfolding_all exact atI_nn 10
@[simp] theorem atI_11 : atI xs (11 : Int) = xs[11]? := by with_unfolding_all exact atI_nn 11
@[simp] theorem atI_12 : atI xs (12 : Int) = xs[12]? := by with_unfolding_all exact atI_nn 12
@[simp] theorem atI_13 : atI xs (13 : Int) = xs[13]? := by with_unfolding_all exact atI_nn 13
@[simp] theorem atI_14 : atI xs (14 : Int) = xs[14]? := by with_unfolding_all exact atI_nn 14
@[simp] theorem atI_15 : atI xs (15 : Int) = xs[15]? := by with_unfolding_all exact atI_nn 15
@[simp] theorem atI_16 : atI xs (16 : Int) = xs[16]? := by with_unfolding_all exact atI_nn 16
@[simp] theorem atI_17 : atI xs (17 : Int) = xs[17]? := by with_unfolding_all exact atI_nn 17
@[simp] theorem atI_18 : atI xs (18 : Int) = xs[18]? := by with_unfolding_all exact atI_nn 18
@[simp] theorem atI_19 : atI xs (19 : Int) = xs[19]? := by with_unfolding_all exact atI_nn 19
@[simp] theorem atI_20 : atI xs (20 : Int) = xs[20]? := by with_unfolding_all exact atI_nn 20
@[simp] theorem atI_21 : atI xs (21 : Int) = xs[21]? := by with_unfolding_all exact atI_nn 21
@[simp] theorem atI_22 : atI xs (22 : Int) = xs[22]? := by with_unfolding_all exact atI_nn 22
@[simp] theorem atI_23 : atI xs (23 : Int) = xs[23]? := by with_unfolding_all exact atI_nn 23
@[simp] theorem atI_24 : atI xs (24 : Int) = xs[24]? := by with_unfolding_all exact atI_nn 24
@[simp] theorem atI_25 : atI xs (25 : Int) = xs[25]? := by with_unfolding_all exact atI_nn 25
@[simp] theorem atI_26 : atI xs (26 : Int) = xs[26]? := by with_unfolding_all exact atI_nn 26
@[simp] theorem atI_27 : atI xs (27 : Int) = xs[27]? := by with_unfolding_all exact atI_nn 27
@[simp] theorem atI_28 : atI xs (28 : Int) = xs[28]? := by with_unfolding_all exact atI_nn 28
@[simp] theorem atI_29 : atI xs (29 : Int) = xs[29]? := by with_unfolding_all exact atI_nn 29
@[simp] theorem atI_30 : atI xs (30 : Int) = xs[30]? := by with_unfolding_all exact atI_nn 30
@[simp] theorem atI_31 : atI xs (31 : Int) = xs[31]? := by with_unfolding_all exact atI_nn 31
@[simp] theorem atI_32 : atI xs (32 : Int) = xs[32]? := by with_unfolding_all exact atI_nn 32
@[simp] theorem atI_33 : atI xs (33 : Int) = xs[33]? := by with_unfolding_all exact atI_nn 33
@[simp] theorem atI_34 : atI xs (34 : Int) = xs[34]? := by with_unfolding_all exact atI_nn 34
@[simp] theorem atI_35 : atI xs (35 : Int) = xs[35]? := by with_unfolding_all exact atI_nn 35
@[simp] theorem atI_36 : atI xs (36 : Int) = xs[36]? := by with_unfolding_all exact atI_nn 36
@[simp] theorem atI_37 : atI xs (37 : Int) = xs[37]? := by with_unfolding_all exact atI_nn 37
@[simp] theorem atI_38 : atI xs (38 : Int) = xs[38]? := by with_unfolding_all exact atI_nn 38
@[simp] theorem atI_39 : atI xs (39 : Int) = xs[39]? := by with_unfolding_all exact atI_nn 39
@[simp] theorem atI_40 : atI xs (40 : Int) = xs[40]? := by with_unfolding_all exact atI_nn 40
end
/-- .. of tuples and lists by their items -/
inductive SameAll : Nat → List D → Prop
  | nil (n : Nat) : SameAll n []
  | cons {n : Nat} {x : D} {xs : List D} : SameOk n x → SameAll n xs → SameAll n (x :: xs)
theorem SameAll.mem {n : Nat} {xs : List D} (h : SameAll n xs) : ∀ x ∈ xs, SameOk n x := by
  with_unfolding_all
    induction h with
    | nil => exact fun x hx => by cases hx
    | cons a _ ih => exact fun x hx => (List.mem_cons.mp hx).elim (fun e => e ▸ a) (ih x)
theorem SameAll.tup {n : Nat} {xs : List D} (h : SameAll n xs) (l : xs.length < 2 ^ 61 := by first | decide | simp) : SameOk (n + 1) (.tup xs) := by with_unfolding_all exact .tup h.mem l
theorem SameAll.lst {n : Nat} {xs : List D} (h : SameAll n xs) (l : xs.length < 2 ^ 61 := by first | decide | simp) : SameOk (n + 1) (.lst xs) := by with_unfolding_all exact .lst h.mem l
/-- is it this very truth value -/
def isBl : D → Bool → Bool
  | .bl a, b => decide (a = b)
  | _, _ => false
@[simp] theorem wo_isV {a : D} {b : Bool} {Q : D → Prop} {E : Err → Prop} : wr (isD a (.bl b)) Q E = Q (.bl (isBl a b)) := by
  with_unfolding_all
    cases a <;> rfl
@[simp] theorem isBl_int {i : Int} {b : Bool} : isBl (.int i) b = false := by with_unfolding_all exact id rfl
@[simp] theorem isBl_str {x : Str} {b : Bool} : isBl (.str x) b = false := by with_unfolding_all exact id rfl
@[simp] theorem isBl_tup {xs : List D} {b : Bool} : isBl (.tup xs) b = false := by with_unfolding_all exact id rfl
@[simp] theorem isBl_lst {xs : List D} {b : Bool} : isBl (.lst xs) b = false := by with_unfolding_all exact id rfl
@[simp] theorem isBl_non {b : Bool} : isBl .non b = false := by with_unfolding_all exact id rfl
@[simp] theorem isBl_obj {c : Cl} {fs : List (Nm × D)} {b : Bool} : isBl (.obj c fs) b = false := by with_unfolding_all exact id rfl
@[simp] theorem isBl_bl {a b : Bool} : isBl (.bl a) b = decide (a = b) := by with_unfolding_all exact id rfl
@[simp] theorem wo_isi {f : D → Option Bool} {d : D} {Q : D → Prop} {E : Err → Prop} : wr (isiD f d) Q E = wr (ofOpt (f d)) (fun b => Q (.bl b)) E := by with_unfolding_all exact wr_bind
@[simp] theorem isT_int_non {t : Cl → Bool}  : isTy "int" t .non = some false := by
  with_unfolding_all
    kernel_rfl
@[simp] theorem isT_int_bl {t : Cl → Bool} {b : Bool} : isTy "int" t (.bl b) = some true := by
  with_unfolding_all
    kernel_rfl
@[simp] theorem isT_int_int {t : Cl → Bool} {i : Int} : isTy "int" t (.int i) = some true := by
  with_unfolding_all
    kernel_rfl
@[simp] theorem isT_int_str {t : Cl → Bool} {x : Str} : isTy "int" t (.str x) = some false := by
  with_unfolding_all
    kernel_rfl
@[simp] theorem isT_int_tup {t : Cl → Bool} {xs : List D} : isTy "int" t (.tup xs) = some false := by
  with_unfolding_all
    kernel_rfl
@[simp] theorem isT_int_lst {t : Cl → Bool} {xs : List D} : isTy "int" t (.lst xs) = some false := by
  with_unfolding_all
    kernel_rfl
@[simp] theorem isT_bool_non {t : Cl → Bool}  : isTy "bool" t .non = some false := by
  with_unfolding_all
    kernel_rfl
@[simp] theorem isT_bool_bl {t : Cl → Bool} {b : Bool} : isTy "bool" t (.bl b) = some true := by
  with_unfolding_all
    kernel_rfl
@[simp] theorem isT_bool_int {t : Cl → Bool} {i : Int} : isTy "bool" t (.int i) = some false := by
  with_unfolding_all
    kernel_rfl
@[simp] theorem isT_bool_str {t : Cl → Bool} {x : Str} : isTy "bool" t (.str x) = some false := by
  with_unfolding_all
    kernel_rfl
@[simp] theorem isT_bool_tup {t : Cl → Bool} {xs : List D} : isTy "bool" t (.tup xs) = some false := by
  with_unfolding_all
    kernel_rfl
@[simp] theorem isT_bool_lst {t : Cl → Bool} {xs : List D} : isTy "bool" t (.lst xs) = some false := by
  with_unfolding_all
    kernel_rfl
@[simp] theorem isT_str_non {t : Cl → Bool}  : isTy "str" t .non = some false := by
  with_unfolding_all
    kernel_rfl
@[simp] theorem isT_str_bl {t : Cl → Bool} {b : Bool} : isTy "str" t (.bl b) = some false := by
  with_unfolding_all
    kernel_rfl
@[simp] theorem isT_str_int {t : Cl → Bool} {i : Int} : isTy "str" t (.int i) = some false := by
  with_unfolding_all
    kernel_rfl
@[simp] theorem isT_str_str {t : Cl → Bool} {x : Str} : isTy "str" t (.str x) = some true := by
  with_unfolding_all
    kernel_rfl
@[simp] theorem isT_str_tup {t : Cl → Bool} {xs : List D} : isTy "str" t (.tup xs) = some false := by
  with_unfolding_all
    kernel_rfl
@[simp] theorem isT_str_lst {t : Cl → Bool} {xs : List D} : isTy "str" t (.lst xs) = some false := by
  with_unfolding_all
    kernel_rfl
@[simp] theorem isT_tuple_non {t : Cl → Bool}  : isTy "tuple" t .non = some false := by
  with_unfolding_all
    kernel_rfl
@[simp] theorem isT_tuple_bl {t : Cl → Bool} {b : Bool} : isTy "tuple" t (.bl b) = some false := by
  with_unfolding_all
    kernel_rfl
@[simp] theorem isT_tuple_int {t : Cl → Bool} {i : Int} : isTy "tuple" t (.int i) = some false := by
  with_unfolding_all
    kernel_rfl
@[simp] theorem isT_tuple_str {t : Cl → Bool} {x : Str} : isTy "tuple" t (.str x) = some false := by
  with_unfolding_all
    kernel_rfl
@[simp] theorem isT_tuple_tup {t : Cl → Bool} {xs : List D} : isTy "tuple" t (.tup xs) = some true := by
  with_unfolding_all
    kernel_rfl
@[simp] theorem isT_tuple_lst {t : Cl → Bool} {xs : List D} : isTy "tuple" t (.lst xs) = some false := by
  with_unfolding_all
    kernel_rfl
@[simp] theorem isT_list_non {t : Cl → Bool}  : isTy "list" t .non = some false := by
  with_unfolding_all
    kernel_rfl
@[simp] theorem isT_list_bl {t : Cl → Bool} {b : Bool} : isTy "list" t (.bl b) = some false := by
  with_unfolding_all
    kernel_rfl
@[simp] theorem isT_list_int {t : Cl → Bool} {i : Int} : isTy "list" t (.int i) = some false := by
  with_unfolding_all
    kernel_rfl
@[simp] theorem isT_list_str {t : Cl → Bool} {x : Str} : isTy "list" t (.str x) = some false := by
  with_unfolding_all
    kernel_rfl
@[simp] theorem isT_list_tup {t : Cl → Bool} {xs : List D} : isTy "list" t (.tup xs) = some false := by
  with_unfolding_all
    kernel_rfl
@[simp] theorem isT_list_lst {t : Cl → Bool} {xs : List D} : isTy "list" t (.lst xs) = some true := by
  with_unfolding_all
    kernel_rfl
@[simp] theorem isOwn_non {t : Cl → Option Bool}  : isOwn t .non = some false := by with_unfolding_all exact id rfl
@[simp] theorem isOwn_bl {t : Cl → Option Bool} {b : Bool} : isOwn t (.bl b) = some false := by with_unfolding_all exact id rfl
@[simp] theorem isOwn_int {t : Cl → Option Bool} {i : Int} : isOwn t (.int i) = some false := by with_unfolding_all exact id rfl
@[simp] theorem isOwn_str {t : Cl → Option Bool} {x : Str} : isOwn t (.str x) = some false := by with_unfolding_all exact id rfl
@[simp] theorem isOwn_tup {t : Cl → Option Bool} {xs : List D} : isOwn t (.tup xs) = some false := by with_unfolding_all exact id rfl
@[simp] theorem isOwn_lst {t : Cl → Option Bool} {xs : List D} : isOwn t (.lst xs) = some false := by with_unfolding_all exact id rfl
section
variable {base : D → D → Res D} {ps : Cl → Option (List D → Res D)} {b : D}
@[simp] theorem ownC_int {i : Int} : ownC base ps (.int i) b = base (.int i) b := by with_unfolding_all exact id rfl
@[simp] theorem ownC_str {x : Str} : ownC base ps (.str x) b = base (.str x) b := by with_unfolding_all exact id rfl
@[simp] theorem ownC_bl {x : Bool} : ownC base ps (.bl x) b = base (.bl x) b := by with_unfolding_all exact id rfl
@[simp] theorem ownC_non : ownC base ps .non b = base .non b := by with_unfolding_all exact id rfl
@[simp] theorem ownC_tup {xs : List D} : ownC base ps (.tup xs) b = base (.tup xs) b := by with_unfolding_all exact id rfl
@[simp] theorem ownC_lst {xs : List D} : ownC base ps (.lst xs) b = base (.lst xs) b := by with_unfolding_all exact id rfl
end
@[simp] theorem lk_cons {n m : Nm} {d : D} {fs : List (Nm × D)} : ((m, d) :: fs).lookup n = if n = m then some d else fs.lookup n := by
  with_unfolding_all
    rw [List.lookup_cons]
    by_cases h : n = m
    · subst h
      simp
    · rw [if_neg h]
      have : (n == m) = false := by simpa using h
      rw [this]
/-- errors by their fields -/
def er1 (c : Cl) (f : Nm) (d : D) : Err := ⟨c, [(f, d)]⟩
def er2 (c : Cl) (f f' : Nm) (d d' : D) : Err := ⟨c, [(f, d), (f', d')]⟩
@[simp] theorem er1_cls {c : Cl} {f : Nm} {d : D} : (er1 c f d).cls = c := by with_unfolding_all exact id rfl
@[simp] theorem er2_cls {c : Cl} {f f' : Nm} {d d' : D} : (er2 c f f' d d').cls = c := by with_unfolding_all exact id rfl
@[simp] theorem er1_fs {c : Cl} {f : Nm} {d : D} : (er1 c f d).fs = [(f, d)] := by with_unfolding_all exact id rfl
@[simp] theorem er2_fs {c : Cl} {f f' : Nm} {d d' : D} : (er2 c f f' d d').fs = [(f, d), (f', d')] := by with_unfolding_all exact id rfl
@[simp] theorem wo_x1 {c : Cl} {f : Nm} {d : D} {Q : Err → Prop} {E : Err → Prop} : wr (xF1 c f [d]) Q E = Q (er1 c f d) := by with_unfolding_all exact id rfl
theorem wo_x2 {c : Cl} {n : Nat} {f f' : Nm} {y : Str} {d : D} {Q : Err → Prop} {E : Err → Prop} (h : n + y.length ≤ 1000) (hq : Q (er2 c f f' (.str y) d)) : wr (xF2 c n f f' [.str y, d]) Q E := by
  with_unfolding_all
    show wr (chk (n + y.length ≤ sizeLine) _) Q E
    rw [wr_chk]
    exact ⟨by rw [sizeLine_eq]; omega, hq⟩
end PL
namespace PL
open PySem PySem.Spec L2
open PyProof.Rows (b2i)
section
variable {α : Type} {Q : D → Prop} {E : Err → Prop} {ρ : Ev} {P : Po} {i : Nat} {m mk : Ev → Res D}
@[simp] theorem wm_peek {is : List Nat} : wr (mPeek is m ρ) Q E = wr (m (frzAll is ρ)) (fun d => isFlatV d = true ∧ Q d) (fun e => flatFs e.fs = true ∧ E e) := by
  with_unfolding_all
    unfold mPeek peekD
    cases m (frzAll is ρ) with
    | ok d => exact wr_chk
    | exc e => exact wr_chk
    | stuck => rfl
@[simp] theorem wm_tpeek {is : List Nat} {m : Ev → Res Bool} {Q : Bool → Prop} : wr (mtPeek is m ρ) Q E = wr (m (frzAll is ρ)) Q (fun e => flatFs e.fs = true ∧ E e) := by
  with_unfolding_all
    unfold mtPeek peekT
    cases m (frzAll is ρ) with
    | ok d => rfl
    | exc e => exact wr_chk
    | stuck => rfl
@[simp] theorem sizeLine_s : sizeLine = 16777216 := by with_unfolding_all exact sizeLine_eq
@[simp] theorem freeze_eq : freeze i ρ = match ρ[i]? with
  | some (.own xs) => ρ.set i (.dat (.lst xs))
  | some (.own2 xss) => ρ.set i (.dat (.lst (xss.map .lst)))
  | some (.ins c fs) => ρ.set i (.dat (.obj c fs))
  | _ => ρ := by
  unfold freeze
  rfl
@[simp] theorem frzAll_nil : frzAll [] ρ = ρ := by with_unfolding_all exact id rfl
@[simp] theorem frzAll_cons {is : List Nat} : frzAll (i :: is) ρ = frzAll is (freeze i ρ) := by with_unfolding_all exact id rfl
@[simp] theorem flatV_int {k : Int} : isFlatV (.int k) = true := by with_unfolding_all exact id rfl
@[simp] theorem flatV_bl {b : Bool} : isFlatV (.bl b) = true := by with_unfolding_all exact id rfl
@[simp] theorem flatV_str {x : Str} : isFlatV (.str x) = true := by with_unfolding_all exact id rfl
@[simp] theorem flatV_non : isFlatV .non = true := by with_unfolding_all exact id rfl
@[simp] theorem wm_ownIx : wr (mOwnIx i mk ρ) Q E = match ρ[i]? with | some (.own xs) => wr (mk ρ) (fun k => wr (ownIx xs k) Q E) E | _ => False := by
  with_unfolding_all
    unfold mOwnIx ownOf
    cases ρ[i]? with
    | none => rfl
    | some s =>
      cases s with
      | own xs => exact wr_bind
      | _ => rfl
@[simp] theorem wo_ownIx {xs : List D} {k : Int} : wr (ownIx xs (.int k)) Q E = wr (ofOpt (atI xs k)) Q E := by with_unfolding_all exact id rfl
@[simp] theorem wm_fOwn {Q : List D → Prop} : wr (fOwn i ρ) Q E = match ρ[i]? with | some (.own xs) => Q xs | _ => False := by
  with_unfolding_all
    unfold fOwn ownOf
    cases ρ[i]? with
    | none => rfl
    | some s => cases s <;> rfl
@[simp] theorem wm_ownT : wr (mOwnT i ρ) Q E = match ρ[i]? with | some (.own xs) => Q (.tup xs) | _ => False := by
  with_unfolding_all
    unfold mOwnT ownOf
    cases ρ[i]? with
    | none => rfl
    | some s => cases s <;> rfl
@[simp] theorem wp_rev : wp (oRev i) P ρ = match ρ[i]? with | some (.own xs) => P.nx (ρ.set i (.own xs.reverse)) | _ => False := by
  with_unfolding_all
    unfold wp oRev oOwn ownOf
    cases ρ[i]? with
    | none => rfl
    | some s => cases s <;> rfl
def setIxP (xs : List D) (d : D) : D → (List D → Prop) → Prop
  | .int k, q => match ixN xs.length k with
    | some j => q (xs.set j d)
    | none => False
  | _, _ => False
@[simp] theorem wp_setIx : wp (oSetIx i mk m) P ρ = match ρ[i]? with | some (.own xs) => wr (m ρ) (fun d => wr (mk ρ) (fun k => setIxP xs d k fun ys => P.nx (ρ.set i (.own ys))) (fun e => P.exc e ρ)) (fun e => P.exc e ρ) | _ => False := by
  with_unfolding_all
    unfold wp oSetIx oOwn ownOf
    cases ρ[i]? with
    | none => rfl
    | some s =>
      cases s with
      | own xs =>
        show ends P (Out.of (m ρ) ρ _) = _
        rw [ends_of]
        congr
        funext d
        rw [ends_of]
        congr
        funext k
        cases k with
        | int k =>
          show ends P (match ixN xs.length k with | some j => _ | none => _) = match ixN xs.length k with | some j => _ | none => _
          cases ixN xs.length k <;> rfl
        | _ => rfl
      | _ => rfl
theorem setIx_nat {xs : List D} {d : D} {j : Nat} {q : List D → Prop} (h : j < xs.length) : setIxP xs d (.int j) q = q (xs.set j d) := by
  with_unfolding_all
    show (match ixN xs.length (j : Int) with | some j => q (xs.set j d) | none => False) = _
    have e2 : ixN xs.length (j : Int) = some j := by
      unfold ixN
      rw [if_pos (Int.natCast_nonneg j), if_pos (by omega)]
      rfl
    rw [e2]
theorem setIx_int {xs : List D} {d : D} {k : Int} {q : List D → Prop} (h0 : 0 ≤ k) (h : k < xs.length) : setIxP xs d (.int k) q = q (xs.set k.toNat d) := by
  with_unfolding_all
    have := setIx_nat (xs := xs) (d := d) (j := k.toNat) (q := q) (by omega)
    rwa [Int.toNat_of_nonneg h0] at this
end
/-- a comprehension of which one knows that each item has S -/
theorem lc_each {α β : Type} {f : D → Ev → Option Ev} {m : Ev → Res D} {ρ : Ev} {g : α → D} {F : β → D} {S : β → Prop} : ∀ {l : List α}, (∀ a ∈ l, ∃ ρ1, f (g a) ρ = some ρ1 ∧ wr (m ρ1) (fun d => ∃ b, d = F b ∧ S b) noE) → ∃ bs : List β, bs.length = l.length ∧ (∀ b ∈ bs, S b) ∧ lcGo f mYes m ρ (l.map g) = .ok (bs.map F)
  | [], _ => ⟨[], rfl, (fun b h => by cases h), rfl⟩
  | a :: l, h => by
    obtain ⟨ρ1, e1, e2⟩ := h a List.mem_cons_self
    obtain ⟨d, e3, b, rfl, hb⟩ := wr_ex e2
    obtain ⟨bs, k1, k2, k3⟩ := lc_each (f := f) (m := m) (ρ := ρ) (g := g) (F := F) (S := S) (l := l) fun x hx => h x (List.mem_cons_of_mem _ hx)
    refine ⟨b :: bs, by rw [List.length_cons, List.length_cons, k1], fun x hx => (List.mem_cons.mp hx).elim (fun e => e ▸ hb) (k2 x), ?_⟩
    rw [List.map_cons]
    unfold lcGo
    rw [e1]
    simp only [mYes, ok_bind, if_true]
    rw [e3, ok_bind, k3]
    rfl
theorem wm_lcE {α β : Type} (l : List α) (g : α → D) (F : β → D) (S : β → Prop) {vs : List Nat} {mi : Ev → Res (List D)} {f : D → Ev → Option Ev} {m : Ev → Res D} {Q : List D → Prop} {E : Err → Prop} {ρ : Ev} (hi : wr (mi ρ) (fun ds => ds = l.map g) noE) (hl : l.length ≤ sizeLine)
    (h : ∀ a ∈ l, ∃ ρ1, f (g a) (wipeE ρ vs) = some ρ1 ∧ wr (m ρ1) (fun d => ∃ b, d = F b ∧ S b) noE) (hq : ∀ bs : List β, bs.length = l.length → (∀ b ∈ bs, S b) → Q (bs.map F)) : wr (fLc vs mi f mYes m ρ) Q E := by
  with_unfolding_all
    obtain ⟨bs, k1, k2, k3⟩ := lc_each h
    unfold fLc
    rw [wr_bind, wr_eq hi]
    show wr (noX (lcGo f mYes m (wipeE ρ vs) (l.map g)) >>= _) Q E
    rw [k3]
    show wr (chk _ _) Q E
    rw [wr_chk]
    exact ⟨by rw [List.length_map, k1]; exact hl, hq bs k1 k2⟩
theorem rngL0 (n : Nat) : rngL 0 n = (List.range n).map fun i => D.int (i : Nat) := by
  with_unfolding_all
    unfold rngL
    refine List.map_congr_left fun i _ => ?_
    rw [Int.zero_add]
end PL
namespace PL
open PySem PySem.Spec L2
open PyProof.Rows (b2i)
def F2G (K : PySem.W.Frag) (E : XK) (G H : Hp) (Q : VK) : Res (List (List D)) → Prop
  | .ok xss => ∀ (G' : Hp) (p : Addr) (ls : List Addr) (H' : Hp), Grow G H G' H' → H' p = some (.lst (ls.map V.ref)) → RowsOk K (Base.of G H) G' H' ls xss → G' p = none → H p = none → (p :: ls).Nodup → Q (.ref p) H'
  | .exc e => ∀ G' cls dx H', Grow G H G' H' → ErrOk K G' H' cls dx e → E cls dx H'
  | .stuck => False
def tF2 (K : PySem.W.Frag) (B : Base) (W : WX) (m : Ev → Res (List (List D))) : TE := fun σ H Q => ∃ G ρ, EnvOk K B G σ ρ H ∧ F2G K (fun c d H' => W c d σ H') G H Q (m ρ)
theorem F2G.chk {K : PySem.W.Frag} {E : XK} {G H : Hp} {Q : VK} {p : Prop} [Decidable p] {r : Res (List (List D))} (h : F2G K E G H Q (chk p r)) : p ∧ F2G K E G H Q r := by
  unfold PL.chk at h
  by_cases z : p
  · rw [if_pos z] at h; exact ⟨z, h⟩
  · rw [if_neg z] at h; exact h.elim
theorem RG.bindF2 {α β : Type} {R : Hp → β → α → Prop} {K : PySem.W.Frag} {E : XK} {G H : Hp} {Q : VK} {r : Res α} {f : α → Res (List (List D))} {P : β → Hp → Prop} (h : F2G K E G H Q (r >>= f)) (k : ∀ a G1 v H1, Grow G H G1 H1 → R G1 v a → F2G K E G H Q (f a) → P v H1) : RG R K E G H P r := by
  cases r with
  | ok a => exact fun G1 v H1 g r => k a G1 v H1 g r h
  | exc e => exact h
  | stuck => exact h
theorem rows_free {K : PySem.W.Frag} {B : Base} {G H : Hp} {ls : List Addr} {xss : List (List D)} {a : Addr} (r : RowsOk K B G H ls xss) (h : H a = none) : a ∉ ls := fun m => by
  obtain ⟨vs, xs, h1, _⟩ := r.at m
  rw [h] at h1
  cases h1
theorem RowsOk.baseN {K : PySem.W.Frag} {B B' : Base} {G H : Hp} (hb : ∀ a, B.H a = none → B'.H a = none) : ∀ {ls : List Addr} {xss : List (List D)}, RowsOk K B G H ls xss → RowsOk K B' G H ls xss
  | [], [], _ => trivial
  | _ :: _, _ :: _, ⟨⟨vs, h1, r, g1, b1⟩, h⟩ => ⟨⟨vs, h1, r, g1, hb _ b1⟩, RowsOk.baseN hb h⟩
  | [], _ :: _, h => h
  | _ :: _, [], h => h
/-- the slot that holds what was just made -/
theorem F2G.slot {K : PySem.W.Frag} {B : Base} {G H G' H' : Hp} {σ : St} {ρ : Ev} {p : Addr} {ls : List Addr} {xss : List (List D)} {i : Nat} (e : EnvOk K B G σ ρ H) (g : Grow G H G' H') (hp : H' p = some (.lst (ls.map V.ref))) (r : RowsOk K (Base.of G H) G' H' ls xss) (gp : G' p = none) (hn : H p = none) (nd : (p :: ls).Nodup) :
    EnvOk K B G' (σ.set i (some (.ref p))) (ρ.set i (.own2 xss)) H' := by
  have bH : ∀ a, H a = none → B.H a = none := fun a h => e.grow.h.free h
  refine (e.growN g).setMine i ⟨p, ls, rfl, hp, r.baseN bH, gp, bH p hn, nd⟩ fun a fa j t _ ht ft => ?_
  have ft' := foot_grow (e.slot j t ht) g.h ft
  have ha : H a = none := by
    rcases (show a = p ∨ ∃ ms : List Addr, H' p = some (.lst (ms.map V.ref)) ∧ a ∈ ms from fa) with h | ⟨ms, hm, m⟩
    · rw [h]; exact hn
    · rw [hp] at hm
      injection hm with hm
      injection hm with hm
      have em := map_ref_inj hm
      subst em
      obtain ⟨_, _, _, _, _, b1⟩ := r.at m
      exact b1
  exact e.noMine ha j t ht ft'
def oSetF2 (i : Nat) (m : Ev → Res (List (List D))) : Ev → Out := fun ρ => Out.of (m ρ) ρ fun xss => .nx (ρ.set i (.own2 xss))
section
variable {X : Cx} {B : Base} {W : WX} {e : Expr} {m : Ev → Res (List (List D))} {pos : Pos}
theorem setF2 {K : PySem.W.Frag} {G H : Hp} {σ : St} {ρ : Ev} {Dn : Ends} {i : Nat} (e : EnvOk K B G σ ρ H) (q : SG K B W Dn (oSetF2 i m ρ)) : F2G K (fun c d H' => W c d σ H') G H (fun v H1 => Dn.nx (σ.set i (some v)) H1) (m ρ) := by
  unfold oSetF2 at q
  cases hm : m ρ with
  | ok xss =>
    rw [hm] at q
    exact fun G' p ls H' g hp r gp hn nd => q G' _ H' (F2G.slot e g hp r gp hn nd)
  | exc x =>
    rw [hm] at q
    exact fun G1 c d H1 g k => q G1 σ H1 c d (e.growN g) k
  | stuck => rw [hm] at q; exact q
theorem ms_setF2 (i : Nat) {x : Str} {p' : Pos} (he : PE X e (tF2 X.K B W m)) (hN : X.N.Nodup := by decide) (hi : X.N[i]? = some x := by rfl) (hx : Loc X.env.scope x := by first | exact .inl rfl | exact .inr rfl) (hs : swapsWith e (some (.Name x p')) pos.line X.env = pure false := by rfl)
    (hf : X.fn x = true ∨ X.env.scope.names.lookup x = some .local := by first | exact .inl rfl | exact .inr rfl) : PS X (.Assign [.Name x p'] e pos) (tS X.K B W (oSetF2 i m)) :=
  PS.imp (ps_set hN hi hx he hs hf) fun Dn σ H ⟨G, ρ, e, q⟩ => ⟨G, ρ, e, setF2 e q⟩
/-- [] as such a list -/
def fNil2 : Ev → Res (List (List D)) := fun _ => .ok []
theorem mf2_nil : PE X (.List [] pos) (tF2 X.K B W fNil2) := PE.imp (pe_lst (pa_nil (X := X))) fun σ H Q ⟨G, ρ, e, q⟩ =>
  ⟨Nat.zero_le _, fun p hp => q G p [] _ (.side e.sub hp _) upd_same trivial (e.sub.free hp) hp (by simp)⟩
/-- as data -/
def lst2Of (m : Ev → Res (List (List D))) : Ev → Res D := fun ρ => m ρ >>= fun xss => .ok (.lst (xss.map .lst))
def lcGo2 (f : D → Ev → Option Ev) (t : Ev → Res Bool) (m : Ev → Res (List D)) (ρ : Ev) : List D → Res (List (List D))
  | [] => .ok []
  | d :: ds => match f d ρ with
    | none => .stuck
    | some ρ1 => t ρ1 >>= fun k => if k = true then m ρ1 >>= fun y => lcGo2 f t m ρ ds >>= fun ys => .ok (y :: ys) else lcGo2 f t m ρ ds
def fLc2 (vs : List Nat) (mi : Ev → Res (List D)) (f : D → Ev → Option Ev) (t : Ev → Res Bool) (m : Ev → Res (List D)) : Ev → Res (List (List D)) := fun ρ => mi ρ >>= fun ds => noX (lcGo2 f t m (wipeE ρ vs) ds) >>= fun ys => chk (ys.length ≤ sizeLine) (.ok ys)
theorem lc_main2 {K : PySem.W.Frag} {G H : Hp} {σ : St} {ρ : Ev} {Q : VK} {vs js : List Nat} {mi : Ev → Res (List D)} {f : D → Ev → Option Ev} {t : Ev → Res Bool} {m : Ev → Res (List D)} (hj : ∀ j ∈ js, j ∈ vs) (e : EnvOk K B G σ ρ H) (q : F2G K (fun c d H' => W c d σ H') G H Q (fLc2 vs mi f t m ρ)) :
    tLc (tG (ItOk K) K B W mi) (gM K B js f) (tMT K B noW t) (tF K B noW m) vs σ H Q := by
  refine ⟨G, ρ, e, RG.bindF2 q fun ds G1 J H1 g r q1 => fun Dd hD => ?_⟩
  have e1 := (e.growN g).wipe vs
  obtain ⟨ys, hys, hz, q2⟩ : ∃ ys, lcGo2 f t m (wipeE ρ vs) ds = .ok ys ∧ ys.length ≤ sizeLine ∧ F2G K (fun c d H' => W c d σ H') G H Q (.ok ys) := by
    have q3 : F2G K (fun c d H' => W c d σ H') G H Q (noX (lcGo2 f t m (wipeE ρ vs) ds) >>= fun ys => chk (ys.length ≤ sizeLine) (.ok ys)) := q1
    cases hr : lcGo2 f t m (wipeE ρ vs) ds with
    | ok ys =>
      rw [hr] at q3
      obtain ⟨z, q3⟩ := F2G.chk (show F2G K _ G H Q (chk (ys.length ≤ sizeLine) (.ok ys)) from q3)
      exact ⟨ys, rfl, z, q3⟩
    | exc x => rw [hr] at q3; exact q3.elim
    | stuck => rw [hr] at q3; exact q3.elim
  refine ⟨fun i k H' => k = ds.length - i ∧ i ≤ ds.length ∧ ∃ (G' : Hp) (acc : List (List D)) (accl : List Addr) (rest : List (List D)), Grow G1 H1 G' H' ∧ H' Dd = some (.lst (accl.map V.ref)) ∧ RowsOk K (Base.of G H) G' H' accl acc ∧ G' Dd = none ∧ (Dd :: accl).Nodup ∧ lcGo2 f t m (wipeE ρ vs) (ds.drop i) = .ok rest ∧ acc ++ rest = ys,
    ⟨ds.length, rfl, Nat.zero_le _, G1, [], [], ys, .side g.sub hD _, upd_same, trivial, g.sub.free hD, by simp, hys, rfl⟩, ?_⟩
  rintro i k H2 ⟨rfl, hl, G2, acc, accl, rest, g2, hD2, r2, gD, nd, hgo, hap⟩
  obtain ⟨k1, k2⟩ := r i G2 H2 g2.g g2.sub
  by_cases hlt : i < ds.length
  · obtain ⟨go, yl⟩ := k2 ds[i] (List.getElem?_eq_getElem hlt)
    rw [List.drop_eq_getElem_cons hlt] at hgo
    refine .inr ⟨go, fun H' => ∃ m', m' < ds.length - i ∧ m' = ds.length - (i + 1) ∧ i + 1 ≤ ds.length ∧ ∃ (G' : Hp) (acc : List (List D)) (accl : List Addr) (rest : List (List D)), Grow G1 H1 G' H' ∧ H' Dd = some (.lst (accl.map V.ref)) ∧ RowsOk K (Base.of G H) G' H' accl acc ∧ G' Dd = none ∧ (Dd :: accl).Nodup ∧ lcGo2 f t m (wipeE ρ vs) (ds.drop (i + 1)) = .ok rest ∧ acc ++ rest = ys, fun H' z => z, fun x H3 y => ?_⟩
    obtain ⟨G3, g3, r3⟩ := yl x H3 y
    have hgo' : (match f ds[i] (wipeE ρ vs) with
      | none => Res.stuck
      | some ρ1 => t ρ1 >>= fun k => if k = true then m ρ1 >>= fun y => lcGo2 f t m (wipeE ρ vs) (ds.drop (i + 1)) >>= fun ys => .ok (y :: ys) else lcGo2 f t m (wipeE ρ vs) (ds.drop (i + 1))) = .ok rest := hgo
    cases hf : f ds[i] (wipeE ρ vs) with
    | none => rw [hf] at hgo'; cases hgo'
    | some ρ1 =>
      rw [hf] at hgo'
      dsimp only at hgo'
      have g13 := g2.trans g3
      refine ⟨G3, ds[i], _, ρ1, e1.growN g13, r3, hf, fun σ2 e2 l2 o2 => ⟨?_, G3, ρ1, e2, ?_⟩⟩
      · refine (wipe_agree ?_ fun j hjv => ?_)
        · rw [l2, wipe_length]
        · rw [o2 j fun z => hjv (hj j z), wipe_get hjv]
      · cases ht : t ρ1 with
        | exc x => rw [ht] at hgo'; cases hgo'
        | stuck => rw [ht] at hgo'; cases hgo'
        | ok k =>
          rw [ht, ok_bind] at hgo'
          refine fun G4 v H4 g4 r4 => ?_
          have r4' : v = k := r4
          subst r4'
          cases v with
          | false =>
            simp only [Bool.false_eq_true, if_false] at hgo' ⊢
            have g14 := g13.trans g4
            obtain ⟨w1, w2⟩ := (g3.trans g4).keeps hD2 gD
            exact ⟨ds.length - (i + 1), by omega, rfl, hlt, G4, acc, accl, rest, g14, w1, r2.grow (g3.trans g4), w2, nd, hgo', hap⟩
          | true =>
            simp only [if_true] at hgo' ⊢
            cases hm : m ρ1 with
            | exc x => rw [hm] at hgo'; cases hgo'
            | stuck => rw [hm] at hgo'; cases hgo'
            | ok y =>
              rw [hm, ok_bind] at hgo'
              cases hl2 : lcGo2 f t m (wipeE ρ vs) (ds.drop (i + 1)) with
              | exc x => rw [hl2] at hgo'; cases hgo'
              | stuck => rw [hl2] at hgo'; cases hgo'
              | ok rest' =>
                rw [hl2, ok_bind] at hgo'
                cases hgo'
                refine ⟨G4, ρ1, e2.growN g4, ?_⟩
                rw [hm]
                refine fun G5 p us H5 g5 hp5 r5 gp5 hn5 => ?_
                have g34 := g3.trans g4
                have g25 := g34.trans g5
                obtain ⟨w1, w2⟩ := g25.keeps hD2 gD
                obtain ⟨w3, _⟩ := g34.keeps hD2 gD
                have r4b := r2.grow g34
                have npD : p ≠ Dd := fun z => by rw [z, w3] at hn5; cases hn5
                have npl : p ∉ accl := rows_free r4b hn5
                rw [List.nodup_cons] at nd
                have hlen : acc.length < sizeLine := by
                  have := congrArg List.length hap
                  rw [List.length_append, List.length_cons] at this
                  omega
                have hH : H p = none := (g.h.trans (g2.h.trans g34.h)).free hn5
                have r5b : RowsOk K (Base.of G H) G5 H5 (accl ++ [p]) (acc ++ [y]) := RowsOk.snoc hp5 r5 gp5 hH (r2.grow g25)
                have nD : Dd ∉ accl ++ [p] := by
                  rw [List.mem_append, List.mem_singleton, not_or]
                  exact ⟨nd.1, fun z => npD z.symm⟩
                refine ⟨accl.map V.ref, w1, by rw [List.length_map, r2.length]; exact hlen, ds.length - (i + 1), by omega, rfl, hlt, G5, acc ++ [y], accl ++ [p], rest', ?_, by rw [List.map_append]; exact upd_same, r5b.other nD, w2, ?_, rfl, by rw [List.append_assoc]; exact hap⟩
                · have g15 := g2.trans g25
                  exact ⟨g15.g, fun a o z => by rw [upd_ne (ne_of_none z hD)]; exact g15.h _ _ z, fun a o z => by rw [upd_ne (ne_of_none z w2)]; exact g15.sub _ _ z, g15.new⟩
                · rw [List.nodup_cons]
                  refine ⟨nD, List.nodup_append.mpr ⟨nd.2, by simp, fun a ha b hb z => ?_⟩⟩
                  rw [List.mem_singleton.mp hb] at z
                  exact npl (z ▸ ha)
  · have ei : i = ds.length := by omega
    subst ei
    rw [List.drop_length] at hgo
    cases hgo
    rw [List.append_nil] at hap
    subst hap
    exact .inl ⟨k1 (Nat.le_refl _), q2 G2 Dd accl H2 (g.trans g2) hD2 r2 gD (g.h.free hD) nd⟩
theorem mf2_lc {elt tg iter : Expr} {ifs : List Expr} {scope : Scope} {own : List (Str × Nat)} {js : List Nat} {mi : Ev → Res (List D)} {f : D → Ev → Option Ev} {t : Ev → Res Bool} {m : Ev → Res (List D)} (hc : X.calm = true) (ok : BlkOk X.N X.env.scope scope own) (hi : IP X B W tg iter mi)
    (hg : ∀ (s : Shared) (H : Hp) (C : Addr) (cl : List (Str × Addr)) (fp : List Addr), GP (X.blk s H scope (compEnvC scope cl C X.env) fp) B tg js f) (ht : ∀ (s : Shared) (H : Hp) (C : Addr) (cl : List (Str × Addr)) (fp : List Addr), PTs (X.blk s H scope (compEnvC scope cl C X.env) fp) ifs (tMT X.K B noW t))
    (he : ∀ (s : Shared) (H : Hp) (C : Addr) (cl : List (Str × Addr)) (fp : List Addr), PE (X.blk s H scope (compEnvC scope cl C X.env) fp) elt (tF X.K B noW m)) (hj : ∀ j ∈ js, j ∈ own.map (·.2) := by decide) (hN : X.N.Nodup := by decide) (hs : ∀ x, foldedSetIterable iter X.env x = pure x := by intro _; rfl) :
    PE X (.ListComp elt [⟨tg, iter, ifs, 0⟩] scope pos) (tF2 X.K B W (fLc2 (own.map (·.2)) mi f t m)) :=
  PE.imp (pe_lc hc hN hi ok hg ht he hs) fun σ H Q ⟨G, ρ, e, q⟩ => lc_main2 hj e q
theorem ms_setLc2 (i : Nat) {y : Str} {py spos : Pos} {elt tg iter : Expr} {ifs : List Expr} {scope : Scope} {own : List (Str × Nat)} {js : List Nat} {mi : Ev → Res (List D)} {f : D → Ev → Option Ev} {t : Ev → Res Bool} {m : Ev → Res (List D)} (hc : X.calm = true) (ok : BlkOk X.N X.env.scope scope own) (hi : IP X B W tg iter mi)
    (hg : ∀ (s : Shared) (H : Hp) (C : Addr) (cl : List (Str × Addr)) (fp : List Addr), GP (X.blk s H scope (compEnvC scope cl C X.env) fp) B tg js f) (ht : ∀ (s : Shared) (H : Hp) (C : Addr) (cl : List (Str × Addr)) (fp : List Addr), PTs (X.blk s H scope (compEnvC scope cl C X.env) fp) ifs (tMT X.K B noW t))
    (he : ∀ (s : Shared) (H : Hp) (C : Addr) (cl : List (Str × Addr)) (fp : List Addr), PE (X.blk s H scope (compEnvC scope cl C X.env) fp) elt (tF X.K B noW m)) (hsw : swapsWith (.ListComp elt [⟨tg, iter, ifs, 0⟩] scope pos) (some (.Name y py)) spos.line X.env = pure true) (hj : ∀ j ∈ js, j ∈ own.map (·.2) := by decide) (hN : X.N.Nodup := by decide)
    (hy : X.N[i]? = some y := by rfl) (hyl : X.env.scope.names.lookup y = some .local := by rfl) (hs : ∀ x, foldedSetIterable iter X.env x = pure x := by intro _; rfl) :
    PS X (.Assign [.Name y py] (.ListComp elt [⟨tg, iter, ifs, 0⟩] scope pos) spos) (tS X.K B W (oSetF2 i (fLc2 (own.map (·.2)) mi f t m))) :=
  PS.imp (L2.ps_setLc hc hN hy hyl hsw hi ok hg ht he hs) fun Dn σ H ⟨G, ρ, e, q⟩ => lc_main2 hj e (setF2 e q)
def own2Of (ρ : Ev) (i : Nat) : Option (List (List D)) := match ρ[i]? with
  | some (.own2 xss) => some xss
  | _ => none
theorem own2Of_some {ρ : Ev} {i : Nat} {xss : List (List D)} (h : own2Of ρ i = some xss) : ρ[i]? = some (.own2 xss) := by
  unfold own2Of at h
  split at h
  · rename_i ys hs
    cases h
    exact hs
  · cases h
def oOwn2 (i : Nat) (f : List (List D) → Ev → Out) : Ev → Out := fun ρ => match own2Of ρ i with
  | some xs => f xs ρ
  | none => .stuck
theorem SG.own2 {K : PySem.W.Frag} {Dn : Ends} {i : Nat} {f : List (List D) → Ev → Out} {ρ : Ev} (h : SG K B W Dn (oOwn2 i f ρ)) : ∃ xs, ρ[i]? = some (.own2 xs) ∧ SG K B W Dn (f xs ρ) := by
  unfold oOwn2 at h
  cases ho : own2Of ρ i with
  | none => rw [ho] at h; exact h.elim
  | some xs => rw [ho] at h; exact ⟨xs, own2Of_some ho, h⟩
theorem own2_at {K : PySem.W.Frag} {G H : Hp} {σ : St} {ρ : Ev} {i : Nat} {xss : List (List D)} (e : EnvOk K B G σ ρ H) (hs : ρ[i]? = some (.own2 xss)) : ∃ (l : Addr) (ls : List Addr), σ[i]? = some (some (.ref l)) ∧ H l = some (.lst (ls.map V.ref)) ∧ RowsOk K B G H ls xss ∧ G l = none ∧ B.H l = none ∧ (l :: ls).Nodup := e.slot i _ hs
/-- one row is changed -/
theorem own2_row {K : PySem.W.Frag} {G H : Hp} {σ : St} {ρ : Ev} {i n : Nat} {xss : List (List D)} {l a : Addr} {ls : List Addr} {us : List V} {ys : List D} (e : EnvOk K B G σ ρ H) (hs : ρ[i]? = some (.own2 xss)) (hv : σ[i]? = some (some (.ref l))) (hl : H l = some (.lst (ls.map V.ref))) (rk : RowsOk K B G H ls xss) (gl : G l = none) (bl : B.H l = none) (nd : (l :: ls).Nodup)
    (ha : ls[n]? = some a) (r : Reps K G us ys) : EnvOk K B G σ (ρ.set i (.own2 (xss.set n ys))) (upd H a (.lst us)) := by
  have nd' := nd
  rw [List.nodup_cons] at nd'
  have ma : a ∈ ls := List.mem_of_getElem? ha
  have nl : l ≠ a := fun z => nd'.1 (z ▸ ma)
  refine e.change hs (by rw [hv]; exact .inr ⟨ls, hl, ma⟩) (by rw [hv]; exact ⟨l, ls, rfl, by rw [upd_ne nl]; exact hl, RowsOk.put r rk ha nd'.2, gl, bl, nd⟩) fun b f => .inl ?_
  rw [hv] at f ⊢
  rcases (show b = l ∨ ∃ ms : List Addr, upd H a (.lst us) l = some (.lst (ms.map V.ref)) ∧ b ∈ ms from f) with h | ⟨ms, hm, m⟩
  · exact .inl h
  · rw [upd_ne nl] at hm
    exact .inr ⟨ms, hm, m⟩
/-- a new row behind all -/
theorem own2_snoc {K : PySem.W.Frag} {G H G1 H1 : Hp} {σ : St} {ρ : Ev} {i : Nat} {xss : List (List D)} {l p : Addr} {ls : List Addr} {us : List V} {ys : List D} (e : EnvOk K B G σ ρ H) (g : Grow G H G1 H1) (hs : ρ[i]? = some (.own2 xss)) (hv : σ[i]? = some (some (.ref l))) (hl : H l = some (.lst (ls.map V.ref))) (rk : RowsOk K B G H ls xss) (gl : G l = none) (bl : B.H l = none) (nd : (l :: ls).Nodup)
    (hp : H1 p = some (.lst us)) (r : Reps K G1 us ys) (gp : G1 p = none) (hn : H p = none) : H1 l = some (.lst (ls.map V.ref)) ∧ EnvOk K B G1 σ (ρ.set i (.own2 (xss ++ [ys]))) (upd H1 l (.lst (ls.map V.ref ++ [V.ref p]))) := by
  have e1 := e.growN g
  obtain ⟨k1, k2⟩ := g.keeps hl gl
  have npl : p ≠ l := fun z => by rw [z, hl] at hn; cases hn
  have npls : p ∉ ls := rows_free rk hn
  have nd' := nd
  rw [List.nodup_cons] at nd'
  have em : ls.map V.ref ++ [V.ref p] = (ls ++ [p]).map V.ref := by rw [List.map_append]; rfl
  have nl : l ∉ ls ++ [p] := by
    rw [List.mem_append, List.mem_singleton, not_or]
    exact ⟨nd'.1, fun z => npl z.symm⟩
  have nd2 : (l :: (ls ++ [p])).Nodup := by
    rw [List.nodup_cons]
    refine ⟨nl, List.nodup_append.mpr ⟨nd'.2, by simp, fun a ha b hb z => ?_⟩⟩
    rw [List.mem_singleton.mp hb] at z
    exact npls (z ▸ ha)
  refine ⟨k1, e1.change hs (by rw [hv]; exact .inl rfl) (by rw [hv]; exact ⟨l, ls ++ [p], rfl, by rw [← em]; exact upd_same, (RowsOk.snoc hp r gp (e.grow.h.free hn) (rk.grow g)).other nl, k2, bl, nd2⟩) fun b f => ?_⟩
  rw [hv] at f ⊢
  rcases (show b = l ∨ ∃ ms : List Addr, upd H1 l (.lst (ls.map V.ref ++ [V.ref p])) l = some (.lst (ms.map V.ref)) ∧ b ∈ ms from f) with h | ⟨ms, hm, m⟩
  · exact .inl (.inl h)
  · rw [upd_same, em] at hm
    injection hm with hm
    injection hm with hm
    have eq := map_ref_inj hm
    subst eq
    rw [List.mem_append, List.mem_singleton] at m
    rcases m with m | m
    · exact .inl (.inr ⟨ls, k1, m⟩)
    · subst m
      exact .inr fun j u _ hu fu => e.noMine hn j u hu (foot_grow (e.slot j u hu) g.h fu)
end
end PL
namespace PL
open PySem PySem.Spec L2
open PyProof.Rows (b2i)
/-- what a call gives: 0 data, 1 a new list, 2 a new list of new lists -/
def RtV (K : PySem.W.Frag) (G H : Hp) (fr : Nat) (G' : Hp) (v : V) (H' : Hp) (d : D) : Prop := match fr with
  | 0 => Rep K G' v d
  | 1 => ∃ xs, d = .lst xs ∧ SlotOk K (Base.of G H) G' H' (some (some v)) (.own xs)
  | _ => ∃ xss : List (List D), d = .lst (xss.map .lst) ∧ SlotOk K (Base.of G H) G' H' (some (some v)) (.own2 xss)
def NG (K : PySem.W.Frag) (fr : Nat) (E : XK) (G H : Hp) (Q : VK) : Res D → Prop
  | .ok d => (∃ xs, d = .lst xs) ∧ ∀ G' v H', Grow G H G' H' → RtV K G H fr G' v H' d → Q v H'
  | .exc e => ∀ G' cls dx H', Grow G H G' H' → ErrOk K G' H' cls dx e → E cls dx H'
  | .stuck => False
theorem RtV.less {K : PySem.W.Frag} {G H G1 H1 G' H' : Hp} {fr : Nat} {v : V} {d : D} (g : Grow G H G1 H1) (h : RtV K G1 H1 fr G' v H' d) : RtV K G H fr G' v H' d := by
  unfold RtV at h ⊢
  cases fr with
  | zero => exact h
  | succ n =>
    cases n with
    | zero =>
      obtain ⟨xs, e, l, vs, e1, hl, r, gl, bl⟩ := h
      exact ⟨xs, e, l, vs, e1, hl, r, gl, g.h.free bl⟩
    | succ n =>
      obtain ⟨xs, e, l, ls, e1, hl, r, gl, bl, nd⟩ := h
      exact ⟨xs, e, l, ls, e1, hl, r.baseN fun a ha => g.h.free ha, gl, g.h.free bl, nd⟩
theorem NG.grow {K : PySem.W.Frag} {fr : Nat} {E : XK} {G H G' H' : Hp} {Q : VK} {r : Res D} (g : Grow G H G' H') (h : NG K fr E G H Q r) : NG K fr E G' H' Q r := by
  cases r with
  | ok d => exact ⟨h.1, fun G2 v H2 g2 rv => h.2 G2 v H2 (g.trans g2) (rv.less g)⟩
  | exc e => exact fun G2 c d H2 g2 k => h G2 c d H2 (g.trans g2) k
  | stuck => exact h
theorem RG.bindN {α β : Type} {R : Hp → β → α → Prop} {K : PySem.W.Frag} {fr : Nat} {E : XK} {G H : Hp} {Q : VK} {r : Res α} {f : α → Res D} {P : β → Hp → Prop} (h : NG K fr E G H Q (r >>= f)) (k : ∀ a G1 v H1, r = .ok a → Grow G H G1 H1 → R G1 v a → NG K fr E G1 H1 Q (f a) → P v H1) : RG R K E G H P r := by
  cases r with
  | ok a => exact fun G1 v H1 g r => k a G1 v H1 rfl g r (NG.grow g h)
  | exc e => exact h
  | stuck => exact h
theorem RtOk.val {K : PySem.W.Frag} {G H G' H' : Hp} {fr : Nat} {σ : St} {ρ : Ev} {v : V} {d : D} (h : RtOk K (Base.of G H fr) G' σ ρ H' v d) : Grow G H G' H' ∧ RtV K G H fr G' v H' d := by
  unfold RtOk at h
  unfold RtV
  have ef : (Base.of G H fr).fr = fr := rfl
  rw [ef] at h
  cases fr with
  | zero => exact ⟨h.1.grow, h.2⟩
  | succ n =>
    cases n with
    | zero =>
      obtain ⟨g, xs, e, l, vs, e1, hl, r, gl, bl⟩ := h
      exact ⟨g, xs, e, l, vs, e1, hl, r, gl, bl⟩
    | succ n =>
      obtain ⟨g, xs, e, l, ls, e1, hl, r, gl, bl, nd⟩ := h
      exact ⟨g, xs, e, l, ls, e1, hl, RowsOk.baseN (B := Base.of G H (n + 1 + 1)) (B' := Base.of G H) (fun a ha => ha) r, gl, bl, nd⟩
section
variable {T : Tk} {K : PySem.W.Frag} {k n j fr : Nat} {x qual : Str} {params : Arguments} {body : List Stmt} {scope : Scope} {dvs : List V} {kws : List (Str × V)} {f : Addr} {fd : FuncData} {N ps : List Str} {o : Ev → Out}
def FnX (T : Tk) (k : Nat) (f : Addr) (j fr : Nat) (m : List D → Res D) : Prop :=
  ∀ (A : Around) (outer : List Env) (s : Shared) (G H : Hp) (us : List Value) (vs : List V) (ds : List D) (Q : VK) (E : XK), Room k A → Env0 T.P T.w T.K T.mg T.base A outer s H → Vals vs us → vs.length = j → Ext G H → Reps T.K G vs ds →
    NG T.K fr E G H Q (m ds) → codeAny (model T.P T.w) A (.call (.ref f) ⟨us, []⟩) (CR (L2.CX T.P T.w) outer T.P T.w H s Q E) s
theorem FnX.mono {k' : Nat} {m : List D → Res D} (h : k ≤ k') (F : FnX T k f j fr m) : FnX T k' f j fr m := fun A outer s G H us vs ds Q E hr => F A outer s G H us vs ds Q E (hr.mono h)
def spX (K : PySem.W.Frag) (fr j : Nat) (m : List D → Res D) : Sp := fun vs H Q E => vs.length = j ∧ ∃ G ds, Ext G H ∧ Reps K G vs ds ∧ NG K fr E G H Q (m ds)
abbrev BodyX (T : Tk) (k fr : Nat) (N : List Str) (qual : Str) (scope : Scope) (f : Addr) (body : List Stmt) (o : Ev → Out) : Prop :=
  ∀ (cdv : Value) (A : Around) (outer : List Env) (s : Shared) (H : Hp) (E : XK), Room k (A.deeper (PyProof.Rows.envOfC qual scope s.heap.objs.size f cdv)) → ∀ B : Base, B.fr = fr → PSs (cxT T N qual scope f cdv A outer s H E) body (tS T.K B (fun c d _ H' => E c d H') o)
theorem fnX (F : FunD T.K x qual params body scope dvs kws f fd) (S : FnScope N ps scope) (hb : BodyX T k fr N qual scope f body o) : FnOk T.P T.w T.K T.mg T.base (L2.CX T.P T.w) (k + 1) f fd ps (spX T.K fr ps.length (mDef N.length o)) :=
  F.ok S (fun vs H Q E h => h.1) fun cdv A outer s H vs Q E hr ⟨hl, G, ds, e, r, q⟩ => ⟨_, hb cdv A outer s H E hr (Base.of G H fr) rfl, G, _, env_start e r, by
    have q' : NG T.K fr E G H Q (o (ev0 N.length ds)).fin := by unfold mDef at q; exact q
    cases ho : o (ev0 N.length ds) with
    | rt d ρ => rw [ho] at q'; exact fun G' σ H' v e' => q'.2 G' v H' e'.val.1 e'.val.2
    | nx ρ =>
      rw [ho] at q'
      obtain ⟨xs, z⟩ := q'.1
      cases z
    | exc er ρ => rw [ho] at q'; exact fun G' σ H' c d e' kk => q' G' c d H' e'.grow kk
    | bk ρ => rw [ho] at q'; exact q'.elim
    | ct ρ => rw [ho] at q'; exact q'.elim
    | stuck => rw [ho] at q'; exact q'⟩
theorem FnX.of0 {m : List D → Res D} (F : FnOk T.P T.w T.K T.mg T.base (L2.CX T.P T.w) k f fd ps (spX T.K fr ps.length m)) (hb : Binds T.K fd ps []) (hj : j = ps.length := by rfl) : FnX T k f j fr m := by
  subst hj
  intro A outer s G H us vs ds Q E hr e0 r hl e rr h
  have l2 : (us ++ []).length = ps.length := by rw [List.append_nil, ← r.length, hl]
  have z := F.run A outer s H ⟨us, []⟩ (us ++ []) vs Q E hr e0 (hb s us (e0.mod.kin.keeps fun b o q => (e0.bs b o q).1) l2) (by rw [List.append_nil]; exact r) ⟨hl, G, ds, e, rr, h⟩
  exact z
structure GloX (T : Tk) (k : Nat) (x : Str) (j fr : Nat) (m : List D → Res D) : Prop where
  ex : ∃ f, T.mg x = some (.ref f) ∧ PySem.W.keepIn T.K (.ref f) = true ∧ FnX T k f j fr m
structure PropX (T : Tk) (k : Nat) (c : Cl) (f : Str) (fr : Nat) (g : List D → Res D) : Prop where
  ex : ∃ p fa, PropOf T.K (ca T.K c) f p fa ∧ FnX T k fa 1 fr g
end
section
variable {X : Cx} {W : WX} {pins : List (Addr × Obj)} {σ : St} {G H : Hp} {s : Shared} {A : Around} {k j fr : Nat} {f : Addr} {m : List D → Res D} {us : List Value} {vs : List V} {ds : List D} {Q : VK}
theorem FnX.go (F : FnX (tkOf X) k f j fr m) (tk : Takes X W) (hr : Room k A) (e0 : Env0 X.prog X.w X.K X.mg X.base A X.stack s H) (I : Inv X pins σ H s) (r : Vals vs us) (hl : vs.length = j) (e : Ext G H) (rr : Reps X.K G vs ds)
    (h : NG X.K fr (fun c d H' => W c d σ H') G H Q (m ds)) :
    codeAny (model X.prog X.w) A (.call (.ref f) ⟨us, []⟩) (CEnd X pins σ Q) s :=
  codeAny_mono (F A X.stack s G H us vs ds Q (WE W σ) hr e0 r hl e rr h) fun _ _ q => cr_go tk I q
theorem FnX.call (F : FnX (tkOf X) k f j fr m) (tk : Takes X W) (hr : Room k X.A) (I : Inv X pins σ H s) (r : Vals vs us) (hl : vs.length = j) (e : Ext G H) (rr : Reps X.K G vs ds)
    (h : NG X.K fr (fun c d H' => W c d σ H') G H Q (m ds)) : wpAny (model X.prog X.w) X.A (call (.ref f) us) (EP X pins σ Q) X.xe s := by
  refine wpAny_call (codeAny_mono (F.go tk hr I.env0 I r hl e rr h) fun r s' q => ?_)
  cases r with
  | error e => exact q
  | ok fl => cases fl <;> exact q
end
def tN (K : PySem.W.Frag) (fr : Nat) (B : Base) (W : WX) (m : Ev → Res D) : TE := fun σ H Q => ∃ G ρ, EnvOk K B G σ ρ H ∧ NG K fr (fun c d H' => W c d σ H') G H Q (m ρ)
/-- a list's items -/
def asL (m : Ev → Res D) : Ev → Res (List D) := fun ρ => m ρ >>= fun d => match d with
  | .lst xs => .ok xs
  | _ => .stuck
def lstsD : List D → Option (List (List D))
  | [] => some []
  | .lst xs :: ds => (lstsD ds).map (xs :: ·)
  | _ :: _ => none
theorem lstsD_map : ∀ xss : List (List D), lstsD (xss.map .lst) = some xss
  | [] => rfl
  | xs :: xss => by
    show (lstsD (xss.map .lst)).map (xs :: ·) = _
    rw [lstsD_map xss]
    rfl
theorem lstsD_some : ∀ {ds : List D} {xss : List (List D)}, lstsD ds = some xss → ds = xss.map .lst
  | [], xss, h => by cases h; rfl
  | d :: ds, xss, h => by
    cases d with
    | lst xs =>
      obtain ⟨yss, h1, h2⟩ := Option.map_eq_some_iff.mp (show (lstsD ds).map (xs :: ·) = some xss from h)
      subst h2
      rw [lstsD_some h1]
      rfl
    | _ => cases h
def asL2 (m : Ev → Res D) : Ev → Res (List (List D)) := fun ρ => m ρ >>= fun d => match d with
  | .lst xs => ofOpt (lstsD xs)
  | _ => .stuck
section
variable {X : Cx} {B : Base} {W : WX} {k j fr : Nat} {x f : Str} {g : List D → Res D} {e o : Expr} {es : List Expr} {m mo : Ev → Res D} {ms : Ev → Res (List D)} {p pos : Pos}
theorem mf_X (h : PE X e (tN X.K 1 B W m)) : PE X e (tF X.K B W (asL m)) := PE.imp h fun σ H Q ⟨G, ρ, e, q⟩ => ⟨G, ρ, e, by
  unfold asL at q
  cases hm : m ρ with
  | ok d =>
    rw [hm] at q
    cases d with
    | lst xs =>
      refine ⟨⟨xs, rfl⟩, fun G' v H' g rv => ?_⟩
      obtain ⟨ys, e1, l, vs, e2, hl, r, gl, bl⟩ := rv
      cases e1
      cases e2
      exact q G' l vs H' g hl r gl bl
    | _ => exact q.elim
  | exc x => rw [hm] at q; exact q
  | stuck => rw [hm] at q; exact q⟩
theorem mf2_X (h : PE X e (tN X.K 2 B W m)) : PE X e (tF2 X.K B W (asL2 m)) := PE.imp h fun σ H Q ⟨G, ρ, e, q⟩ => ⟨G, ρ, e, by
  unfold asL2 at q
  cases hm : m ρ with
  | ok d =>
    rw [hm] at q
    cases d with
    | lst xs =>
      have q : F2G X.K _ G H Q (ofOpt (lstsD xs)) := q
      cases hx : lstsD xs with
      | none => rw [hx] at q; exact q.elim
      | some xss =>
        rw [hx] at q
        have ex := lstsD_some hx
        refine ⟨⟨xs, rfl⟩, fun G' v H' g rv => ?_⟩
        obtain ⟨yss, e1, l, ls, e2, hl, r, gl, bl, nd⟩ := rv
        injection e1 with e1
        rw [e1, lstsD_map] at hx
        cases hx
        cases e2
        exact q G' l ls H' g hl r gl bl nd
    | _ => exact q.elim
  | exc x => rw [hm] at q; exact q
  | stuck => rw [hm] at q; exact q⟩
theorem mx_call (F : GloX (tkOf X) k x j fr g) (tk : Takes X W) (hr : Room k X.A) (hg : Gl X x) (ha : PA X (e :: es) (tMA X.K B W ms)) (hj : ∀ ρ ds, ms ρ = .ok ds → ds.length = j) (hdb : (x == ("__debug__" : Str)) = false := by decide)
    (he : starEach (e :: es) X.env = (false, eval e X.env) :: starEach es X.env := by rfl) (hpl : (backTo pos (starEach es X.env)).any (·.1) = false := by rfl) : PE X (.Call (.Name x p) (e :: es) [] pos) (tN X.K fr B W (mCall g ms)) := by
  obtain ⟨f, hm, hk, F⟩ := F.ex
  refine ⟨fun pins s σ H Q I ⟨G, ρ, e0, h⟩ => ?_⟩
  refine wpAny_Call_Name_kw (ld_glob I hg hm ?_ hdb)
  refine PySem.W.callWith_K (h₀ := X.base) I.ok.mod.kin hk (thn (ha.run pos pins s σ H (fun vs H1 => ∃ G1 ds, Ext G1 H1 ∧ Reps X.K G1 vs ds ∧ ds.length = j ∧ NG X.K fr (fun c d H' => W c d σ H') G1 H1 Q (g ds)) I ?_) fun us s1 ⟨vs, H1, I1, r, G1, ds, e1, rr, hl, q⟩ => ⟨I1.kIn, F.call tk hr I1 r (reps_len rr hl) e1 rr q⟩) he hpl
  refine ⟨G, ρ, e0, RG.bindN h fun ds G1 vs H1 em g rr h1 => ⟨G1, ds, g.sub, rr, hj ρ ds em, h1⟩⟩
theorem mx_call0 (F : GloX (tkOf X) k x 0 fr g) (tk : Takes X W) (hr : Room k X.A) (hg : Gl X x) (hdb : (x == ("__debug__" : Str)) = false := by decide) : PE X (.Call (.Name x p) [] [] pos) (tN X.K fr B W (mCall g mNil)) := by
  obtain ⟨f, hm, hk, F⟩ := F.ex
  refine ⟨fun pins s σ H Q I ⟨G, ρ, e0, h⟩ => ?_⟩
  refine wpAny_Call_Name_kw (ld_glob I hg hm ?_ hdb)
  exact PySem.W.callWith_K0 I.kIn hk (F.call (us := []) tk hr I .nil rfl e0.sub .nil h)
theorem noX_ok {α : Type} {r : Res α} {a : α} (h : noX r = .ok a) : r = .ok a := by
  cases r with
  | ok b => exact h
  | exc e => cases h
  | stuck => cases h
/-- a property that makes a new list -/
def propN (ps : Cl → Option (List D → Res D)) : D → Res D
  | .obj c fs => ofOpt (ps c) >>= fun g => noX (g [.obj c fs])
  | _ => .stuck
theorem mx_prop {ps : Cl → Option (List D → Res D)} (hp : ∀ c g, ps c = some g → PropX (tkOf X) k c f fr g) (hr : Room (k + 1) X.A) (he : PE X e (tM X.K B W m)) (hb : attributeBase e f X.env (eval e X.env) = eval e X.env := by rfl) :
    PE X (.Attribute e f pos) (tN X.K fr B W (mUn (propN ps) m)) := by
  refine ⟨fun pins s σ H Q I ⟨G, ρ, e0, h⟩ => ?_⟩
  refine attr_of hb (thn (he.run pins s σ H (fun x H1 => ∃ G1 d, Ext G1 H1 ∧ Rep X.K G1 x d ∧ NG X.K fr (fun c d H' => W c d σ H') G1 H1 Q (propN ps d)) I ⟨G, ρ, e0, RG.bindN h fun d G1 v H1 _ g r h1 => ⟨G1, d, g.sub, r, h1⟩⟩) fun u s1 ⟨x, H1, I1, rx, G1, d, e1, r, q⟩ => ?_)
  cases r with
  | @obj a dx fv c fs hG at_ r =>
    obtain rfl : u = Value.ref a := rx
    have q' : NG X.K fr (fun c d H' => W c d σ H') G1 H1 Q (ofOpt (ps c) >>= fun g => noX (g [.obj c fs])) := q
    cases hps : ps c with
    | none =>
      rw [hps] at q'
      exact q'.elim
    | some g =>
      rw [hps] at q'
      obtain ⟨p, fa, hp, F⟩ := (hp c g hps).ex
      obtain ⟨mA, O, _, _, _, _⟩ := ins_get I1.hok (e1 _ _ hG)
      obtain ⟨od, J, _⟩ := O.look
      obtain ⟨rest, hrec⟩ := hp.rec_
      have I2 := I1.tok (s1.toks + 1)
      have c' := at_.1.cls
      have hc : (PySem.W.clsIn X.K (ca X.K c)).isSome = true := by
        obtain ⟨cd, hc, _⟩ := PySem.W.any_some c'.hd
        rw [hc]
        rfl
      have q2 : NG X.K fr (fun _ _ _ => False) G1 H1 Q (g [.obj c fs]) := by
        have q4 : NG X.K fr (fun c d H' => W c d σ H') G1 H1 Q (noX (g [.obj c fs])) := q'
        cases hg : g [.obj c fs] with
        | ok d => rw [hg] at q4; exact q4
        | exc x => rw [hg] at q4; exact q4.elim
        | stuck => rw [hg] at q4; exact q4
      refine PySem.W.get_bind I1.kIn J (PySem.W.plainGet_of (c'.get f)).1 (PySem.W.findObj_data hc hp.at_ hp.get hp.tak) (PySem.W.plainGet_of (c'.get f)).2 (wpAny_call (PySem.W.prop_get (s := { s1 with toks := s1.toks + 1 }) I1.kIn hrec ?_))
      refine codeAny_mono (F X.A.in1 X.stack { s1 with toks := s1.toks + 1 } G1 H1 [.ref a] [.ref a] [.obj c fs] Q (fun _ _ _ => False) hr.in1 I2.env0.in1 (.cons rfl .nil) rfl e1 (.cons (.obj hG at_ r) .nil) q2) fun rr s' hq => ?_
      cases rr with
      | error er =>
        obtain ⟨_, _, _, _, _, _, _, _, _, _, _, _, z⟩ := hq
        exact z.elim
      | ok fl =>
        cases fl with
        | ret u =>
          obtain ⟨v, H', I3, rv, q3⟩ := I2.after hq
          exact wpAny_of_eq (PySem.W.handedOut_of (handed_of rv)) ⟨v, H', I3, rv, q3⟩
        | next => exact False.elim hq
        | brk => exact False.elim hq
        | cont => exact False.elim hq
  | _ => exact q.elim
theorem ms_retF {m : Ev → Res (List D)} (hf : B.fr = 1) (he : PE X e (tF X.K B W m)) : PS X (.Return (some e) pos) (tS X.K B W (oRet (lstOf m))) :=
  PS.imp (ps_ret he) fun Dn σ H ⟨G, ρ, e, q⟩ => ⟨G, ρ, e, by
    unfold oRet lstOf at q
    cases hm : m ρ with
    | ok xs =>
      rw [hm] at q
      exact fun G' p vs H' g hp r gp hn => q G' σ H' _ (.ofOwn hf (e.grow.trans g) ⟨p, vs, rfl, hp, r, gp, e.grow.h.free hn⟩)
    | exc x =>
      rw [hm] at q
      exact fun G1 c d H1 g k => q G1 σ H1 c d (e.growN g) k
    | stuck => rw [hm] at q; exact q⟩
theorem ms_retF2 {m : Ev → Res (List (List D))} (hf : B.fr = 2) (he : PE X e (tF2 X.K B W m)) : PS X (.Return (some e) pos) (tS X.K B W (oRet (lst2Of m))) :=
  PS.imp (ps_ret he) fun Dn σ H ⟨G, ρ, e, q⟩ => ⟨G, ρ, e, by
    unfold oRet lst2Of at q
    cases hm : m ρ with
    | ok xs =>
      rw [hm] at q
      exact fun G' p ls H' g hp r gp hn nd => q G' σ H' _ (.ofOwn2 hf (e.grow.trans g) ⟨p, ls, rfl, hp, r.baseN fun a ha => e.grow.h.free ha, gp, e.grow.h.free hn, nd⟩)
    | exc x =>
      rw [hm] at q
      exact fun G1 c d H1 g k => q G1 σ H1 c d (e.growN g) k
    | stuck => rw [hm] at q; exact q⟩
/-- return x, a list of one's own -/
def oRetO (i : Nat) : Ev → Out := fun ρ => match ρ[i]? with
  | some (.own xs) => .rt (.lst xs) (freeze i ρ)
  | some (.own2 xss) => .rt (.lst (xss.map .lst)) (freeze i ρ)
  | _ => .stuck
theorem ms_retO0 (hf : B.fr = 0) (i : Nat) {p1 : Pos} (hN : X.N[i]? = some x := by rfl) (hv : Vis X.env.scope x := by first | exact Or.inl rfl | exact Or.inr (Or.inl rfl) | exact Or.inr (Or.inr rfl)) (hd : (x == ("__debug__" : Str)) = false := by decide) (hcd : (x == ("__classdict__" : Str)) = false := by decide) : PS X (.Return (some (.Name x p1)) pos) (tS X.K B W (oRetO i)) :=
  PS.imp (ps_ret (pe_var (i := i) hN hv hd hcd)) fun Dn σ H ⟨G, ρ, e, q⟩ => by
    unfold oRetO at q
    obtain ⟨G', e', x'⟩ := e.freeze i
    cases hs : ρ[i]? with
    | none => rw [hs] at q; exact q.elim
    | some s =>
      rw [hs] at q
      have hi := (List.getElem?_eq_some_iff.mp hs).1
      cases s with
      | own xs =>
        have fe : (freeze i ρ)[i]? = some (.dat (.lst xs)) := by unfold freeze; rw [hs]; exact List.getElem?_set_self hi
        obtain ⟨v, hv, r⟩ := e'.slot i _ fe
        exact ⟨v, hv, q G' σ H v (.ofDat hf e' r)⟩
      | own2 xss =>
        have fe : (freeze i ρ)[i]? = some (.dat (.lst (xss.map .lst))) := by unfold freeze; rw [hs]; exact List.getElem?_set_self hi
        obtain ⟨v, hv, r⟩ := e'.slot i _ fe
        exact ⟨v, hv, q G' σ H v (.ofDat hf e' r)⟩
      | _ => exact q.elim
def oRetO1 (i : Nat) : Ev → Out := fun ρ => match ρ[i]? with
  | some (.own xs) => .rt (.lst xs) (freeze i ρ)
  | _ => .stuck
theorem ms_retO10 (hf : B.fr = 0) (i : Nat) {p1 : Pos} (hN : X.N[i]? = some x := by rfl) (hv : Vis X.env.scope x := by first | exact Or.inl rfl | exact Or.inr (Or.inl rfl) | exact Or.inr (Or.inr rfl)) (hd : (x == ("__debug__" : Str)) = false := by decide) (hcd : (x == ("__classdict__" : Str)) = false := by decide) : PS X (.Return (some (.Name x p1)) pos) (tS X.K B W (oRetO1 i)) :=
  PS.imp (ps_ret (pe_var (i := i) hN hv hd hcd)) fun Dn σ H ⟨G, ρ, e, q⟩ => by
    unfold oRetO1 at q
    obtain ⟨G', e', x'⟩ := e.freeze i
    cases hs : ρ[i]? with
    | none => rw [hs] at q; exact q.elim
    | some s =>
      rw [hs] at q
      have hi := (List.getElem?_eq_some_iff.mp hs).1
      cases s with
      | own xs =>
        have fe : (freeze i ρ)[i]? = some (.dat (.lst xs)) := by unfold freeze; rw [hs]; exact List.getElem?_set_self hi
        obtain ⟨v, hv, r⟩ := e'.slot i _ fe
        exact ⟨v, hv, q G' σ H v (.ofDat hf e' r)⟩
      | _ => exact q.elim
theorem ms_retO1 (hf : B.fr = 1) (i : Nat) {p1 : Pos} (hN : X.N[i]? = some x := by rfl) (hv : Vis X.env.scope x := by first | exact Or.inl rfl | exact Or.inr (Or.inl rfl) | exact Or.inr (Or.inr rfl)) (hd : (x == ("__debug__" : Str)) = false := by decide) (hcd : (x == ("__classdict__" : Str)) = false := by decide) : PS X (.Return (some (.Name x p1)) pos) (tS X.K B W (oRetO1 i)) :=
  PS.imp (ps_ret (pe_var (i := i) hN hv hd hcd)) fun Dn σ H ⟨G, ρ, e, q⟩ => by
    unfold oRetO1 at q
    cases hs : ρ[i]? with
    | none => rw [hs] at q; exact q.elim
    | some s =>
      rw [hs] at q
      cases s with
      | own xs =>
        obtain ⟨l, vs, hv, hl, r, gl, bl⟩ := e.slot i _ hs
        exact ⟨_, hv, q G σ H _ (.ofOwn hf e.grow ⟨l, vs, rfl, hl, r, gl, bl⟩)⟩
      | _ => exact q.elim
def oRetO2 (i : Nat) : Ev → Out := fun ρ => match ρ[i]? with
  | some (.own2 xss) => .rt (.lst (xss.map .lst)) (freeze i ρ)
  | _ => .stuck
theorem ms_retO20 (hf : B.fr = 0) (i : Nat) {p1 : Pos} (hN : X.N[i]? = some x := by rfl) (hv : Vis X.env.scope x := by first | exact Or.inl rfl | exact Or.inr (Or.inl rfl) | exact Or.inr (Or.inr rfl)) (hd : (x == ("__debug__" : Str)) = false := by decide) (hcd : (x == ("__classdict__" : Str)) = false := by decide) : PS X (.Return (some (.Name x p1)) pos) (tS X.K B W (oRetO2 i)) :=
  PS.imp (ps_ret (pe_var (i := i) hN hv hd hcd)) fun Dn σ H ⟨G, ρ, e, q⟩ => by
    unfold oRetO2 at q
    obtain ⟨G', e', x'⟩ := e.freeze i
    cases hs : ρ[i]? with
    | none => rw [hs] at q; exact q.elim
    | some s =>
      rw [hs] at q
      have hi := (List.getElem?_eq_some_iff.mp hs).1
      cases s with
      | own2 xss =>
        have fe : (freeze i ρ)[i]? = some (.dat (.lst (xss.map .lst))) := by unfold freeze; rw [hs]; exact List.getElem?_set_self hi
        obtain ⟨v, hv, r⟩ := e'.slot i _ fe
        exact ⟨v, hv, q G' σ H v (.ofDat hf e' r)⟩
      | _ => exact q.elim
theorem ms_retO2 (hf : B.fr = 2) (i : Nat) {p1 : Pos} (hN : X.N[i]? = some x := by rfl) (hv : Vis X.env.scope x := by first | exact Or.inl rfl | exact Or.inr (Or.inl rfl) | exact Or.inr (Or.inr rfl)) (hd : (x == ("__debug__" : Str)) = false := by decide) (hcd : (x == ("__classdict__" : Str)) = false := by decide) : PS X (.Return (some (.Name x p1)) pos) (tS X.K B W (oRetO2 i)) :=
  PS.imp (ps_ret (pe_var (i := i) hN hv hd hcd)) fun Dn σ H ⟨G, ρ, e, q⟩ => by
    unfold oRetO2 at q
    cases hs : ρ[i]? with
    | none => rw [hs] at q; exact q.elim
    | some s =>
      rw [hs] at q
      cases s with
      | own2 xss =>
        obtain ⟨l, ls, hv, hl, r, gl, bl, nd⟩ := e.slot i _ hs
        exact ⟨_, hv, q G σ H _ (.ofOwn2 hf e.grow ⟨l, ls, rfl, hl, r, gl, bl, nd⟩)⟩
      | _ => exact q.elim
/-- as data -/
theorem me_fresh2 {m : Ev → Res (List (List D))} (h : PE X e (tF2 X.K B W m)) : PE X e (tM X.K B W (lst2Of m)) := PE.imp h fun σ H Q ⟨G, ρ, e, q⟩ => ⟨G, ρ, e, by
  unfold lst2Of at q
  cases hm : m ρ with
  | ok xss =>
    rw [hm] at q
    intro G' p ls H' g hp r gp hn nd
    have g0 : ∀ a ∈ p :: ls, G' a = none := fun a ha => by
      rcases List.mem_cons.mp ha with h | h
      · rw [h]; exact gp
      · obtain ⟨_, _, _, _, g1, _⟩ := r.at h
        exact g1
    have h0 : ∀ a ∈ p :: ls, H a = none := fun a ha => by
      rcases List.mem_cons.mp ha with h | h
      · rw [h]; exact hn
      · obtain ⟨_, _, _, _, _, b1⟩ := r.at h
        exact b1
    have gg := layRows_ext (H := H') (ls := p :: ls) g0
    refine q (layRows H' (p :: ls) G') _ H' ⟨g.g.trans gg, g.h, fun a o z => ?_, fun a o z => ?_⟩ (.lst (.inl (layRows_get nd List.mem_cons_self hp)) (layRows_reps gg r fun a ha o ho => layRows_get nd (List.mem_cons_of_mem _ ha) ho))
    · rcases layRows_new z with h | ⟨_, h⟩
      · exact g.sub _ _ h
      · exact h
    · rcases layRows_new z with h | ⟨h, _⟩
      · exact g.new _ _ h
      · exact .inr (h0 a h)
  | exc x => rw [hm] at q; exact q
  | stuck => rw [hm] at q; exact q⟩
end
end PL
namespace PL
open PySem PySem.Spec L2
open PyProof.Rows (b2i)
/-- what a target stores is data -/
def GDat (js : List Nat) (f : D → Ev → Option Ev) : Prop := ∀ d ρ ρ', f d ρ = some ρ' → ∀ j s, ρ'[j]? = some s → (∃ d, s = .dat d) ∨ (j ∉ js ∧ ρ[j]? = some s)
def GsDat (js : List Nat) (f : List D → Ev → Option Ev) : Prop := ∀ d ρ ρ', f d ρ = some ρ' → ∀ j s, ρ'[j]? = some s → (∃ d, s = .dat d) ∨ (j ∉ js ∧ ρ[j]? = some s)
theorem gd_name (i : Nat) : GDat [i] (gN i) := fun d ρ ρ' h j s q => by
  cases h
  by_cases e : i = j
  · subst e
    have hl : i < ρ.length := by
      have := (List.getElem?_eq_some_iff.mp q).1
      rwa [List.length_set] at this
    rw [List.getElem?_set_self hl] at q
    cases q
    exact .inl ⟨d, rfl⟩
  · rw [List.getElem?_set_ne e] at q
    exact .inr ⟨by simp [Ne.symm e], q⟩
theorem gd_nil : GsDat [] gNi := fun d ρ ρ' h j s q => by
  cases d with
  | nil => cases h; exact .inr ⟨by simp, q⟩
  | cons _ _ => cases h
theorem gd_cons {js ks : List Nat} {f : D → Ev → Option Ev} {fs : List D → Ev → Option Ev} (h1 : GDat js f) (h2 : GsDat ks fs) : GsDat (js ++ ks) (gCo f fs) := fun d ρ ρ' h j s q => by
  cases d with
  | nil => cases h
  | cons x xs =>
    have h : ((f x ρ).bind fun ρ => fs xs ρ) = some ρ' := h
    obtain ⟨ρ1, e1, e2⟩ := Option.bind_eq_some_iff.mp h
    rcases h2 xs ρ1 ρ' e2 j s q with z | ⟨z, q1⟩
    · exact .inl z
    · rcases h1 x ρ ρ1 e1 j s q1 with w | ⟨w, q2⟩
      · exact .inl w
      · exact .inr ⟨by rw [List.mem_append, not_or]; exact ⟨w, z⟩, q2⟩
theorem gd_tup {js : List Nat} {fs : List D → Ev → Option Ev} (h : GsDat js fs) : GDat js (gTu fs) := fun d ρ ρ' e j s q => by
  cases d with
  | tup xs => exact h xs ρ ρ' e j s q
  | _ => cases e
/-- the heap changes where no slot looks -/
theorem EnvOk.poke {K : PySem.W.Frag} {B : Base} {G H : Hp} {σ : St} {ρ : Ev} {a : Addr} {o o' : HO} (e : EnvOk K B G σ ρ H) (hn : ∀ (j : Nat) (s : Sl), ρ[j]? = some s → ¬ foot H σ[j]? s a) (ga : G a = none) (ba : B.H a = none) (ha : H a = some o') (nx : ∀ fv, o' ≠ .xd fv) :
    EnvOk K B G σ ρ (upd H a o) ∧ ∀ (j : Nat) (s : Sl), ρ[j]? = some s → ¬ foot (upd H a o) σ[j]? s a := by
  have fo : ∀ {j : Nat} {u : Sl} {b : Addr}, ρ[j]? = some u → foot (upd H a o) σ[j]? u b → foot H σ[j]? u b := fun {j u b} q f => by
    cases u with
    | own2 yss =>
      obtain ⟨l', ls, e1, h1, _⟩ := e.slot j _ q
      have nl : l' ≠ a := fun z => hn j _ q (by rw [e1]; exact .inl z.symm)
      rw [e1] at f ⊢
      rcases (show b = l' ∨ ∃ ls : List Addr, upd H a o l' = some (.lst (ls.map V.ref)) ∧ b ∈ ls from f) with h | ⟨ms, hm, m⟩
      · exact .inl h
      · rw [upd_ne nl] at hm
        exact .inr ⟨ms, hm, m⟩
    | own ys =>
      obtain ⟨l', vs, e1, _⟩ := e.slot j _ q
      rw [e1] at f ⊢
      exact f
    | ins c fs =>
      obtain ⟨l', dx, fv, e1, _⟩ := e.slot j _ q
      rw [e1] at f ⊢
      exact f
    | no => exact (foot_no f).elim
    | dat d => exact (foot_dat f).elim
    | exn d => exact (foot_exn f).elim
  refine ⟨⟨⟨e.grow.g, fun b u q => ?_, fun b u q => ?_, e.grow.new⟩, e.len, fun j u q => ?_, fun j k u w q1 q2 n b f1 f2 => e.sep j k u w q1 q2 n b (fo q1 f1) (fo q2 f2)⟩, fun j s q f => hn j s q (fo q f)⟩
  · rw [upd_ne (ne_of_none q ba)]; exact e.grow.h _ _ q
  · rw [upd_ne (ne_of_none q ga)]; exact e.sub _ _ q
  · have z := e.slot j u q
    have nl : ∀ l', foot H σ[j]? u l' → l' ≠ a := fun l' f z => by
      subst z
      exact hn j u q f
    cases u with
    | no => trivial
    | dat d' => exact z
    | own ys =>
      obtain ⟨l', vs, e1, h1, r1, g1, b1⟩ := z
      exact ⟨l', vs, e1, by rw [upd_ne (nl l' (by rw [e1]; exact rfl))]; exact h1, r1, g1, b1⟩
    | own2 yss =>
      obtain ⟨l', ls, e1, h1, r1, g1, b1, nd⟩ := z
      refine ⟨l', ls, e1, by rw [upd_ne (nl l' (by rw [e1]; exact .inl rfl))]; exact h1, r1.other fun m => ?_, g1, b1, nd⟩
      exact nl a (by rw [e1]; exact .inr ⟨ls, h1, m⟩) rfl
    | ins c fs =>
      obtain ⟨l', dx, fv, e1, h1, af, r1, g1, b1⟩ := z
      exact ⟨l', dx, fv, e1, by rw [upd_ne (nl l' (by rw [e1]; exact rfl))]; exact h1, af, r1, g1, b1⟩
    | exn er =>
      obtain ⟨b, cls, dx, e1, e2, e3⟩ := z
      refine ⟨b, cls, dx, e1, e2, e3.mono (fun _ _ q => q) fun d fv q => ?_⟩
      have nd : d ≠ a := fun ed => by
        subst ed
        rw [ha] at q
        cases q
        exact nx fv rfl
      rw [upd_ne nd]; exact q
theorem wipe_none {ρ : Ev} : ∀ {vs : List Nat} {j : Nat} {s : Sl}, (wipeE ρ vs)[j]? = some s → s = .no ∨ (ρ[j]? = some s ∧ j ∉ vs)
  | [], j, s, h => .inr ⟨h, by simp⟩
  | v :: vs, j, s, h => by
    have h : ((wipeE ρ vs).set v .no)[j]? = some s := h
    by_cases e : v = j
    · subst e
      have hl : v < (wipeE ρ vs).length := by
        have := (List.getElem?_eq_some_iff.mp h).1
        rwa [List.length_set] at this
      rw [List.getElem?_set_self hl] at h
      cases h
      exact .inl rfl
    · rw [List.getElem?_set_ne e] at h
      rcases wipe_none h with z | ⟨z1, z2⟩
      · exact .inl z
      · exact .inr ⟨z1, by rw [List.mem_cons, not_or]; exact ⟨Ne.symm e, z2⟩⟩
def lcGoC (f : D → Ev → Option Ev) (t : Ev → Res Bool) (vs1 : List Nat) (mi1 : Ev → Res (List D)) (f1 : D → Ev → Option Ev) (t1 : Ev → Res Bool) (m : Ev → Res D) (ρ : Ev) : List D → Res (List D)
  | [] => .ok []
  | d :: ds => match f d ρ with
    | none => .stuck
    | some ρ1 => t ρ1 >>= fun k => if k = true then mi1 ρ1 >>= fun es => lcGo f1 t1 m (wipeE ρ1 vs1) es >>= fun ys => lcGoC f t vs1 mi1 f1 t1 m ρ ds >>= fun zs => .ok (ys ++ zs) else lcGoC f t vs1 mi1 f1 t1 m ρ ds
def fLcc (vs : List Nat) (mi : Ev → Res (List D)) (f : D → Ev → Option Ev) (t : Ev → Res Bool) (vs1 : List Nat) (mi1 : Ev → Res (List D)) (f1 : D → Ev → Option Ev) (t1 : Ev → Res Bool) (m : Ev → Res D) : Ev → Res (List D) := fun ρ => mi ρ >>= fun ds => noX (lcGoC f t vs1 mi1 f1 t1 m (wipeE ρ vs) ds) >>= fun ys => chk (ys.length ≤ sizeLine) (.ok ys)
section
variable {X : Cx} {B : Base} {W : WX} {pos : Pos}
theorem lc_mainC {K : PySem.W.Frag} {G H : Hp} {σ : St} {ρ : Ev} {Q : VK} {vs js vs1 js1 : List Nat} {mi mi1 : Ev → Res (List D)} {f f1 : D → Ev → Option Ev} {t t1 : Ev → Res Bool} {m : Ev → Res D} (hj : ∀ j ∈ js, j ∈ vs) (hj1 : ∀ j ∈ js1, j ∈ vs1) (hfd : GDat js f) (e : EnvOk K B G σ ρ H) (q : FG K (fun c d H' => W c d σ H') G H Q (fLcc vs mi f t vs1 mi1 f1 t1 m ρ)) :
    tLc2 (tG (ItOk K) K B W mi) (gM K B js f) (tMT K B noW t) (tG (ItOk K) K B noW mi1) (gM K B js1 f1) (tMT K B noW t1) (tM K B noW m) vs vs1 σ H Q := by
  refine ⟨G, ρ, e, RG.bindF q fun ds G1 J H1 g r q1 => fun Dd hD => ?_⟩
  have e1 := (e.growN g).wipe vs
  obtain ⟨ys, hys, hz, q2⟩ : ∃ ys, lcGoC f t vs1 mi1 f1 t1 m (wipeE ρ vs) ds = .ok ys ∧ ys.length ≤ sizeLine ∧ FG K (fun c d H' => W c d σ H') G H Q (.ok ys) := by
    have q3 : FG K (fun c d H' => W c d σ H') G H Q (noX (lcGoC f t vs1 mi1 f1 t1 m (wipeE ρ vs) ds) >>= fun ys => chk (ys.length ≤ sizeLine) (.ok ys)) := q1
    cases hr : lcGoC f t vs1 mi1 f1 t1 m (wipeE ρ vs) ds with
    | ok ys =>
      rw [hr] at q3
      obtain ⟨z, q3⟩ := FG.chk (show FG K _ G H Q (chk (ys.length ≤ sizeLine) (.ok ys)) from q3)
      exact ⟨ys, rfl, z, q3⟩
    | exc x => rw [hr] at q3; exact q3.elim
    | stuck => rw [hr] at q3; exact q3.elim
  refine ⟨fun i k H' => k = ds.length - i ∧ i ≤ ds.length ∧ ∃ (G' : Hp) (acc : List D) (accv : List V) (rest : List D), Grow G1 H1 G' H' ∧ H' Dd = some (.lst accv) ∧ Reps K G' accv acc ∧ G' Dd = none ∧ lcGoC f t vs1 mi1 f1 t1 m (wipeE ρ vs) (ds.drop i) = .ok rest ∧ acc ++ rest = ys,
    ⟨ds.length, rfl, Nat.zero_le _, G1, [], [], ys, .side g.sub hD _, upd_same, .nil, g.sub.free hD, hys, rfl⟩, ?_⟩
  rintro i k H2 ⟨rfl, hl, G2, acc, accv, rest, g2, hD2, r2, gD, hgo, hap⟩
  obtain ⟨k1, k2⟩ := r i G2 H2 g2.g g2.sub
  by_cases hlt : i < ds.length
  · obtain ⟨go, yl⟩ := k2 ds[i] (List.getElem?_eq_getElem hlt)
    rw [List.drop_eq_getElem_cons hlt] at hgo
    refine .inr ⟨go, fun H' => ∃ m', m' < ds.length - i ∧ m' = ds.length - (i + 1) ∧ i + 1 ≤ ds.length ∧ ∃ (G' : Hp) (acc : List D) (accv : List V) (rest : List D), Grow G1 H1 G' H' ∧ H' Dd = some (.lst accv) ∧ Reps K G' accv acc ∧ G' Dd = none ∧ lcGoC f t vs1 mi1 f1 t1 m (wipeE ρ vs) (ds.drop (i + 1)) = .ok rest ∧ acc ++ rest = ys, fun H' z => z, fun x H3 y => ?_⟩
    obtain ⟨G3, g3, r3⟩ := yl x H3 y
    have hgo' : (match f ds[i] (wipeE ρ vs) with
      | none => Res.stuck
      | some ρ1 => t ρ1 >>= fun k => if k = true then mi1 ρ1 >>= fun es => lcGo f1 t1 m (wipeE ρ1 vs1) es >>= fun ys => lcGoC f t vs1 mi1 f1 t1 m (wipeE ρ vs) (ds.drop (i + 1)) >>= fun zs => .ok (ys ++ zs) else lcGoC f t vs1 mi1 f1 t1 m (wipeE ρ vs) (ds.drop (i + 1))) = .ok rest := hgo
    cases hf : f ds[i] (wipeE ρ vs) with
    | none => rw [hf] at hgo'; cases hgo'
    | some ρ1 =>
      rw [hf] at hgo'
      dsimp only at hgo'
      have g13 := g2.trans g3
      refine ⟨G3, ds[i], _, ρ1, e1.growN g13, r3, hf, fun σ2 e2 l2 o2 => ⟨?_, G3, ρ1, e2, ?_⟩⟩
      · refine (wipe_agree ?_ fun j hjv => ?_)
        · rw [l2, wipe_length]
        · rw [o2 j fun z => hjv (hj j z), wipe_get hjv]
      · cases ht : t ρ1 with
        | exc x => rw [ht] at hgo'; cases hgo'
        | stuck => rw [ht] at hgo'; cases hgo'
        | ok k =>
          rw [ht, ok_bind] at hgo'
          refine fun G4 v H4 g4 r4 => ?_
          have r4' : v = k := r4
          subst r4'
          cases v with
          | false =>
            simp only [Bool.false_eq_true, if_false] at hgo' ⊢
            have g14 := g13.trans g4
            obtain ⟨w1, w2⟩ := (g3.trans g4).keeps hD2 gD
            exact ⟨ds.length - (i + 1), by omega, rfl, hlt, G4, acc, accv, rest, g14, w1, r2.mono (g3.trans g4).g, w2, hgo', hap⟩
          | true =>
            simp only [if_true] at hgo' ⊢
            have e4 := e2.growN g4
            cases hm : mi1 ρ1 with
            | exc x => rw [hm] at hgo'; cases hgo'
            | stuck => rw [hm] at hgo'; cases hgo'
            | ok es =>
              rw [hm, ok_bind] at hgo'
              refine ⟨G4, ρ1, e4, ?_⟩
              rw [hm]
              refine fun G5 J1 H5 g5 r5 => ?_
              have e5 := (e4.growN g5).wipe vs1
              cases hl1 : lcGo f1 t1 m (wipeE ρ1 vs1) es with
              | exc x => rw [hl1] at hgo'; cases hgo'
              | stuck => rw [hl1] at hgo'; cases hgo'
              | ok in1 =>
                rw [hl1, ok_bind] at hgo'
                cases hl2 : lcGoC f t vs1 mi1 f1 t1 m (wipeE ρ vs) (ds.drop (i + 1)) with
                | exc x => rw [hl2] at hgo'; cases hgo'
                | stuck => rw [hl2] at hgo'; cases hgo'
                | ok rest' =>
                  rw [hl2, ok_bind] at hgo'
                  cases hgo'
                  have g25 := (g3.trans g4).trans g5
                  have g15 := g2.trans g25
                  obtain ⟨w1, w2⟩ := g25.keeps hD2 gD
                  have bD : B.H Dd = none := e.grow.h.free (g.h.free hD)
                  have nf5 : ∀ (j : Nat) (s : Sl), (wipeE ρ1 vs1)[j]? = some s → ¬ foot H5 (L2.wipe σ2 vs1)[j]? s Dd := fun j s q fq => by
                    rcases wipe_none q with rfl | ⟨q, nv⟩
                    · exact foot_no fq
                    · rw [wipe_get nv] at fq
                      have f2 := foot_grow (e2.slot j s q) (g4.trans g5).h fq
                      rcases hfd _ _ _ hf j s q with ⟨d, rfl⟩ | ⟨nj, q0⟩
                      · exact foot_dat f2
                      · rw [o2 j nj] at f2
                        exact e1.noMine hD j s q0 (foot_grow (e1.slot j s q0) g13.h f2)
                  refine ⟨fun j k H' => k = es.length - j ∧ j ≤ es.length ∧ ∃ (G' : Hp) (acc : List D) (accv : List V) (r1 : List D), Grow G1 H1 G' H' ∧ Ext G5 G' ∧ EnvOk K B G' (L2.wipe σ2 vs1) (wipeE ρ1 vs1) H' ∧ (∀ (j : Nat) (s : Sl), (wipeE ρ1 vs1)[j]? = some s → ¬ foot H' (L2.wipe σ2 vs1)[j]? s Dd) ∧ H' Dd = some (.lst accv) ∧ Reps K G' accv acc ∧ G' Dd = none ∧ lcGo f1 t1 m (wipeE ρ1 vs1) (es.drop j) = .ok r1 ∧ acc ++ (r1 ++ rest') = ys,
                    ⟨es.length, rfl, Nat.zero_le _, G5, acc, accv, in1, g15, .refl, e5, nf5, w1, r2.mono g25.g, w2, hl1, hap⟩, ?_⟩
                  rintro j k H6 ⟨rfl, hlj, G6, acc6, accv6, r6, g6, x6, e6, nf6, hD6, rr6, gD6, hgo6, hap6⟩
                  obtain ⟨p1, p2⟩ := r5 j G6 H6 x6 g6.sub
                  by_cases hltj : j < es.length
                  · obtain ⟨goj, ylj⟩ := p2 es[j] (List.getElem?_eq_getElem hltj)
                    rw [List.drop_eq_getElem_cons hltj] at hgo6
                    refine .inr ⟨goj, fun H' => ∃ k', k' < es.length - j ∧ k' = es.length - (j + 1) ∧ j + 1 ≤ es.length ∧ ∃ (G' : Hp) (acc : List D) (accv : List V) (r1 : List D), Grow G1 H1 G' H' ∧ Ext G5 G' ∧ EnvOk K B G' (L2.wipe σ2 vs1) (wipeE ρ1 vs1) H' ∧ (∀ (j : Nat) (s : Sl), (wipeE ρ1 vs1)[j]? = some s → ¬ foot H' (L2.wipe σ2 vs1)[j]? s Dd) ∧ H' Dd = some (.lst accv) ∧ Reps K G' accv acc ∧ G' Dd = none ∧ lcGo f1 t1 m (wipeE ρ1 vs1) (es.drop (j + 1)) = .ok r1 ∧ acc ++ (r1 ++ rest') = ys, fun H' z => z, fun x7 H7 y7 => ?_⟩
                    obtain ⟨G7, g7, r7⟩ := ylj x7 H7 y7
                    have hgo6' : (match f1 es[j] (wipeE ρ1 vs1) with
                      | none => Res.stuck
                      | some ρ2 => t1 ρ2 >>= fun k => if k = true then m ρ2 >>= fun y => lcGo f1 t1 m (wipeE ρ1 vs1) (es.drop (j + 1)) >>= fun ys => .ok (y :: ys) else lcGo f1 t1 m (wipeE ρ1 vs1) (es.drop (j + 1))) = .ok r6 := hgo6
                    cases hf1 : f1 es[j] (wipeE ρ1 vs1) with
                    | none => rw [hf1] at hgo6'; cases hgo6'
                    | some ρ2 =>
                      rw [hf1] at hgo6'
                      dsimp only at hgo6'
                      have e7 := e6.growN g7
                      refine ⟨G7, es[j], _, ρ2, e7, r7, hf1, fun σ3 e8 l3 o3 => ⟨?_, G7, ρ2, e8, ?_⟩⟩
                      · refine (wipe_agree ?_ fun jj hjv => ?_)
                        · rw [l3, wipe_length]
                        · rw [o3 jj fun z => hjv (hj1 jj z), wipe_get hjv]
                      · cases ht1 : t1 ρ2 with
                        | exc x => rw [ht1] at hgo6'; cases hgo6'
                        | stuck => rw [ht1] at hgo6'; cases hgo6'
                        | ok kk =>
                          rw [ht1, ok_bind] at hgo6'
                          refine fun G8 v8 H8 g8 r8 => ?_
                          have r8' : v8 = kk := r8
                          subst r8'
                          have g78 := g7.trans g8
                          cases v8 with
                          | false =>
                            simp only [Bool.false_eq_true, if_false] at hgo6' ⊢
                            obtain ⟨u1, u2⟩ := g78.keeps hD6 gD6
                            exact ⟨es.length - (j + 1), by omega, rfl, hltj, G8, acc6, accv6, r6, g6.trans g78, x6.trans g78.g, e6.growN g78, (fun j s q fq => nf6 j s q (foot_grow (e6.slot j s q) g78.h fq)), u1, rr6.mono g78.g, u2, hgo6', hap6⟩
                          | true =>
                            simp only [if_true] at hgo6' ⊢
                            cases hm2 : m ρ2 with
                            | exc x => rw [hm2] at hgo6'; cases hgo6'
                            | stuck => rw [hm2] at hgo6'; cases hgo6'
                            | ok y =>
                              rw [hm2, ok_bind] at hgo6'
                              cases hl3 : lcGo f1 t1 m (wipeE ρ1 vs1) (es.drop (j + 1)) with
                              | exc x => rw [hl3] at hgo6'; cases hgo6'
                              | stuck => rw [hl3] at hgo6'; cases hgo6'
                              | ok r6' =>
                                rw [hl3, ok_bind] at hgo6'
                                cases hgo6'
                                refine ⟨G8, ρ2, e8.growN g8, ?_⟩
                                rw [hm2]
                                refine fun G9 v9 H9 g9 r9 => ?_
                                have g69 := g78.trans g9
                                obtain ⟨u1, u2⟩ := g69.keeps hD6 gD6
                                have hlen : acc6.length < sizeLine := by
                                  have := congrArg List.length hap6
                                  rw [List.length_append, List.length_append, List.length_cons] at this
                                  omega
                                have g19 := g6.trans g69
                                have gu : Grow G1 H1 G9 (upd H9 Dd (.lst (accv6 ++ [v9]))) := ⟨g19.g, fun a o z => by rw [upd_ne (ne_of_none z hD)]; exact g19.h _ _ z, fun a o z => by rw [upd_ne (ne_of_none z u2)]; exact g19.sub _ _ z, g19.new⟩
                                obtain ⟨eD, nfD⟩ := (e6.growN g69).poke (o := .lst (accv6 ++ [v9])) (fun j s q fq => nf6 j s q (foot_grow (e6.slot j s q) g69.h fq)) u2 bD u1 (fun fv z => by cases z)
                                exact ⟨accv6, u1, by rw [rr6.length]; exact hlen, es.length - (j + 1), by omega, rfl, hltj, G9, acc6 ++ [y], accv6 ++ [v9], r6', gu, x6.trans g69.g, eD, nfD, upd_same, (rr6.mono g69.g).append (.cons r9 .nil), u2, rfl, by rw [List.append_assoc]; exact hap6⟩
                  · have ej : j = es.length := by omega
                    subst ej
                    rw [List.drop_length] at hgo6
                    cases hgo6
                    exact .inl ⟨p1 (Nat.le_refl _), ds.length - (i + 1), by omega, rfl, hlt, G6, acc6, accv6, rest', g6, hD6, rr6, gD6, rfl, hap6⟩
  · have ei : i = ds.length := by omega
    subst ei
    rw [List.drop_length] at hgo
    cases hgo
    rw [List.append_nil] at hap
    subst hap
    exact .inl ⟨k1 (Nat.le_refl _), q2 G2 Dd accv H2 (g.trans g2) hD2 r2 gD (g.h.free hD)⟩
theorem mf_lcc {elt tg iter tg1 iter1 : Expr} {ifs ifs1 : List Expr} {scope : Scope} {own : List (Str × Nat)} {vs1 js js1 : List Nat} {mi mi1 : Ev → Res (List D)} {f f1 : D → Ev → Option Ev} {t t1 : Ev → Res Bool} {m : Ev → Res D} (hc : X.calm = true) (ok : BlkOk X.N X.env.scope scope own) (hi : IP X B W tg iter mi) (hfd : GDat js f)
    (hg : ∀ (s : Shared) (H : Hp) (C : Addr) (cl : List (Str × Addr)) (fp : List Addr), GP (X.blk s H scope (compEnvC scope cl C X.env) fp) B tg js f) (ht : ∀ (s : Shared) (H : Hp) (C : Addr) (cl : List (Str × Addr)) (fp : List Addr), PTs (X.blk s H scope (compEnvC scope cl C X.env) fp) ifs (tMT X.K B noW t))
    (hi1 : ∀ (s : Shared) (H : Hp) (C : Addr) (cl : List (Str × Addr)) (fp : List Addr), IP (X.blk s H scope (compEnvC scope cl C X.env) fp) B noW tg1 iter1 mi1)
    (hg1 : ∀ (s : Shared) (H : Hp) (C : Addr) (cl : List (Str × Addr)) (fp : List Addr), GP (X.blk s H scope (compEnvC scope cl C X.env) fp) B tg1 js1 f1) (ht1 : ∀ (s : Shared) (H : Hp) (C : Addr) (cl : List (Str × Addr)) (fp : List Addr), PTs (X.blk s H scope (compEnvC scope cl C X.env) fp) ifs1 (tMT X.K B noW t1))
    (he : ∀ (s : Shared) (H : Hp) (C : Addr) (cl : List (Str × Addr)) (fp : List Addr), PE (X.blk s H scope (compEnvC scope cl C X.env) fp) elt (tM X.K B noW m)) (hj : ∀ j ∈ js, j ∈ own.map (·.2) := by decide) (hj1 : ∀ j ∈ js1, j ∈ vs1 := by decide) (hv : ∀ i ∈ vs1, i ∈ own.map (·.2) := by decide) (hN : X.N.Nodup := by decide)
    (hs : ∀ x, foldedSetIterable iter X.env x = pure x := by intro _; rfl) (hs1 : ∀ env x, foldedSetIterable iter1 env x = pure x := by intro _ _; rfl) :
    PE X (.ListComp elt [⟨tg, iter, ifs, 0⟩, ⟨tg1, iter1, ifs1, 0⟩] scope pos) (tF X.K B W (fLcc (own.map (·.2)) mi f t vs1 mi1 f1 t1 m)) :=
  PE.imp (pe_lc2 (vs1 := vs1) hc hN hi ok hv hg ht hi1 hg1 ht1 he hs hs1) fun σ H Q ⟨G, ρ, e, q⟩ => lc_mainC hj hj1 hfd e q
theorem ms_setLcc (i : Nat) {y : Str} {py spos : Pos} {elt tg iter tg1 iter1 : Expr} {ifs ifs1 : List Expr} {scope : Scope} {own : List (Str × Nat)} {vs1 js js1 : List Nat} {mi mi1 : Ev → Res (List D)} {f f1 : D → Ev → Option Ev} {t t1 : Ev → Res Bool} {m : Ev → Res D} (hc : X.calm = true) (ok : BlkOk X.N X.env.scope scope own) (hi : IP X B W tg iter mi) (hfd : GDat js f)
    (hg : ∀ (s : Shared) (H : Hp) (C : Addr) (cl : List (Str × Addr)) (fp : List Addr), GP (X.blk s H scope (compEnvC scope cl C X.env) fp) B tg js f) (ht : ∀ (s : Shared) (H : Hp) (C : Addr) (cl : List (Str × Addr)) (fp : List Addr), PTs (X.blk s H scope (compEnvC scope cl C X.env) fp) ifs (tMT X.K B noW t))
    (hi1 : ∀ (s : Shared) (H : Hp) (C : Addr) (cl : List (Str × Addr)) (fp : List Addr), IP (X.blk s H scope (compEnvC scope cl C X.env) fp) B noW tg1 iter1 mi1)
    (hg1 : ∀ (s : Shared) (H : Hp) (C : Addr) (cl : List (Str × Addr)) (fp : List Addr), GP (X.blk s H scope (compEnvC scope cl C X.env) fp) B tg1 js1 f1) (ht1 : ∀ (s : Shared) (H : Hp) (C : Addr) (cl : List (Str × Addr)) (fp : List Addr), PTs (X.blk s H scope (compEnvC scope cl C X.env) fp) ifs1 (tMT X.K B noW t1))
    (he : ∀ (s : Shared) (H : Hp) (C : Addr) (cl : List (Str × Addr)) (fp : List Addr), PE (X.blk s H scope (compEnvC scope cl C X.env) fp) elt (tM X.K B noW m)) (hsw : swapsWith (.ListComp elt [⟨tg, iter, ifs, 0⟩, ⟨tg1, iter1, ifs1, 0⟩] scope pos) (some (.Name y py)) spos.line X.env = pure true) (hj : ∀ j ∈ js, j ∈ own.map (·.2) := by decide) (hj1 : ∀ j ∈ js1, j ∈ vs1 := by decide) (hv : ∀ i ∈ vs1, i ∈ own.map (·.2) := by decide) (hN : X.N.Nodup := by decide)
    (hy : X.N[i]? = some y := by rfl) (hyl : X.env.scope.names.lookup y = some .local := by rfl) (hs : ∀ x, foldedSetIterable iter X.env x = pure x := by intro _; rfl) (hs1 : ∀ env x, foldedSetIterable iter1 env x = pure x := by intro _ _; rfl) :
    PS X (.Assign [.Name y py] (.ListComp elt [⟨tg, iter, ifs, 0⟩, ⟨tg1, iter1, ifs1, 0⟩] scope pos) spos) (tS X.K B W (oSetF i (fLcc (own.map (·.2)) mi f t vs1 mi1 f1 t1 m))) :=
  PS.imp (L2.ps_setLc2 (vs1 := vs1) hc hN hy hyl hsw hi ok hv hg ht hi1 hg1 ht1 he hs hs1) fun Dn σ H ⟨G, ρ, e, q⟩ => lc_mainC hj hj1 hfd e (setF e q)
theorem ms_setLccD (i : Nat) {y : Str} {py spos : Pos} {elt tg iter tg1 iter1 : Expr} {ifs ifs1 : List Expr} {scope : Scope} {own : List (Str × Nat)} {vs1 js js1 : List Nat} {mi mi1 : Ev → Res (List D)} {f f1 : D → Ev → Option Ev} {t t1 : Ev → Res Bool} {m : Ev → Res D} (hc : X.calm = true) (ok : BlkOk X.N X.env.scope scope own) (hi : IP X B W tg iter mi) (hfd : GDat js f)
    (hg : ∀ (s : Shared) (H : Hp) (C : Addr) (cl : List (Str × Addr)) (fp : List Addr), GP (X.blk s H scope (compEnvC scope cl C X.env) fp) B tg js f) (ht : ∀ (s : Shared) (H : Hp) (C : Addr) (cl : List (Str × Addr)) (fp : List Addr), PTs (X.blk s H scope (compEnvC scope cl C X.env) fp) ifs (tMT X.K B noW t))
    (hi1 : ∀ (s : Shared) (H : Hp) (C : Addr) (cl : List (Str × Addr)) (fp : List Addr), IP (X.blk s H scope (compEnvC scope cl C X.env) fp) B noW tg1 iter1 mi1)
    (hg1 : ∀ (s : Shared) (H : Hp) (C : Addr) (cl : List (Str × Addr)) (fp : List Addr), GP (X.blk s H scope (compEnvC scope cl C X.env) fp) B tg1 js1 f1) (ht1 : ∀ (s : Shared) (H : Hp) (C : Addr) (cl : List (Str × Addr)) (fp : List Addr), PTs (X.blk s H scope (compEnvC scope cl C X.env) fp) ifs1 (tMT X.K B noW t1))
    (he : ∀ (s : Shared) (H : Hp) (C : Addr) (cl : List (Str × Addr)) (fp : List Addr), PE (X.blk s H scope (compEnvC scope cl C X.env) fp) elt (tM X.K B noW m)) (hsw : swapsWith (.ListComp elt [⟨tg, iter, ifs, 0⟩, ⟨tg1, iter1, ifs1, 0⟩] scope pos) (some (.Name y py)) spos.line X.env = pure true) (hj : ∀ j ∈ js, j ∈ own.map (·.2) := by decide) (hj1 : ∀ j ∈ js1, j ∈ vs1 := by decide) (hv : ∀ i ∈ vs1, i ∈ own.map (·.2) := by decide) (hN : X.N.Nodup := by decide)
    (hy : X.N[i]? = some y := by rfl) (hyl : X.env.scope.names.lookup y = some .local := by rfl) (hs : ∀ x, foldedSetIterable iter X.env x = pure x := by intro _; rfl) (hs1 : ∀ env x, foldedSetIterable iter1 env x = pure x := by intro _ _; rfl) :
    PS X (.Assign [.Name y py] (.ListComp elt [⟨tg, iter, ifs, 0⟩, ⟨tg1, iter1, ifs1, 0⟩] scope pos) spos) (tS X.K B W (oSetL i (fLcc (own.map (·.2)) mi f t vs1 mi1 f1 t1 m))) :=
  PS.imp (L2.ps_setLc2 (vs1 := vs1) hc hN hy hyl hsw hi ok hv hg ht hi1 hg1 ht1 he hs hs1) fun Dn σ H ⟨G, ρ, e, q⟩ => lc_mainC hj hj1 hfd e (setL e q)
end
end PL
namespace PL
open PySem PySem.Spec L2
open PyProof.Rows (b2i)
structure UnaF (T : Tk) (k : Nat) (op : UnaryOp) (c : Cl) (g : List D → Res D) : Prop where
  ex : ∃ f : Addr, PySem.W.findIn T.K (.ref (ca T.K c)) (unNm op) = some (some (.ref f)) ∧ PySem.W.isFn T.K (.ref f) = true ∧ FnM T k f 1 g
theorem uaB_ok {T : Tk} {k : Nat} {c : Cl} {op : UnaryOp} {g : List D → Res D} (e : uaB c op T.K = true) (F : FnM T k (mA c (unNm op) T.K) 1 g) : UnaF T k op c g := by
  unfold uaB fndB at e
  simp only [Bool.and_eq_true, decide_eq_true_eq] at e
  exact ⟨_, e.1, e.2, F⟩
def ownU (base : D → Res D) (ps : Cl → Option (List D → Res D)) : D → Res D
  | .obj c fs => ofOpt (ps c) >>= fun g => g [.obj c fs]
  | a => base a
section
variable {X : Cx} {W : WX}
theorem un_ownU {k : Nat} {op : UnaryOp} {base : D → Res D} {ps : Cl → Option (List D → Res D)} (hn : op ≠ .Not) (hb : UnM X W (unaryOp op) base) (hp : ∀ c g, ps c = some g → UnaF (tkOf X) k op c g) (tk : Takes X W) (hr : Room k X.A) : UnM X W (unaryOp op) (ownU base ps) := by
  intro pins s σ G H x v a Q I rx e ra q
  cases a with
  | obj c fs =>
    obtain ⟨g, hg, q⟩ : ∃ g, ps c = some g ∧ RG (Rep X.K) X.K (fun c d H' => W c d σ H') G H Q (g [.obj c fs]) := by
      have q' : RG (Rep X.K) X.K (fun c d H' => W c d σ H') G H Q (ofOpt (ps c) >>= fun g => g [.obj c fs]) := q
      cases h : ps c with
      | none => rw [h] at q'; exact q'.elim
      | some g => rw [h] at q'; exact ⟨g, rfl, q'⟩
    obtain ⟨f, hs, hf, F⟩ := (hp c g hg).ex
    obtain ⟨a, dx, od, rfl, J, at_, _⟩ := ins_obj (K := X.K) (d := .obj c fs) I e ra
    obtain rfl : v = Value.ref a := rx
    have call := F.call tk hr I (us := [.ref a]) (vs := [.ref a]) (.cons rfl .nil) rfl e (.cons ra .nil) q
    unfold unaryOp
    refine wpAny_holding ?_
    cases op with
    | Not => exact absurd rfl hn
    | _ => exact wpAny_bind (PySem.W.special_fn I.kIn J hs (beq_iff_eq.mp hf) (wpAny_mono call (fun r s' h' => wpAny_pure h') fun _ _ x => x))
  | _ => exact hb pins s σ G H x v _ Q I rx e ra q
end
def noU : D → Res D := fun _ => .stuck
theorem un_noU {X : Cx} {W : WX} {op : UnaryOp} : UnM X W (unaryOp op) noU := fun _ _ _ _ _ _ _ _ _ _ _ _ _ q => q.elim
def noD : D → D → Res D := fun _ _ => .stuck
theorem op_noD {X : Cx} {W : WX} {op : Operator} : OpM X W (binaryOp op) noD := fun _ _ _ _ _ _ _ _ _ _ _ _ _ _ _ _ _ _ q => q.elim
section
variable {X : Cx} {B : Base} {W : WX} {e : Expr} {ma mk mk2 : Ev → Res D} {mf : Ev → Res (List D)} {pos : Pos}
theorem SG.ofF {K : PySem.W.Frag} {G H : Hp} {σ : St} {ρ : Ev} {Dn : Ends} {r : Res (List D)} {f : List D → Out} {P : VK} (e : EnvOk K B G σ ρ H) (h : SG K B W Dn (Out.of r ρ f)) (k : ∀ ys G1 p us H1, r = .ok ys → Grow G H G1 H1 → H1 p = some (.lst us) → Reps K G1 us ys → G1 p = none → H p = none → SG K B W Dn (f ys) → P (.ref p) H1) :
    FG K (fun c d H' => W c d σ H') G H P r := by
  cases r with
  | ok ys => exact fun G1 p us H1 g hp r gp hn => k ys G1 p us H1 rfl g hp r gp hn h
  | exc x => exact fun G1 c d H1 g r => h G1 σ H1 c d (e.growN g) r
  | stuck => exact h
/-- x.append(a new list) -/
def oApp2 (i : Nat) (m : Ev → Res (List D)) : Ev → Out := oOwn2 i fun xss ρ => Out.of (m ρ) ρ fun ys => oChk (xss.length < sizeLine) (.nx (ρ.set i (.own2 (xss ++ [ys]))))
theorem ms_app2 (i : Nat) {x : Str} {p1 p2 p3 : Pos} (he : PE X e (tF X.K B W mf)) (hN : X.N[i]? = some x := by rfl) (hv : Vis X.env.scope x := by first | exact Or.inl rfl | exact Or.inr (Or.inl rfl) | exact Or.inr (Or.inr rfl)) (hd : (x == ("__debug__" : Str)) = false := by decide) (hcd : (x == ("__classdict__" : Str)) = false := by decide)
    (hbase : attributeBase (.Name x p1) "append" X.env (eval (.Name x p1) X.env) = eval (.Name x p1) X.env := by rfl)
    (hfew : ((backTo p3 (starEach [e] X.env)).all (fun x => !x.1) && (backToKw p3 (keywordEach [] X.env)).all (fun x => x.1.isSome) && decide (([e] : List Expr).length + ([] : List Keyword).length + (if ([] : List Keyword).isEmpty then 0 else 1) < 30)) = true := by rfl)
    (hline : (p2.endLine == p3.line) = true := by rfl) (hs : starEach [e] X.env = (false, eval e X.env) :: starEach [] X.env := by rfl) (hplain : (backTo p3 (starEach [] X.env)).any (·.1) = false := by rfl)
    (hsw : swapsWith (.Call (.Attribute (.Name x p1) "append" p2) [e] [] p3) none pos.line X.env = pure false := by rfl) :
    PS X (.Expr (.Call (.Attribute (.Name x p1) "append" p2) [e] [] p3) pos) (tS X.K B W (oApp2 i mf)) :=
  PS.imp (ps_expr (pe_bm PySem.F.plainAttrs_list PySem.F.slot_list_append PySem.F.type_list_append mt_append (pe_var (i := i) hN hv hd hcd) (pa_cons he pa_nil hs) hbase hfew hline hs hplain) hsw) fun Dn σ H ⟨G, ρ, e, q⟩ => by
    obtain ⟨xss, hx, q⟩ := SG.own2 q
    obtain ⟨l, ls, hv, hl, rk, gl, bl, nd⟩ := own2_at e hx
    refine ⟨_, hv, .inl ⟨rfl, ls.map V.ref, .of hl⟩, G, ρ, e, SG.ofF e q fun ys G1 p us H1 _ g hp r gp hn q1 => ?_⟩
    obtain ⟨z, q1⟩ := SG.chk q1
    obtain ⟨k1, e1⟩ := own2_snoc e g hx hv hl rk gl bl nd hp r gp hn
    exact ⟨l, ls.map V.ref, .ref p, rfl, rfl, k1, by rw [List.length_map, rk.length]; exact z, q1 G1 σ _ e1⟩
/-- x.append(what is no new list): x is forgotten -/
def oApp2D (i : Nat) (m : Ev → Res D) : Ev → Out := oOwn2 i fun xss ρ => Out.of (m ρ) ρ fun _ => oChk (xss.length < sizeLine) (.nx (ρ.set i .no))
theorem ms_app2D (i : Nat) {x : Str} {p1 p2 p3 : Pos} (he : PE X e (tM X.K B W ma)) (hN : X.N[i]? = some x := by rfl) (hv : Vis X.env.scope x := by first | exact Or.inl rfl | exact Or.inr (Or.inl rfl) | exact Or.inr (Or.inr rfl)) (hd : (x == ("__debug__" : Str)) = false := by decide) (hcd : (x == ("__classdict__" : Str)) = false := by decide)
    (hbase : attributeBase (.Name x p1) "append" X.env (eval (.Name x p1) X.env) = eval (.Name x p1) X.env := by rfl)
    (hfew : ((backTo p3 (starEach [e] X.env)).all (fun x => !x.1) && (backToKw p3 (keywordEach [] X.env)).all (fun x => x.1.isSome) && decide (([e] : List Expr).length + ([] : List Keyword).length + (if ([] : List Keyword).isEmpty then 0 else 1) < 30)) = true := by rfl)
    (hline : (p2.endLine == p3.line) = true := by rfl) (hs : starEach [e] X.env = (false, eval e X.env) :: starEach [] X.env := by rfl) (hplain : (backTo p3 (starEach [] X.env)).any (·.1) = false := by rfl)
    (hsw : swapsWith (.Call (.Attribute (.Name x p1) "append" p2) [e] [] p3) none pos.line X.env = pure false := by rfl) :
    PS X (.Expr (.Call (.Attribute (.Name x p1) "append" p2) [e] [] p3) pos) (tS X.K B W (oApp2D i ma)) :=
  PS.imp (ps_expr (pe_bm PySem.F.plainAttrs_list PySem.F.slot_list_append PySem.F.type_list_append mt_append (pe_var (i := i) hN hv hd hcd) (pa_cons he pa_nil hs) hbase hfew hline hs hplain) hsw) fun Dn σ H ⟨G, ρ, e, q⟩ => by
    obtain ⟨xss, hx, q⟩ := SG.own2 q
    obtain ⟨l, ls, hv, hl, rk, gl, bl, nd⟩ := own2_at e hx
    refine ⟨_, hv, .inl ⟨rfl, ls.map V.ref, .of hl⟩, G, ρ, e, SG.of e q fun d G1 v H1 _ g e1 rv q1 => ?_⟩
    obtain ⟨z, q1⟩ := SG.chk q1
    obtain ⟨k1, k2⟩ := g.keeps hl gl
    exact ⟨l, ls.map V.ref, v, rfl, rfl, k1, by rw [List.length_map, rk.length]; exact z, q1 G1 σ _ (e1.change hx (by rw [hv]; exact .inl rfl) trivial fun b f => (foot_no f).elim)⟩
/-- x[k] of such a list -/
def rowN (xss : List (List D)) : D → Option Nat
  | .int n => (ixN xss.length n).bind fun j => if j < xss.length then some j else none
  | _ => none
theorem ixN_lt {n j : Nat} {k : Int} (h : ixN n k = some j) : j < n := by
  unfold ixN at h
  split at h
  · split at h
    · cases h; omega
    · cases h
  · split at h
    · cases h; omega
    · cases h
theorem atI_ixN {α : Type} {xs : List α} {k : Int} {j : Nat} (h : ixN xs.length k = some j) : atI xs k = xs[j]? := by
  unfold atI
  rw [h]
  rfl
/-- x[k][n] = e -/
def ixSet2 (xss : List (List D)) (d : D) (i j : Nat) : D → Ev → Out
  | .int n, ρ => match xss[j]? with
    | some ys => match ixN ys.length n with
      | some l => .nx (ρ.set i (.own2 (xss.set j (ys.set l d))))
      | none => .stuck
    | none => .stuck
  | _, _ => .stuck
def inRow (o : Option Nat) (f : Nat → Out) : Out := match o with
  | some j => f j
  | none => .stuck
def oSetIx2 (i : Nat) (mk mk2 m : Ev → Res D) : Ev → Out := oOwn2 i fun xss ρ => Out.of (m ρ) ρ fun d => Out.of (mk ρ) ρ fun a => inRow (rowN xss a) fun j => Out.of (mk2 ρ) ρ fun b => ixSet2 xss d i j b ρ
/-- x[k].append(e) -/
def oAppIx (i : Nat) (mk m : Ev → Res D) : Ev → Out := oOwn2 i fun xss ρ => Out.of (mk ρ) ρ fun a => inRow (rowN xss a) fun j => Out.of (m ρ) ρ fun d => match xss[j]? with
  | some ys => oChk (ys.length < sizeLine) (.nx (ρ.set i (.own2 (xss.set j (ys ++ [d])))))
  | none => .stuck
/-- x[k][n] -/
def mOwnIx2 (i : Nat) (mk mk2 : Ev → Res D) : Ev → Res D := fun ρ => match own2Of ρ i with
  | some xss => mk ρ >>= fun a => match rowN xss a with
    | some j => mk2 ρ >>= fun b => match xss[j]? with
      | some ys => ownIx ys b
      | none => .stuck
    | none => .stuck
  | none => .stuck
theorem rowN_some {xss : List (List D)} {a : D} {j : Nat} (h : rowN xss a = some j) : ∃ n : Int, a = .int n ∧ ixN xss.length n = some j := by
  unfold rowN at h
  split at h
  · rename_i n
    obtain ⟨j', h1, h2⟩ := Option.bind_eq_some_iff.mp h
    split at h2
    · cases h2; exact ⟨n, rfl, h1⟩
    · cases h2
  · cases h
theorem ms_setIx2 (i : Nat) {x : Str} {k k2 : Expr} {p0 p1 p2 : Pos} (he : PE X e (tM X.K B W ma)) (hk : PE X k (tM X.K B W mk)) (hk2 : PE X k2 (tM X.K B W mk2)) (hN : X.N[i]? = some x := by rfl) (hv : Vis X.env.scope x := by first | exact Or.inl rfl | exact Or.inr (Or.inl rfl) | exact Or.inr (Or.inr rfl)) (hd : (x == ("__debug__" : Str)) = false := by decide) (hcd : (x == ("__classdict__" : Str)) = false := by decide)
    (hsx : PlainIx k := by intro _ _; rfl)
    (ha : ∀ v, assign (.Subscript (.Subscript (.Name x p0) k p1) k2 p2) X.env v = (do
      let ov ← holding [v] (eval (.Subscript (.Name x p0) k p1) X.env)
      let iv ← holding [v, ov] (eval k2 X.env)
      standAt p2
      holding [v, ov, iv] (setItem ov iv v)
      release [v, ov, iv] []) := by intro _; rfl)
    (hs : swapsWithSole [.Subscript (.Subscript (.Name x p0) k p1) k2 p2] e pos.line X.env = pure false := by rfl) (hw : swappedStores [.Subscript (.Subscript (.Name x p0) k p1) k2 p2] e X.env = pure none := by rfl)
    (h1 : (assignEach [.Subscript (.Subscript (.Name x p0) k p1) k2 p2] X.env).map (·.2) = [assign (.Subscript (.Subscript (.Name x p0) k p1) k2 p2) X.env] := by rfl) :
    PS X (.Assign [.Subscript (.Subscript (.Name x p0) k p1) k2 p2] e pos) (tS X.K B W (oSetIx2 i mk mk2 ma)) :=
  PS.imp (ps_asg he (pg_sub (pe_ix ix_seq (pe_var (i := i) hN hv hd hcd) hk hsx) hk2 set_list ha) hs hw h1) fun Dn σ H ⟨G, ρ, e, q⟩ => by
    obtain ⟨xss, hx, q⟩ := SG.own2 q
    refine ⟨G, ρ, e, SG.of e q fun d G1 v H1 _ g e1 rv q1 => ?_⟩
    obtain ⟨l, ls, hv, hl, rk, gl, bl, nd⟩ := own2_at e1 hx
    refine ⟨_, hv, G1, ρ, e1, SG.of e1 q1 fun aa G2 w H2 _ g2 e2 rw' q2 => ?_⟩
    obtain ⟨l2, ls2, hv2, hl2, rk2, gl2, bl2, nd2⟩ := own2_at e2 hx
    rw [hv] at hv2
    cases hv2
    cases hr : rowN xss aa with
    | none => rw [hr] at q2; exact q2.elim
    | some j =>
      rw [hr] at q2
      have q2 : SG X.K B W Dn (Out.of (mk2 ρ) ρ fun b => ixSet2 xss d i j b ρ) := q2
      obtain ⟨n, rfl, hj⟩ := rowN_some hr
      cases rw' with
      | int _ =>
      have hjl := ixN_lt hj
      obtain ⟨a, vs, ha, hH, rr, ga, ba⟩ := rk2.get (List.getElem?_eq_getElem hjl)
      have hat : atI (ls2.map V.ref) n = some (.ref a) := by
        rw [atI_ixN (j := j) (by rw [List.length_map, rk2.length]; exact hj), List.getElem?_map, ha]
        rfl
      refine .inl ⟨l, ls2.map V.ref, n, .ref a, rfl, rfl, .of hl2, hat, G2, ρ, e2, SG.of e2 q2 fun b G3 w3 H3 _ g3 e3 rb q3 => ?_⟩
      cases rb with
      | int m =>
        have q3 : SG X.K B W Dn (match xss[j]? with
          | some ys => match ixN ys.length m with
            | some l => .nx (ρ.set i (.own2 (xss.set j (ys.set l d))))
            | none => .stuck
          | none => .stuck) := q3
        rw [List.getElem?_eq_getElem hjl] at q3
        dsimp only at q3
        cases hm : ixN xss[j].length m with
        | none => rw [hm] at q3; exact q3.elim
        | some n2 =>
          rw [hm] at q3
          obtain ⟨k1, k2⟩ := g3.keeps hH ga
          obtain ⟨k3, k4⟩ := g3.keeps hl2 gl2
          exact ⟨a, vs, m, n2, rfl, rfl, k1, by rw [rr.length]; exact hm, q3 G3 σ _ (own2_row e3 hx hv k3 (rk2.grow g3) k4 bl2 nd2 ha ((rr.mono g3.g).set (rv.mono (g2.g.trans g3.g)) n2))⟩
      | _ => exact q3.elim
theorem ms_appIx (i : Nat) {x : Str} {k : Expr} {p0 p1 p2 p3 : Pos} (hk : PE X k (tM X.K B W mk)) (he : PE X e (tM X.K B W ma)) (hN : X.N[i]? = some x := by rfl) (hv : Vis X.env.scope x := by first | exact Or.inl rfl | exact Or.inr (Or.inl rfl) | exact Or.inr (Or.inr rfl)) (hd : (x == ("__debug__" : Str)) = false := by decide) (hcd : (x == ("__classdict__" : Str)) = false := by decide)
    (hsx : PlainIx k := by intro _ _; rfl)
    (hbase : attributeBase (.Subscript (.Name x p0) k p1) "append" X.env (eval (.Subscript (.Name x p0) k p1) X.env) = eval (.Subscript (.Name x p0) k p1) X.env := by rfl)
    (hfew : ((backTo p3 (starEach [e] X.env)).all (fun x => !x.1) && (backToKw p3 (keywordEach [] X.env)).all (fun x => x.1.isSome) && decide (([e] : List Expr).length + ([] : List Keyword).length + (if ([] : List Keyword).isEmpty then 0 else 1) < 30)) = true := by rfl)
    (hline : (p2.endLine == p3.line) = true := by rfl) (hs : starEach [e] X.env = (false, eval e X.env) :: starEach [] X.env := by rfl) (hplain : (backTo p3 (starEach [] X.env)).any (·.1) = false := by rfl)
    (hsw : swapsWith (.Call (.Attribute (.Subscript (.Name x p0) k p1) "append" p2) [e] [] p3) none pos.line X.env = pure false := by rfl) :
    PS X (.Expr (.Call (.Attribute (.Subscript (.Name x p0) k p1) "append" p2) [e] [] p3) pos) (tS X.K B W (oAppIx i mk ma)) :=
  PS.imp (ps_expr (pe_bm PySem.F.plainAttrs_list PySem.F.slot_list_append PySem.F.type_list_append mt_append (pe_ix ix_seq (pe_var (i := i) hN hv hd hcd) hk hsx) (pa_cons he pa_nil hs) hbase hfew hline hs hplain) hsw) fun Dn σ H ⟨G, ρ, e, q⟩ => by
    obtain ⟨xss, hx, q⟩ := SG.own2 q
    obtain ⟨l, ls, hv, hl, rk, gl, bl, nd⟩ := own2_at e hx
    refine ⟨_, hv, G, ρ, e, SG.of e q fun aa G2 w H2 _ g2 e2 rw' q2 => ?_⟩
    obtain ⟨l2, ls2, hv2, hl2, rk2, gl2, bl2, nd2⟩ := own2_at e2 hx
    rw [hv] at hv2
    cases hv2
    cases hr : rowN xss aa with
    | none => rw [hr] at q2; exact q2.elim
    | some j =>
      rw [hr] at q2
      obtain ⟨n, rfl, hj⟩ := rowN_some hr
      cases rw' with
      | int _ =>
      have hjl := ixN_lt hj
      obtain ⟨a, vs, ha, hH, rr, ga, ba⟩ := rk2.get (List.getElem?_eq_getElem hjl)
      have hat : atI (ls2.map V.ref) n = some (.ref a) := by
        rw [atI_ixN (j := j) (by rw [List.length_map, rk2.length]; exact hj), List.getElem?_map, ha]
        rfl
      have q2 : SG X.K B W Dn (Out.of (ma ρ) ρ fun d => match xss[j]? with
        | some ys => oChk (ys.length < sizeLine) (.nx (ρ.set i (.own2 (xss.set j (ys ++ [d])))))
        | none => .stuck) := q2
      refine .inl ⟨l, ls2.map V.ref, n, .ref a, rfl, rfl, .of hl2, hat, .inl ⟨rfl, vs, .of hH⟩, G2, ρ, e2, SG.of e2 q2 fun d G3 w3 H3 _ g3 e3 rd q3 => ?_⟩
      rw [List.getElem?_eq_getElem hjl] at q3
      obtain ⟨z, q3⟩ := SG.chk (show SG X.K B W Dn (oChk (xss[j].length < sizeLine) (.nx (ρ.set i (.own2 (xss.set j (xss[j] ++ [d])))))) from q3)
      obtain ⟨k1, k2⟩ := g3.keeps hH ga
      obtain ⟨k3, k4⟩ := g3.keeps hl2 gl2
      exact ⟨a, vs, w3, rfl, rfl, k1, by rw [rr.length]; exact z, q3 G3 σ _ (own2_row e3 hx hv k3 (rk2.grow g3) k4 bl2 nd2 ha ((rr.mono g3.g).append (.cons rd .nil)))⟩
theorem me_ownIx2 (i : Nat) {x : Str} {k k2 : Expr} {p0 p1 : Pos} (hk : PE X k (tM X.K B W mk)) (hk2 : PE X k2 (tM X.K B W mk2)) (hN : X.N[i]? = some x := by rfl) (hv : Vis X.env.scope x := by first | exact Or.inl rfl | exact Or.inr (Or.inl rfl) | exact Or.inr (Or.inr rfl)) (hd : (x == ("__debug__" : Str)) = false := by decide) (hcd : (x == ("__classdict__" : Str)) = false := by decide)
    (hsx : PlainIx k := by intro _ _; rfl) (hsx2 : PlainIx k2 := by intro _ _; rfl) : PE X (.Subscript (.Subscript (.Name x p0) k p1) k2 pos) (tM X.K B W (mOwnIx2 i mk mk2)) :=
  PE.imp (pe_ix ix_seq (pe_ix ix_seq (pe_var (i := i) hN hv hd hcd) hk hsx) hk2 hsx2) fun σ H Q ⟨G, ρ, e, q⟩ => by
    unfold mOwnIx2 at q
    cases ho : own2Of ρ i with
    | none => rw [ho] at q; exact q.elim
    | some xss =>
      rw [ho] at q
      have hx := own2Of_some ho
      obtain ⟨l, ls, hv, hl, rk, gl, bl, nd⟩ := own2_at e hx
      refine ⟨_, hv, G, ρ, e, RG.bind q fun aa G2 w g2h g2 rw' q2 => ?_⟩
      have e2 := e.growN g2
      obtain ⟨l2, ls2, hv2, hl2, rk2, gl2, bl2, nd2⟩ := own2_at e2 hx
      rw [hv] at hv2
      cases hv2
      cases hr : rowN xss aa with
      | none => rw [hr] at q2; exact q2.elim
      | some j =>
        rw [hr] at q2
        obtain ⟨n, rfl, hj⟩ := rowN_some hr
        cases rw' with
        | int _ =>
        have hjl := ixN_lt hj
        obtain ⟨a, vs, ha, hH, rr, ga, ba⟩ := rk2.get (List.getElem?_eq_getElem hjl)
        have hat : atI (ls2.map V.ref) n = some (.ref a) := by
          rw [atI_ixN (j := j) (by rw [List.length_map, rk2.length]; exact hj), List.getElem?_map, ha]
          rfl
        refine .inl ⟨l, ls2.map V.ref, n, .ref a, rfl, rfl, .of hl2, hat, G2, ρ, e2, RG.bind q2 fun b G3 w3 H3 g3 rb q3 => ?_⟩
        rw [List.getElem?_eq_getElem hjl] at q3
        cases rb with
        | int m =>
          have q3 : RG (Rep X.K) X.K _ G3 H3 Q (ofOpt (atI xss[j] m)) := q3
          obtain ⟨d, hd, q3⟩ := RG.opt q3
          obtain ⟨w, e1, r1⟩ := (rr.mono g3.g).atI hd
          exact .inl ⟨a, vs, m, w, rfl, rfl, .of (g3.keeps hH ga).1, e1, RG.here g3.sub q3 r1⟩
        | _ => exact q3.elim
end
end PL
namespace PL
open PySem PySem.Spec L2
open PyProof.Rows (b2i)
section
variable {P : Po} {ρ : Ev} {i : Nat} {m mk mk2 : Ev → Res D} {Q : D → Prop} {E : Err → Prop}
@[simp] theorem wp_setF2 {m : Ev → Res (List (List D))} : wp (oSetF2 i m) P ρ = wr (m ρ) (fun d => P.nx (ρ.set i (.own2 d))) (fun e => P.exc e ρ) := by with_unfolding_all exact ends_of
@[simp] theorem wm_fNil2 {Q : List (List D) → Prop} : wr (fNil2 ρ) Q E = Q [] := by with_unfolding_all exact (id rfl)
@[simp] theorem wm_lst2Of {m : Ev → Res (List (List D))} : wr (lst2Of m ρ) Q E = wr (m ρ) (fun xss => Q (.lst (xss.map .lst))) E := by
  unfold lst2Of
  rw [wr_bind]
  congr
  funext x
  rw [wr_ok]
@[simp] theorem wp_app2 {mf : Ev → Res (List D)} : wp (oApp2 i mf) P ρ = match ρ[i]? with | some (.own2 xss) => wr (mf ρ) (fun d => xss.length < sizeLine ∧ P.nx (ρ.set i (.own2 (xss ++ [d])))) (fun e => P.exc e ρ) | _ => False := by
  unfold wp oApp2 oOwn2 own2Of
  cases ρ[i]? with
  | none => unfold ends; rfl
  | some sl =>
    cases sl with
    | own2 xss =>
      show ends P (Out.of (mf ρ) ρ _) = _
      rw [ends_of]
      congr
      funext d
      unfold oChk
      by_cases z : xss.length < sizeLine
      · rw [if_pos z, ends_nx]; exact propext ⟨fun h => ⟨z, h⟩, fun h => h.2⟩
      · rw [if_neg z]; exact propext ⟨fun h => by unfold ends at h; exact h.elim, fun h => absurd h.1 z⟩
    | _ => unfold ends; rfl
@[simp] theorem wp_app2D : wp (oApp2D i m) P ρ = match ρ[i]? with | some (.own2 xss) => wr (m ρ) (fun d => xss.length < sizeLine ∧ P.nx (ρ.set i .no)) (fun e => P.exc e ρ) | _ => False := by
  unfold wp oApp2D oOwn2 own2Of
  cases ρ[i]? with
  | none => unfold ends; rfl
  | some sl =>
    cases sl with
    | own2 xss =>
      show ends P (Out.of (m ρ) ρ _) = _
      rw [ends_of]
      congr
      funext d
      unfold oChk
      by_cases z : xss.length < sizeLine
      · rw [if_pos z, ends_nx]; exact propext ⟨fun h => ⟨z, h⟩, fun h => h.2⟩
      · rw [if_neg z]; exact propext ⟨fun h => by unfold ends at h; exact h.elim, fun h => absurd h.1 z⟩
    | _ => unfold ends; rfl
/-- row j of xss, if there is one -/
def inRowP (o : Option Nat) (f : Nat → Prop) : Prop := match o with
  | some j => f j
  | none => False
theorem ends_inRow {o : Option Nat} {f : Nat → Out} : ends P (inRow o f) = inRowP o fun j => ends P (f j) := by
  cases o with
  | none => unfold ends; rfl
  | some j => rfl
theorem ends_opt {α : Type} {o : Option α} {f : α → Out} : ends P (match o with | some a => f a | none => .stuck) = match o with | some a => ends P (f a) | none => False := by
  cases o with
  | none => unfold ends; rfl
  | some j => rfl
@[simp] theorem wp_setIx2 : wp (oSetIx2 i mk mk2 m) P ρ = match ρ[i]? with | some (.own2 xss) => wr (m ρ) (fun d => wr (mk ρ) (fun a => inRowP (rowN xss a) fun j => wr (mk2 ρ) (fun b => ends P (ixSet2 xss d i j b ρ)) (fun e => P.exc e ρ)) (fun e => P.exc e ρ)) (fun e => P.exc e ρ) | _ => False := by
  unfold wp oSetIx2 oOwn2 own2Of
  cases ρ[i]? with
  | none => unfold ends; rfl
  | some sl =>
    cases sl with
    | own2 xss =>
      show ends P (Out.of (m ρ) ρ _) = _
      rw [ends_of]
      congr
      funext d
      rw [ends_of]
      congr
      funext a
      rw [ends_inRow]
      congr
      funext j
      rw [ends_of]
    | _ => unfold ends; rfl
theorem ixSet2_nat {xss : List (List D)} {ys : List D} {d : D} {j n : Nat} (hj : xss[j]? = some ys) (hn : n < ys.length) : ends P (ixSet2 xss d i j (.int n) ρ) = P.nx (ρ.set i (.own2 (xss.set j (ys.set n d)))) := by
  have e2 : ixN ys.length (n : Int) = some n := by
    unfold ixN
    rw [if_pos (Int.natCast_nonneg n), if_pos (by omega)]
    rfl
  have e : ixSet2 xss d i j (.int n) ρ = .nx (ρ.set i (.own2 (xss.set j (ys.set n d)))) := by
    show (match xss[j]? with
    | some ys => match ixN ys.length n with
      | some l => Out.nx (ρ.set i (.own2 (xss.set j (ys.set l d))))
      | none => .stuck
    | none => .stuck) = _
    rw [hj]
    dsimp only
    rw [e2]
  rw [e, ends_nx]
theorem rowN_nat {xss : List (List D)} {j : Nat} (hj : j < xss.length) : rowN xss (.int j) = some j := by
  have e2 : ixN xss.length (j : Int) = some j := by
    unfold ixN
    rw [if_pos (Int.natCast_nonneg j), if_pos (by omega)]
    rfl
  show ((ixN xss.length (j : Int)).bind fun j => if j < xss.length then some j else none) = some j
  rw [e2, Option.bind_some, if_pos hj]
@[simp] theorem inRowP_some {j : Nat} {f : Nat → Prop} : inRowP (some j) f = f j := by with_unfolding_all exact (id rfl)
@[simp] theorem wp_appIx : wp (oAppIx i mk m) P ρ = match ρ[i]? with | some (.own2 xss) => wr (mk ρ) (fun a => inRowP (rowN xss a) fun j => wr (m ρ) (fun d => match xss[j]? with | some ys => ys.length < sizeLine ∧ P.nx (ρ.set i (.own2 (xss.set j (ys ++ [d])))) | none => False) (fun e => P.exc e ρ)) (fun e => P.exc e ρ) | _ => False := by
  unfold wp oAppIx oOwn2 own2Of
  cases ρ[i]? with
  | none => unfold ends; rfl
  | some sl =>
    cases sl with
    | own2 xss =>
      show ends P (Out.of (mk ρ) ρ _) = _
      rw [ends_of]
      congr
      funext a
      rw [ends_inRow]
      congr
      funext j
      rw [ends_of]
      congr
      funext d
      cases xss[j]? with
      | none => unfold ends; rfl
      | some ys =>
        dsimp only
        unfold oChk
        by_cases z : ys.length < sizeLine
        · rw [if_pos z, ends_nx]; exact propext ⟨fun h => ⟨z, h⟩, fun h => h.2⟩
        · rw [if_neg z]; exact propext ⟨fun h => by unfold ends at h; exact h.elim, fun h => absurd h.1 z⟩
    | _ => unfold ends; rfl
@[simp] theorem wm_ownIx2 : wr (mOwnIx2 i mk mk2 ρ) Q E = match ρ[i]? with | some (.own2 xss) => wr (mk ρ) (fun a => inRowP (rowN xss a) fun j => wr (mk2 ρ) (fun b => match xss[j]? with | some ys => wr (ownIx ys b) Q E | none => False) E) E | _ => False := by
  unfold mOwnIx2 own2Of
  cases ρ[i]? with
  | none => unfold wr; rfl
  | some s =>
    cases s with
    | own2 xss =>
      show wr (mk ρ >>= _) Q E = _
      rw [wr_bind]
      congr
      funext a
      cases rowN xss a with
      | none => unfold wr; rfl
      | some j =>
        show wr (mk2 ρ >>= _) Q E = _
        rw [inRowP_some, wr_bind]
        congr
        funext b
        cases xss[j]? with
        | none => unfold wr; rfl
        | some ys => rfl
    | _ => unfold wr; rfl
@[simp] theorem wm_asL {Q : List D → Prop} : wr (asL m ρ) Q E = wr (m ρ) (fun d => match d with | .lst xs => Q xs | _ => False) E := by
  unfold asL
  rw [wr_bind]
  congr
  funext d
  cases d with
  | lst xs => rw [wr_ok]
  | _ => unfold wr; rfl
@[simp] theorem wm_asL2 {Q : List (List D) → Prop} : wr (asL2 m ρ) Q E = wr (m ρ) (fun d => match d with | .lst xs => wr (ofOpt (lstsD xs)) Q E | _ => False) E := by
  unfold asL2
  rw [wr_bind]
  congr
  funext d
  cases d with
  | lst xs => rfl
  | _ => unfold wr; rfl
@[simp] theorem lstsD_m {xss : List (List D)} : lstsD (xss.map .lst) = some xss := lstsD_map xss
@[simp] theorem wp_retO1 : wp (oRetO1 i) P ρ = match ρ[i]? with | some (.own xs) => P.rt (.lst xs) | _ => False := by
  unfold wp oRetO1
  cases ρ[i]? with
  | none => unfold ends; rfl
  | some s => cases s <;> (unfold ends; rfl)
@[simp] theorem wp_retO2 : wp (oRetO2 i) P ρ = match ρ[i]? with | some (.own2 xs) => P.rt (.lst (xs.map .lst)) | _ => False := by
  unfold wp oRetO2
  cases ρ[i]? with
  | none => unfold ends; rfl
  | some s => cases s <;> (unfold ends; rfl)
/-- a property -/
theorem wo_prop {ps : Cl → Option (List D → Res D)} {c : Cl} {fs : List (Nm × D)} {g : List D → Res D} {d : D} (h : ps c = some g) (e : g [.obj c fs] = .ok d) (hq : Q d) : wr (propN ps (.obj c fs)) Q E := by
  show wr (ofOpt (ps c) >>= fun g => noX (g [.obj c fs])) Q E
  rw [h, ofOpt_some, ok_bind, e]
  show wr (Res.ok d) Q E
  rw [wr_ok]
  exact hq
theorem wo_ownU {base : D → Res D} {ps : Cl → Option (List D → Res D)} {c : Cl} {fs : List (Nm × D)} {g : List D → Res D} (h : ps c = some g) : wr (ownU base ps (.obj c fs)) Q E = wr (g [.obj c fs]) Q E := by
  show wr (ofOpt (ps c) >>= fun g => g [.obj c fs]) Q E = _
  rw [h, ofOpt_some, ok_bind]
@[simp] theorem wo_ownUI {base : D → Res D} {ps : Cl → Option (List D → Res D)} {k : Int} : wr (ownU base ps (.int k)) Q E = wr (base (.int k)) Q E := by with_unfolding_all exact (id rfl)
end
theorem lc2_mapM {α : Type} {f : D → Ev → Option Ev} {m : Ev → Res (List D)} {ρ : Ev} {g : α → D} {F : α → List D} : ∀ {l : List α}, (∀ a ∈ l, ∃ ρ1, f (g a) ρ = some ρ1 ∧ wr (m ρ1) (fun d => d = F a) noE) → lcGo2 f mYes m ρ (l.map g) = .ok (l.map F)
  | [], _ => rfl
  | a :: l, h => by
    obtain ⟨ρ1, e1, e2⟩ := h a List.mem_cons_self
    have ih := lc2_mapM (f := f) (m := m) (ρ := ρ) (g := g) (F := F) (l := l) fun x hx => h x (List.mem_cons_of_mem _ hx)
    rw [List.map_cons]
    unfold lcGo2
    rw [e1]
    simp only [mYes, ok_bind, if_true]
    rw [wr_eq e2, ok_bind, ih]
    rfl
/-- a list of new lists -/
theorem wm_lc2M {α : Type} (l : List α) (g : α → D) (F : α → List D) {vs : List Nat} {mi : Ev → Res (List D)} {f : D → Ev → Option Ev} {m : Ev → Res (List D)} {Q : List (List D) → Prop} {E : Err → Prop} {ρ : Ev} (hi : wr (mi ρ) (fun ds => ds = l.map g) noE) (hl : l.length ≤ sizeLine)
    (h : ∀ a ∈ l, ∃ ρ1, f (g a) (wipeE ρ vs) = some ρ1 ∧ wr (m ρ1) (fun d => d = F a) noE) (hq : Q (l.map F)) : wr (fLc2 vs mi f mYes m ρ) Q E := by
  unfold fLc2
  rw [wr_bind, wr_eq hi, wr_ok]
  show wr (noX (lcGo2 f mYes m (wipeE ρ vs) (l.map g)) >>= _) Q E
  rw [lc2_mapM h]
  show wr (chk _ _) Q E
  rw [wr_chk, wr_ok]
  exact ⟨by rw [List.length_map]; exact hl, hq⟩
theorem lcC_mapM {α β : Type} {f f1 : D → Ev → Option Ev} {vs1 : List Nat} {mi1 : Ev → Res (List D)} {m : Ev → Res D} {ρ : Ev} {g : α → D} {g1 : α → β → D} {L : α → List β} {F : α → β → D} : ∀ {l : List α},
    (∀ a ∈ l, ∃ ρ1, f (g a) ρ = some ρ1 ∧ wr (mi1 ρ1) (fun ds => ds = (L a).map (g1 a)) noE ∧ ∀ b ∈ L a, ∃ ρ2, f1 (g1 a b) (wipeE ρ1 vs1) = some ρ2 ∧ wr (m ρ2) (fun d => d = F a b) noE) → lcGoC f mYes vs1 mi1 f1 mYes m ρ (l.map g) = .ok (l.flatMap fun a => (L a).map (F a))
  | [], _ => rfl
  | a :: l, h => by
    obtain ⟨ρ1, e1, e2, e3⟩ := h a List.mem_cons_self
    have ih := lcC_mapM (f := f) (f1 := f1) (vs1 := vs1) (mi1 := mi1) (m := m) (ρ := ρ) (g := g) (g1 := g1) (L := L) (F := F) (l := l) fun x hx => h x (List.mem_cons_of_mem _ hx)
    rw [List.map_cons]
    unfold lcGoC
    rw [e1]
    simp only [mYes, ok_bind, if_true]
    rw [wr_eq e2, ok_bind, lc_mapM e3, ok_bind, ih]
    rfl
/-- for a in l for b in L a -/
theorem wm_lccM {α β : Type} (l : List α) (g : α → D) (L : α → List β) (g1 F : α → β → D) {vs vs1 : List Nat} {mi mi1 : Ev → Res (List D)} {f f1 : D → Ev → Option Ev} {m : Ev → Res D} {Q : List D → Prop} {E : Err → Prop} {ρ : Ev} (hi : wr (mi ρ) (fun ds => ds = l.map g) noE) (hl : (l.flatMap L).length ≤ sizeLine)
    (h : ∀ a ∈ l, ∃ ρ1, f (g a) (wipeE ρ vs) = some ρ1 ∧ wr (mi1 ρ1) (fun ds => ds = (L a).map (g1 a)) noE ∧ ∀ b ∈ L a, ∃ ρ2, f1 (g1 a b) (wipeE ρ1 vs1) = some ρ2 ∧ wr (m ρ2) (fun d => d = F a b) noE) (hq : Q (l.flatMap fun a => (L a).map (F a))) : wr (fLcc vs mi f mYes vs1 mi1 f1 mYes m ρ) Q E := by
  unfold fLcc
  rw [wr_bind, wr_eq hi, wr_ok]
  show wr (noX (lcGoC f mYes vs1 mi1 f1 mYes m (wipeE ρ vs) (l.map g)) >>= _) Q E
  rw [lcC_mapM h]
  show wr (chk _ _) Q E
  rw [wr_chk, wr_ok]
  refine ⟨?_, hq⟩
  have e : (l.flatMap fun a => (L a).map (F a)).length = (l.flatMap L).length := by
    rw [List.length_flatMap, List.length_flatMap]
    congr 1
    exact List.map_congr_left fun a _ => List.length_map ..
  rw [e]
  exact hl
end PL
namespace PL
open PySem PySem.Spec L2
open PyProof.Rows (b2i)
section
variable {X : Cx} {B : Base} {W : WX} {pos p1 : Pos}
theorem me_cval {x f : Str} {i : Int} (hg : Gl X x) (hm : X.mg x = some (.ref (He.ga X.K x))) (c : cvB x f i X.K = true) (hd : (x == ("__debug__" : Str)) = false := by decide) (hb : attributeBase (.Name x p1) f X.env (eval (.Name x p1) X.env) = eval (.Name x p1) X.env := by rfl) :
    PE X (.Attribute (.Name x p1) f pos) (tM X.K B W (mCon (.int i))) := by
  unfold cvB at c
  obtain ⟨c1, c3⟩ := Bool.and_eq_true_iff.mp c
  obtain ⟨c1, c2⟩ := Bool.and_eq_true_iff.mp c1
  refine me_of (ClX.pe_cval (pe_cl hg hm hd) hb) fun G ρ σ H Q e q => ?_
  split at c3
  · rename_i j t q2
    have hj := of_decide_eq_true c3
    subst hj
    exact ⟨He.ga X.K x, .type "type", .int j, .int j t, rfl, ⟨c1, of_decide_eq_true c2⟩, ⟨q2, ⟨t, rfl⟩⟩, RG.here e.sub q (.int j)⟩
  · cases c3
end
end PL
namespace K68
noncomputable section
open PySem PySem.Spec L2 PL
def o__law_draws : Ev → Out :=
  (oSeq (oSetF 3 (fLst mNil))
    (oSeq (oSet 4 (mOp subD (mVar 0) (mOp powD (mCon (.int 10)) (mCon (.int 18)))))
    (oSeq (oSet 5 (mOp addD (mVar 0) (mOp mulD (mCon (.int 7919)) (mVar 1))))
    (oSeq (oFor (iMapA rng1 (mCons (mCall lenD (mCons (mVar 2) mNil)) mNil)) (gN 6)
    (oIf (mBl (mOp geD (mVar 4) (mCon (.int 0)))) (oSeq (oApp 3 (mOp modD (mCall intD (mCons (mVar 4) mNil)) (mOp ixD (mVar 2) (mVar 6))))
    (oSet 4 (mOp fdivD (mVar 4) (mOp ixD (mVar 2) (mVar 6))))) (oSeq (oSet 5 (mOp modD (mCall intD (mCons (mOp addD (mOp addD (mOp mulD (mVar 5) (mVar 5)) (mOp mulD (mCon (.int 3571)) (mOp addD (mVar 6) (mCon (.int 1))))) (mCon (.int 40692))) mNil)) (mCon (.int 2147483399))))
    (oSeq (oSet 5 (mOp modD (mCall intD (mCons (mOp addD (mOp mulD (mVar 5) (mVar 5)) (mOp fdivD (mVar 5) (mCon (.int 97)))) mNil)) (mCon (.int 2147483629))))
    (oApp 3 (mOp modD (mCall intD (mCons (mOp fdivD (mVar 5) (mCon (.int 8))) mNil)) (mOp ixD (mVar 2) (mVar 6))))))))
    (oFrz 3 (oRet (mVar 3)))))))
def m__law_draws : List D → Res D := mDef 7 o__law_draws
def o__law_cell : Ev → Out :=
  (oSeq (oIf (mBl (mOp ltD (mVar 1) (mCall lenD (mCons (mVar 0) mNil)))) (oRet (mCall absD (mCons (mOp ixD (mVar 0) (mVar 1)) mNil))) Out.nx)
    (oRet (mCon (.int 0))))
def m__law_cell : List D → Res D := mDef 2 o__law_cell
def o__law_filled : Ev → Out :=
  (oSeq (oIf (mBl (mOp gtD (mCall sumD (mCons (mVar 0) mNil)) (mCon (.int 0)))) (oRet (lstOf (fList (mVar 0)))) Out.nx)
    (oSeq (oSet 2 (mOp modD (mCall intD (mCons (mVar 1) mNil)) (mCall lenD (mCons (mVar 0) mNil))))
    (oRet (lstOf (fOp catL (lstOf (fOp catL (mSl (mVar 0) mNoP (mPart (mVar 2))) (lstOf (fLst (mCons (mCon (.int 1)) mNil))))) (mSl (mVar 0) (mPart (mOp addD (mVar 2) (mCon (.int 1)))) mNoP))))))
def m__law_filled : List D → Res D := mDef 3 o__law_filled
def o__law_signal_rows : Ev → Out :=
  (oSeq (oSetF 6 (fLst mNil))
    (oSeq (oFor (iMapA rng1 (mCons (mVar 3) mNil)) (gN 7)
    (oSeq (oSet 8 (mCall m__law_draws (mCons (mCall m__law_cell (mCons (mVar 0) (mCons (mOp addD (mVar 1) (mVar 7)) mNil))) (mCons (mOp addD (mVar 2) (mVar 7)) (mCons (lstOf (fOp catL (lstOf (fOp repL (lstOf (fLst (mCons (mVar 5) mNil))) (mVar 4))) (lstOf (fLst (mCons (mVar 4) mNil))))) mNil)))))
    (oApp 6 (mCall m__law_filled (mCons (mSl (mVar 8) mNoP (mPart (mVar 4))) (mCons (mOp ixD (mVar 8) (mVar 4)) mNil))))))
    (oFrz 6 (oRet (mVar 6)))))
def m__law_signal_rows : List D → Res D := mDef 9 o__law_signal_rows
def o__law_gcd : Ev → Out :=
  (oSeq (oSet 0 (mCall absD (mCons (mVar 0) mNil)))
    (oSeq (oSet 1 (mCall absD (mCons (mVar 1) mNil)))
    (oSeq (oWhile (mBl (mOp gtD (mVar 1) (mCon (.int 0))))
    (o2 0 1 (mCons (mVar 1) (mCons (mOp modD (mCall intD (mCons (mVar 0) mNil)) (mVar 1)) mNil))))
    (oRet (mVar 0)))))
def m__law_gcd : List D → Res D := mDef 2 o__law_gcd
def o__law_lcm : Ev → Out :=
  (oSeq (oSet 1 (mCon (.int 1)))
    (oSeq (oFor (iMap itD (mVar 0)) (gN 2)
    (oSet 1 (mOp mulD (mOp fdivD (mVar 1) (mCall m__law_gcd (mCons (mVar 1) (mCons (mVar 2) mNil)))) (mVar 2))))
    (oRet (mVar 1))))
def m__law_lcm : List D → Res D := mDef 3 o__law_lcm
def o__law_table : Ev → Out :=
  (oSeq (oSet 1 (mCall m__law_lcm (mCons (lstOf (fLc [2] (iMap itD (mVar 0)) (gN 2) mYes (mCall sumD (mCons (mVar 2) mNil)))) mNil)))
    (oRet (mTup (mCons (lstOf (fLc [2] (iMap itD (mVar 0)) (gN 2) mYes (lstOf (fLc [3] (iMap itD (mVar 2)) (gN 3) mYes (mOp mulD (mVar 3) (mOp fdivD (mVar 1) (mCall sumD (mCons (mVar 2) mNil)))))))) (mCons (mVar 1) mNil)))))
def m__law_table : List D → Res D := mDef 4 o__law_table
def t_MOST_Signal : Cl → Option D
  | .Signal => some (.int 12)
  | _ => none
def ti_Ratio : Cl → Option Bool
  | .Ratio => some true
  | .Signal => some false
  | _ => none
def o_Ratio___init__ : Ev → Out :=
  (oSeq (oIf (mBl (mOp eqD (mVar 2) (mCon (.int 0)))) (oRaise (mX0 .ZeroUnder)) Out.nx)
    (oSeq (oSet 3 (mCall gcdD (mCons (mVar 1) (mCons (mVar 2) mNil))))
    (oSeq (oIf (mBl (mOp ltD (mVar 2) (mCon (.int 0)))) (oSet 3 (mUn negD (mVar 3))) Out.nx)
    (oSeq (oFld 0 .Ratio .top (mOp fdivD (mVar 1) (mVar 3)))
    (oFld 0 .Ratio .under (mOp fdivD (mVar 2) (mVar 3)))))))
def mi0_Ratio : List D → Res (List (Nm × D)) := mIni .Ratio 4 o_Ratio___init__
def mi_Ratio_1 : List D → Res (List (Nm × D)) := fun ds => mi0_Ratio (ds ++ [(.int 1)])
def o_as_ratio : Ev → Out :=
  (oSeq (oIf (mTru (mUn (isiD (isOwn ti_Ratio)) (mVar 0))) (oRet (mVar 0)) Out.nx)
    (oRet (mCall (newD .Ratio mi_Ratio_1) (mCons (mVar 0) mNil))))
def m_as_ratio : List D → Res D := mDef 1 o_as_ratio
def mi_Ratio_2 : List D → Res (List (Nm × D)) := fun ds => mi0_Ratio (ds ++ [])
def o_Ratio___add__ : Ev → Out :=
  (oSeq (oSet 2 (mCall m_as_ratio (mCons (mVar 1) mNil)))
    (oRet (mCall (newD .Ratio mi_Ratio_2) (mCons (mOp addD (mOp mulD (mUn (fldD .top) (mVar 0)) (mUn (fldD .under) (mVar 2))) (mOp mulD (mUn (fldD .top) (mVar 2)) (mUn (fldD .under) (mVar 0)))) (mCons (mOp mulD (mUn (fldD .under) (mVar 0)) (mUn (fldD .under) (mVar 2))) mNil)))))
def m_Ratio___add__ : List D → Res D := mDef 3 o_Ratio___add__
def t_Add_Ratio : Cl → Option (List D → Res D)
  | .Ratio => some m_Ratio___add__
  | _ => none
def t_rev0_Add : Cl → Option (List D → Res D)
  | _ => none
def o_Ratio___radd__ : Ev → Out :=
  (oRet (mOp (ownD addD t_Add_Ratio t_rev0_Add) (mVar 0) (mVar 1)))
def m_Ratio___radd__ : List D → Res D := mDef 2 o_Ratio___radd__
def t_AddR_Ratio : Cl → Option (List D → Res D)
  | .Ratio => some m_Ratio___radd__
  | _ => none
def o_shares_checked : Ev → Out :=
  (oSeq (oFor (iMap itD (mVar 0)) (gN 1)
    (oIf (mBl (mOp ltD (mUn (fldD .top) (mVar 1)) (mCon (.int 0)))) (oRaise (mX0 .BadShares)) Out.nx))
    (oSeq (oSet 2 (mCall m_as_ratio (mCons (mCall (sumO (ownD addD t_Add_Ratio t_AddR_Ratio)) (mCons (mVar 0) mNil)) mNil)))
    (oIf (mBl (mOp neD (mUn (fldD .top) (mVar 2)) (mUn (fldD .under) (mVar 2)))) (oRaise (mX0 .BadShares)) Out.nx)))
def m_shares_checked : List D → Res D := mDef 3 o_shares_checked
def o_Signal___init__ : Ev → Out :=
  (oSeq (oIf (mBl (mOp eqD (mCall lenD (mCons (mVar 1) mNil)) (mCon (.int 0)))) (oRaise (mX (xF2 .BadNumber 22 .name .value) (mCons (mCon (.str "states")) (mCons (mCon (.int 0)) mNil)))) Out.nx)
    (oSeq (oIf (mBl (mOp gtD (mCall lenD (mCons (mVar 1) mNil)) (mInsC 0 t_MOST_Signal))) (oRaise (mX (xF2 .TooMany 10 .name .most) (mCons (mCon (.str "states")) (mCons (mInsC 0 t_MOST_Signal) mNil)))) Out.nx)
    (oSeq (oIf (mBl (mOp eqD (mCall lenD (mCons (mOp ixD (mVar 1) (mCon (.int 0))) mNil)) (mCon (.int 0)))) (oRaise (mX (xF2 .BadNumber 22 .name .value) (mCons (mCon (.str "outcomes")) (mCons (mCon (.int 0)) mNil)))) Out.nx)
    (oSeq (oIf (mBl (mOp gtD (mCall lenD (mCons (mOp ixD (mVar 1) (mCon (.int 0))) mNil)) (mInsC 0 t_MOST_Signal))) (oRaise (mX (xF2 .TooMany 10 .name .most) (mCons (mCon (.str "outcomes")) (mCons (mInsC 0 t_MOST_Signal) mNil)))) Out.nx)
    (oSeq (oSetF 2 (fLst mNil))
    (oSeq (oFor (iMap itD (mVar 1)) (gN 3)
    (oSeq (oIf (mBl (mOp neD (mCall lenD (mCons (mVar 3) mNil)) (mCall lenD (mCons (mOp ixD (mVar 1) (mCon (.int 0))) mNil)))) (oRaise (mX (xF1 .WrongLength .length) (mCons (mCall lenD (mCons (mVar 3) mNil)) mNil))) Out.nx)
    (oSeq (oSetL 4 (fLc [5] (iMap itD (mVar 3)) (gN 5) mYes (mCall m_as_ratio (mCons (mVar 5) mNil))))
    (oSeq (oExpr (mCall m_shares_checked (mCons (mVar 4) mNil)))
    (oApp 2 (mCall tupleD (mCons (mVar 4) mNil)))))))
    (oSeq (oFld 0 .Signal .states (mCall lenD (mCons (mVar 1) mNil)))
    (oSeq (oFld 0 .Signal .outcomes (mCall lenD (mCons (mOp ixD (mVar 1) (mCon (.int 0))) mNil)))
    (oFld 0 .Signal .u_table (mOwnT 2))))))))))
def mi0_Signal : List D → Res (List (Nm × D)) := mIni .Signal 6 o_Signal___init__
def o__law_number : Ev → Out :=
  (oSeq (oIf (mtAnd (mBl (mOp eqD (mVar 2) (mCon (.int 1)))) (mBl (mOp eqD (mOp modD (mCall intD (mCons (mVar 0) mNil)) (mVar 1)) (mCon (.int 0))))) (oRet (mOp fdivD (mVar 0) (mVar 1))) Out.nx)
    (oRet (mCall (newD .Ratio mi_Ratio_2) (mCons (mVar 0) (mCons (mVar 1) mNil)))))
def m__law_number : List D → Res D := mDef 3 o__law_number
def mi_Signal_1 : List D → Res (List (Nm × D)) := mi0_Signal
def o__law_signal : Ev → Out :=
  (oRet (mCall (newD .Signal mi_Signal_1) (mCons (lstOf (fLc [3] (iMap itD (mVar 0)) (gN 3) mYes (lstOf (fLc [2] (iMap itD (mVar 3)) (gN 2) mYes (mCall m__law_number (mCons (mVar 2) (mCons (mCall sumD (mCons (mVar 3) mNil)) (mCons (mVar 1) mNil)))))))) mNil)))
def m__law_signal : List D → Res D := mDef 4 o__law_signal
def o__law_share : Ev → Out :=
  (oSeq (oSet 1 (mCall m__law_draws (mCons (mVar 0) (mCons (mCon (.int 722)) (mCons (lstOf (fLst (mCons (mCon (.int 8)) (mCons (mCon (.int 12)) (mCons (mCon (.int 12)) (mCons (mOp powD (mCon (.int 10)) (mCon (.int 59))) (mCons (mOp powD (mCon (.int 10)) (mCon (.int 59))) mNil))))))) mNil)))))
    (oSeq (oIf (mBl (mOp eqD (mOp ixD (mVar 1) (mCon (.int 0))) (mCon (.int 0)))) (oRet (mTup (mCons (mCon (.int 0)) (mCons (mCon (.int 1)) mNil)))) Out.nx)
    (oSeq (oIf (mBl (mOp eqD (mOp ixD (mVar 1) (mCon (.int 0))) (mCon (.int 1)))) (oRet (mTup (mCons (mCon (.int 1)) (mCons (mCon (.int 1)) mNil)))) Out.nx)
    (oSeq (oSet 2 (mOp addD (mCon (.int 1)) (mOp ixD (mVar 1) (mCon (.int 2)))))
    (oSeq (oSet 3 (mOp modD (mCall intD (mCons (mOp ixD (mVar 1) (mCon (.int 1))) mNil)) (mOp addD (mVar 2) (mCon (.int 1)))))
    (oSeq (oIf (mBl (mOp eqD (mOp ixD (mVar 1) (mCon (.int 0))) (mCon (.int 4)))) (oSeq (oSet 2 (mOp addD (mCon (.int 1)) (mOp ixD (mVar 1) (mCon (.int 4)))))
    (oSet 3 (mOp modD (mCall intD (mCons (mOp ixD (mVar 1) (mCon (.int 3))) mNil)) (mOp addD (mVar 2) (mCon (.int 1)))))) Out.nx)
    (oSeq (oIf (mBl (mOp eqD (mOp ixD (mVar 1) (mCon (.int 0))) (mCon (.int 2)))) (oRet (mTup (mCons (mOp addD (mOp addD (mVar 2) (mCon (.int 1))) (mOp ixD (mVar 1) (mCon (.int 3)))) (mCons (mVar 2) mNil)))) Out.nx)
    (oSeq (oIf (mBl (mOp eqD (mOp ixD (mVar 1) (mCon (.int 0))) (mCon (.int 3)))) (oRet (mTup (mCons (mOp subD (mOp subD (mCon (.int 0)) (mCon (.int 1))) (mVar 3)) (mCons (mVar 2) mNil)))) Out.nx)
    (oRet (mTup (mCons (mVar 3) (mCons (mVar 2) mNil))))))))))))
def m__law_share : List D → Res D := mDef 4 o__law_share
def o_Signal___getitem__ : Ev → Out :=
  (oSeq (oAsg (gTu (gCo (gN 2) (gCo (gN 3) gNi))) (mVar 1))
    (oSeq (oIf (mtOr (mtNot (mBl (mChain leD ltD (mCon (.int 0)) (mVar 2) (mUn (fldD .states) (mVar 0))))) (mtNot (mBl (mChain leD ltD (mCon (.int 0)) (mVar 3) (mUn (fldD .outcomes) (mVar 0)))))) (oRaise (mX0 .NoPlace)) Out.nx)
    (oRet (mOp ixD (mOp ixD (mUn (fldD .u_table) (mVar 0)) (mVar 2)) (mVar 3)))))
def m_Signal___getitem__ : List D → Res D := mDef 4 o_Signal___getitem__
def t_ix_Signal : Cl → Option (List D → Res D)
  | .Signal => some m_Signal___getitem__
  | _ => none
def o_Ratio___mul__ : Ev → Out :=
  (oSeq (oSet 2 (mCall m_as_ratio (mCons (mVar 1) mNil)))
    (oRet (mCall (newD .Ratio mi_Ratio_2) (mCons (mOp mulD (mUn (fldD .top) (mVar 0)) (mUn (fldD .top) (mVar 2))) (mCons (mOp mulD (mUn (fldD .under) (mVar 0)) (mUn (fldD .under) (mVar 2))) mNil)))))
def m_Ratio___mul__ : List D → Res D := mDef 3 o_Ratio___mul__
def t_Mult_Ratio : Cl → Option (List D → Res D)
  | .Ratio => some m_Ratio___mul__
  | _ => none
def t_rev0_Mult : Cl → Option (List D → Res D)
  | _ => none
def o_passed_on : Ev → Out :=
  (oSeq (oSet 3 (mCall (newD .Ratio mi_Ratio_1) (mCons (mCon (.int 0)) mNil)))
    (oSeq (oFor (iMapA rng1 (mCons (mCall lenD (mCons (mVar 0) mNil)) mNil)) (gN 4)
    (oSet 3 (mOp (ownD addD t_Add_Ratio t_rev0_Add) (mVar 3) (mOp (ownD mulD t_Mult_Ratio t_rev0_Mult) (mOp ixD (mVar 0) (mVar 4)) (mOp (ixO t_ix_Signal) (mVar 1) (mTup (mCons (mVar 4) (mCons (mVar 2) mNil))))))))
    (oRet (mVar 3))))
def m_passed_on : List D → Res D := mDef 5 o_passed_on
def o_Signal___mul__ : Ev → Out :=
  (oSeq (oIf (mBl (mOp neD (mUn (fldD .states) (mVar 1)) (mUn (fldD .outcomes) (mVar 0)))) (oRaise (mX (xF1 .WrongLength .length) (mCons (mUn (fldD .states) (mVar 1)) mNil))) Out.nx)
    (oSeq (oSetF 2 (fLst mNil))
    (oSeq (oFor (iMap itD (mUn (fldD .u_table) (mVar 0))) (gN 3)
    (oApp 2 (lstOf (fLc [4] (iMapA rng1 (mCons (mUn (fldD .outcomes) (mVar 1)) mNil)) (gN 4) mYes (mCall m_passed_on (mCons (mVar 3) (mCons (mVar 1) (mCons (mVar 4) mNil))))))))
    (oFrz 2 (oRet (mCall (newD .Signal mi_Signal_1) (mCons (mVar 2) mNil)))))))
def m_Signal___mul__ : List D → Res D := mDef 5 o_Signal___mul__
def t_Mult_Signal : Cl → Option (List D → Res D)
  | .Signal => some m_Signal___mul__
  | _ => none
def o_Signal___and__ : Ev → Out :=
  (oSeq (oIf (mBl (mOp neD (mUn (fldD .states) (mVar 1)) (mUn (fldD .states) (mVar 0)))) (oRaise (mX (xF1 .WrongLength .length) (mCons (mUn (fldD .states) (mVar 1)) mNil))) Out.nx)
    (oSeq (oIf (mBl (mOp gtD (mOp mulD (mUn (fldD .outcomes) (mVar 0)) (mUn (fldD .outcomes) (mVar 1))) (mUn (conD t_MOST_Signal) (mVar 0)))) (oRaise (mX (xF2 .TooMany 10 .name .most) (mCons (mCon (.str "outcomes")) (mCons (mUn (conD t_MOST_Signal) (mVar 0)) mNil)))) Out.nx)
    (oSeq (oSetF 2 (fLst mNil))
    (oSeq (oFor (iMapA rng1 (mCons (mUn (fldD .states) (mVar 0)) mNil)) (gN 3)
    (oApp 2 (lstOf (fLcc [4, 5] (iMap itD (mOp ixD (mUn (fldD .u_table) (mVar 0)) (mVar 3))) (gN 4) mYes [5] (iMap itD (mOp ixD (mUn (fldD .u_table) (mVar 1)) (mVar 3))) (gN 5) mYes (mOp (ownD mulD t_Mult_Ratio t_rev0_Mult) (mVar 4) (mVar 5))))))
    (oFrz 2 (oRet (mCall (newD .Signal mi_Signal_1) (mCons (mVar 2) mNil))))))))
def m_Signal___and__ : List D → Res D := mDef 6 o_Signal___and__
def t_BitAnd_Signal : Cl → Option (List D → Res D)
  | .Signal => some m_Signal___and__
  | _ => none
def t_rev0_BitAnd : Cl → Option (List D → Res D)
  | _ => none
def t_bin0_Sub : Cl → Option (List D → Res D)
  | _ => none
def o_Ratio___neg__ : Ev → Out :=
  (oRet (mCall (newD .Ratio mi_Ratio_2) (mCons (mUn negD (mUn (fldD .top) (mVar 0))) (mCons (mUn (fldD .under) (mVar 0)) mNil))))
def m_Ratio___neg__ : List D → Res D := mDef 1 o_Ratio___neg__
def t_USub_Ratio : Cl → Option (List D → Res D)
  | .Ratio => some m_Ratio___neg__
  | _ => none
def o_Ratio___rsub__ : Ev → Out :=
  (oRet (mOp (ownD addD t_Add_Ratio t_rev0_Add) (mUn (ownU negD t_USub_Ratio) (mVar 0)) (mVar 1)))
def m_Ratio___rsub__ : List D → Res D := mDef 2 o_Ratio___rsub__
def t_SubR_Ratio : Cl → Option (List D → Res D)
  | .Ratio => some m_Ratio___rsub__
  | _ => none
def o_Signal_rows : Ev → Out :=
  (oRet (lst2Of (fLc2 [1] (iMap itD (mUn (fldD .u_table) (mVar 0))) (gN 1) mYes (fList (mVar 1)))))
def m_Signal_rows : List D → Res D := mDef 2 o_Signal_rows
def t_rows_Signal : Cl → Option (List D → Res D)
  | .Signal => some m_Signal_rows
  | _ => none
def o_blended : Ev → Out :=
  (oSeq (oIf (mBl (mOp neD (mUn (fldD .states) (mVar 1)) (mUn (fldD .states) (mVar 0)))) (oRaise (mX (xF1 .WrongLength .length) (mCons (mUn (fldD .states) (mVar 1)) mNil))) Out.nx)
    (oSeq (oSet 3 (mCall m_as_ratio (mCons (mVar 2) mNil)))
    (oSeq (oIf (mtOr (mBl (mOp ltD (mUn (fldD .top) (mVar 3)) (mCon (.int 0)))) (mBl (mOp gtD (mUn (fldD .top) (mVar 3)) (mUn (fldD .under) (mVar 3))))) (oRaise (mX (xF2 .BadNumber 22 .name .value) (mCons (mCon (.str "share")) (mCons (mVar 2) mNil)))) Out.nx)
    (oSeq (oIf (mBl (mOp gtD (mOp addD (mUn (fldD .outcomes) (mVar 0)) (mUn (fldD .outcomes) (mVar 1))) (mCon (.int 12)))) (oRaise (mX (xF2 .TooMany 10 .name .most) (mCons (mCon (.str "outcomes")) (mCons (mCon (.int 12)) mNil)))) Out.nx)
    (oSeq (oSet 4 (mOp (ownD subD t_bin0_Sub t_SubR_Ratio) (mCon (.int 1)) (mVar 3)))
    (oSeq (oSetF 5 (fLst mNil))
    (oSeq (oFor (iMapA zipD (mCons (mUn (attrD none t_rows_Signal) (mVar 0)) (mCons (mUn (attrD none t_rows_Signal) (mVar 1)) mNil))) (gTu (gCo (gN 6) (gCo (gN 7) gNi)))
    (oApp 5 (lstOf (fOp catL (lstOf (fLc [8] (iMap itD (mVar 6)) (gN 8) mYes (mOp (ownD mulD t_Mult_Ratio t_rev0_Mult) (mVar 8) (mVar 3)))) (lstOf (fLc [8] (iMap itD (mVar 7)) (gN 8) mYes (mOp (ownD mulD t_Mult_Ratio t_rev0_Mult) (mVar 8) (mVar 4))))))))
    (oFrz 5 (oRet (mCall (newD .Signal mi_Signal_1) (mCons (mVar 5) mNil)))))))))))
def m_blended : List D → Res D := mDef 9 o_blended
def tk_WatchError : Cl → Option Bool
  | .BadNumber => some true
  | .BadShares => some true
  | .NoPlace => some true
  | .TooMany => some true
  | .WrongLength => some true
  | .ZeroUnder => some true
  | _ => none
def tk_ValueError : Cl → Option Bool
  | .BadNumber => some true
  | .BadShares => some true
  | .NoPlace => some true
  | .TooMany => some true
  | .WrongLength => some true
  | .ZeroUnder => some true
  | _ => none
def tx_TooMany : Cl → Option Bool
  | .BadNumber => some false
  | .BadShares => some false
  | .NoPlace => some false
  | .TooMany => some true
  | .WrongLength => some false
  | .ZeroUnder => some false
  | _ => none
def tk_TooMany : Cl → Option Bool
  | .BadNumber => some false
  | .BadShares => some false
  | .NoPlace => some false
  | .TooMany => some true
  | .WrongLength => some false
  | .ZeroUnder => some false
  | _ => none
def tx_BadNumber : Cl → Option Bool
  | .BadNumber => some true
  | .BadShares => some false
  | .NoPlace => some false
  | .TooMany => some false
  | .WrongLength => some false
  | .ZeroUnder => some false
  | _ => none
def tk_BadNumber : Cl → Option Bool
  | .BadNumber => some true
  | .BadShares => some false
  | .NoPlace => some false
  | .TooMany => some false
  | .WrongLength => some false
  | .ZeroUnder => some false
  | _ => none
def tx_WrongLength : Cl → Option Bool
  | .BadNumber => some false
  | .BadShares => some false
  | .NoPlace => some false
  | .TooMany => some false
  | .WrongLength => some true
  | .ZeroUnder => some false
  | _ => none
def o__law_made : Ev → Out :=
  (oSeq (oSet 4 (mCon .non))
    (oSeq (oTry (oIf (mBl (mOp eqD (mVar 0) (mCon (.int 0)))) (oSet 4 (mOp (ownD mulD t_Mult_Signal t_rev0_Mult) (mVar 1) (mVar 2))) (oIf (mBl (mOp eqD (mVar 0) (mCon (.int 1)))) (oSet 4 (mOp (ownD noD t_BitAnd_Signal t_rev0_BitAnd) (mVar 1) (mVar 2))) (oSet 4 (mCall m_blended (mCons (mVar 1) (mCons (mVar 2) (mCons (mVar 3) mNil))))))) (⟨tx_WrongLength, some 5, (oSet 4 (mTup (mCons (mCon (.str "WrongLength")) (mCons (mXf 5 .length) (mCons (mAnd (mXi 5 tk_WatchError) (mBool (mtNot (mTru (mXi 5 tk_BadNumber))))) mNil)))))⟩ :: (⟨tx_BadNumber, some 6, (oSet 4 (mTup (mCons (mCon (.str "BadNumber")) (mCons (mXf 6 .name) (mCons (mXf 6 .value) (mCons (mAnd (mXi 6 tk_WatchError) (mBool (mtNot (mTru (mXi 6 tk_TooMany))))) mNil))))))⟩ :: (⟨tx_TooMany, some 7, (oSet 4 (mTup (mCons (mCon (.str "TooMany")) (mCons (mXf 7 .name) (mCons (mXf 7 .most) (mCons (mAnd (mXi 7 tk_WatchError) (mXi 7 tk_ValueError)) mNil))))))⟩ :: []))))
    (oRet (mVar 4))))
def m__law_made : List D → Res D := mDef 8 o__law_made
def tt_int : Cl → Bool
  | .Ratio => true
  | .Signal => true
  | _ => false
def tt_bool : Cl → Bool
  | .Ratio => true
  | .Signal => true
  | _ => false
def o__law_is_int : Ev → Out :=
  (oRet (mAnd (mUn (isiD (isTy "int" tt_int)) (mVar 0)) (mBool (mtNot (mTru (mUn (isiD (isTy "bool" tt_bool)) (mVar 0)))))))
def m__law_is_int : List D → Res D := mDef 1 o__law_is_int
def o_Ratio___eq__ : Ev → Out :=
  (oRet (mAnd (mUn (isiD (isOwn ti_Ratio)) (mVar 1)) (mAnd (mOp eqD (mUn (fldD .top) (mVar 0)) mStuck) (mOp eqD (mUn (fldD .under) (mVar 0)) mStuck))))
def m_Ratio___eq__ : List D → Res D := mDef 2 o_Ratio___eq__
def ti_Signal : Cl → Option Bool
  | .Ratio => some false
  | .Signal => some true
  | _ => none
def t_Eq_Ratio : Cl → Option (List D → Res D)
  | .Ratio => some m_Ratio___eq__
  | _ => none
def tt_str : Cl → Bool
  | .Ratio => true
  | .Signal => true
  | _ => false
def tt_tuple : Cl → Bool
  | .Ratio => true
  | .Signal => true
  | _ => false
def tt_list : Cl → Bool
  | .Ratio => true
  | .Signal => true
  | _ => false
def o__law_same (r : List D → Res D) : Ev → Out :=
  (oSeq (oIf (mBl (mOp isD (mVar 1) (mCon .non))) (oRet (mOp isD (mVar 0) (mCon .non))) Out.nx)
    (oSeq (oIf (mBl (mOp isD (mVar 1) (mCon (.bl true)))) (oRet (mOp isD (mVar 0) (mCon (.bl true)))) Out.nx)
    (oSeq (oIf (mBl (mOp isD (mVar 1) (mCon (.bl false)))) (oRet (mOp isD (mVar 0) (mCon (.bl false)))) Out.nx)
    (oSeq (oIf (mTru (mUn (isiD (isTy "int" tt_int)) (mVar 1))) (oRet (mAnd (mCall m__law_is_int (mCons (mVar 0) mNil)) (mOp (ownC eqD t_Eq_Ratio) (mVar 0) (mVar 1)))) Out.nx)
    (oSeq (oIf (mTru (mUn (isiD (isTy "str" tt_str)) (mVar 1))) (oRet (mAnd (mUn (isiD (isTy "str" tt_str)) (mVar 0)) (mOp eqD (mVar 0) (mVar 1)))) Out.nx)
    (oSeq (oIf (mTru (mUn (isiD (isTy "tuple" tt_tuple)) (mVar 1))) (oIf (mtOr (mtNot (mTru (mUn (isiD (isTy "tuple" tt_tuple)) (mVar 0)))) (mBl (mOp neD (mCall lenD (mCons (mVar 0) mNil)) (mCall lenD (mCons (mVar 1) mNil))))) (oRet (mCon (.bl false))) Out.nx) (oIf (mtOr (mtNot (mTru (mUn (isiD (isTy "list" tt_list)) (mVar 0)))) (mBl (mOp neD (mCall lenD (mCons (mVar 0) mNil)) (mCall lenD (mCons (mVar 1) mNil))))) (oRet (mCon (.bl false))) Out.nx))
    (oSeq (oFor (iMapA rng1 (mCons (mCall lenD (mCons (mVar 1) mNil)) mNil)) (gN 2)
    (oIf (mtNot (mTru (mCall r (mCons (mOp ixD (mVar 0) (mVar 2)) (mCons (mOp ixD (mVar 1) (mVar 2)) mNil))))) (oRet (mCon (.bl false))) Out.nx))
    (oRet (mCon (.bl true))))))))))
def mr__law_same : Nat → List D → Res D
  | 0 => fun _ => .stuck
  | n + 1 => mDef 3 (o__law_same (mr__law_same n))
abbrev m__law_same : List D → Res D := mr__law_same 8
def o__law_garbled : Ev → Out :=
  (oSeq (oSetF 4 (fLst mNil))
    (oSeq (oFor (iMap itD (mVar 0)) (gN 5)
    (oSeq (oSetF 6 (fLst mNil))
    (oSeq (oFor (iMapA rng1 (mCons (mCall lenD (mCons (mOp ixD (mVar 2) (mCon (.int 0))) mNil)) mNil)) (gN 7)
    (oApp 6 (mCall sumD (mCons (lstOf (fLc [8] (iMapA rng1 (mCons (mCall lenD (mCons (mVar 5) mNil)) mNil)) (gN 8) mYes (mOp mulD (mOp ixD (mVar 5) (mVar 8)) (mOp ixD (mOp ixD (mVar 2) (mVar 8)) (mVar 7))))) mNil))))
    (oFrz 6 (oApp 4 (mVar 6))))))
    (oFrz 4 (oRet (mTup (mCons (mVar 4) (mCons (mOp mulD (mVar 1) (mVar 3)) mNil)))))))
def m__law_garbled : List D → Res D := mDef 9 o__law_garbled
def o__law_is_ratio : Ev → Out :=
  (oSeq (oIf (mtOr (mtNot (mTru (mUn (isiD (isOwn ti_Ratio)) (mVar 0)))) (mtOr (mtNot (mTru (mCall m__law_is_int (mCons (mUn (fldD .top) (mVar 0)) mNil)))) (mtNot (mTru (mCall m__law_is_int (mCons (mUn (fldD .under) (mVar 0)) mNil)))))) (oRet (mCon (.bl false))) Out.nx)
    (oRet (mAnd (mOp geD (mUn (fldD .under) (mVar 0)) (mCon (.int 1))) (mOp eqD (mCall m__law_gcd (mCons (mUn (fldD .top) (mVar 0)) (mCons (mUn (fldD .under) (mVar 0)) mNil))) (mCon (.int 1))))))
def m__law_is_ratio : List D → Res D := mDef 1 o__law_is_ratio
def o__law_worth : Ev → Out :=
  (oRet (mAnd (mCall m__law_is_ratio (mCons (mVar 0) mNil)) (mOp eqD (mOp mulD (mUn (fldD .top) (mVar 0)) (mVar 2)) (mOp mulD (mVar 1) (mUn (fldD .under) (mVar 0))))))
def m__law_worth : List D → Res D := mDef 3 o__law_worth
def o__law_signal_is : Ev → Out :=
  (oSeq (oIf (mtOr (mtNot (mTru (mUn (isiD (isOwn ti_Signal)) (mVar 0)))) (mtNot (mTru (mCall m__law_same (mCons (mUn (fldD .states) (mVar 0)) (mCons (mCall lenD (mCons (mVar 1) mNil)) mNil)))))) (oRet (mCon (.bl false))) Out.nx)
    (oSeq (oIf (mtNot (mTru (mCall m__law_same (mCons (mUn (fldD .outcomes) (mVar 0)) (mCons (mCall lenD (mCons (mOp ixD (mVar 1) (mCon (.int 0))) mNil)) mNil))))) (oRet (mCon (.bl false))) Out.nx)
    (oSeq (oSet 3 (mUn (attrD none t_rows_Signal) (mVar 0)))
    (oSeq (oIf (mtOr (mtNot (mTru (mUn (isiD (isTy "list" tt_list)) (mVar 3)))) (mBl (mOp neD (mCall lenD (mCons (mVar 3) mNil)) (mCall lenD (mCons (mVar 1) mNil))))) (oRet (mCon (.bl false))) Out.nx)
    (oSeq (oFor (iMapA rng1 (mCons (mCall lenD (mCons (mVar 1) mNil)) mNil)) (gN 4)
    (oSeq (oIf (mtOr (mtNot (mTru (mUn (isiD (isTy "list" tt_list)) (mOp ixD (mVar 3) (mVar 4))))) (mBl (mOp neD (mCall lenD (mCons (mOp ixD (mVar 3) (mVar 4)) mNil)) (mCall lenD (mCons (mOp ixD (mVar 1) (mCon (.int 0))) mNil))))) (oRet (mCon (.bl false))) Out.nx)
    (oFor (iMapA rng1 (mCons (mCall lenD (mCons (mOp ixD (mVar 1) (mCon (.int 0))) mNil)) mNil)) (gN 5)
    (oIf (mtOr (mtNot (mTru (mCall m__law_worth (mCons (mOp ixD (mOp ixD (mVar 3) (mVar 4)) (mVar 5)) (mCons (mOp ixD (mOp ixD (mVar 1) (mVar 4)) (mVar 5)) (mCons (mVar 2) mNil)))))) (mtNot (mTru (mCall m__law_worth (mCons (mOp (ixO t_ix_Signal) (mVar 0) (mTup (mCons (mVar 4) (mCons (mVar 5) mNil)))) (mCons (mOp ixD (mOp ixD (mVar 1) (mVar 4)) (mVar 5)) (mCons (mVar 2) mNil))))))) (oRet (mCon (.bl false))) Out.nx))))
    (oRet (mCon (.bl true))))))))
def m__law_signal_is : List D → Res D := mDef 6 o__law_signal_is
def o__law_garbles : Ev → Out :=
  (oSeq (oSet 4 (mCall m__law_made (mCons (mCon (.int 0)) (mCons (mVar 0) (mCons (mVar 1) (mCons (mCon (.int 0)) mNil))))))
    (oSeq (oIf (mBl (mOp neD (mCall lenD (mCons (mOp ixD (mVar 3) (mCon (.int 0))) mNil)) (mCall lenD (mCons (mOp ixD (mOp ixD (mVar 2) (mCon (.int 0))) (mCon (.int 0))) mNil)))) (oRet (mCall m__law_same (mCons (mVar 4) (mCons (mTup (mCons (mCon (.str "WrongLength")) (mCons (mCall lenD (mCons (mOp ixD (mVar 3) (mCon (.int 0))) mNil)) (mCons (mCon (.bl true)) mNil)))) mNil)))) Out.nx)
    (oSeq (oAsg (gTu (gCo (gN 5) (gCo (gN 6) gNi))) (mCall m__law_garbled (mCons (mOp ixD (mVar 2) (mCon (.int 0))) (mCons (mOp ixD (mVar 2) (mCon (.int 1))) (mCons (mOp ixD (mVar 3) (mCon (.int 0))) (mCons (mOp ixD (mVar 3) (mCon (.int 1))) mNil))))))
    (oRet (mCall m__law_signal_is (mCons (mVar 4) (mCons (mVar 5) (mCons (mVar 6) mNil))))))))
def m__law_garbles : List D → Res D := mDef 7 o__law_garbles
def o__law_both : Ev → Out :=
  (oSeq (oSetF 4 (fLst mNil))
    (oSeq (oFor (iMapA rng1 (mCons (mCall lenD (mCons (mVar 0) mNil)) mNil)) (gN 5)
    (oSeq (oSet 6 (lstOf (fLst mNil)))
    (oSeq (oFor (iMap itD (mOp ixD (mVar 0) (mVar 5))) (gN 7)
    (oSet 6 (lstOf (fOp catL (mVar 6) (lstOf (fLc [8] (iMap itD (mOp ixD (mVar 2) (mVar 5))) (gN 8) mYes (mOp mulD (mVar 7) (mVar 8))))))))
    (oApp 4 (mVar 6)))))
    (oFrz 4 (oRet (mTup (mCons (mVar 4) (mCons (mOp mulD (mVar 1) (mVar 3)) mNil)))))))
def m__law_both : List D → Res D := mDef 9 o__law_both
def o__law_hears_both : Ev → Out :=
  (oSeq (oSet 4 (mCall m__law_made (mCons (mCon (.int 1)) (mCons (mVar 0) (mCons (mVar 1) (mCons (mCon (.int 0)) mNil))))))
    (oSeq (oIf (mBl (mOp neD (mCall lenD (mCons (mOp ixD (mVar 3) (mCon (.int 0))) mNil)) (mCall lenD (mCons (mOp ixD (mVar 2) (mCon (.int 0))) mNil)))) (oRet (mCall m__law_same (mCons (mVar 4) (mCons (mTup (mCons (mCon (.str "WrongLength")) (mCons (mCall lenD (mCons (mOp ixD (mVar 3) (mCon (.int 0))) mNil)) (mCons (mCon (.bl true)) mNil)))) mNil)))) Out.nx)
    (oSeq (oIf (mBl (mOp gtD (mOp mulD (mCall lenD (mCons (mOp ixD (mOp ixD (mVar 2) (mCon (.int 0))) (mCon (.int 0))) mNil)) (mCall lenD (mCons (mOp ixD (mOp ixD (mVar 3) (mCon (.int 0))) (mCon (.int 0))) mNil))) (mCon (.int 12)))) (oRet (mCall m__law_same (mCons (mVar 4) (mCons (mTup (mCons (mCon (.str "TooMany")) (mCons (mCon (.str "outcomes")) (mCons (mCon (.int 12)) (mCons (mCon (.bl true)) mNil))))) mNil)))) Out.nx)
    (oSeq (oAsg (gTu (gCo (gN 5) (gCo (gN 6) gNi))) (mCall m__law_both (mCons (mOp ixD (mVar 2) (mCon (.int 0))) (mCons (mOp ixD (mVar 2) (mCon (.int 1))) (mCons (mOp ixD (mVar 3) (mCon (.int 0))) (mCons (mOp ixD (mVar 3) (mCon (.int 1))) mNil))))))
    (oRet (mCall m__law_signal_is (mCons (mVar 4) (mCons (mVar 5) (mCons (mVar 6) mNil)))))))))
def m__law_hears_both : List D → Res D := mDef 7 o__law_hears_both
def o__law_number_is : Ev → Out :=
  (oSeq (oIf (mTru (mUn (isiD (isOwn ti_Ratio)) (mVar 0))) (oRet (mCall m__law_worth (mCons (mVar 0) (mCons (mVar 1) (mCons (mVar 2) mNil))))) Out.nx)
    (oRet (mAnd (mCall m__law_is_int (mCons (mVar 0) mNil)) (mOp eqD (mOp mulD (mVar 0) (mVar 2)) (mVar 1)))))
def m__law_number_is : List D → Res D := mDef 3 o__law_number_is
def o__law_is_blended : Ev → Out :=
  (oSeq (oSet 6 (mCall m__law_made (mCons (mCon (.int 2)) (mCons (mVar 0) (mCons (mVar 1) (mCons (mVar 5) mNil))))))
    (oSeq (oIf (mBl (mOp neD (mCall lenD (mCons (mOp ixD (mVar 3) (mCon (.int 0))) mNil)) (mCall lenD (mCons (mOp ixD (mVar 2) (mCon (.int 0))) mNil)))) (oRet (mCall m__law_same (mCons (mVar 6) (mCons (mTup (mCons (mCon (.str "WrongLength")) (mCons (mCall lenD (mCons (mOp ixD (mVar 3) (mCon (.int 0))) mNil)) (mCons (mCon (.bl true)) mNil)))) mNil)))) Out.nx)
    (oSeq (oIf (mtOr (mBl (mOp ltD (mOp ixD (mVar 4) (mCon (.int 0))) (mCon (.int 0)))) (mBl (mOp gtD (mOp ixD (mVar 4) (mCon (.int 0))) (mOp ixD (mVar 4) (mCon (.int 1)))))) (oSeq (oIf (mtOr (mtNot (mTru (mUn (isiD (isTy "tuple" tt_tuple)) (mVar 6)))) (mtOr (mBl (mOp neD (mCall lenD (mCons (mVar 6) mNil)) (mCon (.int 4)))) (mtOr (mBl (mOp neD (mOp ixD (mVar 6) (mCon (.int 0))) (mCon (.str "BadNumber")))) (mBl (mOp neD (mOp ixD (mVar 6) (mCon (.int 1))) (mCon (.str "share"))))))) (oRet (mCon (.bl false))) Out.nx)
    (oRet (mAnd (mCall m__law_number_is (mCons (mOp ixD (mVar 6) (mCon (.int 2))) (mCons (mOp ixD (mVar 4) (mCon (.int 0))) (mCons (mOp ixD (mVar 4) (mCon (.int 1))) mNil)))) (mOp isD (mOp ixD (mVar 6) (mCon (.int 3))) (mCon (.bl true)))))) Out.nx)
    (oSeq (oIf (mBl (mOp gtD (mOp addD (mCall lenD (mCons (mOp ixD (mOp ixD (mVar 2) (mCon (.int 0))) (mCon (.int 0))) mNil)) (mCall lenD (mCons (mOp ixD (mOp ixD (mVar 3) (mCon (.int 0))) (mCon (.int 0))) mNil))) (mCon (.int 12)))) (oRet (mCall m__law_same (mCons (mVar 6) (mCons (mTup (mCons (mCon (.str "TooMany")) (mCons (mCon (.str "outcomes")) (mCons (mCon (.int 12)) (mCons (mCon (.bl true)) mNil))))) mNil)))) Out.nx)
    (oSeq (oSetF 7 (fLst mNil))
    (oSeq (oFor (iMapA rng1 (mCons (mCall lenD (mCons (mOp ixD (mVar 2) (mCon (.int 0))) mNil)) mNil)) (gN 8)
    (oSeq (oSetL 9 (fLc [10] (iMap itD (mOp ixD (mOp ixD (mVar 2) (mCon (.int 0))) (mVar 8))) (gN 10) mYes (mOp mulD (mOp mulD (mVar 10) (mOp ixD (mVar 4) (mCon (.int 0)))) (mOp ixD (mVar 3) (mCon (.int 1))))))
    (oApp 7 (lstOf (fOp catL (mVar 9) (lstOf (fLc [10] (iMap itD (mOp ixD (mOp ixD (mVar 3) (mCon (.int 0))) (mVar 8))) (gN 10) mYes (mOp mulD (mOp mulD (mVar 10) (mOp subD (mOp ixD (mVar 4) (mCon (.int 1))) (mOp ixD (mVar 4) (mCon (.int 0))))) (mOp ixD (mVar 2) (mCon (.int 1)))))))))))
    (oRet (mPeek [7] (mCall m__law_signal_is (mCons (mVar 6) (mCons (mVar 7) (mCons (mOp mulD (mOp mulD (mOp ixD (mVar 2) (mCon (.int 1))) (mOp ixD (mVar 3) (mCon (.int 1)))) (mOp ixD (mVar 4) (mCon (.int 1)))) mNil))))))))))))
def m__law_is_blended : List D → Res D := mDef 11 o__law_is_blended
def t_rowsX2_Signal : Cl → Option (List D → Res D)
  | .Signal => some m_Signal_rows
  | _ => none
def o__law_kept : Ev → Out :=
  (oSeq (oSetF2 2 (asL2 (mUn (propN t_rowsX2_Signal) (mVar 0))))
    (oSeq (oAppIx 2 (mCon (.int 0)) (mCall (newD .Ratio mi_Ratio_1) (mCons (mCon (.int 9)) mNil)))
    (oSeq (oApp2D 2 (mCon .non))
    (oRet (mCall m__law_signal_is (mCons (mVar 0) (mCons (mOp ixD (mVar 1) (mCon (.int 0))) (mCons (mOp ixD (mVar 1) (mCon (.int 1))) mNil))))))))
def m__law_kept : List D → Res D := mDef 3 o__law_kept
def o_law_18 : Ev → Out :=
  (oRet (mCall m__law_garbles (mCons (mOp ixD (mVar 10) (mCon (.int 0))) (mCons (mOp ixD (mVar 10) (mCon (.int 1))) (mCons (mOp ixD (mVar 8) (mCon (.int 0))) (mCons (mOp ixD (mVar 8) (mCon (.int 1))) mNil))))))
def o_law_17 : Ev → Out :=
  (oSeq (oFor (iMapA rng1 (mCons (mCon (.int 3)) mNil)) (gN 3)
    (oIf (mtNot (mTru (mCall m__law_kept (mCons (mOp ixD (mVar 10) (mVar 3)) (mCons (mOp ixD (mVar 8) (mVar 3)) mNil))))) (oRet (mCon (.bl false))) Out.nx))
    o_law_18)
def o_law_16 : Ev → Out :=
  (oSeq (oFor (iMap itD (lstOf (fLst (mCons (mTup (mCons (mCon (.int 0)) (mCons (mCon (.int 2)) mNil))) (mCons (mTup (mCons (mCon (.int 2)) (mCons (mCon (.int 0)) mNil))) mNil))))) (gTu (gCo (gN 13) (gCo (gN 14) gNi)))
    (oSeq (oIf (mtNot (mTru (mCall m__law_hears_both (mCons (mOp ixD (mVar 10) (mVar 13)) (mCons (mOp ixD (mVar 10) (mVar 14)) (mCons (mOp ixD (mVar 8) (mVar 13)) (mCons (mOp ixD (mVar 8) (mVar 14)) mNil))))))) (oRet (mCon (.bl false))) Out.nx)
    (oIf (mtNot (mTru (mCall m__law_is_blended (mCons (mOp ixD (mVar 10) (mVar 13)) (mCons (mOp ixD (mVar 10) (mVar 14)) (mCons (mOp ixD (mVar 8) (mVar 13)) (mCons (mOp ixD (mVar 8) (mVar 14)) (mCons (mVar 11) (mCons (mVar 12) mNil))))))))) (oRet (mCon (.bl false))) Out.nx)))
    o_law_17)
def o_law_15 : Ev → Out :=
  (oSeq (oIf (mtNot (mTru (mCall m__law_garbles (mCons (mOp ixD (mVar 10) (mCon (.int 0))) (mCons (mOp ixD (mVar 10) (mCon (.int 1))) (mCons (mOp ixD (mVar 8) (mCon (.int 0))) (mCons (mOp ixD (mVar 8) (mCon (.int 1))) mNil))))))) (oRet (mCon (.bl false))) Out.nx)
    o_law_16)
def o_law_14 : Ev → Out :=
  (oSeq (oSet 12 (mCall m__law_number (mCons (mOp ixD (mVar 11) (mCon (.int 0))) (mCons (mOp ixD (mVar 11) (mCon (.int 1))) (mCons (mOp ixD (mVar 1) (mCon (.int 8))) mNil)))))
    o_law_15)
def o_law_13 : Ev → Out :=
  (oSeq (oSet 11 (mCall m__law_share (mCons (mCall m__law_cell (mCons (mVar 0) (mCons (mCon (.int 1)) mNil))) mNil)))
    o_law_14)
def o_law_12 : Ev → Out :=
  (oSeq (oSetL 10 (fLc [9] (iMap itD (mVar 7)) (gN 9) mYes (mCall m__law_signal (mCons (mVar 9) (mCons (mOp ixD (mVar 1) (mCon (.int 8))) mNil)))))
    o_law_13)
def o_law_11 : Ev → Out :=
  (oFrz 7 (oSeq (oSetL 8 (fLc [9] (iMap itD (mVar 7)) (gN 9) mYes (mCall m__law_table (mCons (mVar 9) mNil))))
    o_law_12))
def o_law_10 : Ev → Out :=
  (oSeq (oApp 7 (mCall m__law_signal_rows (mCons (mVar 0) (mCons (mCon (.int 26)) (mCons (mCon (.int 770)) (mCons (mPeek [6] (mOp ixD (mVar 6) (mCon (.int 2)))) (mCons (mVar 4) (mCons (mVar 5) mNil))))))))
    o_law_11)
def o_law_9 : Ev → Out :=
  (oSeq (oApp 7 (mCall m__law_signal_rows (mCons (mVar 0) (mCons (mCon (.int 14)) (mCons (mCon (.int 750)) (mCons (mPeek [6] (mOp ixD (mVar 6) (mCon (.int 1)))) (mCons (mVar 4) (mCons (mVar 5) mNil))))))))
    o_law_10)
def o_law_8 : Ev → Out :=
  (oSeq (oSetF 7 (fLst (mCons (mCall m__law_signal_rows (mCons (mVar 0) (mCons (mCon (.int 2)) (mCons (mCon (.int 730)) (mCons (mVar 2) (mCons (mVar 3) (mCons (mVar 5) mNil))))))) mNil)))
    o_law_9)
def o_law_7 : Ev → Out :=
  (oSeq (oIf (mBl (mOp eqD (mOp ixD (mVar 1) (mCon (.int 4))) (mCon (.int 1)))) (oSetIx 6 (mCon (.int 2)) (mOp addD (mOp modD (mCall intD (mCons (mVar 2) mNil)) (mCon (.int 12))) (mCon (.int 1)))) Out.nx)
    o_law_8)
def o_law_6 : Ev → Out :=
  (oSeq (oIf (mBl (mOp eqD (mOp ixD (mVar 1) (mCon (.int 4))) (mCon (.int 0)))) (oSetIx 6 (mCon (.int 1)) (mOp addD (mOp modD (mCall intD (mCons (mVar 3) mNil)) (mCon (.int 12))) (mCon (.int 1)))) Out.nx)
    o_law_7)
def o_law_5 : Ev → Out :=
  (oSeq (oSetF 6 (fLst (mCons (mVar 2) (mCons (mVar 3) (mCons (mVar 2) mNil)))))
    o_law_6)
def o_law_4 : Ev → Out :=
  (oSeq (oIf (mBl (mOp eqD (mOp ixD (mVar 1) (mCon (.int 0))) (mCon (.int 6)))) (oSet 5 (mOp powD (mCon (.int 10)) (mCon (.int 28)))) Out.nx)
    o_law_5)
def o_law_3 : Ev → Out :=
  (oSeq (oIf (mBl (mOp eqD (mOp ixD (mVar 1) (mCon (.int 0))) (mCon (.int 7)))) (o3 2 3 4 (mCons (mOp addD (mCon (.int 1)) (mOp ixD (mVar 1) (mCon (.int 5)))) (mCons (mOp addD (mCon (.int 1)) (mOp ixD (mVar 1) (mCon (.int 6)))) (mCons (mOp addD (mCon (.int 1)) (mOp ixD (mVar 1) (mCon (.int 7)))) mNil)))) Out.nx)
    o_law_4)
def o_law_2 : Ev → Out :=
  (oSeq (oSet 5 (mCon (.int 6)))
    o_law_3)
def o_law_1 : Ev → Out :=
  (oSeq (o3 2 3 4 (mCons (mOp addD (mCon (.int 1)) (mOp ixD (mVar 1) (mCon (.int 1)))) (mCons (mOp addD (mCon (.int 1)) (mOp ixD (mVar 1) (mCon (.int 2)))) (mCons (mOp addD (mCon (.int 1)) (mOp ixD (mVar 1) (mCon (.int 3)))) mNil))))
    o_law_2)
def o_law : Ev → Out :=
  (oSeq (oSet 1 (mCall m__law_draws (mCons (mCall m__law_cell (mCons (mVar 0) (mCons (mCon (.int 0)) mNil))) (mCons (mCon (.int 721)) (mCons (lstOf (fLst (mCons (mCon (.int 8)) (mCons (mCon (.int 4)) (mCons (mCon (.int 4)) (mCons (mCon (.int 4)) (mCons (mCon (.int 6)) (mCons (mCon (.int 12)) (mCons (mCon (.int 12)) (mCons (mCon (.int 12)) (mCons (mCon (.int 2)) mNil))))))))))) mNil)))))
    o_law_1)
def m_law : List D → Res D := mDef 15 o_law
end
end K68
namespace K68
open PySem PySem.Spec L2 PL
theorem cell_wp (ns : List Int) {k : Int} (hk : 0 ≤ k) {Q : D → Prop} {E : Err → Prop} (hq : ∀ c : Int, 0 ≤ c → Q (.int c)) : wr (m__law_cell [.lst (ns.map D.int), .int k]) Q E := by
  refine wr_def ?_
  simp only [o__law_cell, ev0]
  simp
  split
  · rename_i h
    rw [atI_of hk, List.getElem?_map, List.getElem?_eq_getElem (by omega)]
    simp
    refine hq _ ?_
    split <;> omega
  · exact hq 0 (Int.le_refl 0)
theorem ints_get {ns : List Int} {i : Nat} {d : D} (h : (ns.map D.int)[i]? = some d) : ∃ n, ns[i]? = some n ∧ d = .int n := by
  rw [List.getElem?_map] at h
  obtain ⟨n, e1, e2⟩ := Option.map_eq_some_iff.mp h
  exact ⟨n, e1, e2.symm⟩
theorem pow_1018 : CPow 10 18 := by
  unfold CPow
  omega
/-- the word of the loop: as many are found as there were turns, each below its menu -/
def DrawI (cell salt : Int) (menu : List Int) (i : Nat) (ρ : Ev) : Prop :=
  ∃ (found : List Int) (rest mixed : Int) (s : Sl), ρ = [.dat (.int cell), .dat (.int salt), .dat (.lst (menu.map .int)), .own (found.map .int), .dat (.int rest), .dat (.int mixed), s] ∧ found.length = i ∧
    (∀ (j : Nat) (x m : Int), found[j]? = some x → menu[j]? = some m → 0 ≤ x ∧ x < m) ∧ (rest < 0 → 0 ≤ mixed ∧ mixed < 10000000000000000000)
theorem draws_wp {cell salt : Int} {menu : List Int} (h0 : 0 ≤ cell) (h1 : 0 ≤ salt) (h2 : salt < 1000000) (hm : ∀ m ∈ menu, 1 ≤ m ∧ Bd 8000 m) (hl : menu.length < 100000) {Q : D → Prop} {E : Err → Prop}
    (hq : ∀ xs : List Int, xs.length = menu.length → (∀ (j : Nat) (x m : Int), xs[j]? = some x → menu[j]? = some m → 0 ≤ x ∧ x < m) → Q (.lst (xs.map .int))) : wr (m__law_draws [.int cell, .int salt, .lst (menu.map .int)]) Q E := by
  refine wr_def ?_
  simp only [o__law_draws, ev0]
  simp
  have sz : sizeLine = 16777216 := sizeLine_eq
  refine ⟨pow_1018, cmul_small (by omega) (by omega) (by omega) (by omega), by omega, ?_⟩
  refine for_inv (DrawI cell salt menu) ?_ ?_ ?_
  · exact ⟨[], _, _, _, rfl, rfl, fun j x m h => by simp at h, fun h => by omega⟩
  · rintro i d ρ hi ⟨found, rest, mixed, s, rfl, hlen, hf, hr⟩
    obtain ⟨hi2, rfl⟩ := rngL_get hi
    refine ⟨_, rfl, ?_⟩
    have hi3 : i < menu.length := by simpa using hi2
    obtain ⟨m1, m2⟩ := hm _ (List.getElem_mem hi3)
    have at1 : atI (menu.map D.int) (0 + (i : Int)) = some (.int menu[i]) := by
      rw [atI_of (by omega), List.getElem?_map, List.getElem?_eq_getElem (by omega)]
      simp
    have step : ∀ x : Int, 0 ≤ x → x < menu[i] → ∀ (j : Nat) (y m : Int), (found ++ [x])[j]? = some y → menu[j]? = some m → 0 ≤ y ∧ y < m := fun x x0 x1 j y m e1 e2 => by
      by_cases z : j < found.length
      · rw [List.getElem?_append_left z] at e1
        exact hf j y m e1 e2
      · have z2 : j = i := by
          have := (List.getElem?_eq_some_iff.mp e1).1
          rw [List.length_append, List.length_singleton] at this
          omega
        subst z2
        rw [List.getElem?_append_right (by omega)] at e1
        simp [hlen] at e1
        rw [List.getElem?_eq_getElem hi3] at e2
        cases e2
        subst e1
        exact ⟨x0, x1⟩
    have at1' : atI (menu.map D.int) (i : Int) = some (.int menu[i]) := by
      rw [atI_nn, List.getElem?_map, List.getElem?_eq_getElem hi3]
      rfl
    have nz : menu[i] ≠ 0 := by omega
    have mp : 0 < menu[i] := by omega
    have done : ∀ (x rest' mixed' : Int), 0 ≤ x → x < menu[i] → (rest' < 0 → 0 ≤ mixed' ∧ mixed' < 10000000000000000000) → DrawI cell salt menu (i + 1) [.dat (.int cell), .dat (.int salt), .dat (.lst (menu.map .int)), .own (found.map .int ++ [.int x]), .dat (.int rest'), .dat (.int mixed'), .dat (.int i)] := fun x rest' mixed' x0 x1 hr' =>
      ⟨found ++ [x], rest', mixed', _, by rw [List.map_append]; rfl, by rw [List.length_append, hlen]; rfl, step x x0 x1, hr'⟩
    simp [at1']
    split
    · rename_i h
      refine ⟨nz, by omega, ⟨m2.div nz (by decide), done _ _ _ (Int.fmod_nonneg_of_pos _ mp) (Int.fmod_lt_of_pos _ mp) fun z => absurd z ?_⟩⟩
      have := Int.fdiv_nonneg h (by omega : 0 ≤ menu[i])
      omega
    · rename_i h
      obtain ⟨r1, r2⟩ := hr (by omega)
      have a0 := Int.fmod_nonneg_of_pos (mixed * mixed + 3571 * ((i : Int) + 1) + 40692) (by decide : (0 : Int) < 2147483399)
      have a1 := Int.fmod_lt_of_pos (mixed * mixed + 3571 * ((i : Int) + 1) + 40692) (by decide : (0 : Int) < 2147483399)
      generalize (mixed * mixed + 3571 * ((i : Int) + 1) + 40692).fmod 2147483399 = a at a0 a1 ⊢
      have b0 := Int.fmod_nonneg_of_pos (a * a + a.fdiv 97) (by decide : (0 : Int) < 2147483629)
      have b1 := Int.fmod_lt_of_pos (a * a + a.fdiv 97) (by decide : (0 : Int) < 2147483629)
      generalize (a * a + a.fdiv 97).fmod 2147483629 = b at b0 b1 ⊢
      refine ⟨cmul_small (by omega) (by omega) (by omega) (by omega), cmul_small (by omega) (by omega) (by omega) (by omega), cmul_small (by omega) (by omega) (by omega) (by omega), div_small (by decide) (by decide) (by decide), div_small (by decide) (by decide) (by decide), nz, by omega, done _ _ _ (Int.fmod_nonneg_of_pos _ mp) (Int.fmod_lt_of_pos _ mp) fun z => ⟨b0, by omega⟩⟩
  · rintro ρ ⟨found, rest, mixed, s, rfl, hlen, hf, hr⟩
    simp at hlen
    simp [freeze]
    exact hq found hlen hf
theorem gcd_eq (a b : Int) : m__law_gcd [.int a, .int b] = .ok (.int (Int.gcd a b)) := by
  refine wr_eq (wr_def ?_)
  simp only [o__law_gcd, ev0]
  simp
  refine while_inv (fun n ρ => ∃ x y : Nat, ρ = [.dat (.int x), .dat (.int y)] ∧ Nat.gcd x y = Int.gcd a b ∧ n = y) (n := b.natAbs) ⟨a.natAbs, b.natAbs, ?_, rfl, rfl⟩ ?_
  · have e : ∀ z : Int, (if z < 0 then -z else z) = (z.natAbs : Int) := fun z => by split <;> omega
    rw [e, e]
  · rintro n ρ ⟨x, y, rfl, hg, rfl⟩
    simp
    split
    · rename_i h
      refine ⟨by omega, x % n, Nat.mod_lt _ h, n, ⟨rfl, ?_⟩, ?_⟩
      · rw [Int.fmod_eq_emod_of_nonneg _ (Int.natCast_nonneg n), Int.natCast_emod]
      · rw [← hg, Nat.gcd_comm n, ← Nat.gcd_rec, Nat.gcd_comm]
    · rename_i h
      have : n = 0 := by omega
      subst this
      rw [Nat.gcd_zero_right] at hg
      rw [hg]
theorem is_int_wp (x : D) {Q : D → Prop} {E : Err → Prop} (hc : ∀ c fs, x = .obj c fs → tt_int c = true ∧ tt_bool c = true) (h : Q (.bl (isI x))) : wr (m__law_is_int [x]) Q E := by
  refine wr_def ?_
  simp only [o__law_is_int, ev0]
  cases x with
  | obj c fs =>
    obtain ⟨h1, h2⟩ := hc c fs rfl
    simp [isTy, h1]
    exact h
  | _ =>
    simp
    exact h
theorem lcm_wp {ns : List Int} {k : Nat} (hn : ∀ n ∈ ns, 1 ≤ n ∧ Bd k n) (hk : k ≤ 9000) (hl : ns.length ≤ 10000) {Q : D → Prop} {E : Err → Prop}
    (hq : ∀ L : Int, 0 < L → (∀ n ∈ ns, n ∣ L) → Bd (k * ns.length + 1) L → Q (.int L)) : wr (m__law_lcm [.lst (ns.map D.int)]) Q E := by
  refine wr_def ?_
  simp only [o__law_lcm, ev0]
  simp
  refine for_inv (fun i ρ => ∃ (L : Int) (s : Sl), ρ = [.dat (.lst (ns.map D.int)), .dat (.int L), s] ∧ 0 < L ∧ (∀ n ∈ ns.take i, n ∣ L) ∧ Bd (k * i + 1) L) ?_ ?_ ?_
  · exact ⟨1, _, rfl, by decide, fun n h => by simp at h, by unfold Bd; simp⟩
  · rintro i d ρ hi ⟨L, s, rfl, h1, h2, h3⟩
    obtain ⟨n, hn2, rfl⟩ := ints_get hi
    have hlt := (List.getElem?_eq_some_iff.mp hn2).1
    have hmem : n ∈ ns := List.mem_of_getElem? hn2
    obtain ⟨n1, n2⟩ := hn n hmem
    refine ⟨_, rfl, ?_⟩
    have hg : (Int.gcd L n : Int) ∣ L := Int.gcd_dvd_left L n
    have hg2 : (Int.gcd L n : Int) ∣ n := Int.gcd_dvd_right L n
    have hg0 : (Int.gcd L n : Int) ≠ 0 := fun z => by
      rw [z] at hg
      have := Int.zero_dvd.mp hg
      omega
    simp [gcd_eq]
    have e := fdiv_mul hg
    obtain ⟨m, hm⟩ := hg2
    generalize hq : L.fdiv (Int.gcd L n) = q at e ⊢
    have gpos : 0 < (Int.gcd L n : Int) := by omega
    have q0 : 0 < q := pos_of_mul (by rw [e]; exact h1) gpos
    have hL : L ∣ q * n := ⟨m, by rw [hm, ← Int.mul_assoc, e]⟩
    have qL : q ≤ L := by rw [← e]; exact le_mul_pos (Int.le_of_lt q0) gpos
    have bq : Bd (k * i + 1) q := h3.le (Int.le_of_lt q0) qL
    have hz : k * i ≤ 9000 * 10000 := Nat.mul_le_mul hk (by omega)
    refine ⟨(n2.dvd (by omega) ⟨m, hm⟩).div hg0 hk, bq.cmul n2 (by omega), Int.mul_pos q0 (by omega), fun y hy => ?_, (bq.mul n2).mono (by rw [Nat.mul_succ]; omega)⟩
    rw [List.take_add_one, hn2] at hy
    rcases List.mem_append.mp hy with hy | hy
    · exact Int.dvd_trans (h2 y hy) hL
    · have : y = n := by simpa using hy
      subst this
      exact ⟨q, Int.mul_comm _ _⟩
  · rintro ρ ⟨L, s, rfl, h1, h2, h3⟩
    simp
    refine hq L h1 ?_ ?_
    · simpa using h2
    · simpa using h3
theorem init_wp {t u : Int} (hu : u ≠ 0) (hg : Bd 9000 (Int.gcd t u)) {Q : List (Nm × D) → Prop} {E : Err → Prop} (hq : Q [(.top, .int (Rat.divInt t u).num), (.under, .int (Rat.divInt t u).den)]) : wr (mi0_Ratio [.int t, .int u]) Q E := by
  have gn : (Int.gcd t u : Int) ≠ 0 := fun z => by
    have := Int.gcd_eq_zero_iff.mp (Int.ofNat_eq_zero.mp z)
    omega
  refine wr_ini ?_
  simp only [o_Ratio___init__, ev0]
  simp [hu]
  by_cases z : u < 0
  · obtain ⟨e1, e2⟩ := divInt_partsN (t := t) z
    simp [z]
    refine ⟨Bd.div hg.neg (by omega) (by decide), Bd.div hg.neg (by omega) (by decide), ?_⟩
    rw [← e1, ← e2]
    exact hq
  · obtain ⟨e1, e2⟩ := divInt_parts (t := t) (u := u) (by omega)
    simp [z]
    refine ⟨Bd.div hg gn (by decide), Bd.div hg gn (by decide), ?_⟩
    rw [← e1, ← e2]
    exact hq
theorem R_def (q : Rat) : D.obj .Ratio [(.top, .int q.num), (.under, .int q.den)] = R q := id rfl
theorem make2_wp {t u : Int} (hu : u ≠ 0) (hg : Bd 9000 (Int.gcd t u)) {Q : D → Prop} {E : Err → Prop} (hq : Q (R (Rat.divInt t u))) : wr (newD .Ratio mi_Ratio_2 [.int t, .int u]) Q E := by
  rw [wo_new]
  exact init_wp hu hg hq
theorem divInt_one (t : Int) : Rat.divInt t 1 = (t : Rat) := by
  have := Rat.num_divInt_den (t : Rat)
  exact this
theorem make1_wp {t : Int} {Q : D → Prop} {E : Err → Prop} (hq : Q (R t)) : wr (newD .Ratio mi_Ratio_1 [.int t]) Q E := by
  rw [wo_new]
  refine init_wp (u := 1) (by decide) (by rw [Int.gcd_one_right]; exact Bd.mono (n := 1) (by unfold Bd; decide) (by decide)) ?_
  rw [divInt_one]
  exact hq
@[simp] theorem isOwn_R {q : Rat} : isOwn ti_Ratio (R q) = some true := id rfl
theorem as_ratio_R (q : Rat) : m_as_ratio [R q] = .ok (R q) := by
  refine wr_eq (wr_def ?_)
  simp only [o_as_ratio, ev0]
  simp
theorem as_ratio_I (i : Int) : m_as_ratio [.int i] = .ok (R i) := by
  refine wr_eq (wr_def ?_)
  simp only [o_as_ratio, ev0]
  simp
  exact make1_wp rfl
theorem as_num {d : D} {q : Rat} (h : NumD d q) : m_as_ratio [d] = .ok (R q) := by
  cases h with
  | int i => exact as_ratio_I i
  | rat q => exact as_ratio_R q
theorem add_eq {n m : Nat} {p q : Rat} {d : D} (hp : Sz n p) (hd : NumD d q) (hq : Sz m q) (l : 2 * m ≤ 9000) (l2 : n ≤ 100000000) : m_Ratio___add__ [R p, d] = .ok (R (p + q)) := by
  have h1 := den_pos p
  have h2 := den_pos q
  refine wr_eq (wr_def ?_)
  simp only [o_Ratio___add__, ev0]
  simp [as_num hd]
  refine ⟨hp.1.cmul hq.2 (by omega), hq.1.cmul hp.2 (by omega), hp.2.cmul hq.2 (by omega), ?_⟩
  exact make2_wp (Int.ne_of_gt (Int.mul_pos h1 h2)) (gcd_add_bd (n := n) hq l) (by rw [add_divInt])
theorem mul_eq {n m : Nat} {p q : Rat} {d : D} (hp : Sz n p) (hd : NumD d q) (hq : Sz m q) (l : n + m ≤ 9000) : m_Ratio___mul__ [R p, d] = .ok (R (p * q)) := by
  have h1 := den_pos p
  have h2 := den_pos q
  have h3 := Int.mul_pos h1 h2
  refine wr_eq (wr_def ?_)
  simp only [o_Ratio___mul__, ev0]
  simp [as_num hd]
  refine ⟨hp.1.cmul hq.1 (by omega), hp.2.cmul hq.2 (by omega), ?_⟩
  exact make2_wp (Int.ne_of_gt h3) (((hp.2.mul hq.2).mono l).dvd (Int.ne_of_gt h3) (Int.gcd_dvd_right _ _)) (by rw [mul_divInt])
theorem op_own {base : D → D → Res D} {ps rs : Cl → Option (List D → Res D)} {p q : Rat} {d r : D} {g : List D → Res D} (hd : NumD d q) (h : ps .Ratio = some g) (e : g [R p, d] = .ok r) {Q : D → Prop} {E : Err → Prop} (hq : Q r) : wr (ownD base ps rs (R p) d) Q E := by
  cases hd with
  | int i => rw [wo_ownRI h]; exact wr_of e hq
  | rat q => rw [wo_ownRR h]; exact wr_of e hq
theorem law_number_eq {plain : Int} {p : Int × Int} (hu : 0 < p.2) (hb : Bd 9000 p.2) : m__law_number [.int p.1, .int p.2, .int plain] = .ok (numP plain p) := by
  refine wr_eq (wr_def ?_)
  simp only [o__law_number, ev0]
  have hz : p.2 ≠ 0 := by omega
  have mk : wr (newD .Ratio mi_Ratio_2 [.int p.1, .int p.2]) (fun d => d = R (Rat.divInt p.1 p.2)) noE := make2_wp hz (hb.dvd hz (Int.gcd_dvd_right _ _)) rfl
  simp
  unfold numP
  by_cases h1 : plain = 1
  · by_cases h2 : p.1.fmod p.2 = 0
    · simp [h1, h2, hz]
      exact Bd.div hb hz (by decide)
    · simp [h1, h2, hz]
      exact mk
  · simp [h1]
    exact mk
/-- a pair as it should be -/
def PairOk (n : Nat) (p : Int × Int) : Prop := 0 < p.2 ∧ Bd n p.1 ∧ Bd n p.2
theorem PairOk.sz {n : Nat} {p : Int × Int} (h : PairOk n p) : Sz n (Rat.divInt p.1 p.2) := divInt_size h.2.1 h.2.2 (Int.ne_of_gt h.1)
theorem radd_eq {n : Nat} {q : Rat} {i : Int} (hq : Sz n q) (hi : Bd 4000 i) (l : n ≤ 100000000) : m_Ratio___radd__ [R q, .int i] = .ok (R (q + i)) := by
  refine wr_eq (wr_def ?_)
  simp only [o_Ratio___radd__, ev0]
  simp
  exact op_own (.int i) rfl (add_eq hq (.int i) (Sz.int hi (by decide)) (by decide) l) rfl
theorem own_int {n : Nat} {q : Rat} {i : Int} (hq : Sz n q) (hi : Bd 4000 i) (l : n ≤ 100000000) : ownD addD t_Add_Ratio t_AddR_Ratio (.int i) (R q) = .ok (R (q + i)) := wr_eq (by
  rw [wo_ownIR (rs := t_AddR_Ratio) (g := m_Ratio___radd__) rfl]
  exact wr_of (radd_eq hq hi l) rfl)
theorem sumGo_eq {n : Nat} : ∀ (qs : List Rat) (a : Rat) (s : Nat), (∀ q ∈ qs, Sz n q) → Sz s a → n ≤ 4000 → s + qs.length * (n + 1) ≤ 100000000 → sumGo (ownD addD t_Add_Ratio t_AddR_Ratio) (R a) (qs.map R) = .ok (R (qs.foldl (· + ·) a))
  | [], _, _, _, _, _, _ => rfl
  | q :: qs, a, s, h, hs, hn, l => by
    have hq := h q List.mem_cons_self
    rw [List.length_cons, Nat.succ_mul] at l
    have e : ownD addD t_Add_Ratio t_AddR_Ratio (R a) (R q) = .ok (R (a + q)) := wr_eq (op_own (.rat q) rfl (add_eq hs (.rat q) hq (by omega) (by omega)) rfl)
    rw [List.map_cons, sumGo_cons e]
    exact sumGo_eq qs (a + q) (s + n + 1) (fun x hx => h x (List.mem_cons_of_mem _ hx)) (hs.add hq) hn (by omega)
theorem sumO_eq {n : Nat} {q : Rat} {qs : List Rat} (h : ∀ x ∈ q :: qs, Sz n x) (hn : n ≤ 4000) (l : qs.length ≤ 10000) : sumO (ownD addD t_Add_Ratio t_AddR_Ratio) [.lst ((q :: qs).map R)] = .ok (R ((q :: qs).foldl (· + ·) 0)) := by
  have hq := h q List.mem_cons_self
  have e := own_int (i := 0) hq (Bd.mono (n := 1) (by unfold Bd; decide) (by decide)) (by omega)
  have e0 : q + ((0 : Int) : Rat) = 0 + q := Rat.add_comm q 0
  rw [e0] at e
  rw [sumO_go, List.map_cons, List.foldl_cons, sumGo_cons e]
  have hz : qs.length * (n + 1) ≤ 10000 * 4001 := Nat.mul_le_mul l (by omega)
  exact sumGo_eq qs (0 + q) (1 + n + 1) (fun x hx => h x (List.mem_cons_of_mem _ hx)) (Sz.zero.add hq) hn (by omega)
theorem shares_ok {n : Nat} {q : Rat} {qs : List Rat} (h : ∀ x ∈ q :: qs, Sz n x ∧ 0 ≤ x) (hn : n ≤ 4000) (l : qs.length ≤ 10000) (hs : (q :: qs).foldl (· + ·) 0 = 1) : m_shares_checked [.lst ((q :: qs).map R)] = .ok .non := by
  refine wr_eq (wr_def ?_)
  simp only [o_shares_checked, ev0]
  simp only [wp_seq, wp_for, wm_iMap, wm_var]
  simp
  refine for_rem (fun r ρ => ∃ (s1 s2 : Sl) (xs : List Rat), ρ = [.dat (.lst (R q :: qs.map R)), s1, s2] ∧ r = xs.map R ∧ ∀ x ∈ xs, 0 ≤ x) ?_ ?_ ?_
  · exact ⟨_, _, q :: qs, rfl, rfl, fun x hx => (h x hx).2⟩
  · rintro J hJ d r ρ ⟨s1, s2, xs, rfl, hr, hx⟩
    cases xs with
    | nil => cases hr
    | cons x xs =>
      cases hr
      refine ⟨_, rfl, ?_⟩
      have x0 : 0 ≤ x.num := Rat.num_nonneg.mpr (hx x List.mem_cons_self)
      simp [show ¬ x.num < 0 by omega]
      exact hJ _ _ ⟨_, _, xs, rfl, rfl, fun y hy => hx y (List.mem_cons_of_mem _ hy)⟩
  · intro ρ hI
    obtain ⟨s1, s2, xs, er, hr, hx⟩ := hI
    subst er
    have e := sumO_eq (fun x hx => (h x hx).1) hn l
    rw [hs, List.map_cons] at e
    simp [e, as_ratio_R]
/-- a signal as an instance -/
def S (k : Nat) (rows : List (List Rat)) : D := .obj .Signal [(.states, .int rows.length), (.outcomes, .int k), (.u_table, .tup (rows.map fun r => .tup (r.map R)))]
/-- rows that make a signal -/
structure RowOk (n k : Nat) (r : List Rat) : Prop where
  len : r.length = k
  sz : ∀ x ∈ r, Sz n x ∧ 0 ≤ x
  sum : r.foldl (· + ·) 0 = 1
theorem chances_wp {ds : List D} {qs : List Rat} (h : NumDs ds qs) (f : D → Ev → Option Ev) (m : Ev → Res D) (ρ : Ev) (hm : ∀ (d : D) (q : Rat), NumD d q → ∃ ρ1, f d ρ = some ρ1 ∧ m ρ1 = .ok (R q)) : lcGo f mYes m ρ ds = .ok (qs.map R) := by
  induction h with
  | nil => rfl
  | cons hd _ ih =>
    obtain ⟨ρ1, e1, e2⟩ := hm _ _ hd
    unfold lcGo
    rw [e1]
    simp only [mYes, ok_bind, if_true]
    rw [e2, ok_bind, ih]
    rfl
theorem atD_lst {ds : List (List D)} {i : Nat} : (ds.map D.lst)[i]? = (ds[i]?).map D.lst := List.getElem?_map
theorem signal_eq {n k : Nat} {d0 : List D} {ds : List (List D)} {q0 : List Rat} {qs : List (List Rat)} (h0 : NumDs d0 q0) (hd : NumDss ds qs) (r0 : RowOk n k q0) (hr : ∀ q ∈ qs, RowOk n k q) (hn : n ≤ 4000) (k1 : 1 ≤ k) (k2 : k ≤ 12) (hl : qs.length < 12) :
    mi0_Signal [.lst (.lst d0 :: ds.map .lst)] = .ok [(.states, .int (q0 :: qs).length), (.outcomes, .int k), (.u_table, .tup ((q0 :: qs).map fun r => .tup (r.map R)))] := by
  have sz : sizeLine = 16777216 := sizeLine_eq
  have l0 : d0.length = k := by rw [h0.length, r0.len]
  have l1 := hd.length
  refine wr_eq (wr_ini ?_)
  simp only [o_Signal___init__, ev0]
  simp [mInsC, t_MOST_Signal]
  rw [if_neg (by omega), if_neg (by omega), if_neg (by intro z; rw [z, List.length_nil] at l0; omega), if_neg (by omega)]
  refine for_rem (fun r ρ => ∃ (s3 s4 s5 : Sl) (es : List (List D)) (vs done : List (List Rat)), ρ = [.ins .Signal [], .dat (.lst (.lst d0 :: ds.map .lst)), .own (done.map fun r => .tup (r.map R)), s3, s4, s5] ∧ r = es.map .lst ∧ NumDss es vs ∧ (∀ q ∈ vs, RowOk n k q) ∧ done ++ vs = q0 :: qs) ?_ ?_ ?_
  · exact ⟨_, _, _, d0 :: ds, q0 :: qs, [], rfl, rfl, .cons h0 hd, fun q hq => (List.mem_cons.mp hq).elim (fun z => z ▸ r0) (hr q), rfl⟩
  · rintro J hJ d r ρ ⟨s3, s4, s5, es, vs, done, er, e1, e2, e3, e4⟩
    subst er
    cases e2 with
    | nil => cases e1
    | @cons e v es vs he hes2 =>
      cases e1
      have hv := e3 v List.mem_cons_self
      have le : e.length = k := by rw [he.length, hv.len]
      have hdl : done.length < 12 := by
        have := congrArg List.length e4
        rw [List.length_append, List.length_cons, List.length_cons] at this
        omega
      refine ⟨_, rfl, ?_⟩
      obtain ⟨x, xs, ev⟩ : ∃ x xs, v = x :: xs := by
        cases v with
        | nil => have := hv.len; simp at this; omega
        | cons x xs => exact ⟨x, xs, rfl⟩
      have hsh : m_shares_checked [.lst (v.map R)] = .ok .non := by
        rw [ev] at hv ⊢
        exact shares_ok hv.sz hn (by have := hv.len; rw [List.length_cons] at this; omega) hv.sum
      have hch : ∀ (f : D → Ev → Option Ev) (ρ : Ev), f = gN 5 → 5 < ρ.length → lcGo f mYes (mCall m_as_ratio (mCons (mVar 5) mNil)) ρ e = .ok (v.map R) := fun f ρ hf hρ => by
        subst hf
        refine chances_wp he _ _ _ fun d q hdq => ⟨_, rfl, ?_⟩
        refine wr_eq ?_
        simp [as_num hdq, List.getElem?_set_self hρ]
      simp [l0, le]
      refine wm_lcOf (xs := e) (ys := v.map R) (by simp) (hch _ _ rfl (by simp [wipeE])) (by rw [List.length_map, hv.len]; omega) ?_
      simp [hsh]
      refine ⟨by omega, hJ _ _ ⟨.dat (.lst e), .dat (.lst (v.map R)), s5, es, vs, done ++ [v], ?_, rfl, hes2, fun q hq => e3 q (List.mem_cons_of_mem _ hq), by rw [List.append_assoc]; exact e4⟩⟩
      rw [List.map_append]
      rfl
  · rintro ρ ⟨s3, s4, s5, es, vs, done, er, e1, e2, e3, e4⟩
    subst er
    cases e2 with
    | cons _ _ => cases e1
    | nil =>
      rw [List.append_nil] at e4
      subst e4
      simp [mOwnT, ownOf, l0]
      omega
section
variable {Q : D → Prop} {E : Err → Prop} {k : Nat} {rows : List (List Rat)}
@[simp] theorem wo_states : wr (fldD .states (S k rows)) Q E = Q (.int rows.length) := by unfold wr; rfl
@[simp] theorem wo_outcomes : wr (fldD .outcomes (S k rows)) Q E = Q (.int k) := by unfold wr; rfl
@[simp] theorem wo_table : wr (fldD .u_table (S k rows)) Q E = Q (.tup (rows.map fun r => .tup (r.map R))) := by unfold wr; rfl
theorem getitem_eq {i j : Nat} {r : List Rat} {q : Rat} (hi : rows[i]? = some r) (hj : r[j]? = some q) (hk : r.length = k) : m_Signal___getitem__ [S k rows, .tup [.int i, .int j]] = .ok (R q) := by
  have li := (List.getElem?_eq_some_iff.mp hi).1
  have lj := (List.getElem?_eq_some_iff.mp hj).1
  refine wr_eq (wr_def ?_)
  simp only [o_Signal___getitem__, ev0]
  simp
  refine ⟨li, by omega, ?_⟩
  rw [atI_nn, List.getElem?_map, hi]
  simp
  rw [atI_nn, List.getElem?_map, hj]
  simp
end
def castL (ns : List Int) : List Rat := ns.map fun n : Int => (n : Rat)
def zl (ns : List Int) : D := .lst (ns.map .int)
def ratP (p : Int × Int) : Rat := Rat.divInt p.1 p.2
theorem divInt_mul_of_dvd {t u s : Int} (hu : 0 < u) (h : u ∣ s) : ((t * s.fdiv u : Int) : Rat) = Rat.divInt t u * s := by
  have e := fdiv_mul h
  have hz : (u : Rat) ≠ 0 := fun z => by
    have := Rat.intCast_eq_zero_iff.mp z
    omega
  rw [Rat.intCast_mul, Rat.divInt_eq_div, Rat.div_def]
  have e2 : (s : Rat) = (s.fdiv u : Int) * (u : Rat) := by rw [← Rat.intCast_mul, e]
  rw [e2]
  have e3 := Rat.mul_inv_cancel _ hz
  grind
theorem fdiv_bd {n : Nat} {s u : Int} (hs : 0 < s) (hu : 0 < u) (h : u ∣ s) (b : Bd n s) : Bd n (s.fdiv u) := by
  have e := fdiv_mul h
  have h0 : 0 < s.fdiv u := pos_of_mul (by rw [e]; exact hs) hu
  refine b.le (Int.le_of_lt h0) ?_
  have := le_mul_pos (Int.le_of_lt h0) hu
  rwa [e] at this
/-- rows of whole numbers that make shares -/
structure ZRow (n k : Nat) (r : List Int) : Prop where
  len : r.length = k
  nn : ∀ x ∈ r, 0 ≤ x
  bd : ∀ x ∈ r, Bd n x
  pos : 0 < r.sum
  sb : Bd n r.sum
def ratRow (r : List Int) : List Rat := r.map fun x => Rat.divInt x r.sum
theorem table_wp {n k : Nat} {rs : List (List Int)} (h : ∀ r ∈ rs, ZRow n k r) (hn : n ≤ 9000) (hl : rs.length ≤ 10000) (hk : k ≤ 10000) {Q : D → Prop} {E : Err → Prop}
    (hq : ∀ (s : Int) (T : List (List Int)), 0 < s → T.map castL = rs.map (fun r => (ratRow r).map (· * (s : Rat))) → Bd (n * rs.length + 1) s → (∀ r ∈ T, r.length = k ∧ ∀ z ∈ r, Bd (n + (n * rs.length + 1)) z) → Q (.tup [.lst (T.map zl), .int s])) : wr (m__law_table [.lst (rs.map zl)]) Q E := by
  refine wr_def ?_
  simp only [o__law_table, ev0]
  simp
  have sz : sizeLine = 16777216 := sizeLine_eq
  have hz : n * rs.length ≤ 9000 * 10000 := Nat.mul_le_mul hn hl
  refine wm_lcM rs zl (fun r => .int r.sum) (by simp) (by omega) (fun r hr => ⟨_, rfl, by simp [wipeE, zl]⟩) ?_
  have e : (rs.map fun r => D.int r.sum) = (rs.map (·.sum)).map D.int := by rw [List.map_map]; rfl
  rw [e]
  refine lcm_wp (k := n) (fun u hu => ?_) hn (by rw [List.length_map]; exact hl) fun L hL hd hb => ?_
  · obtain ⟨r, hr, rfl⟩ := List.mem_map.mp hu
    have := h r hr
    exact ⟨by have := this.pos; omega, this.sb⟩
  rw [List.length_map] at hb
  have hd : ∀ r ∈ rs, r.sum ∣ L := fun p hp => hd _ (List.mem_map_of_mem (f := fun r : List Int => r.sum) hp)
  refine wm_lcM rs zl (fun r => zl (r.map fun x => x * L.fdiv r.sum)) (by simp) (by omega) (fun r hr => ⟨_, rfl, ?_⟩) ?_
  · have k1 := h r hr
    simp [wipeE]
    refine wm_lcM r .int (fun x => .int (x * L.fdiv r.sum)) (by simp [zl]) (by rw [k1.len]; omega) (fun x hx => ⟨_, rfl, ?_⟩) ?_
    · simp [wipeE, zl]
      exact ⟨(k1.sb.mono hn).div (Int.ne_of_gt k1.pos) (Nat.le_refl _), (k1.bd x hx).cmul (fdiv_bd hL k1.pos (hd r hr) hb) (by omega)⟩
    · unfold zl
      rw [List.map_map]
      rfl
  · have := hq L (rs.map fun r => r.map fun x => x * L.fdiv r.sum) hL ?_ hb fun r' hr' => ?_
    · rw [List.map_map] at this
      exact this
    · rw [List.map_map]
      refine List.map_congr_left fun r hr => ?_
      show castL (r.map fun x => x * L.fdiv r.sum) = _
      unfold castL ratRow
      rw [List.map_map, List.map_map]
      refine List.map_congr_left fun x hx => ?_
      exact divInt_mul_of_dvd (h r hr).pos (hd r hr)
    · obtain ⟨r, hr, rfl⟩ := List.mem_map.mp hr'
      refine ⟨by rw [List.length_map, (h r hr).len], fun z hz => ?_⟩
      obtain ⟨x, hx, rfl⟩ := List.mem_map.mp hz
      exact ((h r hr).bd x hx).mul (fdiv_bd hL (h r hr).pos (hd r hr) hb)
theorem foldl_divInt {s : Int} (hs : s ≠ 0) : ∀ (r : List Int) (a : Int), (r.map fun x => Rat.divInt x s).foldl (· + ·) (Rat.divInt a s) = Rat.divInt (a + r.sum) s
  | [], a => by
    show Rat.divInt a s = Rat.divInt (a + 0) s
    rw [Int.add_zero]
  | x :: r, a => by
    rw [List.map_cons, List.foldl_cons]
    have e : Rat.divInt a s + Rat.divInt x s = Rat.divInt (a + x) s := by
      rw [Rat.divInt_add_divInt _ _ hs hs, ← Int.add_mul, Rat.divInt_mul_right hs]
    rw [e, foldl_divInt hs r, List.sum_cons, Int.add_assoc]
theorem ZRow.row {n k : Nat} {r : List Int} (h : ZRow n k r) : RowOk n k (ratRow r) := by
  have hz := Int.ne_of_gt h.pos
  refine ⟨by unfold ratRow; rw [List.length_map, h.len], fun x hx => ?_, ?_⟩
  · unfold ratRow at hx
    obtain ⟨y, hy, rfl⟩ := List.mem_map.mp hx
    exact ⟨divInt_size (h.bd y hy) h.sb hz, Rat.divInt_nonneg (h.nn y hy) (Int.le_of_lt h.pos)⟩
  · have := foldl_divInt hz r 0
    rw [Rat.zero_divInt] at this
    have e := foldl_divInt hz r 0
    have z : Rat.divInt 0 r.sum = 0 := by rw [Rat.divInt_eq_div, Rat.intCast_zero, Rat.div_def, Rat.zero_mul]
    rw [z, Int.zero_add, Rat.divInt_self' hz] at e
    exact e
theorem law_signal_eq {n k : Nat} {plain : Int} {rs : List (List Int)} (h : ∀ r ∈ rs, ZRow n k r) (hn : n ≤ 4000) (h0 : rs ≠ []) (k1 : 1 ≤ k) (k2 : k ≤ 12) (hl : rs.length ≤ 12) : m__law_signal [.lst (rs.map zl), .int plain] = .ok (S k (rs.map ratRow)) := by
  refine wr_eq (wr_def ?_)
  simp only [o__law_signal, ev0]
  simp
  have sz : sizeLine = 16777216 := sizeLine_eq
  refine wm_lcM rs zl (fun r => .lst (r.map fun x => numP plain (x, r.sum))) (by simp) (by omega) (fun r hr => ⟨_, rfl, ?_⟩) ?_
  · have k1 := h r hr
    simp [wipeE]
    refine wm_lcM r .int (fun x => numP plain (x, r.sum)) (by simp [zl]) (by rw [k1.len]; omega) (fun x hx => ⟨_, rfl, ?_⟩) rfl
    simp [wipeE, zl]
    exact wr_of (law_number_eq (p := (x, r.sum)) k1.pos (k1.sb.mono (by omega))) rfl
  · cases rs with
    | nil => exact absurd rfl h0
    | cons r0 rs =>
      rw [wo_new]
      have num : ∀ r ∈ r0 :: rs, NumDs (r.map fun x => numP plain (x, r.sum)) (ratRow r) := fun r hr => NumDs.map (fun x => numP_num (p := (x, r.sum)) (h r hr).pos) r
      have nums : ∀ rs' : List (List Int), (∀ r' ∈ rs', r' ∈ r0 :: rs) → NumDss (rs'.map fun r => r.map fun x => numP plain (x, r.sum)) (rs'.map ratRow) := by
        intro rs'
        induction rs' with
        | nil => exact fun _ => .nil
        | cons a l ih => exact fun z => .cons (num a (z a List.mem_cons_self)) (ih fun b hb => z b (List.mem_cons_of_mem _ hb))
      have e := signal_eq (n := n) (k := k) (num r0 List.mem_cons_self) (nums rs fun b hb => List.mem_cons_of_mem _ hb) (h r0 List.mem_cons_self).row (fun q hq => by
        obtain ⟨a, ha, rfl⟩ := List.mem_map.mp hq
        exact (h a (List.mem_cons_of_mem _ ha)).row) hn k1 k2 (by rw [List.length_map]; rw [List.length_cons] at hl; omega)
      rw [List.map_map] at e
      refine wr_of e ?_
      unfold S
      simp
theorem same_loop {n : Nat} {xs : List D} (h : ∀ x ∈ xs, mr__law_same n [x, x] = .ok (.bl true)) {P : Po} {d : D} (ha : d = .lst xs ∨ d = .tup xs) (hq : ∀ s, P.nx [.dat d, .dat d, s]) :
    ends P (forL (gN 2) (oIf (mtNot (mTru (mCall (mr__law_same n) (mCons (mOp ixD (mVar 0) (mVar 2)) (mCons (mOp ixD (mVar 1) (mVar 2)) mNil))))) (oRet (mCon (.bl false))) Out.nx) (rngL 0 xs.length) [.dat d, .dat d, .no]) := by
  refine for_ix (fun i ρ => ∃ s, ρ = [.dat d, .dat d, s]) ⟨_, rfl⟩ ?_ ?_
  · rintro J hJ i e ρ hi ⟨s, rfl⟩
    obtain ⟨hl, rfl⟩ := rngL_get hi
    refine ⟨_, rfl, ?_⟩
    have hx : wr (ixD d (.int (0 + (i : Int)))) (fun x => x = xs[i]) noE := by
      rcases ha with rfl | rfl <;> simp [atI_nn, List.getElem?_eq_getElem hl]
    have e1 := wr_eq hx
    simp at e1
    simp [e1, h _ (List.getElem_mem hl)]
    exact hJ _ _ ⟨_, rfl⟩
  · rintro ρ ⟨s, rfl⟩
    exact hq s
theorem same_self : ∀ (n : Nat) (d : D), SameOk n d → mr__law_same (n + 1) [d, d] = .ok (.bl true) := by
  intro n
  induction n with
  | zero =>
    intro d h
    unfold mr__law_same
    refine wr_eq (wr_def ?_)
    simp only [o__law_same, ev0]
    cases h with
    | bl _ b => cases b <;> simp
    | non => simp
    | int _ i =>
      simp
      refine is_int_wp _ (fun c fs z => by cases z) ?_
      simp [isI]
    | str _ x =>
      simp
  | succ n ih =>
    intro d h
    unfold mr__law_same
    refine wr_eq (wr_def ?_)
    simp only [o__law_same, ev0]
    cases h with
    | bl _ b => cases b <;> simp
    | non => simp
    | int _ i =>
      simp
      refine is_int_wp _ (fun c fs z => by cases z) ?_
      simp [isI]
    | str _ x =>
      simp
    | tup hx hl =>
      simp
      refine ⟨by omega, same_loop (fun x m => ih x (hx x m)) (.inr rfl) fun s => by simp⟩
    | lst hx hl =>
      simp
      refine ⟨by omega, same_loop (fun x m => ih x (hx x m)) (.inl rfl) fun s => by simp⟩
theorem is_ratio_eq (q : Rat) : m__law_is_ratio [R q] = .ok (.bl true) := by
  refine wr_eq (wr_def ?_)
  simp only [o__law_is_ratio, ev0]
  simp
  refine is_int_wp _ (fun c fs z => by cases z) ?_
  simp [isI]
  refine is_int_wp _ (fun c fs z => by cases z) ?_
  simp [isI]
  have h := den_pos q
  have e : Int.gcd q.num q.den = 1 := q.reduced
  simp [show (1 : Int) ≤ q.den by omega, gcd_eq, e]
theorem law_worth_wp {n m : Nat} {q : Rat} {t u : Int} (hq : Sz n q) (hu : Bd m u) (l : n + n + m ≤ 134217728) (hz : u ≠ 0) (e : (t : Rat) = q * u) : m__law_worth [R q, .int t, .int u] = .ok (.bl true) := by
  refine wr_eq (wr_def ?_)
  simp only [o__law_worth, ev0]
  simp [is_ratio_eq]
  have h := den_pos q
  have e2 : (q.num : Rat) = q * (q.den : Int) := by
    have h3 : ((q.den : Int) : Rat) ≠ 0 := fun z => by
      have := Rat.intCast_eq_zero_iff.mp z
      omega
    have := Rat.num_divInt_den q
    rw [Rat.divInt_eq_div] at this
    have h4 := Rat.div_mul_cancel (a := (q.num : Rat)) h3
    rw [this] at h4
    exact h4.symm
  have e3 : ((q.num * u : Int) : Rat) = ((t * q.den : Int) : Rat) := by
    rw [Rat.intCast_mul, Rat.intCast_mul, e, e2]
    grind
  have e4 : q.num * u = t * q.den := Rat.intCast_inj.mp e3
  have ht : Bd (n + m) t := by
    have b := hq.1.mul hu
    rw [e4] at b
    unfold Bd at *
    rw [Int.natAbs_mul] at b
    refine Nat.lt_of_le_of_lt (Nat.le_mul_of_pos_right _ ?_) b
    omega
  refine ⟨hq.1.cmul hu (by omega), ht.cmul hq.2 (by omega), e4⟩
theorem number_is_eq {n : Nat} {d : D} {p : Int × Int} (h : NumD d (ratP p)) (hp : PairOk n p) (hn : n ≤ 40000000) : m__law_number_is [d, .int p.1, .int p.2] = .ok (.bl true) := by
  have hz : (p.2 : Rat) ≠ 0 := fun z => by
    have := Rat.intCast_eq_zero_iff.mp z
    have := hp.1
    omega
  have e : (p.1 : Rat) = ratP p * p.2 := by
    unfold ratP
    rw [Rat.divInt_eq_div, Rat.div_mul_cancel hz]
  refine wr_eq (wr_def ?_)
  simp only [o__law_number_is, ev0]
  generalize hq : ratP p = q at h e
  have hs : Sz n q := by rw [← hq]; exact hp.sz
  cases h with
  | int i =>
    simp
    refine is_int_wp _ (fun c fs z => by cases z) ?_
    simp [isI]
    rw [← Rat.intCast_mul] at e
    have e := Rat.intCast_inj.mp e
    refine ⟨?_, e.symm⟩
    have b : Bd n i := hs.1
    exact b.cmul hp.2.2 (by omega)
  | rat q =>
    simp
    exact wr_of (law_worth_wp hs hp.2.2 (by omega) (Int.ne_of_gt hp.1) e) rfl
def accR (f : Nat → Rat) : Nat → Rat
  | 0 => 0
  | k + 1 => accR f k + f k
def accZ (f : Nat → Int) : Nat → Int
  | 0 => 0
  | k + 1 => accZ f k + f k
theorem accR_congr {f g : Nat → Rat} : ∀ {n : Nat}, (∀ i, i < n → f i = g i) → accR f n = accR g n
  | 0, _ => rfl
  | n + 1, h => by
    show accR f n + f n = accR g n + g n
    rw [accR_congr fun i hi => h i (by omega), h n (by omega)]
theorem accR_add {f g : Nat → Rat} : ∀ {n : Nat}, accR (fun i => f i + g i) n = accR f n + accR g n
  | 0 => by show (0 : Rat) = 0 + 0; rw [Rat.add_zero]
  | n + 1 => by
    show accR (fun i => f i + g i) n + (f n + g n) = (accR f n + f n) + (accR g n + g n)
    rw [accR_add]
    grind
theorem accR_mul {f : Nat → Rat} {c : Rat} : ∀ {n : Nat}, accR (fun i => c * f i) n = c * accR f n
  | 0 => by show (0 : Rat) = c * 0; rw [Rat.mul_zero]
  | n + 1 => by
    show accR (fun i => c * f i) n + c * f n = c * (accR f n + f n)
    rw [accR_mul, Rat.mul_add]
theorem accR_mulR {f : Nat → Rat} {c : Rat} {n : Nat} : accR (fun i => f i * c) n = accR f n * c := by
  rw [Rat.mul_comm, ← accR_mul]
  exact accR_congr fun i _ => Rat.mul_comm _ _
theorem accR_zero : ∀ {n : Nat}, accR (fun _ => 0) n = 0
  | 0 => rfl
  | n + 1 => by show accR (fun _ => 0) n + 0 = 0; rw [accR_zero, Rat.add_zero]
theorem accR_swap {f : Nat → Nat → Rat} {m : Nat} : ∀ {n : Nat}, accR (fun i => accR (fun j => f i j) m) n = accR (fun j => accR (fun i => f i j) n) m
  | 0 => by
    show (0 : Rat) = accR (fun j => 0) m
    rw [accR_zero]
  | n + 1 => by
    show accR (fun i => accR (fun j => f i j) m) n + accR (fun j => f n j) m = accR (fun j => accR (fun i => f i j) n + f n j) m
    rw [accR_swap, accR_add]
theorem accR_split {f : Nat → Rat} {n : Nat} : ∀ {m : Nat}, accR f (n + m) = accR f n + accR (fun i => f (n + i)) m
  | 0 => by show accR f n = accR f n + 0; rw [Rat.add_zero]
  | m + 1 => by
    show accR f (n + m) + f (n + m) = accR f n + (accR (fun i => f (n + i)) m + f (n + m))
    rw [accR_split, Rat.add_assoc]
theorem accR_nn {f : Nat → Rat} : ∀ {n : Nat}, (∀ i, i < n → 0 ≤ f i) → 0 ≤ accR f n
  | 0, _ => Rat.le_refl
  | n + 1, h => Rat.add_nonneg (accR_nn fun i hi => h i (by omega)) (h n (by omega))
theorem accZ_cast {f : Nat → Int} : ∀ {n : Nat}, ((accZ f n : Int) : Rat) = accR (fun i => (f i : Rat)) n
  | 0 => rfl
  | n + 1 => by
    show ((accZ f n + f n : Int) : Rat) = accR (fun i => (f i : Rat)) n + f n
    rw [Rat.intCast_add, accZ_cast]
theorem sum_acc {f : Nat → Int} : ∀ {n : Nat}, ((List.range n).map f).sum = accZ f n
  | 0 => rfl
  | n + 1 => by
    rw [List.range_succ, List.map_append, List.sum_append, sum_acc]
    simp [accZ]
theorem foldl_acc {f : Nat → Rat} : ∀ {n : Nat}, ((List.range n).map f).foldl (· + ·) 0 = accR f n
  | 0 => rfl
  | n + 1 => by
    rw [List.range_succ, List.map_append, List.foldl_append, foldl_acc]
    rfl
theorem accR_sz {f : Nat → Rat} {m : Nat} : ∀ {n : Nat}, (∀ i, i < n → Sz m (f i)) → Sz (1 + n * (m + 1)) (accR f n)
  | 0, _ => Sz.zero.mono (by omega)
  | n + 1, h => ((accR_sz fun i hi => h i (by omega)).add (h n (by omega))).mono (by rw [Nat.succ_mul]; omega)
theorem accZ_bd {f : Nat → Int} {m : Nat} : ∀ {n : Nat}, (∀ i, i < n → Bd m (f i)) → Bd (m + n) (accZ f n)
  | 0, _ => by unfold Bd accZ; exact Nat.two_pow_pos _
  | n + 1, h => ((accZ_bd fun i hi => h i (by omega)).add (h n (by omega))).mono (by omega)
def tabL {α : Type} (k : Nat) (f : Nat → α) : List α := (List.range k).map f
def tab {α : Type} (n k : Nat) (f : Nat → Nat → α) : List (List α) := tabL n fun i => tabL k (f i)
section
variable {α β : Type} {k n i : Nat} {f : Nat → α}
@[simp] theorem tabL_len : (tabL k f).length = k := by unfold tabL; rw [List.length_map, List.length_range]
@[simp] theorem tab_len {f : Nat → Nat → α} : (tab n k f).length = n := tabL_len
theorem tabL_get (h : i < k) : (tabL k f)[i]? = some (f i) := by
  unfold tabL
  rw [List.getElem?_map, List.getElem?_range h]
  rfl
theorem tab_get {f : Nat → Nat → α} (h : i < n) : (tab n k f)[i]? = some (tabL k (f i)) := tabL_get h
theorem tabL_of (l : List α) (d : α) : l = tabL l.length fun i => l.getD i d := by
  refine List.ext_getElem (by simp) fun i h1 h2 => ?_
  unfold tabL
  simp [List.getElem?_eq_getElem h1]
theorem tabL_map {g : α → β} : (tabL k f).map g = tabL k fun i => g (f i) := by
  unfold tabL
  rw [List.map_map]
  rfl
theorem tabL_congr {f g : Nat → α} (h : ∀ i, i < k → f i = g i) : tabL k f = tabL k g := by
  unfold tabL
  exact List.map_congr_left fun i hi => h i (List.mem_range.mp hi)
theorem tabL_mem {x : α} (h : x ∈ tabL k f) : ∃ i, i < k ∧ x = f i := by
  unfold tabL at h
  obtain ⟨i, hi, rfl⟩ := List.mem_map.mp h
  exact ⟨i, List.mem_range.mp hi, rfl⟩
theorem tabL_succ : tabL (k + 1) f = tabL k f ++ [f k] := by
  unfold tabL
  rw [List.range_succ, List.map_append]
  rfl
theorem tabL_app {m : Nat} {g : Nat → α} : tabL k f ++ tabL m g = tabL (k + m) fun i => if i < k then f i else g (i - k) := by
  refine List.ext_getElem? fun i => ?_
  by_cases h : i < k
  · rw [List.getElem?_append_left (by simpa using h), tabL_get h, tabL_get (by omega), if_pos h]
  · rw [List.getElem?_append_right (by simpa using h), tabL_len]
    by_cases h2 : i < k + m
    · rw [tabL_get (by omega), tabL_get h2, if_neg h]
    · rw [List.getElem?_eq_none (by simp; omega), List.getElem?_eq_none (by simp; omega)]
theorem flat_tab {F : Nat → Nat → α} {l : Nat} : ∀ {k : Nat}, (List.range k).flatMap (fun x => (List.range l).map (F x)) = tabL (k * l) fun c => F (c / l) (c % l)
  | 0 => by
    rw [Nat.zero_mul]
    rfl
  | k + 1 => by
    rw [List.range_succ, List.flatMap_append, flat_tab, Nat.succ_mul]
    have e : [k].flatMap (fun x => (List.range l).map (F x)) = tabL l (F k) := by simp [tabL]
    rw [e, tabL_app]
    refine tabL_congr fun i hi => ?_
    by_cases h : i < k * l
    · rw [if_pos h]
    · rw [if_neg h]
      have hl : 0 < l := by
        rcases Nat.eq_zero_or_pos l with z | z
        · rw [z] at hi h; omega
        · exact z
      have e2 : i = l * k + (i - k * l) := by rw [Nat.mul_comm]; omega
      have e3 : i / l = k := by
        rw [e2, Nat.mul_add_div hl, Nat.div_eq_of_lt (by omega)]
        omega
      have e4 : i % l = i - k * l := by
        conv => lhs; rw [e2]
        rw [Nat.mul_add_mod, Nat.mod_eq_of_lt (by omega)]
      rw [e3, e4]
end
theorem gcd_neg_one (q : Rat) : Int.gcd (-q.num) q.den = 1 := by
  rw [Int.neg_gcd]
  exact q.reduced
theorem neg_eq (q : Rat) : m_Ratio___neg__ [R q] = .ok (R (-q)) := by
  refine wr_eq (wr_def ?_)
  simp only [o_Ratio___neg__, ev0]
  simp
  have h := den_pos q
  refine make2_wp (Int.ne_of_gt h) (by rw [gcd_neg_one]; exact Bd.mono (n := 1) (by unfold Bd; decide) (by decide)) ?_
  rw [← Rat.neg_divInt, Rat.num_divInt_den]
theorem wo_negR {ps : Cl → Option (List D → Res D)} {q : Rat} {Q : D → Prop} {E : Err → Prop} (h : ps .Ratio = some m_Ratio___neg__) (hq : Q (R (-q))) : wr (ownU negD ps (R q)) Q E := by
  unfold R
  rw [wo_ownU h]
  exact wr_of (neg_eq q) hq
theorem rsub_eq {n : Nat} {q : Rat} {i : Int} (hq : Sz n q) (hi : Bd 4000 i) (l : n ≤ 100000000) : m_Ratio___rsub__ [R q, .int i] = .ok (R (i - q)) := by
  refine wr_eq (wr_def ?_)
  simp only [o_Ratio___rsub__, ev0]
  simp
  refine wo_negR rfl ?_
  refine op_own (.int i) rfl (add_eq hq.neg (.int i) (Sz.int hi (by decide)) (by decide) l) ?_
  congr 1
  grind
/-- rows by their places -/
abbrev SF (n k : Nat) (f : Nat → Nat → Rat) : D := S k (tab n k f)
/-- fit for a signal: sizes, none below 0, 1 in all -/
structure Fit (s n k : Nat) (f : Nat → Nat → Rat) : Prop where
  sz : ∀ i, i < n → ∀ j, j < k → Sz s (f i j)
  nn : ∀ i, i < n → ∀ j, j < k → 0 ≤ f i j
  one : ∀ i, i < n → accR (f i) k = 1
theorem Fit.row {s n k i : Nat} {f : Nat → Nat → Rat} (h : Fit s n k f) (hi : i < n) : RowOk s k (tabL k (f i)) := by
  refine ⟨tabL_len, fun x hx => ?_, ?_⟩
  · obtain ⟨j, hj, rfl⟩ := tabL_mem hx
    exact ⟨h.sz i hi j hj, h.nn i hi j hj⟩
  · unfold tabL
    rw [foldl_acc]
    exact h.one i hi
theorem nums_tab {k : Nat} {f : Nat → Nat → Rat} : ∀ (l : List Nat), NumDss (l.map fun i => (tabL k (f i)).map R) (l.map fun i => tabL k (f i))
  | [] => .nil
  | i :: l => .cons (NumDs.rats _) (nums_tab l)
theorem make_wp {s n k : Nat} {f : Nat → Nat → Rat} (h : Fit s n k f) (hs : s ≤ 4000) (n1 : 1 ≤ n) (n2 : n ≤ 12) (k1 : 1 ≤ k) (k2 : k ≤ 12) {Q : D → Prop} {E : Err → Prop} (hq : Q (SF n k f)) : wr (newD .Signal mi_Signal_1 [.lst ((tab n k f).map fun r => .lst (r.map R))]) Q E := by
  rw [wo_new]
  obtain ⟨n, rfl⟩ : ∃ m, n = m + 1 := ⟨n - 1, by omega⟩
  have e : tab (n + 1) k f = tabL k (f 0) :: (List.range n).map fun i => tabL k (f (i + 1)) := by
    unfold tab tabL
    rw [List.range_succ_eq_map, List.map_cons, List.map_map]
    rfl
  have e1 := signal_eq (n := s) (k := k) (NumDs.rats (tabL k (f 0))) (nums_tab (f := fun i => f (i + 1)) (List.range n)) (h.row (by omega)) (fun q hq => by
    obtain ⟨i, hi, rfl⟩ := List.mem_map.mp hq
    exact h.row (by have := List.mem_range.mp hi; omega)) hs k1 k2 (by simp; omega)
  rw [e]
  rw [List.map_map] at e1
  rw [List.map_cons, List.map_map]
  have hq2 : Q (S k (tab (n + 1) k f)) := hq
  rw [e] at hq2
  refine wr_of e1 ?_
  exact hq2
section
variable {Q : D → Prop} {E : Err → Prop} {n k : Nat} {f : Nat → Nat → Rat}
theorem getSF {i j : Nat} (hi : i < n) (hj : j < k) : m_Signal___getitem__ [SF n k f, .tup [.int i, .int j]] = .ok (R (f i j)) :=
  getitem_eq (rows := tab n k f) (k := k) (tab_get hi) (tabL_get hj) tabL_len
end
theorem passed_on_eq {s t m k j : Nat} {a : Nat → Rat} {b : Nat → Nat → Rat} (ha : ∀ i, i < m → Sz s (a i)) (hb : ∀ i, i < m → Sz t (b i j)) (hj : j < k) (hm : m ≤ 12) (l : s + t ≤ 300) : m_passed_on [.tup ((tabL m a).map R), SF m k b, .int j] = .ok (R (accR (fun i => a i * b i j) m)) := by
  refine wr_eq (wr_def ?_)
  simp only [o_passed_on, ev0]
  simp
  refine make1_wp ?_
  simp
  refine ⟨by omega, ?_⟩
  refine for_ix (fun i ρ => i ≤ m ∧ ∃ s4, ρ = [.dat (.tup ((tabL m a).map R)), .dat (SF m k b), .dat (.int j), .dat (R (accR (fun i => a i * b i j) i)), s4]) ?_ ?_ ?_
  · exact ⟨Nat.zero_le _, _, rfl⟩
  · rintro J hJ i d ρ hi ⟨him, s4, er⟩
    subst er
    obtain ⟨hlt, rfl⟩ := rngL_get hi
    have hlt : i < m := by simpa using hlt
    refine ⟨_, rfl, ?_⟩
    have e1 : (tabL m a)[i]? = some (a i) := tabL_get hlt
    simp [atI_nn, e1]
    refine wr_of (getSF hlt hj) ?_
    refine op_own (.rat _) rfl (mul_eq (ha i hlt) (.rat _) (hb i hlt) (by omega)) ?_
    have hs : Sz (1 + i * (s + t + 1)) (accR (fun i => a i * b i j) i) := accR_sz fun x hx => (ha x (by omega)).mul (hb x (by omega))
    have hz : i * (s + t + 1) ≤ 12 * 301 := Nat.mul_le_mul (by omega) (by omega)
    refine op_own (.rat _) rfl (add_eq hs (.rat _) ((ha i hlt).mul (hb i hlt)) (by omega) (by omega)) ?_
    exact hJ _ _ ⟨by omega, .dat (.int i), rfl⟩
  · rintro ρ ⟨him, s4, er⟩
    subst er
    simp
/-- one behind the other -/
def through (m : Nat) (a b : Nat → Nat → Rat) (i k : Nat) : Rat := accR (fun j => a i j * b j k) m
theorem through_fit {s t n m l : Nat} {a b : Nat → Nat → Rat} (ha : Fit s n m a) (hb : Fit t m l b) (hm : m ≤ 12) : Fit (1 + 12 * (s + t + 1)) n l (through m a b) := by
  refine ⟨fun i hi j hj => ?_, fun i hi j hj => ?_, fun i hi => ?_⟩
  · have := accR_sz (f := fun x => a i x * b x j) (m := s + t) (n := m) fun x hx => (ha.sz i hi x hx).mul (hb.sz x hx j hj)
    exact this.mono (by have : m * (s + t + 1) ≤ 12 * (s + t + 1) := Nat.mul_le_mul_right _ hm; omega)
  · exact accR_nn fun x hx => Rat.mul_nonneg (ha.nn i hi x hx) (hb.nn x hx j hj)
  · show accR (fun k => accR (fun j => a i j * b j k) m) l = 1
    rw [accR_swap]
    have e : accR (fun j => accR (fun k => a i j * b j k) l) m = accR (fun j => a i j) m := accR_congr fun j hj => by
      rw [accR_mul, hb.one j hj, Rat.mul_one]
    rw [e]
    exact ha.one i hi
theorem mul_wp {s t n m m' l : Nat} {a b : Nat → Nat → Rat} (ha : Fit s n m a) (hb : Fit t m' l b) (hn : 1 ≤ n) (n2 : n ≤ 12) (hm : m ≤ 12) (hm' : m' ≤ 12) (l1 : 1 ≤ l) (l2 : l ≤ 12) (sz : s + t ≤ 300) {Q : D → Prop} {E : Err → Prop} (h1 : m' ≠ m → E (er1 .WrongLength .length (.int m'))) (h2 : m' = m → Q (SF n l (through m a b))) :
    wr (m_Signal___mul__ [SF n m a, SF m' l b]) Q E := by
  refine wr_def ?_
  simp only [o_Signal___mul__, ev0]
  by_cases e : m' = m
  · subst e
    simp
    refine for_ix (fun i ρ => i ≤ n ∧ ∃ s3 : Sl, ρ = [.dat (SF n m' a), .dat (SF m' l b), .own ((tab i l (through m' a b)).map fun r => .lst (r.map R)), s3, .no]) ?_ ?_ ?_
    · exact ⟨Nat.zero_le _, _, rfl⟩
    · rintro J hJ i d ρ hi ⟨him, s3, er⟩
      subst er
      have hlt : i < n := by
        have := (List.getElem?_eq_some_iff.mp hi).1
        simpa using this
      rw [List.getElem?_map, tab_get hlt] at hi
      cases hi
      refine ⟨_, rfl, ?_⟩
      simp
      have hh := fun (F : Nat → D) => @wm_lcM Nat (List.range l) (fun i => D.int (i : Nat)) F
      refine hh (fun k => R (through m' a b i k)) ?_ ?_ ?_ ?_
      · simp [rngL0]
        omega
      · simp; omega
      · intro k hk
        have hk := List.mem_range.mp hk
        refine ⟨_, rfl, ?_⟩
        simp [wipeE]
        exact wr_of (passed_on_eq (fun x hx => ha.sz i hlt x hx) (fun x hx => hb.sz x hx k hk) hk hm sz) rfl
      · refine ⟨by omega, hJ _ _ ⟨by omega, .dat (.tup ((tabL m' (a i)).map R)), ?_⟩⟩
        have e1 : tab (i + 1) l (through m' a b) = tab i l (through m' a b) ++ [tabL l (through m' a b i)] := tabL_succ
        rw [e1, List.map_append]
        simp [tabL]
    · rintro ρ ⟨him, s3, er⟩
      subst er
      simp
      exact make_wp (through_fit ha hb hm) (by omega) hn n2 l1 l2 (h2 rfl)
  · simp [show ¬ (m' : Int) = m by omega]
    exact h1 e
def bothF (l : Nat) (a b : Nat → Nat → Rat) (i c : Nat) : Rat := a i (c / l) * b i (c % l)
theorem div_lt' {c k l : Nat} (h : c < k * l) : c / l < k ∧ c % l < l := by
  have hl : 0 < l := by
    rcases Nat.eq_zero_or_pos l with z | z
    · rw [z, Nat.mul_zero] at h; omega
    · exact z
  exact ⟨(Nat.div_lt_iff_lt_mul hl).mpr h, Nat.mod_lt _ hl⟩
theorem accR_flat {f g : Nat → Rat} {l : Nat} : ∀ {k : Nat}, accR (fun c => f (c / l) * g (c % l)) (k * l) = accR f k * accR g l
  | 0 => by
    rw [Nat.zero_mul]
    show (0 : Rat) = 0 * _
    rw [Rat.zero_mul]
  | k + 1 => by
    rw [Nat.succ_mul, accR_split, accR_flat]
    have e : accR (fun i => f ((k * l + i) / l) * g ((k * l + i) % l)) l = accR (fun i => f k * g i) l := accR_congr fun i hi => by
      have hl : 0 < l := by omega
      have e3 : (k * l + i) / l = k := by
        rw [Nat.mul_comm, Nat.mul_add_div hl, Nat.div_eq_of_lt hi]
        omega
      have e4 : (k * l + i) % l = i := by
        rw [Nat.mul_comm, Nat.mul_add_mod, Nat.mod_eq_of_lt hi]
      rw [e3, e4]
    rw [e, accR_mul]
    show _ = (accR f k + f k) * accR g l
    rw [Rat.add_mul]
theorem both_fit {s t n k l : Nat} {a b : Nat → Nat → Rat} (ha : Fit s n k a) (hb : Fit t n l b) : Fit (s + t) n (k * l) (bothF l a b) := by
  refine ⟨fun i hi c hc => ?_, fun i hi c hc => ?_, fun i hi => ?_⟩
  · obtain ⟨h1, h2⟩ := div_lt' hc
    exact (ha.sz i hi _ h1).mul (hb.sz i hi _ h2)
  · obtain ⟨h1, h2⟩ := div_lt' hc
    exact Rat.mul_nonneg (ha.nn i hi _ h1) (hb.nn i hi _ h2)
  · show accR (fun c => a i (c / l) * b i (c % l)) (k * l) = 1
    rw [accR_flat, ha.one i hi, hb.one i hi, Rat.mul_one]
theorem wo_conMost {n k : Nat} {a : Nat → Nat → Rat} {Q : D → Prop} {E : Err → Prop} : wr (conD t_MOST_Signal (SF n k a)) Q E = Q (.int 12) := by with_unfolding_all exact (id rfl)
theorem and_wp {s t n n' k l : Nat} {a b : Nat → Nat → Rat} (ha : Fit s n k a) (hb : Fit t n' l b) (hn : 1 ≤ n) (n2 : n ≤ 12) (hn' : n' ≤ 12) (k1 : 1 ≤ k) (k2 : k ≤ 12) (l1 : 1 ≤ l) (l2 : l ≤ 12) (sz : s + t ≤ 4000) {Q : D → Prop} {E : Err → Prop} (h1 : n' ≠ n → E (er1 .WrongLength .length (.int n'))) (h2 : n' = n → 12 < k * l → E (er2 .TooMany .name .most (.str "outcomes") (.int 12))) (h3 : n' = n → k * l ≤ 12 → Q (SF n (k * l) (bothF l a b))) :
    wr (m_Signal___and__ [SF n k a, SF n' l b]) Q E := by
  refine wr_def ?_
  simp only [o_Signal___and__, ev0]
  by_cases e : n' = n
  · subst e
    simp [wo_conMost]
    have cm : CMulX (k : Int) (l : Int) := cmul_small (by omega) (by omega) (by omega) (by omega)
    refine ⟨cm, ?_⟩
    have ekl : ((k : Int) * l) = ((k * l : Nat) : Int) := by simp
    rw [ekl]
    by_cases hl : 12 < k * l
    · rw [if_pos (by omega)]
      exact wo_x2 (by decide) (h2 rfl hl)
    · rw [if_neg (by omega)]
      refine ⟨by omega, ?_⟩
      refine for_ix (fun i ρ => i ≤ n' ∧ ∃ s3 : Sl, ρ = [.dat (SF n' k a), .dat (SF n' l b), .own ((tab i (k * l) (bothF l a b)).map fun r => .lst (r.map R)), s3, .no, .no]) ?_ ?_ ?_
      · exact ⟨Nat.zero_le _, _, rfl⟩
      · rintro J hJ i d ρ hi ⟨him, s3, er⟩
        subst er
        obtain ⟨hlt, rfl⟩ := rngL_get hi
        have hlt : i < n' := by simpa using hlt
        refine ⟨_, rfl, ?_⟩
        have ea : ((tab n' k a).map fun r => D.tup (r.map R))[i]? = some (.tup ((tabL k (a i)).map R)) := by rw [List.getElem?_map, tab_get hlt]; rfl
        have eb : ((tab n' l b).map fun r => D.tup (r.map R))[i]? = some (.tup ((tabL l (b i)).map R)) := by rw [List.getElem?_map, tab_get hlt]; rfl
        simp only [wp_app, List.getElem?_cons_succ, List.getElem?_cons_zero, wm_lstOf]
        have hh := fun (g : Nat → D) (g1 F : Nat → Nat → D) => @wm_lccM Nat Nat (List.range k) g (fun _ => List.range l) g1 F
        refine hh (fun x => R (a i x)) (fun _ y => R (b i y)) (fun x y => R (a i x * b i y)) ?_ ?_ ?_ ?_
        · simp [atI_nn, tab_get hlt, tabL]
        · have e3 : ((List.range k).flatMap fun _ => List.range l).length = k * l := by
            have := flat_tab (F := fun _ y => y) (l := l) (k := k)
            have e4 := congrArg List.length this
            simpa using e4
          rw [e3, sizeLine_eq]
          omega
        · intro x hx
          have hx := List.mem_range.mp hx
          refine ⟨_, rfl, ?_, fun y hy => ⟨_, rfl, ?_⟩⟩
          · simp [wipeE, atI_nn, tab_get hlt, tabL]
          · have hy := List.mem_range.mp hy
            simp [wipeE]
            exact op_own (.rat _) rfl (mul_eq (ha.sz i hlt x hx) (.rat _) (hb.sz i hlt y hy) (by omega)) rfl
        · refine ⟨by simp; omega, hJ _ _ ⟨by omega, .dat (.int i), ?_⟩⟩
          have e1 : tab (i + 1) (k * l) (bothF l a b) = tab i (k * l) (bothF l a b) ++ [tabL (k * l) (bothF l a b i)] := tabL_succ
          have e2 := flat_tab (F := fun x y => R (a i x * b i y)) (l := l) (k := k)
          rw [e1, List.map_append, e2]
          simp [tabL_map]
          rfl
      · rintro ρ ⟨him, s3, er⟩
        subst er
        simp
        exact make_wp (both_fit ha hb) sz hn n2 (Nat.mul_pos k1 l1) (by omega) (h3 rfl (by omega))
  · simp [show ¬ (n' : Int) = n by omega]
    exact h1 e
/-- the rows of a signal, as lists -/
theorem rows_eq {n k : Nat} {a : Nat → Nat → Rat} (hn : n ≤ 12) (hk : k ≤ 12) : m_Signal_rows [SF n k a] = .ok (.lst ((tab n k a).map fun r => .lst (r.map R))) := by
  refine wr_eq (wr_def ?_)
  simp only [o_Signal_rows, ev0]
  simp
  refine wm_lc2M (tab n k a) (fun r => .tup (r.map R)) (fun r => r.map R) (by simp) (by simp; omega) (fun r hr => ⟨_, rfl, ?_⟩) ?_
  · simp [wipeE]
  · rw [List.map_map]
    rfl
theorem wo_rows {n k : Nat} {a : Nat → Nat → Rat} {ps : Cl → Option (List D → Res D)} (h : ps .Signal = some m_Signal_rows) (hn : n ≤ 12) (hk : k ≤ 12) {Q : D → Prop} {E : Err → Prop} (hq : Q (.lst ((tab n k a).map fun r => .lst (r.map R)))) : wr (attrD none ps (SF n k a)) Q E := by
  show wr (attrC none .Signal _ (ps .Signal)) Q E
  rw [h]
  show wr (noX (m_Signal_rows [SF n k a])) Q E
  rw [rows_eq hn hk]
  show wr (Res.ok _) Q E
  rw [wr_ok]
  exact hq
/-- one of them, by chance -/
def blendF (k : Nat) (p : Rat) (a b : Nat → Nat → Rat) (i c : Nat) : Rat := if c < k then a i c * p else b i (c - k) * (1 - p)
theorem blend_fit {s t u n k l : Nat} {p : Rat} {a b : Nat → Nat → Rat} (ha : Fit s n k a) (hb : Fit t n l b) (hp : Sz u p) (p0 : 0 ≤ p) (p1 : p ≤ 1) : Fit (s + t + u + 2) n (k + l) (blendF k p a b) := by
  have hq : Sz (u + 2) (1 - p) := by
    have := (Sz.int (n := 1) (i := 1) (by unfold Bd; decide) (by decide)).add hp.neg
    have e : ((1 : Int) : Rat) + -p = 1 - p := by rw [Rat.intCast_one]; grind
    rw [e] at this
    exact this.mono (by omega)
  refine ⟨fun i hi c hc => ?_, fun i hi c hc => ?_, fun i hi => ?_⟩
  · unfold blendF
    by_cases h : c < k
    · rw [if_pos h]
      exact ((ha.sz i hi c h).mul hp).mono (by omega)
    · rw [if_neg h]
      exact ((hb.sz i hi (c - k) (by omega)).mul hq).mono (by omega)
  · unfold blendF
    by_cases h : c < k
    · rw [if_pos h]
      exact Rat.mul_nonneg (ha.nn i hi c h) p0
    · rw [if_neg h]
      exact Rat.mul_nonneg (hb.nn i hi (c - k) (by omega)) (by grind)
  · rw [accR_split]
    have e1 : accR (blendF k p a b i) k = accR (a i) k * p := by
      rw [← accR_mulR]
      exact accR_congr fun c hc => by unfold blendF; rw [if_pos hc]
    have e2 : accR (fun c => blendF k p a b i (k + c)) l = accR (b i) l * (1 - p) := by
      rw [← accR_mulR]
      exact accR_congr fun c hc => by unfold blendF; rw [if_neg (by omega), Nat.add_sub_cancel_left]
    rw [e1, e2, ha.one i hi, hb.one i hi]
    grind
inductive GoodE : Err → D → Prop
  | wl (n : Int) : GoodE (er1 .WrongLength .length (.int n)) (.tup [.str "WrongLength", .int n, .bl true])
  | bn (x : Str) (d : D) : GoodE (er2 .BadNumber .name .value (.str x) d) (.tup [.str "BadNumber", .str x, d, .bl true])
  | tm (x : Str) (d : D) : GoodE (er2 .TooMany .name .most (.str x) d) (.tup [.str "TooMany", .str x, d, .bl true])
theorem blended_wp {s t u n n' k l : Nat} {p : Rat} {d : D} {a b : Nat → Nat → Rat} (ha : Fit s n k a) (hb : Fit t n' l b) (hd : NumD d p) (hp : Sz u p) (hn : 1 ≤ n) (n2 : n ≤ 12) (hn' : n' ≤ 12) (k1 : 1 ≤ k) (k2 : k ≤ 12) (l1 : 1 ≤ l) (l2 : l ≤ 12) (sz : s + t + u + 2 ≤ 4000) {Q : D → Prop} {E : Err → Prop} (h1 : n' ≠ n → E (er1 .WrongLength .length (.int n')))
    (h2 : n' = n → (p < 0 ∨ 1 < p) → E (er2 .BadNumber .name .value (.str "share") d)) (h3 : n' = n → 0 ≤ p → p ≤ 1 → 12 < k + l → E (er2 .TooMany .name .most (.str "outcomes") (.int 12))) (h4 : n' = n → 0 ≤ p → p ≤ 1 → k + l ≤ 12 → Q (SF n (k + l) (blendF k p a b))) :
    wr (m_blended [SF n k a, SF n' l b, d]) Q E := by
  refine wr_def ?_
  simp only [o_blended, ev0]
  have lo : p.num < 0 ↔ p < 0 := by
    have := Rat.num_nonneg (q := p)
    rw [← Rat.not_le, ← this]
    omega
  have hi : (p.den : Int) < p.num ↔ 1 < p := by
    rw [Rat.lt_iff]
    simp
  by_cases e : n' = n
  · subst e
    simp [as_num hd]
    by_cases c1 : p < 0
    · rw [if_pos (lo.mpr c1)]
      exact wo_x2 (by decide) (h2 rfl (.inl c1))
    · rw [if_neg (fun z => c1 (lo.mp z))]
      by_cases c2 : 1 < p
      · rw [if_pos (hi.mpr c2)]
        exact wo_x2 (by decide) (h2 rfl (.inr c2))
      · rw [if_neg (fun z => c2 (hi.mp z))]
        have p0 := Rat.not_lt.mp c1
        have p1 := Rat.not_lt.mp c2
        by_cases c3 : 12 < k + l
        · rw [if_pos (by omega)]
          exact wo_x2 (by decide) (h3 rfl p0 p1 c3)
        · rw [if_neg (by omega)]
          have rs := rsub_eq (i := 1) hp (Bd.mono (n := 1) (by unfold Bd; decide) (by decide)) (by omega)
          have e1 : ((1 : Int) : Rat) - p = 1 - p := by rw [Rat.intCast_one]
          rw [e1] at rs
          rw [wo_ownIR (rs := t_SubR_Ratio) (g := m_Ratio___rsub__) rfl]
          refine wr_of rs ?_
          have hq : Sz (u + 2) (1 - p) := by
            have := (Sz.int (n := 1) (i := 1) (by unfold Bd; decide) (by decide)).add hp.neg
            have e : ((1 : Int) : Rat) + -p = 1 - p := by rw [Rat.intCast_one]; grind
            rw [e] at this
            exact this.mono (by omega)
          refine wo_rows rfl n2 k2 ?_
          refine wo_rows rfl n2 l2 ?_
          simp
          refine for_ix (fun i ρ => i ≤ n' ∧ ∃ s6 s7 : Sl, ρ = [.dat (SF n' k a), .dat (SF n' l b), .dat d, .dat (R p), .dat (R (1 - p)), .own ((tab i (k + l) (blendF k p a b)).map fun r => .lst (r.map R)), s6, s7, .no]) ?_ ?_ ?_
          · exact ⟨Nat.zero_le _, _, _, rfl⟩
          · rintro J hJ i d' ρ hi' ⟨him, s6, s7, er⟩
            subst er
            rw [zip_eq] at hi'
            have hlt : i < n' := by
              have := (List.getElem?_eq_some_iff.mp hi').1
              simpa using this
            have ed : d' = .tup [.lst ((tabL k (a i)).map R), .lst ((tabL l (b i)).map R)] := by
              have z1 : (((tab n' k a).map fun r => D.lst (r.map R)).zip ((tab n' l b).map fun r => D.lst (r.map R)))[i]? = some (.lst ((tabL k (a i)).map R), .lst ((tabL l (b i)).map R)) := List.getElem?_zip_eq_some.mpr ⟨by rw [List.getElem?_map, tab_get hlt]; rfl, by rw [List.getElem?_map, tab_get hlt]; rfl⟩
              rw [List.getElem?_map, z1] at hi'
              cases hi'
              rfl
            subst ed
            refine ⟨_, rfl, ?_⟩
            simp only [wp_app, List.getElem?_cons_succ, List.getElem?_cons_zero, wm_lstOf, wm_fOp]
            have hh := fun (g F : Nat → D) => @wm_lcM Nat (List.range k) g F
            refine hh (fun x => R (a i x)) (fun x => R (a i x * p)) ?_ ?_ ?_ ?_
            · simp [tabL]
            · simp; omega
            · intro x hx
              have hx := List.mem_range.mp hx
              refine ⟨_, rfl, ?_⟩
              simp [wipeE]
              exact op_own (.rat _) rfl (mul_eq (ha.sz i hlt x hx) (.rat _) hp (by omega)) rfl
            have hh := fun (g F : Nat → D) => @wm_lcM Nat (List.range l) g F
            refine hh (fun x => R (b i x)) (fun x => R (b i x * (1 - p))) ?_ ?_ ?_ ?_
            · simp [tabL]
            · simp; omega
            · intro x hx
              have hx := List.mem_range.mp hx
              refine ⟨_, rfl, ?_⟩
              simp [wipeE]
              exact op_own (.rat _) rfl (mul_eq (hb.sz i hlt x hx) (.rat _) hq (by omega)) rfl
            simp
            refine ⟨by omega, by omega, hJ _ _ ⟨by omega, .dat (.lst ((tabL k (a i)).map R)), .dat (.lst ((tabL l (b i)).map R)), ?_⟩⟩
            have e1 : tab (i + 1) (k + l) (blendF k p a b) = tab i (k + l) (blendF k p a b) ++ [tabL (k + l) (blendF k p a b i)] := tabL_succ
            have e2 : tabL (k + l) (blendF k p a b i) = tabL k (fun x => a i x * p) ++ tabL l (fun x => b i x * (1 - p)) := by
              rw [tabL_app]
              rfl
            rw [e1, e2, List.map_append]
            simp [tabL]
            rfl
          · intro ρ hI
            have hz : (zipL ((tab n' k a).map fun r => D.lst (r.map R)) ((tab n' l b).map fun r => D.lst (r.map R))).length = n' := by rw [zip_eq]; simp
            rw [hz] at hI
            obtain ⟨him, s6, s7, er⟩ := hI
            subst er
            simp
            exact make_wp (blend_fit ha hb hp p0 p1) sz hn n2 (by omega) (by omega) (h4 rfl p0 p1 (by omega))
  · simp [show ¬ (n' : Int) = n by omega]
    exact h1 e
theorem wo_ownSS {base : D → D → Res D} {ps rs : Cl → Option (List D → Res D)} {n k n' l : Nat} {a b : Nat → Nat → Rat} {g : List D → Res D} (h : ps .Signal = some g) {Q : D → Prop} {E : Err → Prop} (hq : wr (g [SF n k a, SF n' l b]) Q E) : wr (ownD base ps rs (SF n k a) (SF n' l b)) Q E := by
  unfold SF S at hq ⊢
  rw [wo_own2 h]
  exact hq
theorem made0 {s t n m m' l : Nat} {a b : Nat → Nat → Rat} {d : D} (ha : Fit s n m a) (hb : Fit t m' l b) (hn : 1 ≤ n) (n2 : n ≤ 12) (hm : m ≤ 12) (hm' : m' ≤ 12) (l1 : 1 ≤ l) (l2 : l ≤ 12) (sz : s + t ≤ 300) {Q : D → Prop} {E : Err → Prop} (h1 : m' ≠ m → Q (.tup [.str "WrongLength", .int m', .bl true])) (h2 : m' = m → Q (SF n l (through m a b))) :
    wr (m__law_made [.int 0, SF n m a, SF m' l b, d]) Q E := by
  refine wr_def ?_
  simp only [o__law_made, ev0]
  simp
  refine wo_ownSS rfl ?_
  refine mul_wp ha hb hn n2 hm hm' l1 l2 sz (fun h => ?_) (fun h => ?_)
  · refine hd_yes rfl ?_
    simp [Po.leave, enterX, dropX, leaveX, tk_WatchError, tk_BadNumber, sizeLine_eq]
    exact h1 h
  · exact h2 h
theorem made1 {s t n n' k l : Nat} {a b : Nat → Nat → Rat} {d : D} (ha : Fit s n k a) (hb : Fit t n' l b) (hn : 1 ≤ n) (n2 : n ≤ 12) (hn' : n' ≤ 12) (k1 : 1 ≤ k) (k2 : k ≤ 12) (l1 : 1 ≤ l) (l2 : l ≤ 12) (sz : s + t ≤ 4000) {Q : D → Prop} {E : Err → Prop} (h1 : n' ≠ n → Q (.tup [.str "WrongLength", .int n', .bl true])) (h2 : n' = n → 12 < k * l → Q (.tup [.str "TooMany", .str "outcomes", .int 12, .bl true])) (h3 : n' = n → k * l ≤ 12 → Q (SF n (k * l) (bothF l a b))) :
    wr (m__law_made [.int 1, SF n k a, SF n' l b, d]) Q E := by
  refine wr_def ?_
  simp only [o__law_made, ev0]
  simp
  refine wo_ownSS rfl ?_
  refine and_wp ha hb hn n2 hn' k1 k2 l1 l2 sz (fun h => ?_) (fun h h' => ?_) (fun h h' => ?_)
  · refine hd_yes rfl ?_
    simp [Po.leave, enterX, dropX, leaveX, tk_WatchError, tk_BadNumber, sizeLine_eq]
    exact h1 h
  · refine hd_no rfl (hd_no rfl (hd_yes rfl ?_))
    simp [Po.leave, enterX, dropX, leaveX, tk_WatchError, tk_BadNumber, tk_TooMany, tk_ValueError, sizeLine_eq]
    exact h2 h h'
  · exact h3 h h'
theorem made2 {s t u n n' k l : Nat} {p : Rat} {d : D} {a b : Nat → Nat → Rat} (ha : Fit s n k a) (hb : Fit t n' l b) (hd : NumD d p) (hp : Sz u p) (hn : 1 ≤ n) (n2 : n ≤ 12) (hn' : n' ≤ 12) (k1 : 1 ≤ k) (k2 : k ≤ 12) (l1 : 1 ≤ l) (l2 : l ≤ 12) (sz : s + t + u + 2 ≤ 4000) {Q : D → Prop} {E : Err → Prop} (h1 : n' ≠ n → Q (.tup [.str "WrongLength", .int n', .bl true]))
    (h2 : n' = n → (p < 0 ∨ 1 < p) → Q (.tup [.str "BadNumber", .str "share", d, .bl true])) (h3 : n' = n → 0 ≤ p → p ≤ 1 → 12 < k + l → Q (.tup [.str "TooMany", .str "outcomes", .int 12, .bl true])) (h4 : n' = n → 0 ≤ p → p ≤ 1 → k + l ≤ 12 → Q (SF n (k + l) (blendF k p a b))) :
    wr (m__law_made [.int 2, SF n k a, SF n' l b, d]) Q E := by
  refine wr_def ?_
  simp only [o__law_made, ev0]
  simp
  refine blended_wp ha hb hd hp hn n2 hn' k1 k2 l1 l2 sz (fun h => ?_) (fun h h' => ?_) (fun h h' h'' h3' => ?_) (fun h h' h'' h3' => ?_)
  · refine hd_yes rfl ?_
    simp [Po.leave, enterX, dropX, leaveX, tk_WatchError, tk_BadNumber, sizeLine_eq]
    exact h1 h
  · refine hd_no rfl (hd_yes rfl ?_)
    simp [Po.leave, enterX, dropX, leaveX, tk_WatchError, tk_BadNumber, tk_TooMany, tk_ValueError, sizeLine_eq]
    exact h2 h h'
  · refine hd_no rfl (hd_no rfl (hd_yes rfl ?_))
    simp [Po.leave, enterX, dropX, leaveX, tk_WatchError, tk_BadNumber, tk_TooMany, tk_ValueError, sizeLine_eq]
    exact h3 h h' h'' h3'
  · exact h4 h h' h'' h3'
def tabZ (n k : Nat) (T : Nat → Nat → Int) : D := .lst ((tab n k T).map zl)
/-- the table T over the scale s tells the signal a -/
structure TOk (m n k : Nat) (a : Nat → Nat → Rat) (T : Nat → Nat → Int) (s : Int) : Prop where
  pos : 0 < s
  sb : Bd m s
  bd : ∀ i, i < n → ∀ j, j < k → Bd m (T i j)
  eq : ∀ i, i < n → ∀ j, j < k → (T i j : Rat) = a i j * s
theorem tabZ_len {n k : Nat} {T : Nat → Nat → Int} : ((tab n k T).map zl).length = n := by simp
theorem tabZ_get {n k i : Nat} {T : Nat → Nat → Int} (h : i < n) : ((tab n k T).map zl)[i]? = some (zl (tabL k (T i))) := by rw [List.getElem?_map, tab_get h]; rfl
theorem zl_get {k j : Nat} {f : Nat → Int} (h : j < k) : ((tabL k f).map D.int)[j]? = some (.int (f j)) := by rw [List.getElem?_map, tabL_get h]; rfl
theorem signal_is_eq {w m n k : Nat} {a : Nat → Nat → Rat} {T : Nat → Nat → Int} {s : Int} (ha : Fit w n k a) (ht : TOk m n k a T s) (n1 : 1 ≤ n) (n2 : n ≤ 12) (k2 : k ≤ 12) (hw : w ≤ 10000) (hm : m ≤ 100000) :
    m__law_signal_is [SF n k a, tabZ n k T, .int s] = .ok (.bl true) := by
  refine wr_eq (wr_def ?_)
  simp only [o__law_signal_is, ev0]
  have same : ∀ i : Int, m__law_same [.int i, .int i] = .ok (.bl true) := fun i => same_self 7 _ (.int _ _)
  have g0 := tabZ_get (k := k) (T := T) (show 0 < n by omega)
  have os : isOwn ti_Signal (SF n k a) = some true := rfl
  simp [tabZ, same, g0, zl, os]
  refine wo_rows rfl n2 k2 ?_
  simp
  refine ⟨by omega, ?_⟩
  refine for_ix (fun i ρ => ∃ s4 s5 : Sl, ρ = [.dat (SF n k a), .dat (tabZ n k T), .dat (.int s), .dat (.lst ((tab n k a).map fun r => .lst (r.map R))), s4, s5]) ?_ ?_ ?_
  · exact ⟨_, _, rfl⟩
  · rintro J hJ i d ρ hi ⟨s4, s5, er⟩
    subst er
    obtain ⟨hlt, rfl⟩ := rngL_get hi
    have hlt : i < n := by simpa using hlt
    refine ⟨_, rfl, ?_⟩
    simp [tabZ, atI_nn, tab_get hlt, g0, zl]
    refine ⟨by omega, ?_⟩
    refine for_ix (fun j ρ => ∃ s5 : Sl, ρ = [.dat (SF n k a), .dat (tabZ n k T), .dat (.int s), .dat (.lst ((tab n k a).map fun r => .lst (r.map R))), .dat (.int i), s5]) ?_ ?_ ?_
    · exact ⟨_, rfl⟩
    · rintro J' hJ' j d ρ hj ⟨s5, er⟩
      subst er
      obtain ⟨hlt2, rfl⟩ := rngL_get hj
      have hlt2 : j < k := by simpa using hlt2
      refine ⟨_, rfl, ?_⟩
      have w1 := law_worth_wp (ha.sz i hlt j hlt2) ht.sb (by omega) (Int.ne_of_gt ht.pos) (ht.eq i hlt j hlt2)
      simp [tabZ, atI_nn, tab_get hlt, tabL_get hlt2, zl, w1]
      refine wr_of (getSF hlt hlt2) ?_
      simp [w1]
      exact hJ' _ _ ⟨_, rfl⟩
    · rintro ρ ⟨s5, er⟩
      subst er
      exact hJ _ _ ⟨_, _, rfl⟩
  · rintro ρ ⟨s4, s5, er⟩
    subst er
    simp
theorem same_wl (n : Int) : m__law_same [.tup [.str "WrongLength", .int n, .bl true], .tup [.str "WrongLength", .int n, .bl true]] = .ok (.bl true) := same_self 7 _ (SameAll.tup (.cons (.str _ _) (.cons (.int _ _) (.cons (.bl _ _) (.nil _)))))
theorem same_tm (x : Str) (n : Int) : m__law_same [.tup [.str "TooMany", .str x, .int n, .bl true], .tup [.str "TooMany", .str x, .int n, .bl true]] = .ok (.bl true) := same_self 7 _ (SameAll.tup (.cons (.str _ _) (.cons (.str _ _) (.cons (.int _ _) (.cons (.bl _ _) (.nil _))))))
def thruZ (m : Nat) (T U : Nat → Nat → Int) (i k : Nat) : Int := accZ (fun j => T i j * U j k) m
theorem thru_ok {w v n m l : Nat} {a b : Nat → Nat → Rat} {T U : Nat → Nat → Int} {s u : Int} (ht : TOk w n m a T s) (hu : TOk v m l b U u) (hm : m ≤ 12) : TOk (w + v + 12) n l (through m a b) (thruZ m T U) (s * u) := by
  refine ⟨Int.mul_pos ht.pos hu.pos, (ht.sb.mul hu.sb).mono (by omega), fun i hi j hj => ?_, fun i hi j hj => ?_⟩
  · exact (accZ_bd (f := fun x => T i x * U x j) (m := w + v) (n := m) fun x hx => (ht.bd i hi x hx).mul (hu.bd x hx j hj)).mono (by omega)
  · unfold thruZ through
    rw [accZ_cast, Rat.intCast_mul]
    have e : accR (fun x => ((T i x * U x j : Int) : Rat)) m = accR (fun x => a i x * b x j * ((s : Rat) * u)) m := accR_congr fun x hx => by
      rw [Rat.intCast_mul, ht.eq i hi x hx, hu.eq x hx j hj]
      grind
    rw [e, accR_mulR]
theorem garbled_wp {w v n m l : Nat} {a b : Nat → Nat → Rat} {T U : Nat → Nat → Int} {s u : Int} (ht : TOk w n m a T s) (hu : TOk v m l b U u) (hw : w + v ≤ 100000) (n2 : n ≤ 12) (m1 : 1 ≤ m) (hm : m ≤ 12) (l2 : l ≤ 12) {Q : D → Prop} {E : Err → Prop} (hq : Q (.tup [tabZ n l (thruZ m T U), .int (s * u)])) : wr (m__law_garbled [tabZ n m T, .int s, tabZ m l U, .int u]) Q E := by
  have szl : sizeLine = 16777216 := sizeLine_eq
  refine wr_def ?_
  simp only [o__law_garbled, ev0]
  have g0 := tabZ_get (k := l) (T := U) (show 0 < m by omega)
  simp [tabZ]
  refine for_ix (fun i ρ => i ≤ n ∧ ∃ s5 s6 s7 : Sl, ρ = [.dat (tabZ n m T), .dat (.int s), .dat (tabZ m l U), .dat (.int u), .own ((tab i l (thruZ m T U)).map zl), s5, s6, s7, .no]) ?_ ?_ ?_
  · exact ⟨Nat.zero_le _, _, _, _, rfl⟩
  · rintro J hJ i d ρ hi ⟨him, s5, s6, s7, er⟩
    subst er
    have hlt : i < n := by
      have := (List.getElem?_eq_some_iff.mp hi).1
      simpa using this
    rw [tabZ_get hlt] at hi
    cases hi
    refine ⟨_, rfl, ?_⟩
    simp [tabZ, g0, zl]
    refine ⟨by omega, ?_⟩
    refine for_ix (fun j ρ => j ≤ l ∧ ∃ s7 : Sl, ρ = [.dat (tabZ n m T), .dat (.int s), .dat (tabZ m l U), .dat (.int u), .own ((tab i l (thruZ m T U)).map zl), .dat (zl (tabL m (T i))), .own ((tabL j (thruZ m T U i)).map .int), s7, .no]) ?_ ?_ ?_
    · exact ⟨Nat.zero_le _, _, rfl⟩
    · rintro J' hJ' j d ρ hj ⟨hjm, s7, er⟩
      subst er
      obtain ⟨hlt2, rfl⟩ := rngL_get hj
      have hlt2 : j < l := by simpa using hlt2
      refine ⟨_, rfl, ?_⟩
      simp only [wp_app, List.getElem?_cons_succ, List.getElem?_cons_zero, wm_call, wm_cons, wm_lstOf]
      have hh := fun (F : Nat → D) => @wm_lcM Nat (List.range m) (fun i => D.int (i : Nat)) F
      refine hh (fun x => .int (T i x * U x j)) ?_ ?_ ?_ ?_
      · simp [rngL0, zl]
        omega
      · simp; omega
      · intro x hx
        have hx := List.mem_range.mp hx
        refine ⟨_, rfl, ?_⟩
        simp [wipeE, tabZ, atI_nn, tabZ_get hx, zl, zl_get hx, tabL_get hx, tabL_get hlt2]
        exact (ht.bd i hlt x hx).cmul (hu.bd x hx j hlt2) (by omega)
      · have e : (List.range m).map (fun x => D.int (T i x * U x j)) = ((List.range m).map fun x => T i x * U x j).map .int := by rw [List.map_map]; rfl
        rw [e]
        simp [-List.map_map, sum_acc]
        refine ⟨by omega, hJ' _ _ ⟨by omega, .dat (.int j), ?_⟩⟩
        have e1 : tabL (j + 1) (thruZ m T U i) = tabL j (thruZ m T U i) ++ [thruZ m T U i j] := tabL_succ
        rw [e1, List.map_append]
        rfl
    · rintro ρ ⟨hjm, s7, er⟩
      subst er
      simp [freeze]
      refine ⟨by omega, hJ _ _ ⟨by omega, .dat (zl (tabL m (T i))), .dat (zl (tabL l (thruZ m T U i))), s7, ?_⟩⟩
      have e1 : tab (i + 1) l (thruZ m T U) = tab i l (thruZ m T U) ++ [tabL l (thruZ m T U i)] := tabL_succ
      rw [e1, List.map_append]
      simp [zl]
  · rintro ρ ⟨him, s5, s6, s7, er⟩
    subst er
    simp [freeze]
    refine ⟨ht.sb.cmul hu.sb (by omega), ?_⟩
    exact hq
def bothZ (l : Nat) (T U : Nat → Nat → Int) (i c : Nat) : Int := T i (c / l) * U i (c % l)
theorem bothZ_ok {w v n k l : Nat} {a b : Nat → Nat → Rat} {T U : Nat → Nat → Int} {s u : Int} (ht : TOk w n k a T s) (hu : TOk v n l b U u) : TOk (w + v) n (k * l) (bothF l a b) (bothZ l T U) (s * u) := by
  refine ⟨Int.mul_pos ht.pos hu.pos, ht.sb.mul hu.sb, fun i hi c hc => ?_, fun i hi c hc => ?_⟩
  · obtain ⟨h1, h2⟩ := div_lt' hc
    exact (ht.bd i hi _ h1).mul (hu.bd i hi _ h2)
  · obtain ⟨h1, h2⟩ := div_lt' hc
    unfold bothZ bothF
    rw [Rat.intCast_mul, Rat.intCast_mul, ht.eq i hi _ h1, hu.eq i hi _ h2]
    grind
theorem bothZ_succ {j l i : Nat} {T U : Nat → Nat → Int} : tabL (j * l) (bothZ l T U i) ++ (tabL l fun y => T i j * U i y) = tabL ((j + 1) * l) (bothZ l T U i) := by
  rw [tabL_app, Nat.succ_mul]
  refine tabL_congr fun c hc => ?_
  by_cases h : c < j * l
  · rw [if_pos h]
  · rw [if_neg h]
    have hl : 0 < l := by
      rcases Nat.eq_zero_or_pos l with z | z
      · subst z; omega
      · exact z
    have e3 : c / l = j := by
      refine Nat.div_eq_of_lt_le (by omega) ?_
      rw [Nat.succ_mul]
      omega
    have e4 : c % l = c - j * l := by
      have := Nat.div_add_mod c l
      rw [e3, Nat.mul_comm] at this
      omega
    unfold bothZ
    rw [e3, e4]
theorem both_wp {w v n k l : Nat} {a b : Nat → Nat → Rat} {T U : Nat → Nat → Int} {s u : Int} (ht : TOk w n k a T s) (hu : TOk v n l b U u) (hw : w + v ≤ 100000) (n2 : n ≤ 12) (hk : k ≤ 12) (l2 : l ≤ 12) {Q : D → Prop} {E : Err → Prop} (hq : Q (.tup [tabZ n (k * l) (bothZ l T U), .int (s * u)])) : wr (m__law_both [tabZ n k T, .int s, tabZ n l U, .int u]) Q E := by
  have szl : sizeLine = 16777216 := sizeLine_eq
  refine wr_def ?_
  simp only [o__law_both, ev0]
  simp [tabZ]
  refine ⟨by omega, ?_⟩
  refine for_ix (fun i ρ => i ≤ n ∧ ∃ s5 s6 s7 : Sl, ρ = [.dat (tabZ n k T), .dat (.int s), .dat (tabZ n l U), .dat (.int u), .own ((tab i (k * l) (bothZ l T U)).map zl), s5, s6, s7, .no]) ?_ ?_ ?_
  · exact ⟨Nat.zero_le _, _, _, _, rfl⟩
  · rintro J hJ i d ρ hi ⟨him, s5, s6, s7, er⟩
    subst er
    obtain ⟨hlt, rfl⟩ := rngL_get hi
    have hlt : i < n := by simpa using hlt
    refine ⟨_, rfl, ?_⟩
    simp [tabZ, atI_nn, tabZ_get hlt, zl]
    refine for_ix (fun j ρ => j ≤ k ∧ ∃ s7 : Sl, ρ = [.dat (tabZ n k T), .dat (.int s), .dat (tabZ n l U), .dat (.int u), .own ((tab i (k * l) (bothZ l T U)).map zl), .dat (.int i), .dat (zl (tabL (j * l) (bothZ l T U i))), s7, .no]) ?_ ?_ ?_
    · exact ⟨Nat.zero_le _, s7, by rw [Nat.zero_mul]; rfl⟩
    · rintro J' hJ' j d ρ hj ⟨hjm, s7, er⟩
      subst er
      have hlt2 : j < k := by
        have := (List.getElem?_eq_some_iff.mp hj).1
        simpa using this
      simp [tabL_get hlt2] at hj
      subst hj
      refine ⟨_, rfl, ?_⟩
      simp only [wp_set, List.getElem?_cons_succ, List.getElem?_cons_zero, wm_call, wm_cons, wm_lstOf, wm_fOp, wm_var]
      have hh := fun (F : Nat → D) => @wm_lcM Nat (List.range l) (fun x => D.int (U i x)) F
      refine hh (fun x => .int (T i j * U i x)) ?_ ?_ ?_ ?_
      · simp [tabZ, atI_nn, tab_get hlt, zl, tabL]
      · simp; omega
      · intro x hx
        have hx := List.mem_range.mp hx
        refine ⟨_, rfl, ?_⟩
        simp [wipeE]
        exact (ht.bd i hlt j hlt2).cmul (hu.bd i hlt x hx) (by omega)
      · have hz : (j + 1) * l ≤ 12 * 12 := Nat.mul_le_mul (by omega) l2
        have hz2 : (j + 1) * l = j * l + l := Nat.succ_mul j l
        simp [zl]
        refine ⟨by omega, hJ' _ _ ⟨by omega, .dat (.int (T i j)), ?_⟩⟩
        rw [← bothZ_succ]
        simp [zl, tabL]
    · rintro ρ ⟨hjm, s7, er⟩
      subst er
      have el : ((tabL k (T i)).map D.int).length = k := by simp
      rw [el]
      simp
      refine ⟨by omega, hJ _ _ ⟨by omega, .dat (.int i), .dat (zl (tabL (k * l) (bothZ l T U i))), s7, ?_⟩⟩
      have e1 : tab (i + 1) (k * l) (bothZ l T U) = tab i (k * l) (bothZ l T U) ++ [tabL (k * l) (bothZ l T U i)] := tabL_succ
      rw [e1, List.map_append]
      rfl
  · rintro ρ ⟨him, s5, s6, s7, er⟩
    subst er
    simp [freeze]
    refine ⟨ht.sb.cmul hu.sb (by omega), ?_⟩
    exact hq
/-- the table and its scale -/
abbrev tabS (n k : Nat) (T : Nat → Nat → Int) (s : Int) : D := .tup [tabZ n k T, .int s]
/-- a signal and its table -/
structure Told (w m n k : Nat) (a : Nat → Nat → Rat) (T : Nat → Nat → Int) (s : Int) : Prop where
  fit : Fit w n k a
  ok : TOk m n k a T s
  n1 : 1 ≤ n
  n2 : n ≤ 12
  k1 : 1 ≤ k
  k2 : k ≤ 12
theorem garbles_eq {w m n k n' l : Nat} {a b : Nat → Nat → Rat} {T U : Nat → Nat → Int} {s u : Int} (ha : Told w m n k a T s) (hb : Told w m n' l b U u) (hw : w ≤ 150) (hm : m ≤ 2000) :
    m__law_garbles [SF n k a, SF n' l b, tabS n k T s, tabS n' l U u] = .ok (.bl true) := by
  refine wr_eq (wr_def ?_)
  simp only [o__law_garbles, ev0]
  have g0 := tabZ_get (k := k) (T := T) (show 0 < n from ha.n1)
  simp
  refine made0 ha.fit hb.fit ha.n1 ha.n2 ha.k2 hb.n2 hb.k1 hb.k2 (by omega) (fun h => ?_) (fun h => ?_)
  · simp [tabZ, g0, zl]
    rw [if_neg (by omega)]
    simp [same_wl]
  · subst h
    simp [tabZ, g0, zl]
    refine garbled_wp ha.ok hb.ok (by omega) ha.n2 ha.k1 ha.k2 hb.k2 ?_
    simp [signal_is_eq (through_fit ha.fit hb.fit ha.k2) (thru_ok ha.ok hb.ok ha.k2) ha.n1 ha.n2 hb.k2 (by omega) (by omega)]
theorem hears_both_eq {w m n k n' l : Nat} {a b : Nat → Nat → Rat} {T U : Nat → Nat → Int} {s u : Int} (ha : Told w m n k a T s) (hb : Told w m n' l b U u) (hw : w ≤ 150) (hm : m ≤ 2000) :
    m__law_hears_both [SF n k a, SF n' l b, tabS n k T s, tabS n' l U u] = .ok (.bl true) := by
  refine wr_eq (wr_def ?_)
  simp only [o__law_hears_both, ev0]
  have g0 := tabZ_get (k := k) (T := T) (show 0 < n from ha.n1)
  have g1 := tabZ_get (k := l) (T := U) (show 0 < n' from hb.n1)
  have k2 := ha.k2
  have l2 := hb.k2
  have cm : CMulX (k : Int) (l : Int) := cmul_small (by omega) (by omega) (by omega) (by omega)
  have ekl : ((k : Int) * l) = ((k * l : Nat) : Int) := by simp
  simp
  refine made1 ha.fit hb.fit ha.n1 ha.n2 hb.n2 ha.k1 ha.k2 hb.k1 hb.k2 (by omega) (fun h => ?_) (fun h h' => ?_) (fun h h' => ?_)
  · simp [tabZ, g0, g1, zl]
    rw [if_neg (by omega)]
    simp [same_wl]
  · subst h
    simp [tabZ, g0, g1, zl, -Int.natCast_mul]
    refine ⟨cm, ?_⟩
    rw [if_pos (by rw [ekl]; omega)]
    simp [same_tm]
  · subst h
    simp [tabZ, g0, g1, zl, -Int.natCast_mul]
    refine ⟨cm, ?_⟩
    rw [if_neg (by rw [ekl]; omega)]
    refine both_wp ha.ok hb.ok (by omega) ha.n2 ha.k2 hb.k2 ?_
    simp [signal_is_eq (both_fit ha.fit hb.fit) (bothZ_ok ha.ok hb.ok) ha.n1 ha.n2 h' (by omega) (by omega)]
theorem kept_eq {w m n k : Nat} {a : Nat → Nat → Rat} {T : Nat → Nat → Int} {s : Int} (ha : Told w m n k a T s) (hw : w ≤ 150) (hm : m ≤ 2000) :
    m__law_kept [SF n k a, tabS n k T s] = .ok (.bl true) := by
  refine wr_eq (wr_def ?_)
  simp only [o__law_kept, ev0]
  simp
  refine wo_prop rfl (rows_eq ha.n2 ha.k2) ?_
  have n1 := ha.n1
  have n2 := ha.n2
  have k2 := ha.k2
  have e : ((tab n k a).map fun r => D.lst (r.map R)) = ((tab n k a).map fun r => r.map R).map D.lst := by rw [List.map_map]; rfl
  have r0 : rowN ((tab n k a).map fun r => r.map R) (D.int 0) = some 0 := rowN_nat (by simp; omega)
  rw [e]
  simp only [lstsD_m]
  simp [r0]
  refine make1_wp ?_
  simp [tab_get n1, sizeLine_eq]
  refine ⟨by omega, by omega, ?_⟩
  simp [signal_is_eq ha.fit ha.ok ha.n1 ha.n2 ha.k2 (by omega) (by omega)]
def blendZ (k : Nat) (t u s s2 : Int) (T U : Nat → Nat → Int) (i c : Nat) : Int := if c < k then T i c * t * s2 else U i (c - k) * (u - t) * s
theorem ratP_mul {p : Int × Int} (h : 0 < p.2) : ratP p * p.2 = p.1 := by
  have hz : (p.2 : Rat) ≠ 0 := fun z => by
    have := Rat.intCast_eq_zero_iff.mp z
    omega
  unfold ratP
  rw [Rat.divInt_eq_div, Rat.div_mul_cancel hz]
theorem ratP_neg {p : Int × Int} (h : 0 < p.2) : ratP p < 0 ↔ p.1 < 0 := by
  have h2 : (0 : Rat) < p.2 := by exact_mod_cast h
  have e := ratP_mul h
  constructor
  · intro l
    have : ratP p * p.2 < 0 := by
      have := Rat.mul_lt_mul_of_pos_right l h2
      rwa [Rat.zero_mul] at this
    rw [e] at this
    exact_mod_cast this
  · intro l
    apply Classical.byContradiction
    intro nl
    have := Rat.mul_nonneg (Rat.not_lt.mp nl) (Rat.le_of_lt h2)
    rw [e] at this
    have : (0 : Int) ≤ p.1 := by exact_mod_cast this
    omega
theorem ratP_gt {p : Int × Int} (h : 0 < p.2) : 1 < ratP p ↔ p.2 < p.1 := by
  have h2 : (0 : Rat) < p.2 := by exact_mod_cast h
  have e := ratP_mul h
  constructor
  · intro l
    have := Rat.mul_lt_mul_of_pos_right l h2
    rw [Rat.one_mul, e] at this
    exact_mod_cast this
  · intro l
    apply Classical.byContradiction
    intro nl
    have := Rat.mul_le_mul_of_nonneg_right (Rat.not_lt.mp nl) (Rat.le_of_lt h2)
    rw [Rat.one_mul, e] at this
    have : p.1 ≤ p.2 := by exact_mod_cast this
    omega
theorem blendZ_ok {w v x n k l : Nat} {a b : Nat → Nat → Rat} {T U : Nat → Nat → Int} {s s2 : Int} {p : Int × Int} (ht : TOk w n k a T s) (hu : TOk v n l b U s2) (hp : PairOk x p) : TOk (w + v + x + 1) n (k + l) (blendF k (ratP p) a b) (blendZ k p.1 p.2 s s2 T U) (s * s2 * p.2) := by
  have e := ratP_mul hp.1
  refine ⟨Int.mul_pos (Int.mul_pos ht.pos hu.pos) hp.1, ((ht.sb.mul hu.sb).mul hp.2.2).mono (by omega), fun i hi c hc => ?_, fun i hi c hc => ?_⟩
  · unfold blendZ
    by_cases h : c < k
    · rw [if_pos h]
      exact (((ht.bd i hi c h).mul hp.2.1).mul hu.sb).mono (by omega)
    · rw [if_neg h]
      have hd : Bd (x + 1) (p.2 - p.1) := (hp.2.2.sub hp.2.1).mono (by omega)
      exact (((hu.bd i hi (c - k) (by omega)).mul hd).mul ht.sb).mono (by omega)
  · unfold blendZ blendF
    by_cases h : c < k
    · rw [if_pos h, if_pos h]
      rw [Rat.intCast_mul, Rat.intCast_mul, Rat.intCast_mul, Rat.intCast_mul, ht.eq i hi c h, ← e]
      grind
    · rw [if_neg h, if_neg h]
      rw [Rat.intCast_mul, Rat.intCast_mul, Rat.intCast_mul, Rat.intCast_mul, Rat.intCast_sub, hu.eq i hi (c - k) (by omega), ← e]
      grind
theorem is_blended_eq {w m x n k n' l : Nat} {a b : Nat → Nat → Rat} {T U : Nat → Nat → Int} {s s2 : Int} {p : Int × Int} {d : D} (ha : Told w m n k a T s) (hb : Told w m n' l b U s2) (hw : w ≤ 150) (hm : m ≤ 2000) (hp : PairOk x p) (hd : NumD d (ratP p)) (hx : x ≤ 300) :
    m__law_is_blended [SF n k a, SF n' l b, tabS n k T s, tabS n' l U s2, .tup [.int p.1, .int p.2], d] = .ok (.bl true) := by
  have szl : sizeLine = 16777216 := sizeLine_eq
  obtain ⟨t, u⟩ := p
  refine wr_eq (wr_def ?_)
  simp only [o__law_is_blended, ev0]
  have g0 := tabZ_get (k := k) (T := T) (show 0 < n from ha.n1)
  have g1 := tabZ_get (k := l) (T := U) (show 0 < n' from hb.n1)
  have k2 := ha.k2
  have l2 := hb.k2
  have n2 := ha.n2
  have hz := hp.1
  have bt := hp.2.1
  have bu := hp.2.2
  have lo : ratP (t, u) < 0 ↔ t < 0 := ratP_neg (p := (t, u)) hp.1
  have hi : 1 < ratP (t, u) ↔ u < t := ratP_gt (p := (t, u)) hp.1
  simp
  refine made2 ha.fit hb.fit hd hp.sz ha.n1 ha.n2 hb.n2 ha.k1 ha.k2 hb.k1 hb.k2 (by omega) (fun h => ?_) (fun h h' => ?_) (fun h h1 h2 h3 => ?_) (fun h h1 h2 h3 => ?_)
  · simp [tabZ, g0, g1, zl]
    rw [if_neg (by omega)]
    simp [same_wl]
  · subst h
    have hh : t < 0 ∨ u < t := h'.imp lo.mp hi.mp
    simp [tabZ, g0, g1, zl]
    have last : wr (m__law_number_is [d, .int t, .int u]) (fun a => wr (truthD a) (fun b => b = false → a = D.bl true) fun e => noE e) (fun e => noE e) := wr_of (number_is_eq hd hp (by omega)) (by simp)
    by_cases c : t < 0
    · rw [if_pos c]
      exact last
    · rw [if_neg c, if_pos (hh.resolve_left c)]
      exact last
  · subst h
    have hh : ¬ (t < 0 ∨ u < t) := fun z => z.elim (fun z => absurd (lo.mpr z) (Rat.not_lt.mpr h1)) (fun z => absurd (hi.mpr z) (Rat.not_lt.mpr h2))
    simp [tabZ, g0, g1, zl]
    rw [if_neg (fun z => hh (.inl z)), if_neg (fun z => hh (.inr z)), if_pos (by omega)]
    simp [same_tm]
  · subst h
    have hh : ¬ (t < 0 ∨ u < t) := fun z => z.elim (fun z => absurd (lo.mpr z) (Rat.not_lt.mpr h1)) (fun z => absurd (hi.mpr z) (Rat.not_lt.mpr h2))
    simp [tabZ, g0, g1, zl]
    rw [if_neg (fun z => hh (.inl z)), if_neg (fun z => hh (.inr z)), if_neg (by omega)]
    refine ⟨by omega, ?_⟩
    refine for_ix (fun i ρ => i ≤ n' ∧ ∃ s8 s9 : Sl, ρ = [.dat (SF n' k a), .dat (SF n' l b), .dat (tabS n' k T s), .dat (tabS n' l U s2), .dat (.tup [.int t, .int u]), .dat d, .dat (SF n' (k + l) (blendF k (ratP (t, u)) a b)), .own ((tab i (k + l) (blendZ k t u s s2 T U)).map zl), s8, s9, .no]) ?_ ?_ ?_
    · exact ⟨Nat.zero_le _, _, _, rfl⟩
    · rintro J hJ i d' ρ hi' ⟨him, s8, s9, er⟩
      subst er
      obtain ⟨hlt, rfl⟩ := rngL_get hi'
      have hlt : i < n' := by simpa using hlt
      refine ⟨_, rfl, ?_⟩
      simp only [wp_seq, wp_setL, List.getElem?_cons_succ, List.getElem?_cons_zero]
      have hh := fun (F : Nat → D) => @wm_lcM Nat (List.range k) (fun x => D.int (T i x)) F
      refine hh (fun x => .int (T i x * t * s2)) ?_ ?_ ?_ ?_
      · simp [tabZ, atI_nn, tab_get hlt, zl, tabL]
      · simp; omega
      · intro x' hx'
        have hx' := List.mem_range.mp hx'
        refine ⟨_, rfl, ?_⟩
        simp [wipeE]
        exact ⟨(ha.ok.bd i hlt x' hx').cmul bt (by omega), ((ha.ok.bd i hlt x' hx').mul bt).cmul hb.ok.sb (by omega)⟩
      simp only [wp_app, List.getElem?_cons_succ, List.getElem?_cons_zero, wm_lstOf, wm_fOp, wm_var, List.set_cons_succ, List.set_cons_zero]
      have hh := fun (F : Nat → D) => @wm_lcM Nat (List.range l) (fun x => D.int (U i x)) F
      refine hh (fun x => .int (U i x * (u - t) * s)) ?_ ?_ ?_ ?_
      · simp [tabZ, atI_nn, tab_get hlt, zl, tabL]
      · simp; omega
      · intro x' hx'
        have hx' := List.mem_range.mp hx'
        refine ⟨_, rfl, ?_⟩
        simp [wipeE]
        have hd : Bd (x + 1) (u - t) := (bu.sub bt).mono (by omega)
        exact ⟨(hb.ok.bd i hlt x' hx').cmul hd (by omega), ((hb.ok.bd i hlt x' hx').mul hd).cmul ha.ok.sb (by omega)⟩
      simp
      refine ⟨by omega, by omega, hJ _ _ ⟨by omega, .dat (.int i), .dat (.lst ((List.range k).map fun x => .int (T i x * t * s2))), ?_⟩⟩
      have e1 : tab (i + 1) (k + l) (blendZ k t u s s2 T U) = tab i (k + l) (blendZ k t u s s2 T U) ++ [tabL (k + l) (blendZ k t u s s2 T U i)] := tabL_succ
      have e2 : tabL (k + l) (blendZ k t u s s2 T U i) = tabL k (fun x => T i x * t * s2) ++ tabL l (fun x => U i x * (u - t) * s) := by
        rw [tabL_app]
        rfl
      rw [e1, e2, List.map_append]
      simp [tabL, zl]
      rfl
    · rintro ρ ⟨him, s8, s9, er⟩
      subst er
      simp
      refine ⟨ha.ok.sb.cmul hb.ok.sb (by omega), (ha.ok.sb.mul hb.ok.sb).cmul bu (by omega), ?_⟩
      have := signal_is_eq (blend_fit ha.fit hb.fit hp.sz h1 h2) (blendZ_ok ha.ok hb.ok hp) ha.n1 ha.n2 h3 (by omega) (by omega)
      exact wr_of this ⟨rfl, rfl⟩
theorem sum_nn : ∀ {l : List Int}, (∀ x ∈ l, 0 ≤ x) → 0 ≤ l.sum
  | [], _ => by simp
  | x :: l, h => by
    have := h x List.mem_cons_self
    have := sum_nn (l := l) fun y hy => h y (List.mem_cons_of_mem _ hy)
    rw [List.sum_cons]
    omega
theorem sum_le {M : Int} : ∀ {l : List Int}, (∀ x ∈ l, x ≤ M) → l.sum ≤ l.length * M
  | [], _ => by simp
  | x :: l, h => by
    have := h x List.mem_cons_self
    have := sum_le (l := l) fun y hy => h y (List.mem_cons_of_mem _ hy)
    rw [List.sum_cons, List.length_cons]
    have e : ((l.length + 1 : Nat) : Int) * M = l.length * M + M := by
      rw [Int.natCast_add, Int.add_mul]
      simp
    omega
theorem filled_wp {r : List Int} {at_ most : Int} {b : Nat} (hM : 2 ≤ most) (hb : Bd b (12 * most)) (h : ∀ x ∈ r, 0 ≤ x ∧ x < most) (h0 : 0 ≤ at_) (h1 : at_ < r.length) (hl : r.length ≤ 12) {Q : D → Prop} {E : Err → Prop} (hq : ∀ r' : List Int, ZRow b r.length r' → Q (zl r')) : wr (m__law_filled [.lst (r.map .int), .int at_]) Q E := by
  refine wr_def ?_
  simp only [o__law_filled, ev0]
  have mk : ∀ r' : List Int, r'.length = r.length → (∀ x ∈ r', 0 ≤ x ∧ x < most) → 0 < r'.sum → ZRow b r.length r' := fun r' e1 e2 e3 => by
    have l := sum_le (M := most - 1) (l := r') fun x hx => by have := (e2 x hx).2; omega
    refine ⟨e1, fun x hx => (e2 x hx).1, fun x hx => ?_, e3, ?_⟩
    · have := e2 x hx
      exact hb.le (by omega) (by omega)
    · have e : (12 : Int) * (most - 1) ≤ 12 * most := by omega
      have e2 : (r'.length : Int) * (most - 1) ≤ 12 * (most - 1) := Int.mul_le_mul_of_nonneg_right (by omega) (by omega)
      exact hb.le (by omega) (by omega)
  simp
  by_cases hs : 0 < r.sum
  · simp [hs]
    exact hq r (mk r rfl h hs)
  · simp [hs]
    have hz : (r.length : Int) ≠ 0 := by omega
    have e : at_.fmod r.length = at_ := by
      rw [Int.fmod_eq_emod_of_nonneg _ (by omega), Int.emod_eq_of_lt h0 h1]
    have ee : at_ = (at_.toNat : Int) := (Int.toNat_of_nonneg h0).symm
    have c1 : cutL (r.map D.int) none (some at_) = (r.map D.int).take at_.toNat := by
      have := cut_to (r.map D.int) at_.toNat
      rwa [← ee] at this
    have c2 : cutL (r.map D.int) (some (at_ + 1)) none = (r.map D.int).drop (at_.toNat + 1) := by
      have := cut_from (r.map D.int) (at_.toNat + 1)
      rwa [Int.natCast_add, ← ee] at this
    rw [e, c1, c2]
    simp
    refine ⟨fun z => by rw [z] at h1; simp at h1; omega, by omega, by omega, ?_⟩
    have := hq (r.take at_.toNat ++ 1 :: r.drop (at_.toNat + 1)) (mk _ (by simp; omega) (fun x hx => ?_) ?_)
    · simpa [zl] using this
    · rw [List.mem_append, List.mem_cons] at hx
      rcases hx with hx | hx | hx
      · exact h x (List.mem_of_mem_take hx)
      · omega
      · exact h x (List.mem_of_mem_drop hx)
    · rw [List.sum_append, List.sum_cons]
      have a := sum_nn (l := r.take at_.toNat) fun x hx => (h x (List.mem_of_mem_take hx)).1
      have b := sum_nn (l := r.drop (at_.toNat + 1)) fun x hx => (h x (List.mem_of_mem_drop hx)).1
      omega
theorem signal_rows_wp {ns : List Int} {first salt most : Int} {m k b : Nat} (hM : 2 ≤ most) (hb : Bd b (12 * most)) (hb2 : Bd 4000 most) (hf : 0 ≤ first ∧ first < 1000) (hs : 0 ≤ salt ∧ salt < 1000) (hm : m ≤ 12) (k1 : 1 ≤ k) (hk : k ≤ 12) {Q : D → Prop} {E : Err → Prop} (hq : ∀ rs : List (List Int), rs.length = m → (∀ r ∈ rs, ZRow b k r) → Q (.lst (rs.map zl))) :
    wr (m__law_signal_rows [.lst (ns.map .int), .int first, .int salt, .int m, .int k, .int most]) Q E := by
  refine wr_def ?_
  simp only [o__law_signal_rows, ev0]
  simp
  refine ⟨by omega, ?_⟩
  refine for_ix (fun i ρ => i ≤ m ∧ ∃ (rs : List (List Int)) (s7 s8 : Sl), ρ = [.dat (.lst (ns.map .int)), .dat (.int first), .dat (.int salt), .dat (.int m), .dat (.int k), .dat (.int most), .own (rs.map zl), s7, s8] ∧ rs.length = i ∧ ∀ r ∈ rs, ZRow b k r) ?_ ?_ ?_
  · exact ⟨Nat.zero_le _, [], _, _, rfl, rfl, fun r hr => by cases hr⟩
  · rintro J hJ i d ρ hi ⟨him, rs, s7, s8, er, e1, e2⟩
    subst er
    obtain ⟨hl, rfl⟩ := rngL_get hi
    have hl : i < m := by simpa using hl
    refine ⟨_, rfl, ?_⟩
    simp
    refine cell_wp ns (by omega) fun c hc => ?_
    have menu : ((List.replicate k [D.int most]).flatten ++ [D.int k]) = (List.replicate k most ++ [(k : Int)]).map .int := by
      simp
    refine ⟨by omega, by omega, ?_⟩
    have menu2 : List.replicate k (D.int most) ++ [D.int k] = (List.replicate k most ++ [(k : Int)]).map .int := by simp
    rw [menu2]
    refine draws_wp hc (by omega) (by omega) (fun x hx => ?_) (by simp; omega) fun xs hxl hx => ?_
    · rw [List.mem_append] at hx
      rcases hx with hx | hx
      · have := (List.mem_replicate.mp hx).2
        subst this
        exact ⟨by omega, hb2.mono (by decide)⟩
      · have := List.mem_singleton.mp hx
        subst this
        exact ⟨by omega, Bd.mono (n := 4) (by unfold Bd; omega) (by decide)⟩
    · have hxl : xs.length = k + 1 := by simpa using hxl
      have xk : (xs.map D.int)[k]? = some (.int xs[k]) := by
        rw [List.getElem?_map, List.getElem?_eq_getElem (by omega)]
        rfl
      have last := hx k xs[k] k (List.getElem?_eq_getElem (by omega)) (by simp)
      have ck := cut_to (xs.map D.int) k
      simp [atI_nn, xk, ck]
      rw [← List.map_take]
      have tl : (xs.take k).length = k := by rw [List.length_take]; omega
      refine filled_wp (r := xs.take k) hM hb (fun x hx2 => ?_) last.1 (by rw [tl]; exact last.2) (by omega) fun r' hr' => ?_
      · obtain ⟨j, hj, rfl⟩ := List.mem_iff_getElem.mp hx2
        rw [List.getElem_take]
        rw [tl] at hj
        exact hx j _ most (List.getElem?_eq_getElem (by omega)) (by rw [List.getElem?_append_left (by simpa using hj), List.getElem?_replicate, if_pos hj])
      · rw [tl] at hr'
        refine ⟨by omega, hJ _ _ ⟨by omega, rs ++ [r'], _, _, by rw [List.map_append]; rfl, by simp [e1], fun r hr => ?_⟩⟩
        rw [List.mem_append] at hr
        rcases hr with hr | hr
        · exact e2 r hr
        · rw [List.mem_singleton.mp hr]; exact hr'
  · rintro ρ ⟨him, rs, s7, s8, er, e1, e2⟩
    subst er
    simp [freeze]
    exact hq rs (by simpa using e1) e2
theorem five {xs : List Int} (h : xs.length = 5) : ∃ a b c d e, xs = [a, b, c, d, e] := by
  match xs, h with
  | [a, b, c, d, e], _ => exact ⟨a, b, c, d, e, rfl⟩
theorem pow_1059 : CPow 10 59 := by
  unfold CPow
  omega
theorem bd59 : Bd 8000 (10 ^ 59) := Bd.mono (n := 200) (by unfold Bd; decide) (by decide)
theorem share_wp {cell : Int} (h0 : 0 ≤ cell) {Q : D → Prop} {E : Err → Prop} (hq : ∀ t u : Int, PairOk 300 (t, u) → Q (.tup [.int t, .int u])) : wr (m__law_share [.int cell]) Q E := by
  refine wr_def ?_
  simp only [o__law_share, ev0]
  simp
  refine ⟨pow_1059, ?_⟩
  have e : [D.int 8, .int 12, .int 12, .int 100000000000000000000000000000000000000000000000000000000000, .int 100000000000000000000000000000000000000000000000000000000000] = [(8 : Int), 12, 12, 10 ^ 59, 10 ^ 59].map .int := rfl
  rw [e]
  refine draws_wp h0 (by decide) (by decide) (fun m hm => ?_) (by decide) fun xs hl hx => ?_
  · simp at hm
    rcases hm with rfl | rfl | rfl | rfl
    · exact ⟨by decide, Bd.mono (n := 4) (by unfold Bd; decide) (by decide)⟩
    · exact ⟨by decide, Bd.mono (n := 4) (by unfold Bd; decide) (by decide)⟩
    · exact ⟨by decide, bd59⟩
  obtain ⟨a, b, c, d, e, rfl⟩ := five hl
  have ha := hx 0 a 8 rfl rfl
  have hb := hx 1 b 12 rfl rfl
  have hc := hx 2 c 12 rfl rfl
  have hd := hx 3 d (10 ^ 59) rfl rfl
  have he := hx 4 e (10 ^ 59) rfl rfl
  have small : ∀ t u : Int, -(4 * 10 ^ 59) < t → t < 4 * 10 ^ 59 → 0 < u → u < 4 * 10 ^ 59 → PairOk 300 (t, u) := fun t u h1 h2 h3 h4 => ⟨h3, by unfold Bd; omega, by unfold Bd; omega⟩
  simp only [List.map_cons, List.map_nil]
  clear hx hl
  by_cases c0 : a = 0
  · subst c0
    simp
    exact hq _ _ (small _ _ (by decide) (by decide) (by decide) (by decide))
  by_cases c1 : a = 1
  · subst c1
    simp
    exact hq _ _ (small _ _ (by decide) (by decide) (by decide) (by decide))
  have p1 : (0 : Int) < 1 + c + 1 := by omega
  have p2 : (0 : Int) < 1 + e + 1 := by omega
  have b0 := Int.fmod_nonneg_of_pos b p1
  have b1 := Int.fmod_lt_of_pos b p1
  have d0 := Int.fmod_nonneg_of_pos d p2
  have d1 := Int.fmod_lt_of_pos d p2
  by_cases c4 : a = 4
  · subst c4
    simp
    exact ⟨by omega, by omega, hq _ _ (small _ _ (by omega) (by omega) (by omega) (by omega))⟩
  by_cases c2 : a = 2
  · subst c2
    simp
    exact ⟨by omega, hq _ _ (small _ _ (by omega) (by omega) (by omega) (by omega))⟩
  by_cases c3 : a = 3
  · subst c3
    simp
    exact ⟨by omega, hq _ _ (small _ _ (by omega) (by omega) (by omega) (by omega))⟩
  simp [c0, c1, c2, c3, c4]
  exact ⟨by omega, hq _ _ (small _ _ (by omega) (by omega) (by omega) (by omega))⟩
abbrev PT : Po := ⟨fun _ => False, fun x => x = .bl true, fun _ => False, fun _ => False, fun e _ => noE e⟩
theorem bd_small {i : Int} (h0 : 1 ≤ i) (h1 : i ≤ 100000) : 1 ≤ i ∧ Bd 8000 i := ⟨h0, Bd.mono (n := 64) (by unfold Bd; omega) (by decide)⟩
theorem pow_1028 : CPow 10 28 := by
  unfold CPow
  omega
theorem tab_of {α : Type} {k : Nat} {l : List (List α)} (d : α) (h : ∀ r ∈ l, r.length = k) : l = tab l.length k fun i j => (l.getD i []).getD j d := by
  refine List.ext_getElem? fun i => ?_
  by_cases hi : i < l.length
  · rw [tab_get hi, List.getElem?_eq_getElem hi]
    have e1 : l.getD i [] = l[i] := by rw [List.getD_eq_getElem?_getD, List.getElem?_eq_getElem hi]; rfl
    have e2 := tabL_of l[i] d
    rw [h _ (List.getElem_mem hi)] at e2
    rw [e1, ← e2]
  · rw [List.getElem?_eq_none (by omega), List.getElem?_eq_none (by rw [tab_len]; omega)]
theorem told_of {b k : Nat} {rs : List (List Int)} (hr : ∀ r ∈ rs, ZRow b k r) (hb : b ≤ 97) (h0 : rs ≠ []) (hl : rs.length ≤ 12) (k1 : 1 ≤ k) (k2 : k ≤ 12) :
    ∃ a T s, m__law_table [.lst (rs.map zl)] = .ok (tabS rs.length k T s) ∧ (∀ plain, m__law_signal [.lst (rs.map zl), .int plain] = .ok (SF rs.length k a)) ∧ Told 97 1300 rs.length k a T s := by
  have l0 : rs.length ≠ 0 := fun z => h0 (List.length_eq_zero_iff.mp z)
  have key : ∃ d, m__law_table [.lst (rs.map zl)] = .ok d ∧ ∃ (s : Int) (T : List (List Int)), d = .tup [.lst (T.map zl), .int s] ∧ 0 < s ∧ T.map castL = rs.map (fun r => (ratRow r).map (· * (s : Rat))) ∧ Bd (b * rs.length + 1) s ∧ ∀ r ∈ T, r.length = k ∧ ∀ z ∈ r, Bd (b + (b * rs.length + 1)) z := by
    refine wr_ex (table_wp hr (by omega) (by omega) (by omega) fun s T h1 h2 h3 h4 => ⟨s, T, rfl, h1, h2, h3, h4⟩)
  obtain ⟨d, e, s, T, rfl, h1, h2, h3, h4⟩ := key
  have hT : T.length = rs.length := by
    have := congrArg List.length h2
    rwa [List.length_map, List.length_map] at this
  have eT := tab_of (0 : Int) fun r hr => (h4 r hr).1
  have hR : ∀ r ∈ rs.map ratRow, r.length = k := fun r hr' => by
    obtain ⟨r, hr2, rfl⟩ := List.mem_map.mp hr'
    exact (hr r hr2).row.len
  have eR := tab_of (0 : Rat) hR
  rw [List.length_map] at eR
  have hz : b * rs.length ≤ 97 * 12 := Nat.mul_le_mul hb hl
  refine ⟨fun i j => ((rs.map ratRow).getD i []).getD j 0, fun i j => (T.getD i []).getD j 0, s, ?_, fun plain => ?_, ⟨⟨fun i hi j hj => ?_, fun i hi j hj => ?_, fun i hi => ?_⟩, ⟨h1, h3.mono (by omega), fun i hi j hj => ?_, fun i hi j hj => ?_⟩, by omega, hl, k1, k2⟩⟩
  · rw [e]
    rw [hT] at eT
    exact congrArg (fun L : List (List Int) => Res.ok (D.tup [.lst (L.map zl), .int s])) eT
  · rw [law_signal_eq hr (by omega) h0 k1 k2 hl]
    exact congrArg (fun L : List (List Rat) => Res.ok (S k L)) eR
  all_goals
    have ri : (rs.map ratRow).getD i [] = ratRow rs[i] := by rw [List.getD_eq_getElem?_getD, List.getElem?_map, List.getElem?_eq_getElem hi]; rfl
    have row := (hr _ (List.getElem_mem hi)).row
  · have hj2 : j < (ratRow rs[i]).length := by rw [row.len]; exact hj
    show Sz 97 (((rs.map ratRow).getD i []).getD j 0)
    rw [ri, List.getD_eq_getElem?_getD, List.getElem?_eq_getElem hj2]
    exact (row.sz _ (List.getElem_mem hj2)).1.mono hb
  · have hj2 : j < (ratRow rs[i]).length := by rw [row.len]; exact hj
    show 0 ≤ ((rs.map ratRow).getD i []).getD j 0
    rw [ri, List.getD_eq_getElem?_getD, List.getElem?_eq_getElem hj2]
    exact (row.sz _ (List.getElem_mem hj2)).2
  · show accR (fun j => ((rs.map ratRow).getD i []).getD j 0) k = 1
    rw [ri]
    have e2 := tabL_of (ratRow rs[i]) (0 : Rat)
    rw [row.len] at e2
    have e3 := row.sum
    rw [e2] at e3
    unfold tabL at e3
    rwa [foldl_acc] at e3
  · have hi2 : i < T.length := by omega
    have ti : T.getD i [] = T[i] := by rw [List.getD_eq_getElem?_getD, List.getElem?_eq_getElem hi2]; rfl
    obtain ⟨q1, q2⟩ := h4 _ (List.getElem_mem hi2)
    have hj2 : j < T[i].length := by omega
    show Bd 1300 ((T.getD i []).getD j 0)
    rw [ti, List.getD_eq_getElem?_getD, List.getElem?_eq_getElem hj2]
    exact (q2 _ (List.getElem_mem hj2)).mono (by omega)
  · have hi2 : i < T.length := by omega
    have ti : T.getD i [] = T[i] := by rw [List.getD_eq_getElem?_getD, List.getElem?_eq_getElem hi2]; rfl
    obtain ⟨q1, q2⟩ := h4 _ (List.getElem_mem hi2)
    have hj2 : j < T[i].length := by omega
    have hj3 : j < (ratRow rs[i]).length := by rw [row.len]; exact hj
    show (((T.getD i []).getD j 0 : Int) : Rat) = ((rs.map ratRow).getD i []).getD j 0 * s
    rw [ti, ri, List.getD_eq_getElem?_getD, List.getElem?_eq_getElem hj2, List.getD_eq_getElem?_getD, List.getElem?_eq_getElem hj3]
    have e4 := congrArg (fun l : List (List Rat) => (l[i]?).bind fun r => r[j]?) h2
    simp only [List.getElem?_map, List.getElem?_eq_getElem hi2, List.getElem?_eq_getElem hi, Option.map_some, Option.bind_some, List.getElem?_eq_getElem hj3] at e4
    unfold castL at e4
    rw [List.getElem?_map, List.getElem?_eq_getElem hj2] at e4
    exact Option.some.inj e4
theorem len9 {α : Type} {xs : List α} (h : xs.length = 9) : ∃ a b c d e f g i j, xs = [a, b, c, d, e, f, g, i, j] := by
  match xs, h with
  | [a, b, c, d, e, f, g, i, j], _ => exact ⟨a, b, c, d, e, f, g, i, j, rfl⟩
section
variable {ns : List Int} {x0 x1 x2 x3 x4 x5 x6 x7 x8 : Int} {n0 k0 n1 k1 n2 k2 : Nat} {a0 a1 a2 : Nat → Nat → Rat} {T0 T1 T2 : Nat → Nat → Int} {c0 c1 c2 : Int}
abbrev drawnD (x0 x1 x2 x3 x4 x5 x6 x7 x8 : Int) : D := .lst [.int x0, .int x1, .int x2, .int x3, .int x4, .int x5, .int x6, .int x7, .int x8]
theorem part_e {s2 s3 s4 s5 s6 s7 s9 s11 s12 s13 s14 : Sl} (h0 : Told 97 1300 n0 k0 a0 T0 c0) (h1 : Told 97 1300 n1 k1 a1 T1 c1) (h2 : Told 97 1300 n2 k2 a2 T2 c2) :
    wp o_law_17 PT [.dat (.lst (ns.map .int)), .dat (drawnD x0 x1 x2 x3 x4 x5 x6 x7 x8), s2, s3, s4, s5, s6, s7, .dat (.lst [tabS n0 k0 T0 c0, tabS n1 k1 T1 c1, tabS n2 k2 T2 c2]), s9, .dat (.lst [SF n0 k0 a0, SF n1 k1 a1, SF n2 k2 a2]), s11, s12, s13, s14] := by
  simp only [o_law_17]
  simp
  refine for_ix (fun i ρ => ∃ s3 : Sl, ρ = [.dat (.lst (ns.map .int)), .dat (drawnD x0 x1 x2 x3 x4 x5 x6 x7 x8), s2, s3, s4, s5, s6, s7, .dat (.lst [tabS n0 k0 T0 c0, tabS n1 k1 T1 c1, tabS n2 k2 T2 c2]), s9, .dat (.lst [SF n0 k0 a0, SF n1 k1 a1, SF n2 k2 a2]), s11, s12, s13, s14]) ?_ ?_ ?_
  · exact ⟨_, rfl⟩
  · rintro J hJ i d ρ hi ⟨s3, er⟩
    subst er
    obtain ⟨hlt, rfl⟩ := rngL_get hi
    have hlt : i < 3 := by simpa using hlt
    refine ⟨_, rfl, ?_⟩
    match i, hlt with
    | 0, _ =>
      simp [kept_eq h0 (by decide) (by decide)]
      exact hJ _ _ ⟨_, rfl⟩
    | 1, _ =>
      simp [kept_eq h1 (by decide) (by decide)]
      exact hJ _ _ ⟨_, rfl⟩
    | 2, _ =>
      simp [kept_eq h2 (by decide) (by decide)]
      exact hJ _ _ ⟨_, rfl⟩
  · rintro ρ ⟨s3, er⟩
    subst er
    simp only [o_law_18]
    simp [garbles_eq h0 h1 (by decide) (by decide)]
theorem part_d {s2 s3 s4 s5 s6 s7 s9 : Sl} (h0 : Told 97 1300 n0 k0 a0 T0 c0) (h1 : Told 97 1300 n1 k1 a1 T1 c1) (h2 : Told 97 1300 n2 k2 a2 T2 c2) :
    wp o_law_13 PT [.dat (.lst (ns.map .int)), .dat (drawnD x0 x1 x2 x3 x4 x5 x6 x7 x8), s2, s3, s4, s5, s6, s7, .dat (.lst [tabS n0 k0 T0 c0, tabS n1 k1 T1 c1, tabS n2 k2 T2 c2]), s9, .dat (.lst [SF n0 k0 a0, SF n1 k1 a1, SF n2 k2 a2]), .no, .no, .no, .no] := by
  simp only [o_law_13, o_law_14]
  simp
  refine cell_wp ns (by decide) fun c hc => ?_
  refine share_wp hc fun t u htu => ?_
  have e := law_number_eq (plain := x8) (p := (t, u)) htu.1 (htu.2.2.mono (by decide))
  have hd := numP_num (plain := x8) htu.1
  simp [e]
  simp only [o_law_15]
  simp [garbles_eq h0 h1 (by decide) (by decide)]
  simp only [o_law_16]
  simp
  refine for_ix (fun i ρ => ∃ s13 s14 : Sl, ρ = [.dat (.lst (ns.map .int)), .dat (drawnD x0 x1 x2 x3 x4 x5 x6 x7 x8), s2, s3, s4, s5, s6, s7, .dat (.lst [tabS n0 k0 T0 c0, tabS n1 k1 T1 c1, tabS n2 k2 T2 c2]), s9, .dat (.lst [SF n0 k0 a0, SF n1 k1 a1, SF n2 k2 a2]), .dat (.tup [.int t, .int u]), .dat (numP x8 (t, u)), s13, s14]) ?_ ?_ ?_
  · exact ⟨_, _, rfl⟩
  · rintro J hJ i d ρ hi ⟨s13, s14, er⟩
    subst er
    match i, hi with
    | 0, hi =>
      cases hi
      refine ⟨_, rfl, ?_⟩
      simp [hears_both_eq h0 h2 (by decide) (by decide), is_blended_eq h0 h2 (by decide) (by decide) htu hd (by decide)]
      exact hJ _ _ ⟨_, _, rfl⟩
    | 1, hi =>
      cases hi
      refine ⟨_, rfl, ?_⟩
      simp [hears_both_eq h2 h0 (by decide) (by decide), is_blended_eq h2 h0 (by decide) (by decide) htu hd (by decide)]
      exact hJ _ _ ⟨_, _, rfl⟩
    | i + 2, hi => exact absurd hi (by simp)
  · rintro ρ ⟨s13, s14, er⟩
    subst er
    exact part_e h0 h1 h2
end
theorem part_b {ns : List Int} {m k l n1 n2 : Nat} {most : Int} {x0 x1 x2 x3 x4 x5 x6 x7 x8 : Int} (m1 : 1 ≤ m) (m2 : m ≤ 12) (k1 : 1 ≤ k) (k2 : k ≤ 12) (l1 : 1 ≤ l) (l2 : l ≤ 12) (n11 : 1 ≤ n1) (n12 : n1 ≤ 12) (n21 : 1 ≤ n2) (n22 : n2 ≤ 12) (hM : 2 ≤ most) (hb : Bd 97 (12 * most)) :
    wp o_law_8 PT [.dat (.lst (ns.map .int)), .dat (drawnD x0 x1 x2 x3 x4 x5 x6 x7 x8), .dat (.int m), .dat (.int k), .dat (.int l), .dat (.int most), .own [.int m, .int n1, .int n2], .no, .no, .no, .no, .no, .no, .no, .no] := by
  have hb2 : Bd 4000 most := (hb.le (b := most) (by omega) (by omega)).mono (by decide)
  have ne : ∀ {rs : List (List Int)} {n : Nat}, rs.length = n → 1 ≤ n → rs ≠ [] := fun h h1 z => by rw [z] at h; simp at h; omega
  simp only [o_law_8]
  simp
  refine signal_rows_wp hM hb hb2 (by decide) (by decide) m2 k1 k2 fun r0 hl0 hr0 => ?_
  simp only [o_law_9]
  simp
  refine signal_rows_wp hM hb hb2 (by decide) (by decide) n12 l1 l2 fun r1 hl1 hr1 => ?_
  simp only [o_law_10]
  simp
  refine signal_rows_wp hM hb hb2 (by decide) (by decide) n22 l1 l2 fun r2 hl2 hr2 => ?_
  obtain ⟨a0, T0, c0, e0, f0, h0⟩ := told_of hr0 (by decide) (ne hl0 m1) (by omega) k1 k2
  obtain ⟨a1, T1, c1, e1, f1, h1⟩ := told_of hr1 (by decide) (ne hl1 n11) (by omega) l1 l2
  obtain ⟨a2, T2, c2, e2, f2, h2⟩ := told_of hr2 (by decide) (ne hl2 n21) (by omega) l1 l2
  simp only [o_law_11]
  simp [freeze]
  have hh := @wm_lcM (D × D) [(.lst (r0.map zl), tabS r0.length k T0 c0), (.lst (r1.map zl), tabS r1.length l T1 c1), (.lst (r2.map zl), tabS r2.length l T2 c2)] Prod.fst Prod.snd
  refine hh (by simp) (by simp) ?_ ?_
  · intro x hx
    simp only [List.mem_cons, List.not_mem_nil, or_false] at hx
    rcases hx with rfl | rfl | rfl
    · exact ⟨_, rfl, by simp [wipeE, e0]⟩
    · exact ⟨_, rfl, by simp [wipeE, e1]⟩
    · exact ⟨_, rfl, by simp [wipeE, e2]⟩
  simp only [o_law_12]
  simp only [wp_seq, wp_setL, List.map_cons, List.map_nil, List.set_cons_succ, List.set_cons_zero]
  have hh := @wm_lcM (D × D) [(.lst (r0.map zl), SF r0.length k a0), (.lst (r1.map zl), SF r1.length l a1), (.lst (r2.map zl), SF r2.length l a2)] Prod.fst Prod.snd
  refine hh (by simp) (by simp) ?_ ?_
  · intro x hx
    simp only [List.mem_cons, List.not_mem_nil, or_false] at hx
    rcases hx with rfl | rfl | rfl
    · exact ⟨_, rfl, by simp [wipeE, f0]⟩
    · exact ⟨_, rfl, by simp [wipeE, f1]⟩
    · exact ⟨_, rfl, by simp [wipeE, f2]⟩
  exact part_d h0 h1 h2
theorem part_a {ns : List Int} {m k l : Nat} {most : Int} {x0 x1 x2 x3 x4 x5 x6 x7 x8 : Int} (m1 : 1 ≤ m) (m2 : m ≤ 12) (k1 : 1 ≤ k) (k2 : k ≤ 12) (l1 : 1 ≤ l) (l2 : l ≤ 12) (hM : 2 ≤ most) (hb : Bd 97 (12 * most)) :
    wp o_law_5 PT [.dat (.lst (ns.map .int)), .dat (drawnD x0 x1 x2 x3 x4 x5 x6 x7 x8), .dat (.int m), .dat (.int k), .dat (.int l), .dat (.int most), .no, .no, .no, .no, .no, .no, .no, .no, .no] := by
  have turn : ∀ x : Nat, ∃ y : Nat, (x : Int).fmod 12 + 1 = y ∧ 1 ≤ y ∧ y ≤ 12 := fun x => by
    have p0 := Int.fmod_nonneg_of_pos (x : Int) (show (0 : Int) < 12 by decide)
    have p1 := Int.fmod_lt_of_pos (x : Int) (show (0 : Int) < 12 by decide)
    exact ⟨((x : Int).fmod 12 + 1).toNat, by omega, by omega, by omega⟩
  obtain ⟨y, ey, y1, y2⟩ := turn k
  obtain ⟨z, ez, z1, z2⟩ := turn m
  simp only [o_law_5, o_law_6]
  simp
  by_cases h4 : x4 = 0
  · have e := setIx_nat (xs := [D.int m, .int k, .int m]) (d := .int ((k : Int).fmod 12 + 1)) (j := 1) (q := fun ys => wp o_law_7 PT [.dat (.lst (ns.map .int)), .dat (drawnD x0 x1 x2 x3 x4 x5 x6 x7 x8), .dat (.int m), .dat (.int k), .dat (.int l), .dat (.int most), .own ys, .no, .no, .no, .no, .no, .no, .no, .no]) (by simp)
    simp [h4] at e ⊢
    rw [e]
    simp only [o_law_7]
    simp
    rw [ey]
    exact part_b m1 m2 k1 k2 l1 l2 y1 y2 m1 m2 hM hb
  · simp [h4]
    simp only [o_law_7]
    simp
    by_cases h5 : x4 = 1
    · have e := setIx_nat (xs := [D.int m, .int k, .int m]) (d := .int ((m : Int).fmod 12 + 1)) (j := 2) (q := fun ys => wp o_law_8 PT [.dat (.lst (ns.map .int)), .dat (drawnD x0 x1 x2 x3 x4 x5 x6 x7 x8), .dat (.int m), .dat (.int k), .dat (.int l), .dat (.int most), .own ys, .no, .no, .no, .no, .no, .no, .no, .no]) (by simp)
      simp [h5] at e ⊢
      rw [e]
      rw [ez]
      exact part_b m1 m2 k1 k2 l1 l2 k1 k2 z1 z2 hM hb
    · simp [h5]
      exact part_b m1 m2 k1 k2 l1 l2 k1 k2 m1 m2 hM hb
theorem law_plain (ns : List Int) (hl : ns.length ≤ 63) : m_law [.lst (ns.map D.int)] = .ok (.bl true) := by
  refine wr_eq (wr_def ?_)
  simp only [o_law, ev0]
  simp
  refine cell_wp ns (by decide) fun c hc => ?_
  have hmenu : ∀ m ∈ ([8, 4, 4, 4, 6, 12, 12, 12, 2] : List Int), 1 ≤ m ∧ Bd 8000 m := by
    intro m hm
    simp only [List.mem_cons, List.not_mem_nil, or_false] at hm
    rcases hm with rfl | rfl | rfl | rfl | rfl | rfl | rfl | rfl | rfl <;> exact bd_small (by decide) (by decide)
  refine draws_wp (menu := [8, 4, 4, 4, 6, 12, 12, 12, 2]) hc (by decide) (by decide) hmenu (by decide) fun xs hxl hx => ?_
  obtain ⟨x0, x1, x2, x3, x4, x5, x6, x7, x8, rfl⟩ := len9 hxl
  have b1 := hx 1 x1 4 rfl rfl
  have b2 := hx 2 x2 4 rfl rfl
  have b3 := hx 3 x3 4 rfl rfl
  have b5 := hx 5 x5 12 rfl rfl
  have b6 := hx 6 x6 12 rfl rfl
  have b7 := hx 7 x7 12 rfl rfl
  have nat : ∀ x : Int, 0 ≤ x → 1 + x = ((1 + x.toNat : Nat) : Int) := fun x hx => by omega
  have fin : ∀ (m k l : Nat), 1 ≤ m → m ≤ 12 → 1 ≤ k → k ≤ 12 → 1 ≤ l → l ≤ 12 → wp o_law_4 PT [.dat (.lst (ns.map .int)), .dat (drawnD x0 x1 x2 x3 x4 x5 x6 x7 x8), .dat (.int m), .dat (.int k), .dat (.int l), .dat (.int 6), .no, .no, .no, .no, .no, .no, .no, .no, .no] := by
    intro m k l m1 m2 k1 k2 l1 l2
    simp only [o_law_4]
    simp
    by_cases h6 : x0 = 6
    · subst h6
      simp
      refine ⟨pow_1028, ?_⟩
      exact part_a m1 m2 k1 k2 l1 l2 (by decide) (by unfold Bd; decide)
    · simp [h6]
      exact part_a m1 m2 k1 k2 l1 l2 (by decide) (by unfold Bd; decide)
  simp only [o_law_1, o_law_2, o_law_3]
  simp
  by_cases h7 : x0 = 7
  · simp [h7]
    rw [nat x5 b5.1, nat x6 b6.1, nat x7 b7.1, ← h7]
    exact fin (1 + x5.toNat) (1 + x6.toNat) (1 + x7.toNat) (by omega) (by omega) (by omega) (by omega) (by omega) (by omega)
  · simp [h7]
    rw [nat x1 b1.1, nat x2 b2.1, nat x3 b3.1]
    exact fin (1 + x1.toNat) (1 + x2.toNat) (1 + x3.toNat) (by omega) (by omega) (by omega) (by omega) (by omega) (by omega)
end K68
namespace K68
noncomputable section
open PySem PySem.Spec L2 PL
abbrev ZX (T : Tk) : Prop := FX P0 fb fn xn T
def N__law_draws : List Str := ["cell", "salt", "menu", "found", "rest", "mixed", "k"]
def kb__law_draws : Nat := 0
theorem sc__law_draws : FnScope N__law_draws ["cell", "salt", "menu"] (defScope st__law_draws) := ⟨rfl, rfl, rfl, by decide +kernel, rfl, by decide +kernel, by decide +kernel⟩
theorem b__law_draws {T : Tk} (Z : ZX T) (f : Addr) : BodyOk T kb__law_draws N__law_draws "_law_draws" (defScope st__law_draws) f (defBody st__law_draws) o__law_draws := fun cdv A outer s H E hr B hB =>
  have tk := takes_of (X := cxT T N__law_draws "_law_draws" (defScope st__law_draws) f cdv A outer s H E) rfl rfl rfl rfl
  have hp := passes_of (X := cxT T N__law_draws "_law_draws" (defScope st__law_draws) f cdv A outer s H E) rfl
  (mq_cons (ms_setF 3 (mf_lst ma_nil) (hN := sc__law_draws.nd))
    (mq_cons (ms_set 4 (me_op op_subD.m (me_var 0) (me_op op_powD.m me_int me_int)) (hN := sc__law_draws.nd))
    (mq_cons (ms_set 5 (me_op op_addD.m (me_var 0) (me_op op_mulD.m me_int (me_var 1))) (hN := sc__law_draws.nd))
    (mq_cons (ms_for rfl hp (ip_range1 (ma_cons (me_callB call_lenD rfl (Z.free 0) (by kernel_rfl) (ma_cons (me_var 2) ma_nil)) ma_nil) rfl (Z.free 1)) (gp_name 6 (hN := sc__law_draws.nd)) (fun _ hq => have hB := hq.trans hB; (ms_one (ms_if (mt_cmp op_geD.m (me_var 4) me_int) (mq_cons (ms_app 3 (me_op op_modD.m (me_callT call_intD rfl (Z.free 2) (by kernel_rfl) (ma_cons (me_var 4) ma_nil)) (me_ix ix_D (me_var 2) (me_var 6))))
    (ms_one (ms_set 4 (me_op op_fdivD.m (me_var 4) (me_ix ix_D (me_var 2) (me_var 6))) (hN := sc__law_draws.nd)))) (mq_cons (ms_set 5 (me_op op_modD.m (me_callT call_intD rfl (Z.free 2) (by kernel_rfl) (ma_cons (me_op op_addD.m (me_op op_addD.m (me_op op_mulD.m (me_var 5) (me_var 5)) (me_op op_mulD.m me_int (me_op op_addD.m (me_var 6) me_int))) me_int) ma_nil)) me_int) (hN := sc__law_draws.nd))
    (mq_cons (ms_set 5 (me_op op_modD.m (me_callT call_intD rfl (Z.free 2) (by kernel_rfl) (ma_cons (me_op op_addD.m (me_op op_mulD.m (me_var 5) (me_var 5)) (me_op op_fdivD.m (me_var 5) me_int)) ma_nil)) me_int) (hN := sc__law_draws.nd))
    (ms_one (ms_app 3 (me_op op_modD.m (me_callT call_intD rfl (Z.free 2) (by kernel_rfl) (ma_cons (me_op op_fdivD.m (me_var 5) me_int) ma_nil)) (me_ix ix_D (me_var 2) (me_var 6)))))))))))
    (mq_frz 3 (ms_one (ms_ret hB (me_var 3))))))))
theorem ok__law_draws {T : Tk} (Z : ZX T) : Glo T 1 "_law_draws" 3 m__law_draws := by
  obtain ⟨fd, F⟩ := Z.def_ 0 (d := d__law_draws)
  exact Z.fun_ (Z.glo 3) F.kp (FnM.of0 (fnD F sc__law_draws (b__law_draws Z _)) (F.bindsN fun _ _ _ _ _ _ us hl => match us, hl with | [_, _, _], _ => rfl))
def N__law_cell : List Str := ["script", "k"]
def kb__law_cell : Nat := 0
theorem sc__law_cell : FnScope N__law_cell ["script", "k"] (defScope st__law_cell) := ⟨rfl, rfl, rfl, by decide +kernel, rfl, by decide +kernel, by decide +kernel⟩
theorem b__law_cell {T : Tk} (Z : ZX T) (f : Addr) : BodyOk T kb__law_cell N__law_cell "_law_cell" (defScope st__law_cell) f (defBody st__law_cell) o__law_cell := fun cdv A outer s H E hr B hB =>
  have tk := takes_of (X := cxT T N__law_cell "_law_cell" (defScope st__law_cell) f cdv A outer s H E) rfl rfl rfl rfl
  have hp := passes_of (X := cxT T N__law_cell "_law_cell" (defScope st__law_cell) f cdv A outer s H E) rfl
  (mq_cons (ms_if (mt_cmp op_ltD.m (me_var 1) (me_callB call_lenD rfl (Z.free 0) (by kernel_rfl) (ma_cons (me_var 0) ma_nil))) (ms_one (ms_ret hB (me_callB call_absD rfl (Z.free 4) (by kernel_rfl) (ma_cons (me_ix ix_D (me_var 0) (me_var 1)) ma_nil)))) ms_nil)
    (ms_one (ms_ret hB me_int)))
theorem ok__law_cell {T : Tk} (Z : ZX T) : Glo T 1 "_law_cell" 2 m__law_cell := by
  obtain ⟨fd, F⟩ := Z.def_ 1 (d := d__law_cell)
  exact Z.fun_ (Z.glo 5) F.kp (FnM.of0 (fnD F sc__law_cell (b__law_cell Z _)) (F.bindsN fun _ _ _ _ _ _ us hl => match us, hl with | [_, _], _ => rfl))
def N__law_filled : List Str := ["numbers", "at", "place"]
def kb__law_filled : Nat := 0
theorem sc__law_filled : FnScope N__law_filled ["numbers", "at"] (defScope st__law_filled) := ⟨rfl, rfl, rfl, by decide +kernel, rfl, by decide +kernel, by decide +kernel⟩
theorem b__law_filled {T : Tk} (Z : ZX T) (f : Addr) : BodyOk T kb__law_filled N__law_filled "_law_filled" (defScope st__law_filled) f (defBody st__law_filled) o__law_filled := fun cdv A outer s H E hr B hB =>
  have tk := takes_of (X := cxT T N__law_filled "_law_filled" (defScope st__law_filled) f cdv A outer s H E) rfl rfl rfl rfl
  have hp := passes_of (X := cxT T N__law_filled "_law_filled" (defScope st__law_filled) f cdv A outer s H E) rfl
  (mq_cons (ms_if (mt_cmp op_gtD.m (me_callB (call_sumD rfl) rfl (Z.free 6) (by kernel_rfl) (ma_cons (me_var 0) ma_nil)) me_int) (ms_one (ms_ret hB (me_fresh (mf_list (me_var 0) rfl (Z.free 7))))) ms_nil)
    (mq_cons (ms_set 2 (me_op op_modD.m (me_callT call_intD rfl (Z.free 2) (by kernel_rfl) (ma_cons (me_var 1) ma_nil)) (me_callB call_lenD rfl (Z.free 0) (by kernel_rfl) (ma_cons (me_var 0) ma_nil))) (hN := sc__law_filled.nd))
    (ms_one (ms_ret hB (me_fresh (mf_cat (me_fresh (mf_cat (me_sl (me_var 0) mo_none (mo_some (me_var 2))) (me_fresh (mf_lst (ma_cons me_int ma_nil))))) (me_sl (me_var 0) (mo_some (me_op op_addD.m (me_var 2) me_int)) mo_none)))))))
theorem ok__law_filled {T : Tk} (Z : ZX T) : Glo T 1 "_law_filled" 2 m__law_filled := by
  obtain ⟨fd, F⟩ := Z.def_ 2 (d := d__law_filled)
  exact Z.fun_ (Z.glo 8) F.kp (FnM.of0 (fnD F sc__law_filled (b__law_filled Z _)) (F.bindsN fun _ _ _ _ _ _ us hl => match us, hl with | [_, _], _ => rfl))
def N__law_signal_rows : List Str := ["script", "first", "salt", "states", "outcomes", "most", "rows", "i", "numbers"]
def kb__law_signal_rows : Nat := 1
theorem sc__law_signal_rows : FnScope N__law_signal_rows ["script", "first", "salt", "states", "outcomes", "most"] (defScope st__law_signal_rows) := ⟨rfl, rfl, rfl, by decide +kernel, rfl, by decide +kernel, by decide +kernel⟩
theorem b__law_signal_rows {T : Tk} (Z : ZX T) (f : Addr) : BodyOk T kb__law_signal_rows N__law_signal_rows "_law_signal_rows" (defScope st__law_signal_rows) f (defBody st__law_signal_rows) o__law_signal_rows := fun cdv A outer s H E hr B hB =>
  have tk := takes_of (X := cxT T N__law_signal_rows "_law_signal_rows" (defScope st__law_signal_rows) f cdv A outer s H E) rfl rfl rfl rfl
  have hp := passes_of (X := cxT T N__law_signal_rows "_law_signal_rows" (defScope st__law_signal_rows) f cdv A outer s H E) rfl
  (mq_cons (ms_setF 6 (mf_lst ma_nil) (hN := sc__law_signal_rows.nd))
    (mq_cons (ms_for rfl hp (ip_range1 (ma_cons (me_var 3) ma_nil) rfl (Z.free 1)) (gp_name 7 (hN := sc__law_signal_rows.nd)) (fun _ hq => have hB := hq.trans hB; (mq_cons (ms_set 8 (me_call (ok__law_draws Z) tk (hr.mono (by decide : 1 ≤ kb__law_signal_rows)) rfl (ma_cons (me_call (ok__law_cell Z) tk (hr.mono (by decide : 1 ≤ kb__law_signal_rows)) rfl (ma_cons (me_var 0) (ma_cons (me_op op_addD.m (me_var 1) (me_var 7)) ma_nil)) (mLen_cons (mLen_cons mLen_nil))) (ma_cons (me_op op_addD.m (me_var 2) (me_var 7)) (ma_cons (me_fresh (mf_cat (me_fresh (mf_rep (me_fresh (mf_lst (ma_cons (me_var 5) ma_nil))) (me_var 4))) (me_fresh (mf_lst (ma_cons (me_var 4) ma_nil))))) ma_nil))) (mLen_cons (mLen_cons (mLen_cons mLen_nil)))) (hN := sc__law_signal_rows.nd))
    (ms_one (ms_app 6 (me_call (ok__law_filled Z) tk (hr.mono (by decide : 1 ≤ kb__law_signal_rows)) rfl (ma_cons (me_sl (me_var 8) mo_none (mo_some (me_var 4))) (ma_cons (me_ix ix_D (me_var 8) (me_var 4)) ma_nil)) (mLen_cons (mLen_cons mLen_nil))))))))
    (mq_frz 6 (ms_one (ms_ret hB (me_var 6))))))
theorem ok__law_signal_rows {T : Tk} (Z : ZX T) : Glo T 2 "_law_signal_rows" 6 m__law_signal_rows := by
  obtain ⟨fd, F⟩ := Z.def_ 3 (d := d__law_signal_rows)
  exact Z.fun_ (Z.glo 9) F.kp (FnM.of0 (fnD F sc__law_signal_rows (b__law_signal_rows Z _)) (F.bindsN fun _ _ _ _ _ _ us hl => match us, hl with | [_, _, _, _, _, _], _ => rfl))
def N__law_gcd : List Str := ["a", "b"]
def kb__law_gcd : Nat := 0
theorem sc__law_gcd : FnScope N__law_gcd ["a", "b"] (defScope st__law_gcd) := ⟨rfl, rfl, rfl, by decide +kernel, rfl, by decide +kernel, by decide +kernel⟩
theorem b__law_gcd {T : Tk} (Z : ZX T) (f : Addr) : BodyOk T kb__law_gcd N__law_gcd "_law_gcd" (defScope st__law_gcd) f (defBody st__law_gcd) o__law_gcd := fun cdv A outer s H E hr B hB =>
  have tk := takes_of (X := cxT T N__law_gcd "_law_gcd" (defScope st__law_gcd) f cdv A outer s H E) rfl rfl rfl rfl
  have hp := passes_of (X := cxT T N__law_gcd "_law_gcd" (defScope st__law_gcd) f cdv A outer s H E) rfl
  (mq_cons (ms_set 0 (me_callB call_absD rfl (Z.free 4) (by kernel_rfl) (ma_cons (me_var 0) ma_nil)) (hN := sc__law_gcd.nd))
    (mq_cons (ms_set 1 (me_callB call_absD rfl (Z.free 4) (by kernel_rfl) (ma_cons (me_var 1) ma_nil)) (hN := sc__law_gcd.nd))
    (mq_cons (ms_while hp (mt_cmp op_gtD.m (me_var 1) me_int) (ms_one (ms_par 0 1 rfl (ma_cons (me_var 1) (ma_cons (me_op op_modD.m (me_callT call_intD rfl (Z.free 2) (by kernel_rfl) (ma_cons (me_var 0) ma_nil)) (me_var 1)) ma_nil)) (hN := sc__law_gcd.nd))))
    (ms_one (ms_ret hB (me_var 0))))))
theorem ok__law_gcd {T : Tk} (Z : ZX T) : Glo T 1 "_law_gcd" 2 m__law_gcd := by
  obtain ⟨fd, F⟩ := Z.def_ 4 (d := d__law_gcd)
  exact Z.fun_ (Z.glo 10) F.kp (FnM.of0 (fnD F sc__law_gcd (b__law_gcd Z _)) (F.bindsN fun _ _ _ _ _ _ us hl => match us, hl with | [_, _], _ => rfl))
def N__law_lcm : List Str := ["numbers", "found", "number"]
def kb__law_lcm : Nat := 1
theorem sc__law_lcm : FnScope N__law_lcm ["numbers"] (defScope st__law_lcm) := ⟨rfl, rfl, rfl, by decide +kernel, rfl, by decide +kernel, by decide +kernel⟩
theorem b__law_lcm {T : Tk} (Z : ZX T) (f : Addr) : BodyOk T kb__law_lcm N__law_lcm "_law_lcm" (defScope st__law_lcm) f (defBody st__law_lcm) o__law_lcm := fun cdv A outer s H E hr B hB =>
  have tk := takes_of (X := cxT T N__law_lcm "_law_lcm" (defScope st__law_lcm) f cdv A outer s H E) rfl rfl rfl rfl
  have hp := passes_of (X := cxT T N__law_lcm "_law_lcm" (defScope st__law_lcm) f cdv A outer s H E) rfl
  (mq_cons (ms_set 1 me_int (hN := sc__law_lcm.nd))
    (mq_cons (ms_for rfl hp (ip_seq (me_var 0)) (gp_name 2 (hN := sc__law_lcm.nd)) (fun _ hq => have hB := hq.trans hB; (ms_one (ms_set 1 (me_op op_mulD.m (me_op op_fdivD.m (me_var 1) (me_call (ok__law_gcd Z) tk (hr.mono (by decide : 1 ≤ kb__law_lcm)) rfl (ma_cons (me_var 1) (ma_cons (me_var 2) ma_nil)) (mLen_cons (mLen_cons mLen_nil)))) (me_var 2)) (hN := sc__law_lcm.nd)))))
    (ms_one (ms_ret hB (me_var 1)))))
theorem ok__law_lcm {T : Tk} (Z : ZX T) : Glo T 2 "_law_lcm" 1 m__law_lcm := by
  obtain ⟨fd, F⟩ := Z.def_ 5 (d := d__law_lcm)
  exact Z.fun_ (Z.glo 11) F.kp (FnM.of0 (fnD F sc__law_lcm (b__law_lcm Z _)) (F.bindsN fun _ _ _ _ _ _ us hl => match us, hl with | [_], _ => rfl))
def N__law_table : List Str := ["rows", "scale", "row", "x"]
def kb__law_table : Nat := 2
theorem sc__law_table : FnScope N__law_table ["rows"] (defScope st__law_table) := ⟨rfl, rfl, rfl, by decide +kernel, rfl, by decide +kernel, by decide +kernel⟩
theorem b__law_table {T : Tk} (Z : ZX T) (f : Addr) : BodyOk T kb__law_table N__law_table "_law_table" (defScope st__law_table) f (defBody st__law_table) o__law_table := fun cdv A outer s H E hr B hB =>
  have tk := takes_of (X := cxT T N__law_table "_law_table" (defScope st__law_table) f cdv A outer s H E) rfl rfl rfl rfl
  have hp := passes_of (X := cxT T N__law_table "_law_table" (defScope st__law_table) f cdv A outer s H E) rfl
  (mq_cons (ms_set 1 (me_call (ok__law_lcm Z) tk (hr.mono (by decide : 2 ≤ kb__law_table)) rfl (ma_cons (me_fresh (mf_lc (own := [("row", 2)]) rfl (blkOk_by (by kernel_rfl)) (ip_seq (me_var 0)) (fun _ _ _ _ _ => (gp_name 2 (hN := sc__law_table.nd))) (fun _ _ _ _ _ => mts_nil) (fun _ _ _ _ _ => (me_callB (call_sumD rfl) rfl (Z.free 6) (by kernel_rfl) (ma_cons (me_var 2) ma_nil))) (hN := sc__law_table.nd))) ma_nil) (mLen_cons mLen_nil)) (hN := sc__law_table.nd))
    (ms_one (ms_ret hB (me_tup (ma_cons (me_fresh (mf_lc (own := [("row", 2)]) rfl (blkOk_by (by kernel_rfl)) (ip_seq (me_var 0)) (fun _ _ _ _ _ => (gp_name 2 (hN := sc__law_table.nd))) (fun _ _ _ _ _ => mts_nil) (fun _ _ _ _ _ => (me_fresh (mf_lc (own := [("x", 3)]) rfl (blkOk_by (by kernel_rfl)) (ip_seq (me_var 2)) (fun _ _ _ _ _ => (gp_name 3 (hN := sc__law_table.nd))) (fun _ _ _ _ _ => mts_nil) (fun _ _ _ _ _ => (me_op op_mulD.m (me_var 3) (me_op op_fdivD.m (me_var 1) (me_callB (call_sumD rfl) rfl (Z.free 6) (by kernel_rfl) (ma_cons (me_var 2) ma_nil))))) (hN := sc__law_table.nd)))) (hN := sc__law_table.nd))) (ma_cons (me_var 1) ma_nil))))))
theorem ok__law_table {T : Tk} (Z : ZX T) : Glo T 3 "_law_table" 1 m__law_table := by
  obtain ⟨fd, F⟩ := Z.def_ 6 (d := d__law_table)
  exact Z.fun_ (Z.glo 12) F.kp (FnM.of0 (fnD F sc__law_table (b__law_table Z _)) (F.bindsN fun _ _ _ _ _ _ us hl => match us, hl with | [_], _ => rfl))
theorem x_BadNumber {T : Tk} (Z : ZX T) : X2F T .BadNumber 22 .name .value := by
  obtain ⟨_, X, G⟩ := Z.ex
  have hp := Z.pr
  have e : xiB .BadNumber "BadNumber.__init__" T.P.main.file T.K = true := by rw [hp]; exact Z.fact 13
  exact x2_of (f1 := .name) (f2 := .value) X G e (Z.c.ini_ 0 (d := xd_BadNumber)) (Z.fact 14) (Z.fact 15) (by decide) (Z.free 16) (by rw [hp]; decide +kernel) ⟨by decide +kernel, rfl, rfl, rfl, by decide +kernel, by decide +kernel, by decide +kernel⟩ ⟨fun _ => rfl, fun _ => ⟨_, rfl⟩, fun _ => rfl, fun _ => rfl⟩ (by decide +kernel) (by decide +kernel) rfl rfl (by decide) (by decide) (by decide) (by decide) (by decide) (fun _ => rfl) (fun _ => rfl) (fun _ _ _ _ _ _ _ _ _ => rfl)
theorem t_MOST_Signal_ok {T : Tk} (Z : ZX T) : ∀ c d, t_MOST_Signal c = some d → ∃ v u, Con T.K (ca T.K c) "MOST" v u ∧ ∀ G, Rep T.K G v d := by
  intro c d h
  unfold t_MOST_Signal at h
  split at h
  · cases h
    exact ciB_ok (Z.fact 17)
  · cases h
theorem x_TooMany {T : Tk} (Z : ZX T) : X2F T .TooMany 10 .name .most := by
  obtain ⟨_, X, G⟩ := Z.ex
  have hp := Z.pr
  have e : xiB .TooMany "TooMany.__init__" T.P.main.file T.K = true := by rw [hp]; exact Z.fact 18
  exact x2_of (f1 := .name) (f2 := .most) X G e (Z.c.ini_ 1 (d := xd_TooMany)) (Z.fact 19) (Z.fact 20) (by decide) (Z.free 16) (by rw [hp]; decide +kernel) ⟨by decide +kernel, rfl, rfl, rfl, by decide +kernel, by decide +kernel, by decide +kernel⟩ ⟨fun _ => rfl, fun _ => ⟨_, rfl⟩, fun _ => rfl, fun _ => rfl⟩ (by decide +kernel) (by decide +kernel) rfl rfl (by decide) (by decide) (by decide) (by decide) (by decide) (fun _ => rfl) (fun _ => rfl) (fun _ _ _ _ _ _ _ _ _ => rfl)
theorem x_WrongLength {T : Tk} (Z : ZX T) : X1F T .WrongLength .length := by
  obtain ⟨_, X, G⟩ := Z.ex
  have hp := Z.pr
  have e : xiB .WrongLength "WrongLength.__init__" T.P.main.file T.K = true := by rw [hp]; exact Z.fact 21
  exact x1_of (f1 := .length) X G e (Z.c.ini_ 2 (d := xd_WrongLength)) (Z.fact 22) (Z.free 16) (by rw [hp]; decide +kernel) ⟨by decide +kernel, rfl, rfl, rfl, by decide +kernel, by decide +kernel, by decide +kernel⟩ ⟨fun _ => rfl, fun _ => ⟨_, rfl⟩, fun _ => rfl, fun _ => rfl⟩ (by decide +kernel) rfl rfl (by decide) (by decide) (fun _ => rfl) (fun _ _ _ _ _ _ _ _ => rfl)
theorem ti_Ratio_ok {T : Tk} (Z : ZX T) : ∀ c b, ti_Ratio c = some b → PySem.W.kitOne T.K (.ref (ca T.K c)) (.ref (He.ga T.K "Ratio")) = some b := by
  intro c b h
  unfold ti_Ratio at h
  split at h
  · cases h
    exact of_decide_eq_true (Z.fact 24)
  · cases h
    exact of_decide_eq_true (Z.fact 25)
  · cases h
def N_Ratio___init__ : List Str := ["self", "top", "under", "factor"]
def kb_Ratio___init__ : Nat := 0
theorem sc_Ratio___init__ : FnScope N_Ratio___init__ ["self", "top", "under"] (defScope st_Ratio___init__) := ⟨rfl, rfl, rfl, by decide +kernel, rfl, by decide +kernel, by decide +kernel⟩
theorem b_Ratio___init__ {T : Tk} (Z : ZX T) (f : Addr) : BodyOk T kb_Ratio___init__ N_Ratio___init__ "Ratio.__init__" (defScope st_Ratio___init__) f (defBody st_Ratio___init__) o_Ratio___init__ := fun cdv A outer s H E hr B hB =>
  have tk := takes_of (X := cxT T N_Ratio___init__ "Ratio.__init__" (defScope st_Ratio___init__) f cdv A outer s H E) rfl rfl rfl rfl
  have hp := passes_of (X := cxT T N_Ratio___init__ "Ratio.__init__" (defScope st_Ratio___init__) f cdv A outer s H E) rfl
  (mq_cons (ms_if (mt_cmp (op_eqP (hr.mono (by decide : 0 ≤ kb_Ratio___init__)).units).m (me_var 2) me_int) (ms_one (ms_raise rfl tk (mx_0 (Z.x0 28) rfl))) ms_nil)
    (mq_cons (ms_set 3 (me_callF call_gcdD rfl (Z.blt 29) (ma_cons (me_var 1) (ma_cons (me_var 2) ma_nil))) (hN := sc_Ratio___init__.nd))
    (mq_cons (ms_if (mt_cmp op_ltD.m (me_var 2) me_int) (ms_one (ms_set 3 (me_un un_negD (me_var 3)) (hN := sc_Ratio___init__.nd))) ms_nil)
    (mq_cons (ms_fld 0 .Ratio .top (naB_ok (Z.fact 30)) (me_op op_fdivD.m (me_var 1) (me_var 3)))
    (ms_one (ms_fld 0 .Ratio .under (naB_ok (Z.fact 31)) (me_op op_fdivD.m (me_var 2) (me_var 3))))))))
theorem mk_Ratio_1 {T : Tk} (Z : ZX T) : MakF T 1 .Ratio 1 mi_Ratio_1 := by
  obtain ⟨fd, F⟩ := Z.def_ 7 (d := d_Ratio___init__)
  obtain ⟨dd, hd, hb⟩ := (F.binds1 (ps := ["self", "top", "under"]) 2 0 (List.cons_ne_nil _ _) rfl fun _ _ _ _ _ _ _ us its l1 l2 => match us, its, l1, l2 with | [_, _], [_], _, _ => ⟨_, rfl, rfl⟩)
  exact ⟨_, mkB_ok (Z.fact 33), InM.of (df := [(.int 1)]) (Z.cl 32) (iniD F sc_Ratio___init__ (b_Ratio___init__ Z _) (Z.cl 32) rfl) hb hd (fun _ => (.cons (.int _) .nil)) rfl rfl⟩
def N_as_ratio : List Str := ["number"]
def kb_as_ratio : Nat := 2
theorem sc_as_ratio : FnScope N_as_ratio ["number"] (defScope st_as_ratio) := ⟨rfl, rfl, rfl, by decide +kernel, rfl, by decide +kernel, by decide +kernel⟩
theorem b_as_ratio {T : Tk} (Z : ZX T) (f : Addr) : BodyOk T kb_as_ratio N_as_ratio "as_ratio" (defScope st_as_ratio) f (defBody st_as_ratio) o_as_ratio := fun cdv A outer s H E hr B hB =>
  have tk := takes_of (X := cxT T N_as_ratio "as_ratio" (defScope st_as_ratio) f cdv A outer s H E) rfl rfl rfl rfl
  have hp := passes_of (X := cxT T N_as_ratio "as_ratio" (defScope st_as_ratio) f cdv A outer s H E) rfl
  (mq_cons (ms_if (mt_val (me_isi (isOwn_ok (Z.fact 26) (ti_Ratio_ok Z)) (pe_cl rfl (Z.glo 27)) (me_var 0) rfl (Z.free 23))) (ms_one (ms_ret hB (me_var 0))) ms_nil)
    (ms_one (ms_ret hB (me_make (mk_Ratio_1 Z) tk (hr.mono (by decide : 2 ≤ kb_as_ratio)) rfl (Z.glo 27) (ma_cons (me_var 0) ma_nil) (mLen_cons mLen_nil)))))
theorem ok_as_ratio {T : Tk} (Z : ZX T) : Glo T 3 "as_ratio" 1 m_as_ratio := by
  obtain ⟨fd, F⟩ := Z.def_ 8 (d := d_as_ratio)
  exact Z.fun_ (Z.glo 34) F.kp (FnM.of0 (fnD F sc_as_ratio (b_as_ratio Z _)) (F.bindsN fun _ _ _ _ _ _ us hl => match us, hl with | [_], _ => rfl))
theorem mk_Ratio_2 {T : Tk} (Z : ZX T) : MakF T 1 .Ratio 2 mi_Ratio_2 := by
  obtain ⟨fd, F⟩ := Z.def_ 7 (d := d_Ratio___init__)
  obtain ⟨dd, hd, hb⟩ := (F.binds1 (ps := ["self", "top", "under"]) 3 1 (List.cons_ne_nil _ _) rfl fun _ _ _ _ _ _ _ us its l1 l2 => match us, its, l1, l2 with | [_, _, _], [_], _, _ => ⟨_, rfl, rfl⟩)
  exact ⟨_, mkB_ok (Z.fact 33), InM.of (df := []) (Z.cl 32) (iniD F sc_Ratio___init__ (b_Ratio___init__ Z _) (Z.cl 32) rfl) hb hd (fun _ => .nil) rfl rfl⟩
def N_Ratio___add__ : List Str := ["self", "other", "right"]
def kb_Ratio___add__ : Nat := 3
theorem sc_Ratio___add__ : FnScope N_Ratio___add__ ["self", "other"] (defScope st_Ratio___add__) := ⟨rfl, rfl, rfl, by decide +kernel, rfl, by decide +kernel, by decide +kernel⟩
theorem b_Ratio___add__ {T : Tk} (Z : ZX T) (f : Addr) : BodyOk T kb_Ratio___add__ N_Ratio___add__ "Ratio.__add__" (defScope st_Ratio___add__) f (defBody st_Ratio___add__) o_Ratio___add__ := fun cdv A outer s H E hr B hB =>
  have tk := takes_of (X := cxT T N_Ratio___add__ "Ratio.__add__" (defScope st_Ratio___add__) f cdv A outer s H E) rfl rfl rfl rfl
  have hp := passes_of (X := cxT T N_Ratio___add__ "Ratio.__add__" (defScope st_Ratio___add__) f cdv A outer s H E) rfl
  (mq_cons (ms_set 2 (me_call (ok_as_ratio Z) tk (hr.mono (by decide : 3 ≤ kb_Ratio___add__)) rfl (ma_cons (me_var 1) ma_nil) (mLen_cons mLen_nil)) (hN := sc_Ratio___add__.nd))
    (ms_one (ms_ret hB (me_make (mk_Ratio_2 Z) tk (hr.mono (by decide : 2 ≤ kb_Ratio___add__)) rfl (Z.glo 27) (ma_cons (me_op op_addD.m (me_op op_mulD.m (me_fld .top (me_var 0)) (me_fld .under (me_var 2))) (me_op op_mulD.m (me_fld .top (me_var 2)) (me_fld .under (me_var 0)))) (ma_cons (me_op op_mulD.m (me_fld .under (me_var 0)) (me_fld .under (me_var 2))) ma_nil)) (mLen_cons (mLen_cons mLen_nil))))))
theorem ok_Ratio___add__ {T : Tk} (Z : ZX T) : FnM T 4 ((mA .Ratio "__add__") T.K) 2 m_Ratio___add__ := by
  obtain ⟨fd, F⟩ := Z.def_ 9 (d := d_Ratio___add__)
  exact (FnM.of0 (fnD F sc_Ratio___add__ (b_Ratio___add__ Z _)) (F.bindsN fun _ _ _ _ _ _ us hl => match us, hl with | [_, _], _ => rfl))
theorem t_Add_Ratio_ok {T : Tk} (Z : ZX T) : ∀ c g, t_Add_Ratio c = some g → BinF T 4 .Add c g := by
  intro c g h
  unfold t_Add_Ratio at h
  split at h
  · cases h
    exact bnB_ok (Z.fact 36) ((ok_Ratio___add__ Z).mono (by decide : 4 ≤ 4))
  · cases h
theorem t_rev0_Add_ok {T : Tk} (Z : ZX T) : ∀ c g, t_rev0_Add c = some g → RinF T 0 .Add c g := by
  intro c g h
  cases h
def N_Ratio___radd__ : List Str := ["self", "other"]
def kb_Ratio___radd__ : Nat := 4
theorem sc_Ratio___radd__ : FnScope N_Ratio___radd__ ["self", "other"] (defScope st_Ratio___radd__) := ⟨rfl, rfl, rfl, by decide +kernel, rfl, by decide +kernel, by decide +kernel⟩
theorem b_Ratio___radd__ {T : Tk} (Z : ZX T) (f : Addr) : BodyOk T kb_Ratio___radd__ N_Ratio___radd__ "Ratio.__radd__" (defScope st_Ratio___radd__) f (defBody st_Ratio___radd__) o_Ratio___radd__ := fun cdv A outer s H E hr B hB =>
  have tk := takes_of (X := cxT T N_Ratio___radd__ "Ratio.__radd__" (defScope st_Ratio___radd__) f cdv A outer s H E) rfl rfl rfl rfl
  have hp := passes_of (X := cxT T N_Ratio___radd__ "Ratio.__radd__" (defScope st_Ratio___radd__) f cdv A outer s H E) rfl
  (ms_one (ms_ret hB (me_op (op_ownD intAdd op_addD.m (fun c g h => (t_Add_Ratio_ok Z c g h).mono (by decide : 4 ≤ 4)) (fun c g h => (t_rev0_Add_ok Z c g h).mono (by decide : 0 ≤ 4)) tk (hr.mono (by decide : 4 ≤ kb_Ratio___radd__))) (me_var 0) (me_var 1))))
theorem ok_Ratio___radd__ {T : Tk} (Z : ZX T) : FnM T 5 ((mA .Ratio "__radd__") T.K) 2 m_Ratio___radd__ := by
  obtain ⟨fd, F⟩ := Z.def_ 10 (d := d_Ratio___radd__)
  exact (FnM.of0 (fnD F sc_Ratio___radd__ (b_Ratio___radd__ Z _)) (F.bindsN fun _ _ _ _ _ _ us hl => match us, hl with | [_, _], _ => rfl))
theorem t_AddR_Ratio_ok {T : Tk} (Z : ZX T) : ∀ c g, t_AddR_Ratio c = some g → RinF T 5 .Add c g := by
  intro c g h
  unfold t_AddR_Ratio at h
  split at h
  · cases h
    exact rnB_ok (Z.fact 37) ((ok_Ratio___radd__ Z).mono (by decide : 5 ≤ 5))
  · cases h
def N_shares_checked : List Str := ["weights", "weight", "total"]
def kb_shares_checked : Nat := 6
theorem sc_shares_checked : FnScope N_shares_checked ["weights"] (defScope st_shares_checked) := ⟨rfl, rfl, rfl, by decide +kernel, rfl, by decide +kernel, by decide +kernel⟩
theorem b_shares_checked {T : Tk} (Z : ZX T) (f : Addr) : BodyOk T kb_shares_checked N_shares_checked "shares_checked" (defScope st_shares_checked) f (defBody st_shares_checked) o_shares_checked := fun cdv A outer s H E hr B hB =>
  have tk := takes_of (X := cxT T N_shares_checked "shares_checked" (defScope st_shares_checked) f cdv A outer s H E) rfl rfl rfl rfl
  have hp := passes_of (X := cxT T N_shares_checked "shares_checked" (defScope st_shares_checked) f cdv A outer s H E) rfl
  (mq_cons (ms_for rfl hp (ip_seq (me_var 0)) (gp_name 1 (hN := sc_shares_checked.nd)) (fun _ hq => have hB := hq.trans hB; (ms_one (ms_if (mt_cmp op_ltD.m (me_fld .top (me_var 1)) me_int) (ms_one (ms_raise rfl tk (mx_0 (Z.x0 35) rfl))) ms_nil))))
    (mq_cons (ms_set 2 (me_call (ok_as_ratio Z) tk (hr.mono (by decide : 3 ≤ kb_shares_checked)) rfl (ma_cons (me_callB (call_sumO rfl (op_ownD (X := Cx.sm _) intAdd op_addD.m (fun c g h => (t_Add_Ratio_ok Z c g h).mono (by decide : 4 ≤ 5)) (fun c g h => (t_AddR_Ratio_ok Z c g h).mono (by decide : 5 ≤ 5)) takesSm ((hr.mono (by decide : 6 ≤ kb_shares_checked))).in1) addsN_own) rfl (Z.free 6) (by kernel_rfl) (ma_cons (me_var 0) ma_nil)) ma_nil) (mLen_cons mLen_nil)) (hN := sc_shares_checked.nd))
    (ms_one (ms_if (mt_cmp (op_neP (hr.mono (by decide : 0 ≤ kb_shares_checked)).units).m (me_fld .top (me_var 2)) (me_fld .under (me_var 2))) (ms_one (ms_raise rfl tk (mx_0 (Z.x0 35) rfl))) ms_nil))))
theorem ok_shares_checked {T : Tk} (Z : ZX T) : Glo T 7 "shares_checked" 1 m_shares_checked := by
  obtain ⟨fd, F⟩ := Z.def_ 11 (d := d_shares_checked)
  exact Z.fun_ (Z.glo 38) F.kp (FnM.of0 (fnD F sc_shares_checked (b_shares_checked Z _)) (F.bindsN fun _ _ _ _ _ _ us hl => match us, hl with | [_], _ => rfl))
def N_Signal___init__ : List Str := ["self", "rows", "table", "row", "chances", "chance"]
def kb_Signal___init__ : Nat := 7
theorem sc_Signal___init__ : FnScope N_Signal___init__ ["self", "rows"] (defScope st_Signal___init__) := ⟨rfl, rfl, rfl, by decide +kernel, rfl, by decide +kernel, by decide +kernel⟩
theorem b_Signal___init__ {T : Tk} (Z : ZX T) (f : Addr) : BodyOk T kb_Signal___init__ N_Signal___init__ "Signal.__init__" (defScope st_Signal___init__) f (defBody st_Signal___init__) o_Signal___init__ := fun cdv A outer s H E hr B hB =>
  have tk := takes_of (X := cxT T N_Signal___init__ "Signal.__init__" (defScope st_Signal___init__) f cdv A outer s H E) rfl rfl rfl rfl
  have hp := passes_of (X := cxT T N_Signal___init__ "Signal.__init__" (defScope st_Signal___init__) f cdv A outer s H E) rfl
  (mq_cons (ms_if (mt_cmp (op_eqP (hr.mono (by decide : 0 ≤ kb_Signal___init__)).units).m (me_callB call_lenD rfl (Z.free 0) (by kernel_rfl) (ma_cons (me_var 1) ma_nil)) me_int) (ms_one (ms_raise rfl tk (mx_2 (x_BadNumber Z) (hr.mono (by decide : 0 ≤ kb_Signal___init__)) rfl (ma_cons me_str (ma_cons me_int ma_nil))))) ms_nil)
    (mq_cons (ms_if (mt_cmp op_gtD.m (me_callB call_lenD rfl (Z.free 0) (by kernel_rfl) (ma_cons (me_var 1) ma_nil)) (me_insC 0 (nm_out (by decide +kernel)) (t_MOST_Signal_ok Z))) (ms_one (ms_raise rfl tk (mx_2 (x_TooMany Z) (hr.mono (by decide : 0 ≤ kb_Signal___init__)) rfl (ma_cons me_str (ma_cons (me_insC 0 (nm_out (by decide +kernel)) (t_MOST_Signal_ok Z)) ma_nil))))) ms_nil)
    (mq_cons (ms_if (mt_cmp (op_eqP (hr.mono (by decide : 0 ≤ kb_Signal___init__)).units).m (me_callB call_lenD rfl (Z.free 0) (by kernel_rfl) (ma_cons (me_ix ix_D (me_var 1) me_int) ma_nil)) me_int) (ms_one (ms_raise rfl tk (mx_2 (x_BadNumber Z) (hr.mono (by decide : 0 ≤ kb_Signal___init__)) rfl (ma_cons me_str (ma_cons me_int ma_nil))))) ms_nil)
    (mq_cons (ms_if (mt_cmp op_gtD.m (me_callB call_lenD rfl (Z.free 0) (by kernel_rfl) (ma_cons (me_ix ix_D (me_var 1) me_int) ma_nil)) (me_insC 0 (nm_out (by decide +kernel)) (t_MOST_Signal_ok Z))) (ms_one (ms_raise rfl tk (mx_2 (x_TooMany Z) (hr.mono (by decide : 0 ≤ kb_Signal___init__)) rfl (ma_cons me_str (ma_cons (me_insC 0 (nm_out (by decide +kernel)) (t_MOST_Signal_ok Z)) ma_nil))))) ms_nil)
    (mq_cons (ms_setF 2 (mf_lst ma_nil) (hN := sc_Signal___init__.nd))
    (mq_cons (ms_for rfl hp (ip_seq (me_var 1)) (gp_name 3 (hN := sc_Signal___init__.nd)) (fun _ hq => have hB := hq.trans hB; (mq_cons (ms_if (mt_cmp (op_neP (hr.mono (by decide : 0 ≤ kb_Signal___init__)).units).m (me_callB call_lenD rfl (Z.free 0) (by kernel_rfl) (ma_cons (me_var 3) ma_nil)) (me_callB call_lenD rfl (Z.free 0) (by kernel_rfl) (ma_cons (me_ix ix_D (me_var 1) me_int) ma_nil))) (ms_one (ms_raise rfl tk (mx_1 (x_WrongLength Z) (hr.mono (by decide : 0 ≤ kb_Signal___init__)) rfl (ma_cons (me_callB call_lenD rfl (Z.free 0) (by kernel_rfl) (ma_cons (me_var 3) ma_nil)) ma_nil)))) ms_nil)
    (mq_cons (ms_setLcD 4 (own := [("chance", 5)]) rfl (blkOk_by (by kernel_rfl)) (ip_seq (me_var 3)) (fun _ _ _ _ _ => (gp_name 5 (hN := sc_Signal___init__.nd))) (fun _ _ _ _ _ => mts_nil) (fun _ _ _ _ _ => (me_call (ok_as_ratio Z) takes_none5 (hr.mono (by decide : 3 ≤ kb_Signal___init__)) rfl (ma_cons (me_var 5) ma_nil) (mLen_cons mLen_nil))) (sw_true rfl rfl rfl (by decide +kernel)) (hN := sc_Signal___init__.nd))
    (mq_cons (ms_expr (me_call (ok_shares_checked Z) tk (hr.mono (by decide : 7 ≤ kb_Signal___init__)) rfl (ma_cons (me_var 4) ma_nil) (mLen_cons mLen_nil)))
    (ms_one (ms_app 2 (me_callT call_tupleD rfl (Z.free 39) (by kernel_rfl) (ma_cons (me_var 4) ma_nil)))))))))
    (mq_cons (ms_fld 0 .Signal .states (naB_ok (Z.fact 40)) (me_callB call_lenD rfl (Z.free 0) (by kernel_rfl) (ma_cons (me_var 1) ma_nil)))
    (mq_cons (ms_fld 0 .Signal .outcomes (naB_ok (Z.fact 41)) (me_callB call_lenD rfl (Z.free 0) (by kernel_rfl) (ma_cons (me_ix ix_D (me_var 1) me_int) ma_nil)))
    (ms_one (ms_fld 0 .Signal .u_table (naB_ok (Z.fact 42)) (me_tupOwn 2 rfl (Z.free 39))))))))))))
def N__law_number : List Str := ["top", "under", "plain"]
def kb__law_number : Nat := 2
theorem sc__law_number : FnScope N__law_number ["top", "under", "plain"] (defScope st__law_number) := ⟨rfl, rfl, rfl, by decide +kernel, rfl, by decide +kernel, by decide +kernel⟩
theorem b__law_number {T : Tk} (Z : ZX T) (f : Addr) : BodyOk T kb__law_number N__law_number "_law_number" (defScope st__law_number) f (defBody st__law_number) o__law_number := fun cdv A outer s H E hr B hB =>
  have tk := takes_of (X := cxT T N__law_number "_law_number" (defScope st__law_number) f cdv A outer s H E) rfl rfl rfl rfl
  have hp := passes_of (X := cxT T N__law_number "_law_number" (defScope st__law_number) f cdv A outer s H E) rfl
  (mq_cons (ms_if (mt_w (mw_and (mt_cmp (op_eqP (hr.mono (by decide : 0 ≤ kb__law_number)).units).m (me_var 2) me_int) (mw_and1 (mt_cmp (op_eqP (hr.mono (by decide : 0 ≤ kb__law_number)).units).m (me_op op_modD.m (me_callT call_intD rfl (Z.free 2) (by kernel_rfl) (ma_cons (me_var 0) ma_nil)) (me_var 1)) me_int)))) (ms_one (ms_ret hB (me_op op_fdivD.m (me_var 0) (me_var 1)))) ms_nil)
    (ms_one (ms_ret hB (me_make (mk_Ratio_2 Z) tk (hr.mono (by decide : 2 ≤ kb__law_number)) rfl (Z.glo 27) (ma_cons (me_var 0) (ma_cons (me_var 1) ma_nil)) (mLen_cons (mLen_cons mLen_nil))))))
theorem ok__law_number {T : Tk} (Z : ZX T) : Glo T 3 "_law_number" 3 m__law_number := by
  obtain ⟨fd, F⟩ := Z.def_ 13 (d := d__law_number)
  exact Z.fun_ (Z.glo 43) F.kp (FnM.of0 (fnD F sc__law_number (b__law_number Z _)) (F.bindsN fun _ _ _ _ _ _ us hl => match us, hl with | [_, _, _], _ => rfl))
theorem mk_Signal_1 {T : Tk} (Z : ZX T) : MakF T 8 .Signal 1 mi_Signal_1 := by
  obtain ⟨fd, F⟩ := Z.def_ 12 (d := d_Signal___init__)
  exact ⟨_, mkB_ok (Z.fact 45), InM.of0 (Z.cl 44) (iniD F sc_Signal___init__ (b_Signal___init__ Z _) (Z.cl 44) rfl) (F.bindsN fun _ _ _ _ _ _ us hl => match us, hl with | [_, _], _ => rfl)⟩
def N__law_signal : List Str := ["rows", "plain", "x", "row"]
def kb__law_signal : Nat := 9
theorem sc__law_signal : FnScope N__law_signal ["rows", "plain"] (defScope st__law_signal) := ⟨rfl, rfl, rfl, by decide +kernel, rfl, by decide +kernel, by decide +kernel⟩
theorem b__law_signal {T : Tk} (Z : ZX T) (f : Addr) : BodyOk T kb__law_signal N__law_signal "_law_signal" (defScope st__law_signal) f (defBody st__law_signal) o__law_signal := fun cdv A outer s H E hr B hB =>
  have tk := takes_of (X := cxT T N__law_signal "_law_signal" (defScope st__law_signal) f cdv A outer s H E) rfl rfl rfl rfl
  have hp := passes_of (X := cxT T N__law_signal "_law_signal" (defScope st__law_signal) f cdv A outer s H E) rfl
  (ms_one (ms_ret hB (me_make (mk_Signal_1 Z) tk (hr.mono (by decide : 9 ≤ kb__law_signal)) rfl (Z.glo 46) (ma_cons (me_fresh (mf_lc (own := [("row", 3)]) rfl (blkOk_by (by kernel_rfl)) (ip_seq (me_var 0)) (fun _ _ _ _ _ => (gp_name 3 (hN := sc__law_signal.nd))) (fun _ _ _ _ _ => mts_nil) (fun _ _ _ _ _ => (me_fresh (mf_lc (own := [("x", 2)]) rfl (blkOk_by (by kernel_rfl)) (ip_seq (me_var 3)) (fun _ _ _ _ _ => (gp_name 2 (hN := sc__law_signal.nd))) (fun _ _ _ _ _ => mts_nil) (fun _ _ _ _ _ => (me_call (ok__law_number Z) takes_none5 (hr.mono (by decide : 3 ≤ kb__law_signal)) rfl (ma_cons (me_var 2) (ma_cons (me_callB (call_sumD rfl) rfl (Z.free 6) (by kernel_rfl) (ma_cons (me_var 3) ma_nil)) (ma_cons (me_var 1) ma_nil))) (mLen_cons (mLen_cons (mLen_cons mLen_nil))))) (hN := sc__law_signal.nd)))) (hN := sc__law_signal.nd))) ma_nil) (mLen_cons mLen_nil))))
theorem ok__law_signal {T : Tk} (Z : ZX T) : Glo T 10 "_law_signal" 2 m__law_signal := by
  obtain ⟨fd, F⟩ := Z.def_ 14 (d := d__law_signal)
  exact Z.fun_ (Z.glo 47) F.kp (FnM.of0 (fnD F sc__law_signal (b__law_signal Z _)) (F.bindsN fun _ _ _ _ _ _ us hl => match us, hl with | [_, _], _ => rfl))
def N__law_share : List Str := ["cell", "drawn", "under", "top"]
def kb__law_share : Nat := 1
theorem sc__law_share : FnScope N__law_share ["cell"] (defScope st__law_share) := ⟨rfl, rfl, rfl, by decide +kernel, rfl, by decide +kernel, by decide +kernel⟩
theorem b__law_share {T : Tk} (Z : ZX T) (f : Addr) : BodyOk T kb__law_share N__law_share "_law_share" (defScope st__law_share) f (defBody st__law_share) o__law_share := fun cdv A outer s H E hr B hB =>
  have tk := takes_of (X := cxT T N__law_share "_law_share" (defScope st__law_share) f cdv A outer s H E) rfl rfl rfl rfl
  have hp := passes_of (X := cxT T N__law_share "_law_share" (defScope st__law_share) f cdv A outer s H E) rfl
  (mq_cons (ms_set 1 (me_call (ok__law_draws Z) tk (hr.mono (by decide : 1 ≤ kb__law_share)) rfl (ma_cons (me_var 0) (ma_cons me_int (ma_cons (me_fresh (mf_lst (ma_cons me_int (ma_cons me_int (ma_cons me_int (ma_cons (me_op op_powD.m me_int me_int) (ma_cons (me_op op_powD.m me_int me_int) ma_nil))))))) ma_nil))) (mLen_cons (mLen_cons (mLen_cons mLen_nil)))) (hN := sc__law_share.nd))
    (mq_cons (ms_if (mt_cmp (op_eqP (hr.mono (by decide : 0 ≤ kb__law_share)).units).m (me_ix ix_D (me_var 1) me_int) me_int) (ms_one (ms_ret hB (me_tup (ma_cons me_int (ma_cons me_int ma_nil))))) ms_nil)
    (mq_cons (ms_if (mt_cmp (op_eqP (hr.mono (by decide : 0 ≤ kb__law_share)).units).m (me_ix ix_D (me_var 1) me_int) me_int) (ms_one (ms_ret hB (me_tup (ma_cons me_int (ma_cons me_int ma_nil))))) ms_nil)
    (mq_cons (ms_set 2 (me_op op_addD.m me_int (me_ix ix_D (me_var 1) me_int)) (hN := sc__law_share.nd))
    (mq_cons (ms_set 3 (me_op op_modD.m (me_callT call_intD rfl (Z.free 2) (by kernel_rfl) (ma_cons (me_ix ix_D (me_var 1) me_int) ma_nil)) (me_op op_addD.m (me_var 2) me_int)) (hN := sc__law_share.nd))
    (mq_cons (ms_if (mt_cmp (op_eqP (hr.mono (by decide : 0 ≤ kb__law_share)).units).m (me_ix ix_D (me_var 1) me_int) me_int) (mq_cons (ms_set 2 (me_op op_addD.m me_int (me_ix ix_D (me_var 1) me_int)) (hN := sc__law_share.nd))
    (ms_one (ms_set 3 (me_op op_modD.m (me_callT call_intD rfl (Z.free 2) (by kernel_rfl) (ma_cons (me_ix ix_D (me_var 1) me_int) ma_nil)) (me_op op_addD.m (me_var 2) me_int)) (hN := sc__law_share.nd)))) ms_nil)
    (mq_cons (ms_if (mt_cmp (op_eqP (hr.mono (by decide : 0 ≤ kb__law_share)).units).m (me_ix ix_D (me_var 1) me_int) me_int) (ms_one (ms_ret hB (me_tup (ma_cons (me_op op_addD.m (me_op op_addD.m (me_var 2) me_int) (me_ix ix_D (me_var 1) me_int)) (ma_cons (me_var 2) ma_nil))))) ms_nil)
    (mq_cons (ms_if (mt_cmp (op_eqP (hr.mono (by decide : 0 ≤ kb__law_share)).units).m (me_ix ix_D (me_var 1) me_int) me_int) (ms_one (ms_ret hB (me_tup (ma_cons (me_op op_subD.m (me_op op_subD.m me_int me_int) (me_var 3)) (ma_cons (me_var 2) ma_nil))))) ms_nil)
    (ms_one (ms_ret hB (me_tup (ma_cons (me_var 3) (ma_cons (me_var 2) ma_nil)))))))))))))
theorem ok__law_share {T : Tk} (Z : ZX T) : Glo T 2 "_law_share" 1 m__law_share := by
  obtain ⟨fd, F⟩ := Z.def_ 15 (d := d__law_share)
  exact Z.fun_ (Z.glo 48) F.kp (FnM.of0 (fnD F sc__law_share (b__law_share Z _)) (F.bindsN fun _ _ _ _ _ _ us hl => match us, hl with | [_], _ => rfl))
def N_Signal___getitem__ : List Str := ["self", "at", "state", "outcome"]
def kb_Signal___getitem__ : Nat := 0
theorem sc_Signal___getitem__ : FnScope N_Signal___getitem__ ["self", "at"] (defScope st_Signal___getitem__) := ⟨rfl, rfl, rfl, by decide +kernel, rfl, by decide +kernel, by decide +kernel⟩
theorem b_Signal___getitem__ {T : Tk} (Z : ZX T) (f : Addr) : BodyOk T kb_Signal___getitem__ N_Signal___getitem__ "Signal.__getitem__" (defScope st_Signal___getitem__) f (defBody st_Signal___getitem__) o_Signal___getitem__ := fun cdv A outer s H E hr B hB =>
  have tk := takes_of (X := cxT T N_Signal___getitem__ "Signal.__getitem__" (defScope st_Signal___getitem__) f cdv A outer s H E) rfl rfl rfl rfl
  have hp := passes_of (X := cxT T N_Signal___getitem__ "Signal.__getitem__" (defScope st_Signal___getitem__) f cdv A outer s H E) rfl
  (mq_cons (ms_asg (gp_tup rfl (gp_cons (gp_name 2 (hN := sc_Signal___getitem__.nd)) (gp_cons (gp_name 3 (hN := sc_Signal___getitem__.nd)) gp_nil))) (me_var 1))
    (mq_cons (ms_if (mt_w (mw_or (mt_not (mt_chain op_leD op_ltD me_int (me_var 2) (me_fld .states (me_var 0)))) (mw_or1 (mt_not (mt_chain op_leD op_ltD me_int (me_var 3) (me_fld .outcomes (me_var 0))))))) (ms_one (ms_raise rfl tk (mx_0 (Z.x0 49) rfl))) ms_nil)
    (ms_one (ms_ret hB (me_ix ix_D (me_ix ix_D (me_fld .u_table (me_var 0)) (me_var 2)) (me_var 3))))))
theorem ok_Signal___getitem__ {T : Tk} (Z : ZX T) : FnM T 1 ((mA .Signal "__getitem__") T.K) 2 m_Signal___getitem__ := by
  obtain ⟨fd, F⟩ := Z.def_ 16 (d := d_Signal___getitem__)
  exact (FnM.of0 (fnD F sc_Signal___getitem__ (b_Signal___getitem__ Z _)) (F.bindsN fun _ _ _ _ _ _ us hl => match us, hl with | [_, _], _ => rfl))
theorem t_ix_Signal_ok {T : Tk} (Z : ZX T) : ∀ c g, t_ix_Signal c = some g → IxF T 1 c g := by
  intro c g h
  unfold t_ix_Signal at h
  split at h
  · cases h
    exact ixB_ok (Z.fact 50) ((ok_Signal___getitem__ Z).mono (by decide : 1 ≤ 1))
  · cases h
def N_Ratio___mul__ : List Str := ["self", "other", "right"]
def kb_Ratio___mul__ : Nat := 3
theorem sc_Ratio___mul__ : FnScope N_Ratio___mul__ ["self", "other"] (defScope st_Ratio___mul__) := ⟨rfl, rfl, rfl, by decide +kernel, rfl, by decide +kernel, by decide +kernel⟩
theorem b_Ratio___mul__ {T : Tk} (Z : ZX T) (f : Addr) : BodyOk T kb_Ratio___mul__ N_Ratio___mul__ "Ratio.__mul__" (defScope st_Ratio___mul__) f (defBody st_Ratio___mul__) o_Ratio___mul__ := fun cdv A outer s H E hr B hB =>
  have tk := takes_of (X := cxT T N_Ratio___mul__ "Ratio.__mul__" (defScope st_Ratio___mul__) f cdv A outer s H E) rfl rfl rfl rfl
  have hp := passes_of (X := cxT T N_Ratio___mul__ "Ratio.__mul__" (defScope st_Ratio___mul__) f cdv A outer s H E) rfl
  (mq_cons (ms_set 2 (me_call (ok_as_ratio Z) tk (hr.mono (by decide : 3 ≤ kb_Ratio___mul__)) rfl (ma_cons (me_var 1) ma_nil) (mLen_cons mLen_nil)) (hN := sc_Ratio___mul__.nd))
    (ms_one (ms_ret hB (me_make (mk_Ratio_2 Z) tk (hr.mono (by decide : 2 ≤ kb_Ratio___mul__)) rfl (Z.glo 27) (ma_cons (me_op op_mulD.m (me_fld .top (me_var 0)) (me_fld .top (me_var 2))) (ma_cons (me_op op_mulD.m (me_fld .under (me_var 0)) (me_fld .under (me_var 2))) ma_nil)) (mLen_cons (mLen_cons mLen_nil))))))
theorem ok_Ratio___mul__ {T : Tk} (Z : ZX T) : FnM T 4 ((mA .Ratio "__mul__") T.K) 2 m_Ratio___mul__ := by
  obtain ⟨fd, F⟩ := Z.def_ 17 (d := d_Ratio___mul__)
  exact (FnM.of0 (fnD F sc_Ratio___mul__ (b_Ratio___mul__ Z _)) (F.bindsN fun _ _ _ _ _ _ us hl => match us, hl with | [_, _], _ => rfl))
theorem t_Mult_Ratio_ok {T : Tk} (Z : ZX T) : ∀ c g, t_Mult_Ratio c = some g → BinF T 4 .Mult c g := by
  intro c g h
  unfold t_Mult_Ratio at h
  split at h
  · cases h
    exact bnB_ok (Z.fact 51) ((ok_Ratio___mul__ Z).mono (by decide : 4 ≤ 4))
  · cases h
theorem t_rev0_Mult_ok {T : Tk} (Z : ZX T) : ∀ c g, t_rev0_Mult c = some g → RinF T 0 .Mult c g := by
  intro c g h
  cases h
def N_passed_on : List Str := ["chances", "signal", "outcome", "total", "state"]
def kb_passed_on : Nat := 4
theorem sc_passed_on : FnScope N_passed_on ["chances", "signal", "outcome"] (defScope st_passed_on) := ⟨rfl, rfl, rfl, by decide +kernel, rfl, by decide +kernel, by decide +kernel⟩
theorem b_passed_on {T : Tk} (Z : ZX T) (f : Addr) : BodyOk T kb_passed_on N_passed_on "passed_on" (defScope st_passed_on) f (defBody st_passed_on) o_passed_on := fun cdv A outer s H E hr B hB =>
  have tk := takes_of (X := cxT T N_passed_on "passed_on" (defScope st_passed_on) f cdv A outer s H E) rfl rfl rfl rfl
  have hp := passes_of (X := cxT T N_passed_on "passed_on" (defScope st_passed_on) f cdv A outer s H E) rfl
  (mq_cons (ms_set 3 (me_make (mk_Ratio_1 Z) tk (hr.mono (by decide : 2 ≤ kb_passed_on)) rfl (Z.glo 27) (ma_cons me_int ma_nil) (mLen_cons mLen_nil)) (hN := sc_passed_on.nd))
    (mq_cons (ms_for rfl hp (ip_range1 (ma_cons (me_callB call_lenD rfl (Z.free 0) (by kernel_rfl) (ma_cons (me_var 0) ma_nil)) ma_nil) rfl (Z.free 1)) (gp_name 4 (hN := sc_passed_on.nd)) (fun _ hq => have hB := hq.trans hB; (ms_one (ms_set 3 (me_op (op_ownD intAdd op_addD.m (fun c g h => (t_Add_Ratio_ok Z c g h).mono (by decide : 4 ≤ 4)) (fun c g h => (t_rev0_Add_ok Z c g h).mono (by decide : 0 ≤ 4)) tk (hr.mono (by decide : 4 ≤ kb_passed_on))) (me_var 3) (me_op (op_ownD intMult op_mulD.m (fun c g h => (t_Mult_Ratio_ok Z c g h).mono (by decide : 4 ≤ 4)) (fun c g h => (t_rev0_Mult_ok Z c g h).mono (by decide : 0 ≤ 4)) tk (hr.mono (by decide : 4 ≤ kb_passed_on))) (me_ix ix_D (me_var 0) (me_var 4)) (me_ix (ix_O (t_ix_Signal_ok Z) tk (hr.mono (by decide : 2 ≤ kb_passed_on))) (me_var 1) (me_tup (ma_cons (me_var 4) (ma_cons (me_var 2) ma_nil)))))) (hN := sc_passed_on.nd)))))
    (ms_one (ms_ret hB (me_var 3)))))
theorem ok_passed_on {T : Tk} (Z : ZX T) : Glo T 5 "passed_on" 3 m_passed_on := by
  obtain ⟨fd, F⟩ := Z.def_ 18 (d := d_passed_on)
  exact Z.fun_ (Z.glo 52) F.kp (FnM.of0 (fnD F sc_passed_on (b_passed_on Z _)) (F.bindsN fun _ _ _ _ _ _ us hl => match us, hl with | [_, _, _], _ => rfl))
def N_Signal___mul__ : List Str := ["self", "other", "rows", "chances", "outcome"]
def kb_Signal___mul__ : Nat := 9
theorem sc_Signal___mul__ : FnScope N_Signal___mul__ ["self", "other"] (defScope st_Signal___mul__) := ⟨rfl, rfl, rfl, by decide +kernel, rfl, by decide +kernel, by decide +kernel⟩
theorem b_Signal___mul__ {T : Tk} (Z : ZX T) (f : Addr) : BodyOk T kb_Signal___mul__ N_Signal___mul__ "Signal.__mul__" (defScope st_Signal___mul__) f (defBody st_Signal___mul__) o_Signal___mul__ := fun cdv A outer s H E hr B hB =>
  have tk := takes_of (X := cxT T N_Signal___mul__ "Signal.__mul__" (defScope st_Signal___mul__) f cdv A outer s H E) rfl rfl rfl rfl
  have hp := passes_of (X := cxT T N_Signal___mul__ "Signal.__mul__" (defScope st_Signal___mul__) f cdv A outer s H E) rfl
  (mq_cons (ms_if (mt_cmp (op_neP (hr.mono (by decide : 0 ≤ kb_Signal___mul__)).units).m (me_fld .states (me_var 1)) (me_fld .outcomes (me_var 0))) (ms_one (ms_raise rfl tk (mx_1 (x_WrongLength Z) (hr.mono (by decide : 0 ≤ kb_Signal___mul__)) rfl (ma_cons (me_fld .states (me_var 1)) ma_nil)))) ms_nil)
    (mq_cons (ms_setF 2 (mf_lst ma_nil) (hN := sc_Signal___mul__.nd))
    (mq_cons (ms_for rfl hp (ip_seq (me_fld .u_table (me_var 0))) (gp_name 3 (hN := sc_Signal___mul__.nd)) (fun _ hq => have hB := hq.trans hB; (ms_one (ms_app 2 (me_fresh (mf_lc (own := [("outcome", 4)]) rfl (blkOk_by (by kernel_rfl)) (ip_range1 (ma_cons (me_fld .outcomes (me_var 1)) ma_nil) rfl (Z.free 1)) (fun _ _ _ _ _ => (gp_name 4 (hN := sc_Signal___mul__.nd))) (fun _ _ _ _ _ => mts_nil) (fun _ _ _ _ _ => (me_call (ok_passed_on Z) takes_none5 (hr.mono (by decide : 5 ≤ kb_Signal___mul__)) rfl (ma_cons (me_var 3) (ma_cons (me_var 1) (ma_cons (me_var 4) ma_nil))) (mLen_cons (mLen_cons (mLen_cons mLen_nil))))) (hN := sc_Signal___mul__.nd)))))))
    (mq_frz 2 (ms_one (ms_ret hB (me_make (mk_Signal_1 Z) tk (hr.mono (by decide : 9 ≤ kb_Signal___mul__)) rfl (Z.glo 46) (ma_cons (me_var 2) ma_nil) (mLen_cons mLen_nil))))))))
theorem ok_Signal___mul__ {T : Tk} (Z : ZX T) : FnM T 10 ((mA .Signal "__mul__") T.K) 2 m_Signal___mul__ := by
  obtain ⟨fd, F⟩ := Z.def_ 19 (d := d_Signal___mul__)
  exact (FnM.of0 (fnD F sc_Signal___mul__ (b_Signal___mul__ Z _)) (F.bindsN fun _ _ _ _ _ _ us hl => match us, hl with | [_, _], _ => rfl))
theorem t_Mult_Signal_ok {T : Tk} (Z : ZX T) : ∀ c g, t_Mult_Signal c = some g → BinF T 10 .Mult c g := by
  intro c g h
  unfold t_Mult_Signal at h
  split at h
  · cases h
    exact bnB_ok (Z.fact 53) ((ok_Signal___mul__ Z).mono (by decide : 10 ≤ 10))
  · cases h
def N_Signal___and__ : List Str := ["self", "other", "rows", "state", "one", "two"]
def kb_Signal___and__ : Nat := 9
theorem sc_Signal___and__ : FnScope N_Signal___and__ ["self", "other"] (defScope st_Signal___and__) := ⟨rfl, rfl, rfl, by decide +kernel, rfl, by decide +kernel, by decide +kernel⟩
theorem b_Signal___and__ {T : Tk} (Z : ZX T) (f : Addr) : BodyOk T kb_Signal___and__ N_Signal___and__ "Signal.__and__" (defScope st_Signal___and__) f (defBody st_Signal___and__) o_Signal___and__ := fun cdv A outer s H E hr B hB =>
  have tk := takes_of (X := cxT T N_Signal___and__ "Signal.__and__" (defScope st_Signal___and__) f cdv A outer s H E) rfl rfl rfl rfl
  have hp := passes_of (X := cxT T N_Signal___and__ "Signal.__and__" (defScope st_Signal___and__) f cdv A outer s H E) rfl
  (mq_cons (ms_if (mt_cmp (op_neP (hr.mono (by decide : 0 ≤ kb_Signal___and__)).units).m (me_fld .states (me_var 1)) (me_fld .states (me_var 0))) (ms_one (ms_raise rfl tk (mx_1 (x_WrongLength Z) (hr.mono (by decide : 0 ≤ kb_Signal___and__)) rfl (ma_cons (me_fld .states (me_var 1)) ma_nil)))) ms_nil)
    (mq_cons (ms_if (mt_cmp op_gtD.m (me_op op_mulD.m (me_fld .outcomes (me_var 0)) (me_fld .outcomes (me_var 1))) (me_con_cls (nm_out (by decide +kernel)) (t_MOST_Signal_ok Z) (me_var 0))) (ms_one (ms_raise rfl tk (mx_2 (x_TooMany Z) (hr.mono (by decide : 0 ≤ kb_Signal___and__)) rfl (ma_cons me_str (ma_cons (me_con_cls (nm_out (by decide +kernel)) (t_MOST_Signal_ok Z) (me_var 0)) ma_nil))))) ms_nil)
    (mq_cons (ms_setF 2 (mf_lst ma_nil) (hN := sc_Signal___and__.nd))
    (mq_cons (ms_for rfl hp (ip_range1 (ma_cons (me_fld .states (me_var 0)) ma_nil) rfl (Z.free 1)) (gp_name 3 (hN := sc_Signal___and__.nd)) (fun _ hq => have hB := hq.trans hB; (ms_one (ms_app 2 (me_fresh (mf_lcc (own := [("one", 4), ("two", 5)]) (vs1 := [5]) rfl (blkOk_by (by kernel_rfl)) (ip_seq (me_ix ix_D (me_fld .u_table (me_var 0)) (me_var 3))) (gd_name 4) (fun _ _ _ _ _ => (gp_name 4 (hN := sc_Signal___and__.nd))) (fun _ _ _ _ _ => mts_nil) (fun _ _ _ _ _ => (ip_seq (me_ix ix_D (me_fld .u_table (me_var 1)) (me_var 3)))) (fun _ _ _ _ _ => (gp_name 5 (hN := sc_Signal___and__.nd))) (fun _ _ _ _ _ => mts_nil) (fun _ _ _ _ _ => (me_op (op_ownD intMult op_mulD.m (fun c g h => (t_Mult_Ratio_ok Z c g h).mono (by decide : 4 ≤ 4)) (fun c g h => (t_rev0_Mult_ok Z c g h).mono (by decide : 0 ≤ 4)) takes_none5 (hr.mono (by decide : 4 ≤ kb_Signal___and__))) (me_var 4) (me_var 5))) (hN := sc_Signal___and__.nd)))))))
    (mq_frz 2 (ms_one (ms_ret hB (me_make (mk_Signal_1 Z) tk (hr.mono (by decide : 9 ≤ kb_Signal___and__)) rfl (Z.glo 46) (ma_cons (me_var 2) ma_nil) (mLen_cons mLen_nil)))))))))
theorem ok_Signal___and__ {T : Tk} (Z : ZX T) : FnM T 10 ((mA .Signal "__and__") T.K) 2 m_Signal___and__ := by
  obtain ⟨fd, F⟩ := Z.def_ 20 (d := d_Signal___and__)
  exact (FnM.of0 (fnD F sc_Signal___and__ (b_Signal___and__ Z _)) (F.bindsN fun _ _ _ _ _ _ us hl => match us, hl with | [_, _], _ => rfl))
theorem t_BitAnd_Signal_ok {T : Tk} (Z : ZX T) : ∀ c g, t_BitAnd_Signal c = some g → BinF T 10 .BitAnd c g := by
  intro c g h
  unfold t_BitAnd_Signal at h
  split at h
  · cases h
    exact bnB_ok (Z.fact 54) ((ok_Signal___and__ Z).mono (by decide : 10 ≤ 10))
  · cases h
theorem t_rev0_BitAnd_ok {T : Tk} (Z : ZX T) : ∀ c g, t_rev0_BitAnd c = some g → RinF T 0 .BitAnd c g := by
  intro c g h
  cases h
theorem t_bin0_Sub_ok {T : Tk} (Z : ZX T) : ∀ c g, t_bin0_Sub c = some g → BinF T 0 .Sub c g := by
  intro c g h
  cases h
def N_Ratio___neg__ : List Str := ["self"]
def kb_Ratio___neg__ : Nat := 2
theorem sc_Ratio___neg__ : FnScope N_Ratio___neg__ ["self"] (defScope st_Ratio___neg__) := ⟨rfl, rfl, rfl, by decide +kernel, rfl, by decide +kernel, by decide +kernel⟩
theorem b_Ratio___neg__ {T : Tk} (Z : ZX T) (f : Addr) : BodyOk T kb_Ratio___neg__ N_Ratio___neg__ "Ratio.__neg__" (defScope st_Ratio___neg__) f (defBody st_Ratio___neg__) o_Ratio___neg__ := fun cdv A outer s H E hr B hB =>
  have tk := takes_of (X := cxT T N_Ratio___neg__ "Ratio.__neg__" (defScope st_Ratio___neg__) f cdv A outer s H E) rfl rfl rfl rfl
  have hp := passes_of (X := cxT T N_Ratio___neg__ "Ratio.__neg__" (defScope st_Ratio___neg__) f cdv A outer s H E) rfl
  (ms_one (ms_ret hB (me_make (mk_Ratio_2 Z) tk (hr.mono (by decide : 2 ≤ kb_Ratio___neg__)) rfl (Z.glo 27) (ma_cons (me_un un_negD (me_fld .top (me_var 0))) (ma_cons (me_fld .under (me_var 0)) ma_nil)) (mLen_cons (mLen_cons mLen_nil)))))
theorem ok_Ratio___neg__ {T : Tk} (Z : ZX T) : FnM T 3 ((mA .Ratio "__neg__") T.K) 1 m_Ratio___neg__ := by
  obtain ⟨fd, F⟩ := Z.def_ 21 (d := d_Ratio___neg__)
  exact (FnM.of0 (fnD F sc_Ratio___neg__ (b_Ratio___neg__ Z _)) (F.bindsN fun _ _ _ _ _ _ us hl => match us, hl with | [_], _ => rfl))
theorem t_USub_Ratio_ok {T : Tk} (Z : ZX T) : ∀ c g, t_USub_Ratio c = some g → UnaF T 3 .USub c g := by
  intro c g h
  unfold t_USub_Ratio at h
  split at h
  · cases h
    exact uaB_ok (Z.fact 56) ((ok_Ratio___neg__ Z).mono (by decide : 3 ≤ 3))
  · cases h
def N_Ratio___rsub__ : List Str := ["self", "other"]
def kb_Ratio___rsub__ : Nat := 4
theorem sc_Ratio___rsub__ : FnScope N_Ratio___rsub__ ["self", "other"] (defScope st_Ratio___rsub__) := ⟨rfl, rfl, rfl, by decide +kernel, rfl, by decide +kernel, by decide +kernel⟩
theorem b_Ratio___rsub__ {T : Tk} (Z : ZX T) (f : Addr) : BodyOk T kb_Ratio___rsub__ N_Ratio___rsub__ "Ratio.__rsub__" (defScope st_Ratio___rsub__) f (defBody st_Ratio___rsub__) o_Ratio___rsub__ := fun cdv A outer s H E hr B hB =>
  have tk := takes_of (X := cxT T N_Ratio___rsub__ "Ratio.__rsub__" (defScope st_Ratio___rsub__) f cdv A outer s H E) rfl rfl rfl rfl
  have hp := passes_of (X := cxT T N_Ratio___rsub__ "Ratio.__rsub__" (defScope st_Ratio___rsub__) f cdv A outer s H E) rfl
  (ms_one (ms_ret hB (me_op (op_ownD intAdd op_addD.m (fun c g h => (t_Add_Ratio_ok Z c g h).mono (by decide : 4 ≤ 4)) (fun c g h => (t_rev0_Add_ok Z c g h).mono (by decide : 0 ≤ 4)) tk (hr.mono (by decide : 4 ≤ kb_Ratio___rsub__))) (me_un (un_ownU (by decide) un_negD (t_USub_Ratio_ok Z) tk (hr.mono (by decide : 3 ≤ kb_Ratio___rsub__))) (me_var 0)) (me_var 1))))
theorem ok_Ratio___rsub__ {T : Tk} (Z : ZX T) : FnM T 5 ((mA .Ratio "__rsub__") T.K) 2 m_Ratio___rsub__ := by
  obtain ⟨fd, F⟩ := Z.def_ 22 (d := d_Ratio___rsub__)
  exact (FnM.of0 (fnD F sc_Ratio___rsub__ (b_Ratio___rsub__ Z _)) (F.bindsN fun _ _ _ _ _ _ us hl => match us, hl with | [_, _], _ => rfl))
theorem t_SubR_Ratio_ok {T : Tk} (Z : ZX T) : ∀ c g, t_SubR_Ratio c = some g → RinF T 5 .Sub c g := by
  intro c g h
  unfold t_SubR_Ratio at h
  split at h
  · cases h
    exact rnB_ok (Z.fact 57) ((ok_Ratio___rsub__ Z).mono (by decide : 5 ≤ 5))
  · cases h
def N_Signal_rows : List Str := ["self", "chances"]
def kb_Signal_rows : Nat := 0
theorem sc_Signal_rows : FnScope N_Signal_rows ["self"] (defScope st_Signal_rows) := ⟨rfl, rfl, rfl, by decide +kernel, rfl, by decide +kernel, by decide +kernel⟩
theorem b_Signal_rows {T : Tk} (Z : ZX T) (f : Addr) : BodyOk T kb_Signal_rows N_Signal_rows "Signal.rows" (defScope st_Signal_rows) f (defBody st_Signal_rows) o_Signal_rows := fun cdv A outer s H E hr B hB =>
  have tk := takes_of (X := cxT T N_Signal_rows "Signal.rows" (defScope st_Signal_rows) f cdv A outer s H E) rfl rfl rfl rfl
  have hp := passes_of (X := cxT T N_Signal_rows "Signal.rows" (defScope st_Signal_rows) f cdv A outer s H E) rfl
  (ms_one (ms_ret hB (me_fresh2 (mf2_lc (own := [("chances", 1)]) rfl (blkOk_by (by kernel_rfl)) (ip_seq (me_fld .u_table (me_var 0))) (fun _ _ _ _ _ => (gp_name 1 (hN := sc_Signal_rows.nd))) (fun _ _ _ _ _ => mts_nil) (fun _ _ _ _ _ => (mf_list (me_var 1) rfl (Z.free 7))) (hN := sc_Signal_rows.nd)))))
theorem ok_Signal_rows {T : Tk} (Z : ZX T) : FnM T 1 ((pA .Signal "rows") T.K) 1 m_Signal_rows := by
  obtain ⟨fd, F⟩ := Z.def_ 23 (d := d_Signal_rows)
  exact (FnM.of0 (fnD F sc_Signal_rows (b_Signal_rows Z _)) (F.bindsN fun _ _ _ _ _ _ us hl => match us, hl with | [_], _ => rfl))
theorem t_rows_Signal_ok {T : Tk} (Z : ZX T) : ∀ c g, t_rows_Signal c = some g → PropF T 1 c "rows" g := by
  intro c g h
  unfold t_rows_Signal at h
  split at h
  · cases h
    exact ⟨_, _, prB_ok (Z.fact 58), (ok_Signal_rows Z).mono (by decide : 1 ≤ 1)⟩
  · cases h
def N_blended : List Str := ["one", "other", "share", "part", "rest", "rows", "first", "second", "chance"]
def kb_blended : Nat := 9
theorem sc_blended : FnScope N_blended ["one", "other", "share"] (defScope st_blended) := ⟨rfl, rfl, rfl, by decide +kernel, rfl, by decide +kernel, by decide +kernel⟩
theorem b_blended {T : Tk} (Z : ZX T) (f : Addr) : BodyOk T kb_blended N_blended "blended" (defScope st_blended) f (defBody st_blended) o_blended := fun cdv A outer s H E hr B hB =>
  have tk := takes_of (X := cxT T N_blended "blended" (defScope st_blended) f cdv A outer s H E) rfl rfl rfl rfl
  have hp := passes_of (X := cxT T N_blended "blended" (defScope st_blended) f cdv A outer s H E) rfl
  (mq_cons (ms_if (mt_cmp (op_neP (hr.mono (by decide : 0 ≤ kb_blended)).units).m (me_fld .states (me_var 1)) (me_fld .states (me_var 0))) (ms_one (ms_raise rfl tk (mx_1 (x_WrongLength Z) (hr.mono (by decide : 0 ≤ kb_blended)) rfl (ma_cons (me_fld .states (me_var 1)) ma_nil)))) ms_nil)
    (mq_cons (ms_set 3 (me_call (ok_as_ratio Z) tk (hr.mono (by decide : 3 ≤ kb_blended)) rfl (ma_cons (me_var 2) ma_nil) (mLen_cons mLen_nil)) (hN := sc_blended.nd))
    (mq_cons (ms_if (mt_w (mw_or (mt_cmp op_ltD.m (me_fld .top (me_var 3)) me_int) (mw_or1 (mt_cmp op_gtD.m (me_fld .top (me_var 3)) (me_fld .under (me_var 3)))))) (ms_one (ms_raise rfl tk (mx_2 (x_BadNumber Z) (hr.mono (by decide : 0 ≤ kb_blended)) rfl (ma_cons me_str (ma_cons (me_var 2) ma_nil))))) ms_nil)
    (mq_cons (ms_if (mt_cmp op_gtD.m (me_op op_addD.m (me_fld .outcomes (me_var 0)) (me_fld .outcomes (me_var 1))) (me_cval rfl (Z.glo 46) (Z.fact 55))) (ms_one (ms_raise rfl tk (mx_2 (x_TooMany Z) (hr.mono (by decide : 0 ≤ kb_blended)) rfl (ma_cons me_str (ma_cons (me_cval rfl (Z.glo 46) (Z.fact 55)) ma_nil))))) ms_nil)
    (mq_cons (ms_set 4 (me_op (op_ownD intSub op_subD.m (fun c g h => (t_bin0_Sub_ok Z c g h).mono (by decide : 0 ≤ 5)) (fun c g h => (t_SubR_Ratio_ok Z c g h).mono (by decide : 5 ≤ 5)) tk (hr.mono (by decide : 5 ≤ kb_blended))) me_int (me_var 3)) (hN := sc_blended.nd))
    (mq_cons (ms_setF 5 (mf_lst ma_nil) (hN := sc_blended.nd))
    (mq_cons (ms_for rfl hp (ip_zip (ma_cons (me_attr (n := none) (fun _ h => by cases h) (t_rows_Signal_ok Z) (hr.mono (by decide : 2 ≤ kb_blended)) (me_var 0)) (ma_cons (me_attr (n := none) (fun _ h => by cases h) (t_rows_Signal_ok Z) (hr.mono (by decide : 2 ≤ kb_blended)) (me_var 1)) ma_nil)) rfl (Z.free 59)) (gp_tup rfl (gp_cons (gp_name 6 (hN := sc_blended.nd)) (gp_cons (gp_name 7 (hN := sc_blended.nd)) gp_nil))) (fun _ hq => have hB := hq.trans hB; (ms_one (ms_app 5 (me_fresh (mf_cat (me_fresh (mf_lc (own := [("chance", 8)]) rfl (blkOk_by (by kernel_rfl)) (ip_seq (me_var 6)) (fun _ _ _ _ _ => (gp_name 8 (hN := sc_blended.nd))) (fun _ _ _ _ _ => mts_nil) (fun _ _ _ _ _ => (me_op (op_ownD intMult op_mulD.m (fun c g h => (t_Mult_Ratio_ok Z c g h).mono (by decide : 4 ≤ 4)) (fun c g h => (t_rev0_Mult_ok Z c g h).mono (by decide : 0 ≤ 4)) takes_none5 (hr.mono (by decide : 4 ≤ kb_blended))) (me_var 8) (me_var 3))) (hN := sc_blended.nd))) (me_fresh (mf_lc (own := [("chance", 8)]) rfl (blkOk_by (by kernel_rfl)) (ip_seq (me_var 7)) (fun _ _ _ _ _ => (gp_name 8 (hN := sc_blended.nd))) (fun _ _ _ _ _ => mts_nil) (fun _ _ _ _ _ => (me_op (op_ownD intMult op_mulD.m (fun c g h => (t_Mult_Ratio_ok Z c g h).mono (by decide : 4 ≤ 4)) (fun c g h => (t_rev0_Mult_ok Z c g h).mono (by decide : 0 ≤ 4)) takes_none5 (hr.mono (by decide : 4 ≤ kb_blended))) (me_var 8) (me_var 4))) (hN := sc_blended.nd)))))))))
    (mq_frz 5 (ms_one (ms_ret hB (me_make (mk_Signal_1 Z) tk (hr.mono (by decide : 9 ≤ kb_blended)) rfl (Z.glo 46) (ma_cons (me_var 5) ma_nil) (mLen_cons mLen_nil))))))))))))
theorem ok_blended {T : Tk} (Z : ZX T) : Glo T 10 "blended" 3 m_blended := by
  obtain ⟨fd, F⟩ := Z.def_ 24 (d := d_blended)
  exact Z.fun_ (Z.glo 60) F.kp (FnM.of0 (fnD F sc_blended (b_blended Z _)) (F.bindsN fun _ _ _ _ _ _ us hl => match us, hl with | [_, _, _], _ => rfl))
theorem tk_WatchError_ok {T : Tk} (Z : ZX T) : ∀ c b, tk_WatchError c = some b → PySem.W.kitOne T.K (.ref (ca T.K c)) (.ref (He.ga T.K "WatchError")) = some b := by
  intro c b h
  unfold tk_WatchError at h
  split at h
  · cases h
    exact of_decide_eq_true (Z.fact 61)
  · cases h
    exact of_decide_eq_true (Z.fact 62)
  · cases h
    exact of_decide_eq_true (Z.fact 63)
  · cases h
    exact of_decide_eq_true (Z.fact 64)
  · cases h
    exact of_decide_eq_true (Z.fact 65)
  · cases h
    exact of_decide_eq_true (Z.fact 66)
  · cases h
theorem tk_ValueError_ok {T : Tk} (Z : ZX T) : ∀ c b, tk_ValueError c = some b → PySem.W.kitOne T.K (.ref (ca T.K c)) (.type "ValueError") = some b := by
  intro c b h
  unfold tk_ValueError at h
  split at h
  · cases h
    exact of_decide_eq_true (Z.fact 68)
  · cases h
    exact of_decide_eq_true (Z.fact 69)
  · cases h
    exact of_decide_eq_true (Z.fact 70)
  · cases h
    exact of_decide_eq_true (Z.fact 71)
  · cases h
    exact of_decide_eq_true (Z.fact 72)
  · cases h
    exact of_decide_eq_true (Z.fact 73)
  · cases h
theorem tx_TooMany_ok {T : Tk} (Z : ZX T) : ∀ c b, tx_TooMany c = some b → PySem.W.exmOne T.K (.ref (ca T.K c)) (.ref (He.ga T.K "TooMany")) = some b := by
  intro c b h
  unfold tx_TooMany at h
  split at h
  · cases h
    exact of_decide_eq_true (Z.fact 75)
  · cases h
    exact of_decide_eq_true (Z.fact 76)
  · cases h
    exact of_decide_eq_true (Z.fact 77)
  · cases h
    exact of_decide_eq_true (Z.fact 78)
  · cases h
    exact of_decide_eq_true (Z.fact 79)
  · cases h
    exact of_decide_eq_true (Z.fact 80)
  · cases h
theorem tk_TooMany_ok {T : Tk} (Z : ZX T) : ∀ c b, tk_TooMany c = some b → PySem.W.kitOne T.K (.ref (ca T.K c)) (.ref (He.ga T.K "TooMany")) = some b := by
  intro c b h
  unfold tk_TooMany at h
  split at h
  · cases h
    exact of_decide_eq_true (Z.fact 82)
  · cases h
    exact of_decide_eq_true (Z.fact 83)
  · cases h
    exact of_decide_eq_true (Z.fact 84)
  · cases h
    exact of_decide_eq_true (Z.fact 85)
  · cases h
    exact of_decide_eq_true (Z.fact 86)
  · cases h
    exact of_decide_eq_true (Z.fact 87)
  · cases h
theorem tx_BadNumber_ok {T : Tk} (Z : ZX T) : ∀ c b, tx_BadNumber c = some b → PySem.W.exmOne T.K (.ref (ca T.K c)) (.ref (He.ga T.K "BadNumber")) = some b := by
  intro c b h
  unfold tx_BadNumber at h
  split at h
  · cases h
    exact of_decide_eq_true (Z.fact 88)
  · cases h
    exact of_decide_eq_true (Z.fact 89)
  · cases h
    exact of_decide_eq_true (Z.fact 90)
  · cases h
    exact of_decide_eq_true (Z.fact 91)
  · cases h
    exact of_decide_eq_true (Z.fact 92)
  · cases h
    exact of_decide_eq_true (Z.fact 93)
  · cases h
theorem tk_BadNumber_ok {T : Tk} (Z : ZX T) : ∀ c b, tk_BadNumber c = some b → PySem.W.kitOne T.K (.ref (ca T.K c)) (.ref (He.ga T.K "BadNumber")) = some b := by
  intro c b h
  unfold tk_BadNumber at h
  split at h
  · cases h
    exact of_decide_eq_true (Z.fact 95)
  · cases h
    exact of_decide_eq_true (Z.fact 96)
  · cases h
    exact of_decide_eq_true (Z.fact 97)
  · cases h
    exact of_decide_eq_true (Z.fact 98)
  · cases h
    exact of_decide_eq_true (Z.fact 99)
  · cases h
    exact of_decide_eq_true (Z.fact 100)
  · cases h
theorem tx_WrongLength_ok {T : Tk} (Z : ZX T) : ∀ c b, tx_WrongLength c = some b → PySem.W.exmOne T.K (.ref (ca T.K c)) (.ref (He.ga T.K "WrongLength")) = some b := by
  intro c b h
  unfold tx_WrongLength at h
  split at h
  · cases h
    exact of_decide_eq_true (Z.fact 101)
  · cases h
    exact of_decide_eq_true (Z.fact 102)
  · cases h
    exact of_decide_eq_true (Z.fact 103)
  · cases h
    exact of_decide_eq_true (Z.fact 104)
  · cases h
    exact of_decide_eq_true (Z.fact 105)
  · cases h
    exact of_decide_eq_true (Z.fact 106)
  · cases h
def N__law_made : List Str := ["kind", "one", "two", "share", "told", "wrong", "e", "why"]
def kb__law_made : Nat := 10
theorem sc__law_made : FnScope N__law_made ["kind", "one", "two", "share"] (defScope st__law_made) := ⟨rfl, rfl, rfl, by decide +kernel, rfl, by decide +kernel, by decide +kernel⟩
theorem b__law_made {T : Tk} (Z : ZX T) (f : Addr) : BodyOk T kb__law_made N__law_made "_law_made" (defScope st__law_made) f (defBody st__law_made) o__law_made := fun cdv A outer s H E hr B hB =>
  have tk := takes_of (X := cxT T N__law_made "_law_made" (defScope st__law_made) f cdv A outer s H E) rfl rfl rfl rfl
  have hp := passes_of (X := cxT T N__law_made "_law_made" (defScope st__law_made) f cdv A outer s H E) rfl
  (mq_cons (ms_set 4 me_non (hN := sc__law_made.nd))
    (mq_cons (ms_try rfl rfl sc__law_made.nd tk (fun _ _ _ tk hp => (ms_one (ms_if (mt_cmp (op_eqP (hr.mono (by decide : 0 ≤ kb__law_made)).units).m (me_var 0) me_int) (ms_one (ms_set 4 (me_op (op_ownD intMult op_mulD.m (fun c g h => (t_Mult_Signal_ok Z c g h).mono (by decide : 10 ≤ 10)) (fun c g h => (t_rev0_Mult_ok Z c g h).mono (by decide : 0 ≤ 10)) tk (hr.mono (by decide : 10 ≤ kb__law_made))) (me_var 1) (me_var 2)) (hN := sc__law_made.nd))) (ms_one (ms_if (mt_cmp (op_eqP (hr.mono (by decide : 0 ≤ kb__law_made)).units).m (me_var 0) me_int) (ms_one (ms_set 4 (me_op (op_ownD intBitAnd op_noD (fun c g h => (t_BitAnd_Signal_ok Z c g h).mono (by decide : 10 ≤ 10)) (fun c g h => (t_rev0_BitAnd_ok Z c g h).mono (by decide : 0 ≤ 10)) tk (hr.mono (by decide : 10 ≤ kb__law_made))) (me_var 1) (me_var 2)) (hN := sc__law_made.nd))) (ms_one (ms_set 4 (me_call (ok_blended Z) tk (hr.mono (by decide : 10 ≤ kb__law_made)) rfl (ma_cons (me_var 1) (ma_cons (me_var 2) (ma_cons (me_var 3) ma_nil))) (mLen_cons (mLen_cons (mLen_cons mLen_nil)))) (hN := sc__law_made.nd)))))))) (HdsX.as (i := 5) ⟨rfl, by decide, .inl (Z.glo 107)⟩ (tx_WrongLength_ok Z) rfl rfl (fun a oe cls d pn hz hf => (ms_one (ms_set 4 (me_tup (ma_cons me_str (ma_cons (me_xf 5 .length hz hf) (ma_cons (me_and (me_xi 5 hz hf (cv := .ref _) (u := .ref _) (fun _ h => h) (tk_WatchError_ok Z) (pe_cl rfl (Z.glo 67)) rfl (Z.free 23)) (me_one (me_not (me_xi 5 hz hf (cv := .ref _) (u := .ref _) (fun _ h => h) (tk_BadNumber_ok Z) (pe_cl rfl (Z.glo 94)) rfl (Z.free 23))))) ma_nil)))) (hN := sc__law_made.nd)))) (HdsX.as (i := 6) ⟨rfl, by decide, .inl (Z.glo 94)⟩ (tx_BadNumber_ok Z) rfl rfl (fun a oe cls d pn hz hf => (ms_one (ms_set 4 (me_tup (ma_cons me_str (ma_cons (me_xf 6 .name hz hf) (ma_cons (me_xf 6 .value hz hf) (ma_cons (me_and (me_xi 6 hz hf (cv := .ref _) (u := .ref _) (fun _ h => h) (tk_WatchError_ok Z) (pe_cl rfl (Z.glo 67)) rfl (Z.free 23)) (me_one (me_not (me_xi 6 hz hf (cv := .ref _) (u := .ref _) (fun _ h => h) (tk_TooMany_ok Z) (pe_cl rfl (Z.glo 81)) rfl (Z.free 23))))) ma_nil))))) (hN := sc__law_made.nd)))) (HdsX.as (i := 7) ⟨rfl, by decide, .inl (Z.glo 81)⟩ (tx_TooMany_ok Z) rfl rfl (fun a oe cls d pn hz hf => (ms_one (ms_set 4 (me_tup (ma_cons me_str (ma_cons (me_xf 7 .name hz hf) (ma_cons (me_xf 7 .most hz hf) (ma_cons (me_and (me_xi 7 hz hf (cv := .ref _) (u := .ref _) (fun _ h => h) (tk_WatchError_ok Z) (pe_cl rfl (Z.glo 67)) rfl (Z.free 23)) (me_one (me_xi 7 hz hf (cv := .ty _) (u := .type _) (fun _ h => h) (tk_ValueError_ok Z) (pe_ty rfl (Z.free 74) (by kernel_rfl)) rfl (Z.free 23)))) ma_nil))))) (hN := sc__law_made.nd)))) HdsX.nil))))
    (ms_one (ms_ret hB (me_var 4)))))
theorem ok__law_made {T : Tk} (Z : ZX T) : Glo T 11 "_law_made" 4 m__law_made := by
  obtain ⟨fd, F⟩ := Z.def_ 25 (d := d__law_made)
  exact Z.fun_ (Z.glo 108) F.kp (FnM.of0 (fnD F sc__law_made (b__law_made Z _)) (F.bindsN fun _ _ _ _ _ _ us hl => match us, hl with | [_, _, _, _], _ => rfl))
theorem tt_int_ok {T : Tk} (Z : ZX T) : ∀ c, tt_int c = true → PySem.W.kitOne T.K (.ref (ca T.K c)) (.type "int") = some false := by
  intro c h
  unfold tt_int at h
  split at h
  · exact of_decide_eq_true (Z.fact 109)
  · exact of_decide_eq_true (Z.fact 110)
  · cases h
theorem tt_bool_ok {T : Tk} (Z : ZX T) : ∀ c, tt_bool c = true → PySem.W.kitOne T.K (.ref (ca T.K c)) (.type "bool") = some false := by
  intro c h
  unfold tt_bool at h
  split at h
  · exact of_decide_eq_true (Z.fact 111)
  · exact of_decide_eq_true (Z.fact 112)
  · cases h
def N__law_is_int : List Str := ["x"]
def kb__law_is_int : Nat := 0
theorem sc__law_is_int : FnScope N__law_is_int ["x"] (defScope st__law_is_int) := ⟨rfl, rfl, rfl, by decide +kernel, rfl, by decide +kernel, by decide +kernel⟩
theorem b__law_is_int {T : Tk} (Z : ZX T) (f : Addr) : BodyOk T kb__law_is_int N__law_is_int "_law_is_int" (defScope st__law_is_int) f (defBody st__law_is_int) o__law_is_int := fun cdv A outer s H E hr B hB =>
  have tk := takes_of (X := cxT T N__law_is_int "_law_is_int" (defScope st__law_is_int) f cdv A outer s H E) rfl rfl rfl rfl
  have hp := passes_of (X := cxT T N__law_is_int "_law_is_int" (defScope st__law_is_int) f cdv A outer s H E) rfl
  (ms_one (ms_ret hB (me_and (me_isi (isTy_ok (tt_int_ok Z)) (pe_ty rfl (Z.free 2) (by kernel_rfl)) (me_var 0) rfl (Z.free 23)) (me_one (me_not (me_isi (isTy_ok (tt_bool_ok Z)) (pe_ty rfl (Z.free 113) (by kernel_rfl)) (me_var 0) rfl (Z.free 23)))))))
theorem ok__law_is_int {T : Tk} (Z : ZX T) : Glo T 1 "_law_is_int" 1 m__law_is_int := by
  obtain ⟨fd, F⟩ := Z.def_ 26 (d := d__law_is_int)
  exact Z.fun_ (Z.glo 114) F.kp (FnM.of0 (fnD F sc__law_is_int (b__law_is_int Z _)) (F.bindsN fun _ _ _ _ _ _ us hl => match us, hl with | [_], _ => rfl))
def N_Ratio___eq__ : List Str := ["self", "other"]
def kb_Ratio___eq__ : Nat := 0
theorem sc_Ratio___eq__ : FnScope N_Ratio___eq__ ["self", "other"] (defScope st_Ratio___eq__) := ⟨rfl, rfl, rfl, by decide +kernel, rfl, by decide +kernel, by decide +kernel⟩
theorem b_Ratio___eq__ {T : Tk} (Z : ZX T) (f : Addr) : BodyOk T kb_Ratio___eq__ N_Ratio___eq__ "Ratio.__eq__" (defScope st_Ratio___eq__) f (defBody st_Ratio___eq__) o_Ratio___eq__ := fun cdv A outer s H E hr B hB =>
  have tk := takes_of (X := cxT T N_Ratio___eq__ "Ratio.__eq__" (defScope st_Ratio___eq__) f cdv A outer s H E) rfl rfl rfl rfl
  have hp := passes_of (X := cxT T N_Ratio___eq__ "Ratio.__eq__" (defScope st_Ratio___eq__) f cdv A outer s H E) rfl
  (ms_one (ms_ret hB (me_and (me_isi (isOwn_ok (Z.fact 26) (ti_Ratio_ok Z)) (pe_cl rfl (Z.glo 27)) (me_var 1) rfl (Z.free 23)) (me_and (me_cmp (op_eqP (hr.mono (by decide : 0 ≤ kb_Ratio___eq__)).units).m (me_fld .top (me_var 0)) me_stuck) (me_one (me_cmp (op_eqP (hr.mono (by decide : 0 ≤ kb_Ratio___eq__)).units).m (me_fld .under (me_var 0)) me_stuck))))))
theorem ok_Ratio___eq__ {T : Tk} (Z : ZX T) : FnM T 1 ((mA .Ratio "__eq__") T.K) 2 m_Ratio___eq__ := by
  obtain ⟨fd, F⟩ := Z.def_ 27 (d := d_Ratio___eq__)
  exact (FnM.of0 (fnD F sc_Ratio___eq__ (b_Ratio___eq__ Z _)) (F.bindsN fun _ _ _ _ _ _ us hl => match us, hl with | [_, _], _ => rfl))
theorem ti_Signal_ok {T : Tk} (Z : ZX T) : ∀ c b, ti_Signal c = some b → PySem.W.kitOne T.K (.ref (ca T.K c)) (.ref (He.ga T.K "Signal")) = some b := by
  intro c b h
  unfold ti_Signal at h
  split at h
  · cases h
    exact of_decide_eq_true (Z.fact 115)
  · cases h
    exact of_decide_eq_true (Z.fact 116)
  · cases h
theorem t_Eq_Ratio_ok {T : Tk} (Z : ZX T) : ∀ c g, t_Eq_Ratio c = some g → CmpF T 1 .Eq c g := by
  intro c g h
  unfold t_Eq_Ratio at h
  split at h
  · cases h
    exact cpB_ok (Z.fact 118) ((ok_Ratio___eq__ Z).mono (by decide : 1 ≤ 1))
  · cases h
theorem tt_str_ok {T : Tk} (Z : ZX T) : ∀ c, tt_str c = true → PySem.W.kitOne T.K (.ref (ca T.K c)) (.type "str") = some false := by
  intro c h
  unfold tt_str at h
  split at h
  · exact of_decide_eq_true (Z.fact 119)
  · exact of_decide_eq_true (Z.fact 120)
  · cases h
theorem tt_tuple_ok {T : Tk} (Z : ZX T) : ∀ c, tt_tuple c = true → PySem.W.kitOne T.K (.ref (ca T.K c)) (.type "tuple") = some false := by
  intro c h
  unfold tt_tuple at h
  split at h
  · exact of_decide_eq_true (Z.fact 122)
  · exact of_decide_eq_true (Z.fact 123)
  · cases h
theorem tt_list_ok {T : Tk} (Z : ZX T) : ∀ c, tt_list c = true → PySem.W.kitOne T.K (.ref (ca T.K c)) (.type "list") = some false := by
  intro c h
  unfold tt_list at h
  split at h
  · exact of_decide_eq_true (Z.fact 124)
  · exact of_decide_eq_true (Z.fact 125)
  · cases h
def N__law_same : List Str := ["got", "due", "k"]
def kb__law_same : Nat := 1
theorem sc__law_same : FnScope N__law_same ["got", "due"] (defScope st__law_same) := ⟨rfl, rfl, rfl, by decide +kernel, rfl, by decide +kernel, by decide +kernel⟩
theorem b__law_same {T : Tk} (Z : ZX T) (f : Addr) {r : List D → Res D} {kr : Nat} (hk : kb__law_same ≤ kr) (hrec : Glo T kr "_law_same" 2 r) : BodyOk T kr N__law_same "_law_same" (defScope st__law_same) f (defBody st__law_same) (o__law_same r) := fun cdv A outer s H E hr0 B hB =>
  have hr := hr0.mono hk
  have tk := takes_of (X := cxT T N__law_same "_law_same" (defScope st__law_same) f cdv A outer s H E) rfl rfl rfl rfl
  have hp := passes_of (X := cxT T N__law_same "_law_same" (defScope st__law_same) f cdv A outer s H E) rfl
  (mq_cons (ms_if (mt_cmp op_isP.m (me_var 1) me_non) (ms_one (ms_ret hB (me_cmp op_isP.m (me_var 0) me_non))) ms_nil)
    (mq_cons (ms_if (mt_cmp op_isP.m (me_var 1) me_bl) (ms_one (ms_ret hB (me_cmp op_isP.m (me_var 0) me_bl))) ms_nil)
    (mq_cons (ms_if (mt_cmp op_isP.m (me_var 1) me_bl) (ms_one (ms_ret hB (me_cmp op_isP.m (me_var 0) me_bl))) ms_nil)
    (mq_cons (ms_if (mt_val (me_isi (isTy_ok (tt_int_ok Z)) (pe_ty rfl (Z.free 2) (by kernel_rfl)) (me_var 1) rfl (Z.free 23))) (ms_one (ms_ret hB (me_and (me_call (ok__law_is_int Z) tk (hr.mono (by decide : 1 ≤ kb__law_same)) rfl (ma_cons (me_var 0) ma_nil) (mLen_cons mLen_nil)) (me_one (me_cmp (op_ownC cmp_eq (op_eqP (hr.mono (by decide : 0 ≤ kb__law_same)).units).m (t_Eq_Ratio_ok Z) tk (hr.mono (by decide : 1 ≤ kb__law_same))) (me_var 0) (me_var 1)))))) ms_nil)
    (mq_cons (ms_if (mt_val (me_isi (isTy_ok (tt_str_ok Z)) (pe_ty rfl (Z.free 121) (by kernel_rfl)) (me_var 1) rfl (Z.free 23))) (ms_one (ms_ret hB (me_and (me_isi (isTy_ok (tt_str_ok Z)) (pe_ty rfl (Z.free 121) (by kernel_rfl)) (me_var 0) rfl (Z.free 23)) (me_one (me_cmp (op_eqP (hr.mono (by decide : 0 ≤ kb__law_same)).units).m (me_var 0) (me_var 1)))))) ms_nil)
    (mq_cons (ms_if (mt_val (me_isi (isTy_ok (tt_tuple_ok Z)) (pe_ty rfl (Z.free 39) (by kernel_rfl)) (me_var 1) rfl (Z.free 23))) (ms_one (ms_if (mt_w (mw_or (mt_not (mt_val (me_isi (isTy_ok (tt_tuple_ok Z)) (pe_ty rfl (Z.free 39) (by kernel_rfl)) (me_var 0) rfl (Z.free 23)))) (mw_or1 (mt_cmp (op_neP (hr.mono (by decide : 0 ≤ kb__law_same)).units).m (me_callB call_lenD rfl (Z.free 0) (by kernel_rfl) (ma_cons (me_var 0) ma_nil)) (me_callB call_lenD rfl (Z.free 0) (by kernel_rfl) (ma_cons (me_var 1) ma_nil)))))) (ms_one (ms_ret hB me_bl)) ms_nil)) (ms_one (ms_if (mt_w (mw_or (mt_not (mt_val (me_isi (isTy_ok (tt_list_ok Z)) (pe_ty rfl (Z.free 7) (by kernel_rfl)) (me_var 0) rfl (Z.free 23)))) (mw_or1 (mt_cmp (op_neP (hr.mono (by decide : 0 ≤ kb__law_same)).units).m (me_callB call_lenD rfl (Z.free 0) (by kernel_rfl) (ma_cons (me_var 0) ma_nil)) (me_callB call_lenD rfl (Z.free 0) (by kernel_rfl) (ma_cons (me_var 1) ma_nil)))))) (ms_one (ms_ret hB me_bl)) ms_nil)))
    (mq_cons (ms_for rfl hp (ip_range1 (ma_cons (me_callB call_lenD rfl (Z.free 0) (by kernel_rfl) (ma_cons (me_var 1) ma_nil)) ma_nil) rfl (Z.free 1)) (gp_name 2 (hN := sc__law_same.nd)) (fun _ hq => have hB := hq.trans hB; (ms_one (ms_if (mt_not (mt_val (me_call hrec tk hr0 rfl (ma_cons (me_ix ix_D (me_var 0) (me_var 2)) (ma_cons (me_ix ix_D (me_var 1) (me_var 2)) ma_nil)) (mLen_cons (mLen_cons mLen_nil))))) (ms_one (ms_ret hB me_bl)) ms_nil))))
    (ms_one (ms_ret hB me_bl)))))))))
theorem okr__law_same {T : Tk} (Z : ZX T) : ∀ n, Glo T (kb__law_same + n) "_law_same" 2 (mr__law_same n)
  | 0 => by
    obtain ⟨fd, F⟩ := Z.def_ 28 (d := d__law_same)
    exact Z.fun_ (Z.glo 126) F.kp (FnM.none _)
  | i + 1 => by
    obtain ⟨fd, F⟩ := Z.def_ 28 (d := d__law_same)
    exact Z.fun_ (Z.glo 126) F.kp (FnM.of0 (fnD F sc__law_same (b__law_same Z _ (Nat.le_add_right _ _) (okr__law_same Z i))) (F.bindsN fun _ _ _ _ _ _ us hl => match us, hl with | [_, _], _ => rfl))
theorem ok__law_same {T : Tk} (Z : ZX T) : Glo T 9 "_law_same" 2 m__law_same := okr__law_same Z 8
def N__law_garbled : List Str := ["table", "scale", "other", "under", "found", "row", "line", "k", "j"]
def kb__law_garbled : Nat := 0
theorem sc__law_garbled : FnScope N__law_garbled ["table", "scale", "other", "under"] (defScope st__law_garbled) := ⟨rfl, rfl, rfl, by decide +kernel, rfl, by decide +kernel, by decide +kernel⟩
theorem b__law_garbled {T : Tk} (Z : ZX T) (f : Addr) : BodyOk T kb__law_garbled N__law_garbled "_law_garbled" (defScope st__law_garbled) f (defBody st__law_garbled) o__law_garbled := fun cdv A outer s H E hr B hB =>
  have tk := takes_of (X := cxT T N__law_garbled "_law_garbled" (defScope st__law_garbled) f cdv A outer s H E) rfl rfl rfl rfl
  have hp := passes_of (X := cxT T N__law_garbled "_law_garbled" (defScope st__law_garbled) f cdv A outer s H E) rfl
  (mq_cons (ms_setF 4 (mf_lst ma_nil) (hN := sc__law_garbled.nd))
    (mq_cons (ms_for rfl hp (ip_seq (me_var 0)) (gp_name 5 (hN := sc__law_garbled.nd)) (fun _ hq => have hB := hq.trans hB; (mq_cons (ms_setF 6 (mf_lst ma_nil) (hN := sc__law_garbled.nd))
    (mq_cons (ms_for rfl hp (ip_range1 (ma_cons (me_callB call_lenD rfl (Z.free 0) (by kernel_rfl) (ma_cons (me_ix ix_D (me_var 2) me_int) ma_nil)) ma_nil) rfl (Z.free 1)) (gp_name 7 (hN := sc__law_garbled.nd)) (fun _ hq => have hB := hq.trans hB; (ms_one (ms_app 6 (me_callB (call_sumD rfl) rfl (Z.free 6) (by kernel_rfl) (ma_cons (me_fresh (mf_lc (own := [("j", 8)]) rfl (blkOk_by (by kernel_rfl)) (ip_range1 (ma_cons (me_callB call_lenD rfl (Z.free 0) (by kernel_rfl) (ma_cons (me_var 5) ma_nil)) ma_nil) rfl (Z.free 1)) (fun _ _ _ _ _ => (gp_name 8 (hN := sc__law_garbled.nd))) (fun _ _ _ _ _ => mts_nil) (fun _ _ _ _ _ => (me_op op_mulD.m (me_ix ix_D (me_var 5) (me_var 8)) (me_ix ix_D (me_ix ix_D (me_var 2) (me_var 8)) (me_var 7)))) (hN := sc__law_garbled.nd))) ma_nil))))))
    (mq_frz 6 (ms_one (ms_app 4 (me_var 6))))))))
    (mq_frz 4 (ms_one (ms_ret hB (me_tup (ma_cons (me_var 4) (ma_cons (me_op op_mulD.m (me_var 1) (me_var 3)) ma_nil))))))))
theorem ok__law_garbled {T : Tk} (Z : ZX T) : Glo T 1 "_law_garbled" 4 m__law_garbled := by
  obtain ⟨fd, F⟩ := Z.def_ 29 (d := d__law_garbled)
  exact Z.fun_ (Z.glo 127) F.kp (FnM.of0 (fnD F sc__law_garbled (b__law_garbled Z _)) (F.bindsN fun _ _ _ _ _ _ us hl => match us, hl with | [_, _, _, _], _ => rfl))
def N__law_is_ratio : List Str := ["x"]
def kb__law_is_ratio : Nat := 1
theorem sc__law_is_ratio : FnScope N__law_is_ratio ["x"] (defScope st__law_is_ratio) := ⟨rfl, rfl, rfl, by decide +kernel, rfl, by decide +kernel, by decide +kernel⟩
theorem b__law_is_ratio {T : Tk} (Z : ZX T) (f : Addr) : BodyOk T kb__law_is_ratio N__law_is_ratio "_law_is_ratio" (defScope st__law_is_ratio) f (defBody st__law_is_ratio) o__law_is_ratio := fun cdv A outer s H E hr B hB =>
  have tk := takes_of (X := cxT T N__law_is_ratio "_law_is_ratio" (defScope st__law_is_ratio) f cdv A outer s H E) rfl rfl rfl rfl
  have hp := passes_of (X := cxT T N__law_is_ratio "_law_is_ratio" (defScope st__law_is_ratio) f cdv A outer s H E) rfl
  (mq_cons (ms_if (mt_w (mw_or (mt_not (mt_val (me_isi (isOwn_ok (Z.fact 26) (ti_Ratio_ok Z)) (pe_cl rfl (Z.glo 27)) (me_var 0) rfl (Z.free 23)))) (mw_or (mt_not (mt_val (me_call (ok__law_is_int Z) tk (hr.mono (by decide : 1 ≤ kb__law_is_ratio)) rfl (ma_cons (me_fld .top (me_var 0)) ma_nil) (mLen_cons mLen_nil)))) (mw_or1 (mt_not (mt_val (me_call (ok__law_is_int Z) tk (hr.mono (by decide : 1 ≤ kb__law_is_ratio)) rfl (ma_cons (me_fld .under (me_var 0)) ma_nil) (mLen_cons mLen_nil)))))))) (ms_one (ms_ret hB me_bl)) ms_nil)
    (ms_one (ms_ret hB (me_and (me_cmp op_geD.m (me_fld .under (me_var 0)) me_int) (me_one (me_cmp (op_eqP (hr.mono (by decide : 0 ≤ kb__law_is_ratio)).units).m (me_call (ok__law_gcd Z) tk (hr.mono (by decide : 1 ≤ kb__law_is_ratio)) rfl (ma_cons (me_fld .top (me_var 0)) (ma_cons (me_fld .under (me_var 0)) ma_nil)) (mLen_cons (mLen_cons mLen_nil))) me_int))))))
theorem ok__law_is_ratio {T : Tk} (Z : ZX T) : Glo T 2 "_law_is_ratio" 1 m__law_is_ratio := by
  obtain ⟨fd, F⟩ := Z.def_ 30 (d := d__law_is_ratio)
  exact Z.fun_ (Z.glo 128) F.kp (FnM.of0 (fnD F sc__law_is_ratio (b__law_is_ratio Z _)) (F.bindsN fun _ _ _ _ _ _ us hl => match us, hl with | [_], _ => rfl))
def N__law_worth : List Str := ["x", "top", "under"]
def kb__law_worth : Nat := 2
theorem sc__law_worth : FnScope N__law_worth ["x", "top", "under"] (defScope st__law_worth) := ⟨rfl, rfl, rfl, by decide +kernel, rfl, by decide +kernel, by decide +kernel⟩
theorem b__law_worth {T : Tk} (Z : ZX T) (f : Addr) : BodyOk T kb__law_worth N__law_worth "_law_worth" (defScope st__law_worth) f (defBody st__law_worth) o__law_worth := fun cdv A outer s H E hr B hB =>
  have tk := takes_of (X := cxT T N__law_worth "_law_worth" (defScope st__law_worth) f cdv A outer s H E) rfl rfl rfl rfl
  have hp := passes_of (X := cxT T N__law_worth "_law_worth" (defScope st__law_worth) f cdv A outer s H E) rfl
  (ms_one (ms_ret hB (me_and (me_call (ok__law_is_ratio Z) tk (hr.mono (by decide : 2 ≤ kb__law_worth)) rfl (ma_cons (me_var 0) ma_nil) (mLen_cons mLen_nil)) (me_one (me_cmp (op_eqP (hr.mono (by decide : 0 ≤ kb__law_worth)).units).m (me_op op_mulD.m (me_fld .top (me_var 0)) (me_var 2)) (me_op op_mulD.m (me_var 1) (me_fld .under (me_var 0))))))))
theorem ok__law_worth {T : Tk} (Z : ZX T) : Glo T 3 "_law_worth" 3 m__law_worth := by
  obtain ⟨fd, F⟩ := Z.def_ 31 (d := d__law_worth)
  exact Z.fun_ (Z.glo 129) F.kp (FnM.of0 (fnD F sc__law_worth (b__law_worth Z _)) (F.bindsN fun _ _ _ _ _ _ us hl => match us, hl with | [_, _, _], _ => rfl))
def N__law_signal_is : List Str := ["signal", "table", "scale", "told", "i", "j"]
def kb__law_signal_is : Nat := 9
theorem sc__law_signal_is : FnScope N__law_signal_is ["signal", "table", "scale"] (defScope st__law_signal_is) := ⟨rfl, rfl, rfl, by decide +kernel, rfl, by decide +kernel, by decide +kernel⟩
theorem b__law_signal_is {T : Tk} (Z : ZX T) (f : Addr) : BodyOk T kb__law_signal_is N__law_signal_is "_law_signal_is" (defScope st__law_signal_is) f (defBody st__law_signal_is) o__law_signal_is := fun cdv A outer s H E hr B hB =>
  have tk := takes_of (X := cxT T N__law_signal_is "_law_signal_is" (defScope st__law_signal_is) f cdv A outer s H E) rfl rfl rfl rfl
  have hp := passes_of (X := cxT T N__law_signal_is "_law_signal_is" (defScope st__law_signal_is) f cdv A outer s H E) rfl
  (mq_cons (ms_if (mt_w (mw_or (mt_not (mt_val (me_isi (isOwn_ok (Z.fact 117) (ti_Signal_ok Z)) (pe_cl rfl (Z.glo 46)) (me_var 0) rfl (Z.free 23)))) (mw_or1 (mt_not (mt_val (me_call (ok__law_same Z) tk (hr.mono (by decide : 9 ≤ kb__law_signal_is)) rfl (ma_cons (me_fld .states (me_var 0)) (ma_cons (me_callB call_lenD rfl (Z.free 0) (by kernel_rfl) (ma_cons (me_var 1) ma_nil)) ma_nil)) (mLen_cons (mLen_cons mLen_nil)))))))) (ms_one (ms_ret hB me_bl)) ms_nil)
    (mq_cons (ms_if (mt_not (mt_val (me_call (ok__law_same Z) tk (hr.mono (by decide : 9 ≤ kb__law_signal_is)) rfl (ma_cons (me_fld .outcomes (me_var 0)) (ma_cons (me_callB call_lenD rfl (Z.free 0) (by kernel_rfl) (ma_cons (me_ix ix_D (me_var 1) me_int) ma_nil)) ma_nil)) (mLen_cons (mLen_cons mLen_nil))))) (ms_one (ms_ret hB me_bl)) ms_nil)
    (mq_cons (ms_set 3 (me_attr (n := none) (fun _ h => by cases h) (t_rows_Signal_ok Z) (hr.mono (by decide : 2 ≤ kb__law_signal_is)) (me_var 0)) (hN := sc__law_signal_is.nd))
    (mq_cons (ms_if (mt_w (mw_or (mt_not (mt_val (me_isi (isTy_ok (tt_list_ok Z)) (pe_ty rfl (Z.free 7) (by kernel_rfl)) (me_var 3) rfl (Z.free 23)))) (mw_or1 (mt_cmp (op_neP (hr.mono (by decide : 0 ≤ kb__law_signal_is)).units).m (me_callB call_lenD rfl (Z.free 0) (by kernel_rfl) (ma_cons (me_var 3) ma_nil)) (me_callB call_lenD rfl (Z.free 0) (by kernel_rfl) (ma_cons (me_var 1) ma_nil)))))) (ms_one (ms_ret hB me_bl)) ms_nil)
    (mq_cons (ms_for rfl hp (ip_range1 (ma_cons (me_callB call_lenD rfl (Z.free 0) (by kernel_rfl) (ma_cons (me_var 1) ma_nil)) ma_nil) rfl (Z.free 1)) (gp_name 4 (hN := sc__law_signal_is.nd)) (fun _ hq => have hB := hq.trans hB; (mq_cons (ms_if (mt_w (mw_or (mt_not (mt_val (me_isi (isTy_ok (tt_list_ok Z)) (pe_ty rfl (Z.free 7) (by kernel_rfl)) (me_ix ix_D (me_var 3) (me_var 4)) rfl (Z.free 23)))) (mw_or1 (mt_cmp (op_neP (hr.mono (by decide : 0 ≤ kb__law_signal_is)).units).m (me_callB call_lenD rfl (Z.free 0) (by kernel_rfl) (ma_cons (me_ix ix_D (me_var 3) (me_var 4)) ma_nil)) (me_callB call_lenD rfl (Z.free 0) (by kernel_rfl) (ma_cons (me_ix ix_D (me_var 1) me_int) ma_nil)))))) (ms_one (ms_ret hB me_bl)) ms_nil)
    (ms_one (ms_for rfl hp (ip_range1 (ma_cons (me_callB call_lenD rfl (Z.free 0) (by kernel_rfl) (ma_cons (me_ix ix_D (me_var 1) me_int) ma_nil)) ma_nil) rfl (Z.free 1)) (gp_name 5 (hN := sc__law_signal_is.nd)) (fun _ hq => have hB := hq.trans hB; (ms_one (ms_if (mt_w (mw_or (mt_not (mt_val (me_call (ok__law_worth Z) tk (hr.mono (by decide : 3 ≤ kb__law_signal_is)) rfl (ma_cons (me_ix ix_D (me_ix ix_D (me_var 3) (me_var 4)) (me_var 5)) (ma_cons (me_ix ix_D (me_ix ix_D (me_var 1) (me_var 4)) (me_var 5)) (ma_cons (me_var 2) ma_nil))) (mLen_cons (mLen_cons (mLen_cons mLen_nil)))))) (mw_or1 (mt_not (mt_val (me_call (ok__law_worth Z) tk (hr.mono (by decide : 3 ≤ kb__law_signal_is)) rfl (ma_cons (me_ix (ix_O (t_ix_Signal_ok Z) tk (hr.mono (by decide : 2 ≤ kb__law_signal_is))) (me_var 0) (me_tup (ma_cons (me_var 4) (ma_cons (me_var 5) ma_nil)))) (ma_cons (me_ix ix_D (me_ix ix_D (me_var 1) (me_var 4)) (me_var 5)) (ma_cons (me_var 2) ma_nil))) (mLen_cons (mLen_cons (mLen_cons mLen_nil))))))))) (ms_one (ms_ret hB me_bl)) ms_nil))))))))
    (ms_one (ms_ret hB me_bl)))))))
theorem ok__law_signal_is {T : Tk} (Z : ZX T) : Glo T 10 "_law_signal_is" 3 m__law_signal_is := by
  obtain ⟨fd, F⟩ := Z.def_ 32 (d := d__law_signal_is)
  exact Z.fun_ (Z.glo 130) F.kp (FnM.of0 (fnD F sc__law_signal_is (b__law_signal_is Z _)) (F.bindsN fun _ _ _ _ _ _ us hl => match us, hl with | [_, _, _], _ => rfl))
def N__law_garbles : List Str := ["one", "two", "first", "second", "found", "table", "scale"]
def kb__law_garbles : Nat := 11
theorem sc__law_garbles : FnScope N__law_garbles ["one", "two", "first", "second"] (defScope st__law_garbles) := ⟨rfl, rfl, rfl, by decide +kernel, rfl, by decide +kernel, by decide +kernel⟩
theorem b__law_garbles {T : Tk} (Z : ZX T) (f : Addr) : BodyOk T kb__law_garbles N__law_garbles "_law_garbles" (defScope st__law_garbles) f (defBody st__law_garbles) o__law_garbles := fun cdv A outer s H E hr B hB =>
  have tk := takes_of (X := cxT T N__law_garbles "_law_garbles" (defScope st__law_garbles) f cdv A outer s H E) rfl rfl rfl rfl
  have hp := passes_of (X := cxT T N__law_garbles "_law_garbles" (defScope st__law_garbles) f cdv A outer s H E) rfl
  (mq_cons (ms_set 4 (me_call (ok__law_made Z) tk (hr.mono (by decide : 11 ≤ kb__law_garbles)) rfl (ma_cons me_int (ma_cons (me_var 0) (ma_cons (me_var 1) (ma_cons me_int ma_nil)))) (mLen_cons (mLen_cons (mLen_cons (mLen_cons mLen_nil))))) (hN := sc__law_garbles.nd))
    (mq_cons (ms_if (mt_cmp (op_neP (hr.mono (by decide : 0 ≤ kb__law_garbles)).units).m (me_callB call_lenD rfl (Z.free 0) (by kernel_rfl) (ma_cons (me_ix ix_D (me_var 3) me_int) ma_nil)) (me_callB call_lenD rfl (Z.free 0) (by kernel_rfl) (ma_cons (me_ix ix_D (me_ix ix_D (me_var 2) me_int) me_int) ma_nil))) (ms_one (ms_ret hB (me_call (ok__law_same Z) tk (hr.mono (by decide : 9 ≤ kb__law_garbles)) rfl (ma_cons (me_var 4) (ma_cons (me_tup (ma_cons me_str (ma_cons (me_callB call_lenD rfl (Z.free 0) (by kernel_rfl) (ma_cons (me_ix ix_D (me_var 3) me_int) ma_nil)) (ma_cons me_bl ma_nil)))) ma_nil)) (mLen_cons (mLen_cons mLen_nil))))) ms_nil)
    (mq_cons (ms_asg (gp_tup rfl (gp_cons (gp_name 5 (hN := sc__law_garbles.nd)) (gp_cons (gp_name 6 (hN := sc__law_garbles.nd)) gp_nil))) (me_call (ok__law_garbled Z) tk (hr.mono (by decide : 1 ≤ kb__law_garbles)) rfl (ma_cons (me_ix ix_D (me_var 2) me_int) (ma_cons (me_ix ix_D (me_var 2) me_int) (ma_cons (me_ix ix_D (me_var 3) me_int) (ma_cons (me_ix ix_D (me_var 3) me_int) ma_nil)))) (mLen_cons (mLen_cons (mLen_cons (mLen_cons mLen_nil))))))
    (ms_one (ms_ret hB (me_call (ok__law_signal_is Z) tk (hr.mono (by decide : 10 ≤ kb__law_garbles)) rfl (ma_cons (me_var 4) (ma_cons (me_var 5) (ma_cons (me_var 6) ma_nil))) (mLen_cons (mLen_cons (mLen_cons mLen_nil)))))))))
theorem ok__law_garbles {T : Tk} (Z : ZX T) : Glo T 12 "_law_garbles" 4 m__law_garbles := by
  obtain ⟨fd, F⟩ := Z.def_ 33 (d := d__law_garbles)
  exact Z.fun_ (Z.glo 131) F.kp (FnM.of0 (fnD F sc__law_garbles (b__law_garbles Z _)) (F.bindsN fun _ _ _ _ _ _ us hl => match us, hl with | [_, _, _, _], _ => rfl))
def N__law_both : List Str := ["table", "scale", "other", "under", "found", "i", "line", "x", "y"]
def kb__law_both : Nat := 0
theorem sc__law_both : FnScope N__law_both ["table", "scale", "other", "under"] (defScope st__law_both) := ⟨rfl, rfl, rfl, by decide +kernel, rfl, by decide +kernel, by decide +kernel⟩
theorem b__law_both {T : Tk} (Z : ZX T) (f : Addr) : BodyOk T kb__law_both N__law_both "_law_both" (defScope st__law_both) f (defBody st__law_both) o__law_both := fun cdv A outer s H E hr B hB =>
  have tk := takes_of (X := cxT T N__law_both "_law_both" (defScope st__law_both) f cdv A outer s H E) rfl rfl rfl rfl
  have hp := passes_of (X := cxT T N__law_both "_law_both" (defScope st__law_both) f cdv A outer s H E) rfl
  (mq_cons (ms_setF 4 (mf_lst ma_nil) (hN := sc__law_both.nd))
    (mq_cons (ms_for rfl hp (ip_range1 (ma_cons (me_callB call_lenD rfl (Z.free 0) (by kernel_rfl) (ma_cons (me_var 0) ma_nil)) ma_nil) rfl (Z.free 1)) (gp_name 5 (hN := sc__law_both.nd)) (fun _ hq => have hB := hq.trans hB; (mq_cons (ms_set 6 (me_fresh (mf_lst ma_nil)) (hN := sc__law_both.nd))
    (mq_cons (ms_for rfl hp (ip_seq (me_ix ix_D (me_var 0) (me_var 5))) (gp_name 7 (hN := sc__law_both.nd)) (fun _ hq => have hB := hq.trans hB; (ms_one (ms_set 6 (me_fresh (mf_cat (me_var 6) (me_fresh (mf_lc (own := [("y", 8)]) rfl (blkOk_by (by kernel_rfl)) (ip_seq (me_ix ix_D (me_var 2) (me_var 5))) (fun _ _ _ _ _ => (gp_name 8 (hN := sc__law_both.nd))) (fun _ _ _ _ _ => mts_nil) (fun _ _ _ _ _ => (me_op op_mulD.m (me_var 7) (me_var 8))) (hN := sc__law_both.nd))))) (hN := sc__law_both.nd)))))
    (ms_one (ms_app 4 (me_var 6)))))))
    (mq_frz 4 (ms_one (ms_ret hB (me_tup (ma_cons (me_var 4) (ma_cons (me_op op_mulD.m (me_var 1) (me_var 3)) ma_nil))))))))
theorem ok__law_both {T : Tk} (Z : ZX T) : Glo T 1 "_law_both" 4 m__law_both := by
  obtain ⟨fd, F⟩ := Z.def_ 34 (d := d__law_both)
  exact Z.fun_ (Z.glo 132) F.kp (FnM.of0 (fnD F sc__law_both (b__law_both Z _)) (F.bindsN fun _ _ _ _ _ _ us hl => match us, hl with | [_, _, _, _], _ => rfl))
def N__law_hears_both : List Str := ["one", "two", "first", "second", "found", "table", "scale"]
def kb__law_hears_both : Nat := 11
theorem sc__law_hears_both : FnScope N__law_hears_both ["one", "two", "first", "second"] (defScope st__law_hears_both) := ⟨rfl, rfl, rfl, by decide +kernel, rfl, by decide +kernel, by decide +kernel⟩
theorem b__law_hears_both {T : Tk} (Z : ZX T) (f : Addr) : BodyOk T kb__law_hears_both N__law_hears_both "_law_hears_both" (defScope st__law_hears_both) f (defBody st__law_hears_both) o__law_hears_both := fun cdv A outer s H E hr B hB =>
  have tk := takes_of (X := cxT T N__law_hears_both "_law_hears_both" (defScope st__law_hears_both) f cdv A outer s H E) rfl rfl rfl rfl
  have hp := passes_of (X := cxT T N__law_hears_both "_law_hears_both" (defScope st__law_hears_both) f cdv A outer s H E) rfl
  (mq_cons (ms_set 4 (me_call (ok__law_made Z) tk (hr.mono (by decide : 11 ≤ kb__law_hears_both)) rfl (ma_cons me_int (ma_cons (me_var 0) (ma_cons (me_var 1) (ma_cons me_int ma_nil)))) (mLen_cons (mLen_cons (mLen_cons (mLen_cons mLen_nil))))) (hN := sc__law_hears_both.nd))
    (mq_cons (ms_if (mt_cmp (op_neP (hr.mono (by decide : 0 ≤ kb__law_hears_both)).units).m (me_callB call_lenD rfl (Z.free 0) (by kernel_rfl) (ma_cons (me_ix ix_D (me_var 3) me_int) ma_nil)) (me_callB call_lenD rfl (Z.free 0) (by kernel_rfl) (ma_cons (me_ix ix_D (me_var 2) me_int) ma_nil))) (ms_one (ms_ret hB (me_call (ok__law_same Z) tk (hr.mono (by decide : 9 ≤ kb__law_hears_both)) rfl (ma_cons (me_var 4) (ma_cons (me_tup (ma_cons me_str (ma_cons (me_callB call_lenD rfl (Z.free 0) (by kernel_rfl) (ma_cons (me_ix ix_D (me_var 3) me_int) ma_nil)) (ma_cons me_bl ma_nil)))) ma_nil)) (mLen_cons (mLen_cons mLen_nil))))) ms_nil)
    (mq_cons (ms_if (mt_cmp op_gtD.m (me_op op_mulD.m (me_callB call_lenD rfl (Z.free 0) (by kernel_rfl) (ma_cons (me_ix ix_D (me_ix ix_D (me_var 2) me_int) me_int) ma_nil)) (me_callB call_lenD rfl (Z.free 0) (by kernel_rfl) (ma_cons (me_ix ix_D (me_ix ix_D (me_var 3) me_int) me_int) ma_nil))) me_int) (ms_one (ms_ret hB (me_call (ok__law_same Z) tk (hr.mono (by decide : 9 ≤ kb__law_hears_both)) rfl (ma_cons (me_var 4) (ma_cons (me_tup (ma_cons me_str (ma_cons me_str (ma_cons me_int (ma_cons me_bl ma_nil))))) ma_nil)) (mLen_cons (mLen_cons mLen_nil))))) ms_nil)
    (mq_cons (ms_asg (gp_tup rfl (gp_cons (gp_name 5 (hN := sc__law_hears_both.nd)) (gp_cons (gp_name 6 (hN := sc__law_hears_both.nd)) gp_nil))) (me_call (ok__law_both Z) tk (hr.mono (by decide : 1 ≤ kb__law_hears_both)) rfl (ma_cons (me_ix ix_D (me_var 2) me_int) (ma_cons (me_ix ix_D (me_var 2) me_int) (ma_cons (me_ix ix_D (me_var 3) me_int) (ma_cons (me_ix ix_D (me_var 3) me_int) ma_nil)))) (mLen_cons (mLen_cons (mLen_cons (mLen_cons mLen_nil))))))
    (ms_one (ms_ret hB (me_call (ok__law_signal_is Z) tk (hr.mono (by decide : 10 ≤ kb__law_hears_both)) rfl (ma_cons (me_var 4) (ma_cons (me_var 5) (ma_cons (me_var 6) ma_nil))) (mLen_cons (mLen_cons (mLen_cons mLen_nil))))))))))
theorem ok__law_hears_both {T : Tk} (Z : ZX T) : Glo T 12 "_law_hears_both" 4 m__law_hears_both := by
  obtain ⟨fd, F⟩ := Z.def_ 35 (d := d__law_hears_both)
  exact Z.fun_ (Z.glo 133) F.kp (FnM.of0 (fnD F sc__law_hears_both (b__law_hears_both Z _)) (F.bindsN fun _ _ _ _ _ _ us hl => match us, hl with | [_, _, _, _], _ => rfl))
def N__law_number_is : List Str := ["x", "top", "under"]
def kb__law_number_is : Nat := 3
theorem sc__law_number_is : FnScope N__law_number_is ["x", "top", "under"] (defScope st__law_number_is) := ⟨rfl, rfl, rfl, by decide +kernel, rfl, by decide +kernel, by decide +kernel⟩
theorem b__law_number_is {T : Tk} (Z : ZX T) (f : Addr) : BodyOk T kb__law_number_is N__law_number_is "_law_number_is" (defScope st__law_number_is) f (defBody st__law_number_is) o__law_number_is := fun cdv A outer s H E hr B hB =>
  have tk := takes_of (X := cxT T N__law_number_is "_law_number_is" (defScope st__law_number_is) f cdv A outer s H E) rfl rfl rfl rfl
  have hp := passes_of (X := cxT T N__law_number_is "_law_number_is" (defScope st__law_number_is) f cdv A outer s H E) rfl
  (mq_cons (ms_if (mt_val (me_isi (isOwn_ok (Z.fact 26) (ti_Ratio_ok Z)) (pe_cl rfl (Z.glo 27)) (me_var 0) rfl (Z.free 23))) (ms_one (ms_ret hB (me_call (ok__law_worth Z) tk (hr.mono (by decide : 3 ≤ kb__law_number_is)) rfl (ma_cons (me_var 0) (ma_cons (me_var 1) (ma_cons (me_var 2) ma_nil))) (mLen_cons (mLen_cons (mLen_cons mLen_nil)))))) ms_nil)
    (ms_one (ms_ret hB (me_and (me_call (ok__law_is_int Z) tk (hr.mono (by decide : 1 ≤ kb__law_number_is)) rfl (ma_cons (me_var 0) ma_nil) (mLen_cons mLen_nil)) (me_one (me_cmp (op_eqP (hr.mono (by decide : 0 ≤ kb__law_number_is)).units).m (me_op op_mulD.m (me_var 0) (me_var 2)) (me_var 1)))))))
theorem ok__law_number_is {T : Tk} (Z : ZX T) : Glo T 4 "_law_number_is" 3 m__law_number_is := by
  obtain ⟨fd, F⟩ := Z.def_ 36 (d := d__law_number_is)
  exact Z.fun_ (Z.glo 134) F.kp (FnM.of0 (fnD F sc__law_number_is (b__law_number_is Z _)) (F.bindsN fun _ _ _ _ _ _ us hl => match us, hl with | [_, _, _], _ => rfl))
def N__law_is_blended : List Str := ["one", "two", "first", "second", "share", "passed", "found", "table", "i", "left", "x"]
def kb__law_is_blended : Nat := 11
theorem sc__law_is_blended : FnScope N__law_is_blended ["one", "two", "first", "second", "share", "passed"] (defScope st__law_is_blended) := ⟨rfl, rfl, rfl, by decide +kernel, rfl, by decide +kernel, by decide +kernel⟩
theorem b__law_is_blended {T : Tk} (Z : ZX T) (f : Addr) : BodyOk T kb__law_is_blended N__law_is_blended "_law_is_blended" (defScope st__law_is_blended) f (defBody st__law_is_blended) o__law_is_blended := fun cdv A outer s H E hr B hB =>
  have tk := takes_of (X := cxT T N__law_is_blended "_law_is_blended" (defScope st__law_is_blended) f cdv A outer s H E) rfl rfl rfl rfl
  have hp := passes_of (X := cxT T N__law_is_blended "_law_is_blended" (defScope st__law_is_blended) f cdv A outer s H E) rfl
  (mq_cons (ms_set 6 (me_call (ok__law_made Z) tk (hr.mono (by decide : 11 ≤ kb__law_is_blended)) rfl (ma_cons me_int (ma_cons (me_var 0) (ma_cons (me_var 1) (ma_cons (me_var 5) ma_nil)))) (mLen_cons (mLen_cons (mLen_cons (mLen_cons mLen_nil))))) (hN := sc__law_is_blended.nd))
    (mq_cons (ms_if (mt_cmp (op_neP (hr.mono (by decide : 0 ≤ kb__law_is_blended)).units).m (me_callB call_lenD rfl (Z.free 0) (by kernel_rfl) (ma_cons (me_ix ix_D (me_var 3) me_int) ma_nil)) (me_callB call_lenD rfl (Z.free 0) (by kernel_rfl) (ma_cons (me_ix ix_D (me_var 2) me_int) ma_nil))) (ms_one (ms_ret hB (me_call (ok__law_same Z) tk (hr.mono (by decide : 9 ≤ kb__law_is_blended)) rfl (ma_cons (me_var 6) (ma_cons (me_tup (ma_cons me_str (ma_cons (me_callB call_lenD rfl (Z.free 0) (by kernel_rfl) (ma_cons (me_ix ix_D (me_var 3) me_int) ma_nil)) (ma_cons me_bl ma_nil)))) ma_nil)) (mLen_cons (mLen_cons mLen_nil))))) ms_nil)
    (mq_cons (ms_if (mt_w (mw_or (mt_cmp op_ltD.m (me_ix ix_D (me_var 4) me_int) me_int) (mw_or1 (mt_cmp op_gtD.m (me_ix ix_D (me_var 4) me_int) (me_ix ix_D (me_var 4) me_int))))) (mq_cons (ms_if (mt_w (mw_or (mt_not (mt_val (me_isi (isTy_ok (tt_tuple_ok Z)) (pe_ty rfl (Z.free 39) (by kernel_rfl)) (me_var 6) rfl (Z.free 23)))) (mw_or (mt_cmp (op_neP (hr.mono (by decide : 0 ≤ kb__law_is_blended)).units).m (me_callB call_lenD rfl (Z.free 0) (by kernel_rfl) (ma_cons (me_var 6) ma_nil)) me_int) (mw_or (mt_cmp (op_neP (hr.mono (by decide : 0 ≤ kb__law_is_blended)).units).m (me_ix ix_D (me_var 6) me_int) me_str) (mw_or1 (mt_cmp (op_neP (hr.mono (by decide : 0 ≤ kb__law_is_blended)).units).m (me_ix ix_D (me_var 6) me_int) me_str)))))) (ms_one (ms_ret hB me_bl)) ms_nil)
    (ms_one (ms_ret hB (me_and (me_call (ok__law_number_is Z) tk (hr.mono (by decide : 4 ≤ kb__law_is_blended)) rfl (ma_cons (me_ix ix_D (me_var 6) me_int) (ma_cons (me_ix ix_D (me_var 4) me_int) (ma_cons (me_ix ix_D (me_var 4) me_int) ma_nil))) (mLen_cons (mLen_cons (mLen_cons mLen_nil)))) (me_one (me_cmp op_isP.m (me_ix ix_D (me_var 6) me_int) me_bl)))))) ms_nil)
    (mq_cons (ms_if (mt_cmp op_gtD.m (me_op op_addD.m (me_callB call_lenD rfl (Z.free 0) (by kernel_rfl) (ma_cons (me_ix ix_D (me_ix ix_D (me_var 2) me_int) me_int) ma_nil)) (me_callB call_lenD rfl (Z.free 0) (by kernel_rfl) (ma_cons (me_ix ix_D (me_ix ix_D (me_var 3) me_int) me_int) ma_nil))) me_int) (ms_one (ms_ret hB (me_call (ok__law_same Z) tk (hr.mono (by decide : 9 ≤ kb__law_is_blended)) rfl (ma_cons (me_var 6) (ma_cons (me_tup (ma_cons me_str (ma_cons me_str (ma_cons me_int (ma_cons me_bl ma_nil))))) ma_nil)) (mLen_cons (mLen_cons mLen_nil))))) ms_nil)
    (mq_cons (ms_setF 7 (mf_lst ma_nil) (hN := sc__law_is_blended.nd))
    (mq_cons (ms_for rfl hp (ip_range1 (ma_cons (me_callB call_lenD rfl (Z.free 0) (by kernel_rfl) (ma_cons (me_ix ix_D (me_var 2) me_int) ma_nil)) ma_nil) rfl (Z.free 1)) (gp_name 8 (hN := sc__law_is_blended.nd)) (fun _ hq => have hB := hq.trans hB; (mq_cons (ms_setLcD 9 (own := [("x", 10)]) rfl (blkOk_by (by kernel_rfl)) (ip_seq (me_ix ix_D (me_ix ix_D (me_var 2) me_int) (me_var 8))) (fun _ _ _ _ _ => (gp_name 10 (hN := sc__law_is_blended.nd))) (fun _ _ _ _ _ => mts_nil) (fun _ _ _ _ _ => (me_op op_mulD.m (me_op op_mulD.m (me_var 10) (me_ix ix_D (me_var 4) me_int)) (me_ix ix_D (me_var 3) me_int))) (sw_true rfl rfl rfl (by decide +kernel)) (hN := sc__law_is_blended.nd))
    (ms_one (ms_app 7 (me_fresh (mf_cat (me_var 9) (me_fresh (mf_lc (own := [("x", 10)]) rfl (blkOk_by (by kernel_rfl)) (ip_seq (me_ix ix_D (me_ix ix_D (me_var 3) me_int) (me_var 8))) (fun _ _ _ _ _ => (gp_name 10 (hN := sc__law_is_blended.nd))) (fun _ _ _ _ _ => mts_nil) (fun _ _ _ _ _ => (me_op op_mulD.m (me_op op_mulD.m (me_var 10) (me_op op_subD.m (me_ix ix_D (me_var 4) me_int) (me_ix ix_D (me_var 4) me_int))) (me_ix ix_D (me_var 2) me_int))) (hN := sc__law_is_blended.nd))))))))))
    (ms_one (ms_ret hB (me_peek [7] (me_call (ok__law_signal_is Z) tk (hr.mono (by decide : 10 ≤ kb__law_is_blended)) rfl (ma_cons (me_var 6) (ma_cons (me_var 7) (ma_cons (me_op op_mulD.m (me_op op_mulD.m (me_ix ix_D (me_var 2) me_int) (me_ix ix_D (me_var 3) me_int)) (me_ix ix_D (me_var 4) me_int)) ma_nil))) (mLen_cons (mLen_cons (mLen_cons mLen_nil)))))))))))))
theorem ok__law_is_blended {T : Tk} (Z : ZX T) : Glo T 12 "_law_is_blended" 6 m__law_is_blended := by
  obtain ⟨fd, F⟩ := Z.def_ 37 (d := d__law_is_blended)
  exact Z.fun_ (Z.glo 135) F.kp (FnM.of0 (fnD F sc__law_is_blended (b__law_is_blended Z _)) (F.bindsN fun _ _ _ _ _ _ us hl => match us, hl with | [_, _, _, _, _, _], _ => rfl))
theorem bX_Signal_rows {T : Tk} (Z : ZX T) (f : Addr) : BodyX T kb_Signal_rows 2 N_Signal_rows "Signal.rows" (defScope st_Signal_rows) f (defBody st_Signal_rows) o_Signal_rows := fun cdv A outer s H E hr B hB =>
  have tk := takes_of (X := cxT T N_Signal_rows "Signal.rows" (defScope st_Signal_rows) f cdv A outer s H E) rfl rfl rfl rfl
  have hp := passes_of (X := cxT T N_Signal_rows "Signal.rows" (defScope st_Signal_rows) f cdv A outer s H E) rfl
  (ms_one (ms_retF2 hB (mf2_lc (own := [("chances", 1)]) rfl (blkOk_by (by kernel_rfl)) (ip_seq (me_fld .u_table (me_var 0))) (fun _ _ _ _ _ => (gp_name 1 (hN := sc_Signal_rows.nd))) (fun _ _ _ _ _ => mts_nil) (fun _ _ _ _ _ => (mf_list (me_var 1) rfl (Z.free 7))) (hN := sc_Signal_rows.nd))))
theorem okX_Signal_rows {T : Tk} (Z : ZX T) : FnX T 1 ((pA .Signal "rows") T.K) 1 2 m_Signal_rows := by
  obtain ⟨fd, F⟩ := Z.def_ 23 (d := d_Signal_rows)
  exact FnX.of0 (fnX F sc_Signal_rows (bX_Signal_rows Z _)) (F.bindsN fun _ _ _ _ _ _ us hl => match us, hl with | [_], _ => rfl)
theorem t_rowsX2_Signal_ok {T : Tk} (Z : ZX T) : ∀ c g, t_rowsX2_Signal c = some g → PropX T 1 c "rows" 2 g := by
  intro c g h
  unfold t_rowsX2_Signal at h
  split at h
  · cases h
    exact ⟨_, _, prB_ok (Z.fact 58), (okX_Signal_rows Z).mono (by decide : 1 ≤ 1)⟩
  · cases h
def N__law_kept : List Str := ["signal", "first", "told"]
def kb__law_kept : Nat := 10
theorem sc__law_kept : FnScope N__law_kept ["signal", "first"] (defScope st__law_kept) := ⟨rfl, rfl, rfl, by decide +kernel, rfl, by decide +kernel, by decide +kernel⟩
theorem b__law_kept {T : Tk} (Z : ZX T) (f : Addr) : BodyOk T kb__law_kept N__law_kept "_law_kept" (defScope st__law_kept) f (defBody st__law_kept) o__law_kept := fun cdv A outer s H E hr B hB =>
  have tk := takes_of (X := cxT T N__law_kept "_law_kept" (defScope st__law_kept) f cdv A outer s H E) rfl rfl rfl rfl
  have hp := passes_of (X := cxT T N__law_kept "_law_kept" (defScope st__law_kept) f cdv A outer s H E) rfl
  (mq_cons (ms_setF2 2 (mf2_X (mx_prop (t_rowsX2_Signal_ok Z) (hr.mono (by decide : 2 ≤ kb__law_kept)) (me_var 0))) (hN := sc__law_kept.nd))
    (mq_cons (ms_appIx 2 me_int (me_make (mk_Ratio_1 Z) tk (hr.mono (by decide : 2 ≤ kb__law_kept)) rfl (Z.glo 27) (ma_cons me_int ma_nil) (mLen_cons mLen_nil)))
    (mq_cons (ms_app2D 2 me_non)
    (ms_one (ms_ret hB (me_call (ok__law_signal_is Z) tk (hr.mono (by decide : 10 ≤ kb__law_kept)) rfl (ma_cons (me_var 0) (ma_cons (me_ix ix_D (me_var 1) me_int) (ma_cons (me_ix ix_D (me_var 1) me_int) ma_nil))) (mLen_cons (mLen_cons (mLen_cons mLen_nil)))))))))
theorem ok__law_kept {T : Tk} (Z : ZX T) : Glo T 11 "_law_kept" 2 m__law_kept := by
  obtain ⟨fd, F⟩ := Z.def_ 38 (d := d__law_kept)
  exact Z.fun_ (Z.glo 136) F.kp (FnM.of0 (fnD F sc__law_kept (b__law_kept Z _)) (F.bindsN fun _ _ _ _ _ _ us hl => match us, hl with | [_, _], _ => rfl))
def N_law : List Str := ["script", "sizes", "m", "k", "l", "most", "states", "drawn", "tables", "rows", "made", "share", "passed", "a", "b"]
def kb_law : Nat := 12
theorem sc_law : FnScope N_law ["script"] (defScope st_law) := ⟨rfl, rfl, rfl, by decide +kernel, rfl, by decide +kernel, by decide +kernel⟩
theorem b_law {T : Tk} (Z : ZX T) (f : Addr) : BodyOk T kb_law N_law "law" (defScope st_law) f (defBody st_law) o_law := fun cdv A outer s H E hr B hB =>
  have tk := takes_of (X := cxT T N_law "law" (defScope st_law) f cdv A outer s H E) rfl rfl rfl rfl
  have hp := passes_of (X := cxT T N_law "law" (defScope st_law) f cdv A outer s H E) rfl
  (mq_cons (ms_set 1 (me_call (ok__law_draws Z) tk (hr.mono (by decide : 1 ≤ kb_law)) rfl (ma_cons (me_call (ok__law_cell Z) tk (hr.mono (by decide : 1 ≤ kb_law)) rfl (ma_cons (me_var 0) (ma_cons me_int ma_nil)) (mLen_cons (mLen_cons mLen_nil))) (ma_cons me_int (ma_cons (me_fresh (mf_lst (ma_cons me_int (ma_cons me_int (ma_cons me_int (ma_cons me_int (ma_cons me_int (ma_cons me_int (ma_cons me_int (ma_cons me_int (ma_cons me_int ma_nil))))))))))) ma_nil))) (mLen_cons (mLen_cons (mLen_cons mLen_nil)))) (hN := sc_law.nd))
    (mq_cons (ms_par3 2 3 4 rfl (ma_cons (me_op op_addD.m me_int (me_ix ix_D (me_var 1) me_int)) (ma_cons (me_op op_addD.m me_int (me_ix ix_D (me_var 1) me_int)) (ma_cons (me_op op_addD.m me_int (me_ix ix_D (me_var 1) me_int)) ma_nil))) (hN := sc_law.nd))
    (mq_cons (ms_set 5 me_int (hN := sc_law.nd))
    (mq_cons (ms_if (mt_cmp (op_eqP (hr.mono (by decide : 0 ≤ kb_law)).units).m (me_ix ix_D (me_var 1) me_int) me_int) (ms_one (ms_par3 2 3 4 rfl (ma_cons (me_op op_addD.m me_int (me_ix ix_D (me_var 1) me_int)) (ma_cons (me_op op_addD.m me_int (me_ix ix_D (me_var 1) me_int)) (ma_cons (me_op op_addD.m me_int (me_ix ix_D (me_var 1) me_int)) ma_nil))) (hN := sc_law.nd))) ms_nil)
    (mq_cons (ms_if (mt_cmp (op_eqP (hr.mono (by decide : 0 ≤ kb_law)).units).m (me_ix ix_D (me_var 1) me_int) me_int) (ms_one (ms_set 5 (me_op op_powD.m me_int me_int) (hN := sc_law.nd))) ms_nil)
    (mq_cons (ms_setF 6 (mf_lst (ma_cons (me_var 2) (ma_cons (me_var 3) (ma_cons (me_var 2) ma_nil)))) (hN := sc_law.nd))
    (mq_cons (ms_if (mt_cmp (op_eqP (hr.mono (by decide : 0 ≤ kb_law)).units).m (me_ix ix_D (me_var 1) me_int) me_int) (ms_one (ms_setIx 6 (me_op op_addD.m (me_op op_modD.m (me_callT call_intD rfl (Z.free 2) (by kernel_rfl) (ma_cons (me_var 3) ma_nil)) me_int) me_int) me_int)) ms_nil)
    (mq_cons (ms_if (mt_cmp (op_eqP (hr.mono (by decide : 0 ≤ kb_law)).units).m (me_ix ix_D (me_var 1) me_int) me_int) (ms_one (ms_setIx 6 (me_op op_addD.m (me_op op_modD.m (me_callT call_intD rfl (Z.free 2) (by kernel_rfl) (ma_cons (me_var 2) ma_nil)) me_int) me_int) me_int)) ms_nil)
    (mq_cons (ms_setF 7 (mf_lst (ma_cons (me_call (ok__law_signal_rows Z) tk (hr.mono (by decide : 2 ≤ kb_law)) rfl (ma_cons (me_var 0) (ma_cons me_int (ma_cons me_int (ma_cons (me_var 2) (ma_cons (me_var 3) (ma_cons (me_var 5) ma_nil)))))) (mLen_cons (mLen_cons (mLen_cons (mLen_cons (mLen_cons (mLen_cons mLen_nil))))))) ma_nil)) (hN := sc_law.nd))
    (mq_cons (ms_app 7 (me_call (ok__law_signal_rows Z) tk (hr.mono (by decide : 2 ≤ kb_law)) rfl (ma_cons (me_var 0) (ma_cons me_int (ma_cons me_int (ma_cons (me_peek [6] (me_ix ix_D (me_var 6) me_int)) (ma_cons (me_var 4) (ma_cons (me_var 5) ma_nil)))))) (mLen_cons (mLen_cons (mLen_cons (mLen_cons (mLen_cons (mLen_cons mLen_nil))))))))
    (mq_cons (ms_app 7 (me_call (ok__law_signal_rows Z) tk (hr.mono (by decide : 2 ≤ kb_law)) rfl (ma_cons (me_var 0) (ma_cons me_int (ma_cons me_int (ma_cons (me_peek [6] (me_ix ix_D (me_var 6) me_int)) (ma_cons (me_var 4) (ma_cons (me_var 5) ma_nil)))))) (mLen_cons (mLen_cons (mLen_cons (mLen_cons (mLen_cons (mLen_cons mLen_nil))))))))
    (mq_frz 7 (mq_cons (ms_setLcD 8 (own := [("rows", 9)]) rfl (blkOk_by (by kernel_rfl)) (ip_seq (me_var 7)) (fun _ _ _ _ _ => (gp_name 9 (hN := sc_law.nd))) (fun _ _ _ _ _ => mts_nil) (fun _ _ _ _ _ => (me_call (ok__law_table Z) takes_none5 (hr.mono (by decide : 3 ≤ kb_law)) rfl (ma_cons (me_var 9) ma_nil) (mLen_cons mLen_nil))) (sw_true rfl rfl rfl (by decide +kernel)) (hN := sc_law.nd))
    (mq_cons (ms_setLcD 10 (own := [("rows", 9)]) rfl (blkOk_by (by kernel_rfl)) (ip_seq (me_var 7)) (fun _ _ _ _ _ => (gp_name 9 (hN := sc_law.nd))) (fun _ _ _ _ _ => mts_nil) (fun _ _ _ _ _ => (me_call (ok__law_signal Z) takes_none5 (hr.mono (by decide : 10 ≤ kb_law)) rfl (ma_cons (me_var 9) (ma_cons (me_ix ix_D (me_var 1) me_int) ma_nil)) (mLen_cons (mLen_cons mLen_nil)))) (sw_true rfl rfl rfl (by decide +kernel)) (hN := sc_law.nd))
    (mq_cons (ms_set 11 (me_call (ok__law_share Z) tk (hr.mono (by decide : 2 ≤ kb_law)) rfl (ma_cons (me_call (ok__law_cell Z) tk (hr.mono (by decide : 1 ≤ kb_law)) rfl (ma_cons (me_var 0) (ma_cons me_int ma_nil)) (mLen_cons (mLen_cons mLen_nil))) ma_nil) (mLen_cons mLen_nil)) (hN := sc_law.nd))
    (mq_cons (ms_set 12 (me_call (ok__law_number Z) tk (hr.mono (by decide : 3 ≤ kb_law)) rfl (ma_cons (me_ix ix_D (me_var 11) me_int) (ma_cons (me_ix ix_D (me_var 11) me_int) (ma_cons (me_ix ix_D (me_var 1) me_int) ma_nil))) (mLen_cons (mLen_cons (mLen_cons mLen_nil)))) (hN := sc_law.nd))
    (mq_cons (ms_if (mt_not (mt_val (me_call (ok__law_garbles Z) tk (hr.mono (by decide : 12 ≤ kb_law)) rfl (ma_cons (me_ix ix_D (me_var 10) me_int) (ma_cons (me_ix ix_D (me_var 10) me_int) (ma_cons (me_ix ix_D (me_var 8) me_int) (ma_cons (me_ix ix_D (me_var 8) me_int) ma_nil)))) (mLen_cons (mLen_cons (mLen_cons (mLen_cons mLen_nil))))))) (ms_one (ms_ret hB me_bl)) ms_nil)
    (mq_cons (ms_for rfl hp (ip_seq (me_fresh (mf_lst (ma_cons (me_tup (ma_cons me_int (ma_cons me_int ma_nil))) (ma_cons (me_tup (ma_cons me_int (ma_cons me_int ma_nil))) ma_nil))))) (gp_tup rfl (gp_cons (gp_name 13 (hN := sc_law.nd)) (gp_cons (gp_name 14 (hN := sc_law.nd)) gp_nil))) (fun _ hq => have hB := hq.trans hB; (mq_cons (ms_if (mt_not (mt_val (me_call (ok__law_hears_both Z) tk (hr.mono (by decide : 12 ≤ kb_law)) rfl (ma_cons (me_ix ix_D (me_var 10) (me_var 13)) (ma_cons (me_ix ix_D (me_var 10) (me_var 14)) (ma_cons (me_ix ix_D (me_var 8) (me_var 13)) (ma_cons (me_ix ix_D (me_var 8) (me_var 14)) ma_nil)))) (mLen_cons (mLen_cons (mLen_cons (mLen_cons mLen_nil))))))) (ms_one (ms_ret hB me_bl)) ms_nil)
    (ms_one (ms_if (mt_not (mt_val (me_call (ok__law_is_blended Z) tk (hr.mono (by decide : 12 ≤ kb_law)) rfl (ma_cons (me_ix ix_D (me_var 10) (me_var 13)) (ma_cons (me_ix ix_D (me_var 10) (me_var 14)) (ma_cons (me_ix ix_D (me_var 8) (me_var 13)) (ma_cons (me_ix ix_D (me_var 8) (me_var 14)) (ma_cons (me_var 11) (ma_cons (me_var 12) ma_nil)))))) (mLen_cons (mLen_cons (mLen_cons (mLen_cons (mLen_cons (mLen_cons mLen_nil))))))))) (ms_one (ms_ret hB me_bl)) ms_nil)))))
    (mq_cons (ms_for rfl hp (ip_range1 (ma_cons me_int ma_nil) rfl (Z.free 1)) (gp_name 3 (hN := sc_law.nd)) (fun _ hq => have hB := hq.trans hB; (ms_one (ms_if (mt_not (mt_val (me_call (ok__law_kept Z) tk (hr.mono (by decide : 11 ≤ kb_law)) rfl (ma_cons (me_ix ix_D (me_var 10) (me_var 3)) (ma_cons (me_ix ix_D (me_var 8) (me_var 3)) ma_nil)) (mLen_cons (mLen_cons mLen_nil))))) (ms_one (ms_ret hB me_bl)) ms_nil))))
    (ms_one (ms_ret hB (me_call (ok__law_garbles Z) tk (hr.mono (by decide : 12 ≤ kb_law)) rfl (ma_cons (me_ix ix_D (me_var 10) me_int) (ma_cons (me_ix ix_D (me_var 10) me_int) (ma_cons (me_ix ix_D (me_var 8) me_int) (ma_cons (me_ix ix_D (me_var 8) me_int) ma_nil)))) (mLen_cons (mLen_cons (mLen_cons (mLen_cons mLen_nil))))))))))))))))))))))))))
theorem ok_law {T : Tk} (Z : ZX T) : Glo T 13 "law" 1 m_law := by
  obtain ⟨fd, F⟩ := Z.def_ 39 (d := d_law)
  exact Z.fun_ (Z.glo 137) F.kp (FnM.of0 (fnD F sc_law (b_law Z _)) (F.bindsN fun _ _ _ _ _ _ us hl => match us, hl with | [_], _ => rfl))
end
end K68
namespace K68
noncomputable section
open PySem PySem.Spec L2 PL
theorem call_ok {q : Program} {loose : List Str} {XP : (Str → Option Value) → Heap → Prop} : PySem.W.WalkO q loose XP hk.says Rw.toRowW (HandSHeadRun.topDef Rw.prog 43) [] (fun f vs => PySem.call f vs) :=
  pl_end (l := PySem.Challenge.rw_beatswatched_k68_signals_put_together) (i := 39) (g := 137) (d := d_law) rfl (by kernel_rfl) (kb := kb_law + 1) ⟨rfl, by decide, by decide⟩ (by kernel_rfl) rfl (fun _ => rfl) rfl (fun K fd F s v => FunD.bindsA (ps := ["script"]) F (fun _ _ _ _ _ _ us hl => match us, hl with | [_], _ => rfl) s [v] rfl) (fun T Z fd F => fnD F sc_law (b_law Z _)) law_plain
end
end K68
open PySem PySem.W PySem.Calls PyProof.Rows
theorem PySem.Challenge.cw_beatswatched_k68_signals_put_together_holds : PySem.Challenge.rw_beatswatched_k68_signals_put_together.Holds := by
  w_on; o_law
  refine HandSHeadRun.head_imp (r := PySem.W.OpenLaw.row PySem.Challenge.rw_beatswatched_k68_signals_put_together) (q := view (PySem.W.OpenLaw.row PySem.Challenge.rw_beatswatched_k68_signals_put_together).prog [0, 43]) (H := K68.hk) (ob := K68.ob) (M := 20000) (loose := K68.names) (d := HandSHeadRun.topDef (PySem.W.OpenLaw.row PySem.Challenge.rw_beatswatched_k68_signals_put_together).prog 43) (kwd := []) K68.ob_eq K68.head_run
    (by kernel_rfl) (by kernel_rfl) (by kernel_rfl) (by rfl) (by first | assumption | decide +kernel) (by decide +kernel) ⟨rfl, rfl, rfl, rfl, rfl, by decide +kernel⟩ ?hw ?hc
  case hw => w_witness2
  case hc => exact K68.call_ok
