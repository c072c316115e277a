import PyProof.Rows.All
import Wide.All
import OpenK.AllK
import Wide.FinOn
import KE.KStateDown
import KE.KOpsOwn
import HandS.ForMost
import HandS.ForExc
import HandS.Wide
import HandS.WideBits
import HandS.Flow
import HandS.Style
import HandS.Defaults
import HandS.Property
import HandS.ClsMeth
import HandS.IsInst
import HandS.Gcd
import HandS.TryMany
import HandS.CallSlots
import HandS.Zip
import HandS.Small
import HandS.TupAny
import HandS.OwnEq
import HandS.ExcField
import HandS.ExcIs
import HandS.ExcSuper
import KE.KExcSuper
import KE.KExcIs
import HandS.ExcInit
import HandS.ExcOwn
import HandS.RaiseMore
import HandS.RaiseFrom
import HandS.Rev
import HandS.RevRange
import HandS.SuiteRaise
import HandS.Finally
import HandS.HeadNt
import HandS.Head3
import HandS.HeadEnd
import HandS.Head0
import HandS.Head1
import HandS.Head2
import KE.KFmtOwn
import KE.KOwnIter
import HandS.IterVal
import PyProof.InstEq
import HandS.Replace
import HandS.More
import KE.KMathG
import HandS.Deep
import HandS.Iter
import HandS.SortInts
import HandS.Conv
import PySem.Challenge.RW_beatswatched_k04_meetings_and_starts
set_option Elab.async false
set_option autoImplicit false
set_option linter.all false
set_option maxRecDepth 100000
set_option maxHeartbeats 4000000
namespace PL
open PySem PySem.Spec PyProof.Rows L2
/-- the attributes' names -/
inductive Nm where
  | u_ahead | u_beats | u_behind | u_book | u_cells | u_counts | u_entries | u_found | u_gains | u_kept | u_lacking | u_list | u_lots | u_members | u_most | u_names | u_pieces | u_plans | u_state | u_steps | u_strengths | u_table | u_tickets | u_under
  | able | amounts | barred | beat | blocked | bound | cell | counts | course | crews | factor | family | fee | fitting | garble | heard | heights | hour | hours | house | house_cells | index | lacks | later | length | line | looks | many | march | most | moves | name | names | needs | number | one | open_cells | other | outcomes | pairs | parts | past | places | priced | prizes | room | search | shares | shares_one | shares_two | short | sides | sight | signals | spread | stakes | starts | states | steps | strengths | taken | target | targets | task | tolls | top | total | tree | tries | under | value | wage | walk | walks | watches | weights | worth | yard
  deriving DecidableEq
def Nm.s : Nm → Str
  | .u_ahead => "_ahead" | .u_beats => "_beats" | .u_behind => "_behind" | .u_book => "_book" | .u_cells => "_cells" | .u_counts => "_counts" | .u_entries => "_entries" | .u_found => "_found" | .u_gains => "_gains" | .u_kept => "_kept" | .u_lacking => "_lacking" | .u_list => "_list" | .u_lots => "_lots" | .u_members => "_members" | .u_most => "_most" | .u_names => "_names" | .u_pieces => "_pieces" | .u_plans => "_plans" | .u_state => "_state" | .u_steps => "_steps" | .u_strengths => "_strengths" | .u_table => "_table" | .u_tickets => "_tickets" | .u_under => "_under"
  | .able => "able" | .amounts => "amounts" | .barred => "barred" | .beat => "beat" | .blocked => "blocked" | .bound => "bound" | .cell => "cell" | .counts => "counts" | .course => "course" | .crews => "crews" | .factor => "factor" | .family => "family" | .fee => "fee" | .fitting => "fitting" | .garble => "garble" | .heard => "heard" | .heights => "heights" | .hour => "hour" | .hours => "hours" | .house => "house" | .house_cells => "house_cells" | .index => "index" | .lacks => "lacks" | .later => "later" | .length => "length" | .line => "line" | .looks => "looks" | .many => "many" | .march => "march" | .most => "most" | .moves => "moves" | .name => "name" | .names => "names" | .needs => "needs" | .number => "number" | .one => "one" | .open_cells => "open_cells" | .other => "other" | .outcomes => "outcomes" | .pairs => "pairs" | .parts => "parts" | .past => "past" | .places => "places" | .priced => "priced" | .prizes => "prizes" | .room => "room" | .search => "search" | .shares => "shares" | .shares_one => "shares_one" | .shares_two => "shares_two" | .short => "short" | .sides => "sides" | .sight => "sight" | .signals => "signals" | .spread => "spread" | .stakes => "stakes" | .starts => "starts" | .states => "states" | .steps => "steps" | .strengths => "strengths" | .taken => "taken" | .target => "target" | .targets => "targets" | .task => "task" | .tolls => "tolls" | .top => "top" | .total => "total" | .tree => "tree" | .tries => "tries" | .under => "under" | .value => "value" | .wage => "wage" | .walk => "walk" | .walks => "walks" | .watches => "watches" | .weights => "weights" | .worth => "worth" | .yard => "yard"
def Nm.all : List Nm := [.u_ahead, .u_beats, .u_behind, .u_book, .u_cells, .u_counts, .u_entries, .u_found, .u_gains, .u_kept, .u_lacking, .u_list, .u_lots, .u_members, .u_most, .u_names, .u_pieces, .u_plans, .u_state, .u_steps, .u_strengths, .u_table, .u_tickets, .u_under, .able, .amounts, .barred, .beat, .blocked, .bound, .cell, .counts, .course, .crews, .factor, .family, .fee, .fitting, .garble, .heard, .heights, .hour, .hours, .house, .house_cells, .index, .lacks, .later, .length, .line, .looks, .many, .march, .most, .moves, .name, .names, .needs, .number, .one, .open_cells, .other, .outcomes, .pairs, .parts, .past, .places, .priced, .prizes, .room, .search, .shares, .shares_one, .shares_two, .short, .sides, .sight, .signals, .spread, .stakes, .starts, .states, .steps, .strengths, .taken, .target, .targets, .task, .tolls, .top, .total, .tree, .tries, .under, .value, .wage, .walk, .walks, .watches, .weights, .worth, .yard]
theorem Nm.mem_all : ∀ n : Nm, n ∈ Nm.all := by intro n; cases n <;> decide
theorem Nm.inj_all : (Nm.all.map Nm.s).Nodup := by decide +kernel
theorem nodup_inj {α β : Type} {f : α → β} : ∀ {l : List α}, (l.map f).Nodup → ∀ {a b : α}, a ∈ l → b ∈ l → f a = f b → a = b
  | [], _, _, _, h, _, _ => nomatch h
  | c :: r, hn, a, b, ha, hb, e => by
    rw [List.map_cons, List.nodup_cons] at hn
    have out : ∀ x, x ∈ r → f x ≠ f c := fun x hx q => hn.1 (q ▸ List.mem_map_of_mem hx)
    rcases List.mem_cons.mp ha with h1 | h1
    · rcases List.mem_cons.mp hb with h2 | h2
      · rw [h1, h2]
      · exact absurd (e.symm.trans (by rw [h1])) (out b h2)
    · rcases List.mem_cons.mp hb with h2 | h2
      · exact absurd (e.trans (by rw [h2])) (out a h1)
      · exact nodup_inj hn.2 h1 h2 e
theorem Nm.inj {a b : Nm} (h : a.s = b.s) : a = b := nodup_inj Nm.inj_all (Nm.mem_all a) (Nm.mem_all b) h
/-- the classes -/
inductive Cl where
  | WatchError | ZeroUnder | BadNumber | TooMany | RepeatedHour | Meets | OtherHours | OtherHouse | NotADivisor | SharedFactor | WrongLength | EmptyLot | NotEnough | NoPlace | BadName | RepeatedName | UnknownName | BadSpread | BadPast | KnownCell | Contradiction | BadShares | NeverSeen | BadStretch | NoBeat | FailedDeed | BadText | BadLine | BadCourse | BadHabit | BadMove | OtherYard | Refused | NotDrawn | NothingLeft | AlreadySeen | AlreadyAway | NotAway
  | Asking | Beat | Best | Book | Closing | Collecting | Contest | CourseGame | Crew | Desk | Duel | Family | Fewest | Case | GreatWatch | GreatBound | Guarding | Habit | HintTable | HintGame | House | Kept | Trial | Laying | Lot | March | TurnTable | Manning | Plan | Ratio | BestCourse | Search | Roster | Flow | Season | Signal | Stretches | Table | Sight | Telling | GarbleGame | Tickets | Turned | Hiring | WageGame | Watch | Yard
  deriving DecidableEq
def Cl.s : Cl → Str
  | .WatchError => "WatchError" | .ZeroUnder => "ZeroUnder" | .BadNumber => "BadNumber" | .TooMany => "TooMany" | .RepeatedHour => "RepeatedHour" | .Meets => "Meets" | .OtherHours => "OtherHours" | .OtherHouse => "OtherHouse" | .NotADivisor => "NotADivisor" | .SharedFactor => "SharedFactor" | .WrongLength => "WrongLength" | .EmptyLot => "EmptyLot" | .NotEnough => "NotEnough" | .NoPlace => "NoPlace" | .BadName => "BadName" | .RepeatedName => "RepeatedName" | .UnknownName => "UnknownName" | .BadSpread => "BadSpread" | .BadPast => "BadPast" | .KnownCell => "KnownCell" | .Contradiction => "Contradiction" | .BadShares => "BadShares" | .NeverSeen => "NeverSeen" | .BadStretch => "BadStretch" | .NoBeat => "NoBeat" | .FailedDeed => "FailedDeed" | .BadText => "BadText" | .BadLine => "BadLine" | .BadCourse => "BadCourse" | .BadHabit => "BadHabit" | .BadMove => "BadMove" | .OtherYard => "OtherYard" | .Refused => "Refused" | .NotDrawn => "NotDrawn" | .NothingLeft => "NothingLeft" | .AlreadySeen => "AlreadySeen" | .AlreadyAway => "AlreadyAway" | .NotAway => "NotAway"
  | .Asking => "Asking" | .Beat => "Beat" | .Best => "Best" | .Book => "Book" | .Closing => "Closing" | .Collecting => "Collecting" | .Contest => "Contest" | .CourseGame => "CourseGame" | .Crew => "Crew" | .Desk => "Desk" | .Duel => "Duel" | .Family => "Family" | .Fewest => "Fewest" | .Case => "Case" | .GreatWatch => "GreatWatch" | .GreatBound => "GreatBound" | .Guarding => "Guarding" | .Habit => "Habit" | .HintTable => "HintTable" | .HintGame => "HintGame" | .House => "House" | .Kept => "Kept" | .Trial => "Trial" | .Laying => "Laying" | .Lot => "Lot" | .March => "March" | .TurnTable => "TurnTable" | .Manning => "Manning" | .Plan => "Plan" | .Ratio => "Ratio" | .BestCourse => "BestCourse" | .Search => "Search" | .Roster => "Roster" | .Flow => "Flow" | .Season => "Season" | .Signal => "Signal" | .Stretches => "Stretches" | .Table => "Table" | .Sight => "Sight" | .Telling => "Telling" | .GarbleGame => "GarbleGame" | .Tickets => "Tickets" | .Turned => "Turned" | .Hiring => "Hiring" | .WageGame => "WageGame" | .Watch => "Watch" | .Yard => "Yard"
/-- where a class stands: by the module's name for it -/
def ca (K : PySem.W.Frag) (c : Cl) : Addr := match PySem.W.nsIn K mainGlobals c.s with
  | some (some (.ref a)) => a
  | _ => 0
/-- pure data -/
inductive D where
  | non | bl (b : Bool) | int (i : Int) | str (x : Str)
  | tup (xs : List D) | lst (xs : List D) | obj (c : Cl) (fs : List (Nm × D))
/-- an error: its class, its attributes -/
structure Err where
  cls : Cl
  fs : List (Nm × D)
inductive Res (α : Type) where
  | ok (a : α) | exc (e : Err) | stuck
def Res.bind {α β : Type} : Res α → (α → Res β) → Res β
  | .ok a, f => f a
  | .exc e, _ => .exc e
  | .stuck, _ => .stuck
instance : Monad Res where
  pure := .ok
  bind := Res.bind
section
variable {α β γ : Type}
@[simp] theorem ok_bind (a : α) (f : α → Res β) : (Res.ok a >>= f) = f a := rfl
@[simp] theorem exc_bind (e : Err) (f : α → Res β) : ((Res.exc e : Res α) >>= f) = Res.exc e := rfl
@[simp] theorem stuck_bind (f : α → Res β) : ((Res.stuck : Res α) >>= f) = Res.stuck := rfl
@[simp] theorem pure_ok (a : α) : (pure a : Res α) = .ok a := rfl
@[simp] theorem bind_assoc' (r : Res α) (f : α → Res β) (g : β → Res γ) : ((r >>= f) >>= g) = (r >>= fun a => f a >>= g) := by cases r <;> rfl
@[simp] theorem map_ok (f : α → β) (a : α) : (f <$> (Res.ok a : Res α)) = Res.ok (f a) := rfl
@[simp] theorem map_exc (f : α → β) (e : Err) : (f <$> (Res.exc e : Res α)) = Res.exc e := rfl
@[simp] theorem map_stuck (f : α → β) : (f <$> (Res.stuck : Res α)) = Res.stuck := rfl
end
/-- what the text's class c is, as the rules ask it -/
structure ClF (K : PySem.W.Frag) (c : Cl) : Prop where
  cls : Cls K (ca K c)
  ha : PySem.W.findIn K (.ref (ca K c)) "__class__" = some (some (.builtin "object.__class__"))
  hn : PySem.W.specialIn K (.builtin "object.__class__") "__get__" = some (some (.builtin "getset_descriptor.__get__"))
  ht : PySem.W.takesIn K (.builtin "object.__class__") = some true
  hm : PySem.W.mroIn K (ca K c) (.type "object") = some true
  sf : PySem.W.selfFirst K (ca K c) = true
/-- .. with attributes of its instances -/
def AtF (K : PySem.W.Frag) (c : Cl) (fs : List (Nm × D)) : Prop := ClF K c ∧ ∀ p ∈ fs, NoAttr K (ca K c) p.1.s
/-- what the text's error class c is -/
structure XcF (K : PySem.W.Frag) (c : Cl) : Prop where
  xf : XfC K (ca K c)
  ec : ExcC K (ca K c)
def XtF (K : PySem.W.Frag) (c : Cl) (fs : List (Nm × D)) : Prop := XcF K c ∧ ∀ p ∈ fs, PySem.W.findIn K (.ref (ca K c)) p.1.s = some none
mutual
inductive Rep (K : PySem.W.Frag) (G : Hp) : V → D → Prop
  | non : Rep K G .non .non
  | bl (b : Bool) : Rep K G (.bl b) (.bl b)
  | int (i : Int) : Rep K G (.int i) (.int i)
  | str (x : Str) : Rep K G (.str x) (.str x)
  | tup {a : Addr} {vs : List V} {ds : List D} : SqT K G a vs → Reps K G vs ds → Rep K G (.ref a) (.tup ds)
  | lst {a : Addr} {vs : List V} {ds : List D} : Rd G a (.lst vs) → Reps K G vs ds → Rep K G (.ref a) (.lst ds)
  | obj {a dx : Addr} {fv : List (Str × V)} {c : Cl} {fs : List (Nm × D)} : G a = some (.ins (ca K c) dx fv) → AtF K c fs → RepF K G fv fs → Rep K G (.ref a) (.obj c fs)
inductive Reps (K : PySem.W.Frag) (G : Hp) : List V → List D → Prop
  | nil : Reps K G [] []
  | cons {v : V} {d : D} {vs : List V} {ds : List D} : Rep K G v d → Reps K G vs ds → Reps K G (v :: vs) (d :: ds)
inductive RepF (K : PySem.W.Frag) (G : Hp) : List (Str × V) → List (Nm × D) → Prop
  | nil : RepF K G [] []
  | cons {n : Nm} {v : V} {d : D} {vs : List (Str × V)} {ds : List (Nm × D)} : Rep K G v d → RepF K G vs ds → RepF K G ((n.s, v) :: vs) ((n, d) :: ds)
end
/-- all that the one knows the other knows -/
def Ext (G G' : Hp) : Prop := ∀ a o, G a = some o → G' a = some o
theorem Ext.refl {G : Hp} : Ext G G := fun _ _ h => h
theorem Ext.trans {G G1 G2 : Hp} (a : Ext G G1) (b : Ext G1 G2) : Ext G G2 := fun _ _ h => b _ _ (a _ _ h)
theorem Ext.free {G G' : Hp} (e : Ext G G') {a : Addr} (h : G' a = none) : G a = none := by
  cases q : G a with
  | none => rfl
  | some o => rw [e a o q] at h; cases h
theorem Ext.upd {G : Hp} {a : Addr} {o : HO} (h : G a = none) : Ext G (upd G a o) := fun b u q => by
  rw [upd_ne (ne_of_none q h)]; exact q
theorem Ext.rd {G G' : Hp} (e : Ext G G') {a : Addr} {u : HO} (h : Rd G a u) : Rd G' a u := by
  rcases h with h | ⟨o, h⟩
  · exact .inl (e _ _ h)
  · exact .inr ⟨o, e _ _ h⟩
theorem Ext.sql {G G' : Hp} (e : Ext G G') {K : PySem.W.Frag} {a : Addr} {xs : List V} (h : SqL K G a xs) : SqL K G' a xs := by
  rcases h with h | h
  · exact .inl (e.rd h)
  · exact .inr h
theorem Ext.sqt {G G' : Hp} (e : Ext G G') {K : PySem.W.Frag} {a : Addr} {xs : List V} (h : SqT K G a xs) : SqT K G' a xs := by
  rcases h with h | h
  · exact .inl (e.rd h)
  · exact .inr h
mutual
theorem Rep.mono {K : PySem.W.Frag} {G G' : Hp} (e : Ext G G') : ∀ {v : V} {d : D}, Rep K G v d → Rep K G' v d
  | _, _, .non => .non
  | _, _, .bl b => .bl b
  | _, _, .int i => .int i
  | _, _, .str x => .str x
  | _, _, .tup h r => .tup (e.sqt h) (Reps.mono e r)
  | _, _, .lst h r => .lst (e.rd h) (Reps.mono e r)
  | _, _, .obj h k r => .obj (e _ _ h) k (RepF.mono e r)
theorem Reps.mono {K : PySem.W.Frag} {G G' : Hp} (e : Ext G G') : ∀ {vs : List V} {ds : List D}, Reps K G vs ds → Reps K G' vs ds
  | _, _, .nil => .nil
  | _, _, .cons r t => .cons (Rep.mono e r) (Reps.mono e t)
theorem RepF.mono {K : PySem.W.Frag} {G G' : Hp} (e : Ext G G') : ∀ {vs : List (Str × V)} {ds : List (Nm × D)}, RepF K G vs ds → RepF K G' vs ds
  | _, _, .nil => .nil
  | _, _, .cons r t => .cons (Rep.mono e r) (RepF.mono e t)
end
section
variable {K : PySem.W.Frag} {G G' : Hp}
theorem Reps.length : ∀ {vs : List V} {ds : List D}, Reps K G vs ds → vs.length = ds.length
  | _, _, .nil => rfl
  | _, _, .cons _ t => by rw [List.length_cons, List.length_cons, t.length]
theorem Reps.get : ∀ {vs : List V} {ds : List D} {i : Nat} {v : V}, Reps K G vs ds → vs[i]? = some v → ∃ d, ds[i]? = some d ∧ Rep K G v d
  | _, _, _, _, .nil, e => by simp at e
  | _, _, 0, _, .cons r _, e => by simp at e; subst e; exact ⟨_, rfl, r⟩
  | _, _, i + 1, v, .cons _ t, e => by
    obtain ⟨d, h1, h2⟩ := Reps.get (i := i) (v := v) t (by simpa using e)
    exact ⟨d, by simpa using h1, h2⟩
theorem Reps.getD : ∀ {vs : List V} {ds : List D} {i : Nat} {d : D}, Reps K G vs ds → ds[i]? = some d → ∃ v, vs[i]? = some v ∧ Rep K G v d
  | _, _, _, _, .nil, e => by simp at e
  | _, _, 0, _, .cons r _, e => by simp at e; subst e; exact ⟨_, rfl, r⟩
  | _, _, i + 1, d, .cons _ t, e => by
    obtain ⟨v, h1, h2⟩ := Reps.getD (i := i) (d := d) t (by simpa using e)
    exact ⟨v, by simpa using h1, h2⟩
theorem Reps.append : ∀ {vs ws : List V} {ds es : List D}, Reps K G vs ds → Reps K G ws es → Reps K G (vs ++ ws) (ds ++ es)
  | _, _, _, _, .nil, s => s
  | _, _, _, _, .cons r t, s => .cons r (Reps.append t s)
theorem Reps.take : ∀ {vs : List V} {ds : List D} (n : Nat), Reps K G vs ds → Reps K G (vs.take n) (ds.take n)
  | _, _, 0, _ => .nil
  | _, _, _ + 1, .nil => .nil
  | _, _, n + 1, .cons r t => .cons r (Reps.take n t)
theorem Reps.drop : ∀ {vs : List V} {ds : List D} (n : Nat), Reps K G vs ds → Reps K G (vs.drop n) (ds.drop n)
  | _, _, 0, r => r
  | _, _, _ + 1, .nil => .nil
  | _, _, n + 1, .cons _ t => Reps.drop n t
theorem Reps.set {v : V} {d : D} (r : Rep K G v d) : ∀ {vs : List V} {ds : List D} (i : Nat), Reps K G vs ds → Reps K G (vs.set i v) (ds.set i d)
  | _, _, _, .nil => .nil
  | _, _, 0, .cons _ t => .cons r t
  | _, _, i + 1, .cons q t => .cons q (Reps.set r i t)
theorem Reps.reverse : ∀ {vs : List V} {ds : List D}, Reps K G vs ds → Reps K G vs.reverse ds.reverse
  | _, _, .nil => .nil
  | _, _, .cons r t => by
    rw [List.reverse_cons, List.reverse_cons]
    exact (Reps.reverse t).append (.cons r .nil)
theorem RepF.lookup {n : Nm} : ∀ {vs : List (Str × V)} {fs : List (Nm × D)} {d : D}, RepF K G vs fs → fs.lookup n = some d → ∃ v, vs.lookup n.s = some v ∧ Rep K G v d
  | _, _, _, .nil, e => nomatch (show (none : Option D) = some _ from e)
  | _, _, d, .cons (n := m) (v := v) (d := c) r t, e => by
    by_cases h : n = m
    · subst h
      rw [List.lookup_cons_self] at e
      cases e
      exact ⟨v, List.lookup_cons_self, r⟩
    · have h1 : (n == m) = false := by simpa using h
      have h2 : (n.s == m.s) = false := by
        rw [beq_eq_false_iff_ne]
        exact fun q => h (Nm.inj q)
      rw [List.lookup_cons, h1] at e
      obtain ⟨w, e1, e2⟩ := RepF.lookup t e
      exact ⟨w, by rw [List.lookup_cons, h2]; exact e1, e2⟩
theorem RepF.lookup_none {n : Nm} : ∀ {vs : List (Str × V)} {fs : List (Nm × D)}, RepF K G vs fs → fs.lookup n = none → vs.lookup n.s = none
  | _, _, .nil, _ => rfl
  | _, _, .cons (n := m) (v := v) (d := c) r t, e => by
    by_cases h : n = m
    · subst h
      rw [List.lookup_cons_self] at e
      cases e
    · have h1 : (n == m) = false := by simpa using h
      have h2 : (n.s == m.s) = false := by
        rw [beq_eq_false_iff_ne]
        exact fun q => h (Nm.inj q)
      rw [List.lookup_cons, h1] at e
      rw [List.lookup_cons, h2]
      exact RepF.lookup_none t e
theorem RepF.length : ∀ {vs : List (Str × V)} {fs : List (Nm × D)}, RepF K G vs fs → vs.length = fs.length
  | _, _, .nil => rfl
  | _, _, .cons _ t => by rw [List.length_cons, List.length_cons, t.length]
/-- a name that is none of theirs -/
theorem RepF.lookup_out {x : Str} (hx : ∀ n : Nm, n.s ≠ x) : ∀ {vs : List (Str × V)} {fs : List (Nm × D)}, RepF K G vs fs → vs.lookup x = none
  | _, _, .nil => rfl
  | _, _, .cons (n := m) r t => by
    have h2 : (x == m.s) = false := by
      rw [beq_eq_false_iff_ne]
      exact fun q => hx m q.symm
    rw [List.lookup_cons, h2]
    exact RepF.lookup_out hx t
/-- a field stored: at its place, or behind all -/
@[simp] def putD (n : Nm) (d : D) : List (Nm × D) → List (Nm × D)
  | [] => [(n, d)]
  | (m, c) :: r => if n = m then (n, d) :: r else (m, c) :: putD n d r
end
end PL
namespace PL
open PySem PySem.Spec L2
/-- from (G, H) to (G', H'): nothing known is lost, what is new in G' is new in H' -/
structure Grow (G H G' H' : Hp) : Prop where
  g : Ext G G'
  h : Ext H H'
  sub : Ext G' H'
  new : ∀ a o, G' a = some o → G a = some o ∨ H a = none
theorem Grow.refl {G H : Hp} (s : Ext G H) : Grow G H G H := ⟨.refl, .refl, s, fun _ _ h => .inl h⟩
theorem Grow.trans {G H G1 H1 G2 H2 : Hp} (a : Grow G H G1 H1) (b : Grow G1 H1 G2 H2) : Grow G H G2 H2 :=
  ⟨a.g.trans b.g, a.h.trans b.h, b.sub, fun x o q => by
    rcases b.new x o q with h | h
    · exact a.new x o h
    · exact .inr (a.h.free h)⟩
/-- a new object that is data -/
theorem Grow.laid {G H : Hp} (s : Ext G H) {a : Addr} (h : H a = none) (o : HO) : Grow G H (upd G a o) (upd H a o) := by
  refine ⟨.upd (s.free h), .upd h, fun b u q => ?_, fun b u q => ?_⟩
  · by_cases e : b = a
    · subst e; rw [upd_same] at q ⊢; exact q
    · rw [upd_ne e] at q ⊢; exact s _ _ q
  · by_cases e : b = a
    · subst e; exact .inr h
    · rw [upd_ne e] at q; exact .inl q
/-- a new object that is none of the data's -/
theorem Grow.side {G H : Hp} (s : Ext G H) {a : Addr} (h : H a = none) (o : HO) : Grow G H G (upd H a o) :=
  ⟨.refl, .upd h, s.trans (.upd h), fun _ _ q => .inl q⟩
theorem Grow.keeps {G H G' H' : Hp} (a : Grow G H G' H') {l : Addr} {o : HO} (hl : H l = some o) (gl : G l = none) : H' l = some o ∧ G' l = none := by
  refine ⟨a.h _ _ hl, ?_⟩
  cases q : G' l with
  | none => rfl
  | some u =>
    rcases a.new l u q with h | h
    · rw [gl] at h; cases h
    · rw [hl] at h; cases h
/-- one may always start from less data -/
theorem Grow.less {G0 G H G' H' : Hp} (a : Grow G H G' H') (s : Ext G0 G) (n : ∀ x o, G x = some o → G0 x = some o ∨ H x = none) : Grow G0 H G' H' :=
  ⟨s.trans a.g, a.h, a.sub, fun x o q => by
    rcases a.new x o q with h | h
    · exact n x o h
    · exact .inr h⟩
inductive Sl where
  /-- nothing is known -/
  | no
  /-- data -/
  | dat (d : D)
  /-- a list of one's own -/
  | own (xs : List D)
  /-- a list of one's own, of lists of one's own -/
  | own2 (xss : List (List D))
  /-- an instance of one's own, being made -/
  | ins (c : Cl) (fs : List (Nm × D))
  /-- the exception that an except suite handles -/
  | exn (e : Err)
  /-- a class of one's own, by itself -/
  | cls (c : Cl)
  /-- a list lent by the caller: it stood at the entry, it is read only -/
  | bor (xs : List D)
def Sl.mine : Sl → Bool
  | .own _ => true
  | .own2 _ => true
  | .ins _ _ => true
  | _ => false
abbrev Ev := List Sl
/-- the entry: its data, its heap; the exception at hand -/
structure Base where
  G : Hp
  H : Hp
  xa : Option (Addr × Value × Option Addr)
  me : Option (Addr × Addr)
  /-- how a return is asked for: 0 data, 1 a list that nobody else knows, 2 one of such lists -/
  fr : Nat
/-- an error as it flies -/
def ErrOk (K : PySem.W.Frag) (G H : Hp) (cls : Value) (dx : Option Addr) (e : Err) : Prop :=
  cls = .ref (ca K e.cls) ∧ XtF K e.cls e.fs ∧ ((e.fs = [] ∧ dx = none) ∨ ∃ d fv, dx = some d ∧ H d = some (.xd fv) ∧ RepF K G fv e.fs)
theorem ErrOk.mono {K : PySem.W.Frag} {G G' H H' : Hp} {cls : Value} {dx : Option Addr} {e : Err} (g : Ext G G') (h : ∀ d fv, H d = some (.xd fv) → H' d = some (.xd fv)) (k : ErrOk K G H cls dx e) : ErrOk K G' H' cls dx e := by
  obtain ⟨k1, k2, k3⟩ := k
  refine ⟨k1, k2, ?_⟩
  rcases k3 with k3 | ⟨d, fv, e1, e2, r⟩
  · exact .inl k3
  · exact .inr ⟨d, fv, e1, h _ _ e2, r.mono g⟩
/-- rows that nobody else knows -/
def RowsOk (K : PySem.W.Frag) (B : Base) (G H : Hp) : List Addr → List (List D) → Prop
  | [], [] => True
  | a :: ls, xs :: xss => (∃ vs, H a = some (.lst vs) ∧ Reps K G vs xs ∧ G a = none ∧ B.H a = none) ∧ RowsOk K B G H ls xss
  | _, _ => False
def SlotOk (K : PySem.W.Frag) (B : Base) (G H : Hp) : Option (Option V) → Sl → Prop
  | _, .no => True
  | v, .dat d => ∃ x, v = some (some x) ∧ Rep K G x d
  | v, .own xs => ∃ l vs, v = some (some (.ref l)) ∧ H l = some (.lst vs) ∧ Reps K G vs xs ∧ G l = none ∧ B.H l = none
  | v, .own2 xss => ∃ (l : Addr) (ls : List Addr), v = some (some (.ref l)) ∧ H l = some (.lst (ls.map V.ref)) ∧ RowsOk K B G H ls xss ∧ G l = none ∧ B.H l = none ∧ (l :: ls).Nodup
  | v, .ins c fs => ∃ l dx fv, v = some (some (.ref l)) ∧ H l = some (.ins (ca K c) dx fv) ∧ AtF K c fs ∧ RepF K G fv fs ∧ G l = none ∧ B.H l = none ∧ B.me = some (l, dx)
  | v, .exn er => ∃ a cls dx, B.xa = some (a, cls, dx) ∧ v = some (some (.ref a)) ∧ ErrOk K G H cls dx er
  | v, .cls c => v = some (some (.ref (ca K c)))
  | v, .bor xs => ∃ l vs, v = some (some (.ref l)) ∧ B.H l = some (.lst vs) ∧ Reps K G vs xs
/-- what a slot alone knows -/
def foot (H : Hp) : Option (Option V) → Sl → Addr → Prop
  | some (some (.ref l)), .own _, a => a = l
  | some (some (.ref l)), .ins _ _, a => a = l
  | some (some (.ref l)), .own2 _, a => a = l ∨ ∃ ls : List Addr, H l = some (.lst (ls.map V.ref)) ∧ a ∈ ls
  | _, _, _ => False
structure EnvOk (K : PySem.W.Frag) (B : Base) (G : Hp) (σ : St) (ρ : Ev) (H : Hp) : Prop where
  grow : Grow B.G B.H G H
  len : σ.length = ρ.length
  slot : ∀ (i : Nat) (s : Sl), ρ[i]? = some s → SlotOk K B G H σ[i]? s
  sep : ∀ (i j : Nat) (s t : Sl), ρ[i]? = some s → ρ[j]? = some t → i ≠ j → ∀ a, foot H σ[i]? s a → ¬ foot H σ[j]? t a
section
variable {K : PySem.W.Frag} {B : Base} {G G' H H' : Hp} {σ : St} {ρ : Ev}
theorem RowsOk.grow (g : Grow G H G' H') : ∀ {ls : List Addr} {xss : List (List D)}, RowsOk K B G H ls xss → RowsOk K B G' H' ls xss
  | [], [], _ => trivial
  | _ :: _, _ :: _, ⟨⟨vs, h1, r, g1, b1⟩, h⟩ => by
    obtain ⟨k1, k2⟩ := g.keeps h1 g1
    exact ⟨⟨vs, k1, r.mono g.g, k2, b1⟩, RowsOk.grow g h⟩
  | [], _ :: _, h => h
  | _ :: _, [], h => h
theorem RowsOk.at : ∀ {ls : List Addr} {xss : List (List D)} {a : Addr}, RowsOk K B G H ls xss → a ∈ ls → ∃ vs xs, H a = some (.lst vs) ∧ Reps K G vs xs ∧ G a = none ∧ B.H a = none
  | b :: ls, xs :: xss, a, ⟨⟨vs, h1, r, g1, b1⟩, h⟩, m => by
    rcases List.mem_cons.mp m with e | m
    · subst e; exact ⟨vs, xs, h1, r, g1, b1⟩
    · exact RowsOk.at h m
  | [], _, _, _, m => by cases m
  | _ :: _, [], _, h, _ => h.elim
theorem RowsOk.get : ∀ {ls : List Addr} {xss : List (List D)} {i : Nat} {xs : List D}, RowsOk K B G H ls xss → xss[i]? = some xs → ∃ a vs, ls[i]? = some a ∧ H a = some (.lst vs) ∧ Reps K G vs xs ∧ G a = none ∧ B.H a = none
  | _ :: _, _ :: _, 0, xs, ⟨⟨vs, h1, r, g1, b1⟩, h⟩, e => by
    cases e
    exact ⟨_, vs, rfl, h1, r, g1, b1⟩
  | _ :: _, _ :: _, i + 1, xs, ⟨_, h⟩, e => RowsOk.get (i := i) h e
  | [], [], _, _, _, e => by simp at e
  | [], _ :: _, _, _, h, _ => h.elim
  | _ :: _, [], _, _, h, _ => h.elim
theorem RowsOk.length : ∀ {ls : List Addr} {xss : List (List D)}, RowsOk K B G H ls xss → ls.length = xss.length
  | [], [], _ => rfl
  | _ :: _, _ :: _, ⟨_, h⟩ => by rw [List.length_cons, List.length_cons, RowsOk.length h]
  | [], _ :: _, h => h.elim
  | _ :: _, [], h => h.elim
/-- the heap changes elsewhere -/
theorem RowsOk.other {a : Addr} {o : HO} : ∀ {ls : List Addr} {xss : List (List D)}, RowsOk K B G H ls xss → a ∉ ls → RowsOk K B G (upd H a o) ls xss
  | [], [], _, _ => trivial
  | b :: ls, _ :: _, ⟨⟨vs, h1, r, g1, b1⟩, h⟩, m => by
    rw [List.mem_cons, not_or] at m
    exact ⟨⟨vs, by rw [upd_ne (fun z => m.1 z.symm)]; exact h1, r, g1, b1⟩, RowsOk.other h m.2⟩
  | [], _ :: _, h, _ => h
  | _ :: _, [], h, _ => h
/-- one row changes -/
theorem RowsOk.put {us : List V} {ys : List D} (r : Reps K G us ys) : ∀ {ls : List Addr} {xss : List (List D)} {i : Nat} {a : Addr}, RowsOk K B G H ls xss → ls[i]? = some a → ls.Nodup → RowsOk K B G (upd H a (.lst us)) ls (xss.set i ys)
  | b :: ls, _ :: _, 0, a, ⟨⟨vs, h1, _, g1, b1⟩, h⟩, e, n => by
    cases e
    rw [List.nodup_cons] at n
    exact ⟨⟨us, upd_same, r, g1, b1⟩, RowsOk.other h n.1⟩
  | b :: ls, _ :: _, i + 1, a, ⟨⟨vs, h1, r1, g1, b1⟩, h⟩, e, n => by
    rw [List.nodup_cons] at n
    have e : ls[i]? = some a := e
    have m : a ∈ ls := List.mem_of_getElem? e
    exact ⟨⟨vs, by rw [upd_ne (fun z => n.1 (by rw [z]; exact m))]; exact h1, r1, g1, b1⟩, RowsOk.put r h e n.2⟩
  | [], _, _, _, _, e, _ => by simp at e
  | _ :: _, [], _, _, h, _, _ => h.elim
theorem RowsOk.snoc {a : Addr} {vs : List V} {xs : List D} (h1 : H a = some (.lst vs)) (r : Reps K G vs xs) (g1 : G a = none) (b1 : B.H a = none) : ∀ {ls : List Addr} {xss : List (List D)}, RowsOk K B G H ls xss → RowsOk K B G H (ls ++ [a]) (xss ++ [xs])
  | [], [], _ => ⟨⟨vs, h1, r, g1, b1⟩, trivial⟩
  | _ :: _, _ :: _, ⟨z, h⟩ => ⟨z, RowsOk.snoc h1 r g1 b1 h⟩
  | [], _ :: _, h => h.elim
  | _ :: _, [], h => h.elim
theorem map_ref_inj {ls ms : List Addr} (h : ls.map V.ref = ms.map V.ref) : ls = ms := by
  induction ls generalizing ms with
  | nil => cases ms with
    | nil => rfl
    | cons _ _ => cases h
  | cons a ls ih => cases ms with
    | nil => cases h
    | cons b ms =>
      rw [List.map_cons, List.map_cons] at h
      injection h with e h
      cases e
      rw [ih h]
/-- what is a slot's alone stands in the heap, is no data, was not there at the entry -/
theorem foot_some {v : Option (Option V)} {s : Sl} {a : Addr} (h : SlotOk K B G H v s) (f : foot H v s a) : G a = none ∧ B.H a = none ∧ ∃ o, H a = some o ∧ ∀ fv, o ≠ .xd fv := by
  cases s with
  | no => cases v with
    | none => cases f
    | some w => cases w with
      | none => cases f
      | some w => cases w <;> cases f
  | dat d => cases v with
    | none => cases f
    | some w => cases w with
      | none => cases f
      | some w => cases w <;> cases f
  | exn e => cases v with
    | none => cases f
    | some w => cases w with
      | none => cases f
      | some w => cases w <;> cases f
  | cls c => cases v with
    | none => cases f
    | some w => cases w with
      | none => cases f
      | some w => cases w <;> cases f
  | bor xs => cases v with
    | none => cases f
    | some w => cases w with
      | none => cases f
      | some w => cases w <;> cases f
  | own xs =>
    obtain ⟨l, vs, rfl, hl, r, gl, bl⟩ := h
    have e : a = l := f
    subst e
    exact ⟨gl, bl, _, hl, fun fv z => by cases z⟩
  | ins c fs =>
    obtain ⟨l, dx, fv, rfl, hl, af, r, gl, bl, me⟩ := h
    have e : a = l := f
    subst e
    exact ⟨gl, bl, _, hl, fun fv z => by cases z⟩
  | own2 xss =>
    obtain ⟨l, ls, rfl, hl, r, gl, bl, nd⟩ := h
    rcases (show a = l ∨ ∃ ls : List Addr, H l = some (.lst (ls.map V.ref)) ∧ a ∈ ls from f) with e | ⟨ms, hm, m⟩
    · subst e
      exact ⟨gl, bl, _, hl, fun fv z => by cases z⟩
    · rw [hl] at hm
      injection hm with hm
      injection hm with hm
      have e := map_ref_inj hm
      subst e
      obtain ⟨vs, xs, h1, r1, g1, b1⟩ := r.at m
      exact ⟨g1, b1, _, h1, fun fv z => by cases z⟩
theorem foot_grow {v : Option (Option V)} {s : Sl} {a : Addr} (h : SlotOk K B G H v s) (g : Ext H H') (f : foot H' v s a) : foot H v s a := by
  cases s with
  | own2 xss =>
    obtain ⟨l, ls, rfl, hl, r, gl, bl, nd⟩ := h
    rcases (show a = l ∨ ∃ ls : List Addr, H' l = some (.lst (ls.map V.ref)) ∧ a ∈ ls from f) with e | ⟨ms, hm, m⟩
    · exact .inl e
    · rw [g _ _ hl] at hm
      exact .inr ⟨ms, by rw [hl, hm], m⟩
  | own xs =>
    obtain ⟨l, vs, rfl, hl, r, gl, bl⟩ := h
    exact f
  | ins c fs =>
    obtain ⟨l, dx, fv, rfl, hl, af, r, gl, bl, me⟩ := h
    exact f
  | no => cases v with
    | none => cases f
    | some w => cases w with
      | none => cases f
      | some w => cases w <;> cases f
  | dat d => cases v with
    | none => cases f
    | some w => cases w with
      | none => cases f
      | some w => cases w <;> cases f
  | exn e => cases v with
    | none => cases f
    | some w => cases w with
      | none => cases f
      | some w => cases w <;> cases f
  | cls c => cases v with
    | none => cases f
    | some w => cases w with
      | none => cases f
      | some w => cases w <;> cases f
  | bor xs => cases v with
    | none => cases f
    | some w => cases w with
      | none => cases f
      | some w => cases w <;> cases f
theorem foot_no {v : Option (Option V)} {a : Addr} : ¬ foot H v .no a := fun f => by
  cases v with
  | none => cases f
  | some w => cases w with
    | none => cases f
    | some w => cases w <;> cases f
theorem foot_dat {v : Option (Option V)} {d : D} {a : Addr} : ¬ foot H v (.dat d) a := fun f => by
  cases v with
  | none => cases f
  | some w => cases w with
    | none => cases f
    | some w => cases w <;> cases f
theorem foot_cls {v : Option (Option V)} {d : Cl} {a : Addr} : ¬ foot H v (.cls d) a := fun f => by
  cases v with
  | none => cases f
  | some w => cases w with
    | none => cases f
    | some w => cases w <;> cases f
theorem foot_bor {v : Option (Option V)} {d : List D} {a : Addr} : ¬ foot H v (.bor d) a := fun f => by
  cases v with
  | none => cases f
  | some w => cases w with
    | none => cases f
    | some w => cases w <;> cases f
theorem foot_exn {v : Option (Option V)} {d : Err} {a : Addr} : ¬ foot H v (.exn d) a := fun f => by
  cases v with
  | none => cases f
  | some w => cases w with
    | none => cases f
    | some w => cases w <;> cases f
theorem SlotOk.grow {v : Option (Option V)} {s : Sl} (g : Grow G H G' H') (h : SlotOk K B G H v s) : SlotOk K B G' H' v s := by
  cases s with
  | no => trivial
  | dat d =>
    obtain ⟨x, e, r⟩ := h
    exact ⟨x, e, r.mono g.g⟩
  | own xs =>
    obtain ⟨l, vs, e, hl, r, gl, bl⟩ := h
    obtain ⟨k1, k2⟩ := g.keeps hl gl
    exact ⟨l, vs, e, k1, r.mono g.g, k2, bl⟩
  | own2 xss =>
    obtain ⟨l, ls, e, hl, r, gl, bl, nd⟩ := h
    obtain ⟨k1, k2⟩ := g.keeps hl gl
    exact ⟨l, ls, e, k1, r.grow g, k2, bl, nd⟩
  | ins c fs =>
    obtain ⟨l, dx, fv, e, hl, af, r, gl, bl⟩ := h
    obtain ⟨k1, k2⟩ := g.keeps hl gl
    exact ⟨l, dx, fv, e, k1, af, r.mono g.g, k2, bl⟩
  | exn er =>
    obtain ⟨a, cls, dx, e1, e2, e3⟩ := h
    exact ⟨a, cls, dx, e1, e2, e3.mono g.g fun _ _ => g.h _ _⟩
  | cls c => exact h
  | bor xs =>
    obtain ⟨l, vs, e, b, r⟩ := h
    exact ⟨l, vs, e, b, r.mono g.g⟩
theorem EnvOk.growN (e : EnvOk K B G σ ρ H) (g : Grow G H G' H') : EnvOk K B G' σ ρ H' :=
  ⟨e.grow.trans g, e.len, fun i s q => (e.slot i s q).grow g, fun i j s t q1 q2 n a f1 f2 => e.sep i j s t q1 q2 n a (foot_grow (e.slot i s q1) g.h f1) (foot_grow (e.slot j t q2) g.h f2)⟩
theorem EnvOk.sub (e : EnvOk K B G σ ρ H) : Ext G H := e.grow.sub
/-- the same, seen from the data at hand -/
def Base.at (B : Base) (G : Hp) : Base := { B with G := G }
theorem RowsOk.base {B' : Base} (hb : B'.H = B.H) : ∀ {ls : List Addr} {xss : List (List D)}, RowsOk K B G H ls xss → RowsOk K B' G H ls xss
  | [], [], _ => trivial
  | _ :: _, _ :: _, ⟨⟨vs, h1, r, g1, b1⟩, h⟩ => ⟨⟨vs, h1, r, g1, by rw [hb]; exact b1⟩, RowsOk.base hb h⟩
  | [], _ :: _, h => h
  | _ :: _, [], h => h
theorem SlotOk.rebase {G1 : Hp} {v : Option (Option V)} {s : Sl} (h : SlotOk K B G H v s) : SlotOk K (B.at G1) G H v s := by
  cases s with
  | own2 xss =>
    obtain ⟨l, ls, e, hl, r, gl, bl, nd⟩ := h
    exact ⟨l, ls, e, hl, RowsOk.base (B := B) (B' := B.at G1) rfl r, gl, bl, nd⟩
  | _ => exact h
theorem SlotOk.unbase {G1 : Hp} {v : Option (Option V)} {s : Sl} (h : SlotOk K (B.at G1) G H v s) : SlotOk K B G H v s := by
  cases s with
  | own2 xss =>
    obtain ⟨l, ls, e, hl, r, gl, bl, nd⟩ := h
    exact ⟨l, ls, e, hl, RowsOk.base (B := B.at G1) (B' := B) rfl r, gl, bl, nd⟩
  | _ => exact h
theorem EnvOk.rebase (e : EnvOk K B G σ ρ H) : EnvOk K (B.at G) G σ ρ H := ⟨⟨.refl, e.grow.h, e.grow.sub, fun _ _ q => .inl q⟩, e.len, fun i s q => (e.slot i s q).rebase, e.sep⟩
theorem EnvOk.unbase {G1 H1 : Hp} (g : Grow B.G B.H G1 H1) (e : EnvOk K (B.at G1) G σ ρ H) : EnvOk K B G σ ρ H := ⟨⟨g.g.trans e.grow.g, e.grow.h, e.grow.sub, fun a o q => by
  rcases e.grow.new a o q with z | z
  · exact g.new a o z
  · exact .inr z⟩, e.len, fun i s q => (e.slot i s q).unbase, e.sep⟩
/-- one slot is set: what it alone knows is nobody else's -/
theorem EnvOk.put (e : EnvOk K B G σ ρ H) (i : Nat) {x : Option V} {s : Sl} (ok : i < ρ.length → SlotOk K B G H (some x) s) (new : ∀ (a : Addr), foot H (some x) s a → ∀ (j : Nat) (t : Sl), j ≠ i → ρ[j]? = some t → ¬ foot H σ[j]? t a) :
    EnvOk K B G (σ.set i x) (ρ.set i s) H := by
  have self : ∀ {u : Sl}, (ρ.set i s)[i]? = some u → u = s ∧ (σ.set i x)[i]? = some x ∧ i < ρ.length := fun {u} q => by
    have hl : i < ρ.length := by
      have := (List.getElem?_eq_some_iff.mp q).1
      rwa [List.length_set] at this
    rw [List.getElem?_set_self hl] at q
    cases q
    exact ⟨rfl, List.getElem?_set_self (by rw [e.len]; exact hl), hl⟩
  refine ⟨e.grow, by rw [List.length_set, List.length_set]; exact e.len, fun j t q => ?_, fun j k t u q1 q2 n a f1 f2 => ?_⟩
  · by_cases h : i = j
    · subst h
      obtain ⟨rfl, e2, hl⟩ := self q
      rw [e2]
      exact ok hl
    · rw [List.getElem?_set_ne h] at q ⊢
      exact e.slot j t q
  · by_cases hj : i = j
    · subst hj
      obtain ⟨rfl, e2, hl⟩ := self q1
      rw [e2] at f1
      rw [List.getElem?_set_ne n] at q2 f2
      exact new a f1 k u (Ne.symm n) q2 f2
    · rw [List.getElem?_set_ne hj] at q1 f1
      by_cases hk : i = k
      · subst hk
        obtain ⟨rfl, e2, hl⟩ := self q2
        rw [e2] at f2
        exact new a f2 j t n q1 f1
      · rw [List.getElem?_set_ne hk] at q2 f2
        exact e.sep j k t u q1 q2 n a f1 f2
/-- a name holds data from now on -/
theorem EnvOk.setDat (e : EnvOk K B G σ ρ H) (i : Nat) {v : V} {d : D} (r : Rep K G v d) : EnvOk K B G (σ.set i (some v)) (ρ.set i (.dat d)) H :=
  e.put i (fun _ => ⟨v, rfl, r⟩) fun a f => (foot_dat f).elim
/-- a name holds what one made and nobody else knows -/
theorem EnvOk.setMine (e : EnvOk K B G σ ρ H) (i : Nat) {l : Addr} {s : Sl} (ok : SlotOk K B G H (some (some (.ref l))) s) (new : ∀ (a : Addr), foot H (some (some (.ref l))) s a → ∀ (j : Nat) (t : Sl), j ≠ i → ρ[j]? = some t → ¬ foot H σ[j]? t a) :
    EnvOk K B G (σ.set i (some (.ref l))) (ρ.set i s) H := e.put i (fun _ => ok) new
/-- nothing of the frame's own stands at an address that is free -/
theorem EnvOk.noMine (e : EnvOk K B G σ ρ H) {l : Addr} (h : H l = none) : ∀ (j : Nat) (t : Sl), ρ[j]? = some t → ¬ foot H σ[j]? t l := fun j t q f => by
  obtain ⟨_, _, o, ho, _⟩ := foot_some (e.slot j t q) f
  rw [h] at ho
  cases ho
/-- nor at one of the data's -/
theorem EnvOk.noMineG (e : EnvOk K B G σ ρ H) {l : Addr} {o : HO} (h : G l = some o) : ∀ (j : Nat) (t : Sl), ρ[j]? = some t → ¬ foot H σ[j]? t l := fun j t q f => by
  obtain ⟨g, _⟩ := foot_some (e.slot j t q) f
  rw [h] at g
  cases g
/-- to forget a name -/
theorem EnvOk.forget (e : EnvOk K B G σ ρ H) (i : Nat) : EnvOk K B G σ (ρ.set i .no) H := by
  have key : ∀ {m : Nat} {u : Sl}, (ρ.set i .no)[m]? = some u → u = .no ∨ ρ[m]? = some u := fun {m u} q => by
    by_cases h : i = m
    · subst h
      have hl : i < ρ.length := by
        have := (List.getElem?_eq_some_iff.mp q).1
        rwa [List.length_set] at this
      rw [List.getElem?_set_self hl] at q
      cases q
      exact .inl rfl
    · rw [List.getElem?_set_ne h] at q
      exact .inr q
  refine ⟨e.grow, by rw [List.length_set]; exact e.len, fun j s q => ?_, fun j k s t q1 q2 n a f1 f2 => ?_⟩
  · rcases key q with rfl | q
    · trivial
    · exact e.slot j s q
  · rcases key q1 with rfl | q1
    · exact foot_no f1
    · rcases key q2 with rfl | q2
      · exact foot_no f2
      · exact e.sep j k s t q1 q2 n a f1 f2
/-- .. where the slot itself is emptied, or changed by others -/
theorem EnvOk.forgetSt (e : EnvOk K B G σ ρ H) (i : Nat) (x : Option V) : EnvOk K B G (σ.set i x) (ρ.set i .no) H :=
  e.put i (fun _ => trivial) fun a f => (foot_no f).elim
/-- the list of one's own at slot i is data from now on (nothing happens) -/
def freeze (i : Nat) (ρ : Ev) : Ev := match ρ[i]? with
  | some (.own xs) => ρ.set i (.dat (.lst xs))
  | some (.own2 xss) => ρ.set i (.dat (.lst (xss.map .lst)))
  | some (.ins c fs) => ρ.set i (.dat (.obj c fs))
  | _ => ρ
/-- what is a slot's alone becomes data -/
theorem EnvOk.toData (e : EnvOk K B G σ ρ H) {i : Nat} {v : V} {d : D} {s : Sl} (hs : ρ[i]? = some s) (hv : σ[i]? = some (some v)) (gg : Ext G G') (new : ∀ b u, G' b = some u → G b = some u ∨ (foot H σ[i]? s b ∧ H b = some u)) (r : Rep K G' v d) :
    EnvOk K B G' σ (ρ.set i (.dat d)) H := by
  have hi : i < ρ.length := (List.getElem?_eq_some_iff.mp hs).1
  have keep : ∀ {j : Nat} {t : Sl} {a : Addr}, i ≠ j → ρ[j]? = some t → foot H σ[j]? t a → G a = none → G' a = none := fun {j t a} n q f g => by
    cases h : G' a with
    | none => rfl
    | some u =>
      rcases new a u h with k | ⟨k, _⟩
      · rw [g] at k; cases k
      · exact absurd f (e.sep i j s t hs q n a k)
  refine ⟨⟨e.grow.g.trans gg, e.grow.h, fun b u q => ?_, fun b u q => ?_⟩, by rw [List.length_set]; exact e.len, fun j t q => ?_, fun j k t u q1 q2 n a f1 f2 => ?_⟩
  · rcases new b u q with h | ⟨_, h⟩
    · exact e.sub _ _ h
    · exact h
  · rcases new b u q with h | ⟨h, _⟩
    · exact e.grow.new _ _ h
    · exact .inr (foot_some (e.slot i s hs) h).2.1
  · by_cases h : i = j
    · subst h
      rw [List.getElem?_set_self hi] at q
      cases q
      exact ⟨_, hv, r⟩
    · rw [List.getElem?_set_ne h] at q
      have z := e.slot j t q
      have kp := fun a => keep (a := a) h q
      cases t with
      | no => trivial
      | dat d' =>
        obtain ⟨x, e1, r1⟩ := z
        exact ⟨x, e1, r1.mono gg⟩
      | own ys =>
        obtain ⟨l', vs, e1, h1, r1, g1, b1⟩ := z
        exact ⟨l', vs, e1, h1, r1.mono gg, kp l' (by rw [e1]; exact rfl) g1, b1⟩
      | own2 yss =>
        obtain ⟨l', ls, e1, h1, r1, g1, b1, nd⟩ := z
        have rows : ∀ {ms : List Addr} {zss : List (List D)}, (∀ a ∈ ms, a ∈ ls) → RowsOk K B G H ms zss → RowsOk K B G' H ms zss := by
          intro ms
          induction ms with
          | nil =>
            intro zss _ rk
            cases zss with
            | nil => trivial
            | cons _ _ => exact rk
          | cons a ms ih =>
            intro zss hm rk
            cases zss with
            | nil => exact rk
            | cons zs zss =>
              obtain ⟨⟨vs, k1, k2, k3, k4⟩, rk⟩ := rk
              exact ⟨⟨vs, k1, k2.mono gg, kp a (by rw [e1]; exact .inr ⟨ls, h1, hm a List.mem_cons_self⟩) k3, k4⟩, ih (fun b hb => hm b (List.mem_cons_of_mem _ hb)) rk⟩
        exact ⟨l', ls, e1, h1, rows (fun _ h => h) r1, kp l' (by rw [e1]; exact .inl rfl) g1, b1, nd⟩
      | ins c fs =>
        obtain ⟨l', dx, fv, e1, h1, af, r1, g1, b1⟩ := z
        exact ⟨l', dx, fv, e1, h1, af, r1.mono gg, kp l' (by rw [e1]; exact rfl) g1, b1⟩
      | exn er =>
        obtain ⟨a, cls, dx, e1, e2, e3⟩ := z
        exact ⟨a, cls, dx, e1, e2, e3.mono gg fun _ _ q => q⟩
      | cls c => exact z
      | bor xs =>
        obtain ⟨l', vs, e1, b1, r1⟩ := z
        exact ⟨l', vs, e1, b1, r1.mono gg⟩
  · have key : ∀ {m : Nat} {w : Sl}, (ρ.set i (.dat d))[m]? = some w → w = .dat d ∨ ρ[m]? = some w := fun {m w} q => by
      by_cases h : i = m
      · subst h
        rw [List.getElem?_set_self hi] at q
        cases q
        exact .inl rfl
      · rw [List.getElem?_set_ne h] at q
        exact .inr q
    rcases key q1 with rfl | q1
    · exact foot_dat f1
    · rcases key q2 with rfl | q2
      · exact foot_dat f2
      · exact e.sep j k t u q1 q2 n a f1 f2
/-- rows of one's own as data: the heap that knows them -/
def layRows (H : Hp) : List Addr → Hp → Hp
  | [], G => G
  | a :: ls, G => match H a with
    | some o => upd (layRows H ls G) a o
    | none => layRows H ls G
theorem layRows_ext : ∀ {ls : List Addr}, (∀ a ∈ ls, G a = none) → Ext G (layRows H ls G)
  | [], _ => .refl
  | a :: ls, h => fun b u q => by
    have ih := layRows_ext (ls := ls) (fun c hc => h c (List.mem_cons_of_mem _ hc)) b u q
    show (match H a with | some o => upd (layRows H ls G) a o | none => layRows H ls G) b = some u
    cases H a with
    | none => exact ih
    | some o =>
      show upd (layRows H ls G) a o b = some u
      rw [upd_ne (fun z => by rw [z, h a List.mem_cons_self] at q; cases q)]
      exact ih
theorem layRows_new : ∀ {ls : List Addr} {b : Addr} {u : HO}, layRows H ls G b = some u → G b = some u ∨ (b ∈ ls ∧ H b = some u)
  | [], _, _, q => .inl q
  | a :: ls, b, u, q => by
    have q : (match H a with | some o => upd (layRows H ls G) a o | none => layRows H ls G) b = some u := q
    cases ha : H a with
    | none =>
      rw [ha] at q
      rcases layRows_new (ls := ls) q with h | ⟨h1, h2⟩
      · exact .inl h
      · exact .inr ⟨List.mem_cons_of_mem _ h1, h2⟩
    | some o =>
      rw [ha] at q
      have q : upd (layRows H ls G) a o b = some u := q
      by_cases e : b = a
      · subst e
        rw [upd_same] at q
        exact .inr ⟨List.mem_cons_self, by rw [ha]; exact q⟩
      · rw [upd_ne e] at q
        rcases layRows_new (ls := ls) q with h | ⟨h1, h2⟩
        · exact .inl h
        · exact .inr ⟨List.mem_cons_of_mem _ h1, h2⟩
theorem layRows_reps {G1 : Hp} (gg : Ext G G1) : ∀ {ls : List Addr} {xss : List (List D)}, RowsOk K B G H ls xss → (∀ a ∈ ls, ∀ o, H a = some o → G1 a = some o) → Reps K G1 (ls.map V.ref) (xss.map .lst)
  | [], [], _, _ => .nil
  | a :: ls, xs :: xss, ⟨⟨vs, h1, r, g1, b1⟩, h⟩, k => .cons (.lst (.inl (k a List.mem_cons_self _ h1)) (r.mono gg)) (layRows_reps gg h fun b hb => k b (List.mem_cons_of_mem _ hb))
  | [], _ :: _, h, _ => h.elim
  | _ :: _, [], h, _ => h.elim
theorem layRows_get : ∀ {ls : List Addr} {a : Addr} {o : HO}, ls.Nodup → a ∈ ls → H a = some o → layRows H ls G a = some o
  | b :: ls, a, o, n, m, ha => by
    rw [List.nodup_cons] at n
    show (match H b with | some o => upd (layRows H ls G) b o | none => layRows H ls G) a = some o
    rcases List.mem_cons.mp m with e | m
    · subst e
      rw [ha]
      exact upd_same
    · have ih := layRows_get n.2 m ha
      cases H b with
      | none => exact ih
      | some u =>
        show upd (layRows H ls G) b u a = some o
        rw [upd_ne (fun z => n.1 (by rw [← z]; exact m))]
        exact ih
  | [], _, _, _, m, _ => by cases m
theorem EnvOk.freeze (e : EnvOk K B G σ ρ H) (i : Nat) : ∃ G', EnvOk K B G' σ (freeze i ρ) H ∧ Ext G G' := by
  have one : ∀ {l : Addr} {o : HO} {s : Sl}, H l = some o → foot H σ[i]? s l → ∀ b u, upd G l o b = some u → G b = some u ∨ (foot H σ[i]? s b ∧ H b = some u) := fun {l o s} hl f b u q => by
    by_cases h : b = l
    · subst h; rw [upd_same] at q; cases q; exact .inr ⟨f, hl⟩
    · rw [upd_ne h] at q; exact .inl q
  unfold PL.freeze
  split
  · rename_i xs hs
    obtain ⟨l, vs, hv, hl, r, gl, bl⟩ := e.slot i _ hs
    exact ⟨_, e.toData hs hv (.upd gl) (one hl (by rw [hv]; exact rfl)) (.lst (.inl upd_same) (r.mono (.upd gl))), .upd gl⟩
  · rename_i xss hs
    obtain ⟨l, ls, hv, hl, r, gl, bl, nd⟩ := e.slot i _ hs
    have nd' := nd
    rw [List.nodup_cons] at nd'
    have g0 : ∀ a ∈ l :: ls, G a = none := fun a ha => by
      rcases List.mem_cons.mp ha with h | h
      · rw [h]; exact gl
      · obtain ⟨_, _, _, _, g1, _⟩ := r.at h
        exact g1
    have gg := layRows_ext (H := H) (ls := l :: ls) g0
    refine ⟨layRows H (l :: ls) G, e.toData hs hv gg (fun b u q => ?_) (.lst (.inl (layRows_get nd List.mem_cons_self hl)) (layRows_reps gg r fun a ha o ho => layRows_get nd (List.mem_cons_of_mem _ ha) ho)), gg⟩
    rcases layRows_new q with h | ⟨h1, h2⟩
    · exact .inl h
    · refine .inr ⟨?_, h2⟩
      rw [hv]
      rcases List.mem_cons.mp h1 with h | h
      · exact .inl h
      · exact .inr ⟨ls, hl, h⟩
  · rename_i c fs hs
    obtain ⟨l, dx, fv, hv, hl, af, r, gl, bl⟩ := e.slot i _ hs
    exact ⟨_, e.toData hs hv (.upd gl) (one hl (by rw [hv]; exact rfl)) (.obj upd_same af (r.mono (.upd gl))), .upd gl⟩
  · exact ⟨G, e, .refl⟩
/-- what is a slot's alone changes -/
theorem EnvOk.change (e : EnvOk K B G σ ρ H) {i : Nat} {l : Addr} {o : HO} {s t : Sl} (hs : ρ[i]? = some s) (fl : foot H σ[i]? s l)
    (ok : SlotOk K B G (upd H l o) σ[i]? t) (ft : ∀ b, foot (upd H l o) σ[i]? t b → foot H σ[i]? s b ∨ ∀ (j : Nat) (u : Sl), j ≠ i → ρ[j]? = some u → ¬ foot H σ[j]? u b) : EnvOk K B G σ (ρ.set i t) (upd H l o) := by
  have hi : i < ρ.length := (List.getElem?_eq_some_iff.mp hs).1
  obtain ⟨gl, bl, o', ho', nx⟩ := foot_some (e.slot i s hs) fl
  have self : ∀ {u : Sl}, (ρ.set i t)[i]? = some u → u = t := fun {u} q => by
    rw [List.getElem?_set_self hi] at q
    cases q
    rfl
  have fo : ∀ {j : Nat} {u : Sl} {b : Addr}, i ≠ j → ρ[j]? = some u → foot (upd H l o) σ[j]? u b → foot H σ[j]? u b := fun {j u b} n q f => by
    cases u with
    | own2 yss =>
      obtain ⟨l', ls, e1, h1, _⟩ := e.slot j _ q
      rw [e1] at f ⊢
      have nl : l' ≠ l := fun z => e.sep i j s _ hs q n l fl (by rw [e1]; exact .inl z.symm)
      rcases (show b = l' ∨ ∃ ls : List Addr, upd H l o l' = some (.lst (ls.map V.ref)) ∧ b ∈ ls from f) with h | ⟨ms, hm, m⟩
      · exact .inl h
      · rw [upd_ne nl] at hm
        exact .inr ⟨ms, hm, m⟩
    | own ys =>
      obtain ⟨l', vs, e1, _⟩ := e.slot j _ q
      rw [e1] at f ⊢
      exact f
    | ins c fs =>
      obtain ⟨l', dx, fv, e1, _⟩ := e.slot j _ q
      rw [e1] at f ⊢
      exact f
    | no => exact (foot_no f).elim
    | dat d => exact (foot_dat f).elim
    | exn d => exact (foot_exn f).elim
    | cls d => exact (foot_cls f).elim
    | bor d => exact (foot_bor f).elim
  refine ⟨⟨e.grow.g, fun b u q => ?_, fun b u q => ?_, e.grow.new⟩, by rw [List.length_set]; exact e.len, fun j u q => ?_, fun j k u w q1 q2 n a f1 f2 => ?_⟩
  · rw [upd_ne (ne_of_none q bl)]; exact e.grow.h _ _ q
  · rw [upd_ne (ne_of_none q gl)]; exact e.sub _ _ q
  · by_cases h : i = j
    · subst h
      rw [self q]
      exact ok
    · rw [List.getElem?_set_ne h] at q
      have z := e.slot j u q
      have nl : ∀ l', foot H σ[j]? u l' → l' ≠ l := fun l' f z => by
        subst z
        exact e.sep i j s u hs q h l' fl f
      cases u with
      | no => trivial
      | dat d' => exact z
      | own ys =>
        obtain ⟨l', vs, e1, h1, r1, g1, b1⟩ := z
        exact ⟨l', vs, e1, by rw [upd_ne (nl l' (by rw [e1]; exact rfl))]; exact h1, r1, g1, b1⟩
      | own2 yss =>
        obtain ⟨l', ls, e1, h1, r1, g1, b1, nd⟩ := z
        refine ⟨l', ls, e1, by rw [upd_ne (nl l' (by rw [e1]; exact .inl rfl))]; exact h1, r1.other fun m => ?_, g1, b1, nd⟩
        exact nl l (by rw [e1]; exact .inr ⟨ls, h1, m⟩) rfl
      | ins c fs =>
        obtain ⟨l', dx, fv, e1, h1, af, r1, g1, b1⟩ := z
        exact ⟨l', dx, fv, e1, by rw [upd_ne (nl l' (by rw [e1]; exact rfl))]; exact h1, af, r1, g1, b1⟩
      | exn er =>
        obtain ⟨a, cls, dx, e1, e2, e3⟩ := z
        refine ⟨a, cls, dx, e1, e2, e3.mono (fun _ _ q => q) fun d fv q => ?_⟩
        have nd : d ≠ l := fun ed => by
          subst ed
          rw [ho'] at q
          cases q
          exact nx fv rfl
        rw [upd_ne nd]; exact q
      | cls c => exact z
      | bor xs => exact z
  · by_cases hj : i = j
    · subst hj
      rw [self q1] at f1
      rw [List.getElem?_set_ne n] at q2
      have f2' := fo n q2 f2
      rcases ft a f1 with h | h
      · exact e.sep i k s w hs q2 n a h f2'
      · exact h k w (Ne.symm n) q2 f2'
    · rw [List.getElem?_set_ne hj] at q1
      have f1' := fo hj q1 f1
      by_cases hk : i = k
      · subst hk
        rw [self q2] at f2
        rcases ft a f2 with h | h
        · exact e.sep i j s u hs q1 hj a h f1'
        · exact h j u n q1 f1'
      · rw [List.getElem?_set_ne hk] at q2
        exact e.sep j k u w q1 q2 n a f1' (fo hk q2 f2)
end
def RG {α β : Type} (R : Hp → β → α → Prop) (K : PySem.W.Frag) (E : XK) (G H : Hp) (Q : β → Hp → Prop) : Res α → Prop
  | .ok a => ∀ G' v H', Grow G H G' H' → R G' v a → Q v H'
  | .exc e => ∀ G' cls dx H', Grow G H G' H' → ErrOk K G' H' cls dx e → E cls dx H'
  | .stuck => False
section
variable {α β γ δ : Type} {R : Hp → β → α → Prop} {R' : Hp → δ → γ → Prop} {K : PySem.W.Frag} {E : XK} {G H G' H' : Hp} {Q : β → Hp → Prop} {Q' : δ → Hp → Prop}
theorem RG.grow {r : Res α} (g : Grow G H G' H') (h : RG R K E G H Q r) : RG R K E G' H' Q r := by
  cases r with
  | ok a => exact fun G2 v H2 g2 r => h G2 v H2 (g.trans g2) r
  | exc e => exact fun G2 c d H2 g2 r => h G2 c d H2 (g.trans g2) r
  | stuck => exact h
theorem RG.bind {r : Res α} {f : α → Res γ} {P : β → Hp → Prop} (h : RG R' K E G H Q' (r >>= f)) (k : ∀ a G1 v H1, Grow G H G1 H1 → R G1 v a → RG R' K E G1 H1 Q' (f a) → P v H1) : RG R K E G H P r := by
  cases r with
  | ok a => exact fun G1 v H1 g r => k a G1 v H1 g r (RG.grow (R := R') g h)
  | exc e => exact h
  | stuck => exact h
theorem RG.imp {r : Res α} {P : β → Hp → Prop} (h : RG R K E G H Q r) (k : ∀ a G1 v H1, r = .ok a → Grow G H G1 H1 → R G1 v a → Q v H1 → P v H1) : RG R K E G H P r := by
  cases r with
  | ok a => exact fun G1 v H1 g r => k a G1 v H1 rfl g r (h G1 v H1 g r)
  | exc e => exact h
  | stuck => exact h
end
/-- where p holds -/
def chk {α : Type} (p : Prop) [Decidable p] (r : Res α) : Res α := if p then r else .stuck
theorem chk_pos {α : Type} {p : Prop} [Decidable p] {r : Res α} (h : p) : chk p r = r := if_pos h
theorem RG.chk {α β : Type} {R : Hp → β → α → Prop} {K : PySem.W.Frag} {E : XK} {G H : Hp} {Q : β → Hp → Prop} {p : Prop} [Decidable p] {r : Res α} (h : RG R K E G H Q (chk p r)) : p ∧ RG R K E G H Q r := by
  unfold PL.chk at h
  by_cases z : p
  · rw [if_pos z] at h; exact ⟨z, h⟩
  · rw [if_neg z] at h; exact h.elim
def ofOpt {α : Type} : Option α → Res α
  | some a => .ok a
  | none => .stuck
@[simp] theorem ofOpt_some {α : Type} (a : α) : ofOpt (some a) = .ok a := rfl
theorem RG.opt {α β : Type} {R : Hp → β → α → Prop} {K : PySem.W.Frag} {E : XK} {G H : Hp} {Q : β → Hp → Prop} {o : Option α} (h : RG R K E G H Q (ofOpt o)) : ∃ a, o = some a ∧ RG R K E G H Q (.ok a) := by
  cases o with
  | some a => exact ⟨a, rfl, h⟩
  | none => exact h.elim
/-- a pure reading: m of the environment -/
def tG {α β : Type} (R : Hp → β → α → Prop) (K : PySem.W.Frag) (B : Base) (W : WX) (m : Ev → Res α) : St → Hp → (β → Hp → Prop) → Prop :=
  fun σ H Q => ∃ G ρ, EnvOk K B G σ ρ H ∧ RG R K (fun c d H' => W c d σ H') G H Q (m ρ)
abbrev tM (K : PySem.W.Frag) (B : Base) (W : WX) (m : Ev → Res D) : TE := tG (Rep K) K B W m
abbrev tMA (K : PySem.W.Frag) (B : Base) (W : WX) (m : Ev → Res (List D)) : TA := tG (Reps K) K B W m
abbrev tMT (K : PySem.W.Frag) (B : Base) (W : WX) (m : Ev → Res Bool) : TT := tG (fun _ b c => b = c) K B W m
inductive Out where
  | nx (ρ : Ev) | rt (d : D) (ρ : Ev) | bk (ρ : Ev) | ct (ρ : Ev) | exc (e : Err) (ρ : Ev) | stuck
/-- what a return gives -/
def RtOk (K : PySem.W.Frag) (B : Base) (G : Hp) (σ : St) (ρ : Ev) (H : Hp) (v : V) (d : D) : Prop := match B.fr with
  | 0 => EnvOk K B G σ ρ H ∧ Rep K G v d
  | 1 => Grow B.G B.H G H ∧ ∃ xs, d = .lst xs ∧ SlotOk K B G H (some (some v)) (.own xs)
  | _ => Grow B.G B.H G H ∧ ∃ xss : List (List D), d = .lst (xss.map .lst) ∧ SlotOk K B G H (some (some v)) (.own2 xss)
theorem RtOk.dat {K : PySem.W.Frag} {B : Base} {G : Hp} {σ : St} {ρ : Ev} {H : Hp} {v : V} {d : D} (h : RtOk K B G σ ρ H v d) (hf : B.fr = 0) : EnvOk K B G σ ρ H ∧ Rep K G v d := by
  unfold RtOk at h
  rw [hf] at h
  exact h
theorem RtOk.ofDat {K : PySem.W.Frag} {B : Base} {G : Hp} {σ : St} {ρ : Ev} {H : Hp} {v : V} {d : D} (hf : B.fr = 0) (e : EnvOk K B G σ ρ H) (r : Rep K G v d) : RtOk K B G σ ρ H v d := by
  unfold RtOk
  rw [hf]
  exact ⟨e, r⟩
theorem RtOk.ofOwn {K : PySem.W.Frag} {B : Base} {G : Hp} {σ : St} {ρ : Ev} {H : Hp} {v : V} {xs : List D} (hf : B.fr = 1) (g : Grow B.G B.H G H) (s : SlotOk K B G H (some (some v)) (.own xs)) : RtOk K B G σ ρ H v (.lst xs) := by
  unfold RtOk
  rw [hf]
  exact ⟨g, xs, rfl, s⟩
theorem RtOk.ofOwn2 {K : PySem.W.Frag} {B : Base} {G : Hp} {σ : St} {ρ : Ev} {H : Hp} {v : V} {xss : List (List D)} (hf : B.fr = 2) (g : Grow B.G B.H G H) (s : SlotOk K B G H (some (some v)) (.own2 xss)) : RtOk K B G σ ρ H v (.lst (xss.map .lst)) := by
  unfold RtOk
  rw [hf]
  exact ⟨g, xss, rfl, s⟩
theorem RtOk.unbase {K : PySem.W.Frag} {B : Base} {G : Hp} {σ : St} {ρ : Ev} {H : Hp} {v : V} {d : D} {G1 H1 : Hp} (g : Grow B.G B.H G1 H1) (h : RtOk K (B.at G1) G σ ρ H v d) : RtOk K B G σ ρ H v d := by
  have gr : Grow G1 B.H G H → Grow B.G B.H G H := fun e => ⟨g.g.trans e.g, e.h, e.sub, fun a o q => by
    rcases e.new a o q with z | z
    · exact g.new a o z
    · exact .inr z⟩
  unfold RtOk at h ⊢
  have ef : (B.at G1).fr = B.fr := rfl
  rw [ef] at h
  cases hf : B.fr with
  | zero =>
    rw [hf] at h
    exact ⟨h.1.unbase g, h.2⟩
  | succ n =>
    rw [hf] at h
    cases n with
    | zero =>
      obtain ⟨h1, xs, h2, h3⟩ := h
      exact ⟨gr h1, xs, h2, h3.unbase⟩
    | succ n =>
      obtain ⟨h1, xs, h2, h3⟩ := h
      exact ⟨gr h1, xs, h2, h3.unbase⟩
def SG (K : PySem.W.Frag) (B : Base) (W : WX) (Dn : Ends) : Out → Prop
  | .nx ρ => ∀ G σ H, EnvOk K B G σ ρ H → Dn.nx σ H
  | .rt d ρ => ∀ G σ H v, RtOk K B G σ ρ H v d → Dn.rt v H
  | .bk ρ => ∀ G σ H, EnvOk K B G σ ρ H → Dn.bk σ H
  | .ct ρ => ∀ G σ H, EnvOk K B G σ ρ H → Dn.ct σ H
  | .exc e ρ => ∀ G σ H c d, EnvOk K B G σ ρ H → ErrOk K G H c d e → W c d σ H
  | .stuck => False
def tS (K : PySem.W.Frag) (B : Base) (W : WX) (m : Ev → Out) : TS := fun Dn σ H => ∃ G ρ, EnvOk K B G σ ρ H ∧ SG K B W Dn (m ρ)
/-- an expression's result, then what follows -/
def Out.of {α : Type} (r : Res α) (ρ : Ev) (f : α → Out) : Out := match r with
  | .ok a => f a
  | .exc e => .exc e ρ
  | .stuck => .stuck
@[simp] theorem Out.of_ok {α : Type} (a : α) (ρ : Ev) (f : α → Out) : Out.of (.ok a) ρ f = f a := rfl
@[simp] theorem Out.of_exc {α : Type} (e : Err) (ρ : Ev) (f : α → Out) : Out.of (.exc e : Res α) ρ f = .exc e ρ := rfl
@[simp] theorem Out.of_stuck {α : Type} (ρ : Ev) (f : α → Out) : Out.of (.stuck : Res α) ρ f = .stuck := rfl
/-- .. the environment as it is handed on -/
def Out.then (o : Out) (f : Ev → Out) : Out := match o with
  | .nx ρ => f ρ
  | o => o
@[simp] theorem Out.then_nx (ρ : Ev) (f : Ev → Out) : (Out.nx ρ).then f = f ρ := rfl
@[simp] theorem Out.then_rt (d : D) (ρ : Ev) (f : Ev → Out) : (Out.rt d ρ).then f = .rt d ρ := rfl
@[simp] theorem Out.then_bk (ρ : Ev) (f : Ev → Out) : (Out.bk ρ).then f = .bk ρ := rfl
@[simp] theorem Out.then_ct (ρ : Ev) (f : Ev → Out) : (Out.ct ρ).then f = .ct ρ := rfl
@[simp] theorem Out.then_exc (e : Err) (ρ : Ev) (f : Ev → Out) : (Out.exc e ρ).then f = .exc e ρ := rfl
@[simp] theorem Out.then_stuck (f : Ev → Out) : Out.stuck.then f = .stuck := rfl
section
variable {α β : Type} {R : Hp → β → α → Prop} {K : PySem.W.Frag} {B : Base} {W : WX} {G H : Hp} {σ : St} {ρ : Ev} {Dn : Ends}
/-- from a statement's end to its expression's -/
theorem SG.of {r : Res α} {f : α → Out} {P : β → Hp → Prop} (e : EnvOk K B G σ ρ H) (h : SG K B W Dn (Out.of r ρ f)) (k : ∀ a G1 v H1, r = .ok a → Grow G H G1 H1 → EnvOk K B G1 σ ρ H1 → R G1 v a → SG K B W Dn (f a) → P v H1) :
    RG R K (fun c d H' => W c d σ H') G H P r := by
  cases r with
  | ok a => exact fun G1 v H1 g r => k a G1 v H1 rfl g (e.growN g) r h
  | exc x => exact fun G1 c d H1 g r => h G1 σ H1 c d (e.growN g) r
  | stuck => exact h
theorem SG.then {o : Out} {f : Ev → Out} {N : St → Hp → Prop} (h : SG K B W Dn (o.then f)) (k : ∀ ρ' G σ H, EnvOk K B G σ ρ' H → SG K B W Dn (f ρ') → N σ H) : SG K B W { Dn with nx := N } o := by
  cases o with
  | nx ρ => exact fun G σ H e => k ρ G σ H e h
  | rt d ρ => exact h
  | bk ρ => exact h
  | ct ρ => exact h
  | exc e ρ => exact h
  | stuck => exact h
end
/-- a reading that asks more -/
theorem PE.imp {X : Cx} {e : Expr} {t t' : TE} (h : PE X e t) (k : ∀ σ H Q, t' σ H Q → t σ H Q) : PE X e t' := ⟨fun pins s σ H Q I q => h.run pins s σ H Q I (k σ H Q q)⟩
theorem PT.imp {X : Cx} {e : Expr} {t t' : TT} (h : PT X e t) (k : ∀ σ H Q, t' σ H Q → t σ H Q) : PT X e t' := ⟨fun pins s σ H Q I q => h.run pins s σ H Q I (k σ H Q q)⟩
theorem PW.imp {X : Cx} {e : Expr} {t t' : TT} (h : PW X e t) (k : ∀ σ H Q, t' σ H Q → t σ H Q) : PW X e t' := ⟨fun w pins s σ H Q I q => h.run w pins s σ H Q I (k σ H Q q)⟩
theorem PA.imp {X : Cx} {e : List Expr} {t t' : TA} (h : PA X e t) (k : ∀ σ H Q, t' σ H Q → t σ H Q) : PA X e t' := ⟨fun p pins s σ H Q I q => h.run p pins s σ H Q I (k σ H Q q)⟩
theorem PS.imp {X : Cx} {e : Stmt} {t t' : TS} (h : PS X e t) (k : ∀ Dn σ H, t' Dn σ H → t Dn σ H) : PS X e t' := ⟨fun pins s σ H Dn I q => h.run pins s σ H Dn I (k Dn σ H q)⟩
theorem PSs.imp {X : Cx} {e : List Stmt} {t t' : TS} (h : PSs X e t) (k : ∀ Dn σ H, t' Dn σ H → t Dn σ H) : PSs X e t' := ⟨fun pins s σ H Dn I q => h.run pins s σ H Dn I (k Dn σ H q)⟩
end PL
namespace PL
open PySem PySem.Spec L2
theorem RG.any {α β : Type} {R : Hp → β → α → Prop} {K : PySem.W.Frag} {E E' : XK} {G H : Hp} {Q : β → Hp → Prop} {r : Res α} (hn : ∀ e, r ≠ .exc e) (h : RG R K E G H Q r) : RG R K E' G H Q r := by
  cases r with
  | ok a => exact h
  | exc e => exact absurd rfl (hn e)
  | stuck => exact h
theorem RG.here {K : PySem.W.Frag} {E : XK} {G H : Hp} {Q : VK} {d : D} {v : V} (s : Ext G H) (h : RG (Rep K) K E G H Q (.ok d)) (r : Rep K G v d) : Q v H := h G v H (.refl s) r
/-- what is new: a list, a tuple -/
theorem RG.newL {K : PySem.W.Frag} {E : XK} {G H : Hp} {Q : VK} {ds : List D} {vs : List V} (s : Ext G H) (h : RG (Rep K) K E G H Q (.ok (.lst ds))) (r : Reps K G vs ds) : ∀ p, H p = none → Q (.ref p) (upd H p (.lst vs)) := fun p hp =>
  h _ _ _ (.laid s hp _) (.lst (.inl upd_same) (r.mono (.upd (s.free hp))))
theorem RG.newT {K : PySem.W.Frag} {E : XK} {G H : Hp} {Q : VK} {ds : List D} {vs : List V} (s : Ext G H) (h : RG (Rep K) K E G H Q (.ok (.tup ds))) (r : Reps K G vs ds) : ∀ p, H p = none → Q (.ref p) (upd H p (.tup vs)) := fun p hp =>
  h _ _ _ (.laid s hp _) (.tup (.of upd_same) (r.mono (.upd (s.free hp))))
/-- f: binaryOp op, compareOp op ..; m: what it is worth -/
def OpM (X : Cx) (W : WX) (f : Value → Value → Sem Value) (m : D → D → Res D) : Prop :=
  ∀ (pins : List (Addr × Obj)) (s : Shared) (σ : St) (G H : Hp) (x y : V) (v u : Value) (a b : D) (Q : VK), Inv X pins σ H s → RelV x v → RelV y u → Ext G H → Rep X.K G x a → Rep X.K G y b →
    RG (Rep X.K) X.K (fun c d H' => W c d σ H') G H Q (m a b) → wpAny (model X.prog X.w) X.A (f v u) (EP X pins σ Q) X.xe s
def UnM (X : Cx) (W : WX) (f : Value → Sem Value) (m : D → Res D) : Prop :=
  ∀ (pins : List (Addr × Obj)) (s : Shared) (σ : St) (G H : Hp) (x : V) (v : Value) (a : D) (Q : VK), Inv X pins σ H s → RelV x v → Ext G H → Rep X.K G x a →
    RG (Rep X.K) X.K (fun c d H' => W c d σ H') G H Q (m a) → wpAny (model X.prog X.w) X.A (f v) (EP X pins σ Q) X.xe s
def CallM (X : Cx) (W : WX) (f : Value) (m : List D → Res D) : Prop :=
  ∀ (pins : List (Addr × Obj)) (s : Shared) (σ : St) (G H : Hp) (xs : List V) (us : List Value) (ds : List D) (Q : VK), Inv X pins σ H s → Vals xs us → Ext G H → Reps X.K G xs ds →
    RG (Rep X.K) X.K (fun c d H' => W c d σ H') G H Q (m ds) → wpAny (model X.prog X.w) X.A (call f us) (EP X pins σ Q) X.xe s
section
variable {X : Cx} {W : WX} {f : Value → Value → Sem Value} {g : Value → Sem Value}
theorem OpM.of {r : R2} {m : D → D → Res D} (h : OpR X f r) (k : ∀ G H x y a b Q (E : XK), Ext G H → Rep X.K G x a → Rep X.K G y b → RG (Rep X.K) X.K E G H Q (m a b) → r x y H Q) : OpM X W f m :=
  fun pins s σ G H x y v u a b Q I rx ry e ra rb q => h pins s σ H x y v u Q I rx ry (k G H x y a b Q _ e ra rb q)
theorem UnM.of {r : V → Hp → VK → Prop} {m : D → Res D} (h : UnR X g r) (k : ∀ G H x a Q (E : XK), Ext G H → Rep X.K G x a → RG (Rep X.K) X.K E G H Q (m a) → r x H Q) : UnM X W g m :=
  fun pins s σ G H x v a Q I rx e ra q => h pins s σ H x v Q I rx (k G H x a Q _ e ra q)
theorem CallM.of {c : Value} {r : List V → Hp → VK → Prop} {m : List D → Res D} (h : CallR X c r) (k : ∀ G H xs ds Q (E : XK), Ext G H → Reps X.K G xs ds → RG (Rep X.K) X.K E G H Q (m ds) → r xs H Q) : CallM X W c m :=
  fun pins s σ G H xs us ds Q I rx e ra q => h pins s σ H xs us Q I rx (k G H xs ds Q _ e ra q)
/-- by one rule here, by another one there -/
theorem OpM.or {m m' : D → D → Res D} (h : OpM X W f m) (h' : OpM X W f m') (c : D → D → Bool) : OpM X W f (fun a b => if c a b then m a b else m' a b) :=
  fun pins s σ G H x y v u a b Q I rx ry e ra rb q => by
    by_cases z : c a b = true
    · exact h pins s σ G H x y v u a b Q I rx ry e ra rb (by simpa only [z, if_true] using q)
    · exact h' pins s σ G H x y v u a b Q I rx ry e ra rb (by simpa only [z, if_false, Bool.false_eq_true] using q)
end
/-- an operator that neither raises nor calls -/
def OpP (X : Cx) (f : Value → Value → Sem Value) (m : D → D → Res D) : Prop :=
  ∃ r : R2, OpR X f r ∧ ∀ G H x y a b Q (E : XK), Ext G H → Rep X.K G x a → Rep X.K G y b → RG (Rep X.K) X.K E G H Q (m a b) → r x y H Q
theorem OpP.m {X : Cx} {W : WX} {f : Value → Value → Sem Value} {m : D → D → Res D} (h : OpP X f m) : OpM X W f m := by
  obtain ⟨r, h1, h2⟩ := h
  exact OpM.of h1 h2
def mVar (i : Nat) : Ev → Res D := fun ρ => match ρ[i]? with
  | some (.dat d) => .ok d
  | _ => .stuck
def mCon (d : D) : Ev → Res D := fun _ => .ok d
def mOp (f : D → D → Res D) (ma mb : Ev → Res D) : Ev → Res D := fun ρ => ma ρ >>= fun a => mb ρ >>= fun b => f a b
def mUn (f : D → Res D) (ma : Ev → Res D) : Ev → Res D := fun ρ => ma ρ >>= f
/-- one's own list, read where nobody keeps it -/
def mOwn (i : Nat) (f : List D → Res D) : Ev → Res D := fun ρ => match ρ[i]? with
  | some (.own xs) => f xs
  | some (.dat (.lst xs)) => f xs
  | _ => .stuck
section
variable {X : Cx} {B : Base} {W : WX} {a b c : Expr} {ma mb mc : Ev → Res D} {pos : Pos}
theorem me_of {e : Expr} {t : TE} {m : Ev → Res D} (h : PE X e t) (k : ∀ G ρ σ H Q, EnvOk X.K B G σ ρ H → RG (Rep X.K) X.K (fun c d H' => W c d σ H') G H Q (m ρ) → t σ H Q) : PE X e (tM X.K B W m) :=
  PE.imp h fun σ H Q ⟨G, ρ, e, q⟩ => k G ρ σ H Q e q
theorem me_var (i : Nat) {x : Str} (hN : X.N[i]? = some x := by rfl) (hv : Vis X.env.scope x := by first | exact Or.inl rfl | exact Or.inr (Or.inl rfl) | exact Or.inr (Or.inr rfl)) (hd : (x == ("__debug__" : Str)) = false := by decide)
    (hcd : (x == ("__classdict__" : Str)) = false := by decide) : PE X (.Name x pos) (tM X.K B W (mVar i)) :=
  me_of (pe_var (i := i) hN hv hd hcd) fun G ρ σ H Q e q => by
    unfold mVar at q
    split at q
    · rename_i d hs
      obtain ⟨v, hv, r⟩ := e.slot i _ hs
      exact ⟨v, hv, RG.here e.sub q r⟩
    · exact q.elim
theorem me_con {e : Expr} {v : V} {d : D} (h : PE X e (tC v)) (r : ∀ G, Rep X.K G v d) : PE X e (tM X.K B W (mCon d)) :=
  me_of h fun _ _ _ _ _ e q => RG.here e.sub q (r _)
theorem me_int {i : Int} {j : Nat} : PE X (.Constant (.int i) j pos) (tM X.K B W (mCon (.int i))) := me_con pe_int fun _ => .int i
theorem me_bl {k : Bool} {j : Nat} : PE X (.Constant (.bool k) j pos) (tM X.K B W (mCon (.bl k))) := me_con pe_bl fun _ => .bl k
theorem me_non {j : Nat} : PE X (.Constant .none j pos) (tM X.K B W (mCon .non)) := me_con pe_non fun _ => .non
theorem me_str {x : Str} {j : Nat} : PE X (.Constant (.str x) j pos) (tM X.K B W (mCon (.str x))) := me_con pe_str fun _ => .str x
/-- a module's constant -/
theorem me_gint {x : Str} {i : Int} (hg : Gl X x) (hm : ∃ t, X.mg x = some (.int i t)) (hd : (x == ("__debug__" : Str)) = false := by decide) : PE X (.Name x pos) (tM X.K B W (mCon (.int i))) := by
  obtain ⟨t, hm⟩ := hm
  exact me_con (pe_glob (v := .int i) hg hm ⟨t, rfl⟩ hd) fun _ => .int i
theorem me_gstr {x z : Str} (hg : Gl X x) (hm : ∃ t, X.mg x = some (.str z t)) (hd : (x == ("__debug__" : Str)) = false := by decide) : PE X (.Name x pos) (tM X.K B W (mCon (.str z))) := by
  obtain ⟨t, hm⟩ := hm
  exact me_con (pe_glob (v := .str z) hg hm ⟨t, rfl⟩ hd) fun _ => .str z
/-- .. a list, a tuple of the module's -/
theorem me_gdat {x : Str} {p : Addr} {d : D} (hg : Gl X x) (hm : X.mg x = some (.ref p)) (r : ∀ G, Rep X.K G (.ref p) d) (hd : (x == ("__debug__" : Str)) = false := by decide) : PE X (.Name x pos) (tM X.K B W (mCon d)) :=
  me_con (pe_glob (v := .ref p) hg hm rfl hd) r
theorem bin_run {f : Value → Value → Sem Value} {m : D → D → Res D} (ho : OpM X W f m) (ha : PE X a (tM X.K B W ma)) (hb : PE X b (tM X.K B W mb)) {pins : List (Addr × Obj)} {s : Shared} {σ : St} {H : Hp} {Q : VK} (I : Inv X pins σ H s)
    (h : tM X.K B W (mOp m ma mb) σ H Q) :
    wpAny (model X.prog X.w) X.A (eval a X.env) (fun v s₁ => wpAny (model X.prog X.w) X.A (eval b X.env) (fun u s₂ => wpAny (model X.prog X.w) X.A (f v u) (EP X pins σ Q) X.xe s₂) X.xe s₁) X.xe s := by
  obtain ⟨G, ρ, e, h⟩ := h
  refine bin (R := fun x y H2 => ∃ G2 d c, Ext G2 H2 ∧ Rep X.K G2 x d ∧ Rep X.K G2 y c ∧ RG (Rep X.K) X.K (fun c d H' => W c d σ H') G2 H2 Q (m d c)) ha hb I ?_ fun v u s2 x y H2 I2 rx ry ⟨G2, d, c, e2, r1, r2, q⟩ => ho pins s2 σ G2 H2 x y v u d c Q I2 rx ry e2 r1 r2 q
  exact ⟨G, ρ, e, RG.bind h fun d G1 v H1 g r h1 => ⟨G1, ρ, e.growN g, RG.bind h1 fun c G2 u H2 g2 r2 h2 => ⟨G2, d, c, g2.sub, r.mono g2.g, r2, h2⟩⟩⟩
theorem me_op {op : Operator} {m : D → D → Res D} (ho : OpM X W (binaryOp op) m) (ha : PE X a (tM X.K B W ma)) (hb : PE X b (tM X.K B W mb)) : PE X (.BinOp a op b pos) (tM X.K B W (mOp m ma mb)) :=
  ⟨fun _ _ _ _ _ I h => wpAny_BinOp (bin_run ho ha hb I h)⟩
theorem me_un {op : UnaryOp} {m : D → Res D} (ho : UnM X W (unaryOp op) m) (ha : PE X a (tM X.K B W ma)) : PE X (.UnaryOp op a pos) (tM X.K B W (mUn m ma)) := by
  refine ⟨fun pins s σ H Q I h => ?_⟩
  obtain ⟨G, ρ, e, h⟩ := h
  refine PyProof.Rows.UnaryOp_ (thn (ha.run pins s σ H (fun x H1 => ∃ G1 d, Ext G1 H1 ∧ Rep X.K G1 x d ∧ RG (Rep X.K) X.K (fun c d H' => W c d σ H') G1 H1 Q (m d)) I ⟨G, ρ, e, RG.bind h fun d G1 v H1 g r h1 => ⟨G1, d, g.sub, r, h1⟩⟩) fun v s1 ⟨x, H1, I1, r1, G1, d, e1, r, q⟩ => ?_)
  exact ho pins s1 σ G1 H1 x v d Q I1 r1 e1 r q
theorem me_cmp {op : CmpOp} {m : D → D → Res D} (ho : OpM X W (compareOp op) m) (ha : PE X a (tM X.K B W ma)) (hb : PE X b (tM X.K B W mb)) (hm : behindInMarks op b = false := by first | exact nomark _ | rfl) : PE X (.Compare a [op] [b] pos) (tM X.K B W (mOp m ma mb)) :=
  ⟨fun _ _ _ _ _ I h => wpAny_Compare1 (bin_run ho ha hb I h) hm⟩
end
def truthD : D → Res Bool
  | .non => .ok false
  | .bl b => .ok b
  | .int i => .ok (i != 0)
  | .str y => chk (y.length ≤ sizeLine) (.ok ((y.length : Int) != 0))
  | .lst xs => .ok (!xs.isEmpty)
  | .tup xs => .ok (!xs.isEmpty)
  | _ => .stuck
theorem Reps.isEmpty {K : PySem.W.Frag} {G : Hp} {vs : List V} {ds : List D} (r : Reps K G vs ds) : vs.isEmpty = ds.isEmpty := by cases r <;> rfl
theorem truth_ok {K : PySem.W.Frag} {E : XK} {G H : Hp} {v : V} {d : D} {Q : Bool → Hp → Prop} (s : Ext G H) (r : Rep K G v d) (h : RG (fun _ b c => b = c) K E G H Q (truthD d)) : ∃ k, TruV K v H k ∧ Q k H := by
  have go : ∀ {k : Bool}, RG (fun _ b c => b = c) K E G H Q (.ok k) → Q k H := fun q => q G _ H (.refl s) rfl
  cases r with
  | non => exact ⟨false, rfl, go h⟩
  | bl b => exact ⟨b, rfl, go h⟩
  | int i => exact ⟨_, rfl, go h⟩
  | str x =>
    obtain ⟨z, h⟩ := RG.chk h
    exact ⟨_, ⟨z, rfl⟩, go h⟩
  | tup q r => exact ⟨_, .inr (.inl ⟨_, s.sqt q, rfl⟩), by rw [r.isEmpty]; exact go h⟩
  | lst q r => exact ⟨_, .inl ⟨_, .inl (s.rd q), rfl⟩, by rw [r.isEmpty]; exact go h⟩
  | obj _ _ _ => exact h.elim
def boolD : D → Res Bool
  | .bl b => .ok b
  | _ => .stuck
def mBl (m : Ev → Res D) : Ev → Res Bool := fun ρ => m ρ >>= boolD
/-- a < b < c -/
def chainD (g : D → D → Res D) (y : D) (m : Res D) : D → Res D
  | .bl true => m >>= fun z => g y z
  | .bl false => .ok (.bl false)
  | _ => .stuck
def mChain (f g : D → D → Res D) (ma mb mc : Ev → Res D) : Ev → Res D := fun ρ => ma ρ >>= fun x => mb ρ >>= fun y => f x y >>= chainD g y (mc ρ)
theorem chain_end {X : Cx} {B : Base} {W : WX} {r r' : R2} {m m' : D → D → Res D} {mc : Ev → Res D} {G H : Hp} {σ : St} {ρ : Ev} {x y : V} {a b : D} {Q : VK}
    (kr : ∀ G H x y a b Q (E : XK), Ext G H → Rep X.K G x a → Rep X.K G y b → RG (Rep X.K) X.K E G H Q (m a b) → r x y H Q) (kr' : ∀ G H x y a b Q (E : XK), Ext G H → Rep X.K G x a → Rep X.K G y b → RG (Rep X.K) X.K E G H Q (m' a b) → r' x y H Q)
    (e : EnvOk X.K B G σ ρ H) (ra : Rep X.K G x a) (rb : Rep X.K G y b) (q : RG (Rep X.K) X.K (fun c d H' => W c d σ H') G H Q (m a b >>= chainD m' b (mc ρ))) :
    r x y H fun z H3 => ∃ k, z = .bl k ∧ (if k = true then tM X.K B W mc σ H3 fun w' H4 => r' y w' H4 Q else Q (.bl false) H3) := by
  refine kr G H x y a b _ _ e.sub ra rb (RG.bind q fun d G1 v H1 g r q1 => ?_)
  cases r with
  | bl k =>
    refine ⟨k, rfl, ?_⟩
    cases k with
    | true =>
      rw [if_pos rfl]
      exact ⟨G1, ρ, e.growN g, RG.bind q1 fun c G2 u H2 g2 r2 q2 => kr' G2 H2 y u b c Q _ g2.sub (rb.mono (g.g.trans g2.g)) r2 q2⟩
    | false =>
      rw [if_neg Bool.false_ne_true]
      exact q1 G1 _ H1 (.refl g.sub) (.bl false)
  | _ => exact q1.elim
def mTru (m : Ev → Res D) : Ev → Res Bool := fun ρ => m ρ >>= truthD
def mtNot (m : Ev → Res Bool) : Ev → Res Bool := fun ρ => m ρ >>= fun b => .ok (!b)
def mtAnd (m m' : Ev → Res Bool) : Ev → Res Bool := fun ρ => m ρ >>= fun b => if b = true then m' ρ else .ok false
def mtOr (m m' : Ev → Res Bool) : Ev → Res Bool := fun ρ => m ρ >>= fun b => if b = true then .ok true else m' ρ
def mBool (m : Ev → Res Bool) : Ev → Res D := fun ρ => m ρ >>= fun b => .ok (.bl b)
def mAnd (m m' : Ev → Res D) : Ev → Res D := fun ρ => m ρ >>= fun a => truthD a >>= fun b => if b = true then m' ρ else .ok a
def mOr (m m' : Ev → Res D) : Ev → Res D := fun ρ => m ρ >>= fun a => truthD a >>= fun b => if b = true then .ok a else m' ρ
def mIf (c : Ev → Res Bool) (m m' : Ev → Res D) : Ev → Res D := fun ρ => c ρ >>= fun b => if b = true then m ρ else m' ρ
section
variable {X : Cx} {B : Base} {W : WX} {a b c : Expr} {rest : List Expr} {ma mb mc : Ev → Res D} {ta tb : Ev → Res Bool} {pos : Pos}
theorem mt_val (ha : PE X a (tM X.K B W ma)) (he : ∀ whole, isTrue a X.env whole = (do let v ← whole; standAt a.pos; holding [v] (truthy v)) := by intro _; rfl) : PT X a (tMT X.K B W (mTru ma)) :=
  PT.imp (pt_truth ha he) fun σ H Q ⟨G, ρ, e, q⟩ => ⟨G, ρ, e, RG.bind q fun d G1 v H1 g r q1 => truth_ok g.sub r q1⟩
theorem mt_cmp {op : CmpOp} {m : D → D → Res D} (ho : OpM X W (compareOp op) m) (ha : PE X a (tM X.K B W ma)) (hb : PE X b (tM X.K B W mb)) (hm : behindInMarks op b = false := by first | exact nomark _ | rfl) :
    PT X (.Compare a [op] [b] pos) (tMT X.K B W (mBl (mOp m ma mb))) := by
  refine ⟨fun pins s σ H Q I h => ?_⟩
  obtain ⟨G, ρ, e, h⟩ := h
  have h' : RG (fun _ b c => b = c) X.K (fun c d H' => W c d σ H') G H Q (mOp m ma mb ρ >>= boolD) := h
  have h2 : tM X.K B W (mOp m ma mb) σ H (fun x H1 => ∃ k, x = V.bl k ∧ Q k H1) := ⟨G, ρ, e, RG.bind h' fun d G1 v H1 g r q => by
    cases r with
    | bl k => exact ⟨k, rfl, q G1 _ H1 (.refl g.sub) rfl⟩
    | _ => exact q.elim⟩
  refine wpAny_isTrue_Compare1 (thn (bin_run ho ha hb I h2) fun v s1 h1 => thn h1 fun u s2 h2 => thn h2 fun c s3 ⟨z, H3, I3, r3, k, e, q3⟩ => ?_) hm
  subst e
  cases r3
  exact wpAny_truthy_bool ⟨H3, I3, q3⟩
/-- a < b < c -/
theorem me_chain {op op' : CmpOp} {m m' : D → D → Res D} (ho : OpP X (compareOp op) m) (ho' : OpP X (compareOp op') m') (ha : PE X a (tM X.K B W ma)) (hb : PE X b (tM X.K B W mb)) (hc : PE X c (tM X.K B W mc))
    (hm : lastMarks [op, op'] [b, c] = false := by with_unfolding_all rfl) : PE X (.Compare a [op, op'] [b, c] pos) (tM X.K B W (mChain m m' ma mb mc)) := by
  obtain ⟨r, hr, kr⟩ := ho
  obtain ⟨r', hr', kr'⟩ := ho'
  exact PE.imp (pe_chain hr hr' ha hb hc hm) fun σ H Q ⟨G, ρ, e, q⟩ => ⟨G, ρ, e, RG.bind q fun d G1 v H1 g rv q1 => ⟨G1, ρ, e.growN g, RG.bind q1 fun d2 G2 u H2 g2 ru q2 => chain_end kr kr' (e.growN (g.trans g2)) (rv.mono g2.g) ru q2⟩⟩
theorem mt_chain {op op' : CmpOp} {m m' : D → D → Res D} (ho : OpP X (compareOp op) m) (ho' : OpP X (compareOp op') m') (ha : PE X a (tM X.K B W ma)) (hb : PE X b (tM X.K B W mb)) (hc : PE X c (tM X.K B W mc))
    (hm : lastMarks [op, op'] [b, c] = false := by with_unfolding_all rfl) : PT X (.Compare a [op, op'] [b, c] pos) (tMT X.K B W (mBl (mChain m m' ma mb mc))) := by
  obtain ⟨r, hr, kr⟩ := ho
  obtain ⟨r', hr', kr'⟩ := ho'
  exact PT.imp (pt_chain hr hr' ha hb hc hm) fun σ H Q ⟨G, ρ, e, q⟩ => by
    have q' : RG (fun _ b c => b = c) X.K (fun c d H' => W c d σ H') G H Q (mChain m m' ma mb mc ρ >>= boolD) := q
    have h2 : RG (Rep X.K) X.K (fun c d H' => W c d σ H') G H (fun x H1 => ∃ k, x = V.bl k ∧ Q k H1) (mChain m m' ma mb mc ρ) := RG.bind q' fun d G1 v H1 g r q => by
      cases r with
      | bl k => exact ⟨k, rfl, q G1 _ H1 (.refl g.sub) rfl⟩
      | _ => exact q.elim
    exact ⟨G, ρ, e, RG.bind h2 fun d G1 v H1 g rv q1 => ⟨G1, ρ, e.growN g, RG.bind q1 fun d2 G2 u H2 g2 ru q2 => chain_end kr kr' (e.growN (g.trans g2)) (rv.mono g2.g) ru q2⟩⟩
theorem mt_not (ha : PT X a (tMT X.K B W ta)) : PT X (.UnaryOp .Not a pos) (tMT X.K B W (mtNot ta)) :=
  PT.imp (pt_not ha) fun σ H Q ⟨G, ρ, e, q⟩ => ⟨G, ρ, e, RG.bind q fun d G1 v H1 g r q1 => by
    have r' : v = d := r
    subst r'
    exact q1 G1 _ H1 (.refl g.sub) rfl⟩
theorem mw_and1 (ha : PT X a (tMT X.K B W ta)) : PW X (.BoolOp .And [a] pos) (tMT X.K B W ta) := pw_and1 ha
theorem mw_or1 (ha : PT X a (tMT X.K B W ta)) : PW X (.BoolOp .Or [a] pos) (tMT X.K B W ta) := pw_or1 ha
theorem mw_and (ha : PT X a (tMT X.K B W ta)) (hb : PW X (.BoolOp .And (b :: rest) pos) (tMT X.K B W tb)) : PW X (.BoolOp .And (a :: b :: rest) pos) (tMT X.K B W (mtAnd ta tb)) :=
  PW.imp (pw_and ha hb) fun σ H Q ⟨G, ρ, e, q⟩ => ⟨G, ρ, e, RG.bind q fun d G1 v H1 g r q1 => by
    have r' : v = d := r
    subst r'
    cases v with
    | true => exact ⟨G1, ρ, e.growN g, q1⟩
    | false => exact q1 G1 _ H1 (.refl g.sub) rfl⟩
theorem mw_or (ha : PT X a (tMT X.K B W ta)) (hb : PW X (.BoolOp .Or (b :: rest) pos) (tMT X.K B W tb)) : PW X (.BoolOp .Or (a :: b :: rest) pos) (tMT X.K B W (mtOr ta tb)) :=
  PW.imp (pw_or ha hb) fun σ H Q ⟨G, ρ, e, q⟩ => ⟨G, ρ, e, RG.bind q fun d G1 v H1 g r q1 => by
    have r' : v = d := r
    subst r'
    cases v with
    | true => exact q1 G1 _ H1 (.refl g.sub) rfl
    | false => exact ⟨G1, ρ, e.growN g, q1⟩⟩
theorem mt_w {e : Expr} (h : PW X e (tMT X.K B W ta)) : PT X e (tMT X.K B W ta) := h.pt
/-- and, or, not as values -/
theorem me_one {op : BoolOp} (ha : PE X a (tM X.K B W ma)) : PE X (.BoolOp op [a] pos) (tM X.K B W ma) := pe_one ha
theorem me_and (ha : PE X a (tM X.K B W ma)) (hb : PE X (.BoolOp .And (b :: rest) pos) (tM X.K B W mb)) : PE X (.BoolOp .And (a :: b :: rest) pos) (tM X.K B W (mAnd ma mb)) :=
  PE.imp (pe_andT ha hb) fun σ H Q ⟨G, ρ, e, q⟩ => ⟨G, ρ, e, RG.bind q fun d G1 v H1 g r q1 => by
    refine truth_ok (Q := fun k H2 => if k = true then tM X.K B W mb σ H2 Q else Q v H2) g.sub r (RG.bind q1 fun k G2 k' H2 g2 r2 q2 => ?_)
    have r' : k' = k := r2
    subst r'
    cases k' with
    | true => exact ⟨G2, ρ, (e.growN g).growN g2, q2⟩
    | false => exact q2 G2 _ H2 (.refl g2.sub) (r.mono g2.g)⟩
theorem me_or (ha : PE X a (tM X.K B W ma)) (hb : PE X (.BoolOp .Or (b :: rest) pos) (tM X.K B W mb)) : PE X (.BoolOp .Or (a :: b :: rest) pos) (tM X.K B W (mOr ma mb)) :=
  PE.imp (pe_orT ha hb) fun σ H Q ⟨G, ρ, e, q⟩ => ⟨G, ρ, e, RG.bind q fun d G1 v H1 g r q1 => by
    refine truth_ok (Q := fun k H2 => if k = true then Q v H2 else tM X.K B W mb σ H2 Q) g.sub r (RG.bind q1 fun k G2 k' H2 g2 r2 q2 => ?_)
    have r' : k' = k := r2
    subst r'
    cases k' with
    | true => exact q2 G2 _ H2 (.refl g2.sub) (r.mono g2.g)
    | false => exact ⟨G2, ρ, (e.growN g).growN g2, q2⟩⟩
theorem me_not (ha : PE X a (tM X.K B W ma)) : PE X (.UnaryOp .Not a pos) (tM X.K B W (mBool (mtNot (mTru ma)))) :=
  PE.imp (pe_notT ha) fun σ H Q ⟨G, ρ, e, q⟩ => ⟨G, ρ, e, by
    unfold mBool mtNot mTru at q
    rw [bind_assoc', bind_assoc'] at q
    refine RG.bind q fun d G1 v H1 g r q1 => ?_
    refine truth_ok (Q := fun k H2 => Q (.bl (!k)) H2) g.sub r (RG.bind q1 fun k G2 k' H2 g2 r2 q2 => ?_)
    have r' : k' = k := r2
    subst r'
    exact q2 G2 _ H2 (.refl g2.sub) (.bl _)⟩
theorem me_if (hc : PT X c (tMT X.K B W ta)) (ha : PE X a (tM X.K B W ma)) (hb : PE X b (tM X.K B W mb)) : PE X (.IfExp c a b pos) (tM X.K B W (mIf ta ma mb)) :=
  PE.imp (pe_ifExp hc ha hb) fun σ H Q ⟨G, ρ, e, q⟩ => ⟨G, ρ, e, RG.bind q fun d G1 v H1 g r q1 => by
    have r' : v = d := r
    subst r'
    cases v with
    | true => exact ⟨G1, ρ, e.growN g, q1⟩
    | false => exact ⟨G1, ρ, e.growN g, q1⟩⟩
end
def mNil : Ev → Res (List D) := fun _ => .ok []
def mCons (m : Ev → Res D) (ms : Ev → Res (List D)) : Ev → Res (List D) := fun ρ => m ρ >>= fun d => ms ρ >>= fun ds => .ok (d :: ds)
def mTup (ms : Ev → Res (List D)) : Ev → Res D := fun ρ => ms ρ >>= fun ds => chk (ds.length ≤ sizeLine) (.ok (.tup ds))
def mLst (ms : Ev → Res (List D)) : Ev → Res D := fun ρ => ms ρ >>= fun ds => chk (ds.length ≤ sizeLine) (.ok (.lst ds))
section
variable {X : Cx} {B : Base} {W : WX} {e : Expr} {es : List Expr} {m : Ev → Res D} {ms : Ev → Res (List D)} {pos : Pos}
theorem ma_nil : PA X [] (tMA X.K B W mNil) := PA.imp pa_nil fun _ _ _ ⟨_, _, e, q⟩ => q _ _ _ (.refl e.sub) .nil
theorem ma_cons (ha : PE X e (tM X.K B W m)) (hr : PA X es (tMA X.K B W ms)) (hs : starEach (e :: es) X.env = (false, eval e X.env) :: starEach es X.env := by rfl) : PA X (e :: es) (tMA X.K B W (mCons m ms)) :=
  PA.imp (pa_cons ha hr hs) fun σ H Q ⟨G, ρ, e, q⟩ => ⟨G, ρ, e, RG.bind q fun d G1 v H1 g r q1 => ⟨G1, ρ, e.growN g, RG.bind q1 fun ds G2 vs H2 g2 r2 q2 => q2 G2 _ H2 (.refl g2.sub) (.cons (r.mono g2.g) r2)⟩⟩
theorem me_tup {x1} (h : PA X es (tMA X.K B W ms)) : PE X (.Tuple es x1 pos) (tM X.K B W (mTup ms)) :=
  PE.imp (pe_tup h) fun σ H Q ⟨G, ρ, e, q⟩ => ⟨G, ρ, e, RG.bind q fun ds G1 vs H1 g r q1 => by
    obtain ⟨z, q1⟩ := RG.chk q1
    exact ⟨by rw [r.length]; exact z, RG.newT g.sub q1 r⟩⟩
theorem me_lst (h : PA X es (tMA X.K B W ms)) : PE X (.List es pos) (tM X.K B W (mLst ms)) :=
  PE.imp (pe_lst h) fun σ H Q ⟨G, ρ, e, q⟩ => ⟨G, ρ, e, RG.bind q fun ds G1 vs H1 g r q1 => by
    obtain ⟨z, q1⟩ := RG.chk q1
    exact ⟨by rw [r.length]; exact z, RG.newL g.sub q1 r⟩⟩
end
end PL
namespace PL
open PySem PySem.Spec L2
open PyProof.Rows (b2i)
def DivOk (a b : Int) : Prop := b ≠ 0 ∧ Builtin.divisionGoesByPylong a b = false
instance (a b : Int) : Decidable (DivOk a b) := by unfold DivOk; infer_instance
instance (a b : Int) : Decidable (CMulX a b) := by unfold CMulX; infer_instance
instance (a b : Int) : Decidable (CPow a b) := by unfold CPow; infer_instance
def addD : D → D → Res D
  | .int a, .int b => .ok (.int (a + b))
  | .int a, .bl b => .ok (.int (a + b2i b))
  | .str a, .str b => chk (a.length + b.length ≤ sizeLine) (.ok (.str (a ++ b)))
  | .lst a, .lst b => chk (a.length + b.length ≤ sizeLine) (.ok (.lst (a ++ b)))
  | .tup a, .tup b => chk (a.length + b.length ≤ sizeLine) (.ok (.tup (a ++ b)))
  | _, _ => .stuck
def subD : D → D → Res D
  | .int a, .int b => .ok (.int (a - b))
  | _, _ => .stuck
def mulD : D → D → Res D
  | .int a, .int b => chk (CMulX a b) (.ok (.int (a * b)))
  | .lst a, .int k => chk (-(2 ^ 63) ≤ k ∧ k < 2 ^ 63 ∧ a.length * k.toNat ≤ sizeLine) (.ok (.lst (List.replicate k.toNat a).flatten))
  | _, _ => .stuck
def fdivD : D → D → Res D
  | .int a, .int b => chk (DivOk a b) (.ok (.int (a.fdiv b)))
  | _, _ => .stuck
def modD : D → D → Res D
  | .int a, .int b => chk (b ≠ 0) (.ok (.int (a.fmod b)))
  | _, _ => .stuck
def powD : D → D → Res D
  | .int a, .int b => chk (CPow a b) (.ok (.int (a ^ b.toNat)))
  | _, _ => .stuck
instance (a b : Int) : Decidable (CShl a b) := by unfold CShl; infer_instance
def shlD : D → D → Res D
  | .int a, .int b => chk (CShl a b) (.ok (.int (a * 2 ^ b.toNat)))
  | _, _ => .stuck
def cmpD (f : Int → Int → Bool) : D → D → Res D
  | .int a, .int b => .ok (.bl (f a b))
  | _, _ => .stuck
abbrev ltD : D → D → Res D := cmpD fun a b => decide (a < b)
abbrev leD : D → D → Res D := cmpD fun a b => decide (a ≤ b)
abbrev gtD : D → D → Res D := cmpD fun a b => decide (b < a)
abbrev geD : D → D → Res D := cmpD fun a b => decide (b ≤ a)
def negD : D → Res D
  | .int a => .ok (.int (-a))
  | _ => .stuck
section
variable {X : Cx}
theorem Rd.ne_frz {H : Hp} {a : Addr} {xs : List V} (h : Rd H a (.lst xs)) {K : PySem.W.Frag} : SqL K H a xs := .inl h
/-- the object of a list that is read -/
theorem rd_obj {pins : List (Addr × Obj)} {σ : St} {H : Hp} {s : Shared} {l : Addr} {xs : List V} (I : Inv X pins σ H s) (h : Rd H l (.lst xs)) :
    xs.length ≤ sizeLine ∧ ∃ (its : List Value) (n : Nat), Vals xs its ∧ xs.length = its.length ∧ s.heap.get? l = some { cls := .type "list", data := .seq its.toArray n } := by
  obtain ⟨z, its, n, r, e⟩ := h.ok I.hok
  exact ⟨z, its, n, r, r.length, e⟩
def rCatR : R2 := fun x y H Q => ∃ l b xs zs, x = .ref l ∧ y = .ref b ∧ Rd H l (.lst xs) ∧ Rd H b (.lst zs) ∧ xs.length + zs.length ≤ sizeLine ∧ ∀ p, H p = none → Q (.ref p) (upd H p (.lst (xs ++ zs)))
theorem op_catR : OpR X (binaryOp .Add) rCatR := by
  intro pins s σ H x y v u Q I rx ry h
  obtain ⟨l, b, xs, zs, rfl, rfl, hH, hB, hz, q⟩ := h
  cases rx
  cases ry
  obtain ⟨z, its, n, r, hl, e⟩ := rd_obj I hH
  obtain ⟨z2, its2, n2, r2, hl2, e2⟩ := rd_obj I hB
  refine PySem.P.add_list e e2 ?_ (by rw [List.size_toArray, List.size_toArray]; omega)
  have ea : its.toArray ++ its2.toArray = (its ++ its2).toArray := by simp
  rw [ea]
  exact ⟨.ref _, _, I.lnew (t' := s.toks) (r.append r2) (by rw [List.length_append]; omega), rfl, q _ I.fresh⟩
theorem op_addD : OpP X (binaryOp .Add) addD := by
  refine ⟨_, op_add.or (op_add_ib.or (op_add_str.or (op_catR.or op_catA))), fun G H x y a b Q E s ra rb h => ?_⟩
  cases ra with
  | int i =>
    cases rb with
    | int j => exact .inl ⟨i, j, rfl, rfl, RG.here s h (.int _)⟩
    | bl k => exact .inr (.inl ⟨i, k, rfl, rfl, RG.here s h (.int _)⟩)
    | _ => exact h.elim
  | str i =>
    cases rb with
    | str j =>
      obtain ⟨z, h⟩ := RG.chk h
      exact .inr (.inr (.inl ⟨i, j, rfl, rfl, z, RG.here s h (.str _)⟩))
    | _ => exact h.elim
  | lst q r =>
    cases rb with
    | lst q2 r2 =>
      obtain ⟨z, h⟩ := RG.chk h
      exact .inr (.inr (.inr (.inl ⟨_, _, _, _, rfl, rfl, s.rd q, s.rd q2, by rw [r.length, r2.length]; exact z, RG.newL s h (r.append r2)⟩)))
    | _ => exact h.elim
  | tup q r =>
    cases rb with
    | tup q2 r2 =>
      obtain ⟨z, h⟩ := RG.chk h
      refine .inr (.inr (.inr (.inr ⟨_, _, _, _, rfl, rfl, s.sqt q, s.sqt q2, by rw [r.length, r2.length]; exact z, fun e => ?_, fun e e2 => ?_, fun _ _ => RG.newT s h (r.append r2)⟩)))
      · subst e
        cases r
        exact RG.here s h (.tup q2 r2)
      · subst e2
        cases r2
        rw [List.append_nil] at h
        exact RG.here s h (.tup q r)
    | _ => exact h.elim
  | _ => cases rb <;> exact h.elim
theorem op_int2 {op : Operator} {m : D → D → Res D} {C : Int → Int → Prop} {g : Int → Int → Int} (ho : OpR X (binaryOp op) (rI C fun i j => .int (g i j)))
    (k : ∀ (a b : D) (E : XK) (G H : Hp) (Q : VK), RG (Rep X.K) X.K E G H Q (m a b) → ∃ i j, a = .int i ∧ b = .int j ∧ C i j ∧ RG (Rep X.K) X.K E G H Q (.ok (.int (g i j)))) : OpP X (binaryOp op) m :=
  ⟨_, ho, fun G H x y a b Q E s ra rb h => by
    obtain ⟨i, j, rfl, rfl, c, h⟩ := k a b E G H Q h
    cases ra
    cases rb
    exact ⟨i, j, rfl, rfl, c, RG.here s h (.int _)⟩⟩
theorem op_subD : OpP X (binaryOp .Sub) subD :=
  ⟨_, op_sub, fun G H x y a b Q E s ra rb h => by
    cases ra with
    | int i => cases rb with
      | int j => exact ⟨i, j, rfl, rfl, RG.here s h (.int _)⟩
      | _ => exact h.elim
    | _ => cases rb <;> exact h.elim⟩
def rRepR2 : R2 := fun x y H Q => ∃ l k xs, x = .ref l ∧ y = .int k ∧ Rd H l (.lst xs) ∧ -(2 ^ 63) ≤ k ∧ k < 2 ^ 63 ∧ xs.length * k.toNat ≤ sizeLine ∧ ∀ p, H p = none → Q (.ref p) (upd H p (.lst (List.replicate k.toNat xs).flatten))
theorem Reps.flatten {K : PySem.W.Frag} {G : Hp} {vs : List V} {ds : List D} (r : Reps K G vs ds) : ∀ n : Nat, Reps K G (List.replicate n vs).flatten (List.replicate n ds).flatten
  | 0 => .nil
  | n + 1 => by
    rw [List.replicate_succ, List.replicate_succ, List.flatten_cons, List.flatten_cons]
    exact r.append (Reps.flatten r n)
/-- only what is tracked is repeated -/
theorem foldl_rep0 (its : List Value) (m : Nat) : List.foldl (fun u w => u ++ w) #[] (List.replicate m its.toArray) = (List.replicate m its).flatten.toArray := by
  simpa using foldl_rep its m []
theorem op_repR : OpR X (binaryOp .Mult) rRepR2 := by
  rintro pins s σ H x y v u Q I rx ry ⟨l, k, xs, rfl, rfl, hH, h1, h2, hz, q⟩
  cases rx
  obtain ⟨t, rfl⟩ := ry
  obtain ⟨_, its, n, r, hl, e⟩ := rd_obj I hH
  have e1 : its.toArray.size * k.toNat ≤ sizeLine := by simpa [← hl] using hz
  have e2 : (sizeLine : Nat) ≤ (2 ^ 63 - 1) / 8 := by decide
  have c1 : ¬ (!Builtin.List.listFitsIndex k) = true := by rw [fitsIndex_both h1 h2]; simp
  have c2 : ¬ its.toArray.size * k.toNat > (2 ^ 63 - 1) / 8 := Nat.not_lt.mpr (Nat.le_trans e1 e2)
  have c3 : ¬ Builtin.List.listTooLong (its.toArray.size * k.toNat) = true := by rw [notLongL e1]; simp
  have new : List.foldl (fun u w => u ++ w) #[] (List.replicate (if its.toArray.isEmpty = true then 0 else k.toNat) its.toArray) = (List.replicate k.toNat its).flatten.toArray := by
    rw [foldl_rep0]
    cases its <;> simp
  have fin := AutoListH.list___mul___list_int_3 l its.toArray n k t c1 c2 c3
  have ty : ∀ s' : Shared, s'.TypeIs (.int k t) "int" := fun s' => typeIs_int s' k t
  refine wpAny_binaryOp_repeat_ref (by decide) ⟨_, e, rfl⟩ ty noFill_list_mul F.fills_int_mul F.slot_int_rmul repeat_list F.slot_int_index.lookup ?_
  refine call_meets F.slot_int_rmul (ty s) F.entry_int_rmul (F.args_int_rmul_2 _ _) (int___rmul___int_list k t l its.toArray n) ⟨e, rfl, ⟨_, e, rfl⟩, ?_⟩
  refine call_meets F.slot_list_mul ⟨_, e, rfl⟩ F.entry_list_mul (F.args_list_mul_2 _ _) fin ⟨e, ?_⟩
  rw [new]
  have hlen : (List.replicate k.toNat xs).flatten.length ≤ sizeLine := by rw [PyProof.Rows.lm_len_rep_flat, Nat.mul_comm]; exact hz
  exact ⟨.ref _, _, I.lnew (t' := s.toks) (r.rep k.toNat) hlen, rfl, q _ I.fresh⟩
theorem op_mulD : OpP X (binaryOp .Mult) mulD := by
  refine ⟨_, op_mulX.or op_repR, fun G H x y a b Q E s ra rb h => ?_⟩
  cases ra with
  | int i =>
    cases rb with
    | int j =>
      obtain ⟨z, h⟩ := RG.chk h
      exact .inl ⟨i, j, rfl, rfl, z, RG.here s h (.int _)⟩
    | _ => exact h.elim
  | lst q r =>
    cases rb with
    | int k =>
      obtain ⟨⟨z1, z2, z3⟩, h⟩ := RG.chk h
      exact .inr ⟨_, k, _, rfl, rfl, s.rd q, z1, z2, by rw [r.length]; exact z3, RG.newL s h (r.flatten _)⟩
    | _ => exact h.elim
  | _ => cases rb <;> exact h.elim
theorem op_fdivD : OpP X (binaryOp .FloorDiv) fdivD := by
  have ho : OpR X (binaryOp .FloorDiv) (rI DivOk fun i j => .int (i.fdiv j)) := opI fun _ _ _ _ _ _ _ hc q => PyProof.Rows.floordiv_int hc.1 q (.inl hc.2)
  refine op_int2 ho fun a b E G H Q h => ?_
  cases a with
  | int i => cases b with
    | int j =>
      obtain ⟨z, h⟩ := RG.chk h
      exact ⟨i, j, rfl, rfl, z, h⟩
    | _ => exact h.elim
  | _ => cases b <;> exact h.elim
theorem op_modD : OpP X (binaryOp .Mod) modD := by
  refine op_int2 op_modN fun a b E G H Q h => ?_
  cases a with
  | int i => cases b with
    | int j =>
      obtain ⟨z, h⟩ := RG.chk h
      exact ⟨i, j, rfl, rfl, z, h⟩
    | _ => exact h.elim
  | _ => cases b <;> exact h.elim
theorem op_powD : OpP X (binaryOp .Pow) powD := by
  refine op_int2 op_pow fun a b E G H Q h => ?_
  cases a with
  | int i => cases b with
    | int j =>
      obtain ⟨z, h⟩ := RG.chk h
      exact ⟨i, j, rfl, rfl, z, h⟩
    | _ => exact h.elim
  | _ => cases b <;> exact h.elim
theorem op_shlD : OpP X (binaryOp .LShift) shlD := by
  refine op_int2 op_shlW fun a b E G H Q h => ?_
  cases a with
  | int i => cases b with
    | int j =>
      obtain ⟨z, h⟩ := RG.chk h
      exact ⟨i, j, rfl, rfl, z, h⟩
    | _ => exact h.elim
  | _ => cases b <;> exact h.elim
theorem un_negD {W : WX} : UnM X W (unaryOp .USub) negD := UnM.of un_neg fun G H x a Q E s ra h => by
  cases ra with
  | int i => exact ⟨i, rfl, RG.here s h (.int _)⟩
  | _ => exact h.elim
theorem op_cmpD {op : CmpOp} {g : Int → Int → Bool} (ho : OpR X (compareOp op) (rI0 fun i j => .bl (g i j))) : OpP X (compareOp op) (cmpD g) :=
  ⟨_, ho, fun G H x y a b Q E s ra rb h => by
    cases ra with
    | int i => cases rb with
      | int j => exact ⟨i, j, rfl, rfl, RG.here s h (.bl _)⟩
      | _ => exact h.elim
    | _ => cases rb <;> exact h.elim⟩
theorem op_ltD : OpP X (compareOp .Lt) ltD := op_cmpD op_lt
theorem op_leD : OpP X (compareOp .LtE) leD := op_cmpD op_le
theorem op_gtD : OpP X (compareOp .Gt) gtD := op_cmpD op_gt
theorem op_geD : OpP X (compareOp .GtE) geD := op_cmpD op_ge
end
end PL
namespace PL
open PySem PySem.Spec L2
open PyProof.Rows (b2i)
open PySem.Spec
mutual
def toPy : D → PyData
  | .non => .none
  | .bl b => .bool b
  | .int i => .int i
  | .str x => .str x
  | .tup xs => .tuple (toPys xs)
  | .lst xs => .list (toPys xs)
  | .obj _ _ => .none
def toPys : List D → List PyData
  | [] => []
  | x :: xs => toPy x :: toPys xs
end
mutual
/-- no object within -/
def flat : D → Bool
  | .obj _ _ => false
  | .tup xs => flats xs
  | .lst xs => flats xs
  | _ => true
def flats : List D → Bool
  | [] => true
  | x :: xs => flat x && flats xs
end
mutual
theorem toPy_rep {K : PySem.W.Frag} {G H : Hp} (s : Ext G H) : ∀ {v : V} {d : D}, Rep K G v d → flat d = true → Dp K H v (toPy d)
  | _, _, .non, _ => .non
  | _, _, .bl b, _ => .bl b
  | _, _, .int i, _ => .int i
  | _, _, .str x, _ => .str x
  | _, .tup xs, .tup q r, f => .tup (s.sqt q) (toPys_rep s r f)
  | _, .lst xs, .lst q r, f => .lst (.inl (s.rd q)) (toPys_rep s r f)
  | _, _, .obj _ _ _, f => nomatch (show false = true from f)
theorem toPys_rep {K : PySem.W.Frag} {G H : Hp} (s : Ext G H) : ∀ {vs : List V} {ds : List D}, Reps K G vs ds → flats ds = true → DpAll K H vs (toPys ds)
  | _, _, .nil, _ => .nil
  | _, _, .cons r t, f => by
    obtain ⟨f1, f2⟩ := Bool.and_eq_true_iff.mp f
    exact .cons (toPy_rep s r f1) (toPys_rep s t f2)
end
def isFlatV : D → Bool
  | .non => true
  | .bl _ => true
  | .int _ => true
  | .str _ => true
  | _ => false
/-- what == tells -/
def eqB (a b : D) : Bool := PyData.eqv (toPy a) (toPy b)
def eqOk (a b : D) : Bool := flat a && flat b && SeqAt.shaped (toPy a) && SeqAt.shaped (toPy b)
def eqD : D → D → Res D
  | .str a, .str b => .ok (.bl (decide (a = b)))
  | .int a, .int b => .ok (.bl (decide (a = b)))
  | .int _, .str _ => .ok (.bl false)
  | .str _, .int _ => .ok (.bl false)
  | .non, .str _ => .ok (.bl false)
  | .str _, .non => .ok (.bl false)
  | .bl a, .bl b => .ok (.bl (decide (a = b)))
  | a, b => chk (eqOk a b = true) (.ok (.bl (eqB a b)))
def neD (a b : D) : Res D := eqD a b >>= fun r => match r with
  | .bl k => .ok (.bl (!k))
  | _ => .stuck
section
variable {X : Cx}
theorem eq_cases {K : PySem.W.Frag} {G H : Hp} {x y : V} {a b : D} (s : Ext G H) (ra : Rep K G x a) (rb : Rep K G y b) {α : Type} (P : Bool → Prop) (h : ∀ k, eqD a b = .ok (.bl k) → P k) (hs : eqD a b ≠ .stuck) :
    (scal x y = true ∧ P (decide (x = y))) ∨ ∃ d e, Dp K H x d ∧ Dp K H y e ∧ SeqAt.shaped d = true ∧ SeqAt.shaped e = true ∧ P (PyData.eqv d e) := by
  have gen : eqD a b = chk (eqOk a b = true) (.ok (.bl (eqB a b))) → ∃ d e, Dp K H x d ∧ Dp K H y e ∧ SeqAt.shaped d = true ∧ SeqAt.shaped e = true ∧ P (PyData.eqv d e) := fun e => by
    by_cases z : eqOk a b = true
    · rw [chk_pos z] at e
      have z' := z
      unfold eqOk at z'
      simp only [Bool.and_eq_true] at z'
      obtain ⟨⟨⟨f1, f2⟩, s1⟩, s2⟩ := z'
      exact ⟨_, _, toPy_rep s ra f1, toPy_rep s rb f2, s1, s2, h _ e⟩
    · unfold chk at e
      rw [if_neg z] at e
      exact absurd e hs
  cases ra <;> cases rb <;> first
    | exact .inr (gen rfl)
    | (refine .inl ⟨rfl, ?_⟩
       first
         | (have q := h _ rfl; simpa using q)
         | (have q := h _ rfl; exact q))
theorem eqD_fine : ∀ {a b : D} {e : Err}, eqD a b ≠ .exc e := by
  intro a b e
  unfold eqD
  split <;> first | (intro z; cases z; done) | (unfold chk; split <;> (intro z; cases z))
theorem eqD_bl {a b r : D} (h : eqD a b = .ok r) : ∃ k, r = .bl k := by
  unfold eqD at h
  split at h <;> first | (cases h; exact ⟨_, rfl⟩) | (unfold chk at h; split at h <;> cases h; exact ⟨_, rfl⟩)
theorem op_eqP (hu : X.A.units + 64 < cLine) : OpP X (compareOp .Eq) eqD := by
  refine ⟨_, op_eq.or (op_eqD hu), fun G H x y a b Q E s ra rb h => ?_⟩
  have hs : eqD a b ≠ .stuck := fun z => by rw [z] at h; exact h
  exact eq_cases (α := Unit) s ra rb (fun k => Q (.bl k) H) (fun k e => by rw [e] at h; exact RG.here s h (.bl _)) hs
theorem op_neP (hu : X.A.units + 64 < cLine) : OpP X (compareOp .NotEq) neD := by
  refine ⟨_, op_ne.or (op_neD hu), fun G H x y a b Q E s ra rb h => ?_⟩
  have hs : eqD a b ≠ .stuck := fun z => by
    unfold neD at h
    rw [z] at h
    exact h
  exact eq_cases (α := Unit) s ra rb (fun k => Q (.bl (!k)) H) (fun k e => by
    unfold neD at h
    rw [e] at h
    exact RG.here s h (.bl _)) hs
end
def isD : D → D → Res D
  | .non, .non => .ok (.bl true)
  | _, .non => .ok (.bl false)
  | .bl a, .bl b => .ok (.bl (decide (a = b)))
  | _, .bl _ => .ok (.bl false)
  | _, _ => .stuck
def isnD (a b : D) : Res D := isD a b >>= fun r => match r with
  | .bl k => .ok (.bl (!k))
  | _ => .stuck
section
variable {X : Cx}
theorem op_isV : OpR X (compareOp .Is) (fun x y H Q => ∃ b, y = .bl b ∧ Q (.bl (decide (x = .bl b))) H) := by
  intro pins s σ H x y v u Q I rx ry h
  obtain ⟨b, rfl, q⟩ := h
  cases (show u = Value.bool b from ry)
  cases x with
  | bl a =>
    cases (show v = Value.bool a from rx)
    by_cases e : a = b
    · subst e
      exact wpAny_is_self rfl ⟨.bl true, H, I, rfl, by simpa using q⟩
    · exact wpAny_is_other rfl (fun z => e (Value.bool.inj z)) ⟨.bl false, H, I, rfl, by simpa [e] using q⟩
  | _ =>
    first
      | (cases rx; exact wpAny_is_other rfl (fun z => by cases z) ⟨.bl false, H, I, rfl, by simpa using q⟩)
      | (obtain ⟨t, rfl⟩ := rx; exact wpAny_is_other rfl (fun z => by cases z) ⟨.bl false, H, I, rfl, by simpa using q⟩)
theorem op_notV : OpR X (compareOp .IsNot) (fun x y H Q => ∃ b, y = .bl b ∧ Q (.bl (!decide (x = .bl b))) H) := by
  intro pins s σ H x y v u Q I rx ry h
  obtain ⟨b, rfl, q⟩ := h
  cases (show u = Value.bool b from ry)
  cases x with
  | bl a =>
    cases (show v = Value.bool a from rx)
    by_cases e : a = b
    · subst e
      exact wpAny_isNot_self rfl ⟨.bl false, H, I, rfl, by simpa using q⟩
    · exact wpAny_isNot_other rfl (fun z => e (Value.bool.inj z)) ⟨.bl true, H, I, rfl, by simpa [e] using q⟩
  | _ =>
    first
      | (cases rx; exact wpAny_isNot_other rfl (fun z => by cases z) ⟨.bl true, H, I, rfl, by simpa using q⟩)
      | (obtain ⟨t, rfl⟩ := rx; exact wpAny_isNot_other rfl (fun z => by cases z) ⟨.bl true, H, I, rfl, by simpa using q⟩)
theorem op_isP : OpP X (compareOp .Is) isD := by
  refine ⟨_, op_isN.or op_isV, fun G H x y a b Q E s ra rb h => ?_⟩
  cases rb with
  | non =>
    refine .inl ⟨rfl, ?_⟩
    cases ra <;> exact RG.here s h (.bl _)
  | bl k =>
    refine .inr ⟨k, rfl, ?_⟩
    cases ra with
    | bl j => simpa using RG.here s h (.bl _)
    | _ => exact RG.here s h (.bl _)
  | _ => cases ra <;> exact h.elim
theorem op_isnP : OpP X (compareOp .IsNot) isnD := by
  refine ⟨_, op_notN.or op_notV, fun G H x y a b Q E s ra rb h => ?_⟩
  cases rb with
  | non =>
    refine .inl ⟨rfl, ?_⟩
    cases ra <;> exact RG.here s h (.bl _)
  | bl k =>
    refine .inr ⟨k, rfl, ?_⟩
    cases ra with
    | bl j => simpa using RG.here s h (.bl _)
    | _ => exact RG.here s h (.bl _)
  | _ => cases ra <;> exact h.elim
end
def eqF : D → D → Bool
  | .non, .non => true
  | .bl a, .bl b => a == b
  | .bl a, .int b => (if a then 1 else 0) == b
  | .int a, .bl b => a == (if b then 1 else 0)
  | .int a, .int b => a == b
  | .str a, .str b => a == b
  | _, _ => false
def inD : D → D → Res D
  | a, .lst xs => chk (isFlatV a = true ∧ xs.all isFlatV = true) (.ok (.bl (xs.any fun y => eqF y a)))
  | a, .tup xs => chk (isFlatV a = true ∧ xs.all isFlatV = true) (.ok (.bl (xs.any fun y => eqF y a)))
  | .str a, .str b => .ok (.bl (!(Builtin.Str.occurrences b a 0 b.length 1).isEmpty))
  | _, _ => .stuck
def ninD (a b : D) : Res D := inD a b >>= fun r => match r with
  | .bl k => .ok (.bl (!k))
  | _ => .stuck
theorem flatV_rep {K : PySem.W.Frag} {G : Hp} {v : V} {d : D} (r : Rep K G v d) (f : isFlatV d = true) : flatV v = true := by cases r <;> first | rfl | cases f
theorem flatVs_rep {K : PySem.W.Frag} {G : Hp} : ∀ {vs : List V} {ds : List D}, Reps K G vs ds → ds.all isFlatV = true → vs.all flatV = true
  | _, _, .nil, _ => rfl
  | _, _, .cons r t, f => by
    rw [List.all_cons, Bool.and_eq_true] at f
    rw [List.all_cons, flatV_rep r f.1, flatVs_rep t f.2]
    rfl
theorem eqF_rep {K : PySem.W.Frag} {G : Hp} {v w : V} {d e : D} (r : Rep K G v d) (q : Rep K G w e) (f : isFlatV d = true) (g : isFlatV e = true) : eqV v w = eqF d e := by
  cases r <;> first | (cases f; done) | (cases q <;> first | (cases g; done) | rfl)
theorem inV_rep {K : PySem.W.Frag} {G : Hp} {v : V} {d : D} (r : Rep K G v d) (f : isFlatV d = true) : ∀ {vs : List V} {ds : List D}, Reps K G vs ds → ds.all isFlatV = true → inV v vs = ds.any fun y => eqF y d
  | _, _, .nil, _ => rfl
  | _, _, .cons (v := w) (vs := ws) q t, g => by
    rw [List.all_cons, Bool.and_eq_true] at g
    have ih := inV_rep r f t g.2
    show (eqV w v || inV v ws) = _
    rw [List.any_cons, eqF_rep q r g.1 f, ih]
section
variable {X : Cx}
theorem in_go {K : PySem.W.Frag} {E : XK} {G H : Hp} {Q : VK} {x y : V} {a b : D} (s : Ext G H) (ra : Rep K G x a) (rb : Rep K G y b) (P : Bool → Prop) (h : ∀ k, inD a b = .ok (.bl k) → P k) (hs : inD a b ≠ .stuck) (neg : Bool) (F : Bool → Bool) (hF : ∀ k, F k = if neg then !k else k) {Q' : Bool → Prop} (hp : ∀ k, P k → Q' (F k)) :
    (∃ p xs, y = .ref p ∧ (SqL K H p xs ∨ SqT K H p xs) ∧ flatV x = true ∧ xs.all flatV = true ∧ Q' (if neg then !inV x xs else inV x xs)) ∨ ∃ i j, x = .str i ∧ y = .str j ∧ Q' (F (!(Builtin.Str.occurrences j i 0 j.length 1).isEmpty)) := by
  cases rb with
  | @lst p vs ds q r =>
    have e : inD a (.lst ds) = chk (isFlatV a = true ∧ ds.all isFlatV = true) (.ok (.bl (ds.any fun y => eqF y a))) := by cases a <;> rfl
    by_cases z : isFlatV a = true ∧ ds.all isFlatV = true
    · rw [e, chk_pos z] at h
      refine .inl ⟨_, _, rfl, .inl (.inl (s.rd q)), flatV_rep ra z.1, flatVs_rep r z.2, ?_⟩
      rw [inV_rep ra z.1 r z.2, ← hF]
      exact hp _ (h _ rfl)
    · exact absurd (by rw [e]; unfold chk; rw [if_neg z]) hs
  | @tup p vs ds q r =>
    have e : inD a (.tup ds) = chk (isFlatV a = true ∧ ds.all isFlatV = true) (.ok (.bl (ds.any fun y => eqF y a))) := by cases a <;> rfl
    by_cases z : isFlatV a = true ∧ ds.all isFlatV = true
    · rw [e, chk_pos z] at h
      refine .inl ⟨_, _, rfl, .inr (s.sqt q), flatV_rep ra z.1, flatVs_rep r z.2, ?_⟩
      rw [inV_rep ra z.1 r z.2, ← hF]
      exact hp _ (h _ rfl)
    · exact absurd (by rw [e]; unfold chk; rw [if_neg z]) hs
  | str j =>
    cases ra with
    | str i => exact .inr ⟨i, j, rfl, rfl, hp _ (h _ rfl)⟩
    | _ => exact absurd rfl hs
  | _ => cases ra <;> exact absurd rfl hs
theorem op_inP : OpP X (compareOp .In) inD := by
  refine ⟨_, op_in_seq.or op_in_str, fun G H x y a b Q E s ra rb h => ?_⟩
  have hs : inD a b ≠ .stuck := fun z => by rw [z] at h; exact h
  exact in_go (E := E) (Q := Q) s ra rb (fun k => Q (.bl k) H) (fun k e => by rw [e] at h; exact RG.here s h (.bl _)) hs false (fun k => k) (fun _ => rfl) (Q' := fun k => Q (.bl k) H) fun _ h => h
theorem op_ninP : OpP X (compareOp .NotIn) ninD := by
  refine ⟨_, op_notIn_seq.or op_notin_str, fun G H x y a b Q E s ra rb h => ?_⟩
  have hs : inD a b ≠ .stuck := fun z => by
    unfold ninD at h
    rw [z] at h; exact h
  exact in_go (E := E) (Q := Q) s ra rb (fun k => Q (.bl (!k)) H) (fun k e => by
    unfold ninD at h
    rw [e] at h; exact RG.here s h (.bl _)) hs true (fun k => !k) (fun _ => rfl) (Q' := fun k => Q (.bl k) H) fun _ h => h
end
def ixD : D → D → Res D
  | .lst xs, .int i => ofOpt (atI xs i)
  | .tup xs, .int i => ofOpt (atI xs i)
  | .str z, .int i => chk (z.length ≤ sizeLine) (ofOpt (atI z.cps.toList i) >>= fun c => .ok (.str ⟨#[c]⟩))
  | _, _ => .stuck
theorem Reps.atI {K : PySem.W.Frag} {G : Hp} {vs : List V} {ds : List D} (r : Reps K G vs ds) {i : Int} {d : D} (h : L2.atI ds i = some d) : ∃ v, L2.atI vs i = some v ∧ Rep K G v d := by
  unfold L2.atI at h ⊢
  rw [r.length]
  cases e : ixN ds.length i with
  | none => rw [e] at h; cases h
  | some j =>
    rw [e] at h
    exact r.getD h
def IxM (X : Cx) (W : WX) (m : D → D → Res D) : Prop :=
  ∀ (value slice : Expr) (pins : List (Addr × Obj)) (s : Shared) (σ : St) (G H : Hp) (x y : V) (v u : Value) (a b : D) (Q : VK), Inv X pins σ H s → RelV x v → RelV y u → Ext G H → Rep X.K G x a → Rep X.K G y b →
    RG (Rep X.K) X.K (fun c d H' => W c d σ H') G H Q (m a b) → subscripted slice false v u = operate [v, u] (getItem v u) → (∀ a, v = .ref a → subscripted slice true v u = runValue (.builtin "lifetime.subscript" ⟨[v, u], []⟩)) →
    wpAny (model X.prog X.w) X.A (PyProof.Rows.subscriptTail value slice v u) (EP X pins σ Q) X.xe s
section
variable {X : Cx} {B : Base} {W : WX} {a b : Expr} {ma mb : Ev → Res D} {pos : Pos}
theorem ix_D : IxM X W ixD := by
  intro value slice pins s σ G H x y v u a b Q I rx ry e ra rb h hs _
  refine ix_seq value slice pins s σ H x y v u Q I rx ry ?_ hs
  cases rb with
  | int i =>
    cases ra with
    | lst q r =>
      obtain ⟨d, hd, h⟩ := RG.opt h
      obtain ⟨w, e1, r1⟩ := r.atI hd
      exact .inl ⟨_, _, i, w, rfl, rfl, .inl (e.rd q), e1, RG.here e h r1⟩
    | tup q r =>
      obtain ⟨d, hd, h⟩ := RG.opt h
      obtain ⟨w, e1, r1⟩ := r.atI hd
      exact .inr (.inl ⟨_, _, i, w, rfl, rfl, e.sqt q, e1, RG.here e h r1⟩)
    | str z =>
      obtain ⟨l, h⟩ := RG.chk h
      cases hc : atI z.cps.toList i with
      | some c =>
        rw [hc] at h
        exact .inr (.inr ⟨z, i, c, rfl, rfl, l, hc, RG.here e h (.str _)⟩)
      | none =>
        rw [hc] at h
        exact h.elim
    | _ => exact h.elim
  | _ => cases ra <;> exact h.elim
theorem me_ix {m : D → D → Res D} (ho : IxM X W m) (ha : PE X a (tM X.K B W ma)) (hb : PE X b (tM X.K B W mb)) (hs : PlainIx b := by intro _ _; rfl) (hs2 : ∀ p i, subscripted b true (.ref p) i = runValue (.builtin "lifetime.subscript" ⟨[.ref p, i], []⟩) := by intro _ _; with_unfolding_all rfl) :
    PE X (.Subscript a b pos) (tM X.K B W (mOp m ma mb)) := by
  refine ⟨fun pins s σ H Q I ⟨G, ρ, e, h⟩ => ?_⟩
  refine PyProof.Rows.Subscript_ (binT (R := fun x y H2 => ∃ G2 d c, Ext G2 H2 ∧ Rep X.K G2 x d ∧ Rep X.K G2 y c ∧ RG (Rep X.K) X.K (fun c d H' => W c d σ H') G2 H2 Q (m d c)) ha hb I ?_ fun v u s2 x y H2 I2 rx ry ⟨G2, d, c, e2, r1, r2, q⟩ => ?_)
  · exact ⟨G, ρ, e, RG.bind h fun d G1 v H1 g r h1 => ⟨G1, ρ, e.growN g, RG.bind h1 fun c G2 u H2 g2 r2 h2 => ⟨G2, d, c, g2.sub, r.mono g2.g, r2, h2⟩⟩⟩
  · exact ho a b pins s2 σ G2 H2 x y v u d c Q I2 rx ry e2 r1 r2 q (hs _ _) fun p z => by rw [z]; exact hs2 p u
end
def cutL {α : Type} (xs : List α) (lo hi : Option Int) : List α := (xs.drop (HT.sIx xs.length 0 lo)).take (HT.sIx xs.length xs.length hi - HT.sIx xs.length 0 lo)
theorem Reps.cut {K : PySem.W.Frag} {G : Hp} {vs : List V} {ds : List D} (r : Reps K G vs ds) (lo hi : Option Int) : Reps K G (cutV vs lo hi) (cutL ds lo hi) := by
  unfold cutV cutL
  rw [r.length]
  exact (r.drop _).take _
def slD : D → Option Int → Option Int → Res D
  | .lst xs, lo, hi => .ok (.lst (cutL xs lo hi))
  | .tup xs, lo, hi => .ok (.tup (cutL xs lo hi))
  | .str z, lo, hi => chk (z.length ≤ sizeLine) (.ok (.str (cutS z lo hi)))
  | _, _, _ => .stuck
def partD : D → Res (Option Int)
  | .int i => .ok (some i)
  | _ => .stuck
def mNoP : Ev → Res (Option Int) := fun _ => .ok none
def mPart (m : Ev → Res D) : Ev → Res (Option Int) := fun ρ => m ρ >>= partD
def mSl (m : Ev → Res D) (l h : Ev → Res (Option Int)) : Ev → Res D := fun ρ => m ρ >>= fun d => l ρ >>= fun a => h ρ >>= fun b => slD d a b
def revD : D → Res D
  | .lst xs => .ok (.lst xs.reverse)
  | _ => .stuck
section
variable {X : Cx} {B : Base} {W : WX} {a : Expr} {lo hi : Option Expr} {ma : Ev → Res D} {ml mh : Ev → Res (Option Int)} {pos p2 : Pos}
theorem mo_none : PO X none (tG (fun _ b c => b = c) X.K B W mNoP) := ⟨fun pins s σ H Q I ⟨G, ρ, e, h⟩ => po_none.run pins s σ H Q I (h G _ H (.refl e.sub) rfl)⟩
theorem mo_some {e : Expr} (h : PE X e (tM X.K B W ma)) : PO X (some e) (tG (fun _ b c => b = c) X.K B W (mPart ma)) :=
  ⟨fun pins s σ H Q I ⟨G, ρ, e, q⟩ => (po_some h).run pins s σ H Q I ⟨G, ρ, e, RG.bind q fun d G1 v H1 g r q1 => by
    cases r with
    | int i => exact ⟨i, rfl, q1 G1 _ H1 (.refl g.sub) rfl⟩
    | _ => exact q1.elim⟩⟩
theorem me_sl (ha : PE X a (tM X.K B W ma)) (hl : PO X lo (tG (fun _ b c => b = c) X.K B W ml)) (hh : PO X hi (tG (fun _ b c => b = c) X.K B W mh)) : PE X (.Subscript a (.Slice lo hi none p2) pos) (tM X.K B W (mSl ma ml mh)) :=
  PE.imp (pe_slice (sl_list.or (sl_tupA.or sl_str)) ha hl hh) fun σ H Q ⟨G, ρ, e, q⟩ => ⟨G, ρ, e, RG.bind q fun d G1 v H1 g r q1 => ⟨G1, ρ, e.growN g, RG.bind q1 fun l G2 l' H2 g2 r2 q2 => by
    have e2 : l' = l := r2
    subst e2
    exact ⟨G2, ρ, (e.growN g).growN g2, RG.bind q2 fun u G3 u' H3 g3 r3 q3 => by
      have e3 : u' = u := r3
      subst e3
      have r' := r.mono (g2.trans g3).g
      cases r' with
      | lst z t => exact .inl ⟨_, _, rfl, .inl (g3.sub.rd z), RG.newL g3.sub q3 (t.cut _ _)⟩
      | tup z t =>
        refine .inr (.inl ⟨_, _, rfl, g3.sub.sqt z, fun w => ?_, fun _ => RG.newT g3.sub q3 (t.cut _ _)⟩)
        have w1 := w
        rw [t.length] at w1
        have q4 : RG (Rep X.K) X.K (fun c d H' => W c d σ H') G3 H3 Q (.ok (.tup (cutL _ l' u'))) := q3
        unfold cutL at q4
        rw [w1.1, w1.2, List.drop_zero, Nat.sub_zero, List.take_length] at q4
        exact RG.here g3.sub q4 (.tup z t)
      | str z =>
        obtain ⟨z1, q3⟩ := RG.chk q3
        exact .inr (.inr ⟨z, rfl, z1, RG.here g3.sub q3 (.str _)⟩)
      | _ => exact q3.elim⟩⟩⟩
theorem me_rev {k : Nat} {p1 p3 p4 : Pos} (ha : PE X a (tM X.K B W ma)) : PE X (.Subscript a (.Slice none none (some (.UnaryOp .USub (.Constant (.int 1) k p1) p2)) p3) pos) (tM X.K B W (mUn revD ma)) :=
  PE.imp (pe_revL ha) fun σ H Q ⟨G, ρ, e, q⟩ => ⟨G, ρ, e, RG.bind q fun d G1 v H1 g r q1 => by
    cases r with
    | lst z t => exact ⟨_, _, rfl, .inl (g.sub.rd z), RG.newL g.sub q1 t.reverse⟩
    | _ => exact q1.elim⟩
end
end PL
namespace PL
open PySem PySem.Spec L2
open PyProof.Rows (b2i)
/-- what all of the text's defs share -/
structure Tk where
  P : Program
  w : World
  K : PySem.W.Frag
  mg : Str → Option Value
  base : Heap
abbrev tkOf (X : Cx) : Tk := ⟨X.prog, X.w, X.K, X.mg, X.base⟩
/-- the def at f, called with j values, is worth m; its frames and what it calls take k -/
def FnM (T : Tk) (k : Nat) (f : Addr) (j : Nat) (m : List D → Res D) : Prop :=
  ∀ (A : Around) (outer : List Env) (s : Shared) (G H : Hp) (us : List Value) (vs : List V) (ds : List D) (Q : VK) (E : XK), Room k A → Env0 T.P T.w T.K T.mg T.base A outer s H → Vals vs us → vs.length = j → Ext G H → Reps T.K G vs ds →
    RG (Rep T.K) T.K E G H Q (m ds) → codeAny (model T.P T.w) A (.call (.ref f) ⟨us, []⟩) (CR (L2.CX T.P T.w) outer T.P T.w H s Q E) s
/-- .. with keywords ks behind the j values -/
def FnKM (T : Tk) (k : Nat) (f : Addr) (j : Nat) (ks : List Str) (m : List D → List D → Res D) : Prop :=
  ∀ (A : Around) (outer : List Env) (s : Shared) (G H : Hp) (us ws : List Value) (vs zs : List V) (ds es : List D) (Q : VK) (E : XK), Room k A → Env0 T.P T.w T.K T.mg T.base A outer s H → Vals vs us → Vals zs ws → vs.length = j → zs.length = ks.length → Ext G H → Reps T.K G vs ds → Reps T.K G zs es →
    RG (Rep T.K) T.K E G H Q (m ds es) → codeAny (model T.P T.w) A (.call (.ref f) ⟨us, ks.zip ws⟩) (CR (L2.CX T.P T.w) outer T.P T.w H s Q E) s
/-- __init__ at f of a new instance of c, called with j values besides: its attributes -/
def InM (T : Tk) (k : Nat) (f : Addr) (c : Cl) (j : Nat) (m : List D → Res (List (Nm × D))) : Prop :=
  ∀ (A : Around) (outer : List Env) (s : Shared) (G H : Hp) (x dx : Addr) (us : List Value) (vs : List V) (ds : List D) (Q : VK) (E : XK), Room k A → Env0 T.P T.w T.K T.mg T.base A outer s H → Vals vs us → vs.length = j →
    H x = some (.ins (ca T.K c) dx []) → G x = none → (∀ a o, a ≠ x → G a = some o → H a = some o) → Reps T.K G vs ds →
    (match m ds with
      | .ok fs => ∀ G' H' fv, Grow G (fun a => if a = x then none else H a) G' H' → G' x = none → H' x = some (.ins (ca T.K c) dx fv) → AtF T.K c fs → RepF T.K G' fv fs → Q .non H'
      | .exc e => ∀ G' H' cls d, Grow G (fun a => if a = x then none else H a) G' H' → ErrOk T.K G' H' cls d e → E cls d H'
      | .stuck => False) →
    codeAny (model T.P T.w) A (.call (.ref f) ⟨.ref x :: us, []⟩) (CR (L2.CX T.P T.w) outer T.P T.w H s Q E) s
section
variable {T : Tk} {k k' : Nat} {f : Addr} {j : Nat} {m : List D → Res D}
theorem FnM.mono (F : FnM T k f j m) (h : k ≤ k') : FnM T k' f j m := fun A outer s G H us vs ds Q E hr => F A outer s G H us vs ds Q E (hr.mono h)
end
def CEnd (X : Cx) (pins : List (Addr × Obj)) (σ : St) (Q : VK) : Result → Shared → Prop
  | .ok (.ret v), s' => EP X pins σ Q v s'
  | .ok _, _ => False
  | .error e, s' => X.xe e s'
section
variable {X : Cx} {W : WX} {pins : List (Addr × Obj)} {σ : St} {G H : Hp} {s : Shared} {A : Around} {k j : Nat} {f : Addr} {m : List D → Res D} {us : List Value} {vs : List V} {ds : List D} {Q : VK}
/-- what a call's end is to the caller -/
theorem cr_go (tk : Takes X W) (I : Inv X pins σ H s) {r : Result} {s' : Shared} (h : CR (L2.CX X.prog X.w) X.stack X.prog X.w H s Q (WE W σ) r s') : CEnd X pins σ Q r s' := by
  cases r with
  | error e => exact tk e s' (XE.of_call I (fun _ _ _ h => h) h)
  | ok fl =>
    cases fl with
    | ret u => exact I.after h
    | next => exact False.elim h
    | brk => exact False.elim h
    | cont => exact False.elim h
theorem FnM.go (F : FnM (tkOf X) k f j m) (tk : Takes X W) (hr : Room k A) (e0 : Env0 X.prog X.w X.K X.mg X.base A X.stack s H) (I : Inv X pins σ H s) (r : Vals vs us) (hl : vs.length = j) (e : Ext G H) (rr : Reps X.K G vs ds)
    (h : RG (Rep X.K) X.K (fun c d H' => W c d σ H') G H Q (m ds)) :
    codeAny (model X.prog X.w) A (.call (.ref f) ⟨us, []⟩) (CEnd X pins σ Q) s :=
  codeAny_mono (F A X.stack s G H us vs ds Q (WE W σ) hr e0 r hl e rr h) fun _ _ q => cr_go tk I q
theorem FnM.call (F : FnM (tkOf X) k f j m) (tk : Takes X W) (hr : Room k X.A) (I : Inv X pins σ H s) (r : Vals vs us) (hl : vs.length = j) (e : Ext G H) (rr : Reps X.K G vs ds)
    (h : RG (Rep X.K) X.K (fun c d H' => W c d σ H') G H Q (m ds)) : wpAny (model X.prog X.w) X.A (call (.ref f) us) (EP X pins σ Q) X.xe s := by
  refine wpAny_call (codeAny_mono (F.go tk hr I.env0 I r hl e rr h) fun r s' q => ?_)
  cases r with
  | error e => exact q
  | ok fl => cases fl <;> exact q
end
def mCall (g : List D → Res D) (ms : Ev → Res (List D)) : Ev → Res D := fun ρ => ms ρ >>= g
def mCallK (g : List D → List D → Res D) (ms ks : Ev → Res (List D)) : Ev → Res D := fun ρ => ms ρ >>= fun ds => ks ρ >>= fun es => g ds es
/-- the module's name x is such a def -/
structure Glo (T : Tk) (k : Nat) (x : Str) (j : Nat) (m : List D → Res D) : Prop where
  ex : ∃ f, T.mg x = some (.ref f) ∧ PySem.W.keepIn T.K (.ref f) = true ∧ FnM T k f j m
structure GloK (T : Tk) (k : Nat) (x : Str) (j : Nat) (ks : List Str) (m : List D → List D → Res D) : Prop where
  ex : ∃ f, T.mg x = some (.ref f) ∧ PySem.W.keepIn T.K (.ref f) = true ∧ FnKM T k f j ks m
section
variable {X : Cx} {B : Base} {W : WX} {k j : Nat} {x : Str} {g : List D → Res D} {e : Expr} {es : List Expr} {ms mk : Ev → Res (List D)} {p pos : Pos}
theorem reps_len {K : PySem.W.Frag} {G : Hp} {vs : List V} {ds : List D} (r : Reps K G vs ds) {j : Nat} (h : ds.length = j) : vs.length = j := r.length.trans h
theorem me_call (F : Glo (tkOf X) k x j g) (tk : Takes X W) (hr : Room k X.A) (hg : Gl X x) (ha : PA X (e :: es) (tMA X.K B W ms)) (hj : ∀ ρ ds, ms ρ = .ok ds → ds.length = j) (hdb : (x == ("__debug__" : Str)) = false := by decide)
    (he : starEach (e :: es) X.env = (false, eval e X.env) :: starEach es X.env := by rfl) (hpl : (backTo pos (starEach es X.env)).any (·.1) = false := by rfl) : PE X (.Call (.Name x p) (e :: es) [] pos) (tM X.K B W (mCall g ms)) := by
  obtain ⟨f, hm, hk, F⟩ := F.ex
  refine ⟨fun pins s σ H Q I ⟨G, ρ, e0, h⟩ => ?_⟩
  refine wpAny_Call_Name_kw (ld_glob I hg hm ?_ hdb)
  refine PySem.W.callWith_K (h₀ := X.base) I.ok.mod.kin hk (thn (ha.run pos pins s σ H (fun vs H1 => ∃ G1 ds, Ext G1 H1 ∧ Reps X.K G1 vs ds ∧ ds.length = j ∧ RG (Rep X.K) X.K (fun c d H' => W c d σ H') G1 H1 Q (g ds)) I ?_) fun us s1 ⟨vs, H1, I1, r, G1, ds, e1, rr, hl, q⟩ => ⟨I1.kIn, ?_⟩) he hpl
  · refine ⟨G, ρ, e0, ?_⟩
    have z := hj ρ
    unfold mCall at h
    cases hms : ms ρ with
    | ok ds => 
      rw [hms] at h
      exact fun G1 vs H1 g r => ⟨G1, ds, g.sub, r, z ds hms, RG.grow g h⟩
    | exc x => rw [hms] at h; exact h
    | stuck => rw [hms] at h; exact h
  · exact F.call tk hr I1 r (reps_len rr hl) e1 rr q
theorem me_call0 (F : Glo (tkOf X) k x 0 g) (tk : Takes X W) (hr : Room k X.A) (hg : Gl X x) (hdb : (x == ("__debug__" : Str)) = false := by decide) : PE X (.Call (.Name x p) [] [] pos) (tM X.K B W (mCall g mNil)) := by
  obtain ⟨f, hm, hk, F⟩ := F.ex
  refine ⟨fun pins s σ H Q I ⟨G, ρ, e0, h⟩ => ?_⟩
  refine wpAny_Call_Name_kw (ld_glob I hg hm ?_ hdb)
  exact PySem.W.callWith_K0 I.kIn hk (F.call (us := []) tk hr I .nil rfl e0.sub .nil h)
/-- how many -/
theorem mLen_nil : ∀ (ρ : Ev) (ds : List D), mNil ρ = .ok ds → ds.length = 0 := fun _ ds h => by cases h; rfl
theorem mLen_cons {m : Ev → Res D} {ms : Ev → Res (List D)} {n : Nat} (h : ∀ ρ ds, ms ρ = .ok ds → ds.length = n) : ∀ ρ ds, mCons m ms ρ = .ok ds → ds.length = n + 1 := fun ρ ds q => by
  unfold mCons at q
  cases h1 : m ρ with
  | ok d =>
    rw [h1] at q
    cases h2 : ms ρ with
    | ok es =>
      rw [h2] at q
      cases q
      rw [List.length_cons, h ρ es h2]
    | _ => rw [h2] at q; cases q
  | _ => rw [h1] at q; cases q
end
def fldD (n : Nm) : D → Res D
  | .obj _ fs => ofOpt (fs.lookup n)
  | _ => .stuck
def noX {α : Type} : Res α → Res α
  | .exc _ => .stuck
  | r => r
/-- .. where some classes have a property of the name -/
def attrO (n : Option Nm) (fs : List (Nm × D)) : Res D := match n with
  | some n => ofOpt (fs.lookup n)
  | none => .stuck
def attrC (n : Option Nm) (c : Cl) (fs : List (Nm × D)) : Option (List D → Res D) → Res D
  | some g => noX (g [.obj c fs])
  | none => attrO n fs
def attrD (n : Option Nm) (ps : Cl → Option (List D → Res D)) : D → Res D
  | .obj c fs => attrC n c fs (ps c)
  | _ => .stuck
/-- a constant of some classes -/
def conD (ps : Cl → Option D) : D → Res D
  | .obj c _ => ofOpt (ps c)
  | _ => .stuck
structure PropF (T : Tk) (k : Nat) (c : Cl) (f : Str) (g : List D → Res D) : Prop where
  ex : ∃ p fa, PropOf T.K (ca T.K c) f p fa ∧ FnM T k fa 1 g
section
variable {X : Cx} {B : Base} {W : WX} {e : Expr} {m : Ev → Res D} {pos : Pos} {f : Str}
theorem me_fld (n : Nm) (he : PE X e (tM X.K B W m)) (hf : n.s = f := by rfl) (hb : attributeBase e f X.env (eval e X.env) = eval e X.env := by rfl) : PE X (.Attribute e f pos) (tM X.K B W (mUn (fldD n) m)) := by
  subst hf
  refine PE.imp (pe_fld he hb) fun σ H Q ⟨G, ρ, e, q⟩ => ⟨G, ρ, e, RG.bind q fun d G1 v H1 g r q1 => ?_⟩
  cases r with
  | obj h at_ r =>
    obtain ⟨d, hd, q1⟩ := RG.opt q1
    obtain ⟨w, e1, r1⟩ := r.lookup hd
    have hm : (n, d) ∈ (_ : List (Nm × D)) := mem_of_lookup hd
    exact ⟨_, _, _, _, w, rfl, g.sub _ _ h, at_.1.cls, at_.2 _ hm, e1, RG.here g.sub q1 r1⟩
  | _ => exact q1.elim
where
  mem_of_lookup {α β : Type} [DecidableEq α] {a : α} {b : β} : ∀ {l : List (α × β)}, l.lookup a = some b → (a, b) ∈ l
  | [], h => nomatch (show (none : Option β) = some b from h)
  | (c, d) :: r, h => by
    rw [List.lookup_cons] at h
    by_cases z : a = c
    · subst z
      rw [beq_self_eq_true] at h
      cases h
      exact List.mem_cons_self
    · rw [beq_false_of_ne z] at h
      exact List.mem_cons_of_mem _ (mem_of_lookup h)
theorem me_con_cls {ps : Cl → Option D} (hx : ∀ n : Nm, n.s ≠ f) (hp : ∀ c d, ps c = some d → ∃ v u, Con X.K (ca X.K c) f v u ∧ ∀ G, Rep X.K G v d) (he : PE X e (tM X.K B W m)) (hb : attributeBase e f X.env (eval e X.env) = eval e X.env := by rfl) :
    PE X (.Attribute e f pos) (tM X.K B W (mUn (conD ps) m)) := by
  refine PE.imp (pe_con he hb) fun σ H Q ⟨G, ρ, e, q⟩ => ⟨G, ρ, e, RG.bind q fun d G1 v H1 g r q1 => ?_⟩
  cases r with
  | obj h at_ r =>
    obtain ⟨d, hd, q1⟩ := RG.opt q1
    obtain ⟨v, u, c, rv⟩ := hp _ d hd
    exact ⟨_, _, _, _, v, u, rfl, g.sub _ _ h, at_.1.cls, c, r.lookup_out hx, RG.here g.sub q1 (rv _)⟩
  | _ => exact q1.elim
theorem me_attr {k : Nat} {n : Option Nm} {ps : Cl → Option (List D → Res D)} (hn : ∀ n' : Nm, n = some n' → n'.s = f) (hp : ∀ c g, ps c = some g → PropF (tkOf X) k c f g) (hr : Room (k + 1) X.A) (he : PE X e (tM X.K B W m)) (hb : attributeBase e f X.env (eval e X.env) = eval e X.env := by rfl) :
    PE X (.Attribute e f pos) (tM X.K B W (mUn (attrD n ps) m)) := by
  refine ⟨fun pins s σ H Q I ⟨G, ρ, e0, h⟩ => ?_⟩
  refine attr_of hb (thn (he.run pins s σ H (fun x H1 => ∃ G1 d, Ext G1 H1 ∧ Rep X.K G1 x d ∧ RG (Rep X.K) X.K (fun c d H' => W c d σ H') G1 H1 Q (attrD n ps d)) I ⟨G, ρ, e0, RG.bind h fun d G1 v H1 g r h1 => ⟨G1, d, g.sub, r, h1⟩⟩) fun u s1 ⟨x, H1, I1, rx, G1, d, e1, r, q⟩ => ?_)
  cases r with
  | @obj a dx fv c fs hG at_ r =>
    obtain rfl : u = Value.ref a := rx
    have q' : RG (Rep X.K) X.K (fun c d H' => W c d σ H') G1 H1 Q (attrC n c fs (ps c)) := q
    cases hps : ps c with
    | none =>
      rw [hps] at q'
      cases n with
      | none => exact q'.elim
      | some n =>
        obtain rfl := hn n rfl
        obtain ⟨d, hd, q'⟩ := RG.opt q'
        obtain ⟨w, e2, r2⟩ := r.lookup hd
        exact getattr_ok I1 (e1 _ _ hG) at_.1.cls (at_.2 _ (me_fld.mem_of_lookup hd)) e2 fun u' s2 I2 ru => ⟨w, H1, I2, ru, RG.here e1 q' r2⟩
    | some g =>
      rw [hps] at q'
      obtain ⟨p, fa, hp, F⟩ := (hp c g hps).ex
      obtain ⟨mA, O, _, _, _, _⟩ := ins_get I1.hok (e1 _ _ hG)
      obtain ⟨od, J, _⟩ := O.look
      obtain ⟨rest, hrec⟩ := hp.rec_
      have I2 := I1.tok (s1.toks + 1)
      have c' := at_.1.cls
      have hc : (PySem.W.clsIn X.K (ca X.K c)).isSome = true := by
        obtain ⟨cd, hc, _⟩ := PySem.W.any_some c'.hd
        rw [hc]
        rfl
      have q2 : RG (Rep X.K) X.K (fun _ _ _ => False) G1 H1 Q (g [.obj c fs]) := by
        have q4 : RG (Rep X.K) X.K (fun c d H' => W c d σ H') G1 H1 Q (noX (g [.obj c fs])) := q'
        cases hg : g [.obj c fs] with
        | ok d => rw [hg] at q4; exact q4
        | exc x => rw [hg] at q4; exact q4.elim
        | stuck => rw [hg] at q4; exact q4
      refine PySem.W.get_bind I1.kIn J (PySem.W.plainGet_of (c'.get f)).1 (PySem.W.findObj_data hc hp.at_ hp.get hp.tak) (PySem.W.plainGet_of (c'.get f)).2 (wpAny_call (PySem.W.prop_get (s := { s1 with toks := s1.toks + 1 }) I1.kIn hrec ?_))
      refine codeAny_mono (F X.A.in1 X.stack { s1 with toks := s1.toks + 1 } G1 H1 [.ref a] [.ref a] [.obj c fs] Q (fun _ _ _ => False) hr.in1 I2.env0.in1 (.cons rfl .nil) rfl e1 (.cons (.obj hG at_ r) .nil) q2) fun rr s' hq => ?_
      cases rr with
      | error er =>
        obtain ⟨_, _, _, _, _, _, _, _, _, _, _, _, z⟩ := hq
        exact z.elim
      | ok fl =>
        cases fl with
        | ret u =>
          obtain ⟨v, H', I3, rv, q3⟩ := I2.after hq
          exact wpAny_of_eq (PySem.W.handedOut_of (handed_of rv)) ⟨v, H', I3, rv, q3⟩
        | next => exact False.elim hq
        | brk => exact False.elim hq
        | cont => exact False.elim hq
  | _ => exact q.elim
end
end PL
namespace PL
open PySem PySem.Spec L2
open PyProof.Rows (b2i)
structure MethF (T : Tk) (k : Nat) (c : Cl) (m : Str) (j : Nat) (g : List D → Res D) : Prop where
  ex : ∃ f, Meth T.K (ca T.K c) m f ∧ FnM T k f (j + 1) g
/-- mn: the attribute of that name, if there is one -/
def methD (mn : Option Nm) (ps : Cl → Option (List D → Res D)) : D → Res (List D → Res D)
  | .obj c fs => ofOpt (ps c) >>= fun g => chk (mn.all (fun n => (fs.lookup n).isNone) = true) (.ok fun ds => g (.obj c fs :: ds))
  | _ => .stuck
def mMeth (mn : Option Nm) (ps : Cl → Option (List D → Res D)) (mo : Ev → Res D) (ms : Ev → Res (List D)) : Ev → Res D := fun ρ => mo ρ >>= fun o => methD mn ps o >>= fun g => ms ρ >>= g
theorem RG.len {K : PySem.W.Frag} {E : XK} {G H : Hp} {Q : VK} {j : Nat} {r : Res (List D)} {f : List D → Res D} {P : List V → Hp → Prop} (hj : ∀ ds, r = .ok ds → ds.length = j) (h : RG (Rep K) K E G H Q (r >>= f))
    (k : ∀ ds G1 vs H1, ds.length = j → Grow G H G1 H1 → Reps K G1 vs ds → RG (Rep K) K E G1 H1 Q (f ds) → P vs H1) : RG (Reps K) K E G H P r := by
  cases r with
  | ok ds => exact fun G1 vs H1 g rr => k ds G1 vs H1 (hj ds rfl) g rr (RG.grow g h)
  | exc e => exact h
  | stuck => exact h
section
variable {X : Cx} {B : Base} {W : WX} {k j : Nat} {m : Str} {mn : Option Nm} {ps : Cl → Option (List D → Res D)} {o e : Expr} {es : List Expr} {mo : Ev → Res D} {ms : Ev → Res (List D)} {pos apos : Pos}
theorem no_field {K : PySem.W.Frag} {G : Hp} {fv : List (Str × V)} {fs : List (Nm × D)} {m : Str} {mn : Option Nm} (hmn : ∀ n : Nm, n.s = m → mn = some n) (r : RepF K G fv fs) (h : mn.all (fun n => (fs.lookup n).isNone) = true) : fv.lookup m = none := by
  by_cases z : ∃ n : Nm, n.s = m
  · obtain ⟨n, rfl⟩ := z
    have e := hmn n rfl
    subst e
    exact r.lookup_none (Option.isNone_iff_eq_none.mp h)
  · exact r.lookup_out fun n q => z ⟨n, q⟩
theorem meth_find {K : PySem.W.Frag} {E : XK} {G H : Hp} {Q : VK} {x : V} {d : D} {m : Str} {mn : Option Nm} {f : (List D → Res D) → Res D} (hmn : ∀ n : Nm, n.s = m → mn = some n) (r : Rep K G x d) (q : RG (Rep K) K E G H Q (methD mn ps d >>= f)) :
    ∃ a dx fv c fs g, x = .ref a ∧ d = .obj c fs ∧ G a = some (.ins (ca K c) dx fv) ∧ AtF K c fs ∧ RepF K G fv fs ∧ ps c = some g ∧ fv.lookup m = none ∧ RG (Rep K) K E G H Q (f fun ds => g (.obj c fs :: ds)) := by
  cases r with
  | @obj a dx fv c fs hG at_ r =>
    have q' : RG (Rep K) K E G H Q ((ofOpt (ps c) >>= fun g => chk (mn.all (fun n => (fs.lookup n).isNone) = true) (.ok fun ds => g (.obj c fs :: ds))) >>= f) := q
    cases hps : ps c with
    | none => rw [hps] at q'; exact q'.elim
    | some g =>
      rw [hps] at q'
      by_cases z : mn.all (fun n => (fs.lookup n).isNone) = true
      · rw [ofOpt_some, ok_bind, chk_pos z, ok_bind] at q'
        exact ⟨a, dx, fv, c, fs, g, rfl, rfl, hG, at_, r, hps, no_field hmn r z, q'⟩
      · rw [ofOpt_some, ok_bind] at q'
        unfold chk at q'
        rw [if_neg z] at q'
        exact q'.elim
  | _ => exact q.elim
theorem me_meth {pl : Sem Bool} (hmn : ∀ n : Nm, n.s = m → mn = some n) (hp : ∀ c g, ps c = some g → MethF (tkOf X) k c m j g) (tk : Takes X W) (hr : Room k X.A) (ho : PE X o (tM X.K B W mo)) (ha : PA X (e :: es) (tMA X.K B W ms)) (hj : ∀ ρ ds, ms ρ = .ok ds → ds.length = j)
    (hst : starEach (e :: es) X.env = (false, eval e X.env) :: starEach es X.env := by rfl) (hpl : (backTo pos (starEach es X.env)).any (·.1) = false := by rfl)
    (ht : eval (.Call (.Attribute o m apos) (e :: es) [] pos) X.env = (do
      let ov ← eval o X.env
      standAt apos.atName
      let (f, first) ← holding [ov] (getMethod ov m pl)
      callWith pos f first (backTo pos (starEach (e :: es) X.env)) (backToKw pos (keywordEach [] X.env))) := by rfl) :
    PE X (.Call (.Attribute o m apos) (e :: es) [] pos) (tM X.K B W (mMeth mn ps mo ms)) := by
  refine ⟨fun pins s σ H Q I ⟨G, ρ, e0, h⟩ => ?_⟩
  refine PySem.W.methodCall_KW (pl := pl) (thn (ho.run pins s σ H (fun x H1 => ∃ G1 d, EnvOk X.K B G1 σ ρ H1 ∧ Rep X.K G1 x d ∧ RG (Rep X.K) X.K (fun c d H' => W c d σ H') G1 H1 Q (methD mn ps d >>= fun g => ms ρ >>= g)) I ⟨G, ρ, e0, RG.bind h fun d G1 v H1 g r h1 => ⟨G1, d, e0.growN g, r, h1⟩⟩) fun u s1 ⟨x, H1, I1, rx, G1, d, e1, r, q⟩ => ?_) ht
  obtain ⟨a, dx, fv, c, fs, g, rfl, rfl, hG, at_, rf, hps, hno, q⟩ := meth_find hmn r q
  obtain ⟨f, hm, F⟩ := (hp c g hps).ex
  obtain rfl : u = Value.ref a := rx
  refine getmeth_ok I1 (e1.sub _ _ hG) at_.1.cls hm hno ?_
  refine PySem.W.callWith_K (first := [.ref a]) (h₀ := X.base) I.ok.mod.kin hm.kp (thn (ha.run pos pins s1 σ H1 (fun vs H2 => ∃ G2 ds, ds.length = j ∧ Ext G1 G2 ∧ Ext G2 H2 ∧ Reps X.K G2 vs ds ∧ RG (Rep X.K) X.K (fun c d H' => W c d σ H') G2 H2 Q (g (.obj c fs :: ds))) I1 ⟨G1, ρ, e1, RG.len (hj ρ) q fun ds G2 vs H2 hl g2 rr q2 => ⟨G2, ds, hl, g2.g, g2.sub, rr, q2⟩⟩) fun us s2 ⟨vs, H2, I2, r2, G2, ds, hl, e12, e2, rr, q2⟩ => ⟨I2.kIn, ?_⟩) hst hpl
  exact F.call (vs := .ref a :: vs) (us := .ref a :: us) tk hr I2 (.cons rfl r2) (by rw [List.length_cons, reps_len rr hl]) e2 (.cons (Rep.mono e12 (.obj hG at_ rf)) rr) q2
theorem me_meth0 {pl : Sem Bool} (hmn : ∀ n : Nm, n.s = m → mn = some n) (hp : ∀ c g, ps c = some g → MethF (tkOf X) k c m 0 g) (tk : Takes X W) (hr : Room k X.A) (ho : PE X o (tM X.K B W mo))
    (ht : eval (.Call (.Attribute o m apos) [] [] pos) X.env = (do
      let ov ← eval o X.env
      standAt apos.atName
      let (f, first) ← holding [ov] (getMethod ov m pl)
      callWith pos f first (backTo pos (starEach [] X.env)) (backToKw pos (keywordEach [] X.env))) := by rfl) :
    PE X (.Call (.Attribute o m apos) [] [] pos) (tM X.K B W (mMeth mn ps mo mNil)) := by
  refine ⟨fun pins s σ H Q I ⟨G, ρ, e0, h⟩ => ?_⟩
  refine PySem.W.methodCall_KW (pl := pl) (thn (ho.run pins s σ H (fun x H1 => ∃ G1 d, EnvOk X.K B G1 σ ρ H1 ∧ Rep X.K G1 x d ∧ RG (Rep X.K) X.K (fun c d H' => W c d σ H') G1 H1 Q (methD mn ps d >>= fun g => mNil ρ >>= g)) I ⟨G, ρ, e0, RG.bind h fun d G1 v H1 g r h1 => ⟨G1, d, e0.growN g, r, h1⟩⟩) fun u s1 ⟨x, H1, I1, rx, G1, d, e1, r, q⟩ => ?_) ht
  obtain ⟨a, dx, fv, c, fs, g, rfl, rfl, hG, at_, rf, hps, hno, q⟩ := meth_find hmn r q
  obtain ⟨f, hm, F⟩ := (hp c g hps).ex
  obtain rfl : u = Value.ref a := rx
  refine getmeth_ok I1 (e1.sub _ _ hG) at_.1.cls hm hno ?_
  exact PySem.W.callWith_K0 (first := [.ref a]) I1.kIn hm.kp (F.call (vs := [.ref a]) (us := [.ref a]) tk hr I1 (.cons rfl .nil) rfl e1.sub (.cons (.obj hG at_ rf) .nil) q)
end
structure MakF (T : Tk) (k : Nat) (c : Cl) (j : Nat) (m : List D → Res (List (Nm × D))) : Prop where
  ex : ∃ f, Mk T.K (ca T.K c) f ∧ InM T k f c j m
def newD (c : Cl) (m : List D → Res (List (Nm × D))) : List D → Res D := fun ds => m ds >>= fun fs => .ok (.obj c fs)
section
variable {X : Cx} {B : Base} {W : WX} {k j : Nat} {c : Cl} {x : Str} {m : List D → Res (List (Nm × D))} {e : Expr} {es : List Expr} {ms : Ev → Res (List D)} {p pos : Pos}
theorem MakF.go {pins : List (Addr × Obj)} {σ : St} {G H : Hp} {s : Shared} {Q : VK} {us : List Value} {vs : List V} {ds : List D} (F : MakF (tkOf X) k c j m) (tk : Takes X W) (hr : Room (k + 1) X.A) (I : Inv X pins σ H s) (r : Vals vs us) (hl : vs.length = j) (e : Ext G H) (rr : Reps X.K G vs ds)
    (h : RG (Rep X.K) X.K (fun c d H' => W c d σ H') G H Q (newD c m ds)) : wpAny (model X.prog X.w) X.A (call (.ref (ca X.K c)) us) (EP X pins σ Q) X.xe s := by
  obtain ⟨f, M, F⟩ := F.ex
  have I2 := Inv.made (C := ca X.K c) I
  have nx : H (s.heap.objs.size + 1) = none := I.hok.fresh (Nat.le_succ _)
  have nd : H s.heap.objs.size = none := I.hok.fresh (Nat.le_refl _)
  have ne : s.heap.objs.size ≠ s.heap.objs.size + 1 := Nat.ne_of_lt (Nat.lt_succ_self _)
  refine wpAny_call (make_map (f := f) I.kIn M.makes M.init (beq_iff_eq.mp M.fn) (codeAny_mono (F _ X.stack _ G _ (s.heap.objs.size + 1) s.heap.objs.size us vs ds (fun v H2 => v = .non ∧ Q (.ref (s.heap.objs.size + 1)) H2) (WE W σ) (hr.make (ca X.K c) us []) (I2.env0.make (ca X.K c) us []) r hl upd_same (e.free nx) (fun a o _ q => ?_) rr ?_) fun r s' hq' => ?_))
  · rw [upd_ne (ne_of_none (e _ _ q) nx), upd_ne (ne_of_none (e _ _ q) nd)]
    exact e _ _ q
  · have up : Ext H (fun a => if a = s.heap.objs.size + 1 then none else upd (upd H s.heap.objs.size (.own (s.heap.objs.size + 1))) (s.heap.objs.size + 1) (.ins (ca X.K c) s.heap.objs.size []) a) := fun a o q => by
      have h1 : a ≠ s.heap.objs.size + 1 := ne_of_none q nx
      show (if a = s.heap.objs.size + 1 then none else _) = some o
      rw [if_neg h1, upd_ne h1, upd_ne (ne_of_none q nd)]
      exact q
    unfold newD at h
    cases hm : m ds with
    | stuck => rw [hm] at h; exact h
    | exc er =>
      rw [hm] at h
      exact fun G' H' cls d g er' => h G' cls d H' ⟨g.g, up.trans g.h, g.sub, fun a o q => by
        rcases g.new a o q with z | z
        · exact .inl z
        · exact .inr (up.free z)⟩ er'
    | ok fs =>
      rw [hm] at h
      refine fun G' H' fv g gx hx at_ rf => ⟨rfl, h (upd G' (s.heap.objs.size + 1) (.ins (ca X.K c) s.heap.objs.size fv)) _ H' ⟨g.g.trans (.upd gx), up.trans g.h, fun a o q => ?_, fun a o q => ?_⟩ (.obj upd_same at_ (rf.mono (.upd gx)))⟩
      · by_cases z : a = s.heap.objs.size + 1
        · subst z; rw [upd_same] at q; cases q; exact hx
        · rw [upd_ne z] at q; exact g.sub _ _ q
      · by_cases z : a = s.heap.objs.size + 1
        · subst z; exact .inr nx
        · rw [upd_ne z] at q
          rcases g.new a o q with y | y
          · exact .inl y
          · exact .inr (up.free y)
  · cases r with
    | error er => exact tk er s' (XE.of_call I2 (fun _ _ _ h => h) hq')
    | ok fl =>
      cases fl with
      | ret u =>
        obtain ⟨v, H', I3, rv, ev, q3⟩ := I2.after hq'
        subst ev
        exact ⟨rv, ⟨V.ref (s.heap.objs.size + 1), H', I3, rfl, q3⟩⟩
      | next => exact False.elim hq'
      | brk => exact False.elim hq'
      | cont => exact False.elim hq'
theorem me_make (F : MakF (tkOf X) k c j m) (tk : Takes X W) (hr : Room (k + 1) X.A) (hg : Gl X x) (hm : X.mg x = some (.ref (ca X.K c))) (ha : PA X (e :: es) (tMA X.K B W ms)) (hj : ∀ ρ ds, ms ρ = .ok ds → ds.length = j) (hdb : (x == ("__debug__" : Str)) = false := by decide)
    (he : starEach (e :: es) X.env = (false, eval e X.env) :: starEach es X.env := by rfl) (hpl : (backTo pos (starEach es X.env)).any (·.1) = false := by rfl) : PE X (.Call (.Name x p) (e :: es) [] pos) (tM X.K B W (mCall (newD c m) ms)) := by
  obtain ⟨f, M, _⟩ := id F.ex
  refine ⟨fun pins s σ H Q I ⟨G, ρ, e0, h⟩ => ?_⟩
  refine wpAny_Call_Name_kw (ld_glob I hg hm ?_ hdb)
  refine PySem.W.callWith_K (h₀ := X.base) I.ok.mod.kin M.kp (thn (ha.run pos pins s σ H (fun vs H2 => ∃ G2 ds, ds.length = j ∧ Ext G2 H2 ∧ Reps X.K G2 vs ds ∧ RG (Rep X.K) X.K (fun c d H' => W c d σ H') G2 H2 Q (newD c m ds)) I ⟨G, ρ, e0, RG.len (hj ρ) h fun ds G2 vs H2 hl g2 rr q2 => ⟨G2, ds, hl, g2.sub, rr, q2⟩⟩) fun us s1 ⟨vs, H1, I1, r, G2, ds, hl, e2, rr, q⟩ => ⟨I1.kIn, ?_⟩) he hpl
  exact F.go tk hr I1 r (reps_len rr hl) e2 rr q
end
/-- by a method of the left one's class (the right one is of the same class, or an int) -/
def ownD (base : D → D → Res D) (ps : Cl → Option (List D → Res D)) (rs : Cl → Option (List D → Res D)) : D → D → Res D
  | .obj c fs, .int i => ofOpt (ps c) >>= fun g => g [.obj c fs, .int i]
  | .obj c fs, .obj c' gs => ofOpt (ps c) >>= fun g => chk (c' = c) (g [.obj c fs, .obj c' gs])
  | .int i, .obj c fs => ofOpt (rs c) >>= fun g => g [.obj c fs, .int i]
  | a, b => base a b
/-- c's method for the operator op, and the reflected one -/
structure BinF (T : Tk) (k : Nat) (op : Operator) (c : Cl) (g : List D → Res D) : Prop where
  ex : ∃ (f : Addr) (rc : Option Value), PySem.W.findIn T.K (.ref (ca T.K c)) (PySem.dunder op.info.2) = some (some (.ref f)) ∧ PySem.W.isFn T.K (.ref f) = true ∧
    PySem.W.findIn T.K (.ref (ca T.K c)) (dunderR op.info.2) = some rc ∧ (rc = none ∨ ∃ g : Addr, rc = some (.ref g)) ∧ FnM T k f 2 g
structure RinF (T : Tk) (k : Nat) (op : Operator) (c : Cl) (g : List D → Res D) : Prop where
  ex : ∃ (f f' : Addr), PySem.W.findIn T.K (.ref (ca T.K c)) (dunderR op.info.2) = some (some (.ref f)) ∧ PySem.W.isFn T.K (.ref f) = true ∧
    PySem.W.findIn T.K (.ref (ca T.K c)) (PySem.dunder op.info.2) = some (some (.ref f')) ∧ FnM T k f 2 g ∧ PySem.W.subIn T.K (.ref (ca T.K c)) (.type "int") = some false
end PL
namespace PL
open PySem PySem.Spec L2
open PyProof.Rows (b2i)
/-- what the int's side of an operator says where an instance stands on the other side -/
structure IntOp (op : Operator) : Prop where
  fo : ∃ fo ro, ∀ K : PySem.W.Frag, PySem.W.findIn K (.type "int") (PySem.dunder op.info.2) = some fo ∧ PySem.W.findIn K (.type "int") (dunderR op.info.2) = some ro
  fills : fillsNumberSlot (.type "int") op.info.2 = pure true
  dec : ∃ id B, Slot "int" (PySem.dunder op.info.2) id ∧ entryFor table id = some B ∧ (∀ a b : Value, argsOk id ⟨[a, b], []⟩) ∧
    ∀ (i : Int) (t : Tok) (x C dx : Addr), Meets (B ⟨[.int i t, .ref x], []⟩) (fun _ R s => s.heap.get? x = some (⟨.ref C, some dx, .plain, #[]⟩ : Obj) ∧ R (.ok (.ret Value.notImplemented)) s)
theorem int_add_ref (i : Int) (t : Tok) (x C dx : Addr) : Meets (Builtin.«int.__add__» ⟨[.int i t, .ref x], []⟩) (fun _ R s => s.heap.get? x = some (⟨.ref C, some dx, .plain, #[]⟩ : Obj) ∧ R (.ok (.ret Value.notImplemented)) s) :=
  .of_wp fun prog w A R s h => by
    obtain ⟨hp, g, d, tk, os⟩ := s
    obtain ⟨ho, h⟩ := h
    wp_walk using AutoSeq1.wpAny_loadPart' ho
    exact ⟨_, rfl, h⟩
theorem intAdd : IntOp .Add where
  fo := by
    have h1 : (PySem.fastLookup "int" (PySem.dunder "add")).isSome = true := by decide +kernel
    have h2 : (PySem.fastLookup "int" (dunderR "add")).isSome = true := by decide +kernel
    obtain ⟨fo, e1⟩ := Option.isSome_iff_exists.mp h1
    obtain ⟨ro, e2⟩ := Option.isSome_iff_exists.mp h2
    exact ⟨fo, ro, fun K => ⟨e1, e2⟩⟩
  fills := F.fills_int_add
  dec := ⟨_, _, F.slot_int_add, F.entry_int_add, F.args_int_add_2, int_add_ref⟩
theorem int_sub_ref (i : Int) (t : Tok) (x C dx : Addr) : Meets (Builtin.«int.__sub__» ⟨[.int i t, .ref x], []⟩) (fun _ R s => s.heap.get? x = some (⟨.ref C, some dx, .plain, #[]⟩ : Obj) ∧ R (.ok (.ret Value.notImplemented)) s) :=
  .of_wp fun prog w A R s h => by
    obtain ⟨hp, g, d, tk, os⟩ := s
    obtain ⟨ho, h⟩ := h
    wp_walk using AutoSeq1.wpAny_loadPart' ho
    exact ⟨_, rfl, h⟩
theorem intSub : IntOp .Sub where
  fo := by
    have h1 : (PySem.fastLookup "int" (PySem.dunder "sub")).isSome = true := by decide +kernel
    have h2 : (PySem.fastLookup "int" (dunderR "sub")).isSome = true := by decide +kernel
    obtain ⟨fo, e1⟩ := Option.isSome_iff_exists.mp h1
    obtain ⟨ro, e2⟩ := Option.isSome_iff_exists.mp h2
    exact ⟨fo, ro, fun K => ⟨e1, e2⟩⟩
  fills := F.fills_int_sub
  dec := ⟨_, _, F.slot_int_sub, F.entry_int_sub, F.args_int_sub_2, int_sub_ref⟩
theorem int_mul_ref (i : Int) (t : Tok) (x C dx : Addr) : Meets (Builtin.«int.__mul__» ⟨[.int i t, .ref x], []⟩) (fun _ R s => s.heap.get? x = some (⟨.ref C, some dx, .plain, #[]⟩ : Obj) ∧ R (.ok (.ret Value.notImplemented)) s) :=
  .of_wp fun prog w A R s h => by
    obtain ⟨hp, g, d, tk, os⟩ := s
    obtain ⟨ho, h⟩ := h
    wp_walk using AutoSeq1.wpAny_loadPart' ho
    exact ⟨_, rfl, h⟩
theorem intMult : IntOp .Mult where
  fo := by
    have h1 : (PySem.fastLookup "int" (PySem.dunder "mul")).isSome = true := by decide +kernel
    have h2 : (PySem.fastLookup "int" (dunderR "mul")).isSome = true := by decide +kernel
    obtain ⟨fo, e1⟩ := Option.isSome_iff_exists.mp h1
    obtain ⟨ro, e2⟩ := Option.isSome_iff_exists.mp h2
    exact ⟨fo, ro, fun K => ⟨e1, e2⟩⟩
  fills := F.fills_int_mul
  dec := ⟨_, _, F.slot_int_mul, F.entry_int_mul, F.args_int_mul_2, int_mul_ref⟩
theorem int_floordiv_ref (i : Int) (t : Tok) (x C dx : Addr) : Meets (Builtin.«int.__floordiv__» ⟨[.int i t, .ref x], []⟩) (fun _ R s => s.heap.get? x = some (⟨.ref C, some dx, .plain, #[]⟩ : Obj) ∧ R (.ok (.ret Value.notImplemented)) s) :=
  .of_wp fun prog w A R s h => by
    obtain ⟨hp, g, d, tk, os⟩ := s
    obtain ⟨ho, h⟩ := h
    wp_walk using AutoSeq1.wpAny_loadPart' ho
    exact ⟨_, rfl, h⟩
theorem intFloorDiv : IntOp .FloorDiv where
  fo := by
    have h1 : (PySem.fastLookup "int" (PySem.dunder "floordiv")).isSome = true := by decide +kernel
    have h2 : (PySem.fastLookup "int" (dunderR "floordiv")).isSome = true := by decide +kernel
    obtain ⟨fo, e1⟩ := Option.isSome_iff_exists.mp h1
    obtain ⟨ro, e2⟩ := Option.isSome_iff_exists.mp h2
    exact ⟨fo, ro, fun K => ⟨e1, e2⟩⟩
  fills := F.fills_int_floordiv
  dec := ⟨_, _, F.slot_int_floordiv, F.entry_int_floordiv, F.args_int_floordiv_2, int_floordiv_ref⟩
theorem int_mod_ref (i : Int) (t : Tok) (x C dx : Addr) : Meets (Builtin.«int.__mod__» ⟨[.int i t, .ref x], []⟩) (fun _ R s => s.heap.get? x = some (⟨.ref C, some dx, .plain, #[]⟩ : Obj) ∧ R (.ok (.ret Value.notImplemented)) s) :=
  .of_wp fun prog w A R s h => by
    obtain ⟨hp, g, d, tk, os⟩ := s
    obtain ⟨ho, h⟩ := h
    wp_walk using AutoSeq1.wpAny_loadPart' ho
    exact ⟨_, rfl, h⟩
theorem intMod : IntOp .Mod where
  fo := by
    have h1 : (PySem.fastLookup "int" (PySem.dunder "mod")).isSome = true := by decide +kernel
    have h2 : (PySem.fastLookup "int" (dunderR "mod")).isSome = true := by decide +kernel
    obtain ⟨fo, e1⟩ := Option.isSome_iff_exists.mp h1
    obtain ⟨ro, e2⟩ := Option.isSome_iff_exists.mp h2
    exact ⟨fo, ro, fun K => ⟨e1, e2⟩⟩
  fills := F.fills_int_mod
  dec := ⟨_, _, F.slot_int_mod, F.entry_int_mod, F.args_int_mod_2, int_mod_ref⟩
theorem int_lshift_ref (i : Int) (t : Tok) (x C dx : Addr) : Meets (Builtin.«int.__lshift__» ⟨[.int i t, .ref x], []⟩) (fun _ R s => s.heap.get? x = some (⟨.ref C, some dx, .plain, #[]⟩ : Obj) ∧ R (.ok (.ret Value.notImplemented)) s) :=
  .of_wp fun prog w A R s h => by
    obtain ⟨hp, g, d, tk, os⟩ := s
    obtain ⟨ho, h⟩ := h
    wp_walk using AutoSeq1.wpAny_loadPart' ho
    exact ⟨_, rfl, h⟩
theorem intLShift : IntOp .LShift where
  fo := by
    have h1 : (PySem.fastLookup "int" (PySem.dunder "lshift")).isSome = true := by decide +kernel
    have h2 : (PySem.fastLookup "int" (dunderR "lshift")).isSome = true := by decide +kernel
    obtain ⟨fo, e1⟩ := Option.isSome_iff_exists.mp h1
    obtain ⟨ro, e2⟩ := Option.isSome_iff_exists.mp h2
    exact ⟨fo, ro, fun K => ⟨e1, e2⟩⟩
  fills := F.fills_int_lshift
  dec := ⟨_, _, F.slot_int_lshift, F.entry_int_lshift, F.args_int_lshift_2, int_lshift_ref⟩
theorem int_and_ref (i : Int) (t : Tok) (x C dx : Addr) : Meets (Builtin.«int.__and__» ⟨[.int i t, .ref x], []⟩) (fun _ R s => s.heap.get? x = some (⟨.ref C, some dx, .plain, #[]⟩ : Obj) ∧ R (.ok (.ret Value.notImplemented)) s) :=
  .of_wp fun prog w A R s h => by
    obtain ⟨hp, g, d, tk, os⟩ := s
    obtain ⟨ho, h⟩ := h
    wp_walk using AutoSeq1.wpAny_loadPart' ho
    exact ⟨_, rfl, h⟩
theorem intBitAnd : IntOp .BitAnd where
  fo := by
    have h1 : (PySem.fastLookup "int" (PySem.dunder "and")).isSome = true := by decide +kernel
    have h2 : (PySem.fastLookup "int" (dunderR "and")).isSome = true := by decide +kernel
    obtain ⟨fo, e1⟩ := Option.isSome_iff_exists.mp h1
    obtain ⟨ro, e2⟩ := Option.isSome_iff_exists.mp h2
    exact ⟨fo, ro, fun K => ⟨e1, e2⟩⟩
  fills := F.fills_int_and
  dec := ⟨_, _, F.slot_int_and, F.entry_int_and, F.args_int_and_2, int_and_ref⟩
theorem int_or_ref (i : Int) (t : Tok) (x C dx : Addr) : Meets (Builtin.«int.__or__» ⟨[.int i t, .ref x], []⟩) (fun _ R s => s.heap.get? x = some (⟨.ref C, some dx, .plain, #[]⟩ : Obj) ∧ R (.ok (.ret Value.notImplemented)) s) :=
  .of_wp fun prog w A R s h => by
    obtain ⟨hp, g, d, tk, os⟩ := s
    obtain ⟨ho, h⟩ := h
    wp_walk using AutoSeq1.wpAny_loadPart' ho
    exact ⟨_, rfl, h⟩
theorem intBitOr : IntOp .BitOr where
  fo := by
    have h1 : (PySem.fastLookup "int" (PySem.dunder "or")).isSome = true := by decide +kernel
    have h2 : (PySem.fastLookup "int" (dunderR "or")).isSome = true := by decide +kernel
    obtain ⟨fo, e1⟩ := Option.isSome_iff_exists.mp h1
    obtain ⟨ro, e2⟩ := Option.isSome_iff_exists.mp h2
    exact ⟨fo, ro, fun K => ⟨e1, e2⟩⟩
  fills := F.fills_int_or
  dec := ⟨_, _, F.slot_int_or, F.entry_int_or, F.args_int_or_2, int_or_ref⟩
theorem int_xor_ref (i : Int) (t : Tok) (x C dx : Addr) : Meets (Builtin.«int.__xor__» ⟨[.int i t, .ref x], []⟩) (fun _ R s => s.heap.get? x = some (⟨.ref C, some dx, .plain, #[]⟩ : Obj) ∧ R (.ok (.ret Value.notImplemented)) s) :=
  .of_wp fun prog w A R s h => by
    obtain ⟨hp, g, d, tk, os⟩ := s
    obtain ⟨ho, h⟩ := h
    wp_walk using AutoSeq1.wpAny_loadPart' ho
    exact ⟨_, rfl, h⟩
theorem intBitXor : IntOp .BitXor where
  fo := by
    have h1 : (PySem.fastLookup "int" (PySem.dunder "xor")).isSome = true := by decide +kernel
    have h2 : (PySem.fastLookup "int" (dunderR "xor")).isSome = true := by decide +kernel
    obtain ⟨fo, e1⟩ := Option.isSome_iff_exists.mp h1
    obtain ⟨ro, e2⟩ := Option.isSome_iff_exists.mp h2
    exact ⟨fo, ro, fun K => ⟨e1, e2⟩⟩
  fills := F.fills_int_xor
  dec := ⟨_, _, F.slot_int_xor, F.entry_int_xor, F.args_int_xor_2, int_xor_ref⟩
theorem int_pow_ref (i : Int) (t : Tok) (x C dx : Addr) : Meets (Builtin.«int.__pow__» ⟨[.int i t, .ref x], []⟩) (fun _ R s => s.heap.get? x = some (⟨.ref C, some dx, .plain, #[]⟩ : Obj) ∧ R (.ok (.ret Value.notImplemented)) s) :=
  .of_wp fun prog w A R s h => by
    obtain ⟨hp, g, d, tk, os⟩ := s
    obtain ⟨ho, h⟩ := h
    wp_walk using AutoSeq1.wpAny_loadPart' ho
    exact ⟨_, rfl, h⟩
theorem intPow : IntOp .Pow where
  fo := by
    have h1 : (PySem.fastLookup "int" (PySem.dunder "pow")).isSome = true := by decide +kernel
    have h2 : (PySem.fastLookup "int" (dunderR "pow")).isSome = true := by decide +kernel
    obtain ⟨fo, e1⟩ := Option.isSome_iff_exists.mp h1
    obtain ⟨ro, e2⟩ := Option.isSome_iff_exists.mp h2
    exact ⟨fo, ro, fun K => ⟨e1, e2⟩⟩
  fills := F.fills_int_pow
  dec := ⟨_, _, F.slot_int_pow, F.entry_int_pow, F.args_int_pow_2, int_pow_ref⟩
theorem int_rshift_ref (i : Int) (t : Tok) (x C dx : Addr) : Meets (Builtin.«int.__rshift__» ⟨[.int i t, .ref x], []⟩) (fun _ R s => s.heap.get? x = some (⟨.ref C, some dx, .plain, #[]⟩ : Obj) ∧ R (.ok (.ret Value.notImplemented)) s) :=
  .of_wp fun prog w A R s h => by
    obtain ⟨hp, g, d, tk, os⟩ := s
    obtain ⟨ho, h⟩ := h
    wp_walk using AutoSeq1.wpAny_loadPart' ho
    exact ⟨_, rfl, h⟩
theorem intRShift : IntOp .RShift where
  fo := by
    have h1 : (PySem.fastLookup "int" (PySem.dunder "rshift")).isSome = true := by decide +kernel
    have h2 : (PySem.fastLookup "int" (dunderR "rshift")).isSome = true := by decide +kernel
    obtain ⟨fo, e1⟩ := Option.isSome_iff_exists.mp h1
    obtain ⟨ro, e2⟩ := Option.isSome_iff_exists.mp h2
    exact ⟨fo, ro, fun K => ⟨e1, e2⟩⟩
  fills := F.fills_int_rshift
  dec := ⟨_, _, F.slot_int_rshift, F.entry_int_rshift, F.args_int_rshift_2, int_rshift_ref⟩
theorem sub_int_cls (K : PySem.W.Frag) (C : Addr) : PySem.W.subIn K (.type "int") (.ref C) = some false := by
  have h : ∃ l : List Value, fastBuiltinMro "int" = some l ∧ l.all (fun v => match v with
    | .type _ => true
    | _ => false) = true := ⟨[.type "int", .type "object"], by decide +kernel, by decide +kernel⟩
  obtain ⟨l, e, a⟩ := h
  show (fastBuiltinMro "int").map (·.contains (.ref C)) = some false
  rw [e, Option.map_some]
  refine congrArg some ?_
  rw [List.contains_eq_any_beq, List.any_eq_false]
  intro v hv z
  have y := List.all_eq_true.mp a v hv
  have e2 : Value.ref C = v := beq_iff_eq.mp z
  subst e2
  cases y
theorem cmpback {P : Value → Shared → Prop} {z : V} {v : Value} {s' : Shared} (r : RelV z v) (h : P v s') : PySem.W.CmpBack P v s' := by
  cases z <;> first
    | (cases (show v = _ from r); exact h)
    | (obtain ⟨t, e⟩ := (show ∃ t, v = _ from r); cases e; exact h)
section
variable {X : Cx} {W : WX} {pins : List (Addr × Obj)} {σ : St} {G H : Hp} {s : Shared} {Q : VK}
/-- the object of an instance that is data -/
theorem ins_obj {K : PySem.W.Frag} {x : V} {d : D} {c : Cl} {fs : List (Nm × D)} (I : Inv X pins σ H s) (e : Ext G H) (r : Rep X.K G x (.obj c fs)) :
    ∃ a dx od, x = .ref a ∧ PySem.W.InstAt s.heap a (PySem.W.instObj (ca X.K c) dx) (ca X.K c) (some od) ∧ AtF X.K c fs ∧ s.heap.get? a = some (PySem.W.instObj (ca X.K c) dx) := by
  cases r with
  | @obj a dx fv _ _ hG at_ r =>
    obtain ⟨mA, O, _, _, _, _⟩ := ins_get I.hok (e _ _ hG)
    obtain ⟨od, J, _⟩ := O.look
    exact ⟨a, dx, od, rfl, J, at_, O.obj⟩
theorem ownGo {k : Nat} {f : Addr} {g : List D → Res D} (F : FnM (tkOf X) k f 2 g) (tk : Takes X W) (hr : Room k X.A) (I : Inv X pins σ H s) {x y : V} {v u : Value} {a b : D} (rx : RelV x v) (ry : RelV y u) (e : Ext G H) (ra : Rep X.K G x a) (rb : Rep X.K G y b)
    (h : RG (Rep X.K) X.K (fun c d H' => W c d σ H') G H Q (g [a, b])) : wpAny (model X.prog X.w) X.A (call (.ref f) [v, u]) (PySem.W.CmpBack (EP X pins σ Q)) X.xe s :=
  wpAny_mono (F.call tk hr I (.cons rx (.cons ry .nil)) rfl e (.cons ra (.cons rb .nil)) h) (fun w s' z => by
    obtain ⟨z', H', I', rz, qz⟩ := z
    exact cmpback rz ⟨z', H', I', rz, qz⟩) fun _ _ z => z
theorem op_own1 {k : Nat} {op : Operator} {c : Cl} {g : List D → Res D} (io : IntOp op) (B : BinF (tkOf X) k op c g) (tk : Takes X W) (hr : Room k X.A) (I : Inv X pins σ H s) {x y : V} {v u : Value} {fs : List (Nm × D)} {b : D} (rx : RelV x v) (ry : RelV y u) (e : Ext G H) (ra : Rep X.K G x (.obj c fs)) (rb : Rep X.K G y b)
    (hb : (∃ i, b = .int i) ∨ ∃ gs, b = .obj c gs) (h : RG (Rep X.K) X.K (fun c d H' => W c d σ H') G H Q (g [.obj c fs, b])) : wpAny (model X.prog X.w) X.A (binaryOp op v u) (EP X pins σ Q) X.xe s := by
  obtain ⟨f, rc, hs, hf, hrc, hp, F⟩ := B.ex
  obtain ⟨a, dx, od, rfl, J, at_, _⟩ := ins_obj (K := X.K) (d := b) I e ra
  have ex : v = Value.ref a := rx
  obtain ⟨m, hF⟩ := I.fr
  rcases hb with ⟨i, rfl⟩ | ⟨gs, rfl⟩
  · obtain ⟨fo, ro, hfo⟩ := io.fo
    have ry' := ry
    cases rb
    obtain ⟨t, eu⟩ := (show ∃ t, u = Value.int i t from ry)
    rw [ex, eu]
    refine PySem.W.ksp_binT (T := "int") hF I.ok.mod.kin J rfl at_.1.sf hs hf hrc hp (hfo X.K).1 (hfo X.K).2 (sub_int_cls X.K _) ?_
    rw [← ex, ← eu]
    exact ownGo F tk hr I rx ry' e ra (.int i) h
  · obtain ⟨a2, dx2, od2, rfl, J2, _, _⟩ := ins_obj (K := X.K) (d := .obj c gs) I e rb
    have eu : u = Value.ref a2 := ry
    rw [ex, eu]
    refine PySem.W.binop_K hF I.ok.mod.kin J J2.type at_.1.sf hs hf ?_
    rw [← ex, ← eu]
    exact ownGo F tk hr I rx ry e ra rb h
/-- an int on the left -/
theorem op_own2 {k : Nat} {op : Operator} {c : Cl} {g : List D → Res D} (io : IntOp op) (B : RinF (tkOf X) k op c g) (tk : Takes X W) (hr : Room k X.A) (I : Inv X pins σ H s) {y : V} {v u : Value} {fs : List (Nm × D)} {i : Int} (rx : RelV (.int i) v) (ry : RelV y u) (e : Ext G H) (rb : Rep X.K G y (.obj c fs))
    (h : RG (Rep X.K) X.K (fun c d H' => W c d σ H') G H Q (g [.obj c fs, .int i])) : wpAny (model X.prog X.w) X.A (binaryOp op v u) (EP X pins σ Q) X.xe s := by
  obtain ⟨f, f', hs, hf, hd, F, hsub⟩ := B.ex
  obtain ⟨a, dx, od, rfl, J, at_, ho⟩ := ins_obj (K := X.K) (d := .int i) I e rb
  obtain rfl : u = Value.ref a := ry
  obtain ⟨t, rfl⟩ := (show ∃ t, v = Value.int i t from rx)
  obtain ⟨m, hF⟩ := I.fr
  have KX := I.kIn
  obtain ⟨cd, rest, hcd, hm⟩ := PySem.W.ksp_first at_.1.sf
  obtain ⟨id, B, slot, entry, args, dec⟩ := io.dec
  have fills := io.fills
  have one := PySem.W.ksp_try (M := model X.prog X.w) (A := X.A) (b := .int i t) KX J hs hf (ownGo F tk hr I (x := .ref a) (y := .int i) (v := .ref a) (u := .int i t) rfl ⟨t, rfl⟩ e rb (.int i) h)
  rcases hi : op.info with ⟨sym, nm⟩
  rw [hi] at hs hd slot fills one
  dsimp only at hs hd slot fills one
  have ta : s.TypeIs (.int i t) "int" := typeIs_int s i t
  have L3 : PySem.W.Looks (model X.prog X.w) s.heap (fillsNumberSlot (.ref (ca X.K c)) nm) true := PySem.W.fills_K KX hcd hm hd
  have L5 : PySem.W.Looks (model X.prog X.w) s.heap (isSubtype (.ref (ca X.K c)) (.type "int")) false := PySem.W.looks_subIn KX hsub
  have hne : (Value.type "int" == Value.ref (ca X.K c)) = false := Bool.eq_false_iff.mpr fun q => by cases beq_iff_eq.mp q
  simp only [binaryOp, hi]
  refine wpAny_holding (wpAny_bind ?_)
  simp only [binaryOp1]
  refine wpAny_bind (wpAny_typeOf ta (wpAny_bind (J.type.here (wpAny_bind (wpAny_of_eq fills ?_)))))
  simp only [hne, Bool.false_eq_true, if_false]
  refine wpAny_bind (L3.here ?_)
  simp only [Bool.and_self, if_true]
  refine wpAny_bind (L5.here ?_)
  have hpy : numberSlotInPython (.type "int") nm = pure false := rfl
  simp only [Bool.false_eq_true, if_false, pure_bind, Bool.not_false, Bool.and_self, if_true, hpy]
  refine wpAny_bind (wpAny_tryMethod_declines ta slot (wpAny_mono (call_meets slot ta entry (args _ _) (dec i t a _ dx) ⟨ho, rfl, ?_⟩) (fun _ _ z => z) fun _ _ z => z))
  refine wpAny_bind (wpAny_mono one (fun r s' z => ?_) fun _ _ z => z)
  obtain ⟨v, rfl, hq⟩ := z
  exact wpAny_bind (wpAny_rule (wpAny_pure (wpAny_pure hq)))
end
end PL
namespace PL
open PySem PySem.Spec L2
open PyProof.Rows (b2i)
section
variable {X : Cx} {W : WX}
theorem op_ownD {k : Nat} {op : Operator} {base : D → D → Res D} {ps rs : Cl → Option (List D → Res D)} (io : IntOp op) (hb : OpM X W (binaryOp op) base) (hp : ∀ c g, ps c = some g → BinF (tkOf X) k op c g) (hrf : ∀ c g, rs c = some g → RinF (tkOf X) k op c g) (tk : Takes X W) (hr : Room k X.A) :
    OpM X W (binaryOp op) (ownD base ps rs) := by
  intro pins s σ G H x y v u a b Q I rx ry e ra rb q
  cases a with
  | obj c fs =>
    cases b with
    | int i =>
      obtain ⟨g, hg, q⟩ : ∃ g, ps c = some g ∧ RG (Rep X.K) X.K (fun c d H' => W c d σ H') G H Q (g [.obj c fs, .int i]) := by
        have q' : RG (Rep X.K) X.K (fun c d H' => W c d σ H') G H Q (ofOpt (ps c) >>= fun g => g [.obj c fs, .int i]) := q
        cases h : ps c with
        | none => rw [h] at q'; exact q'.elim
        | some g => rw [h] at q'; exact ⟨g, rfl, q'⟩
      exact op_own1 io (hp c g hg) tk hr I rx ry e ra rb (.inl ⟨i, rfl⟩) q
    | obj c' gs =>
      obtain ⟨g, hg, ec, q⟩ : ∃ g, ps c = some g ∧ c' = c ∧ RG (Rep X.K) X.K (fun c d H' => W c d σ H') G H Q (g [.obj c fs, .obj c' gs]) := by
        have q' : RG (Rep X.K) X.K (fun c d H' => W c d σ H') G H Q (ofOpt (ps c) >>= fun g => chk (c' = c) (g [.obj c fs, .obj c' gs])) := q
        cases h : ps c with
        | none => rw [h] at q'; exact q'.elim
        | some g =>
          rw [h, ofOpt_some, ok_bind] at q'
          obtain ⟨z, q'⟩ := RG.chk q'
          exact ⟨g, rfl, z, q'⟩
      subst ec
      exact op_own1 io (hp _ g hg) tk hr I rx ry e ra rb (.inr ⟨gs, rfl⟩) q
    | _ => exact hb pins s σ G H x y v u _ _ Q I rx ry e ra rb q
  | int i =>
    cases b with
    | obj c fs =>
      obtain ⟨g, hg, q⟩ : ∃ g, rs c = some g ∧ RG (Rep X.K) X.K (fun c d H' => W c d σ H') G H Q (g [.obj c fs, .int i]) := by
        have q' : RG (Rep X.K) X.K (fun c d H' => W c d σ H') G H Q (ofOpt (rs c) >>= fun g => g [.obj c fs, .int i]) := q
        cases h : rs c with
        | none => rw [h] at q'; exact q'.elim
        | some g => rw [h] at q'; exact ⟨g, rfl, q'⟩
      cases ra
      exact op_own2 io (hrf c g hg) tk hr I rx ry e rb q
    | _ => exact hb pins s σ G H x y v u _ _ Q I rx ry e ra rb q
  | _ => cases b <;> exact hb pins s σ G H x y v u _ _ Q I rx ry e ra rb q
end
/-- no built-in type is below an own class -/
def tyS : D → Option String
  | .non => some "NoneType"
  | .bl _ => some "bool"
  | .int _ => some "int"
  | .str _ => some "str"
  | .tup _ => some "tuple"
  | .lst _ => some "list"
  | .obj _ _ => none
def tyV (K : PySem.W.Frag) : D → Value
  | .non => .type "NoneType"
  | .bl _ => .type "bool"
  | .int _ => .type "int"
  | .str _ => .type "str"
  | .tup _ => .type "tuple"
  | .lst _ => .type "list"
  | .obj c _ => .ref (ca K c)
def blind (T : String) : Bool := match fastBuiltinMro T with
  | some l => l.all fun v => match v with
    | .type _ => true
    | _ => false
  | none => false
theorem sub_blind {T : String} (h : blind T = true) (K : PySem.W.Frag) (C : Addr) : PySem.W.subIn K (.type T) (.ref C) = some false := by
  unfold blind at h
  show (fastBuiltinMro T).map (·.contains (.ref C)) = some false
  cases e : fastBuiltinMro T with
  | none => rw [e] at h; cases h
  | some l =>
    rw [e] at h
    rw [Option.map_some]
    refine congrArg some ?_
    rw [List.contains_eq_any_beq, List.any_eq_false]
    intro v hv z
    have y := List.all_eq_true.mp h v hv
    have e2 : Value.ref C = v := beq_iff_eq.mp z
    subst e2
    cases y
theorem tyV_blind {K : PySem.W.Frag} {d : D} {C : Addr} (h : ∀ c fs, d ≠ .obj c fs) : PySem.W.subIn K (tyV K d) (.ref C) = some false := by
  cases d with
  | non => exact sub_blind (by decide +kernel) K C
  | bl b => exact sub_blind (by decide +kernel) K C
  | int b => exact sub_blind (by decide +kernel) K C
  | str b => exact sub_blind (by decide +kernel) K C
  | tup b => exact sub_blind (by decide +kernel) K C
  | lst b => exact sub_blind (by decide +kernel) K C
  | obj c fs => exact absurd rfl (h c fs)
/-- isinstance's look at a value -/
theorem rep_ty {K : PySem.W.Frag} {G H : Hp} {x : V} {d : D} (s : Ext G H) (r : Rep K G x d) : TyX K H x (tyV K d) := by
  cases r with
  | non => exact .base .non
  | bl b => exact .base (.bl b)
  | int b => exact .base (.int b)
  | str b => exact .base (.str b)
  | tup q r =>
    rcases s.sqt q with (h | ⟨o, h⟩) | ⟨o, its, n, h1, h2, _⟩
    · exact .base (.tup h)
    · exact .fTuple h
    · exact .kTuple h1 h2
  | lst q r =>
    rcases s.rd q with h | ⟨o, h⟩
    · exact .base (.lst h)
    · exact .base (.frz h)
  | obj h k r => exact .base (.ins (s _ _ h) k.1.cls k.1.ha k.1.hn k.1.ht k.1.hm)
theorem looks_ty {X : Cx} {pins : List (Addr × Obj)} {σ : St} {G H : Hp} {s : Shared} {x : V} {v : Value} {d : D} (I : Inv X pins σ H s) (e : Ext G H) (r : Rep X.K G x d) (rx : RelV x v) : PySem.W.Looks (model X.prog X.w) s.heap (typeOf v) (tyV X.K d) := by
  obtain ⟨P, Z, p, _⟩ := kit_of I rx (rep_ty e r)
  exact Z.ty _ _ I.kIn p
structure CmpF (T : Tk) (k : Nat) (op : CmpOp) (c : Cl) (g : List D → Res D) : Prop where
  ex : ∃ f : Addr, PySem.W.findIn T.K (.ref (ca T.K c)) (cmpInfo op).2.1 = some (some (.ref f)) ∧ PySem.W.isFn T.K (.ref f) = true ∧ FnM T k f 2 g
def notObj : D → Bool
  | .obj _ _ => false
  | _ => true
def sameCl (c : Cl) : D → Bool
  | .obj c' _ => decide (c' = c)
  | _ => true
def ownC (base : D → D → Res D) (ps : Cl → Option (List D → Res D)) : D → D → Res D
  | .obj c fs, b => ofOpt (ps c) >>= fun g => chk (sameCl c b = true) (g [.obj c fs, b])
  | a, b => base a b
section
variable {X : Cx} {W : WX}
theorem op_ownC {k : Nat} {op : CmpOp} {base : D → D → Res D} {ps : Cl → Option (List D → Res D)} (hop : ∀ a b, compareOp op a b = richCompare op a b) (hb : OpM X W (compareOp op) base) (hp : ∀ c g, ps c = some g → CmpF (tkOf X) k op c g) (tk : Takes X W) (hr : Room k X.A) :
    OpM X W (compareOp op) (ownC base ps) := by
  intro pins s σ G H x y v u a b Q I rx ry e ra rb q
  cases a with
  | obj c fs =>
    obtain ⟨g, hg, sc, q⟩ : ∃ g, ps c = some g ∧ sameCl c b = true ∧ RG (Rep X.K) X.K (fun c d H' => W c d σ H') G H Q (g [.obj c fs, b]) := by
      have q' : RG (Rep X.K) X.K (fun c d H' => W c d σ H') G H Q (ofOpt (ps c) >>= fun g => chk (sameCl c b = true) (g [.obj c fs, b])) := q
      cases h : ps c with
      | none => rw [h] at q'; exact q'.elim
      | some g =>
        rw [h, ofOpt_some, ok_bind] at q'
        obtain ⟨z, q'⟩ := RG.chk q'
        exact ⟨g, rfl, z, q'⟩
    obtain ⟨f, hs, hf, F⟩ := (hp c g hg).ex
    obtain ⟨a, dx, od, rfl, J, at_, _⟩ := ins_obj (K := X.K) (d := b) I e ra
    have ex : v = Value.ref a := rx
    obtain ⟨m, hF⟩ := I.fr
    have hn : PySem.W.notFirst X.K (ca X.K c) (tyV X.K b) = true := by
      unfold PySem.W.notFirst
      cases b with
      | obj c' gs =>
        have z : c' = c := of_decide_eq_true sc
        subst z
        exact Bool.or_eq_true_iff.mpr (.inl (beq_iff_eq.mpr rfl))
      | _ => exact Bool.or_eq_true_iff.mpr (.inr (beq_iff_eq.mpr (tyV_blind fun c fs z => nomatch z)))
    rw [hop, ex]
    refine PySem.W.cmp_K (op := op) hr.units0 hF I.ok.mod.kin J (looks_ty I e rb ry) hn hs hf ?_
    rw [← ex]
    exact ownGo F tk hr I rx ry e ra rb q
  | _ => exact hb pins s σ G H x y v u _ _ Q I rx ry e ra rb q
theorem cmp_eq (a b : Value) : compareOp .Eq a b = richCompare .Eq a b := rfl
theorem cmp_lt (a b : Value) : compareOp .Lt a b = richCompare .Lt a b := rfl
theorem cmp_le (a b : Value) : compareOp .LtE a b = richCompare .LtE a b := rfl
theorem cmp_gt (a b : Value) : compareOp .Gt a b = richCompare .Gt a b := rfl
theorem cmp_ge (a b : Value) : compareOp .GtE a b = richCompare .GtE a b := rfl
end
structure IxF (T : Tk) (k : Nat) (c : Cl) (g : List D → Res D) : Prop where
  ex : ∃ f : Addr, PySem.W.findIn T.K (.ref (ca T.K c)) "__getitem__" = some (some (.ref f)) ∧ PySem.W.fnIn T.K f = true ∧ PySem.W.isFn T.K (.ref f) = true ∧ FnM T k f 2 g
def ixO (ps : Cl → Option (List D → Res D)) : D → D → Res D
  | .obj c fs, i => ofOpt (ps c) >>= fun g => g [.obj c fs, i]
  | a, i => ixD a i
section
variable {X : Cx} {W : WX}
theorem ix_O {k : Nat} {ps : Cl → Option (List D → Res D)} (hp : ∀ c g, ps c = some g → IxF (tkOf X) k c g) (tk : Takes X W) (hr : Room (k + 1) X.A) : IxM X W (ixO ps) := by
  intro value slice pins s σ G H x y v u a b Q I rx ry e ra rb q hsl hsl2
  cases a with
  | obj c fs =>
    obtain ⟨g, hg, q⟩ : ∃ g, ps c = some g ∧ RG (Rep X.K) X.K (fun c d H' => W c d σ H') G H Q (g [.obj c fs, b]) := by
      have q' : RG (Rep X.K) X.K (fun c d H' => W c d σ H') G H Q (ofOpt (ps c) >>= fun g => g [.obj c fs, b]) := q
      cases h : ps c with
      | none => rw [h] at q'; exact q'.elim
      | some g => rw [h] at q'; exact ⟨g, rfl, q'⟩
    obtain ⟨f, hs, hf, hfn, F⟩ := (hp c g hg).ex
    obtain ⟨a, dx, od, rfl, J, at_, _⟩ := ins_obj (K := X.K) (d := b) I e ra
    obtain rfl : v = Value.ref a := rx
    obtain ⟨m, hF⟩ := I.fr
    refine PySem.W.sub_K (value := value) (slice := slice) hF I.ok.mod.kin J hs hf hfn ?_ (hsl2 a rfl)
    refine wpAny_call (codeAny_mono (F.go (A := X.A.in1) (us := [.ref a, u]) (vs := [.ref a, y]) tk hr.in1 I.env0.in1 I (.cons rfl (.cons ry .nil)) rfl e (.cons ra (.cons rb .nil)) q) fun r s' z => ?_)
    cases r with
    | error e => exact z
    | ok fl => cases fl <;> exact z
  | _ => exact ix_D value slice pins s σ G H x y v u _ _ Q I rx ry e ra rb q hsl hsl2
end
structure IsiF (K : PySem.W.Frag) (c : V) (u : Value) (f : D → Option Bool) : Prop where
  cls : ClsV c u
  rel : RelV c u
  ok : ∀ d b, f d = some b → PySem.W.kitOne K (tyV K d) u = some b
def isiD (f : D → Option Bool) : D → Res D := fun d => ofOpt (f d) >>= fun b => .ok (.bl b)
/-- of a built-in type; t: which own classes say no -/
def isTy (T : String) (t : Cl → Bool) : D → Option Bool
  | .obj c _ => if t c then some false else none
  | d => match tyS d with
    | some S => kitB S T
    | none => none
/-- of an own class; t: what the own classes say -/
def isOwn (t : Cl → Option Bool) : D → Option Bool
  | .obj c _ => t c
  | _ => some false
theorem isTy_ok {K : PySem.W.Frag} {T : String} {t : Cl → Bool} (ht : ∀ c, t c = true → PySem.W.kitOne K (.ref (ca K c)) (.type T) = some false) : IsiF K (.ty T) (.type T) (isTy T t) :=
  ⟨.ty T, rfl, fun d b h => by
    cases d with
    | obj c fs =>
      unfold isTy at h
      by_cases z : t c = true
      · simp only [z, if_true] at h
        cases h
        exact ht c z
      · simp only [z, if_false] at h
        exact absurd h (by simp)
    | _ => exact h⟩
/-- the class C itself can be asked -/
def clsAsk (K : PySem.W.Frag) (C : Addr) : Bool := decide (PySem.W.kitOne K (.type "int") (.ref C) = some false) && decide (PySem.W.kitOne K (.type "bool") (.ref C) = some false) && decide (PySem.W.kitOne K (.type "str") (.ref C) = some false) && decide (PySem.W.kitOne K (.type "tuple") (.ref C) = some false) && decide (PySem.W.kitOne K (.type "list") (.ref C) = some false) && decide (PySem.W.kitOne K (.type "NoneType") (.ref C) = some false)
theorem isOwn_ok {K : PySem.W.Frag} {C : Addr} {t : Cl → Option Bool} (hc : clsAsk K C = true) (ht : ∀ c b, t c = some b → PySem.W.kitOne K (.ref (ca K c)) (.ref C) = some b) : IsiF K (.ref C) (.ref C) (isOwn t) := by
  unfold clsAsk at hc
  simp only [Bool.and_eq_true, decide_eq_true_eq] at hc
  obtain ⟨⟨⟨⟨⟨h1, h2⟩, h3⟩, h4⟩, h5⟩, h6⟩ := hc
  refine ⟨.own C, rfl, fun d b h => ?_⟩
  cases d with
  | obj c fs => exact ht c b h
  | non => cases h; exact h6
  | bl _ => cases h; exact h2
  | int _ => cases h; exact h1
  | str _ => cases h; exact h3
  | tup _ => cases h; exact h4
  | lst _ => cases h; exact h5
section
variable {X : Cx} {B : Base} {W : WX} {e ce : Expr} {m : Ev → Res D} {p pos : Pos}
theorem me_isi {f : D → Option Bool} {c : V} {u : Value} (hi : IsiF X.K c u f) (hc : PE X ce (tC c)) (he : PE X e (tM X.K B W m)) (hg : Gl X "isinstance") (hm : X.mg "isinstance" = none)
    (hs1 : starEach [e, ce] X.env = (false, eval e X.env) :: starEach [ce] X.env := by rfl) (hs2 : starEach [ce] X.env = (false, eval ce X.env) :: starEach [] X.env := by rfl) (hpl : (backTo pos (starEach [ce] X.env)).any (·.1) = false := by rfl) :
    PE X (.Call (.Name "isinstance" p) [e, ce] [] pos) (tM X.K B W (mUn (isiD f) m)) := by
  refine PE.imp (pe_callB call_isi hg hm (by kernel_rfl) (pa_cons he (pa_cons hc pa_nil hs2) hs1) (by decide) (by decide) hs1 hpl) fun σ H Q ⟨G, ρ, e0, q⟩ => ⟨G, ρ, e0, RG.bind q fun d G1 v H1 g r q1 => ?_⟩
  have q2 : RG (Rep X.K) X.K (fun c d H' => W c d σ H') G1 H1 Q (ofOpt (f d) >>= fun b => .ok (.bl b)) := q1
  cases hf : f d with
  | none => rw [hf] at q2; exact q2.elim
  | some b =>
    rw [hf] at q2
    exact ⟨v, c, _, u, b, rfl, hi.cls, rep_ty g.sub r, hi.ok d b hf, q2 G1 _ H1 (.refl g.sub) (.bl b)⟩
/-- the class as it stands in the call: a built-in type's name, a module's name -/
theorem pe_ty {x : Str} {T : String} (hg : Gl X x) (hm : X.mg x = none) (hv : bootBuiltins x = some (.type T)) (hn : x ≠ "__name__" := by decide) (hd : (x == ("__debug__" : Str)) = false := by decide) : PE X (.Name x pos) (tC (.ty T)) := pe_bltn hg hm hv rfl hn hd
theorem pe_cl {x : Str} {C : Addr} (hg : Gl X x) (hm : X.mg x = some (.ref C)) (hd : (x == ("__debug__" : Str)) = false := by decide) : PE X (.Name x pos) (tC (.ref C)) := pe_glob hg hm rfl hd
theorem me_callB {x : Str} {id : String} {es : List Expr} {g : List D → Res D} {ms : Ev → Res (List D)} (hc : CallM X W (.builtin id) g) (hg : Gl X x) (hm : X.mg x = none) (hv : bootBuiltins x = some (.builtin id)) (ha : PA X (e :: es) (tMA X.K B W ms))
    (hn : x ≠ "__name__" := by decide) (hdb : (x == ("__debug__" : Str)) = false := by decide)
    (he : starEach (e :: es) X.env = (false, eval e X.env) :: starEach es X.env := by rfl) (hpl : (backTo pos (starEach es X.env)).any (·.1) = false := by rfl) : PE X (.Call (.Name x p) (e :: es) [] pos) (tM X.K B W (mCall g ms)) := by
  refine ⟨fun pins s σ H Q I ⟨G, ρ, e0, h⟩ => ?_⟩
  refine wpAny_Call_Name_kw (ld_blt I hg hm hv ?_ hn hdb)
  refine PyProof.Rows.callWith_builtin1 (thn (ha.run pos pins s σ H (fun vs H1 => ∃ G1 ds, Ext G1 H1 ∧ Reps X.K G1 vs ds ∧ RG (Rep X.K) X.K (fun c d H' => W c d σ H') G1 H1 Q (g ds)) I ⟨G, ρ, e0, RG.bind h fun ds G1 vs H1 g r q => ⟨G1, ds, g.sub, r, q⟩⟩) fun us s1 ⟨vs, H1, I1, r1, G1, ds, e1, rr, q1⟩ => ?_) he hpl
  exact hc pins s1 σ G1 H1 vs us ds Q I1 r1 e1 rr q1
theorem me_callT {x : Str} {T : String} {es : List Expr} {g : List D → Res D} {ms : Ev → Res (List D)} (hc : CallM X W (.type T) g) (hg : Gl X x) (hm : X.mg x = none) (hv : bootBuiltins x = some (.type T)) (ha : PA X (e :: es) (tMA X.K B W ms))
    (hn : x ≠ "__name__" := by decide) (hdb : (x == ("__debug__" : Str)) = false := by decide)
    (he : starEach (e :: es) X.env = (false, eval e X.env) :: starEach es X.env := by rfl) (hpl : (backTo pos (starEach es X.env)).any (·.1) = false := by rfl) : PE X (.Call (.Name x p) (e :: es) [] pos) (tM X.K B W (mCall g ms)) := by
  refine ⟨fun pins s σ H Q I ⟨G, ρ, e0, h⟩ => ?_⟩
  refine wpAny_Call_Name_kw (ld_blt I hg hm hv ?_ hn hdb)
  refine PyProof.Rows.callWith_type1 (thn (ha.run pos pins s σ H (fun vs H1 => ∃ G1 ds, Ext G1 H1 ∧ Reps X.K G1 vs ds ∧ RG (Rep X.K) X.K (fun c d H' => W c d σ H') G1 H1 Q (g ds)) I ⟨G, ρ, e0, RG.bind h fun ds G1 vs H1 g r q => ⟨G1, ds, g.sub, r, q⟩⟩) fun us s1 ⟨vs, H1, I1, r1, G1, ds, e1, rr, q1⟩ => ?_) he hpl
  exact hc pins s1 σ G1 H1 vs us ds Q I1 r1 e1 rr q1
/-- a module's name for a built-in function -/
theorem me_callF {x : Str} {id : String} {es : List Expr} {g : List D → Res D} {ms : Ev → Res (List D)} (hc : CallM X W (.builtin id) g) (hg : Gl X x) (hm : X.mg x = some (.builtin id)) (ha : PA X (e :: es) (tMA X.K B W ms)) (hdb : (x == ("__debug__" : Str)) = false := by decide)
    (he : starEach (e :: es) X.env = (false, eval e X.env) :: starEach es X.env := by rfl) (hpl : (backTo pos (starEach es X.env)).any (·.1) = false := by rfl) : PE X (.Call (.Name x p) (e :: es) [] pos) (tM X.K B W (mCall g ms)) := by
  refine ⟨fun pins s σ H Q I ⟨G, ρ, e0, h⟩ => ?_⟩
  refine wpAny_Call_Name_kw (ld_glob I hg hm ?_ hdb)
  refine PyProof.Rows.callWith_builtin1 (thn (ha.run pos pins s σ H (fun vs H1 => ∃ G1 ds, Ext G1 H1 ∧ Reps X.K G1 vs ds ∧ RG (Rep X.K) X.K (fun c d H' => W c d σ H') G1 H1 Q (g ds)) I ⟨G, ρ, e0, RG.bind h fun ds G1 vs H1 g r q => ⟨G1, ds, g.sub, r, q⟩⟩) fun us s1 ⟨vs, H1, I1, r1, G1, ds, e1, rr, q1⟩ => ?_) he hpl
  exact hc pins s1 σ G1 H1 vs us ds Q I1 r1 e1 rr q1
end
def lenD : List D → Res D
  | [.lst xs] => .ok (.int xs.length)
  | [.tup xs] => .ok (.int xs.length)
  | [.str z] => chk (z.length ≤ sizeLine) (.ok (.int z.length))
  | _ => .stuck
def absD : List D → Res D
  | [.int i] => .ok (.int (if i < 0 then -i else i))
  | _ => .stuck
def intD : List D → Res D
  | [.int i] => .ok (.int i)
  | [.bl k] => .ok (.int (if k then 1 else 0))
  | _ => .stuck
def boolB : List D → Res D
  | [.int i] => .ok (.bl (i != 0))
  | [.bl k] => .ok (.bl k)
  | _ => .stuck
def listD : List D → Res D
  | [.lst xs] => .ok (.lst xs)
  | [.tup xs] => .ok (.lst xs)
  | _ => .stuck
def tupleD : List D → Res D
  | [.lst xs] => .ok (.tup xs)
  | [.tup xs] => .ok (.tup xs)
  | _ => .stuck
def gcdD : List D → Res D
  | [.int a, .int b] => .ok (.int ((Nat.gcd a.natAbs b.natAbs : Nat) : Int))
  | _ => .stuck
def strD : List D → Res D
  | [.int i] => chk (i.natAbs.log2 < 1920) (.ok (.str (toString i)))
  | [.str z] => .ok (.str z)
  | _ => .stuck
/-- all ints -/
def intsD : List D → Option (List Int)
  | [] => some []
  | .int i :: r => (intsD r).map (i :: ·)
  | _ => none
def blsD : List D → Option (List Bool)
  | [] => some []
  | .bl i :: r => (blsD r).map (i :: ·)
  | _ => none
def maxI : List Int → Int
  | [] => 0
  | [a] => a
  | a :: r => max a (maxI r)
def minI : List Int → Int
  | [] => 0
  | [a] => a
  | a :: r => min a (minI r)
def sumD : List D → Res D
  | [.lst xs] => ofOpt (intsD xs) >>= fun ns => .ok (.int ns.sum)
  | _ => .stuck
def maxD : List D → Res D
  | [.int i, .int j] => .ok (.int (if j > i then j else i))
  | [.lst xs] => ofOpt (intsD xs) >>= fun ns => chk (0 < ns.length) (.ok (.int (maxI ns)))
  | _ => .stuck
def minD : List D → Res D
  | [.int i, .int j] => .ok (.int (if j < i then j else i))
  | [.lst xs] => ofOpt (intsD xs) >>= fun ns => chk (0 < ns.length) (.ok (.int (minI ns)))
  | _ => .stuck
def anyD : List D → Res D
  | [.lst xs] => ofOpt (blsD xs) >>= fun ns => .ok (.bl (ns.any id))
  | _ => .stuck
def allD : List D → Res D
  | [.lst xs] => ofOpt (blsD xs) >>= fun ns => .ok (.bl (ns.all id))
  | _ => .stuck
theorem Reps.ints {K : PySem.W.Frag} {G : Hp} : ∀ {vs : List V} {ds : List D} {ns : List Int}, Reps K G vs ds → intsD ds = some ns → vs = ns.map V.int
  | _, _, _, .nil, h => by cases h; rfl
  | _, _, _, .cons (d := .int i) r t, h => by
    cases r
    obtain ⟨ms, hm, e⟩ := Option.map_eq_some_iff.mp (show (intsD _).map (i :: ·) = some _ from h)
    subst e
    rw [t.ints hm]
    rfl
  | _, _, _, .cons (d := .non) r t, h => nomatch (show (none : Option (List Int)) = some _ from h)
  | _, _, _, .cons (d := .bl _) r t, h => nomatch (show (none : Option (List Int)) = some _ from h)
  | _, _, _, .cons (d := .str _) r t, h => nomatch (show (none : Option (List Int)) = some _ from h)
  | _, _, _, .cons (d := .tup _) r t, h => nomatch (show (none : Option (List Int)) = some _ from h)
  | _, _, _, .cons (d := .lst _) r t, h => nomatch (show (none : Option (List Int)) = some _ from h)
  | _, _, _, .cons (d := .obj _ _) r t, h => nomatch (show (none : Option (List Int)) = some _ from h)
theorem Reps.bls {K : PySem.W.Frag} {G : Hp} : ∀ {vs : List V} {ds : List D} {ns : List Bool}, Reps K G vs ds → blsD ds = some ns → vs = ns.map V.bl
  | _, _, _, .nil, h => by cases h; rfl
  | _, _, _, .cons (d := .bl i) r t, h => by
    cases r
    obtain ⟨ms, hm, e⟩ := Option.map_eq_some_iff.mp (show (blsD _).map (i :: ·) = some _ from h)
    subst e
    rw [t.bls hm]
    rfl
  | _, _, _, .cons (d := .non) r t, h => nomatch (show (none : Option (List Bool)) = some _ from h)
  | _, _, _, .cons (d := .int _) r t, h => nomatch (show (none : Option (List Bool)) = some _ from h)
  | _, _, _, .cons (d := .str _) r t, h => nomatch (show (none : Option (List Bool)) = some _ from h)
  | _, _, _, .cons (d := .tup _) r t, h => nomatch (show (none : Option (List Bool)) = some _ from h)
  | _, _, _, .cons (d := .lst _) r t, h => nomatch (show (none : Option (List Bool)) = some _ from h)
  | _, _, _, .cons (d := .obj _ _) r t, h => nomatch (show (none : Option (List Bool)) = some _ from h)
theorem maxI_spec : ∀ {ns : List Int}, 0 < ns.length → ∀ m, m ∈ ns → (∀ y, y ∈ ns → y ≤ m) → m = maxI ns := by
  have key : ∀ {ns : List Int}, 0 < ns.length → maxI ns ∈ ns ∧ ∀ y, y ∈ ns → y ≤ maxI ns := by
    intro ns
    induction ns with
    | nil => intro h; cases h
    | cons a r ih =>
      intro _
      cases r with
      | nil => exact ⟨List.mem_cons_self, fun y hy => by
          rcases List.mem_cons.mp hy with h | h
          · rw [h]; exact Int.le_refl _
          · cases h⟩
      | cons b r =>
        obtain ⟨h1, h2⟩ := ih (Nat.succ_pos _)
        show max a (maxI (b :: r)) ∈ _ ∧ ∀ y, y ∈ _ → y ≤ max a (maxI (b :: r))
        refine ⟨?_, fun y hy => ?_⟩
        · rcases Int.le_total a (maxI (b :: r)) with h | h
          · rw [Int.max_eq_right h]; exact List.mem_cons_of_mem _ h1
          · rw [Int.max_eq_left h]; exact List.mem_cons_self
        · rcases List.mem_cons.mp hy with h | h
          · rw [h]; exact Int.le_max_left _ _
          · exact Int.le_trans (h2 y h) (Int.le_max_right _ _)
  intro ns h m hm ha
  obtain ⟨h1, h2⟩ := key h
  exact Int.le_antisymm (h2 m hm) (ha _ h1)
theorem minI_spec : ∀ {ns : List Int}, 0 < ns.length → ∀ m, m ∈ ns → (∀ y, y ∈ ns → m ≤ y) → m = minI ns := by
  have key : ∀ {ns : List Int}, 0 < ns.length → minI ns ∈ ns ∧ ∀ y, y ∈ ns → minI ns ≤ y := by
    intro ns
    induction ns with
    | nil => intro h; cases h
    | cons a r ih =>
      intro _
      cases r with
      | nil => exact ⟨List.mem_cons_self, fun y hy => by
          rcases List.mem_cons.mp hy with h | h
          · rw [h]; exact Int.le_refl _
          · cases h⟩
      | cons b r =>
        obtain ⟨h1, h2⟩ := ih (Nat.succ_pos _)
        show min a (minI (b :: r)) ∈ _ ∧ ∀ y, y ∈ _ → min a (minI (b :: r)) ≤ y
        refine ⟨?_, fun y hy => ?_⟩
        · rcases Int.le_total a (minI (b :: r)) with h | h
          · rw [Int.min_eq_left h]; exact List.mem_cons_self
          · rw [Int.min_eq_right h]; exact List.mem_cons_of_mem _ h1
        · rcases List.mem_cons.mp hy with h | h
          · rw [h]; exact Int.min_le_left _ _
          · exact Int.le_trans (Int.min_le_right _ _) (h2 y h)
  intro ns h m hm ha
  obtain ⟨h1, h2⟩ := key h
  exact Int.le_antisymm (ha _ h1) (h2 m hm)
section
variable {X : Cx} {W : WX}
theorem call_lenD : CallM X W (.builtin "len") lenD := CallM.of call_len fun G H xs ds Q E s r h => by
  cases r with
  | nil => exact h.elim
  | cons r t =>
    cases t with
    | cons _ _ => cases r <;> exact h.elim
    | nil =>
      cases r with
      | lst q rr => exact ⟨_, _, rfl, .inl ⟨_, .inl (s.rd q), rfl⟩, by rw [rr.length]; exact RG.here s h (.int _)⟩
      | tup q rr => exact ⟨_, _, rfl, .inr ⟨_, s.sqt q, rfl⟩, by rw [rr.length]; exact RG.here s h (.int _)⟩
      | str z =>
        obtain ⟨l, h⟩ := RG.chk h
        exact ⟨_, _, rfl, ⟨l, rfl⟩, RG.here s h (.int _)⟩
      | _ => exact h.elim
theorem call_absD : CallM X W (.builtin "abs") absD := CallM.of call_abs fun G H xs ds Q E s r h => by
  cases r with
  | nil => exact h.elim
  | cons r t =>
    cases t with
    | cons _ _ => cases r <;> exact h.elim
    | nil => cases r with
      | int i => exact ⟨i, rfl, RG.here s h (.int _)⟩
      | _ => exact h.elim
theorem call_intD : CallM X W (.type "int") intD := CallM.of call_int1 fun G H xs ds Q E s r h => by
  cases r with
  | nil => exact h.elim
  | cons r t =>
    cases t with
    | cons _ _ => cases r <;> exact h.elim
    | nil => cases r with
      | int i => exact .inl ⟨i, rfl, RG.here s h (.int _)⟩
      | bl k => exact .inr ⟨k, rfl, RG.here s h (.int _)⟩
      | _ => exact h.elim
theorem call_boolB : CallM X W (.type "bool") boolB := CallM.of call_bool1 fun G H xs ds Q E s r h => by
  cases r with
  | nil => exact h.elim
  | cons r t =>
    cases t with
    | cons _ _ => cases r <;> exact h.elim
    | nil => cases r with
      | int i => exact .inl ⟨i, rfl, RG.here s h (.bl _)⟩
      | bl k => exact .inr ⟨k, rfl, RG.here s h (.bl _)⟩
      | _ => exact h.elim
theorem call_listD : CallM X W (.type "list") listD := CallM.of call_list_of fun G H xs ds Q E s r h => by
  cases r with
  | nil => exact h.elim
  | cons r t =>
    cases t with
    | cons _ _ => cases r <;> exact h.elim
    | nil => cases r with
      | lst q rr => exact ⟨_, _, rfl, .inl (.inl (s.rd q)), RG.newL s h rr⟩
      | tup q rr => exact ⟨_, _, rfl, .inr (s.sqt q), RG.newL s h rr⟩
      | _ => exact h.elim
theorem call_tupleD : CallM X W (.type "tuple") tupleD := CallM.of call_tuple_of fun G H xs ds Q E s r h => by
  cases r with
  | nil => exact h.elim
  | cons r t =>
    cases t with
    | cons _ _ => cases r <;> exact h.elim
    | nil => cases r with
      | lst q rr => exact ⟨_, _, rfl, .inl ⟨.inl (s.rd q), RG.newT s h rr⟩⟩
      | tup q rr => exact ⟨_, _, rfl, .inr ⟨s.sqt q, RG.here s h (.tup q rr)⟩⟩
      | _ => exact h.elim
theorem call_gcdD : CallM X W (.builtin "math.gcd") gcdD := CallM.of cr_gcd fun G H xs ds Q E s r h => by
  cases r with
  | nil => exact h.elim
  | cons r t =>
    cases t with
    | nil => cases r <;> exact h.elim
    | cons r2 t =>
      cases t with
      | cons _ _ => cases r <;> cases r2 <;> exact h.elim
      | nil =>
        cases r with
        | int i => cases r2 with
          | int j => exact ⟨i, j, rfl, RG.here s h (.int _)⟩
          | _ => exact h.elim
        | _ => cases r2 <;> exact h.elim
theorem call_strD : CallM X W (.type "str") strD := fun pins s σ G H xs us ds Q I rx e r h => by
  cases r with
  | nil => exact h.elim
  | cons r t =>
    cases t with
    | cons _ _ => cases r <;> exact h.elim
    | nil => cases r with
      | int i =>
        obtain ⟨z, h⟩ := RG.chk h
        exact call_str_int pins s σ H _ us Q I rx ⟨i, rfl, z, RG.here e h (.str _)⟩
      | str z => exact SkE.call_str_str pins s σ H _ us Q I rx ⟨z, rfl, RG.here e h (.str _)⟩
      | _ => exact h.elim
theorem call_sumD (hc : X.calm = true) : CallM X W (.builtin "sum") sumD := CallM.of (cr_sum hc) fun G H xs ds Q E s r h => by
  cases r with
  | nil => exact h.elim
  | cons r t =>
    cases t with
    | cons _ _ => cases r <;> exact h.elim
    | nil => cases r with
      | lst q rr =>
        rename_i ds
        have h' : RG (Rep X.K) X.K E G H Q (ofOpt (intsD ds) >>= fun ns => .ok (.int ns.sum)) := h
        cases e : intsD ds with
        | none => rw [e] at h'; exact h'.elim
        | some ns =>
          rw [e] at h'
          have ev := rr.ints e
          subst ev
          exact ⟨_, ns, rfl, .inl (s.rd q), RG.here s h' (.int _)⟩
      | _ => exact h.elim
theorem call_anyD (hc : X.calm = true) : CallM X W (.builtin "any") anyD := CallM.of (cr_any hc) fun G H xs ds Q E s r h => by
  cases r with
  | nil => exact h.elim
  | cons r t =>
    cases t with
    | cons _ _ => cases r <;> exact h.elim
    | nil => cases r with
      | lst q rr =>
        rename_i ds
        have h' : RG (Rep X.K) X.K E G H Q (ofOpt (blsD ds) >>= fun ns => .ok (.bl (ns.any id))) := h
        cases e : blsD ds with
        | none => rw [e] at h'; exact h'.elim
        | some ns =>
          rw [e] at h'
          have ev := rr.bls e
          subst ev
          exact ⟨_, ns, rfl, .inl (s.rd q), RG.here s h' (.bl _)⟩
      | _ => exact h.elim
theorem call_allD (hc : X.calm = true) : CallM X W (.builtin "all") allD := CallM.of (cr_all hc) fun G H xs ds Q E s r h => by
  cases r with
  | nil => exact h.elim
  | cons r t =>
    cases t with
    | cons _ _ => cases r <;> exact h.elim
    | nil => cases r with
      | lst q rr =>
        rename_i ds
        have h' : RG (Rep X.K) X.K E G H Q (ofOpt (blsD ds) >>= fun ns => .ok (.bl (ns.all id))) := h
        cases e : blsD ds with
        | none => rw [e] at h'; exact h'.elim
        | some ns =>
          rw [e] at h'
          have ev := rr.bls e
          subst ev
          exact ⟨_, ns, rfl, .inl (s.rd q), RG.here s h' (.bl _)⟩
      | _ => exact h.elim
theorem call_maxD (hc : X.calm = true) : CallM X W (.builtin "max") maxD := fun pins s σ G H xs us ds Q I rx e r h => by
  cases r with
  | nil => exact h.elim
  | cons r t =>
    cases t with
    | nil => cases r with
      | lst q rr =>
        rename_i ds
        have h' : RG (Rep X.K) X.K (fun c d H' => W c d σ H') G H Q (ofOpt (intsD ds) >>= fun ns => chk (0 < ns.length) (.ok (.int (maxI ns)))) := h
        cases e1 : intsD ds with
        | none => rw [e1] at h'; exact h'.elim
        | some ns =>
          rw [e1, ofOpt_some, ok_bind] at h'
          obtain ⟨z, h'⟩ := RG.chk h'
          have ev := rr.ints e1
          subst ev
          exact cr_max hc pins s σ H _ us Q I rx ⟨_, ns, rfl, .inl (e.rd q), z, fun m hm ha => by rw [maxI_spec z m hm ha]; exact RG.here e h' (.int _)⟩
      | _ => exact h.elim
    | cons r2 t =>
      cases t with
      | cons _ _ => cases r <;> cases r2 <;> exact h.elim
      | nil =>
        cases r with
        | int i => cases r2 with
          | int j => exact call_max2 hc pins s σ H _ us Q I rx ⟨i, j, rfl, RG.here e h (.int _)⟩
          | _ => exact h.elim
        | _ => cases r2 <;> exact h.elim
theorem call_minD (hc : X.calm = true) : CallM X W (.builtin "min") minD := fun pins s σ G H xs us ds Q I rx e r h => by
  cases r with
  | nil => exact h.elim
  | cons r t =>
    cases t with
    | nil => cases r with
      | lst q rr =>
        rename_i ds
        have h' : RG (Rep X.K) X.K (fun c d H' => W c d σ H') G H Q (ofOpt (intsD ds) >>= fun ns => chk (0 < ns.length) (.ok (.int (minI ns)))) := h
        cases e1 : intsD ds with
        | none => rw [e1] at h'; exact h'.elim
        | some ns =>
          rw [e1, ofOpt_some, ok_bind] at h'
          obtain ⟨z, h'⟩ := RG.chk h'
          have ev := rr.ints e1
          subst ev
          exact cr_min hc pins s σ H _ us Q I rx ⟨_, ns, rfl, .inl (e.rd q), z, fun m hm ha => by rw [minI_spec z m hm ha]; exact RG.here e h' (.int _)⟩
      | _ => exact h.elim
    | cons r2 t =>
      cases t with
      | cons _ _ => cases r <;> cases r2 <;> exact h.elim
      | nil =>
        cases r with
        | int i => cases r2 with
          | int j => exact call_min2 hc pins s σ H _ us Q I rx ⟨i, j, rfl, RG.here e h (.int _)⟩
          | _ => exact h.elim
        | _ => cases r2 <;> exact h.elim
/-- by an own method of the class (len: __len__, abs: __abs__) -/
def ownF (base : List D → Res D) (ps : Cl → Option (List D → Res D)) : List D → Res D
  | [.obj c fs] => ofOpt (ps c) >>= fun g => g [.obj c fs]
  | ds => base ds
end
end PL
namespace PL
open PySem PySem.Spec L2
open PyProof.Rows (b2i)
def Out.opt : Option Ev → Out
  | some ρ => .nx ρ
  | none => .stuck
@[simp] theorem Out.opt_some (ρ : Ev) : Out.opt (some ρ) = .nx ρ := rfl
section
variable {X : Cx} {B : Base} {W : WX} {st : Stmt} {rest body : List Stmt} {e c : Expr} {m : Ev → Res D} {t : Ev → Res Bool} {o o' : Ev → Out} {pos p' : Pos}
theorem ms_nil : PSs X [] (tS X.K B W .nx) := PSs.imp pss_nil fun Dn σ H ⟨G, ρ, e, q⟩ => q G σ H e
theorem ms_cons (h1 : PS X st (tS X.K B W o)) (h2 : PSs X rest (tS X.K B W o')) : PSs X (st :: rest) (tS X.K B W fun ρ => (o ρ).then o') :=
  PSs.imp (pss_cons h1 h2) fun Dn σ H ⟨G, ρ, e, q⟩ => ⟨G, ρ, e, SG.then q fun ρ' G σ H e q => ⟨G, ρ', e, q⟩⟩
theorem ms_one (h1 : PS X st (tS X.K B W o)) : PSs X [st] (tS X.K B W o) := pss_one h1
theorem ms_frz (i : Nat) (h : PSs X rest (tS X.K B W o)) : PSs X rest (tS X.K B W fun ρ => o (freeze i ρ)) := PSs.imp h fun Dn σ H ⟨G, ρ, e, q⟩ =>
  let ⟨G', e', _⟩ := e.freeze i
  ⟨G', _, e', q⟩
theorem ms_frz1 (i : Nat) (h : PS X st (tS X.K B W o)) : PS X st (tS X.K B W fun ρ => o (freeze i ρ)) := PS.imp h fun Dn σ H ⟨G, ρ, e, q⟩ =>
  let ⟨G', e', _⟩ := e.freeze i
  ⟨G', _, e', q⟩
theorem ms_fgt (i : Nat) (h : PSs X rest (tS X.K B W o)) : PSs X rest (tS X.K B W fun ρ => o (ρ.set i .no)) := PSs.imp h fun Dn σ H ⟨G, ρ, e, q⟩ => ⟨G, _, e.forget i, q⟩
theorem ms_stuck : PS X st (tS X.K B W fun _ => .stuck) := PS.imp ps_never fun _ _ _ ⟨_, _, _, q⟩ => q.elim
theorem mss_stuck : PSs X rest (tS X.K B W fun _ => .stuck) := PSs.imp pss_never fun _ _ _ ⟨_, _, _, q⟩ => q.elim
theorem me_stuck : PE X e (tM X.K B W fun _ => .stuck) := ⟨fun _ _ _ _ _ _ ⟨_, _, _, q⟩ => q.elim⟩
theorem mt_stuck : PT X e (tMT X.K B W fun _ => .stuck) := ⟨fun _ _ _ _ _ _ ⟨_, _, _, q⟩ => q.elim⟩
theorem ms_pass : PS X (.Pass pos) (tS X.K B W .nx) := PS.imp ps_pass fun Dn σ H ⟨G, ρ, e, q⟩ => q G σ H e
theorem ms_break : PS X (.Break pos) (tS X.K B W .bk) := PS.imp ps_break fun Dn σ H ⟨G, ρ, e, q⟩ => q G σ H e
theorem ms_continue : PS X (.Continue pos) (tS X.K B W .ct) := PS.imp ps_continue fun Dn σ H ⟨G, ρ, e, q⟩ => q G σ H e
def oExpr (m : Ev → Res D) : Ev → Out := fun ρ => Out.of (m ρ) ρ fun _ => .nx ρ
theorem ms_expr (he : PE X e (tM X.K B W m)) (hs : swapsWith e none pos.line X.env = pure false := by rfl) : PS X (.Expr e pos) (tS X.K B W (oExpr m)) :=
  PS.imp (ps_expr he hs) fun Dn σ H ⟨G, ρ, e, q⟩ => ⟨G, ρ, e, SG.of e q fun a G1 v H1 _ g e1 r q1 => q1 G1 σ H1 e1⟩
def oRet (m : Ev → Res D) : Ev → Out := fun ρ => Out.of (m ρ) ρ fun d => .rt d ρ
theorem ms_ret (hf : B.fr = 0) (he : PE X e (tM X.K B W m)) : PS X (.Return (some e) pos) (tS X.K B W (oRet m)) :=
  PS.imp (ps_ret he) fun Dn σ H ⟨G, ρ, e, q⟩ => ⟨G, ρ, e, SG.of e q fun a G1 v H1 _ g e1 r q1 => q1 G1 σ H1 v (.ofDat hf e1 r)⟩
def oRetN : Ev → Out := fun ρ => .rt .non ρ
theorem ms_retN (hf : B.fr = 0) : PS X (.Return none pos) (tS X.K B W oRetN) := PS.imp ps_retN fun Dn σ H ⟨G, ρ, e, q⟩ => q G σ H .non (.ofDat hf e .non)
def oIf (t : Ev → Res Bool) (a b : Ev → Out) : Ev → Out := fun ρ => Out.of (t ρ) ρ fun k => if k = true then a ρ else b ρ
theorem ms_if {a b : List Stmt} {oa ob : Ev → Out} (hc : PT X c (tMT X.K B W t)) (ha : PSs X a (tS X.K B W oa)) (hb : PSs X b (tS X.K B W ob)) : PS X (.If c a b pos) (tS X.K B W (oIf t oa ob)) :=
  PS.imp (ps_if hc ha hb) fun Dn σ H ⟨G, ρ, e, q⟩ => ⟨G, ρ, e, SG.of e q fun k G1 v H1 _ g e1 r q1 => by
    have r' : v = k := r
    subst r'
    cases v with
    | true => exact ⟨G1, ρ, e1, q1⟩
    | false => exact ⟨G1, ρ, e1, q1⟩⟩
/-- name = e -/
def oSet (i : Nat) (m : Ev → Res D) : Ev → Out := fun ρ => Out.of (m ρ) ρ fun d => .nx (ρ.set i (.dat d))
theorem ms_set (i : Nat) {x : Str} (he : PE X e (tM X.K B W m)) (hN : X.N.Nodup := by decide) (hi : X.N[i]? = some x := by rfl) (hx : Loc X.env.scope x := by first | exact .inl rfl | exact .inr rfl) (hs : swapsWith e (some (.Name x p')) pos.line X.env = pure false := by rfl)
    (hf : X.fn x = true ∨ X.env.scope.names.lookup x = some .local := by first | exact .inl rfl | exact .inr rfl) : PS X (.Assign [.Name x p'] e pos) (tS X.K B W (oSet i m)) :=
  PS.imp (ps_set hN hi hx he hs hf) fun Dn σ H ⟨G, ρ, e, q⟩ => ⟨G, ρ, e, SG.of e q fun d G1 v H1 _ g e1 r q1 => q1 G1 _ H1 (e1.setDat i r)⟩
end
/-- the slots js are written -/
def gM (K : PySem.W.Frag) (B : Base) (js : List Nat) (f : D → Ev → Option Ev) : TG := fun v σ H Q => ∃ G d ρ ρ', EnvOk K B G σ ρ H ∧ Rep K G v d ∧ f d ρ = some ρ' ∧ ∀ σ', EnvOk K B G σ' ρ' H → σ'.length = σ.length → (∀ j, j ∉ js → σ'[j]? = σ[j]?) → Q σ' H
def gMs (K : PySem.W.Frag) (B : Base) (js : List Nat) (f : List D → Ev → Option Ev) : TGs := fun vs σ H Q => ∃ G ds ρ ρ', EnvOk K B G σ ρ H ∧ Reps K G vs ds ∧ f ds ρ = some ρ' ∧ ∀ σ', EnvOk K B G σ' ρ' H → σ'.length = σ.length → (∀ j, j ∉ js → σ'[j]? = σ[j]?) → Q σ' H
theorem PG.imp {X : Cx} {tg : Expr} {t t' : TG} (h : PG X tg t) (k : ∀ v σ H Q, t' v σ H Q → t v σ H Q) : PG X tg t' := ⟨fun pins s σ H v u Q I r q => h.run pins s σ H v u Q I r (k v σ H Q q)⟩
theorem PGs.imp {X : Cx} {tg : List Expr} {t t' : TGs} (h : PGs X tg t) (k : ∀ v σ H Q, t' v σ H Q → t v σ H Q) : PGs X tg t' := ⟨fun pins s σ H v u Q I r q => h.run pins s σ H v u Q I r (k v σ H Q q)⟩
abbrev GP (X : Cx) (B : Base) (tg : Expr) (js : List Nat) (f : D → Ev → Option Ev) : Prop := PG X tg (gM X.K B js f)
structure GPs (X : Cx) (B : Base) (ts : List Expr) (js : List Nat) (f : List D → Ev → Option Ev) : Prop where
  len : ∀ ds ρ ρ', f ds ρ = some ρ' → ds.length = ts.length
  run : PGs X ts (gMs X.K B js f)
@[simp] def gN (i : Nat) : D → Ev → Option Ev := fun d ρ => some (ρ.set i (.dat d))
@[simp] def gNi : List D → Ev → Option Ev
  | [], ρ => some ρ
  | _, _ => none
@[simp] def gCo (f : D → Ev → Option Ev) (fs : List D → Ev → Option Ev) : List D → Ev → Option Ev
  | d :: ds, ρ => (f d ρ).bind (fs ds)
  | _, _ => none
@[simp] def gTu (fs : List D → Ev → Option Ev) : D → Ev → Option Ev
  | .tup ds, ρ => fs ds ρ
  | _, _ => none
section
variable {X : Cx} {B : Base} {W : WX} {pos : Pos}
theorem gp_name (i : Nat) {x : Str} (hN : X.N.Nodup := by decide) (hi : X.N[i]? = some x := by rfl) (hx : Loc X.env.scope x := by first | exact .inl rfl | exact .inr rfl) (hf : X.fn x = true ∨ X.env.scope.names.lookup x = some .local := by first | exact .inl rfl | exact .inr rfl) : GP X B (.Name x pos) [i] (gN i) :=
  PG.imp (pg_name hN hi hx hf) fun v σ H Q ⟨G, d, ρ, ρ', e, r, q, k⟩ => by
    cases q
    exact k _ (e.setDat i r) (List.length_set ..) fun j hj => List.getElem?_set_ne fun z => hj (by rw [z]; exact List.mem_cons_self)
theorem gp_nil : GPs X B [] [] gNi := ⟨fun ds ρ ρ' q => (by cases ds <;> first | rfl | (cases q)), PGs.imp pgs_nil fun vs σ H Q ⟨G, ds, ρ, ρ', e, r, q, k⟩ => by
  cases r with
  | nil => cases q; exact ⟨rfl, k _ e rfl fun _ _ => rfl⟩
  | cons _ _ => cases q⟩
theorem gp_cons {t : Expr} {ts : List Expr} {js ks : List Nat} {f : D → Ev → Option Ev} {fs : List D → Ev → Option Ev} (h1 : GP X B t js f) (h2 : GPs X B ts ks fs) (hs : (assignEach (t :: ts) X.env).map (·.2) = assign t X.env :: (assignEach ts X.env).map (·.2) := by rfl) : GPs X B (t :: ts) (js ++ ks) (gCo f fs) := by
  refine ⟨fun ds ρ ρ' q => ?_, PGs.imp (pgs_cons h1 h2.run hs) fun vs σ H Q ⟨G, ds, ρ, ρ', e, r, q, k⟩ => ?_⟩
  · cases ds with
    | nil => cases q
    | cons d ds =>
      obtain ⟨ρ1, e1, e2⟩ := Option.bind_eq_some_iff.mp (show (f d ρ).bind (fs ds) = some ρ' from q)
      rw [List.length_cons, List.length_cons, h2.len _ _ _ e2]
  · cases r with
    | nil => cases q
    | @cons v d vs ds r rr =>
      obtain ⟨ρ1, e1, e2⟩ := Option.bind_eq_some_iff.mp (show (f d ρ).bind (fs ds) = some ρ' from q)
      exact ⟨v, vs, rfl, G, d, ρ, ρ1, e, r, e1, fun σ' e' l1 o1 => ⟨G, ds, ρ1, ρ', e', rr, e2, fun σ2 e3 l2 o2 => k σ2 e3 (l2.trans l1) fun j hj => (o2 j fun z => hj (List.mem_append_right _ z)).trans (o1 j fun z => hj (List.mem_append_left _ z))⟩⟩
theorem gp_tup {es : List Expr} {k : Nat} {js : List Nat} {fs : List D → Ev → Option Ev} (hc : X.calm = true) (h : GPs X B es js fs) (hn : (assignEach es X.env).length = es.length := by rfl) (hst : (assignEach es X.env).findIdx? (·.1) = none := by rfl) : GP X B (.Tuple es k pos) js (gTu fs) :=
  PG.imp (pg_tup hc h.run hn hst) fun v σ H Q ⟨G, d, ρ, ρ', e, r, q, kk⟩ => by
    cases r with
    | tup s r => exact ⟨_, _, rfl, e.sub.sqt s, by rw [r.length]; exact h.len _ _ _ q, G, _, ρ, ρ', e, r, q, kk⟩
    | _ => cases q
/-- target = e -/
def oAsg (f : D → Ev → Option Ev) (m : Ev → Res D) : Ev → Out := fun ρ => Out.of (m ρ) ρ fun d => Out.opt (f d ρ)
theorem SG.opt {K : PySem.W.Frag} {Dn : Ends} {o : Option Ev} (h : SG K B W Dn (Out.opt o)) : ∃ ρ, o = some ρ ∧ SG K B W Dn (.nx ρ) := by
  cases o with
  | none => exact h.elim
  | some ρ => exact ⟨ρ, rfl, h⟩
theorem ms_asg {tg e : Expr} {js : List Nat} {f : D → Ev → Option Ev} {m : Ev → Res D} (hg : GP X B tg js f) (he : PE X e (tM X.K B W m)) (hs : swapsWithSole [tg] e pos.line X.env = pure false := by rfl) (hw : swappedStores [tg] e X.env = pure none := by rfl)
    (h1 : (assignEach [tg] X.env).map (·.2) = [assign tg X.env] := by rfl) : PS X (.Assign [tg] e pos) (tS X.K B W (oAsg f m)) :=
  PS.imp (ps_asg he hg hs hw h1) fun Dn σ H ⟨G, ρ, e, q⟩ => ⟨G, ρ, e, SG.of e q fun d G1 v H1 _ g1 e1 r q1 => by
    obtain ⟨ρ', e2, q2⟩ := SG.opt q1
    exact ⟨G1, d, ρ, ρ', e1, r, e2, fun σ' e' _ _ => q2 G1 σ' H1 e'⟩⟩
/-- a, b = x, y -/
def o2 (i j : Nat) (ms : Ev → Res (List D)) : Ev → Out := fun ρ => Out.of (ms ρ) ρ fun ds => match ds with
  | [a, b] => .nx ((ρ.set i (.dat a)).set j (.dat b))
  | _ => .stuck
def o3 (i j l : Nat) (ms : Ev → Res (List D)) : Ev → Out := fun ρ => Out.of (ms ρ) ρ fun ds => match ds with
  | [a, b, c] => .nx (((ρ.set i (.dat a)).set j (.dat b)).set l (.dat c))
  | _ => .stuck
theorem ms_par (i j : Nat) {x y : Str} {a b : Expr} {ms : Ev → Res (List D)} {px py pt : Pos} {kt k2 pt2} (hc : X.calm = true) (ha : PA X [a, b] (tMA X.K B W ms)) (hij : i ≠ j := by decide) (hN : X.N.Nodup := by decide) (hi : X.N[i]? = some x := by rfl) (hj : X.N[j]? = some y := by rfl)
    (hx : X.env.scope.names.lookup x = some .local := by rfl) (hy : X.env.scope.names.lookup y = some .local := by rfl)
    (hw : swappedStores [.Tuple [.Name x px, .Name y py] kt pt] (.Tuple [a, b] k2 pt2) X.env = pure (some [x, y]) := by rfl)
    (hs : swapsWithSole [.Tuple [.Name x px, .Name y py] kt pt] (.Tuple [a, b] k2 pt2) pos.line X.env = pure false := by rfl) :
    PS X (.Assign [.Tuple [.Name x px, .Name y py] kt pt] (.Tuple [a, b] k2 pt2) pos) (tS X.K B W (o2 i j ms)) :=
  PS.imp (ps_par hc hN hi hj hij hx hy ha hw hs) fun Dn σ H ⟨G, ρ, e, q⟩ => ⟨G, ρ, e, SG.of e q fun ds G1 vs H1 _ g1 e1 r q1 => by
    cases r with
    | nil => exact q1.elim
    | cons r1 r =>
      cases r with
      | nil => exact q1.elim
      | cons r2 r =>
        cases r with
        | nil => exact ⟨_, _, rfl, q1 G1 _ H1 ((e1.setDat i r1).setDat j r2)⟩
        | cons _ _ => exact q1.elim⟩
theorem ms_par3 (i j l : Nat) {x y z : Str} {a b c : Expr} {ms : Ev → Res (List D)} {px py pz pt : Pos} {kt k2 pt2} (hc : X.calm = true) (ha : PA X [a, b, c] (tMA X.K B W ms)) (hij : i ≠ j := by decide) (hil : i ≠ l := by decide) (hjl : j ≠ l := by decide) (hN : X.N.Nodup := by decide)
    (hi : X.N[i]? = some x := by rfl) (hj : X.N[j]? = some y := by rfl) (hl : X.N[l]? = some z := by rfl)
    (hx : X.env.scope.names.lookup x = some .local := by rfl) (hy : X.env.scope.names.lookup y = some .local := by rfl) (hz : X.env.scope.names.lookup z = some .local := by rfl)
    (hw : swappedStores [.Tuple [.Name x px, .Name y py, .Name z pz] kt pt] (.Tuple [a, b, c] k2 pt2) X.env = pure (some [x, y, z]) := by rfl)
    (hs : swapsWithSole [.Tuple [.Name x px, .Name y py, .Name z pz] kt pt] (.Tuple [a, b, c] k2 pt2) pos.line X.env = pure false := by rfl) :
    PS X (.Assign [.Tuple [.Name x px, .Name y py, .Name z pz] kt pt] (.Tuple [a, b, c] k2 pt2) pos) (tS X.K B W (o3 i j l ms)) :=
  PS.imp (ps_par3 hc hN hi hj hl hij hil hjl hx hy hz ha hw hs) fun Dn σ H ⟨G, ρ, e, q⟩ => ⟨G, ρ, e, SG.of e q fun ds G1 vs H1 _ g1 e1 r q1 => by
    cases r with
    | nil => exact q1.elim
    | cons r1 r =>
      cases r with
      | nil => exact q1.elim
      | cons r2 r =>
        cases r with
        | nil => exact q1.elim
        | cons r3 r =>
          cases r with
          | nil => exact ⟨_, _, _, rfl, q1 G1 _ H1 (((e1.setDat i r1).setDat j r2).setDat l r3)⟩
          | cons _ _ => exact q1.elim⟩
end
/-- H0: what stood at the entry -/
def ItOk (K : PySem.W.Frag) (H0 G1 : Hp) (J : It) (ds : List D) : Prop :=
  ∀ (i : Nat) (G H : Hp), Ext G1 G → Ext H0 H → Ext G H → (ds.length ≤ i → J.stop i H) ∧ ∀ d, ds[i]? = some d → J.go i H ∧ ∀ x H', J.yld i H x H' → ∃ G', Grow G H G' H' ∧ Rep K G' x d
abbrev IP (X : Cx) (B : Base) (W : WX) (tg iter : Expr) (m : Ev → Res (List D)) : Prop := PI X tg iter (tG (ItOk X.K B.H) X.K B W m)
theorem PI.imp {X : Cx} {tg iter : Expr} {t t' : TI} (h : PI X tg iter t) (k : ∀ σ H R, t' σ H R → t σ H R) : PI X tg iter t' := ⟨fun pins s σ H R I q => h.run pins s σ H R I (k σ H R q)⟩
/-- items that are data at hand -/
theorem itOk_at {K : PySem.W.Frag} {H0 G1 : Hp} {J : It} {vs : List V} {ds : List D} (r : Reps K G1 vs ds) (hs : ∀ i G H, Ext G1 G → Ext G H → vs.length ≤ i → J.stop i H) (hg : ∀ i G H v, Ext G1 G → Ext G H → vs[i]? = some v → J.go i H ∧ ∀ x H', J.yld i H x H' → H' = H ∧ x = v) : ItOk K H0 G1 J ds := by
  refine fun i G H e1 _ e2 => ⟨fun h => hs i G H e1 e2 (by rw [r.length]; exact h), fun d hd => ?_⟩
  obtain ⟨v, hv, rv⟩ := r.getD hd
  obtain ⟨k1, k2⟩ := hg i G H v e1 e2 hv
  refine ⟨k1, fun x H' y => ?_⟩
  obtain ⟨rfl, rfl⟩ := k2 x H' y
  exact ⟨G, .refl e2, rv.mono e1⟩
def itD : D → Res (List D)
  | .lst xs => .ok xs
  | .tup xs => .ok xs
  | _ => .stuck
def iMap (f : D → Res (List D)) (m : Ev → Res D) : Ev → Res (List D) := fun ρ => m ρ >>= f
def iMapA (f : List D → Res (List D)) (m : Ev → Res (List D)) : Ev → Res (List D) := fun ρ => m ρ >>= f
section
variable {X : Cx} {B : Base} {W : WX} {tg : Expr} {pos : Pos}
/-- the list, the tuple of e -/
theorem pi_seq {l : Expr} {tl : TE} (hl : PE X l tl) : PI X tg l (fun σ H R => tl σ H fun x H1 => ∃ a, x = .ref a ∧ (((∃ xs, SqL X.K H1 a xs) ∧ R (Itl X.K a) H1) ∨ ((∃ xs, SqT X.K H1 a xs) ∧ R (Itt X.K a) H1))) := by
  refine ⟨fun pins s σ H R I h => ?_⟩
  refine thn (hl.run pins s σ H _ I h) fun v s1 ⟨x, H1, I1, r1, q1⟩ => ?_
  obtain ⟨a, e, q⟩ := q1
  subst e
  cases r1
  have fp : ∀ b ∈ [s1.heap.objs.size], FpOk X pins H1 b := fun b hb => by
    have e : b = s1.heap.objs.size := by simpa using hb
    subst e
    exact I1.fpOk (Nat.le_refl _) (I1.hok.fresh (Nat.le_refl _))
  rcases q with ⟨⟨xs, hq⟩, q⟩ | ⟨⟨xs, hq⟩, q⟩
  · obtain ⟨its, rv, p, hz⟩ := I1.list hq
    refine wpAny_pyIter_list p.isList ?_
    exact ⟨s1.heap.objs.size, [s1.heap.objs.size], _, _, H1, rfl, I1.kept (t' := s1.toks) fun b o e => Heap.get?_push_of_some _ e, turn_list a _, ⟨_, Heap.get?_push_size _ rfl, rfl, rfl⟩, fp, q⟩
  · obtain ⟨its, rv, p, hz⟩ := I1.tuple hq
    refine wpAny_pyIter_tuple (show s1.heap.IsTuple a its.toArray from p) ?_
    exact ⟨s1.heap.objs.size, [s1.heap.objs.size], _, _, H1, rfl, I1.kept (t' := s1.toks) fun b o e => Heap.get?_push_of_some _ e, turn_tuple a _, ⟨_, Heap.get?_push_size _ rfl, rfl, rfl⟩, fp, q⟩
theorem itOk_list {K : PySem.W.Frag} {H0 G1 : Hp} {a : Addr} {vs : List V} {ds : List D} (h : Rd G1 a (.lst vs)) (r : Reps K G1 vs ds) : ItOk K H0 G1 (Itl K a) ds :=
  itOk_at r (fun i G H e1 e2 hl => ⟨vs, .inl (e2.rd (e1.rd h)), hl⟩) fun i G H v e1 e2 hv => ⟨⟨vs, v, .inl (e2.rd (e1.rd h)), hv⟩, fun x H' ⟨y1, y2⟩ => ⟨y1, by
    have z := y2 vs (.inl (e2.rd (e1.rd h)))
    rw [hv] at z
    exact (Option.some.inj z).symm⟩⟩
theorem itOk_tup {K : PySem.W.Frag} {H0 G1 : Hp} {a : Addr} {vs : List V} {ds : List D} (h : SqT K G1 a vs) (r : Reps K G1 vs ds) : ItOk K H0 G1 (Itt K a) ds :=
  itOk_at r (fun i G H e1 e2 hl => ⟨vs, e2.sqt (e1.sqt h), hl⟩) fun i G H v e1 e2 hv => ⟨⟨vs, v, e2.sqt (e1.sqt h), hv⟩, fun x H' ⟨y1, y2⟩ => ⟨y1, by
    have z := y2 vs (e2.sqt (e1.sqt h))
    rw [hv] at z
    exact (Option.some.inj z).symm⟩⟩
theorem ip_seq {e : Expr} {m : Ev → Res D} (he : PE X e (tM X.K B W m)) : IP X B W tg e (iMap itD m) :=
  PI.imp (pi_seq he) fun σ H R ⟨G, ρ, e0, q⟩ => ⟨G, ρ, e0, RG.bind q fun d G1 v H1 g r q1 => by
    cases r with
    | lst h r => exact ⟨_, rfl, .inl ⟨⟨_, .inl (g.sub.rd h)⟩, q1 G1 _ H1 (.refl g.sub) (itOk_list h r)⟩⟩
    | tup h r => exact ⟨_, rfl, .inr ⟨⟨_, g.sub.sqt h⟩, q1 G1 _ H1 (.refl g.sub) (itOk_tup h r)⟩⟩
    | _ => exact q1.elim⟩
def rngL (lo : Int) (n : Nat) : List D := (List.range n).map fun i => .int (lo + (i : Nat))
def rng1 : List D → Res (List D)
  | [.int j] => chk (-(2 ^ 62) ≤ j ∧ j < 2 ^ 62) (.ok (rngL 0 j.toNat))
  | _ => .stuck
def rng2 : List D → Res (List D)
  | [.int i, .int j] => chk (-(2 ^ 62) ≤ i ∧ i < 2 ^ 62 ∧ -(2 ^ 62) ≤ j ∧ j < 2 ^ 62) (.ok (rngL i (j - i).toNat))
  | _ => .stuck
theorem itOk_rng {K : PySem.W.Frag} {H0 G1 : Hp} (lo : Int) (n : Nat) : ItOk K H0 G1 (Itr lo n) (rngL lo n) := by
  refine fun i G H e1 _ e2 => ⟨fun h => by
    have h' : n ≤ i := by simpa [rngL] using h
    exact h', fun d hd => ?_⟩
  have hi : i < n := by
    have := (List.getElem?_eq_some_iff.mp hd).1
    simpa [rngL] using this
  have hd' : d = .int (lo + (i : Nat)) := by
    unfold rngL at hd
    rw [List.getElem?_map, List.getElem?_range hi] at hd
    exact (Option.some.inj hd).symm
  subst hd'
  refine ⟨hi, fun x H' y => ?_⟩
  obtain ⟨rfl, rfl⟩ := y
  exact ⟨G, .refl e2, .int _⟩
theorem ip_range1 {a : Expr} {ms : Ev → Res (List D)} {p : Pos} (ha : PA X [a] (tMA X.K B W ms)) (hg : Gl X "range") (hm : X.mg "range" = none) (hs : starEach [a] X.env = [(false, eval a X.env)] := by rfl) : IP X B W tg (.Call (.Name "range" p) [a] [] pos) (iMapA rng1 ms) :=
  PI.imp (pi_range1 hg hm ha hs) fun σ H R ⟨G, ρ, e0, q⟩ => ⟨G, ρ, e0, RG.bind q fun ds G1 vs H1 g r q1 => by
    cases r with
    | nil => exact q1.elim
    | cons r t =>
      cases t with
      | nil =>
        cases r with
        | int j =>
          obtain ⟨z, q1⟩ := RG.chk q1
          exact ⟨j, rfl, z.1, z.2, q1 G1 _ H1 (.refl g.sub) (itOk_rng _ _)⟩
        | _ => exact q1.elim
      | cons r2 t => cases r <;> exact q1.elim⟩
theorem ip_range2 {a b : Expr} {ms : Ev → Res (List D)} {p : Pos} (ha : PA X [a, b] (tMA X.K B W ms)) (hg : Gl X "range") (hm : X.mg "range" = none) (hs : starEach [a, b] X.env = [(false, eval a X.env), (false, eval b X.env)] := by rfl) (hs2 : starEach [b] X.env = [(false, eval b X.env)] := by rfl) :
    IP X B W tg (.Call (.Name "range" p) [a, b] [] pos) (iMapA rng2 ms) :=
  PI.imp (pi_range2 hg hm ha hs hs2) fun σ H R ⟨G, ρ, e0, q⟩ => ⟨G, ρ, e0, RG.bind q fun ds G1 vs H1 g r q1 => by
    cases r with
    | nil => exact q1.elim
    | cons r t =>
      cases t with
      | nil => cases r <;> exact q1.elim
      | cons r2 t =>
        cases t with
        | nil =>
          cases r with
          | int i =>
            cases r2 with
            | int j =>
              obtain ⟨z, q1⟩ := RG.chk q1
              exact ⟨i, j, rfl, z, q1 G1 _ H1 (.refl g.sub) (itOk_rng _ _)⟩
            | _ => exact q1.elim
          | _ => cases r2 <;> exact q1.elim
        | cons r3 t => cases r <;> cases r2 <;> exact q1.elim⟩
def zipL : List D → List D → List D
  | a :: as, b :: bs => .tup [a, b] :: zipL as bs
  | _, _ => []
def zipD : List D → Res (List D)
  | [.lst a, .lst b] => .ok (zipL a b)
  | [.tup a, .tup b] => .ok (zipL a b)
  | _ => .stuck
theorem zipL_get : ∀ (as bs : List D) (i : Nat), (zipL as bs)[i]? = (match as[i]?, bs[i]? with
    | some a, some b => some (.tup [a, b])
    | _, _ => none)
  | [], _, i => by cases i <;> rfl
  | a :: as, [], i => by
    show ([] : List D)[i]? = _
    cases h : (a :: as)[i]? <;> simp
  | a :: as, b :: bs, 0 => rfl
  | a :: as, b :: bs, i + 1 => by
    show (zipL as bs)[i]? = _
    rw [zipL_get as bs i]
    rfl
theorem zip_item {K : PySem.W.Frag} {G H : Hp} {T : Addr} {x y : V} {d c : D} (s : Ext G H) (hT : H T = none) (r1 : Rep K G x d) (r2 : Rep K G y c) : ∃ G', Grow G H G' (upd H T (.tup [x, y])) ∧ Rep K G' (.ref T) (.tup [d, c]) :=
  ⟨_, .laid s hT _, .tup (.of upd_same) (.cons (r1.mono (.upd (s.free hT))) (.cons (r2.mono (.upd (s.free hT))) .nil))⟩
theorem itOk_zip {K : PySem.W.Frag} {H0 G1 : Hp} {a b : Addr} {vs us : List V} {ds cs : List D} (h : Rd G1 a (.lst vs)) (h2 : Rd G1 b (.lst us)) (r : Reps K G1 vs ds) (r2 : Reps K G1 us cs) : ItOk K H0 G1 (Itz K a b) (zipL ds cs) := by
  refine fun i G H e1 _ e2 => ⟨fun hl => ⟨vs, us, .inl (e2.rd (e1.rd h)), .inl (e2.rd (e1.rd h2)), ?_⟩, fun d hd => ?_⟩
  · have z : (zipL ds cs)[i]? = none := List.getElem?_eq_none hl
    rw [zipL_get] at z
    rw [r.length, r2.length]
    refine Classical.byContradiction fun w => ?_
    have w1 : i < ds.length := by omega
    have w2 : i < cs.length := by omega
    rw [List.getElem?_eq_getElem w1, List.getElem?_eq_getElem w2] at z
    cases z
  · rw [zipL_get] at hd
    cases hx : ds[i]? with
    | none => rw [hx] at hd; cases hd
    | some d1 =>
      cases hy : cs[i]? with
      | none => rw [hx, hy] at hd; cases hd
      | some d2 =>
        rw [hx, hy] at hd
        cases hd
        obtain ⟨v, hv, rv⟩ := r.getD hx
        obtain ⟨u, hu, ru⟩ := r2.getD hy
        refine ⟨⟨vs, us, v, u, .inl (e2.rd (e1.rd h)), .inl (e2.rd (e1.rd h2)), hv, hu⟩, fun x H' y => ?_⟩
        obtain ⟨T, p, q, rfl, hT, rfl, k1, k2⟩ := y
        have z1 := k1 vs (.inl (e2.rd (e1.rd h)))
        have z2 := k2 us (.inl (e2.rd (e1.rd h2)))
        rw [hv] at z1
        rw [hu] at z2
        cases z1
        cases z2
        exact zip_item e2 hT (rv.mono e1) (ru.mono e1)
theorem itOk_zipT {K : PySem.W.Frag} {H0 G1 : Hp} {a b : Addr} {vs us : List V} {ds cs : List D} (h : SqT K G1 a vs) (h2 : SqT K G1 b us) (r : Reps K G1 vs ds) (r2 : Reps K G1 us cs) : ItOk K H0 G1 (RZ.ItzT K a b) (zipL ds cs) := by
  refine fun i G H e1 _ e2 => ⟨fun hl => ⟨vs, us, e2.sqt (e1.sqt h), e2.sqt (e1.sqt h2), ?_⟩, fun d hd => ?_⟩
  · have z : (zipL ds cs)[i]? = none := List.getElem?_eq_none hl
    rw [zipL_get] at z
    rw [r.length, r2.length]
    refine Classical.byContradiction fun w => ?_
    have w1 : i < ds.length := by omega
    have w2 : i < cs.length := by omega
    rw [List.getElem?_eq_getElem w1, List.getElem?_eq_getElem w2] at z
    cases z
  · rw [zipL_get] at hd
    cases hx : ds[i]? with
    | none => rw [hx] at hd; cases hd
    | some d1 =>
      cases hy : cs[i]? with
      | none => rw [hx, hy] at hd; cases hd
      | some d2 =>
        rw [hx, hy] at hd
        cases hd
        obtain ⟨v, hv, rv⟩ := r.getD hx
        obtain ⟨u, hu, ru⟩ := r2.getD hy
        refine ⟨⟨vs, us, v, u, e2.sqt (e1.sqt h), e2.sqt (e1.sqt h2), hv, hu⟩, fun x H' y => ?_⟩
        obtain ⟨T, p, q, rfl, hT, rfl, k1, k2⟩ := y
        have z1 := k1 vs (e2.sqt (e1.sqt h))
        have z2 := k2 us (e2.sqt (e1.sqt h2))
        rw [hv] at z1
        rw [hu] at z2
        cases z1
        cases z2
        exact zip_item e2 hT (rv.mono e1) (ru.mono e1)
theorem ip_zip {e e2 : Expr} {ms : Ev → Res (List D)} {p tpos : Pos} {elts : List Expr} {kk : Nat} (ha : PA X [e, e2] (tMA X.K B W ms)) (hg : Gl X "zip") (hm : X.mg "zip" = none)
    (hs : starEach [e, e2] X.env = (false, eval e X.env) :: starEach [e2] X.env := by rfl) (hpl : (backTo pos (starEach [e2] X.env)).any (·.1) = false := by rfl) :
    IP X B W (.Tuple elts kk tpos) (.Call (.Name "zip" p) [e, e2] [] pos) (iMapA zipD ms) :=
  PI.imp (RZ.pi_zipA hg hm ha hs hpl) fun σ H R ⟨G, ρ, e0, q⟩ => ⟨G, ρ, e0, RG.bind q fun ds G1 vs H1 g r q1 => by
    cases r with
    | nil => exact q1.elim
    | cons r t =>
      cases t with
      | nil => cases r <;> exact q1.elim
      | cons r2 t =>
        cases t with
        | nil =>
          cases r with
          | lst h r =>
            cases r2 with
            | lst h2 r2 => exact ⟨_, _, _, _, rfl, .inl ⟨.inl (g.sub.rd h), .inl (g.sub.rd h2), q1 G1 _ H1 (.refl g.sub) (itOk_zip h h2 r r2)⟩⟩
            | _ => exact q1.elim
          | tup h r =>
            cases r2 with
            | tup h2 r2 => exact ⟨_, _, _, _, rfl, .inr ⟨g.sub.sqt h, g.sub.sqt h2, q1 G1 _ H1 (.refl g.sub) (itOk_zipT h h2 r r2)⟩⟩
            | _ => exact q1.elim
          | _ => cases r2 <;> exact q1.elim
        | cons r3 t => cases r <;> cases r2 <;> exact q1.elim⟩
def enumL : Nat → List D → List D
  | _, [] => []
  | n, a :: as => .tup [.int (n : Nat), a] :: enumL (n + 1) as
theorem enumL_get : ∀ (as : List D) (n i : Nat), (enumL n as)[i]? = as[i]?.map fun a => .tup [.int ((n + i : Nat) : Int), a]
  | [], n, i => by cases i <;> rfl
  | a :: as, n, 0 => rfl
  | a :: as, n, i + 1 => by
    show (enumL (n + 1) as)[i]? = _
    rw [enumL_get as (n + 1) i, List.getElem?_cons_succ, Nat.add_right_comm]
    rfl
theorem enumL_len : ∀ (as : List D) (n : Nat), (enumL n as).length = as.length
  | [], _ => rfl
  | a :: as, n => by
    show (enumL (n + 1) as).length + 1 = _
    rw [enumL_len as (n + 1)]
    rfl
def enumD : List D → Res (List D)
  | [.lst a] => .ok (enumL 0 a)
  | _ => .stuck
theorem itOk_enum {K : PySem.W.Frag} {H0 G1 : Hp} {a : Addr} {vs : List V} {ds : List D} (h : Rd G1 a (.lst vs)) (r : Reps K G1 vs ds) : ItOk K H0 G1 (Ite K a) (enumL 0 ds) := by
  refine fun i G H e1 _ e2 => ⟨fun hl => ⟨vs, .inl (e2.rd (e1.rd h)), ?_⟩, fun d hd => ?_⟩
  · rw [r.length]
    rw [enumL_len] at hl
    exact hl
  · rw [enumL_get, Nat.zero_add] at hd
    cases hx : ds[i]? with
    | none => rw [hx] at hd; cases hd
    | some d1 =>
      rw [hx] at hd
      cases hd
      obtain ⟨v, hv, rv⟩ := r.getD hx
      refine ⟨⟨vs, v, .inl (e2.rd (e1.rd h)), hv⟩, fun x H' y => ?_⟩
      obtain ⟨T, p, rfl, hT, rfl, k1⟩ := y
      have z1 := k1 vs (.inl (e2.rd (e1.rd h)))
      rw [hv] at z1
      cases z1
      exact zip_item e2 hT (.int _) (rv.mono e1)
theorem ip_enum {e : Expr} {ms : Ev → Res (List D)} {p tpos : Pos} {elts : List Expr} {kk : Nat} (ha : PA X [e] (tMA X.K B W ms)) (hg : Gl X "enumerate") (hm : X.mg "enumerate" = none) (hs : starEach [e] X.env = [(false, eval e X.env)] := by rfl) :
    IP X B W (.Tuple elts kk tpos) (.Call (.Name "enumerate" p) [e] [] pos) (iMapA enumD ms) :=
  PI.imp (pi_enum hg hm ha hs) fun σ H R ⟨G, ρ, e0, q⟩ => ⟨G, ρ, e0, RG.bind q fun ds G1 vs H1 g r q1 => by
    cases r with
    | nil => exact q1.elim
    | cons r t =>
      cases t with
      | nil =>
        cases r with
        | lst h r => exact ⟨_, _, rfl, .inl (g.sub.rd h), q1 G1 _ H1 (.refl g.sub) (itOk_enum h r)⟩
        | _ => exact q1.elim
      | cons r2 t => cases r <;> exact q1.elim⟩
end
def forL (f : D → Ev → Option Ev) (b : Ev → Out) : List D → Ev → Out
  | [], ρ => .nx ρ
  | d :: ds, ρ => match f d ρ with
    | none => .stuck
    | some ρ1 => match b ρ1 with
      | .nx ρ2 => forL f b ds ρ2
      | .ct ρ2 => forL f b ds ρ2
      | .bk ρ2 => .nx ρ2
      | .rt d ρ => .rt d ρ
      | .exc e ρ => .exc e ρ
      | .stuck => .stuck
def oFor (m : Ev → Res (List D)) (f : D → Ev → Option Ev) (b : Ev → Out) : Ev → Out := fun ρ => Out.of (m ρ) ρ fun ds => forL f b ds ρ
def whN (c : Ev → Res Bool) (b : Ev → Out) : Nat → Ev → Out
  | 0, _ => .stuck
  | n + 1, ρ => Out.of (c ρ) ρ fun k => if k = true then match b ρ with
      | .nx ρ2 => whN c b n ρ2
      | .ct ρ2 => whN c b n ρ2
      | .bk ρ2 => .nx ρ2
      | .rt d ρ => .rt d ρ
      | .exc e ρ => .exc e ρ
      | .stuck => .stuck
    else .nx ρ
open Classical in
noncomputable def oWhile (c : Ev → Res Bool) (b : Ev → Out) : Ev → Out := fun ρ => if h : ∃ n, whN c b n ρ ≠ .stuck then whN c b h.choose ρ else .stuck
section
variable {X : Cx} {B : Base} {W : WX} {tg iter c : Expr} {body : List Stmt} {pos : Pos} {m : Ev → Res (List D)} {js : List Nat} {f : D → Ev → Option Ev} {b : Ev → Out} {t : Ev → Res Bool}
theorem ms_for (hc : X.calm = true) (hp : PassesOwn (model X.prog X.w) X.A X.env X.xe) (hi : IP X B W tg iter m) (hg : GP X B tg js f) (hb : ∀ B' : Base, B'.fr = B.fr → PSs X body (tS X.K B' W b)) (hs : ∀ x, foldedSetIterable iter X.env x = pure x := by intro _; rfl) :
    PS X (.For tg iter body [] pos) (tS X.K B W (oFor m f b)) := by
  have hb' : PSs X body (fun Dn σ H => ∃ B' : Base, B'.fr = B.fr ∧ tS X.K B' W b Dn σ H) := ⟨fun pins s σ H Dn I ⟨B', hf, q⟩ => (hb B' hf).run pins s σ H Dn I q⟩
  refine PS.imp (ps_for hp hc hi hg hb' hs) fun Dn σ H ⟨G, ρ, e, q⟩ => ⟨G, ρ, e, SG.of e q fun ds G1 J H1 _ g1 e1 r q1 => ?_⟩
  refine ⟨fun i m σ H => m = ds.length - i ∧ i ≤ ds.length ∧ ∃ G ρ, EnvOk X.K B G σ ρ H ∧ Ext G1 G ∧ SG X.K B W Dn (forL f b (ds.drop i) ρ), ⟨ds.length, rfl, Nat.zero_le _, G1, ρ, e1, .refl, q1⟩, ?_⟩
  rintro i mm σ2 H2 ⟨rfl, hl, G2, ρ2, e2, x2, q2⟩
  obtain ⟨k1, k2⟩ := r i G2 H2 x2 e2.grow.h e2.sub
  by_cases hlt : i < ds.length
  · obtain ⟨go, yl⟩ := k2 ds[i] (List.getElem?_eq_getElem hlt)
    rw [List.drop_eq_getElem_cons hlt] at q2
    refine .inr ⟨go, fun σ' H' => ∃ m', m' < ds.length - i ∧ m' = ds.length - (i + 1) ∧ i + 1 ≤ ds.length ∧ ∃ G ρ, EnvOk X.K B G σ' ρ H' ∧ Ext G1 G ∧ SG X.K B W Dn (forL f b (ds.drop (i + 1)) ρ), fun σ' H' z => z, fun x H3 y => ?_⟩
    obtain ⟨G3, g3, r3⟩ := yl x H3 y
    have e3 := e2.growN g3
    have q3 : SG X.K B W Dn (match f ds[i] ρ2 with
      | none => Out.stuck
      | some ρ1 => match b ρ1 with
        | .nx ρ2 => forL f b (ds.drop (i + 1)) ρ2
        | .ct ρ2 => forL f b (ds.drop (i + 1)) ρ2
        | .bk ρ2 => .nx ρ2
        | .rt d ρ => .rt d ρ
        | .exc e ρ => .exc e ρ
        | .stuck => .stuck) := q2
    cases hf : f ds[i] ρ2 with
    | none => rw [hf] at q3; exact q3.elim
    | some ρ4 =>
      rw [hf] at q3
      refine ⟨G3, ds[i], ρ2, ρ4, e3, r3, hf, fun σ4 e4 _ _ => ?_⟩
      refine ⟨B.at G3, rfl, G3, ρ4, e4.rebase, ?_⟩
      have step : ∀ (ρ5 : Ev) (σ' : St) (G' H' : Hp), EnvOk X.K (B.at G3) G' σ' ρ5 H' → SG X.K B W Dn (forL f b (ds.drop (i + 1)) ρ5) →
          ∃ m', m' < ds.length - i ∧ m' = ds.length - (i + 1) ∧ i + 1 ≤ ds.length ∧ ∃ G ρ, EnvOk X.K B G σ' ρ H' ∧ Ext G1 G ∧ SG X.K B W Dn (forL f b (ds.drop (i + 1)) ρ) := fun ρ5 σ' G' H' e5 q5 =>
        ⟨ds.length - (i + 1), by omega, rfl, hlt, G', ρ5, e5.unbase e3.grow, (x2.trans g3.g).trans e5.grow.g, q5⟩
      dsimp only at q3
      cases hb1 : b ρ4 with
      | nx ρ5 => rw [hb1] at q3; exact fun G' σ' H' e5 => step ρ5 σ' G' H' e5 q3
      | ct ρ5 => rw [hb1] at q3; exact fun G' σ' H' e5 => step ρ5 σ' G' H' e5 q3
      | bk ρ5 => rw [hb1] at q3; exact fun G' σ' H' e5 => q3 G' σ' H' (e5.unbase e3.grow)
      | rt d ρ5 => rw [hb1] at q3; exact fun G' σ' H' v e5 => q3 G' σ' H' v (e5.unbase e3.grow)
      | exc er ρ5 => rw [hb1] at q3; exact fun G' σ' H' c d e5 r => q3 G' σ' H' c d (e5.unbase e3.grow) r
      | stuck => rw [hb1] at q3; exact q3
  · have ei : i = ds.length := by omega
    subst ei
    rw [List.drop_length] at q2
    exact .inl ⟨k1 (Nat.le_refl _), q2 G2 σ2 H2 e2⟩
theorem whN_more {n : Nat} : ∀ {ρ : Ev} {k : Nat}, whN t b n ρ ≠ .stuck → whN t b (n + k) ρ = whN t b n ρ := by
  induction n with
  | zero => intro ρ k h; exact absurd rfl h
  | succ n ih =>
    intro ρ k h
    rw [Nat.add_right_comm]
    unfold whN at h ⊢
    cases ht : t ρ with
    | exc e => rfl
    | stuck => rfl
    | ok v =>
      rw [ht] at h
      simp only [Out.of_ok] at h ⊢
      cases v with
      | false => rfl
      | true =>
        simp only [if_true] at h ⊢
        cases hb : b ρ with
        | nx ρ2 => rw [hb] at h; exact ih h
        | ct ρ2 => rw [hb] at h; exact ih h
        | _ => rfl
theorem oWhile_of {n : Nat} {ρ : Ev} (h : whN t b n ρ ≠ .stuck) : oWhile t b ρ = whN t b n ρ := by
  unfold oWhile
  have hx : ∃ n, whN t b n ρ ≠ .stuck := ⟨n, h⟩
  rw [dif_pos hx]
  have h2 := hx.choose_spec
  rcases Nat.le_total n hx.choose with z | z
  · obtain ⟨k, hk⟩ := Nat.le.dest z
    have w := whN_more (k := k) h
    rw [hk] at w
    exact w
  · obtain ⟨k, hk⟩ := Nat.le.dest z
    have w := whN_more (k := k) h2
    rw [hk] at w
    exact w.symm
theorem ms_while (hp : PassesOwn (model X.prog X.w) X.A X.env X.xe) (hc : PT X c (tMT X.K B W t)) (hb : PSs X body (tS X.K B W b)) : PS X (.While c body [] pos) (tS X.K B W (oWhile t b)) := by
  refine PS.imp (ps_while hp hc hb) fun Dn σ H ⟨G, ρ, e, q⟩ => ?_
  obtain ⟨n, q⟩ : ∃ n, SG X.K B W Dn (whN t b n ρ) := by
    unfold oWhile at q
    by_cases h : ∃ n, whN t b n ρ ≠ .stuck
    · rw [dif_pos h] at q
      exact ⟨_, q⟩
    · rw [dif_neg h] at q
      exact q.elim
  refine ⟨fun n σ H => ∃ G ρ, EnvOk X.K B G σ ρ H ∧ SG X.K B W Dn (whN t b n ρ), ⟨n, G, ρ, e, q⟩, ?_⟩
  rintro n σ2 H2 ⟨G2, ρ2, e2, q2⟩
  cases n with
  | zero => exact q2.elim
  | succ n =>
    refine ⟨G2, ρ2, e2, SG.of e2 (show SG X.K B W Dn (Out.of (t ρ2) ρ2 _) from q2) fun k G3 v H3 _ g3 e3 r q3 => ?_⟩
    have r' : v = k := r
    subst r'
    cases v with
    | false => exact q3 G3 σ2 H3 e3
    | true =>
      refine ⟨fun σ' H' => ∃ G ρ, EnvOk X.K B G σ' ρ H' ∧ SG X.K B W Dn (whN t b n ρ), fun σ' H' z => ⟨n, Nat.lt_succ_self _, z⟩, G3, ρ2, e3, ?_⟩
      simp only [if_true] at q3
      cases hb1 : b ρ2 with
      | nx ρ5 => rw [hb1] at q3; exact fun G' σ' H' e5 => ⟨G', ρ5, e5, q3⟩
      | ct ρ5 => rw [hb1] at q3; exact fun G' σ' H' e5 => ⟨G', ρ5, e5, q3⟩
      | bk ρ5 => rw [hb1] at q3; exact q3
      | rt d ρ5 => rw [hb1] at q3; exact q3
      | exc er ρ5 => rw [hb1] at q3; exact q3
      | stuck => rw [hb1] at q3; exact q3
end
end PL
namespace PL
open PySem PySem.Spec L2
open PyProof.Rows (b2i)
/-- an expression that makes a new list -/
def FG (K : PySem.W.Frag) (E : XK) (G H : Hp) (Q : VK) : Res (List D) → Prop
  | .ok ds => ∀ G' p vs H', Grow G H G' H' → H' p = some (.lst vs) → Reps K G' vs ds → G' p = none → H p = none → Q (.ref p) H'
  | .exc e => ∀ G' cls dx H', Grow G H G' H' → ErrOk K G' H' cls dx e → E cls dx H'
  | .stuck => False
def tF (K : PySem.W.Frag) (B : Base) (W : WX) (m : Ev → Res (List D)) : TE := fun σ H Q => ∃ G ρ, EnvOk K B G σ ρ H ∧ FG K (fun c d H' => W c d σ H') G H Q (m ρ)
theorem RG.fresh {K : PySem.W.Frag} {E : XK} {G H : Hp} {Q : VK} {ds : List D} {vs : List V} {G1 H1 : Hp} (g : Grow G H G1 H1) (h : FG K E G H Q (.ok ds)) (r : Reps K G1 vs ds) : ∀ p, H1 p = none → Q (.ref p) (upd H1 p (.lst vs)) := fun p hp =>
  h G1 p vs _ (g.trans (.side g.sub hp _)) upd_same r (g.sub.free hp) (g.h.free hp)
theorem RG.bindF {α β : Type} {R : Hp → β → α → Prop} {K : PySem.W.Frag} {E : XK} {G H : Hp} {Q : VK} {r : Res α} {f : α → Res (List D)} {P : β → Hp → Prop} (h : FG K E G H Q (r >>= f)) (k : ∀ a G1 v H1, Grow G H G1 H1 → R G1 v a → FG K E G H Q (f a) → P v H1) : RG R K E G H P r := by
  cases r with
  | ok a => exact fun G1 v H1 g r => k a G1 v H1 g r h
  | exc e => exact h
  | stuck => exact h
theorem FG.chk {K : PySem.W.Frag} {E : XK} {G H : Hp} {Q : VK} {p : Prop} [Decidable p] {r : Res (List D)} (h : FG K E G H Q (chk p r)) : p ∧ FG K E G H Q r := by
  unfold PL.chk at h
  by_cases z : p
  · rw [if_pos z] at h; exact ⟨z, h⟩
  · rw [if_neg z] at h; exact h.elim
def lstOf (m : Ev → Res (List D)) : Ev → Res D := fun ρ => m ρ >>= fun ds => .ok (.lst ds)
section
variable {X : Cx} {B : Base} {W : WX} {e a b : Expr} {m : Ev → Res (List D)} {ma mb : Ev → Res D} {pos : Pos}
/-- as data -/
theorem me_fresh (h : PE X e (tF X.K B W m)) : PE X e (tM X.K B W (lstOf m)) := PE.imp h fun σ H Q ⟨G, ρ, e, q⟩ => ⟨G, ρ, e, by
  unfold lstOf at q
  cases hm : m ρ with
  | ok ds =>
    rw [hm] at q
    intro G' p vs H' g hp r gp hn
    refine q (upd G' p (.lst vs)) _ H' ⟨g.g.trans (.upd gp), g.h, fun a o z => ?_, fun a o z => ?_⟩ (.lst (.inl upd_same) (r.mono (.upd gp)))
    · by_cases w : a = p
      · subst w; rw [upd_same] at z; cases z; exact hp
      · rw [upd_ne w] at z; exact g.sub _ _ z
    · by_cases w : a = p
      · subst w; exact .inr hn
      · rw [upd_ne w] at z; exact g.new _ _ z
  | exc x => rw [hm] at q; exact q
  | stuck => rw [hm] at q; exact q⟩
def fLst (ms : Ev → Res (List D)) : Ev → Res (List D) := fun ρ => ms ρ >>= fun ds => chk (ds.length ≤ sizeLine) (.ok ds)
theorem mf_lst {es : List Expr} {ms : Ev → Res (List D)} (h : PA X es (tMA X.K B W ms)) : PE X (.List es pos) (tF X.K B W (fLst ms)) :=
  PE.imp (pe_lst h) fun σ H Q ⟨G, ρ, e, q⟩ => ⟨G, ρ, e, RG.bindF q fun ds G1 vs H1 g r q1 => by
    obtain ⟨z, q1⟩ := FG.chk q1
    exact ⟨by rw [r.length]; exact z, RG.fresh g q1 r⟩⟩
theorem FG.grow {K : PySem.W.Frag} {E : XK} {G H G' H' : Hp} {Q : VK} {r : Res (List D)} (g : Grow G H G' H') (h : FG K E G H Q r) : FG K E G' H' Q r := by
  cases r with
  | ok ds => exact fun G2 p vs H2 g2 hp r gp hn => h G2 p vs H2 (g.trans g2) hp r gp (g.h.free hn)
  | exc e => exact fun G2 c d H2 g2 k => h G2 c d H2 (g.trans g2) k
  | stuck => exact h
def fOp (f : D → D → Res (List D)) (ma mb : Ev → Res D) : Ev → Res (List D) := fun ρ => ma ρ >>= fun a => mb ρ >>= fun b => f a b
theorem mf_op {op : Operator} {r : R2} {f : D → D → Res (List D)} (ho : OpR X (binaryOp op) r) (k : ∀ G H x y a b Q (E : XK), Ext G H → Rep X.K G x a → Rep X.K G y b → FG X.K E G H Q (f a b) → r x y H Q) (ha : PE X a (tM X.K B W ma)) (hb : PE X b (tM X.K B W mb)) :
    PE X (.BinOp a op b pos) (tF X.K B W (fOp f ma mb)) :=
  PE.imp (pe_op ho ha hb) fun σ H Q ⟨G, ρ, e, q⟩ => ⟨G, ρ, e, RG.bindF q fun d G1 v H1 g r q1 => ⟨G1, ρ, e.growN g, RG.bindF (FG.grow g q1) fun c G2 u H2 g2 r2 q2 =>
    k G2 H2 v u d c Q _ g2.sub (r.mono g2.g) r2 (FG.grow g2 q2)⟩⟩
/-- list * int -/
def repL : D → D → Res (List D)
  | .lst xs, .int k => chk (-(2 ^ 63) ≤ k ∧ k < 2 ^ 63 ∧ xs.length * k.toNat ≤ sizeLine) (.ok (List.replicate k.toNat xs).flatten)
  | _, _ => .stuck
theorem mf_rep (ha : PE X a (tM X.K B W ma)) (hb : PE X b (tM X.K B W mb)) : PE X (.BinOp a .Mult b pos) (tF X.K B W (fOp repL ma mb)) :=
  mf_op op_repR (fun G H x y a b Q E s ra rb h => by
    cases ra with
    | lst q t => cases rb with
      | int k =>
        obtain ⟨z, h⟩ := FG.chk h
        exact ⟨_, k, _, rfl, rfl, s.rd q, z.1, z.2.1, by rw [t.length]; exact z.2.2, RG.fresh (.refl s) h (t.flatten _)⟩
      | _ => exact h.elim
    | _ => cases rb <;> exact h.elim) ha hb
/-- list + list -/
def catL : D → D → Res (List D)
  | .lst xs, .lst ys => chk (xs.length + ys.length ≤ sizeLine) (.ok (xs ++ ys))
  | _, _ => .stuck
theorem mf_cat (ha : PE X a (tM X.K B W ma)) (hb : PE X b (tM X.K B W mb)) : PE X (.BinOp a .Add b pos) (tF X.K B W (fOp catL ma mb)) :=
  mf_op op_catR (fun G H x y a b Q E s ra rb h => by
    cases ra with
    | lst q t => cases rb with
      | lst q2 t2 =>
        obtain ⟨z, h⟩ := FG.chk h
        exact ⟨_, _, _, _, rfl, rfl, s.rd q, s.rd q2, by rw [t.length, t2.length]; exact z, RG.fresh (.refl s) h (t.append t2)⟩
      | _ => exact h.elim
    | _ => cases rb <;> exact h.elim) ha hb
/-- list(x) -/
def fList (ma : Ev → Res D) : Ev → Res (List D) := fun ρ => ma ρ >>= itD
theorem mf_list {p : Pos} (ha : PE X a (tM X.K B W ma)) (hg : Gl X "list") (hm : X.mg "list" = none) (hs : starEach [a] X.env = (false, eval a X.env) :: starEach [] X.env := by rfl) (hpl : (backTo pos (starEach [] X.env)).any (·.1) = false := by rfl) : PE X (.Call (.Name "list" p) [a] [] pos) (tF X.K B W (fList ma)) :=
  PE.imp (pe_callTy call_list_of hg hm (by kernel_rfl) (pa_cons ha pa_nil hs) (by decide) (by decide) hs hpl) fun σ H Q ⟨G, ρ, e, q⟩ => ⟨G, ρ, e, RG.bindF q fun d G1 v H1 g r q1 => by
    cases r with
    | lst s t => exact ⟨_, _, rfl, .inl (.inl (g.sub.rd s)), RG.fresh g q1 t⟩
    | tup s t => exact ⟨_, _, rfl, .inr (g.sub.sqt s), RG.fresh g q1 t⟩
    | _ => exact q1.elim⟩
/-- x[a:b] of a list -/
def fSl (m : Ev → Res D) (l h : Ev → Res (Option Int)) : Ev → Res (List D) := fun ρ => m ρ >>= fun d => l ρ >>= fun a => h ρ >>= fun b => match d with
  | .lst xs => .ok (cutL xs a b)
  | _ => .stuck
/-- name = a new list -/
def oSetF (i : Nat) (m : Ev → Res (List D)) : Ev → Out := fun ρ => Out.of (m ρ) ρ fun ds => .nx (ρ.set i (.own ds))
theorem setF {K : PySem.W.Frag} {G H : Hp} {σ : St} {ρ : Ev} {Dn : Ends} {i : Nat} (e : EnvOk K B G σ ρ H) (q : SG K B W Dn (oSetF i m ρ)) : FG K (fun c d H' => W c d σ H') G H (fun v H1 => Dn.nx (σ.set i (some v)) H1) (m ρ) := by
  unfold oSetF at q
  cases hm : m ρ with
  | ok ds =>
    rw [hm] at q
    intro G' p vs H' g hp r gp hn
    have e1 := e.growN g
    have q' : SG K B W Dn (.nx (ρ.set i (.own ds))) := q
    exact q' G' _ H' (e1.setMine i ⟨p, vs, rfl, hp, r, gp, e.grow.h.free hn⟩ fun a fa j t _ ht ft => by
      have ea : a = p := fa
      subst ea
      exact e.noMine hn j t ht (foot_grow (e.slot j t ht) g.h ft))
  | exc x =>
    rw [hm] at q
    exact fun G1 c d H1 g k => q G1 σ H1 c d (e.growN g) k
  | stuck => rw [hm] at q; exact q
theorem ms_setF (i : Nat) {x : Str} {p' : Pos} (he : PE X e (tF X.K B W m)) (hN : X.N.Nodup := by decide) (hi : X.N[i]? = some x := by rfl) (hx : Loc X.env.scope x := by first | exact .inl rfl | exact .inr rfl) (hs : swapsWith e (some (.Name x p')) pos.line X.env = pure false := by rfl)
    (hf : X.fn x = true ∨ X.env.scope.names.lookup x = some .local := by first | exact .inl rfl | exact .inr rfl) : PS X (.Assign [.Name x p'] e pos) (tS X.K B W (oSetF i m)) :=
  PS.imp (ps_set hN hi hx he hs hf) fun Dn σ H ⟨G, ρ, e, q⟩ => ⟨G, ρ, e, setF e q⟩
theorem own_at {K : PySem.W.Frag} {G H : Hp} {σ : St} {ρ : Ev} {i : Nat} {xs : List D} (e : EnvOk K B G σ ρ H) (hs : ρ[i]? = some (.own xs)) : ∃ l vs, σ[i]? = some (some (.ref l)) ∧ H l = some (.lst vs) ∧ Reps K G vs xs ∧ G l = none ∧ B.H l = none := e.slot i _ hs
theorem own_put {K : PySem.W.Frag} {G H : Hp} {σ : St} {ρ : Ev} {i : Nat} {xs ys : List D} {l : Addr} {us : List V} (e : EnvOk K B G σ ρ H) (hs : ρ[i]? = some (.own xs)) (hv : σ[i]? = some (some (.ref l))) (gl : G l = none) (bl : B.H l = none) (r : Reps K G us ys) :
    EnvOk K B G σ (ρ.set i (.own ys)) (upd H l (.lst us)) := e.change hs (by rw [hv]; exact rfl) (by rw [hv]; exact ⟨l, us, rfl, upd_same, r, gl, bl⟩) fun b f => .inl (by rw [hv] at f ⊢; exact f)
def ownOf (ρ : Ev) (i : Nat) : Option (List D) := match ρ[i]? with
  | some (.own xs) => some xs
  | _ => none
theorem ownOf_some {ρ : Ev} {i : Nat} {xs : List D} (h : ownOf ρ i = some xs) : ρ[i]? = some (.own xs) := by
  unfold ownOf at h
  split at h
  · rename_i ys hs
    cases h
    exact hs
  · cases h
def oOwn (i : Nat) (f : List D → Ev → Out) : Ev → Out := fun ρ => match ownOf ρ i with
  | some xs => f xs ρ
  | none => .stuck
theorem SG.own {K : PySem.W.Frag} {Dn : Ends} {i : Nat} {f : List D → Ev → Out} {ρ : Ev} (h : SG K B W Dn (oOwn i f ρ)) : ∃ xs, ρ[i]? = some (.own xs) ∧ SG K B W Dn (f xs ρ) := by
  unfold oOwn at h
  cases ho : ownOf ρ i with
  | none => rw [ho] at h; exact h.elim
  | some xs => rw [ho] at h; exact ⟨xs, ownOf_some ho, h⟩
def oChk (p : Prop) [Decidable p] (o : Out) : Out := if p then o else .stuck
theorem SG.chk {K : PySem.W.Frag} {Dn : Ends} {p : Prop} [Decidable p] {o : Out} (h : SG K B W Dn (oChk p o)) : p ∧ SG K B W Dn o := by
  unfold oChk at h
  by_cases z : p
  · rw [if_pos z] at h; exact ⟨z, h⟩
  · rw [if_neg z] at h; exact h.elim
/-- x.append(e) -/
def oApp (i : Nat) (m : Ev → Res D) : Ev → Out := oOwn i fun xs ρ => Out.of (m ρ) ρ fun d => oChk (xs.length < sizeLine) (.nx (ρ.set i (.own (xs ++ [d]))))
theorem ms_app (i : Nat) {x : Str} {p1 p2 p3 : Pos} (he : PE X e (tM X.K B W ma)) (hN : X.N[i]? = some x := by rfl) (hv : Vis X.env.scope x := by first | exact Or.inl rfl | exact Or.inr (Or.inl rfl) | exact Or.inr (Or.inr rfl)) (hd : (x == ("__debug__" : Str)) = false := by decide) (hcd : (x == ("__classdict__" : Str)) = false := by decide)
    (hbase : attributeBase (.Name x p1) "append" X.env (eval (.Name x p1) X.env) = eval (.Name x p1) X.env := by rfl)
    (hfew : ((backTo p3 (starEach [e] X.env)).all (fun x => !x.1) && (backToKw p3 (keywordEach [] X.env)).all (fun x => x.1.isSome) && decide (([e] : List Expr).length + ([] : List Keyword).length + (if ([] : List Keyword).isEmpty then 0 else 1) < 30)) = true := by rfl)
    (hline : (p2.endLine == p3.line) = true := by rfl) (hs : starEach [e] X.env = (false, eval e X.env) :: starEach [] X.env := by rfl) (hplain : (backTo p3 (starEach [] X.env)).any (·.1) = false := by rfl)
    (hsw : swapsWith (.Call (.Attribute (.Name x p1) "append" p2) [e] [] p3) none pos.line X.env = pure false := by rfl) :
    PS X (.Expr (.Call (.Attribute (.Name x p1) "append" p2) [e] [] p3) pos) (tS X.K B W (oApp i ma)) :=
  PS.imp (ps_expr (pe_bm PySem.F.plainAttrs_list PySem.F.slot_list_append PySem.F.type_list_append mt_append (pe_var (i := i) hN hv hd hcd) (pa_cons he pa_nil hs) hbase hfew hline hs hplain) hsw) fun Dn σ H ⟨G, ρ, e, q⟩ => by
    obtain ⟨xs, hx, q⟩ := SG.own q
    obtain ⟨l, vs, hv, hl, r, gl, bl⟩ := own_at e hx
    refine ⟨_, hv, .inl ⟨rfl, vs, .of hl⟩, G, ρ, e, SG.of e q fun d G1 v H1 _ g e1 rv q1 => ?_⟩
    obtain ⟨z, q1⟩ := SG.chk q1
    obtain ⟨k1, k2⟩ := g.keeps hl gl
    have r1 := r.mono g.g
    exact ⟨l, vs, v, rfl, rfl, k1, by rw [r.length]; exact z, q1 G1 σ _ (own_put e1 hx hv k2 bl (r1.append (.cons rv .nil)))⟩
/-- x.reverse() -/
def oRev (i : Nat) : Ev → Out := oOwn i fun xs ρ => .nx (ρ.set i (.own xs.reverse))
theorem ms_rev (i : Nat) {x : Str} {p1 p2 p3 : Pos} (hN : X.N[i]? = some x := by rfl) (hv : Vis X.env.scope x := by first | exact Or.inl rfl | exact Or.inr (Or.inl rfl) | exact Or.inr (Or.inr rfl)) (hd : (x == ("__debug__" : Str)) = false := by decide) (hcd : (x == ("__classdict__" : Str)) = false := by decide)
    (hbase : attributeBase (.Name x p1) "reverse" X.env (eval (.Name x p1) X.env) = eval (.Name x p1) X.env := by rfl) (hline : (p2.endLine == p3.line) = true := by rfl)
    (hsw : swapsWith (.Call (.Attribute (.Name x p1) "reverse" p2) [] [] p3) none pos.line X.env = pure false := by rfl) :
    PS X (.Expr (.Call (.Attribute (.Name x p1) "reverse" p2) [] [] p3) pos) (tS X.K B W (oRev i)) :=
  PS.imp (ps_expr (pe_bm0 PySem.F.plainAttrs_list PySem.F.slot_list_reverse PySem.F.type_list_reverse mt_reverse (pe_var (i := i) hN hv hd hcd) hbase hline) hsw) fun Dn σ H ⟨G, ρ, e, q⟩ => by
    obtain ⟨xs, hx, q⟩ := SG.own q
    obtain ⟨l, vs, hv, hl, r, gl, bl⟩ := own_at e hx
    exact ⟨_, hv, .inl ⟨rfl, vs, .of hl⟩, l, vs, rfl, rfl, hl, q G σ _ (own_put e hx hv gl bl r.reverse)⟩
/-- x[k] = e -/
def ixSet (xs : List D) (d : D) (i : Nat) : D → Ev → Out
  | .int k, ρ => match ixN xs.length k with
    | some j => .nx (ρ.set i (.own (xs.set j d)))
    | none => .stuck
  | _, _ => .stuck
def oSetIx (i : Nat) (mk m : Ev → Res D) : Ev → Out := oOwn i fun xs ρ => Out.of (m ρ) ρ fun d => Out.of (mk ρ) ρ fun k => ixSet xs d i k ρ
theorem ms_setIx (i : Nat) {x : Str} {k : Expr} {p1 p2 : Pos} {mk : Ev → Res D} (he : PE X e (tM X.K B W ma)) (hk : PE X k (tM X.K B W mk)) (hN : X.N[i]? = some x := by rfl) (hv : Vis X.env.scope x := by first | exact Or.inl rfl | exact Or.inr (Or.inl rfl) | exact Or.inr (Or.inr rfl)) (hd : (x == ("__debug__" : Str)) = false := by decide) (hcd : (x == ("__classdict__" : Str)) = false := by decide)
    (ha : ∀ v, assign (.Subscript (.Name x p1) k p2) X.env v = (do
      let ov ← holding [v] (eval (.Name x p1) X.env)
      let iv ← holding [v, ov] (eval k X.env)
      standAt p2
      holding [v, ov, iv] (setItem ov iv v)
      release [v, ov, iv] []) := by intro _; rfl)
    (hs : swapsWithSole [.Subscript (.Name x p1) k p2] e pos.line X.env = pure false := by rfl) (hw : swappedStores [.Subscript (.Name x p1) k p2] e X.env = pure none := by rfl)
    (h1 : (assignEach [.Subscript (.Name x p1) k p2] X.env).map (·.2) = [assign (.Subscript (.Name x p1) k p2) X.env] := by rfl) :
    PS X (.Assign [.Subscript (.Name x p1) k p2] e pos) (tS X.K B W (oSetIx i mk ma)) :=
  PS.imp (ps_asg he (pg_sub (pe_var (i := i) hN hv hd hcd) hk set_list ha) hs hw h1) fun Dn σ H ⟨G, ρ, e, q⟩ => by
    obtain ⟨xs, hx, q⟩ := SG.own q
    refine ⟨G, ρ, e, SG.of e q fun d G1 v H1 _ g e1 rv q1 => ?_⟩
    obtain ⟨l, vs, hv, hl, r, gl, bl⟩ := own_at e1 hx
    refine ⟨_, hv, G1, ρ, e1, SG.of e1 q1 fun kk G2 w H2 _ g2 e2 rw' q2 => ?_⟩
    obtain ⟨k1, k2⟩ := g2.keeps hl gl
    cases rw' with
    | int n =>
      have q3 : SG X.K B W Dn (match ixN xs.length n with
        | some j => .nx (ρ.set i (.own (xs.set j d)))
        | none => .stuck) := q2
      cases hj : ixN xs.length n with
      | none => rw [hj] at q3; exact q3.elim
      | some j =>
        rw [hj] at q3
        exact ⟨l, vs, n, j, rfl, rfl, k1, by rw [r.length]; exact hj, q3 G2 σ _ (own_put e2 hx hv k2 bl ((r.mono g2.g).set (rv.mono g2.g) j))⟩
    | _ => exact q2.elim
def flatFs (fs : List (Nm × D)) : Bool := fs.all fun p => isFlatV p.2
theorem flat_rep {K : PySem.W.Frag} {G G' : Hp} {v : V} {d : D} (r : Rep K G v d) (f : isFlatV d = true) : Rep K G' v d := by
  cases r with
  | non => exact .non
  | bl b => exact .bl b
  | int b => exact .int b
  | str b => exact .str b
  | _ => cases f
theorem flat_repF {K : PySem.W.Frag} {G G' : Hp} : ∀ {fv : List (Str × V)} {fs : List (Nm × D)}, RepF K G fv fs → flatFs fs = true → RepF K G' fv fs
  | _, _, .nil, _ => .nil
  | _, _, .cons r t, f => by
    unfold flatFs at f
    rw [List.all_cons, Bool.and_eq_true] at f
    exact .cons (flat_rep r f.1) (flat_repF t f.2)
def frzAll (is : List Nat) (ρ : Ev) : Ev := is.foldl (fun ρ i => freeze i ρ) ρ
theorem EnvOk.frzAll {K : PySem.W.Frag} {H : Hp} {σ : St} : ∀ (is : List Nat) {ρ : Ev} {G : Hp}, EnvOk K B G σ ρ H → ∃ G', EnvOk K B G' σ (frzAll is ρ) H ∧ Ext G G'
  | [], _, G, e => ⟨G, e, .refl⟩
  | i :: is, ρ, G, e => by
    obtain ⟨G1, e1, x1⟩ := e.freeze i
    obtain ⟨G2, e2, x2⟩ := EnvOk.frzAll is e1
    exact ⟨G2, e2, x1.trans x2⟩
def peekD : Res D → Res D
  | .ok d => chk (isFlatV d = true) (.ok d)
  | .exc e => chk (flatFs e.fs = true) (.exc e)
  | .stuck => .stuck
def peekT : Res Bool → Res Bool
  | .ok d => .ok d
  | .exc e => chk (flatFs e.fs = true) (.exc e)
  | .stuck => .stuck
def mPeek (is : List Nat) (m : Ev → Res D) : Ev → Res D := fun ρ => peekD (m (frzAll is ρ))
def mtPeek (is : List Nat) (m : Ev → Res Bool) : Ev → Res Bool := fun ρ => peekT (m (frzAll is ρ))
theorem grow_back {G0 G H G' H' : Hp} (s : Ext G0 G) (g : Grow G H G' H') : Grow G0 H G0 H' := ⟨.refl, g.h, s.trans (g.g.trans g.sub), fun _ _ q => .inl q⟩
theorem err_flat {K : PySem.W.Frag} {G G' H : Hp} {c : Value} {d : Option Addr} {er : Err} (k : ErrOk K G H c d er) (f : flatFs er.fs = true) : ErrOk K G' H c d er := by
  obtain ⟨k1, k2, k3⟩ := k
  refine ⟨k1, k2, ?_⟩
  rcases k3 with k3 | ⟨dx, fv, e1, e2, r⟩
  · exact .inl k3
  · exact .inr ⟨dx, fv, e1, e2, flat_repF r f⟩
theorem me_peek (is : List Nat) (h : PE X e (tM X.K B W ma)) : PE X e (tM X.K B W (mPeek is ma)) := PE.imp h fun σ H Q ⟨G, ρ, e0, q⟩ => by
  obtain ⟨G', e1, x⟩ := EnvOk.frzAll is e0
  refine ⟨G', _, e1, ?_⟩
  unfold mPeek at q
  cases hm : ma (frzAll is ρ) with
  | ok d =>
    rw [hm] at q
    obtain ⟨f, q⟩ := RG.chk (show RG (Rep X.K) X.K _ G H Q (chk (isFlatV d = true) (.ok d)) from q)
    exact fun G2 v H2 g r => q G v H2 (grow_back x g) (flat_rep r f)
  | exc er =>
    rw [hm] at q
    obtain ⟨f, q⟩ := RG.chk (show RG (Rep X.K) X.K _ G H Q (chk (flatFs er.fs = true) (.exc er)) from q)
    exact fun G2 c d H2 g k => q G c d H2 (grow_back x g) (err_flat k f)
  | stuck => rw [hm] at q; exact q
theorem mt_peek (is : List Nat) {t : Ev → Res Bool} (h : PT X e (tMT X.K B W t)) : PT X e (tMT X.K B W (mtPeek is t)) := PT.imp h fun σ H Q ⟨G, ρ, e0, q⟩ => by
  obtain ⟨G', e1, x⟩ := EnvOk.frzAll is e0
  refine ⟨G', _, e1, ?_⟩
  unfold mtPeek at q
  cases hm : t (frzAll is ρ) with
  | ok d =>
    rw [hm] at q
    exact fun G2 v H2 g r => q G v H2 (grow_back x g) r
  | exc er =>
    rw [hm] at q
    obtain ⟨f, q⟩ := RG.chk (show RG (fun _ b c => b = c) X.K _ G H Q (chk (flatFs er.fs = true) (.exc er)) from q)
    exact fun G2 c d H2 g k => q G c d H2 (grow_back x g) (err_flat k f)
  | stuck => rw [hm] at q; exact q
/-- x[k] of an own list: the item itself -/
def ownIx (xs : List D) : D → Res D
  | .int k => ofOpt (atI xs k)
  | _ => .stuck
def mOwnIx (i : Nat) (mk : Ev → Res D) : Ev → Res D := fun ρ => match ownOf ρ i with
  | some xs => mk ρ >>= ownIx xs
  | none => .stuck
theorem me_ownIx (i : Nat) {x : Str} {k : Expr} {p1 : Pos} {mk : Ev → Res D} (hk : PE X k (tM X.K B W mk)) (hN : X.N[i]? = some x := by rfl) (hv : Vis X.env.scope x := by first | exact Or.inl rfl | exact Or.inr (Or.inl rfl) | exact Or.inr (Or.inr rfl)) (hd : (x == ("__debug__" : Str)) = false := by decide) (hcd : (x == ("__classdict__" : Str)) = false := by decide)
    (hs : PlainIx k := by intro _ _; rfl) : PE X (.Subscript (.Name x p1) k pos) (tM X.K B W (mOwnIx i mk)) :=
  PE.imp (pe_ix ix_seq (pe_var (i := i) hN hv hd hcd) hk hs) fun σ H Q ⟨G, ρ, e, q⟩ => by
    unfold mOwnIx at q
    cases ho : ownOf ρ i with
    | none => rw [ho] at q; exact q.elim
    | some xs =>
      rw [ho] at q
      obtain ⟨l, vs, hv, hl, r, gl, bl⟩ := own_at e (ownOf_some ho)
      refine ⟨_, hv, G, ρ, e, RG.bind q fun d G1 v H1 g rv q1 => ?_⟩
      cases rv with
      | int n =>
        obtain ⟨d, hd, q1⟩ := RG.opt q1
        obtain ⟨w, e1, r1⟩ := (r.mono g.g).atI hd
        exact .inl ⟨l, vs, n, w, rfl, rfl, .of (g.keeps hl gl).1, e1, RG.here g.sub q1 r1⟩
      | _ => exact q1.elim
/-- list(x), tuple(x) of an own list -/
def fOwn (i : Nat) : Ev → Res (List D) := fun ρ => ofOpt (ownOf ρ i)
theorem mf_listOwn (i : Nat) {x : Str} {p p1 : Pos} (hg : Gl X "list") (hm : X.mg "list" = none) (hN : X.N[i]? = some x := by rfl) (hv : Vis X.env.scope x := by first | exact Or.inl rfl | exact Or.inr (Or.inl rfl) | exact Or.inr (Or.inr rfl)) (hd : (x == ("__debug__" : Str)) = false := by decide) (hcd : (x == ("__classdict__" : Str)) = false := by decide)
    (hs : starEach [.Name x p1] X.env = (false, eval (.Name x p1) X.env) :: starEach [] X.env := by rfl) (hpl : (backTo pos (starEach [] X.env)).any (·.1) = false := by rfl) : PE X (.Call (.Name "list" p) [.Name x p1] [] pos) (tF X.K B W (fOwn i)) :=
  PE.imp (pe_callTy call_list_of hg hm (by kernel_rfl) (pa_cons (pe_var (i := i) hN hv hd hcd) pa_nil hs) (by decide) (by decide) hs hpl) fun σ H Q ⟨G, ρ, e, q⟩ => by
    unfold fOwn at q
    cases ho : ownOf ρ i with
    | none => rw [ho] at q; exact q.elim
    | some xs =>
      rw [ho] at q
      obtain ⟨l, vs, hv, hl, r, gl, bl⟩ := own_at e (ownOf_some ho)
      exact ⟨_, hv, l, vs, rfl, .inl (.of hl), RG.fresh (.refl e.sub) q r⟩
def mOwnT (i : Nat) : Ev → Res D := fun ρ => ofOpt (ownOf ρ i) >>= fun xs => .ok (.tup xs)
theorem me_tupOwn (i : Nat) {x : Str} {p p1 : Pos} (hg : Gl X "tuple") (hm : X.mg "tuple" = none) (hN : X.N[i]? = some x := by rfl) (hv : Vis X.env.scope x := by first | exact Or.inl rfl | exact Or.inr (Or.inl rfl) | exact Or.inr (Or.inr rfl)) (hd : (x == ("__debug__" : Str)) = false := by decide) (hcd : (x == ("__classdict__" : Str)) = false := by decide)
    (hs : starEach [.Name x p1] X.env = (false, eval (.Name x p1) X.env) :: starEach [] X.env := by rfl) (hpl : (backTo pos (starEach [] X.env)).any (·.1) = false := by rfl) : PE X (.Call (.Name "tuple" p) [.Name x p1] [] pos) (tM X.K B W (mOwnT i)) :=
  PE.imp (pe_callTy call_tuple_of hg hm (by kernel_rfl) (pa_cons (pe_var (i := i) hN hv hd hcd) pa_nil hs) (by decide) (by decide) hs hpl) fun σ H Q ⟨G, ρ, e, q⟩ => by
    unfold mOwnT at q
    cases ho : ownOf ρ i with
    | none => rw [ho] at q; exact q.elim
    | some xs =>
      rw [ho] at q
      obtain ⟨l, vs, hv, hl, r, gl, bl⟩ := own_at e (ownOf_some ho)
      exact ⟨_, hv, l, vs, rfl, .inl ⟨.of hl, RG.newT e.sub q r⟩⟩
end
def lcGo (f : D → Ev → Option Ev) (t : Ev → Res Bool) (m : Ev → Res D) (ρ : Ev) : List D → Res (List D)
  | [] => .ok []
  | d :: ds => match f d ρ with
    | none => .stuck
    | some ρ1 => t ρ1 >>= fun k => if k = true then m ρ1 >>= fun y => lcGo f t m ρ ds >>= fun ys => .ok (y :: ys) else lcGo f t m ρ ds
def mYes : Ev → Res Bool := fun _ => .ok true
/-- the names of the comprehension's own, forgotten -/
def wipeE (ρ : Ev) : List Nat → Ev
  | [] => ρ
  | v :: vs => (wipeE ρ vs).set v .no
def fLc (vs : List Nat) (mi : Ev → Res (List D)) (f : D → Ev → Option Ev) (t : Ev → Res Bool) (m : Ev → Res D) : Ev → Res (List D) := fun ρ => mi ρ >>= fun ds => noX (lcGo f t m (wipeE ρ vs) ds) >>= fun ys => chk (ys.length ≤ sizeLine) (.ok ys)
def noW : WX := fun _ _ _ _ => False
theorem PTs.imp {X : Cx} {ifs : List Expr} {t t' : TT} (h : PTs X ifs t) (k : ∀ σ H Q, t' σ H Q → t σ H Q) : PTs X ifs t' := ⟨fun pins s σ H Q I q => h.run pins s σ H Q I (k σ H Q q)⟩
section
variable {X : Cx} {B : Base} {W : WX} {pos : Pos}
theorem mts_nil : PTs X [] (tMT X.K B W mYes) := PTs.imp pts_nil fun σ H Q ⟨G, ρ, e, q⟩ => q G _ H (.refl e.sub) rfl
theorem mts_one {c : Expr} {t : Ev → Res Bool} (h : PT X c (tMT X.K B W t)) : PTs X [c] (tMT X.K B W t) := pts_one h
theorem wipe_get {σ : St} : ∀ {vs : List Nat} {j : Nat}, j ∉ vs → (wipe σ vs)[j]? = σ[j]?
  | [], _, _ => rfl
  | v :: vs, j, h => by
    have hv : v ≠ j := fun z => h (by rw [z]; exact List.mem_cons_self)
    show ((wipe σ vs).set v none)[j]? = _
    rw [List.getElem?_set_ne hv]
    exact wipe_get fun z => h (List.mem_cons_of_mem _ z)
theorem wipe_in {σ : St} : ∀ {vs : List Nat} {j : Nat}, j ∈ vs → j < σ.length → (wipe σ vs)[j]? = some none
  | v :: vs, j, h, hl => by
    show ((wipe σ vs).set v none)[j]? = _
    by_cases z : v = j
    · subst z
      rw [List.getElem?_set_self (by rw [wipe_length]; exact hl)]
    · rw [List.getElem?_set_ne z]
      rcases List.mem_cons.mp h with w | w
      · exact absurd w.symm z
      · exact wipe_in w hl
theorem wipe_agree {σ σ2 : St} {vs : List Nat} (hl : σ2.length = σ.length) (h : ∀ j, j ∉ vs → σ2[j]? = σ[j]?) : wipe σ2 vs = wipe σ vs := by
  refine List.ext_getElem? fun j => ?_
  by_cases z : j ∈ vs
  · by_cases w : j < σ.length
    · rw [wipe_in z w, wipe_in z (by rw [hl]; exact w)]
    · rw [List.getElem?_eq_none (by rw [wipe_length]; omega), List.getElem?_eq_none (by rw [wipe_length]; omega)]
  · rw [wipe_get z, wipe_get z]
    exact h j z
theorem EnvOk.wipe {K : PySem.W.Frag} {G H : Hp} {σ : St} {ρ : Ev} (e : EnvOk K B G σ ρ H) : ∀ vs : List Nat, EnvOk K B G (L2.wipe σ vs) (wipeE ρ vs) H
  | [] => e
  | v :: vs => (EnvOk.wipe e vs).forgetSt v none
/-- what a comprehension makes -/
theorem lc_main {K : PySem.W.Frag} {G H : Hp} {σ : St} {ρ : Ev} {Q : VK} {vs js : List Nat} {mi : Ev → Res (List D)} {f : D → Ev → Option Ev} {t : Ev → Res Bool} {m : Ev → Res D} (hj : ∀ j ∈ js, j ∈ vs) (e : EnvOk K B G σ ρ H) (q : FG K (fun c d H' => W c d σ H') G H Q (fLc vs mi f t m ρ)) :
    tLc (tG (ItOk K B.H) K B W mi) (gM K B js f) (tMT K B noW t) (tM K B noW m) vs σ H Q := by
  refine ⟨G, ρ, e, RG.bindF q fun ds G1 J H1 g r q1 => fun Dd hD => ?_⟩
  have e1 := (e.growN g).wipe vs
  obtain ⟨ys, hys, hz, q2⟩ : ∃ ys, lcGo f t m (wipeE ρ vs) ds = .ok ys ∧ ys.length ≤ sizeLine ∧ FG K (fun c d H' => W c d σ H') G H Q (.ok ys) := by
    have q3 : FG K (fun c d H' => W c d σ H') G H Q (noX (lcGo f t m (wipeE ρ vs) ds) >>= fun ys => chk (ys.length ≤ sizeLine) (.ok ys)) := q1
    cases hr : lcGo f t m (wipeE ρ vs) ds with
    | ok ys =>
      rw [hr] at q3
      obtain ⟨z, q3⟩ := FG.chk (show FG K _ G H Q (chk (ys.length ≤ sizeLine) (.ok ys)) from q3)
      exact ⟨ys, rfl, z, q3⟩
    | exc x => rw [hr] at q3; exact q3.elim
    | stuck => rw [hr] at q3; exact q3.elim
  refine ⟨fun i k H' => k = ds.length - i ∧ i ≤ ds.length ∧ ∃ G' acc accv rest, Grow G1 H1 G' H' ∧ H' Dd = some (.lst accv) ∧ Reps K G' accv acc ∧ G' Dd = none ∧ lcGo f t m (wipeE ρ vs) (ds.drop i) = .ok rest ∧ acc ++ rest = ys,
    ⟨ds.length, rfl, Nat.zero_le _, G1, [], [], ys, .side g.sub hD _, upd_same, .nil, g.sub.free hD, hys, rfl⟩, ?_⟩
  rintro i k H2 ⟨rfl, hl, G2, acc, accv, rest, g2, hD2, r2, gD, hgo, hap⟩
  obtain ⟨k1, k2⟩ := r i G2 H2 g2.g (e.grow.trans (g.trans g2)).h g2.sub
  by_cases hlt : i < ds.length
  · obtain ⟨go, yl⟩ := k2 ds[i] (List.getElem?_eq_getElem hlt)
    rw [List.drop_eq_getElem_cons hlt] at hgo
    refine .inr ⟨go, fun H' => ∃ m', m' < ds.length - i ∧ m' = ds.length - (i + 1) ∧ i + 1 ≤ ds.length ∧ ∃ G' acc accv rest, Grow G1 H1 G' H' ∧ H' Dd = some (.lst accv) ∧ Reps K G' accv acc ∧ G' Dd = none ∧ lcGo f t m (wipeE ρ vs) (ds.drop (i + 1)) = .ok rest ∧ acc ++ rest = ys, fun H' z => z, fun x H3 y => ?_⟩
    obtain ⟨G3, g3, r3⟩ := yl x H3 y
    have hgo' : (match f ds[i] (wipeE ρ vs) with
      | none => Res.stuck
      | some ρ1 => t ρ1 >>= fun k => if k = true then m ρ1 >>= fun y => lcGo f t m (wipeE ρ vs) (ds.drop (i + 1)) >>= fun ys => .ok (y :: ys) else lcGo f t m (wipeE ρ vs) (ds.drop (i + 1))) = .ok rest := hgo
    cases hf : f ds[i] (wipeE ρ vs) with
    | none => rw [hf] at hgo'; cases hgo'
    | some ρ1 =>
      rw [hf] at hgo'
      dsimp only at hgo'
      have g13 := g2.trans g3
      refine ⟨G3, ds[i], _, ρ1, e1.growN g13, r3, hf, fun σ2 e2 l2 o2 => ⟨?_, G3, ρ1, e2, ?_⟩⟩
      · refine (wipe_agree ?_ fun j hjv => ?_)
        · rw [l2, wipe_length]
        · rw [o2 j fun z => hjv (hj j z), wipe_get hjv]
      · cases ht : t ρ1 with
        | exc x => rw [ht] at hgo'; cases hgo'
        | stuck => rw [ht] at hgo'; cases hgo'
        | ok k =>
          rw [ht, ok_bind] at hgo'
          refine fun G4 v H4 g4 r4 => ?_
          have r4' : v = k := r4
          subst r4'
          cases v with
          | false =>
            simp only [Bool.false_eq_true, if_false] at hgo' ⊢
            have g14 := g13.trans g4
            obtain ⟨w1, w2⟩ := (g3.trans g4).keeps hD2 gD
            exact ⟨ds.length - (i + 1), by omega, rfl, hlt, G4, acc, accv, rest, g14, w1, r2.mono (g3.trans g4).g, w2, hgo', hap⟩
          | true =>
            simp only [if_true] at hgo' ⊢
            cases hm : m ρ1 with
            | exc x => rw [hm] at hgo'; cases hgo'
            | stuck => rw [hm] at hgo'; cases hgo'
            | ok y =>
              rw [hm, ok_bind] at hgo'
              cases hl2 : lcGo f t m (wipeE ρ vs) (ds.drop (i + 1)) with
              | exc x => rw [hl2] at hgo'; cases hgo'
              | stuck => rw [hl2] at hgo'; cases hgo'
              | ok rest' =>
                rw [hl2, ok_bind] at hgo'
                cases hgo'
                refine ⟨G4, ρ1, e2.growN g4, ?_⟩
                rw [hm]
                refine fun G5 v H5 g5 r5 => ?_
                have g25 := (g3.trans g4).trans g5
                obtain ⟨w1, w2⟩ := g25.keeps hD2 gD
                have hlen : acc.length < sizeLine := by
                  have := congrArg List.length hap
                  rw [List.length_append, List.length_cons] at this
                  omega
                refine ⟨accv, w1, by rw [r2.length]; exact hlen, ds.length - (i + 1), by omega, rfl, hlt, G5, acc ++ [y], accv ++ [v], rest', ?_, upd_same, (r2.mono g25.g).append (.cons r5 .nil), w2, rfl, by rw [List.append_assoc]; exact hap⟩
                have g15 := g2.trans g25
                exact ⟨g15.g, fun a o z => by rw [upd_ne (ne_of_none z hD)]; exact g15.h _ _ z, fun a o z => by rw [upd_ne (ne_of_none z w2)]; exact g15.sub _ _ z, g15.new⟩
  · have ei : i = ds.length := by omega
    subst ei
    rw [List.drop_length] at hgo
    cases hgo
    rw [List.append_nil] at hap
    subst hap
    exact .inl ⟨k1 (Nat.le_refl _), q2 G2 Dd accv H2 (g.trans g2) hD2 r2 gD (g.h.free hD)⟩
theorem mf_lc {elt tg iter : Expr} {ifs : List Expr} {scope : Scope} {own : List (Str × Nat)} {js : List Nat} {mi : Ev → Res (List D)} {f : D → Ev → Option Ev} {t : Ev → Res Bool} {m : Ev → Res D} (hc : X.calm = true) (ok : BlkOk X.N X.env.scope scope own) (hi : IP X B W tg iter mi)
    (hg : ∀ (s : Shared) (H : Hp) (C : Addr) (cl : List (Str × Addr)) (fp : List Addr), GP (X.blk s H scope (compEnvC scope cl C X.env) fp) B tg js f) (ht : ∀ (s : Shared) (H : Hp) (C : Addr) (cl : List (Str × Addr)) (fp : List Addr), PTs (X.blk s H scope (compEnvC scope cl C X.env) fp) ifs (tMT X.K B noW t))
    (he : ∀ (s : Shared) (H : Hp) (C : Addr) (cl : List (Str × Addr)) (fp : List Addr), PE (X.blk s H scope (compEnvC scope cl C X.env) fp) elt (tM X.K B noW m)) (hj : ∀ j ∈ js, j ∈ own.map (·.2) := by decide) (hN : X.N.Nodup := by decide) (hs : ∀ x, foldedSetIterable iter X.env x = pure x := by intro _; rfl) :
    PE X (.ListComp elt [⟨tg, iter, ifs, 0⟩] scope pos) (tF X.K B W (fLc (own.map (·.2)) mi f t m)) :=
  PE.imp (pe_lc hc hN hi ok hg ht he hs) fun σ H Q ⟨G, ρ, e, q⟩ => lc_main hj e q
/-- name = [e for x in xs], on one line -/
theorem ms_setLc (i : Nat) {y : Str} {py spos : Pos} {elt tg iter : Expr} {ifs : List Expr} {scope : Scope} {own : List (Str × Nat)} {js : List Nat} {mi : Ev → Res (List D)} {f : D → Ev → Option Ev} {t : Ev → Res Bool} {m : Ev → Res D} (hc : X.calm = true) (ok : BlkOk X.N X.env.scope scope own) (hi : IP X B W tg iter mi)
    (hg : ∀ (s : Shared) (H : Hp) (C : Addr) (cl : List (Str × Addr)) (fp : List Addr), GP (X.blk s H scope (compEnvC scope cl C X.env) fp) B tg js f) (ht : ∀ (s : Shared) (H : Hp) (C : Addr) (cl : List (Str × Addr)) (fp : List Addr), PTs (X.blk s H scope (compEnvC scope cl C X.env) fp) ifs (tMT X.K B noW t))
    (he : ∀ (s : Shared) (H : Hp) (C : Addr) (cl : List (Str × Addr)) (fp : List Addr), PE (X.blk s H scope (compEnvC scope cl C X.env) fp) elt (tM X.K B noW m)) (hsw : swapsWith (.ListComp elt [⟨tg, iter, ifs, 0⟩] scope pos) (some (.Name y py)) spos.line X.env = pure true) (hj : ∀ j ∈ js, j ∈ own.map (·.2) := by decide) (hN : X.N.Nodup := by decide)
    (hy : X.N[i]? = some y := by rfl) (hyl : X.env.scope.names.lookup y = some .local := by rfl) (hs : ∀ x, foldedSetIterable iter X.env x = pure x := by intro _; rfl) :
    PS X (.Assign [.Name y py] (.ListComp elt [⟨tg, iter, ifs, 0⟩] scope pos) spos) (tS X.K B W (oSetF i (fLc (own.map (·.2)) mi f t m))) :=
  PS.imp (L2.ps_setLc hc hN hy hyl hsw hi ok hg ht he hs) fun Dn σ H ⟨G, ρ, e, q⟩ => lc_main hj e (setF e q)
end
end PL
namespace PL
open PySem PySem.Spec
open PySem.Calls PyProof PyProof.Rows
open PySem.W (ksEnv ksFn kxs_mw ks_superIn codeIn clsIn findIn subIn mroIn typeIn keepIn nsIn hasDictIn)
abbrev veI : String := "ValueError.__init__"
section
variable {prog : Program} {w : World} {A : Around} {E : Value → Shared → Prop} {h : Heap} {g : Array GenState} {d : Drawn} {t : Nat} {os : OsState}
variable {nm q : Str} {C N : Addr} {bs bm : List Value} {hdct : Bool} {sn : List Str} {sub : List Value} {ab : Bool} {col : Option Bool} {dd : Option Addr} {k0 k1 k2 k3 k5 : Option Value}
/-- ValueError.__init__ bound to the object, called -/
theorem ve_bound {u e t0 : Addr} {us : List Value} {Q : Value → Shared → Prop}
    (hC : h.get? C = some (excClassObj nm q C N bs bm hdct sn sub ab col dd k0 k1 k2 k3 k5 "ValueError.__new__")) (he : h.get? e = some (PySem.HandSPX.excO C t0)) (hu : h.get? u = some (kxs_mw veI e)) (hz : us.length ≤ sizeLine)
    (fin : ∀ h' t1, (∀ b o, b ≠ e → h.get? b = some o → h'.get? b = some o) → h'.get? e = some (PySem.HandSPX.excO C t1) → Q .none ⟨h', g, d, t, os⟩) :
    wpAny (model prog w) A (call (.ref u) us) Q E ⟨h, g, d, t, os⟩ := by
  have FB := PySem.F.excBase_ValueError
  refine wpAny_call (codeAny_of_tree ?_)
  show wpAny _ A.in1 (callAny (.ref u) ⟨us, []⟩) _ _ _
  simp only [callAny]
  refine wpAny_bind (wpAny_load hu ?_)
  have y1 : (Value.type "method-wrapper" == Value.type "method" || Value.type "method-wrapper" == Value.type "builtin_function_or_method" || Value.type "method-wrapper" == Value.type "method-wrapper") = true := by decide
  simp only [kxs_mw, y1, if_true]
  refine PySem.W.KFB.if_so (by decide) ?_
  refine wpAny_bind (PySem.ESX.check_bound FB hC he rfl ?_)
  refine wpAny_bind (wpAny_pure (wpAny_pure ⟨PySem.plainId_quiet FB.init.plain _, codeAny_builtin FB.initEntry ?_⟩))
  exact PySem.W.exc_init_tree (t0 := t0) (cls := .ref C) (dv := none) (c2 := .none) (c3 := .none) (b4 := .bool false) he hz fun h' k e' _ => fin h' _ k e'
end
/-- the text of an __init__ as the written part holds it; file: the module's -/
structure XiT (prog : Program) (K : PySem.W.Frag) (C fI : Addr) (qual : Str) (params : Arguments) (body : List Stmt) (scope : Scope) : Prop where
  cls : ∃ nm q N bs bm sn sub ab col dd k0 k1 k2 k3 k5, K.lookup C = some (excClassObj nm q C N bs bm true sn sub ab col dd k0 k1 k2 k3 k5 "ValueError.__new__") ∧ PySem.HandSPX.refsVE bm = true
  fn : ∃ (oc : Value) (od : Option Addr) (doc pm : Value) (an : Option Addr) (ct : Value) (osl : Array (Option Value)) (cda cc : Addr),
    K.lookup fI = some ⟨oc, od, .func (ksFn "__init__" qual params body scope .none .none doc pm an (.ref cda) ct cc), osl⟩ ∧ codeIn K (.ref cda) qual = true ∧
    (∃ ccl cdd vs ccs file tf, K.lookup cda = some ⟨ccl, cdd, .fields vs, ccs⟩ ∧ vs[2]? = some (.str file tf) ∧ ((prog.main.file : Str) == file) = true) ∧ ∃ cl cld csl, K.lookup cc = some ⟨cl, cld, .cell (some (.ref C)), csl⟩
  sa : findIn K (.ref C) "__setattr__" = some (some (.builtin "object.__setattr__"))
  iC : findIn K (.ref C) "__init__" = some (some (.ref fI))
  tC : typeIn K (.ref fI) = some (.type "function")
  self : mroIn K C (.ref C) = some true
  ve : subIn K (.ref C) (.type "ValueError") = some true
  sup : ks_superIn K C C "__init__" = some (some (.builtin veI))
  opq : nsIn K PySem.cStatics "thirdparty.any" = some none
  top : (prog.main.scope.names.lookup ("super" : Str)).isSome = false
section
variable {prog : Program} {w : World} {A : Around} {E : Value → Shared → Prop} {R : Result → Shared → Prop} {s : Shared} {K : PySem.W.Frag} {C fI : Addr} {qual : Str} {params : Arguments} {body : List Stmt} {scope : Scope}
/-- what a call of __init__ has laid -/
theorem xi_enter (T : XiT prog K C fI qual params body scope) {us : List Value} {bd : List (Str × Value)} (X : K.In s.heap) (hlim : s.heap.NoLimit) (room : A.depth < recursionLimit)
    (hb : ∀ doc pm an cdv ct cc, bindArgs (ksFn "__init__" qual params body scope .none .none doc pm an cdv ct cc) ⟨us, []⟩ = pure bd) (hcell : ∀ x ∈ scope.names, x.2 ≠ .cell) (hloc : ∀ x ∈ bd, scope.names.lookup x.1 = some .local)
    (hco : scope.isCoroutine = false) (hgen : scope.isGenerator = false) (hk : scope.kind = .function)
    (go : ∀ (cda cc L : Addr) (h₀ : Heap) (tk : Nat), h₀.Ns L (fun x => bd.reverse.lookup x) → (∀ b o, s.heap.get? b = some o → h₀.get? b = some o) → L = s.heap.objs.size →
      (∃ ccl cdd vs ccs file tf, K.lookup cda = some ⟨ccl, cdd, .fields vs, ccs⟩ ∧ vs[2]? = some (.str file tf) ∧ ((prog.main.file : Str) == file) = true) → (∃ cl cld csl, K.lookup cc = some ⟨cl, cld, .cell (some (.ref C)), csl⟩) →
      (∃ oc od doc pm an ct osl, K.lookup fI = some ⟨oc, od, .func (ksFn "__init__" qual params body scope .none .none doc pm an (.ref cda) ct cc), osl⟩) →
      _root_.PySem.wpAt (model prog w) (A.deeper (ksEnv qual scope L fI (.ref cda) cc)) (.func body (ksEnv qual scope L fI (.ref cda) cc)) (execs body (ksEnv qual scope L fI (.ref cda) cc)) (fun f s' => R (.ok (.ret (match f with | .ret v => v | _ => .none))) s')
        (fun e s' => wpAny (model prog w) (A.deeper (ksEnv qual scope L fI (.ref cda) cc)) (leaving (ksEnv qual scope L fI (.ref cda) cc) e) (fun _ s'' => R (.error e) s'') (fun e' s'' => R (.error e') s'') s')
        { s with heap := h₀, toks := tk }) : codeAny (model prog w) A (.call (.ref fI) ⟨us, []⟩) R s := by
  obtain ⟨oc, od, doc, pm, an, ct, osl, cda, cc, ho, hcd, file, cell⟩ := T.fn
  exact PySem.ks_codeAny_call_defAt (fd := ksFn "__init__" qual params body scope .none .none doc pm an (.ref cda) ct cc) (body := body) (binds := bd) room (X _ _ ho) rfl hlim (PySem.W.codeRec_of X hcd) rfl (BindsTo.of_eq (hb ..)) hcell hloc
    (fun h₀ ns k => go cda cc s.heap.objs.size h₀ _ ns k rfl file cell ⟨oc, od, doc, pm, an, ct, osl, ho⟩) hco hgen hk
/-- super().__init__(e) -/
theorem xi_super {mg mb : Str → Option Value} {cda cc L x t0 : Addr} {m : Str → Option Value} {ar : Arg} {e : Expr} {p0 p1 p2 p3 p4 : Pos} {Q : Flow → Shared → Prop} (T : XiT prog K C fI qual params body scope) (X : K.In s.heap)
    (file : ∃ ccl cdd vs ccs file tf, K.lookup cda = some ⟨ccl, cdd, .fields vs, ccs⟩ ∧ vs[2]? = some (.str file tf) ∧ ((prog.main.file : Str) == file) = true) (cell : ∃ cl cld csl, K.lookup cc = some ⟨cl, cld, .cell (some (.ref C)), csl⟩)
    (hfn : ∃ oc od doc pm an ct osl, K.lookup fI = some ⟨oc, od, .func (ksFn "__init__" qual params body scope .none .none doc pm an (.ref cda) ct cc), osl⟩) (hg : s.heap.Ns mainGlobals mg) (hbl : s.heap.Ns builtinsNs mb) (nog : mg "super" = none) (bsup : mb "super" = some (.type "super"))
    (hns : s.heap.Ns L m) (hp : (params.posonlyargs ++ params.args).head? = some ar) (hv : m ar.arg = some (.ref x)) (hx : s.heap.get? x = some (PySem.HandSPX.excO C t0)) (hnx : K.lookup x = none)
    (hks : scope.names.lookup ("super" : Str) = some .globalImplicit) (hkc : scope.names.lookup ("__class__" : Str) = some .free) (hka : scope.names.lookup ar.arg = some .local) (hk : scope.kind = .function)
    (hsw : swapsWith (.Call (.Attribute (.Call (.Name "super" p0) [] [] p1) "__init__" p2) [e] [] p3) none p4.line (ksEnv qual scope L fI (.ref cda) cc) = pure false)
    (heq : ∃ pl, eval (.Call (.Attribute (.Call (.Name "super" p0) [] [] p1) "__init__" p2) [e] [] p3) (ksEnv qual scope L fI (.ref cda) cc) = (do
      let ov ← attributeBase (.Call (.Name "super" p0) [] [] p1) "__init__" (ksEnv qual scope L fI (.ref cda) cc) (eval (.Call (.Name "super" p0) [] [] p1) (ksEnv qual scope L fI (.ref cda) cc))
      standAt p2.atName
      let (f, first) ← holding [ov] (getMethod ov "__init__" pl)
      callWith p3 f first (backTo p3 (starEach [e] (ksEnv qual scope L fI (.ref cda) cc))) []))
    (hst : starEach [e] (ksEnv qual scope L fI (.ref cda) cc) = (false, eval e (ksEnv qual scope L fI (.ref cda) cc)) :: starEach [] (ksEnv qual scope L fI (.ref cda) cc)) (hpl : (backTo p3 (starEach [] (ksEnv qual scope L fI (.ref cda) cc))).any (·.1) = false)
    (he : ∀ (s1 : Shared) (Q : Value → Shared → Prop), s1.heap.Ns L m → (∀ v tk, Q v { s1 with toks := tk }) → wpAny (model prog w) A (eval e (ksEnv qual scope L fI (.ref cda) cc)) Q E s1)
    (go : ∀ h' tk t1, (∀ b o, b ≠ x → s.heap.get? b = some o → h'.get? b = some o) → h'.get? x = some (PySem.HandSPX.excO C t1) → Q .next { s with heap := h', toks := tk }) :
    _root_.PySem.wpAt (model prog w) A (.func body (ksEnv qual scope L fI (.ref cda) cc)) (exec (.Expr (.Call (.Attribute (.Call (.Name "super" p0) [] [] p1) "__init__" p2) [e] [] p3) p4) (ksEnv qual scope L fI (.ref cda) cc)) Q E s := by
  obtain ⟨ccl, cdd, vs, ccs, fl, tf, hcode, hvs, hfile⟩ := file
  obtain ⟨cl, cld, csl, hcell⟩ := cell
  obtain ⟨oc, od, doc, pm, an, ct, osl, ho⟩ := hfn
  obtain ⟨nm, q, N, bs, bm, sn, sub, ab, col, dd, k0, k1, k2, k3, k5, hC, hbm⟩ := T.cls
  obtain ⟨pl, heq⟩ := heq
  have hcl : clsIn K C = some { name := nm, bases := bs, mro := .ref C :: bm, ns := N, qualname := q, hasDict := true, slotNames := sn, subclasses := sub, abstract := ab, collection := col, hasDel := false } := by unfold PySem.W.clsIn; rw [hC] <;> rfl
  have hCx : x ≠ C := fun z => by rw [z, hC] at hnx; cases hnx
  obtain ⟨hh, g, d, t, os⟩ := s
  refine PySem.ks_wpAt_Expr_any ?_ (by simp [interactive, hk]) hsw
  refine PySem.ks_wpAt_MethodCall (pl := pl) ?_ heq
  refine PySem.ks_wpAt_super_base (env := ksEnv qual scope L fI (.ref cda) cc) hks hkc (by decide) rfl (X _ _ ho) rfl hp rfl (X _ _ hcode) rfl hvs hfile T.top ?_
  refine PySem.W.ks_loadName_global hk hks (loadGlobal_builtin (env := ksEnv qual scope L fI (.ref cda) cc) hg nog hbl bsup ⟨rfl, ?_⟩)
  refine wpAny_loadName_free hk hkc rfl ⟨_, X _ _ hcell, rfl⟩ ?_
  refine wpAny_loadName_local hk hka hns hv ?_
  refine PySem.ks_wpAny_isType_cls (X _ _ hC) rfl ⟨rfl, ?_⟩
  refine PySem.ks_wpAny_call_super (X _ _ hC) rfl hx rfl (fun c z => by cases z) (PySem.W.looks_mroIn X T.self) fun h1 hso k1 => ?_
  have X1 := X.keeps k1
  have hI : PySem.W.Looks (model prog w) h1 (isInstance (.ref x) (.type "ValueError")) true := (PySem.W.InstAt.type (ox := PySem.HandSPX.excO C t0) (C := C) (od := none) ⟨k1 _ _ hx, rfl, rfl, trivial⟩).andThen (PySem.W.looks_subIn X1 T.ve)
  have hs : PySem.W.alongIn K "__init__" (((.ref C :: bm).dropWhile (· != Value.ref C)).drop 1) = some (some (.builtin veI)) := by
    have z := T.sup
    unfold PySem.W.ks_superIn at z
    rw [hcl] at z
    exact z
  refine PySem.W.kxs_getMethod PySem.W.kxs_ValueError hso (PySem.W.looks_opaque X1 T.opq) (l₀ := .ref C :: bm) (fun A Q E s k q => wpAny_bind ((PySem.W.looks_clsIn X1 hcl) A _ E s k (wpAny_pure q))) rfl X1 hs hI hCx (by decide) ?_
  have hu : (h1.push (kxs_mw veI x)).get? h1.objs.size = some (kxs_mw veI x) := Heap.get?_push_at rfl rfl
  have k2 : ∀ b o, hh.get? b = some o → (h1.push (kxs_mw veI x)).get? b = some o := fun b o e => Heap.get?_push_of_some _ (k1 _ _ e)
  show wpAny _ _ (callWith p3 (Value.ref h1.objs.size) [] (backTo p3 (starEach [e] _)) []) _ _ _
  rw [hst]
  refine PySem.W.kxs_callWith (i := veI) (x := x) (by show (false || (backTo p3 (starEach [] _)).any (·.1)) = false; rw [hpl]; rfl) ?_
  refine evalArgs_plain (spliced_cons (he ⟨h1.push (kxs_mw veI x), g, d, t + 1, os⟩ _ (hns.keeps k2) fun v tk => spliced_nil ⟨hu, ?_⟩))
  refine ve_bound (t0 := t0) (us := [v]) (k2 _ _ (X _ _ hC)) (k2 _ _ hx) hu (by rw [sizeLine_eq]; exact (by decide : 1 ≤ 16777216)) fun h' t1 k3 e' => ?_
  exact go h' tk t1 (fun b o hb q => k3 b o hb (k2 b o q)) e'
/-- self.f = a, the first one -/
theorem xi_new {L x t0 : Addr} {env : Env} {m : Str → Option Value} {f a self : Str} {v : Value} {q1 q2 q3 q4 : Pos} {Q : Flow → Shared → Prop} (T : XiT prog K C fI qual params body scope) (X : K.In s.heap) (hns : s.heap.Ns L m) (hx : s.heap.get? x = some (PySem.HandSPX.excO C t0))
    (hL : env.locals = L) (hk : env.scope.kind = .function) (hf : findIn K (.ref C) f = some none) (ha : m a = some v) (hself : m self = some (.ref x)) (la : env.kindOf a = some .local) (lself : env.kindOf self = some .local)
    (da : (a == ("__debug__" : Str)) = false) (ds : (self == ("__debug__" : Str)) = false) (hsw : swapsWith (.Name a q3) (some (.Attribute (.Name self q1) f q2)) q4.line env = pure false)
    (go : ∀ h' tk dx, (∀ b o, b ≠ x → s.heap.get? b = some o → h'.get? b = some o) → h'.get? x = some ({ cls := .ref C, dict := some dx, data := .fields #[.ref t0, .none, .none, .none, .bool false, .none] } : Obj) → s.heap.objs.size ≤ dx → dx ≠ x → h'.Ns1 dx (fun y => if y = f then some v else none) → Q .next { s with heap := h', toks := tk }) :
    wpAny (model prog w) A (exec (.Assign [.Attribute (.Name self q1) f q2] (.Name a q3) q4) env) Q E s := by
  obtain ⟨nm, q, N, bs, bm, sn, sub, ab, col, dd, k0, k1, k2, k3, k5, hC, hbm⟩ := T.cls
  have hcl : clsIn K C = some { name := nm, bases := bs, mro := .ref C :: bm, ns := N, qualname := q, hasDict := true, slotNames := sn, subclasses := sub, abstract := ab, collection := col, hasDel := false } := by unfold PySem.W.clsIn; rw [hC] <;> rfl
  subst hL
  refine plainObj_wpAny_Assign_Attribute ?_ hsw
  refine wpAny_Name (wpAny_loadName_local hk la hns ha ?_) da
  refine wpAny_Name (wpAny_loadName_local hk lself hns hself ?_) ds
  obtain ⟨hh, g, d, t, os⟩ := s
  refine PySem.W.set_plain X (ox := PySem.HandSPX.excO C t0) (od := none) ⟨hx, rfl, rfl, trivial⟩ T.sa ?_
  exact PySem.HandSPX.exc_osa X hx hcl (show PySem.HandSPX.refsVE (.ref C :: bm) = true from hbm) rfl hf fun h' tk' dx k dn dne hx' hn => go h' tk' dx k hx' dn dne hn
/-- .. a further one -/
theorem xi_more {L x t0 dx : Addr} {env : Env} {m m0 : Str → Option Value} {nl : List Str} {f a self : Str} {v : Value} {q1 q2 q3 q4 : Pos} {Q : Flow → Shared → Prop} (T : XiT prog K C fI qual params body scope) (X : K.In s.heap) (hns : s.heap.Ns L m) (hx : s.heap.get? x = some ({ cls := .ref C, dict := some dx, data := .fields #[.ref t0, .none, .none, .none, .bool false, .none] } : Obj))
    (hd : s.heap.Ns1 dx m0) (hw : Within m0 nl) (hz : nl.length ≤ 1000)
    (hL : env.locals = L) (hk : env.scope.kind = .function) (hf : findIn K (.ref C) f = some none) (ha : m a = some v) (hself : m self = some (.ref x)) (la : env.kindOf a = some .local) (lself : env.kindOf self = some .local)
    (da : (a == ("__debug__" : Str)) = false) (ds : (self == ("__debug__" : Str)) = false) (hsw : swapsWith (.Name a q3) (some (.Attribute (.Name self q1) f q2)) q4.line env = pure false)
    (go : ∀ h' tk, (∀ b o, b ≠ dx → s.heap.get? b = some o → h'.get? b = some o) → h'.Ns1 dx (fun y => if y = f then some v else m0 y) → Q .next { s with heap := h', toks := tk }) :
    wpAny (model prog w) A (exec (.Assign [.Attribute (.Name self q1) f q2] (.Name a q3) q4) env) Q E s := by
  obtain ⟨nm, q, N, bs, bm, sn, sub, ab, col, dd, k0, k1, k2, k3, k5, hC, hbm⟩ := T.cls
  have hcl : clsIn K C = some { name := nm, bases := bs, mro := .ref C :: bm, ns := N, qualname := q, hasDict := true, slotNames := sn, subclasses := sub, abstract := ab, collection := col, hasDel := false } := by unfold PySem.W.clsIn; rw [hC] <;> rfl
  subst hL
  refine plainObj_wpAny_Assign_Attribute ?_ hsw
  refine wpAny_Name (wpAny_loadName_local hk la hns ha ?_) da
  refine wpAny_Name (wpAny_loadName_local hk lself hns hself ?_) ds
  obtain ⟨hh, g, d, t, os⟩ := s
  obtain ⟨oD, _, _, hoD, _, _⟩ := hd.count hw
  refine PySem.W.set_plain X (ox := { cls := .ref C, dict := some dx, data := .fields #[.ref t0, .none, .none, .none, .bool false, .none] }) (od := some oD) ⟨hx, rfl, rfl, hoD⟩ T.sa ?_
  exact PySem.OEX.osa_old X hx hd hw hz hcl (show PySem.HandSPX.refsVE (.ref C :: bm) = true from hbm) rfl hf fun h' tk' k hn => go h' tk' k hn
/-- the text: a constant, or a constant with a parameter behind it -/
theorem xt_con {env : Env} {x : Str} {j : Nat} {p : Pos} {L : Addr} {m : Str → Option Value} : ∀ (s1 : Shared) (Q : Value → Shared → Prop), s1.heap.Ns L m → (∀ v tk, Q v { s1 with toks := tk }) → wpAny (model prog w) A (eval (.Constant (.str x) j p) env) Q E s1 :=
  fun s1 Q _ h => Constant_str (h _ _)
theorem xt_add {env : Env} {x n y : Str} {tn : Tok} {j : Nat} {p1 p2 p3 : Pos} {L : Addr} {m : Str → Option Value} (hL : env.locals = L) (hk : env.scope.kind = .function) (hn : m n = some (.str y tn)) (ln : env.kindOf n = some .local) (dn : (n == ("__debug__" : Str)) = false) (hz : x.length + y.length ≤ sizeLine) :
    ∀ (s1 : Shared) (Q : Value → Shared → Prop), s1.heap.Ns L m → (∀ v tk, Q v { s1 with toks := tk }) → wpAny (model prog w) A (eval (.BinOp (.Constant (.str x) j p1) .Add (.Name n p2) p3) env) Q E s1 := by
  intro s1 Q hns h
  subst hL
  refine wpAny_BinOp (Constant_str (wpAny_Name (wpAny_loadName_local hk ln (show Heap.Ns _ _ _ from hns) hn ?_) dn))
  exact add_str (fun t' tk => h _ _) hz
end
/-- what a made error is -/
structure XMade (h h' : Heap) (e C d : Addr) (nl : List Str) (mA : Str → Option Value) : Prop where
  keep : ∀ b o, h.get? b = some o → h'.get? b = some o
  new : h.objs.size ≤ e
  obj : ∃ oe vs, h'.get? e = some oe ∧ oe.cls = .ref C ∧ oe.dict = some d ∧ oe.data = .fields vs ∧ vs[1]? = some .none
  dbig : h.objs.size ≤ d
  dne : d ≠ e
  ns : h'.Ns1 d mA
/-- the scope and the parameters of such an __init__ -/
structure XSc (scope : Scope) : Prop where
  cell : ∀ x ∈ scope.names, x.2 ≠ .cell
  co : scope.isCoroutine = false
  gen : scope.isGenerator = false
  kind : scope.kind = .function
  sup : scope.names.lookup ("super" : Str) = some .globalImplicit
  cls : scope.names.lookup ("__class__" : Str) = some .free
  self : scope.names.lookup ("self" : Str) = some .local
section
variable {prog : Program} {w : World} {A : Around} {E : Value → Shared → Prop} {R : Result → Shared → Prop} {s : Shared} {K : PySem.W.Frag} {C fI : Addr} {qual : Str} {params : Arguments} {body : List Stmt} {scope : Scope}
/-- C(..) where the __init__ at fI does its work -/
theorem x_made (T : XiT prog K C fI qual params body scope) {us : List Value} {nl : List Str} {mA : Str → Option Value} (X : K.In s.heap) (hz : us.length ≤ 1000)
    (run : ∀ (A' : Around) (s' : Shared) (x t0 : Addr) (R' : Result → Shared → Prop), A'.depth = A.depth + 1 → K.In s'.heap → K.lookup x = none → (∀ b o, s.heap.get? b = some o → s'.heap.get? b = some o) → s'.heap.get? x = some (PySem.HandSPX.excO C t0) →
      (∀ h' tk dx t1, (∀ b o, b ≠ x → s'.heap.get? b = some o → h'.get? b = some o) → h'.get? x = some ({ cls := .ref C, dict := some dx, data := .fields #[.ref t1, .none, .none, .none, .bool false, .none] } : Obj) → s'.heap.objs.size ≤ dx → dx ≠ x → h'.Ns1 dx mA → R' (.ok (.ret .none)) { s' with heap := h', toks := tk }) →
      codeAny (model prog w) A' (.call (.ref fI) ⟨.ref x :: us, []⟩) R' s')
    (hq : ∀ h' tk e d, XMade s.heap h' e C d nl mA → R (.ok (.ret (.ref e))) { s with heap := h', toks := tk }) : codeAny (model prog w) A (.call (.ref C) ⟨us, []⟩) R s := by
  obtain ⟨nm, q, N, bs, bm, sn, sub, ab, col, dd, k0, k1, k2, k3, k5, hC, hbm⟩ := T.cls
  obtain ⟨hp, g, dr, tk, os⟩ := s
  have k : ∀ b o, hp.get? b = some o → ((hp.push (PySem.W.kdv_tup us)).push (PySem.HandSPX.excO C hp.objs.size)).get? b = some o := fun b o e => Heap.get?_push_of_some _ (Heap.get?_push_of_some _ e)
  have hget : ((hp.push (PySem.W.kdv_tup us)).push (PySem.HandSPX.excO C hp.objs.size)).get? (hp.objs.size + 1) = some (PySem.HandSPX.excO C hp.objs.size) := by heap_get
  have hnx : K.lookup (hp.objs.size + 1) = none := by
    cases e : K.lookup (hp.objs.size + 1) with
    | none => rfl
    | some o =>
      have z : hp.get? (hp.objs.size + 1) = some o := X _ _ e
      exact absurd (Nat.lt_of_succ_lt (Heap.lt_size z)) (Nat.lt_irrefl _)
  refine PySem.HandSPX.call_own PySem.F.excBase_ValueError (fun X => PySem.HandSPX.refsVE_contains X bm hbm) (X _ _ hC) (PySem.W.looks_findIn X T.iC) (fun self => PySem.W.bind_fn X self T.tC) (by rw [sizeLine_eq]; omega) ?_
  refine run _ ⟨(hp.push (PySem.W.kdv_tup us)).push (PySem.HandSPX.excO C hp.objs.size), g, dr, tk, os⟩ _ _ _ (by first | rfl | simp [Around.under, Code.weight, Code.isCreation, Code.isGuard, Code.isCaller, Code.frames, Code.isFrame, guardIds]) (X.keeps k) hnx k hget fun h' tk' dx t1 k' hx dn dne hns => ?_
  have old : ∀ b o, hp.get? b = some o → h'.get? b = some o := fun b o e => k' b o (Nat.ne_of_lt (Nat.lt_succ_of_lt (Heap.lt_size e))) (k b o e)
  have z : hp.objs.size + 1 + 1 ≤ dx := by
    first
      | (simpa only [Heap.size_push] using dn)
      | exact dn
      | (have q := dn; rw [Heap.size_push, Heap.size_push] at q; exact q)
  exact ⟨rfl, hq h' tk' (hp.objs.size + 1) dx ⟨old, Nat.le_succ _, ⟨_, _, hx, rfl, rfl, rfl, rfl⟩, Nat.le_trans (Nat.le_trans (Nat.le_succ _) (Nat.le_succ _)) z, dne, hns⟩⟩
end
abbrev supE (e : Expr) (p0 p1 p2 p3 : Pos) : Expr := .Call (.Attribute (.Call (.Name "super" p0) [] [] p1) "__init__" p2) [e] [] p3
abbrev stoE (f a : Str) (q1 q2 q3 q4 : Pos) : Stmt := .Assign [.Attribute (.Name "self" q1) f q2] (.Name a q3) q4
/-- what the walk asks of the super statement's text -/
structure SupOk (e : Expr) (p0 p1 p2 p3 p4 : Pos) : Prop where
  sw : ∀ env, swapsWith (supE e p0 p1 p2 p3) none p4.line env = pure false
  eq : ∀ env, ∃ pl, eval (supE e p0 p1 p2 p3) env = (do
      let ov ← attributeBase (.Call (.Name "super" p0) [] [] p1) "__init__" env (eval (.Call (.Name "super" p0) [] [] p1) env)
      standAt p2.atName
      let (f, first) ← holding [ov] (getMethod ov "__init__" pl)
      callWith p3 f first (backTo p3 (starEach [e] env)) [])
  st : ∀ env, starEach [e] env = (false, eval e env) :: starEach [] env
  pl : ∀ env, (backTo p3 (starEach [] env)).any (·.1) = false
section
variable {prog : Program} {w : World} {A : Around} {E : Value → Shared → Prop} {R : Result → Shared → Prop} {s : Shared} {K : PySem.W.Frag} {mg : Str → Option Value} {base : Heap} {C fI : Addr} {qual : Str} {params : Arguments} {scope : Scope} {f1 a1 f2 a2 tx : Str} {j : Nat} {p0 p1 p2 p3 p4 t1 t2 t3 q1 q2 q3 q4 r1 r2 r3 r4 : Pos} {ar : Arg}
theorem xi_run1 (T : XiT prog K C fI qual params [.Expr (supE (.Constant (.str tx) j t1) p0 p1 p2 p3) p4, stoE f1 a1 q1 q2 q3 q4] scope) (S : XSc scope) (SO : SupOk (.Constant (.str tx) j t1) p0 p1 p2 p3 p4) (l1 : scope.names.lookup a1 = some .local)
    (hp : (params.posonlyargs ++ params.args).head? = some ar) (har : ar.arg = "self") (h1 : findIn K (.ref C) f1 = some none) (n1 : (("self" : Str) == a1) = false) (d1 : (a1 == ("__debug__" : Str)) = false) (sw1 : ∀ env, swapsWith (.Name a1 q3) (some (.Attribute (.Name "self" q1) f1 q2)) q4.line env = pure false)
    (hb : ∀ x v doc pm an cdv ct cc, bindArgs (ksFn "__init__" qual params [.Expr (supE (.Constant (.str tx) j t1) p0 p1 p2 p3) p4, stoE f1 a1 q1 q2 q3 q4] scope .none .none doc pm an cdv ct cc) ⟨[x, v], []⟩ = pure [(("self" : Str), x), (a1, v)])
    (M : L2.Mod K mg base) (nog : mg "super" = none) (v : Value) (A' : Around) (s' : Shared) (x t0 : Addr) (R' : Result → Shared → Prop) (room : A'.depth < recursionLimit) (X : K.In s'.heap) (kb : ∀ b o, base.get? b = some o → s'.heap.get? b = some o) (hlim : s'.heap.NoLimit) (hnx : K.lookup x = none) (hx : s'.heap.get? x = some (PySem.HandSPX.excO C t0))
    (hq : ∀ h' tk dx t1, (∀ b o, b ≠ x → s'.heap.get? b = some o → h'.get? b = some o) → h'.get? x = some ({ cls := .ref C, dict := some dx, data := .fields #[.ref t1, .none, .none, .none, .bool false, .none] } : Obj) → s'.heap.objs.size ≤ dx → dx ≠ x → h'.Ns1 dx (fun y => if y = f1 then some v else none) → R' (.ok (.ret .none)) { s' with heap := h', toks := tk }) :
    codeAny (model prog w) A' (.call (.ref fI) ⟨[.ref x, v], []⟩) R' s' := by
  obtain ⟨mb, hb1, hb2⟩ := M.blt
  have hsa : (a1 == ("self" : Str)) = false := by
    rw [beq_eq_false_iff_ne] at n1 ⊢
    exact fun z => n1 z.symm
  refine xi_enter T X hlim room (bd := [("self", .ref x), (a1, v)]) (fun _ _ _ _ _ _ => hb _ _ _ _ _ _ _ _) S.cell (fun y hy => ?_) S.co S.gen S.kind fun cda cc L h₀ tk ns k hL file cell hfn => ?_
  · rcases List.mem_cons.mp hy with rfl | hy
    · exact S.self
    · rcases List.mem_cons.mp hy with rfl | hy
      · exact l1
      · cases hy
  · have X0 := X.keeps k
    have hxL : L ≠ x := by rw [hL]; exact Nat.ne_of_gt (Heap.lt_size hx)
    have mself : (fun y => ([("self", .ref x), (a1, v)] : List (Str × Value)).reverse.lookup y) ar.arg = some (.ref x) := by
      rw [har]
      show List.lookup _ [(a1, v), (("self" : Str), Value.ref x)] = _
      rw [List.lookup_cons, n1, List.lookup_cons_self]
    have ma : (fun y => ([("self", .ref x), (a1, v)] : List (Str × Value)).reverse.lookup y) a1 = some v := List.lookup_cons_self
    refine PySem.ks_wpAt_execs_cons ?_
    refine xi_super T X0 file cell hfn (M.glob.keeps fun b o q => k b o (kb b o q)) (hb1.keeps fun b o q => k b o (kb b o q)) nog ((hb2 _ (by decide)).trans (by kernel_rfl)) ns hp mself (k _ _ hx) hnx S.sup S.cls (by rw [har]; exact S.self) S.kind (SO.sw _) (SO.eq _) (SO.st _) (SO.pl _) xt_con fun h2 tk2 t2 k2 hx2 => ?_
    have ns2 : h2.Ns L _ := ns.at fun o q => k2 L o hxL q
    have X2 : K.In h2 := fun b o q => k2 b o (fun z => by rw [z, hnx] at q; cases q) (X0 b o q)
    refine PySem.ks_wpAt_execs_cons (_root_.PySem.wpAt_of_wpAny ?_)
    refine xi_new (v := v) T X2 ns2 hx2 rfl S.kind h1 ma (by rw [har] at mself; exact mself) l1 S.self d1 (by decide) (sw1 _) fun h3 tk3 dx k3 hx3 dn dne hn => ?_
    refine _root_.PySem.wpAt_of_wpAny (wpAny_execs_nil ?_)
    refine hq h3 tk3 dx t2 (fun b o hbx q => k3 b o hbx (k2 b o hbx (k b o q))) hx3 ?_ dne hn
    have z1 : s'.heap.objs.size < h2.objs.size := by rw [← hL]; exact ns2.lt
    exact Nat.le_of_lt (Nat.lt_of_lt_of_le z1 dn)
theorem xi_run2 (T : XiT prog K C fI qual params [.Expr (supE (.BinOp (.Constant (.str tx) j t1) .Add (.Name a1 t2) t3) p0 p1 p2 p3) p4, stoE f1 a1 q1 q2 q3 q4, stoE f2 a2 r1 r2 r3 r4] scope) (S : XSc scope) (SO : SupOk (.BinOp (.Constant (.str tx) j t1) .Add (.Name a1 t2) t3) p0 p1 p2 p3 p4) (l1 : scope.names.lookup a1 = some .local) (l2 : scope.names.lookup a2 = some .local)
    (hp : (params.posonlyargs ++ params.args).head? = some ar) (har : ar.arg = "self") (h1 : findIn K (.ref C) f1 = some none) (h2 : findIn K (.ref C) f2 = some none) (n1 : (("self" : Str) == a1) = false) (n2 : (("self" : Str) == a2) = false) (n12 : (a1 == a2) = false) (d1 : (a1 == ("__debug__" : Str)) = false) (d2 : (a2 == ("__debug__" : Str)) = false)
    (sw1 : ∀ env, swapsWith (.Name a1 q3) (some (.Attribute (.Name "self" q1) f1 q2)) q4.line env = pure false) (sw2 : ∀ env, swapsWith (.Name a2 r3) (some (.Attribute (.Name "self" r1) f2 r2)) r4.line env = pure false)
    (hb : ∀ x v u doc pm an cdv ct cc, bindArgs (ksFn "__init__" qual params [.Expr (supE (.BinOp (.Constant (.str tx) j t1) .Add (.Name a1 t2) t3) p0 p1 p2 p3) p4, stoE f1 a1 q1 q2 q3 q4, stoE f2 a2 r1 r2 r3 r4] scope .none .none doc pm an cdv ct cc) ⟨[x, v, u], []⟩ = pure [(("self" : Str), x), (a1, v), (a2, u)])
    (M : L2.Mod K mg base) (nog : mg "super" = none) (y : Str) (ty : Tok) (u : Value) (hz : tx.length + y.length ≤ sizeLine) (A' : Around) (s' : Shared) (x t0 : Addr) (R' : Result → Shared → Prop) (room : A'.depth < recursionLimit) (X : K.In s'.heap) (kb : ∀ b o, base.get? b = some o → s'.heap.get? b = some o) (hlim : s'.heap.NoLimit) (hnx : K.lookup x = none) (hx : s'.heap.get? x = some (PySem.HandSPX.excO C t0))
    (hq : ∀ h' tk dx t1, (∀ b o, b ≠ x → s'.heap.get? b = some o → h'.get? b = some o) → h'.get? x = some ({ cls := .ref C, dict := some dx, data := .fields #[.ref t1, .none, .none, .none, .bool false, .none] } : Obj) → s'.heap.objs.size ≤ dx → dx ≠ x → h'.Ns1 dx (fun z => if z = f2 then some u else if z = f1 then some (.str y ty) else none) → R' (.ok (.ret .none)) { s' with heap := h', toks := tk }) :
    codeAny (model prog w) A' (.call (.ref fI) ⟨[.ref x, .str y ty, u], []⟩) R' s' := by
  obtain ⟨mb, hb1, hb2⟩ := M.blt
  refine xi_enter T X hlim room (bd := [("self", .ref x), (a1, .str y ty), (a2, u)]) (fun _ _ _ _ _ _ => hb _ _ _ _ _ _ _ _ _) S.cell (fun y hy => ?_) S.co S.gen S.kind fun cda cc L h₀ tk ns k hL file cell hfn => ?_
  · rcases List.mem_cons.mp hy with rfl | hy
    · exact S.self
    · rcases List.mem_cons.mp hy with rfl | hy
      · exact l1
      · rcases List.mem_cons.mp hy with rfl | hy
        · exact l2
        · cases hy
  · have X0 := X.keeps k
    have hxL : L ≠ x := by rw [hL]; exact Nat.ne_of_gt (Heap.lt_size hx)
    have mself : (fun z => ([("self", .ref x), (a1, Value.str y ty), (a2, u)] : List (Str × Value)).reverse.lookup z) ar.arg = some (.ref x) := by
      rw [har]
      show List.lookup _ [(a2, u), (a1, Value.str y ty), (("self" : Str), Value.ref x)] = _
      rw [List.lookup_cons, n2, List.lookup_cons, n1, List.lookup_cons_self]
    have ma1 : (fun z => ([("self", .ref x), (a1, Value.str y ty), (a2, u)] : List (Str × Value)).reverse.lookup z) a1 = some (.str y ty) := by
      show List.lookup _ [(a2, u), (a1, Value.str y ty), (("self" : Str), Value.ref x)] = _
      rw [List.lookup_cons, n12, List.lookup_cons_self]
    have ma2 : (fun z => ([("self", .ref x), (a1, Value.str y ty), (a2, u)] : List (Str × Value)).reverse.lookup z) a2 = some u := List.lookup_cons_self
    refine PySem.ks_wpAt_execs_cons ?_
    refine xi_super T X0 file cell hfn (M.glob.keeps fun b o q => k b o (kb b o q)) (hb1.keeps fun b o q => k b o (kb b o q)) nog ((hb2 _ (by decide)).trans (by kernel_rfl)) ns hp mself (k _ _ hx) hnx S.sup S.cls (by rw [har]; exact S.self) S.kind (SO.sw _) (SO.eq _) (SO.st _) (SO.pl _) (xt_add rfl S.kind ma1 l1 d1 hz) fun h2 tk2 t2 k2 hx2 => ?_
    have ns2 : h2.Ns L _ := ns.at fun o q => k2 L o hxL q
    have X2 : K.In h2 := fun b o q => k2 b o (fun z => by rw [z, hnx] at q; cases q) (X0 b o q)
    refine PySem.ks_wpAt_execs_cons (_root_.PySem.wpAt_of_wpAny ?_)
    have mself' := mself
    rw [har] at mself'
    refine xi_new (v := .str y ty) T X2 ns2 hx2 rfl S.kind h1 ma1 mself' l1 S.self d1 (by decide) (sw1 _) fun h3 tk3 dx k3 hx3 dn dne hn => ?_
    have ns3 : h3.Ns L _ := ns2.at fun o q => k3 L o hxL q
    have X3 : K.In h3 := fun b o q => k3 b o (fun z => by rw [z, hnx] at q; cases q) (X2 b o q)
    refine PySem.ks_wpAt_execs_cons (_root_.PySem.wpAt_of_wpAny ?_)
    have hd2 : h2.objs.size ≤ dx := dn
    refine xi_more (v := u) (nl := [f1]) (m0 := fun z => if z = f1 then some (.str y ty) else none) T X3 ns3 hx3 hn (Within.cons f1 _ Within.nil) (by rw [List.length_singleton]; omega) rfl S.kind ‹findIn K (.ref C) f2 = some none› ma2 mself' l2 S.self d2 (by decide) (sw2 _) fun h4 tk4 k4 hn4 => ?_
    refine _root_.PySem.wpAt_of_wpAny (wpAny_execs_nil ?_)
    have old : ∀ b o, b ≠ x → s'.heap.get? b = some o → h4.get? b = some o := fun b o hbx q => k4 b o (Nat.ne_of_lt (Nat.lt_of_lt_of_le (Heap.lt_size (k2 b o hbx (k b o q))) hd2)) (k3 b o hbx (k2 b o hbx (k b o q)))
    refine hq h4 tk4 dx t2 old (k4 _ _ (Ne.symm dne) hx3) ?_ dne hn4
    have z1 : s'.heap.objs.size < h2.objs.size := by rw [← hL]; exact ns2.lt
    exact Nat.le_of_lt (Nat.lt_of_lt_of_le z1 dn)
end
end PL
namespace PL
open PySem PySem.Spec L2
open PyProof.Rows (b2i)
def XG (K : PySem.W.Frag) (E : XK) (G H : Hp) (Q : XK) : Res Err → Prop
  | .ok er => ∀ G' cls dx H', Grow G H G' H' → ErrOk K G' H' cls dx er → Q cls dx H'
  | .exc er => ∀ G' cls dx H', Grow G H G' H' → ErrOk K G' H' cls dx er → E cls dx H'
  | .stuck => False
def tX (K : PySem.W.Frag) (B : Base) (W : WX) (mx : Ev → Res Err) : St → Hp → XK → Prop := fun σ H Q => ∃ G ρ, EnvOk K B G σ ρ H ∧ XG K (fun c d H' => W c d σ H') G H Q (mx ρ)
def oRaise (mx : Ev → Res Err) : Ev → Out := fun ρ => match mx ρ with
  | .ok er => .exc er ρ
  | .exc er => .exc er ρ
  | .stuck => .stuck
theorem XG.bind {α β : Type} {R : Hp → β → α → Prop} {K : PySem.W.Frag} {E : XK} {G H : Hp} {Q : XK} {r : Res α} {f : α → Res Err} {P : β → Hp → Prop} (h : XG K E G H Q (r >>= f)) (k : ∀ a G1 v H1, Grow G H G1 H1 → R G1 v a → XG K E G H Q (f a) → P v H1) : RG R K E G H P r := by
  cases r with
  | ok a => exact fun G1 v H1 g r => k a G1 v H1 g r h
  | exc e => exact h
  | stuck => exact h
theorem XG.chk {K : PySem.W.Frag} {E : XK} {G H : Hp} {Q : XK} {p : Prop} [Decidable p] {r : Res Err} (h : XG K E G H Q (chk p r)) : p ∧ XG K E G H Q r := by
  unfold PL.chk at h
  by_cases z : p
  · rw [if_pos z] at h; exact ⟨z, h⟩
  · rw [if_neg z] at h; exact h.elim
theorem ms_raise {X : Cx} {B : Base} {W : WX} {e : Expr} {mx : Ev → Res Err} {pos : Pos} (hc : X.calm = true) (tk : Takes X W) (he : PMk X e (tX X.K B W mx)) : PS X (.Raise (some e) none pos) (tS X.K B W (oRaise mx)) :=
  PS.imp (ps_raise hc tk he) fun Dn σ H ⟨G, ρ, e, q⟩ => ⟨G, ρ, e, by
    unfold oRaise at q
    cases hm : mx ρ with
    | ok er => rw [hm] at q; exact fun G' c d H' g k => q G' σ H' c d (e.growN g) k
    | exc er => rw [hm] at q; exact fun G' c d H' g k => q G' σ H' c d (e.growN g) k
    | stuck => rw [hm] at q; exact q⟩
/-- a class without an __init__ of its own -/
structure X0F (T : Tk) (c : Cl) : Prop where
  ex : PySem.W.excIn T.K (ca T.K c) [.type "ValueError", .type "Exception", .type "BaseException", .type "object"] "ValueError.__new__" = true
  g : T.mg c.s = some (.ref (ca T.K c))
  kp : PySem.W.keepIn T.K (.ref (ca T.K c)) = true
  eb : PySem.W.subIn T.K (.ref (ca T.K c)) (.type "BaseException") = some true
  ty : PySem.W.typeIn T.K (.ref (ca T.K c)) = some (.type "type")
  xc : XcF T.K c
def mX0 (c : Cl) : Ev → Res Err := fun _ => .ok ⟨c, []⟩
theorem mx_0 {X : Cx} {B : Base} {W : WX} {c : Cl} {x m : Str} {j : Nat} {p p2 pos : Pos} (F : X0F (tkOf X) c) (hg : Gl X x) (hx : c.s = x := by rfl) (hdb : (x == ("__debug__" : Str)) = false := by decide) :
    PMk X (.Call (.Name x p) [.Constant (.str m) j p2] [] pos) (tX X.K B W (mX0 c)) := by
  subst hx
  intro pins s σ H Q I ⟨G, ρ, e, q⟩
  exact pmk_own PySem.F.excBase_ValueError F.ex F.g F.kp (raises_own F.eb F.ty) hg hdb pins s σ H Q I (q G _ _ H (.refl e.sub) ⟨rfl, ⟨F.xc, fun p hp => by cases hp⟩, .inl ⟨rfl, rfl⟩⟩)
/-- the error stands, its dict is the data's -/
theorem x_end {X : Cx} {pins : List (Addr × Obj)} {σ : St} {H1 : Hp} {hp h' : Heap} {g : Array GenState} {dr : Drawn} {tk tk' : Nat} {os : OsState} {Q : XK} {e C d : Addr} {nl : List Str} {mA : Str → Option Value} {fv : List (Str × V)}
    (I1 : Inv X pins σ H1 ⟨hp, g, dr, tk, os⟩) (M : XMade hp h' e C d nl mA) (rel : ∀ f, RelO (fv.lookup f) (mA f)) (r : Raises X (.ref C)) (q : H1 d = none → Q (.ref C) (some d) (upd H1 d (.xd fv))) : MkP X pins σ Q (.ref e) ⟨h', g, dr, tk', os⟩ := by
  obtain ⟨oe, us, hoe, hc, hd, hdat, h1⟩ := M.obj
  have hns := M.ns
  obtain ⟨G', g1, g2⟩ := restrict h' fun b => decide (b ≠ e)
  have gk : ∀ b, b ≠ e → G'.get? b = h'.get? b := fun b hb => g1 b (decide_eq_true hb)
  have ge : G'.get? e = none := g2 e (by simp)
  have kept : ∀ b o, hp.get? b = some o → G'.get? b = some o := fun b o z => (gk b (Nat.ne_of_lt (Nat.lt_of_lt_of_le (Heap.lt_size z) M.new))).trans (M.keep b o z)
  have ob : ObjOk X.prog X.w (upd H1 d (.xd fv)) G' d (.xd fv) := ⟨_, hns.at (fun o z => (gk d M.dne).trans z), rel⟩
  have J : Inv X pins σ (upd H1 d (.xd fv)) ⟨G', g, dr, tk', os⟩ := I1.laid (t' := tk') kept M.dbig ob
  refine ⟨e, oe, us, ⟨G', g, dr, tk', os⟩, _, .ref C, some d, rfl, J, fun b o z => ?_, ge, hoe, ⟨hc, hd⟩, hdat, h1, ?_, rfl, I1.bare, r, q (I1.hok.fresh M.dbig)⟩
  · by_cases hb : b = e
    · have z' : G'.get? b = some o := z
      rw [hb, ge] at z'; cases z'
    · exact (gk b hb).symm.trans z
  · rw [upd_ne (Ne.symm M.dne)]
    exact I1.hok.fresh M.new
/-- a class with an __init__ that keeps one thing, two things -/
structure X1F (T : Tk) (c : Cl) (f : Nm) : Prop where
  g : T.mg c.s = some (.ref (ca T.K c))
  kp : PySem.W.keepIn T.K (.ref (ca T.K c)) = true
  eb : PySem.W.subIn T.K (.ref (ca T.K c)) (.type "BaseException") = some true
  ty : PySem.W.typeIn T.K (.ref (ca T.K c)) = some (.type "type")
  xc : XcF T.K c
  n1 : PySem.W.findIn T.K (.ref (ca T.K c)) f.s = some none
  made : ∀ (A : Around) (s : Shared) (R : Result → Shared → Prop) (v : Value), T.K.In s.heap → (∀ b o, T.base.get? b = some o → s.heap.get? b = some o) → s.heap.NoLimit → A.depth + 1 < recursionLimit → L2.Mod T.K T.mg T.base →
    (∀ h' tk e d, XMade s.heap h' e (ca T.K c) d [] (fun y => if y = f.s then some v else none) → R (.ok (.ret (.ref e))) { s with heap := h', toks := tk }) → codeAny (model T.P T.w) A (.call (.ref (ca T.K c)) ⟨[v], []⟩) R s
structure X2F (T : Tk) (c : Cl) (n : Nat) (f f' : Nm) : Prop where
  g : T.mg c.s = some (.ref (ca T.K c))
  kp : PySem.W.keepIn T.K (.ref (ca T.K c)) = true
  eb : PySem.W.subIn T.K (.ref (ca T.K c)) (.type "BaseException") = some true
  ty : PySem.W.typeIn T.K (.ref (ca T.K c)) = some (.type "type")
  xc : XcF T.K c
  n1 : PySem.W.findIn T.K (.ref (ca T.K c)) f.s = some none
  n2 : PySem.W.findIn T.K (.ref (ca T.K c)) f'.s = some none
  ne : f ≠ f'
  made : ∀ (A : Around) (s : Shared) (R : Result → Shared → Prop) (y : Str) (ty : Tok) (u : Value), n + y.length ≤ sizeLine → T.K.In s.heap → (∀ b o, T.base.get? b = some o → s.heap.get? b = some o) → s.heap.NoLimit → A.depth + 1 < recursionLimit → L2.Mod T.K T.mg T.base →
    (∀ h' tk e d, XMade s.heap h' e (ca T.K c) d [] (fun z => if z = f'.s then some u else if z = f.s then some (.str y ty) else none) → R (.ok (.ret (.ref e))) { s with heap := h', toks := tk }) → codeAny (model T.P T.w) A (.call (.ref (ca T.K c)) ⟨[.str y ty, u], []⟩) R s
def xF1 (c : Cl) (f : Nm) : List D → Res Err
  | [d] => .ok ⟨c, [(f, d)]⟩
  | _ => .stuck
def xF2 (c : Cl) (n : Nat) (f f' : Nm) : List D → Res Err
  | [.str y, d] => chk (n + y.length ≤ sizeLine) (.ok ⟨c, [(f, .str y), (f', d)]⟩)
  | _ => .stuck
def mX (g : List D → Res Err) (ms : Ev → Res (List D)) : Ev → Res Err := fun ρ => ms ρ >>= g
section
variable {X : Cx} {B : Base} {W : WX} {c : Cl} {f f' : Nm} {n k : Nat} {x : Str} {e e' : Expr} {ms : Ev → Res (List D)} {p pos : Pos}
theorem x_laid {K : PySem.W.Frag} {G H : Hp} (s : Ext G H) {d : Addr} (hd : H d = none) (fv : List (Str × V)) : Grow G H G (upd H d (.xd fv)) := .side s hd _
theorem mx_1 (F : X1F (tkOf X) c f) (hr : Room k X.A) (hg : Gl X x) (ha : PA X [e] (tMA X.K B W ms)) (hx : c.s = x := by rfl) (hdb : (x == ("__debug__" : Str)) = false := by decide)
    (he : starEach [e] X.env = (false, eval e X.env) :: starEach [] X.env := by rfl) (hpl : (backTo pos (starEach [] X.env)).any (·.1) = false := by rfl) : PMk X (.Call (.Name x p) [e] [] pos) (tX X.K B W (mX (xF1 c f) ms)) := by
  subst hx
  intro pins s σ H Q I ⟨G, ρ, e0, q⟩
  refine wpAny_Call_Name_kw (ld_glob I hg F.g ?_ hdb)
  refine PySem.W.callWith_K (h₀ := X.base) I.ok.mod.kin F.kp (thn (ha.run pos pins s σ H (fun vs H1 => ∃ G1 ds, Grow G H G1 H1 ∧ Reps X.K G1 vs ds ∧ XG X.K (fun c d H' => W c d σ H') G H Q (xF1 c f ds)) I ⟨G, ρ, e0, XG.bind q fun ds G1 vs H1 g r q1 => ⟨G1, ds, g, r, q1⟩⟩) fun us s1 ⟨vs, H1, I1, rv, G1, ds, g, r, q1⟩ => ⟨I1.kIn, ?_⟩) he hpl
  cases r with
  | nil => exact q1.elim
  | @cons v d _ _ r t =>
    cases t with
    | cons _ _ => exact q1.elim
    | nil =>
      cases rv with
      | cons ru rn =>
        cases rn
        have hlim := I1.nolimit
        obtain ⟨hp, gg, dr, tk, os⟩ := s1
        refine wpAny_call (F.made _ _ _ _ I1.kIn I1.bk hlim (by have := hr.dp; omega) I1.ok.mod fun h' tk' ex dx M => ?_)
        refine x_end (fv := [(f.s, v)]) I1 M (fun y => ?_) (raises_own F.eb F.ty) fun hn => ?_
        · by_cases z : y = f.s
          · subst z
            rw [if_pos rfl, List.lookup_cons_self]
            exact ru
          · rw [if_neg z]
            have z2 : (y == f.s) = false := by simpa using z
            rw [List.lookup_cons, z2]
            trivial
        · exact q1 G1 _ _ _ (g.trans (.side g.sub hn _)) ⟨rfl, ⟨F.xc, fun p hp => by
            rcases List.mem_cons.mp hp with rfl | hp
            · exact F.n1
            · cases hp⟩, .inr ⟨dx, _, rfl, upd_same, .cons r .nil⟩⟩
theorem mx_2 (F : X2F (tkOf X) c n f f') (hr : Room k X.A) (hg : Gl X x) (ha : PA X [e, e'] (tMA X.K B W ms)) (hx : c.s = x := by rfl) (hdb : (x == ("__debug__" : Str)) = false := by decide)
    (he : starEach [e, e'] X.env = (false, eval e X.env) :: starEach [e'] X.env := by rfl) (hpl : (backTo pos (starEach [e'] X.env)).any (·.1) = false := by rfl) : PMk X (.Call (.Name x p) [e, e'] [] pos) (tX X.K B W (mX (xF2 c n f f') ms)) := by
  subst hx
  intro pins s σ H Q I ⟨G, ρ, e0, q⟩
  refine wpAny_Call_Name_kw (ld_glob I hg F.g ?_ hdb)
  refine PySem.W.callWith_K (h₀ := X.base) I.ok.mod.kin F.kp (thn (ha.run pos pins s σ H (fun vs H1 => ∃ G1 ds, Grow G H G1 H1 ∧ Reps X.K G1 vs ds ∧ XG X.K (fun c d H' => W c d σ H') G H Q (xF2 c n f f' ds)) I ⟨G, ρ, e0, XG.bind q fun ds G1 vs H1 g r q1 => ⟨G1, ds, g, r, q1⟩⟩) fun us s1 ⟨vs, H1, I1, rv, G1, ds, g, r, q1⟩ => ⟨I1.kIn, ?_⟩) he hpl
  cases r with
  | nil => exact q1.elim
  | cons r t =>
    cases t with
    | nil => cases r <;> exact q1.elim
    | @cons v2 d2 _ _ r2 t =>
      cases t with
      | cons _ _ => cases r <;> exact q1.elim
      | nil =>
        cases r with
        | str y =>
          obtain ⟨hz, q1⟩ := XG.chk q1
          cases rv with
          | cons ru rn =>
            cases rn with
            | cons ru2 rn =>
              cases rn
              obtain ⟨ty, rfl⟩ := (show ∃ t, _ = Value.str y t from ru)
              have hlim := I1.nolimit
              obtain ⟨hp, gg, dr, tk, os⟩ := s1
              refine wpAny_call (F.made _ _ _ y ty _ hz I1.kIn I1.bk hlim (by have := hr.dp; omega) I1.ok.mod fun h' tk' ex dx M => ?_)
              have hne : f'.s ≠ f.s := fun z => F.ne (Nm.inj z.symm)
              refine x_end (fv := [(f.s, .str y), (f'.s, v2)]) I1 M (fun z => ?_) (raises_own F.eb F.ty) fun hn => ?_
              rotate_left
              · exact q1 G1 _ _ _ (g.trans (.side g.sub hn _)) ⟨rfl, ⟨F.xc, fun p hp => by
                  rcases List.mem_cons.mp hp with rfl | hp
                  · exact F.n1
                  · rcases List.mem_cons.mp hp with rfl | hp
                    · exact F.n2
                    · cases hp⟩, .inr ⟨dx, _, rfl, upd_same, .cons (.str y) (.cons r2 .nil)⟩⟩
              · by_cases z1 : z = f'.s
                · subst z1
                  have z2 : (f'.s == f.s) = false := by simpa using hne
                  rw [if_pos rfl, List.lookup_cons, z2, List.lookup_cons_self]
                  exact ru2
                · rw [if_neg z1]
                  have z2 : (z == f'.s) = false := by simpa using z1
                  by_cases z3 : z = f.s
                  · subst z3
                    rw [if_pos rfl, List.lookup_cons_self]
                    exact ru
                  · rw [if_neg z3]
                    have z4 : (z == f.s) = false := by simpa using z3
                    rw [List.lookup_cons, z4, List.lookup_cons, z2]
                    trivial
        | _ => exact q1.elim
end
def dropX (ρ : Ev) : Ev := ρ.map fun
  | .exn _ => .no
  | s => s
structure Hd where
  t : Cl → Option Bool
  i : Option Nat
  o : Ev → Out
def enterX (i : Option Nat) (e : Err) (ρ : Ev) : Ev := match i with
  | none => dropX ρ
  | some i => (dropX ρ).set i (.exn e)
def leaveX (i : Option Nat) (ρ : Ev) : Ev := match i with
  | none => dropX ρ
  | some i => dropX (ρ.set i .no)
def Out.leave (i : Option Nat) : Out → Out
  | .nx ρ => .nx (leaveX i ρ)
  | .bk ρ => .bk (leaveX i ρ)
  | .ct ρ => .ct (leaveX i ρ)
  | .rt d ρ => .rt d (leaveX i ρ)
  | .exc _ _ => .stuck
  | .stuck => .stuck
def hdGo : List Hd → Err → Ev → Out
  | [], e, ρ => .exc e ρ
  | h :: r, e, ρ => match h.t e.cls with
    | some true => (h.o (enterX h.i e ρ)).leave h.i
    | some false => hdGo r e ρ
    | none => .stuck
def oTry (ob : Ev → Out) (hs : List Hd) : Ev → Out := fun ρ => match ob ρ with
  | .exc e ρ' => hdGo hs e ρ'
  | o => o
def Base.xat (B : Base) (y : Option (Addr × Value × Option Addr)) : Base := { B with xa := y }
section
variable {K : PySem.W.Frag} {B : Base} {G H : Hp} {σ : St} {ρ : Ev}
theorem dropX_get {i : Nat} {s : Sl} (h : (dropX ρ)[i]? = some s) : s = .no ∨ (ρ[i]? = some s ∧ ∀ e, s ≠ .exn e) := by
  unfold dropX at h
  rw [List.getElem?_map] at h
  cases q : ρ[i]? with
  | none => rw [q] at h; cases h
  | some t =>
    rw [q] at h
    cases t with
    | exn e => cases h; exact .inl rfl
    | no => cases h; exact .inl rfl
    | dat d => cases h; exact .inr ⟨rfl, fun e z => nomatch z⟩
    | own xs => cases h; exact .inr ⟨rfl, fun e z => nomatch z⟩
    | own2 xs => cases h; exact .inr ⟨rfl, fun e z => nomatch z⟩
    | ins c fs => cases h; exact .inr ⟨rfl, fun e z => nomatch z⟩
    | cls c => cases h; exact .inr ⟨rfl, fun e z => nomatch z⟩
    | bor xs => cases h; exact .inr ⟨rfl, fun e z => nomatch z⟩
theorem EnvOk.dropX (y : Option (Addr × Value × Option Addr)) (e : EnvOk K B G σ ρ H) : EnvOk K (B.xat y) G σ (dropX ρ) H := by
  refine ⟨e.grow, by unfold PL.dropX; rw [List.length_map]; exact e.len, fun i s q => ?_, fun i j s t q1 q2 n a f1 f2 => ?_⟩
  · rcases dropX_get q with rfl | ⟨z, nx⟩
    · trivial
    · have w := e.slot i s z
      cases s with
      | exn er => exact absurd rfl (nx er)
      | own2 xss =>
        obtain ⟨l, ls, e1, hl, r, gl, bl, nd⟩ := w
        exact ⟨l, ls, e1, hl, RowsOk.base (B := B) (B' := B.xat y) rfl r, gl, bl, nd⟩
      | _ => exact w
  · rcases dropX_get q1 with rfl | ⟨z1, _⟩
    · exact foot_no f1
    · rcases dropX_get q2 with rfl | ⟨z2, _⟩
      · exact foot_no f2
      · exact e.sep i j s t z1 z2 n a f1 f2
/-- the error's name -/
theorem EnvOk.setExn (e : EnvOk K B G σ ρ H) (i : Nat) {a : Addr} {cls : Value} {d : Option Addr} {er : Err} (hb : B.xa = some (a, cls, d)) (k : ErrOk K G H cls d er) : EnvOk K B G (σ.set i (some (.ref a))) (ρ.set i (.exn er)) H := by
  exact e.put i (fun _ => ⟨a, cls, d, hb, rfl, k⟩) fun b f => (foot_exn f).elim
end
/-- the clauses of a try -/
inductive HdsX (X : Cx) (B : Base) : List ExceptHandler → List Hd → Prop
  | nil : HdsX X B [] []
  | un {x : Str} {c : Value} {t : Cl → Option Bool} {o : Ev → Out} {b₀ : Stmt} {suite : List Stmt} {np hp : Pos} {hds : List ExceptHandler} {l : List Hd} (hc : Names X x c) (ht : ∀ k b, t k = some b → PySem.W.exmOne X.K (.ref (ca X.K k)) c = some b)
      (hsu : ∀ (a : Addr) (oe : Obj) (cls : Value) (d : Option Addr) (pn : List (Addr × Obj)), Zc cls d oe → (∃ vs, oe.data = .fields vs) → PSs (X.suite a ((a, oe) :: pn)) (b₀ :: suite) (tS X.K (B.xat (some (a, cls, d))) noW o)) (r : HdsX X B hds l) :
      HdsX X B (.ExceptHandler (some (.Name x np)) none (b₀ :: suite) hp :: hds) (⟨t, none, o⟩ :: l)
  | as {x n : Str} {i : Nat} {c : Value} {t : Cl → Option Bool} {o : Ev → Out} {b₀ : Stmt} {suite : List Stmt} {np hp : Pos} {hds : List ExceptHandler} {l : List Hd} (hc : Names X x c) (ht : ∀ k b, t k = some b → PySem.W.exmOne X.K (.ref (ca X.K k)) c = some b) (hi : X.N[i]? = some n) (hln : X.env.kindOf n = some .local)
      (hsu : ∀ (a : Addr) (oe : Obj) (cls : Value) (d : Option Addr) (pn : List (Addr × Obj)), Zc cls d oe → (∃ vs, oe.data = .fields vs) → PSs (X.suite a ((a, oe) :: pn)) (b₀ :: suite) (tS X.K (B.xat (some (a, cls, d))) noW o)) (r : HdsX X B hds l) :
      HdsX X B (.ExceptHandler (some (.Name x np)) (some n) (b₀ :: suite) hp :: hds) (⟨t, some i, o⟩ :: l)
def endsX (i : Option Nat) (D : Ends) : Ends := match i with
  | none => D
  | some i => { nx := fun σ' H' => D.nx (σ'.set i none) H', rt := D.rt, bk := fun σ' H' => D.bk (σ'.set i none) H', ct := fun σ' H' => D.ct (σ'.set i none) H' }
theorem SG.leave {K : PySem.W.Frag} {B : Base} {W : WX} {Dn : Ends} {i : Option Nat} {o : Out} {y : Option (Addr × Value × Option Addr)} (h : SG K B W Dn (o.leave i)) : SG K (B.xat y) noW (endsX i Dn) o := by
  have back : ∀ {G σ ρ H}, EnvOk K (B.xat y) G σ ρ H → EnvOk K B G (match i with | none => σ | some i => σ.set i none) (leaveX i ρ) H := fun {G σ ρ H} e => by
    cases i with
    | none => exact e.dropX B.xa
    | some i => exact (e.forgetSt i none).dropX B.xa
  cases o with
  | nx ρ =>
    intro G σ H e
    have z := h G _ H (back e)
    cases i <;> exact z
  | bk ρ =>
    intro G σ H e
    have z := h G _ H (back e)
    cases i <;> exact z
  | ct ρ =>
    intro G σ H e
    have z := h G _ H (back e)
    cases i <;> exact z
  | rt d ρ =>
    intro G σ H v e
    have conv : ∀ {σ' : St} {ρ' : Ev}, (EnvOk K (B.xat y) G σ ρ H → EnvOk K B G σ' ρ' H) → RtOk K B G σ' ρ' H v d := fun {σ' ρ'} bk => by
      unfold RtOk at e ⊢
      have ef : (B.xat y).fr = B.fr := rfl
      rw [ef] at e
      cases hf : B.fr with
      | zero =>
        rw [hf] at e
        exact ⟨bk e.1, e.2⟩
      | succ n =>
        rw [hf] at e
        cases n with
        | zero => exact e
        | succ n =>
          obtain ⟨h1, xss, h2, l, ls, e1, hl, r, gl, bl, nd⟩ := e
          exact ⟨h1, xss, h2, l, ls, e1, hl, RowsOk.base (B := B.xat y) (B' := B) rfl r, gl, bl, nd⟩
    cases i with
    | none => exact h G _ H v (conv fun e => e.dropX B.xa)
    | some i => exact h G _ H v (conv fun e => (e.forgetSt i none).dropX B.xa)
  | exc e ρ => exact h.elim
  | stuck => exact h.elim
section
variable {X : Cx} {B : Base} {W : WX} {body : List Stmt} {h₀ : ExceptHandler} {hds : List ExceptHandler} {l : List Hd} {pos : Pos} {ob : Ev → Out}
/-- what the clauses wish -/
def wHd (K : PySem.W.Frag) (B : Base) (W : WX) (Dn : Ends) (l : List Hd) : WX := fun cls d σ H => ∃ G ρ er, EnvOk K B G σ ρ H ∧ ErrOk K G H cls d er ∧ SG K B W Dn (hdGo l er ρ)
theorem ms_try (hs : X.stack = X.env :: X.outer) (hf : X.env.frame = some X.env.locals) (hN : X.N.Nodup) (tk : Takes X W)
    (hb : ∀ (W' : WX) (pn : List (Addr × Obj)) (xe : Value → Shared → Prop), Takes (X.tr pn xe) W' → PassesOwn (model X.prog X.w) X.A X.env xe → PSs (X.tr pn xe) body (tS X.K B W' ob))
    (hh : HdsX X B (h₀ :: hds) l) : PS X (.Try body (h₀ :: hds) [] [] pos) (tS X.K B W (oTry ob l)) := by
  refine ⟨fun pins s σ H Dn I ⟨G, ρ, e, q⟩ => ?_⟩
  have okX := I.ok
  have frX : X.A.frames = some (X.env :: X.outer) := by rw [okX.frames, hs]
  have start : tS X.K B (wHd X.K B W Dn l) ob Dn σ H := by
    refine ⟨G, ρ, e, ?_⟩
    unfold oTry at q
    cases hm : ob ρ with
    | exc er ρ' => rw [hm] at q; exact fun G' σ' H' c d e' k => ⟨G', ρ', er, e', k, q⟩
    | nx _ => rw [hm] at q; exact q
    | bk _ => rw [hm] at q; exact q
    | ct _ => rw [hm] at q; exact q
    | rt _ _ => rw [hm] at q; exact q
    | stuck => rw [hm] at q; exact q
  refine wpAny_Try_except (wpAny_mono ((hb (wHd X.K B W Dn l) (X.pn ++ pins) (fun e sa => wpAny (model X.prog X.w) X.A (noteFrame e X.env) (fun _ sb => wpAny (model X.prog X.w) X.A (setFlight e none) (fun _ sc =>
    wpAny (model X.prog X.w) X.A (handleBy e X.env (h₀ :: hds)) (SP X pins Dn) X.xe sc) X.xe sb) X.xe sa) (fun u s' xx => ?_) PassesOwn.looking).run [] s σ H Dn (I.toTry _) start) (fun f s1 hsp => ?_) (fun e s1 he => he))
  · obtain ⟨a, BB, sI, pins', σ1, H1, cls, d, rfl, Jt, nb, up, sky, na, os, ag, w⟩ := xx
    have J0 : Inv X pins σ1 H1 sI := Jt.ofTry okX
    have sky1 : Sky BB (X.env :: X.outer) a (Zc cls d) X.env.locals s'.heap := by rw [← hs]; exact sky
    show wpAny (model X.prog X.w) X.A (noteFrame (.ref a) X.env) _ _ _
    refine Sky.land Zc.steady frX hf sky1 fun ha fla upa => ?_
    have Ja : Inv X pins σ1 H1 { s' with heap := ha } := J0.landed nb fla.1 (up.trans upa) os ag
    obtain ⟨oea, vsa, hea, hza, hda⟩ := fla.there
    have nfr : a ∉ frs (X.env :: X.outer) := fun hm => by
      obtain ⟨_, o', eo, hnf⟩ := fla.2.2.1.mem hm
      rw [hea] at eo; cases eo
      exact hnf _ hda
    have nL : a ≠ X.env.locals := fun z => nfr (List.mem_filterMap.mpr ⟨X.env, List.mem_cons_self, by rw [hf, z]⟩)
    have nF : a ∉ X.fs := fun hm => by
      obtain ⟨ev, hev, qe⟩ := List.mem_filterMap.mp hm
      exact nfr (List.mem_filterMap.mpr ⟨ev, List.mem_cons_of_mem _ hev, qe⟩)
    have Sa := Ja.suite hea hda na nL nF
    have walk : ∀ {hs' : List ExceptHandler} {l' : List Hd}, HdsX X B hs' l' → wHd X.K B W Dn l' cls d σ1 H1 → wpAny (model X.prog X.w) X.A (handleBy (.ref a) X.env hs') (SP X pins Dn) X.xe { s' with heap := ha } := by
      intro hs' l' hk
      -- the test of a clause
      have test : ∀ {x : Str} {c : Value} {np : Pos} {Q : Value → Shared → Prop} {E : Value → Shared → Prop}, Names X x c → Q c { s' with heap := ha } → wpAny (model X.prog X.w) (X.A.mark (some (.ref a))) (eval (.Name x np) X.env) Q E { s' with heap := ha } := fun {x c np Q E} hc q => by
        obtain ⟨hg, hdbg, hm | ⟨hm, hv, hnn⟩⟩ := hc
        · exact ld_glob (X := X.suite a ((a, oea) :: (X.pn ++ pins))) Sa hg hm q hdbg
        · exact ld_blt (X := X.suite a ((a, oea) :: (X.pn ++ pins))) Sa hg hm hv q hnn hdbg
      have LT : PySem.W.Looks (model X.prog X.w) ha (typeOf (.ref a)) cls := fun A Q E s k q => wpAny_typeOf_ref (k _ _ hea) (by rw [hza.1]; exact q)
      induction hk with
      | nil =>
        rintro ⟨G1, ρ1, er, e1, ke, q1⟩
        refine wpAny_handleBy_nil ?_
        obtain ⟨k1, k2, k3, oe, vs, T, oT, ts, he, hz, hd, h1, hr⟩ := id fla
        unfold PySem.passOn
        refine wpAny_bind (wpAny_field he hd h1 ?_)
        rw [if_neg (show ¬ ((Value.ref T == Value.none) = true) from by simp)]
        have fin : wpAny (model X.prog X.w) X.A (setFlight (.ref a) X.env.frame) (fun _ sd => wpAny (model X.prog X.w) X.A (throw (.ref a) : Sem Flow) (SP X pins Dn) X.xe sd) X.xe { s' with heap := ha } := by
          rw [hf]
          exact HandSPX.setFlight_upZ fla fun hb' hhb upb => wpAny_throw (tk _ _ ⟨a, BB, sI, pins, σ1, H1, cls, d, rfl, J0, nb, (up.trans upa).trans upb, .inr (.inr (by rw [hs]; exact hhb)), na, os, ag, q1 G1 σ1 H1 cls d e1 ke⟩)
        first
          | exact wpAny_bind (wpAny_pure (wpAny_bind fin))
          | exact wpAny_bind fin
      | @un x c t o b₀ suite np hp hds2 l2 hc ht hsu r ih =>
        rintro ⟨G1, ρ1, er, e1, ke, q1⟩
        obtain ⟨ec, _, _⟩ := id ke
        refine wpAny_handleBy_cons (codeAny_handlers_test ?_) (by intro q; cases q)
        have q2 : SG X.K B W Dn (match t er.cls with
          | some true => (o (enterX none er ρ1)).leave none
          | some false => hdGo l2 er ρ1
          | none => .stuck) := q1
        cases hte : t er.cls with
        | none => rw [hte] at q2; exact q2.elim
        | some b =>
          rw [hte] at q2
          have LM := PySem.W.exm_one (M := model X.prog X.w) Ja.kIn LT (by rw [ec]; exact ht _ _ hte)
          refine test hc (LM.here ?_)
          cases b with
          | false =>
            show wpAny _ X.A (handleBy (.ref a) X.env hds2) _ _ _
            exact ih ⟨G1, ρ1, er, e1, ke, q2⟩
          | true =>
            refine codeAny_handlers_suite (HandSPX.lands_againZ fla fun hb' flb upb => ?_)
            have Jb : Inv X pins σ1 H1 { s' with heap := hb' } := J0.landed nb flb.1 ((up.trans upa).trans upb) os ag
            obtain ⟨oeb, vsb, heb, hzb, hdb⟩ := flb.there
            have Sb := Jb.suite heb hdb na nL nF
            refine wpAny_mono ((hsu a oeb cls d (X.pn ++ pins) hzb ⟨_, hdb⟩).run [] _ σ1 H1 Dn Sb ⟨G1, _, e1.dropX _, SG.leave (i := none) q2⟩) (fun f s6 hsp => ?_) (fun _ _ z => False.elim z)
            cases f with
            | next =>
              obtain ⟨σ6, H6, S6, q6⟩ := hsp
              exact ⟨_, _, S6.unsuite okX, q6⟩
            | brk =>
              obtain ⟨σ6, H6, S6, q6⟩ := hsp
              exact ⟨_, _, S6.unsuite okX, q6⟩
            | cont =>
              obtain ⟨σ6, H6, S6, q6⟩ := hsp
              exact ⟨_, _, S6.unsuite okX, q6⟩
            | ret u =>
              obtain ⟨v6, σ6, H6, S6, r6, q6⟩ := hsp
              exact ⟨_, _, _, S6.unsuite okX, r6, q6⟩
      | @as x n i c t o b₀ suite np hp hds2 l2 hc ht hi hln hsu r ih =>
        rintro ⟨G1, ρ1, er, e1, ke, q1⟩
        obtain ⟨ec, _, _⟩ := id ke
        refine wpAny_handleBy_cons (codeAny_handlers_test ?_) (by intro q; cases q)
        have q2 : SG X.K B W Dn (match t er.cls with
          | some true => (o (enterX (some i) er ρ1)).leave (some i)
          | some false => hdGo l2 er ρ1
          | none => .stuck) := q1
        cases hte : t er.cls with
        | none => rw [hte] at q2; exact q2.elim
        | some b =>
          rw [hte] at q2
          have LM := PySem.W.exm_one (M := model X.prog X.w) Ja.kIn LT (by rw [ec]; exact ht _ _ hte)
          refine test hc (LM.here ?_)
          cases b with
          | false =>
            show wpAny _ X.A (handleBy (.ref a) X.env hds2) _ _ _
            exact ih ⟨G1, ρ1, er, e1, ke, q2⟩
          | true =>
            refine codeAny_handlers_suite_as (HandSPX.lands_againZ fla fun hb' flb upb => ?_)
            have Jb : Inv X pins σ1 H1 { s' with heap := hb' } := J0.landed nb flb.1 ((up.trans upa).trans upb) os ag
            obtain ⟨oeb, vsb, heb, hzb, hdb⟩ := flb.there
            have Sb := Jb.suite heb hdb na nL nF
            have eb := (e1.dropX (some (a, cls, d))).setExn i rfl ke
            refine store_ok (X := X.suite a ((a, oeb) :: (X.pn ++ pins))) (v := .ref a) Sb hN hi (.inl hln) rfl (fun s5 S5 => ?_) (.inr hln)
            refine wpAny_mono ((hsu a oeb cls d (X.pn ++ pins) hzb ⟨_, hdb⟩).run [] s5 _ H1 (endsX (some i) Dn) S5 ⟨G1, _, eb, SG.leave (i := some i) q2⟩) (fun f s6 hsp => ?_) (fun _ _ z => False.elim z)
            have gone : ∀ {σ6 : St} {H6 : Hp} {Q : Shared → Prop}, Inv (X.suite a ((a, oeb) :: (X.pn ++ pins))) [] σ6 H6 s6 → (∀ s7, Inv X pins (σ6.set i none) H6 s7 → Q s7) →
                wpAny (model X.prog X.w) X.A (do bindName X.env n .none; unbindBehindTheSuite X.env n hp) (fun _ s7 => Q s7) X.xe s6 := fun {σ6 H6 Q} S6 hq => gone_ok (S6.unsuite okX) hN hi hln hq
            cases f with
            | next =>
              obtain ⟨σ6, H6, S6, q6⟩ := hsp
              exact gone S6 fun s7 J7 => ⟨_, _, J7, q6⟩
            | brk =>
              obtain ⟨σ6, H6, S6, q6⟩ := hsp
              exact gone S6 fun s7 J7 => ⟨_, _, J7, q6⟩
            | cont =>
              obtain ⟨σ6, H6, S6, q6⟩ := hsp
              exact gone S6 fun s7 J7 => ⟨_, _, J7, q6⟩
            | ret u =>
              obtain ⟨v6, σ6, H6, S6, r6, q6⟩ := hsp
              exact gone S6 fun s7 J7 => ⟨_, _, _, J7, r6, q6⟩
    exact walk hh w
  · cases f with
    | next =>
      obtain ⟨σ1, H1, J1, q1⟩ := hsp
      exact wpAny_execs_nil ⟨σ1, H1, J1.ofTry okX, q1⟩
    | brk =>
      obtain ⟨σ1, H1, J1, q1⟩ := hsp
      exact ⟨σ1, H1, J1.ofTry okX, q1⟩
    | cont =>
      obtain ⟨σ1, H1, J1, q1⟩ := hsp
      exact ⟨σ1, H1, J1.ofTry okX, q1⟩
    | ret u =>
      obtain ⟨v1, σ1, H1, J1, r1, q1⟩ := hsp
      exact ⟨v1, σ1, H1, J1.ofTry okX, r1, q1⟩
end
def mXf (i : Nat) (f : Nm) : Ev → Res D := fun ρ => match ρ[i]? with
  | some (.exn er) => ofOpt (er.fs.lookup f)
  | _ => .stuck
def mXi (i : Nat) (t : Cl → Option Bool) : Ev → Res D := fun ρ => match ρ[i]? with
  | some (.exn er) => ofOpt (t er.cls) >>= fun b => .ok (.bl b)
  | _ => .stuck
section
variable {X : Cx} {B : Base} {W : WX} {a : Addr} {oe : Obj} {cls : Value} {d : Option Addr} {pn : List (Addr × Obj)} {pos : Pos}
theorem exn_at {K : PySem.W.Frag} {G H : Hp} {σ : St} {ρ : Ev} {i : Nat} {er : Err} (e : EnvOk K (B.xat (some (a, cls, d))) G σ ρ H) (h : ρ[i]? = some (.exn er)) : σ[i]? = some (some (.ref a)) ∧ ErrOk K G H cls d er := by
  obtain ⟨a', c', d', e1, e2, e3⟩ := e.slot i _ h
  cases (show some (a, cls, d) = some (a', c', d') from e1)
  exact ⟨e2, e3⟩
theorem me_xf (i : Nat) (f : Nm) {x fs : Str} {p1 : Pos} (hz : Zc cls d oe) (hd : ∃ vs, oe.data = .fields vs) (hfs : f.s = fs := by rfl) (hN : X.N[i]? = some x := by rfl) (hv : Vis X.env.scope x := by first | exact Or.inl rfl | exact Or.inr (Or.inl rfl) | exact Or.inr (Or.inr rfl)) (hdb : (x == ("__debug__" : Str)) = false := by decide) (hcd : (x == ("__classdict__" : Str)) = false := by decide)
    (hb : attributeBase (.Name x p1) fs X.env (eval (.Name x p1) X.env) = eval (.Name x p1) X.env := by rfl) :
    PE (X.suite a ((a, oe) :: pn)) (.Attribute (.Name x p1) fs pos) (tM X.K (B.xat (some (a, cls, d))) W (mXf i f)) := by
  subst hfs
  refine ⟨fun pins s σ H Q I ⟨G, ρ, e, q⟩ => ?_⟩
  unfold mXf at q
  split at q
  · rename_i er hs
    obtain ⟨hv1, ke⟩ := exn_at e hs
    obtain ⟨k1, ⟨kx, kn⟩, k3⟩ := ke
    subst k1
    obtain ⟨dd, hl, q⟩ := RG.opt q
    have hm : (f, dd) ∈ er.fs := me_fld.mem_of_lookup hl
    rcases k3 with ⟨k3, _⟩ | ⟨dx, fv, ed, ea, rf⟩
    · rw [k3] at hm; cases hm
    · subst ed
      obtain ⟨w, e2, r2⟩ := rf.lookup hl
      exact (pe_xf (C := ca X.K er.cls) (n := f.s) kx.xf (kn _ hm) hz hd (pe_var (X := X.suite a ((a, oe) :: pn)) (i := i) hN hv hdb hcd) hb).run pins s σ H Q I ⟨_, hv1, rfl, rfl, dx, fv, w, rfl, ea, e2, RG.here e.sub q r2⟩
  · exact q.elim
/-- isinstance of the caught error, with or without a dict -/
theorem call_isX {er : Err} {G0 : Hp} (hz : Zc cls d oe) (hd : ∃ vs, oe.data = .fields vs) (hc : cls = .ref (ca X.K er.cls)) (kx : XcF X.K er.cls) : CallR (X.suite a ((a, oe) :: pn)) (.builtin "isinstance") (fun xs H Q => ∃ (c : V) (u : Value) (b : Bool), xs = [.ref a, c] ∧ (∀ w, RelV c w → w = u) ∧ (d = none ∨ ∃ dx fv, d = some dx ∧ H dx = some (.xd fv)) ∧ PySem.W.kitOne X.K cls u = some b ∧ Q (.bl b) H) := by
  intro pins s σ H xs us Q I r h
  obtain ⟨c, u, b, rfl, hcv, hdx, hk, q⟩ := h
  cases r with
  | cons rx rr =>
    cases rr with
    | cons rt rr =>
      cases rr
      cases rx
      obtain rfl := hcv _ rt
      obtain ⟨ha, _⟩ := I.pin (a, oe) (List.mem_append_left _ List.mem_cons_self)
      obtain ⟨vs, hdat⟩ := hd
      have nc : PySem.W.notCls oe = true := by unfold PySem.W.notCls; rw [hdat] <;> rfl
      have E := kx.ec
      have hcl : (PySem.W.clsIn X.K (ca X.K er.cls)).isSome = true := by
        obtain ⟨cd, hc, _⟩ := PySem.W.any_some E.hd
        rw [hc]
        rfl
      rw [hc] at hk
      obtain ⟨od, J⟩ : ∃ od, PySem.W.InstAt s.heap a oe (ca X.K er.cls) od := by
        rcases hdx with hdx | ⟨dx, fv, hdx, hH⟩
        · exact ⟨none, ha, hz.1.trans hc, nc, by rw [hz.2, hdx]; trivial⟩
        · have hx : ObjOk X.prog X.w H s.heap dx (.xd fv) := I.hok dx _ hH
          obtain ⟨mA, hns, _⟩ := hx
          obtain ⟨od, ho, _⟩ := lookIn_ns hns
          exact ⟨some od, ha, hz.1.trans hc, nc, by rw [hz.2, hdx]; exact ho⟩
      exact PySem.W.kia_one (PySem.W.kitx_exc hcl E.hg E.hk E.hs E.ha E.hn E.ht E.hm) I.kIn J hk (fun z => nomatch z) fun tk => ⟨.bl b, H, I.kept (t' := tk) fun _ _ z => z, rfl, q⟩
theorem me_xi (i : Nat) {t : Cl → Option Bool} {x : Str} {ce : Expr} {cv : V} {u : Value} {p p1 : Pos} (hz : Zc cls d oe) (hd : ∃ vs, oe.data = .fields vs) (hrel : ∀ w, RelV cv w → w = u) (ht : ∀ k b, t k = some b → PySem.W.kitOne X.K (.ref (ca X.K k)) u = some b) (hce : PE (X.suite a ((a, oe) :: pn)) ce (tC cv)) (hg : Gl X "isinstance") (hm : X.mg "isinstance" = none)
    (hN : X.N[i]? = some x := by rfl) (hv : Vis X.env.scope x := by first | exact Or.inl rfl | exact Or.inr (Or.inl rfl) | exact Or.inr (Or.inr rfl)) (hdb : (x == ("__debug__" : Str)) = false := by decide) (hcd : (x == ("__classdict__" : Str)) = false := by decide)
    (hs1 : starEach [.Name x p1, ce] X.env = (false, eval (.Name x p1) X.env) :: starEach [ce] X.env := by rfl) (hs2 : starEach [ce] X.env = (false, eval ce X.env) :: starEach [] X.env := by rfl) (hpl : (backTo pos (starEach [ce] X.env)).any (·.1) = false := by rfl) :
    PE (X.suite a ((a, oe) :: pn)) (.Call (.Name "isinstance" p) [.Name x p1, ce] [] pos) (tM X.K (B.xat (some (a, cls, d))) W (mXi i t)) := by
  refine ⟨fun pins s σ H Q I ⟨G, ρ, e, q⟩ => ?_⟩
  unfold mXi at q
  split at q
  · rename_i er hs
    obtain ⟨hv1, ke⟩ := exn_at e hs
    obtain ⟨k1, ⟨kx, kn⟩, k3⟩ := ke
    cases hte : t er.cls with
    | none => rw [hte] at q; exact q.elim
    | some b =>
      rw [hte] at q
      refine (pe_callB (X := X.suite a ((a, oe) :: pn)) (call_isX (G0 := G) hz hd k1 kx) hg hm (by kernel_rfl) (pa_cons (pe_var (X := X.suite a ((a, oe) :: pn)) (i := i) hN hv hdb hcd) (pa_cons hce pa_nil hs2) hs1) (by decide) (by decide) hs1 hpl).run pins s σ H Q I ⟨_, hv1, cv, u, b, rfl, hrel, ?_, by rw [k1]; exact ht _ _ hte, q G _ H (.refl e.sub) (.bl b)⟩
      rcases k3 with ⟨_, k3⟩ | ⟨dx, fv, ed, ea, _⟩
      · exact .inl k3
      · exact .inr ⟨dx, fv, ed, ea⟩
  · exact q.elim
end
end PL
namespace PL
open PySem PySem.Spec L2
open PyProof.Rows (b2i)
/-- the slots at the entry -/
def ev0 (n : Nat) (ds : List D) : Ev := ds.map .dat ++ List.replicate (n - ds.length) .no
/-- a body's end as a call's -/
def Out.fin : Out → Res D
  | .rt d _ => .ok d
  | .nx _ => .ok .non
  | .exc e _ => .exc e
  | _ => .stuck
@[irreducible] def mDef (n : Nat) (o : Ev → Out) : List D → Res D := fun ds => (o (ev0 n ds)).fin
def Base.of (G H : Hp) (fr : Nat := 0) : Base := ⟨G, H, none, none, fr⟩
theorem env_start {K : PySem.W.Frag} {G H : Hp} {N : List Str} {vs : List V} {ds : List D} {fr : Nat} (s : Ext G H) (r : Reps K G vs ds) : EnvOk K (Base.of G H fr) G (L2.start N vs) (ev0 N.length ds) H := by
  refine ⟨.refl s, ?_, fun i sl q => ?_, fun i j sl t q1 q2 n a f1 f2 => ?_⟩
  · unfold L2.start ev0
    rw [List.length_append, List.length_append, List.length_map, List.length_map, List.length_replicate, List.length_replicate, r.length]
  · unfold ev0 at q
    by_cases hi : i < ds.length
    · rw [List.getElem?_append_left (by simpa using hi), List.getElem?_map] at q
      obtain ⟨d, hd, e⟩ := Option.map_eq_some_iff.mp q
      subst e
      obtain ⟨v, hv, rv⟩ := r.getD hd
      refine ⟨v, ?_, rv⟩
      unfold L2.start
      rw [List.getElem?_append_left (by rw [List.length_map, r.length]; exact hi), List.getElem?_map, hv]
      rfl
    · rw [List.getElem?_append_right (by simpa using hi), List.getElem?_replicate] at q
      split at q <;> cases q
      trivial
  · unfold ev0 at q1
    by_cases hi : i < ds.length
    · rw [List.getElem?_append_left (by simpa using hi), List.getElem?_map] at q1
      obtain ⟨d, hd, e⟩ := Option.map_eq_some_iff.mp q1
      subst e
      exact foot_dat f1
    · rw [List.getElem?_append_right (by simpa using hi), List.getElem?_replicate] at q1
      split at q1 <;> cases q1
      exact foot_no f1
section
variable {T : Tk} {K : PySem.W.Frag} {k n j : Nat} {x qual : Str} {params : Arguments} {body : List Stmt} {scope : Scope} {dvs : List V} {kws : List (Str × V)} {f : Addr} {fd : FuncData} {N ps : List Str} {o : Ev → Out}
abbrev cxT (T : Tk) (N : List Str) (qual : Str) (scope : Scope) (f : Addr) (cdv : Value) (A : Around) (outer : List Env) (s : Shared) (H : Hp) (E : XK) : Cx := cxOf (L2.CX T.P T.w) T.P T.w T.K T.mg T.base N qual scope f cdv A outer s H E
/-- what a def promises -/
def spD (K : PySem.W.Frag) (j : Nat) (m : List D → Res D) : Sp := fun vs H Q E => vs.length = j ∧ ∃ G ds, Ext G H ∧ Reps K G vs ds ∧ RG (Rep K) K E G H Q (m ds)
/-- a body read so, by a frame of the def -/
abbrev BodyOk (T : Tk) (k : Nat) (N : List Str) (qual : Str) (scope : Scope) (f : Addr) (body : List Stmt) (o : Ev → Out) : Prop :=
  ∀ (cdv : Value) (A : Around) (outer : List Env) (s : Shared) (H : Hp) (E : XK), Room k (A.deeper (PyProof.Rows.envOfC qual scope s.heap.objs.size f cdv)) → ∀ B : Base, B.fr = 0 → PSs (cxT T N qual scope f cdv A outer s H E) body (tS T.K B (fun c d _ H' => E c d H') o)
theorem fnD (F : FunD T.K x qual params body scope dvs kws f fd) (S : FnScope N ps scope) (hb : BodyOk T k N qual scope f body o) : FnOk T.P T.w T.K T.mg T.base (L2.CX T.P T.w) (k + 1) f fd ps (spD T.K ps.length (mDef N.length o)) :=
  F.ok S (fun vs H Q E h => h.1) fun cdv A outer s H vs Q E hr ⟨hl, G, ds, e, r, q⟩ => ⟨_, hb cdv A outer s H E hr (Base.of G H) rfl, G, _, env_start e r, by
    have q' : RG (Rep T.K) T.K E G H Q (o (ev0 N.length ds)).fin := by unfold mDef at q; exact q
    cases ho : o (ev0 N.length ds) with
    | rt d ρ => rw [ho] at q'; exact fun G' σ H' v e' => q' G' v H' (e'.dat rfl).1.grow (e'.dat rfl).2
    | nx ρ => rw [ho] at q'; exact fun G' σ H' e' => q' G' _ H' e'.grow .non
    | exc er ρ => rw [ho] at q'; exact fun G' σ H' c d e' kk => q' G' c d H' e'.grow kk
    | bk ρ => rw [ho] at q'; exact q'.elim
    | ct ρ => rw [ho] at q'; exact q'.elim
    | stuck => rw [ho] at q'; exact q'⟩
/-- called with j values, defaults behind them -/
theorem FnM.of {m : List D → Res D} {dd : List Value} {dv : List V} {df : List D} (F : FnOk T.P T.w T.K T.mg T.base (L2.CX T.P T.w) k f fd ps (spD T.K ps.length m)) (hb : Binds T.K fd ps dd) (hd : Vals dv dd) (rd : ∀ G, Reps T.K G dv df) (hj : j + dv.length = ps.length) :
    FnM T k f j (fun ds => m (ds ++ df)) := by
  intro A outer s G H us vs ds Q E hr e0 r hl e rr h
  have r2 := r.append hd
  have l2 : (us ++ dd).length = ps.length := by rw [← r2.length, List.length_append, hl]; exact hj
  exact F.run A outer s H ⟨us, []⟩ (us ++ dd) (vs ++ dv) Q E hr e0 (hb s us (e0.mod.kin.keeps fun b o q => (e0.bs b o q).1) l2) r2 ⟨by rw [List.length_append, hl]; exact hj, G, ds ++ df, e, rr.append (rd G), h⟩
/-- every parameter is written -/
theorem FnM.of0 {m : List D → Res D} (F : FnOk T.P T.w T.K T.mg T.base (L2.CX T.P T.w) k f fd ps (spD T.K ps.length m)) (hb : Binds T.K fd ps []) (hj : j = ps.length := by rfl) : FnM T k f j m := by
  have z := FnM.of (df := []) (j := j) F hb .nil (fun _ => .nil) hj
  simpa only [List.append_nil] using z
/-- called with keywords ks behind j values; g puts them into the parameters' order -/
theorem FnKM.of {m : List D → Res D} {ks : List Str} {g : List Value → List Value → List Value} {gV : List V → List V → List V} {gD : List D → List D → List D} (F : FnOk T.P T.w T.K T.mg T.base (L2.CX T.P T.w) k f fd ps (spD T.K ps.length m)) (hb : KBn T.K fd ps j ks g gV)
    (hg : ∀ G vs zs ds es, vs.length = j → zs.length = ks.length → Reps T.K G vs ds → Reps T.K G zs es → Reps T.K G (gV vs zs) (gD ds es) ∧ (gV vs zs).length = ps.length) : FnKM T k f j ks (fun ds es => m (gD ds es)) := by
  intro A outer s G H us ws vs zs ds es Q E hr e0 r rz hl hz e rr rrz h
  obtain ⟨k1, k2⟩ := hg G vs zs ds es hl hz rr rrz
  exact F.run A outer s H ⟨us, ks.zip ws⟩ (g us ws) (gV vs zs) Q E hr e0 (hb.to s us ws (e0.mod.kin.keeps fun b o q => (e0.bs b o q).1) (r.length.symm.trans hl) (rz.length.symm.trans hz)) (hb.rel r rz) ⟨k2, G, gD ds es, e, k1, h⟩
end
def Out.ini (c : Cl) : Out → Res (List (Nm × D))
  | .nx (.ins c' fs :: _) => if c' = c then .ok fs else .stuck
  | .rt .non (.ins c' fs :: _) => if c' = c then .ok fs else .stuck
  | .exc e _ => .exc e
  | _ => .stuck
def mIni (c : Cl) (n : Nat) (o : Ev → Out) : List D → Res (List (Nm × D)) := fun ds => (o ((ev0 n (.non :: ds)).set 0 (.ins c []))).ini c
section
variable {T : Tk} {k n j : Nat} {c : Cl} {x qual : Str} {params : Arguments} {body : List Stmt} {scope : Scope} {dvs : List V} {kws : List (Str × V)} {f : Addr} {fd : FuncData} {N ps : List Str} {o : Ev → Out}
def IG (K : PySem.W.Frag) (c : Cl) (E : XK) (G H : Hp) (Q : VK) (x dx : Addr) : Res (List (Nm × D)) → Prop
  | .ok fs => ∀ G' H' fv, Grow G (fun a => if a = x then none else H a) G' H' → G' x = none → H' x = some (.ins (ca K c) dx fv) → AtF K c fs → RepF K G' fv fs → Q .non H'
  | .exc e => ∀ G' H' cls d, Grow G (fun a => if a = x then none else H a) G' H' → ErrOk K G' H' cls d e → E cls d H'
  | .stuck => False
/-- what an __init__ promises -/
def spI (K : PySem.W.Frag) (c : Cl) (j : Nat) (m : List D → Res (List (Nm × D))) : Sp := fun vs H Q E => vs.length = j + 1 ∧ ∃ x dx ws G ds, vs = .ref x :: ws ∧ H x = some (.ins (ca K c) dx []) ∧ G x = none ∧ (∀ a o, a ≠ x → G a = some o → H a = some o) ∧ Reps K G ws ds ∧ ClF K c ∧ IG K c E G H Q x dx (m ds)
theorem env_init {K : PySem.W.Frag} {G H : Hp} {N : List Str} {vs : List V} {ds : List D} {x dx : Addr} (hx : H x = some (.ins (ca K c) dx [])) (gx : G x = none) (s : ∀ a o, a ≠ x → G a = some o → H a = some o) (r : Reps K G vs ds) (hc : ClF K c) (hN : 0 < N.length) :
    EnvOk K ⟨G, fun a => if a = x then none else H a, none, some (x, dx), 0⟩ G (L2.start N (.ref x :: vs)) ((ev0 N.length (.non :: ds)).set 0 (.ins c [])) H := by
  have sub : Ext G H := fun a o q => s a o (fun z => by rw [z, gx] at q; cases q) q
  have len : (L2.start N (.ref x :: vs)).length = (ev0 N.length (.non :: ds)).length := by
    unfold L2.start ev0
    rw [List.length_append, List.length_append, List.length_map, List.length_map, List.length_replicate, List.length_replicate, List.length_cons, List.length_cons, r.length]
  have pos : 0 < (ev0 N.length (.non :: ds)).length := by unfold ev0; rw [List.length_append, List.length_map, List.length_cons]; omega
  have other : ∀ {i : Nat} {sl : Sl}, i ≠ 0 → (ev0 N.length (.non :: ds))[i]? = some sl → (sl = .no ∨ ∃ d v, sl = .dat d ∧ (L2.start N (.ref x :: vs))[i]? = some (some v) ∧ Rep K G v d) := fun {i sl} h0 q => by
    obtain ⟨i, rfl⟩ := Nat.exists_eq_succ_of_ne_zero h0
    unfold ev0 at q
    by_cases hi : i < ds.length
    · rw [List.getElem?_append_left (by rw [List.length_map, List.length_cons]; omega), List.getElem?_map] at q
      obtain ⟨d, hd, e⟩ := Option.map_eq_some_iff.mp q
      subst e
      obtain ⟨v, hv, rv⟩ := r.getD (show ds[i]? = some d from hd)
      refine .inr ⟨d, v, rfl, ?_, rv⟩
      unfold L2.start
      rw [List.getElem?_append_left (by rw [List.length_map, List.length_cons, r.length]; omega), List.getElem?_map]
      show ((vs[i]?).map some) = _
      rw [hv]
      rfl
    · rw [List.getElem?_append_right (by rw [List.length_map, List.length_cons]; omega), List.getElem?_replicate] at q
      split at q <;> cases q
      exact .inl rfl
  refine ⟨⟨.refl, fun a o q => ?_, sub, fun a o q => .inl q⟩, by rw [List.length_set]; exact len, fun i sl q => ?_, fun i j sl t q1 q2 n a f1 f2 => ?_⟩
  · by_cases z : a = x
    · exact absurd (show (if a = x then none else H a) = some o from q) (by rw [if_pos z]; exact fun w => nomatch w)
    · have w : (if a = x then none else H a) = some o := q
      rw [if_neg z] at w
      exact w
  · by_cases h0 : i = 0
    · subst h0
      rw [List.getElem?_set_self pos] at q
      cases q
      exact ⟨x, dx, [], rfl, hx, ⟨hc, fun p hp => by cases hp⟩, .nil, gx, if_pos rfl, rfl⟩
    · rw [List.getElem?_set_ne (Ne.symm h0)] at q
      rcases other h0 q with rfl | ⟨d, v, rfl, hv, rv⟩
      · trivial
      · exact ⟨v, hv, rv⟩
  · have z : ∀ {i : Nat} {sl : Sl}, ((ev0 N.length (.non :: ds)).set 0 (.ins c []))[i]? = some sl → foot H (L2.start N (.ref x :: vs))[i]? sl a → i = 0 := fun {i sl} q f => by
      refine Classical.byContradiction fun h0 => ?_
      rw [List.getElem?_set_ne (Ne.symm h0)] at q
      rcases other h0 q with rfl | ⟨d, v, rfl, _⟩
      · exact foot_no f
      · exact foot_dat f
    exact n ((z q1 f1).trans (z q2 f2).symm)
theorem iniD (F : FunD T.K x qual params body scope dvs kws f fd) (S : FnScope N ps scope) (hb : BodyOk T k N qual scope f body o) (hc : ClF T.K c) (hj : ps.length = j + 1) : FnOk T.P T.w T.K T.mg T.base (L2.CX T.P T.w) (k + 1) f fd ps (spI T.K c j (mIni c N.length o)) :=
  F.ok S (fun vs H Q E h => by rw [h.1, hj]) fun cdv A outer s H vs Q E hr ⟨hl, x, dx, ws, G, ds, ev, hx, gx, sb, r, _, q⟩ => by
    subst ev
    have hN : 0 < N.length := by
      have := congrArg List.length S.pre
      rw [List.length_take] at this
      omega
    refine ⟨_, hb cdv A outer s H E hr ⟨G, fun a => if a = x then none else H a, none, some (x, dx), 0⟩ rfl, G, _, env_init hx gx sb r hc hN, ?_⟩
    have q' : IG T.K c E G H Q x dx ((o ((ev0 N.length (.non :: ds)).set 0 (.ins c []))).ini c) := q
    have fin : ∀ {G' σ H' c' fs r}, EnvOk T.K ⟨G, fun a => if a = x then none else H a, none, some (x, dx), 0⟩ G' σ (.ins c' fs :: r) H' → IG T.K c E G H Q x dx (if c' = c then .ok fs else .stuck) → Q .non H' := fun {G' σ H' c' fs r} e' w => by
      by_cases z : c' = c
      · subst z
        rw [if_pos rfl] at w
        obtain ⟨l, dx', fv, _, h1, h2, h3, h4, _, h5⟩ := e'.slot 0 _ rfl
        cases (show some (x, dx) = some (l, dx') from h5)
        exact w G' H' fv e'.grow h4 h1 h2 h3
      · rw [if_neg z] at w
        exact w.elim
    cases ho : o ((ev0 N.length (.non :: ds)).set 0 (.ins c [])) with
    | nx ρ =>
      rw [ho] at q'
      intro G' σ H' e'
      match ρ, q', e' with
      | .ins c' fs :: r, q', e' => exact fin e' q'
      | [], q', _ => exact q'.elim
      | .no :: _, q', _ => exact q'.elim
      | .dat _ :: _, q', _ => exact q'.elim
      | .own _ :: _, q', _ => exact q'.elim
      | .own2 _ :: _, q', _ => exact q'.elim
      | .exn _ :: _, q', _ => exact q'.elim
    | rt d ρ =>
      rw [ho] at q'
      intro G' σ H' v e1
      obtain ⟨e', rv⟩ := e1.dat rfl
      clear e1
      cases rv with
      | non =>
        match ρ, q', e' with
        | .ins c' fs :: r, q', e' => exact fin e' q'
        | [], q', _ => exact q'.elim
        | .no :: _, q', _ => exact q'.elim
        | .dat _ :: _, q', _ => exact q'.elim
        | .own _ :: _, q', _ => exact q'.elim
        | .own2 _ :: _, q', _ => exact q'.elim
        | .exn _ :: _, q', _ => exact q'.elim
      | _ => exact q'.elim
    | exc er ρ => rw [ho] at q'; exact fun G' σ H' c d e' kk => q' G' H' c d e'.grow kk
    | bk ρ => rw [ho] at q'; exact q'.elim
    | ct ρ => rw [ho] at q'; exact q'.elim
    | stuck => rw [ho] at q'; exact q'
theorem InM.of {m : List D → Res (List (Nm × D))} {dd : List Value} {dv : List V} {df : List D} {l : Nat} (hc : ClF T.K c) (F : FnOk T.P T.w T.K T.mg T.base (L2.CX T.P T.w) k f fd ps (spI T.K c l m)) (hb : Binds T.K fd ps dd) (hd : Vals dv dd) (rd : ∀ G, Reps T.K G dv df) (hp : ps.length = l + 1) (hj : j + dv.length = l) :
    InM T k f c j (fun ds => m (ds ++ df)) := by
  intro A outer s G H x dx us vs ds Q E hr e0 r hl hx gx sb rr h
  have r2 : Vals (.ref x :: (vs ++ dv)) (.ref x :: (us ++ dd)) := .cons rfl (r.append hd)
  have l3 : (V.ref x :: (vs ++ dv)).length = l + 1 := by rw [List.length_cons, List.length_append, hl, hj]
  have l2 : (.ref x :: us ++ dd).length = ps.length := by rw [hp, ← l3]; exact r2.length.symm
  refine F.run A outer s H ⟨.ref x :: us, []⟩ (.ref x :: us ++ dd) (.ref x :: (vs ++ dv)) Q E hr e0 (hb s (.ref x :: us) (e0.mod.kin.keeps fun b o q => (e0.bs b o q).1) l2) r2 ⟨l3, x, dx, vs ++ dv, G, ds ++ df, rfl, hx, gx, sb, rr.append (rd G), hc, ?_⟩
  cases hm : m (ds ++ df) with
  | ok fs => simp only [hm] at h; exact h
  | exc e => simp only [hm] at h; exact h
  | stuck => simp only [hm] at h
theorem InM.of0 {m : List D → Res (List (Nm × D))} (hc : ClF T.K c) (F : FnOk T.P T.w T.K T.mg T.base (L2.CX T.P T.w) k f fd ps (spI T.K c j m)) (hb : Binds T.K fd ps []) (hp : ps.length = j + 1 := by rfl) : InM T k f c j m := by
  have z := InM.of (df := []) (j := j) hc F hb .nil (fun _ => .nil) hp rfl
  simpa only [List.append_nil] using z
end
/-- self.f = e -/
def oFld (i : Nat) (c : Cl) (n : Nm) (m : Ev → Res D) : Ev → Out := fun ρ => Out.of (m ρ) ρ fun d => match ρ[i]? with
  | some (.ins c' fs) => oChk (c' = c ∧ fs.length < 1000) (.nx (ρ.set i (.ins c (putD n d fs))))
  | _ => .stuck
/-- self.f -/
def mIns (i : Nat) (n : Nm) : Ev → Res D := fun ρ => match ρ[i]? with
  | some (.ins _ fs) => ofOpt (fs.lookup n)
  | _ => .stuck
theorem RepF.put {K : PySem.W.Frag} {G : Hp} {n : Nm} {v : V} {d : D} (r : Rep K G v d) : ∀ {fv : List (Str × V)} {fs : List (Nm × D)}, RepF K G fv fs → RepF K G (putF n.s v fv) (putD n d fs)
  | _, _, .nil => .cons r .nil
  | _, _, .cons (n := m) (v := w) (d := c) q t => by
    unfold putF putD
    by_cases z : n = m
    · subst z
      rw [if_pos rfl, if_pos rfl]
      exact .cons r t
    · rw [if_neg z, if_neg fun y => z (Nm.inj y.symm)]
      exact .cons q (RepF.put r t)
theorem putD_mem {n : Nm} {d : D} {p : Nm × D} : ∀ {fs : List (Nm × D)}, p ∈ putD n d fs → p = (n, d) ∨ p ∈ fs
  | [], h => .inl (List.mem_singleton.mp h)
  | (m, c) :: r, h => by
    unfold putD at h
    by_cases z : n = m
    · rw [if_pos z] at h
      rcases List.mem_cons.mp h with h | h
      · exact .inl h
      · exact .inr (List.mem_cons_of_mem _ h)
    · rw [if_neg z] at h
      rcases List.mem_cons.mp h with h | h
      · exact .inr (h ▸ List.mem_cons_self)
      · rcases putD_mem h with h | h
        · exact .inl h
        · exact .inr (List.mem_cons_of_mem _ h)
section
variable {X : Cx} {B : Base} {W : WX} {e : Expr} {m : Ev → Res D} {pos p' p1 : Pos} {x fs : Str}
theorem ms_fld (i : Nat) (c : Cl) (n : Nm) (na : NoAttr X.K (ca X.K c) n.s) (he : PE X e (tM X.K B W m)) (hn : n.s = fs := by rfl) (hN : X.N[i]? = some x := by rfl) (hv : Vis X.env.scope x := by first | exact Or.inl rfl | exact Or.inr (Or.inl rfl) | exact Or.inr (Or.inr rfl)) (hd : (x == ("__debug__" : Str)) = false := by decide) (hcd : (x == ("__classdict__" : Str)) = false := by decide)
    (hs : swapsWith e (some (.Attribute (.Name x p1) fs p')) pos.line X.env = pure false := by rfl) : PS X (.Assign [.Attribute (.Name x p1) fs p'] e pos) (tS X.K B W (oFld i c n m)) := by
  subst hn
  refine PS.imp (ps_fld (pe_var (i := i) hN hv hd hcd) he hs) fun Dn σ H ⟨G, ρ, e0, q⟩ => ⟨G, ρ, e0, SG.of e0 q fun d G1 v H1 _ g e1 r q1 => ?_⟩
  cases hs : ρ[i]? with
  | none => rw [hs] at q1; exact q1.elim
  | some s =>
    rw [hs] at q1
    cases s with
    | ins c' fs =>
      obtain ⟨⟨ec, hz⟩, q1⟩ := SG.chk (show SG X.K B W Dn (oChk (c' = c ∧ fs.length < 1000) (.nx (ρ.set i (.ins c (putD n d fs))))) from q1)
      subst ec
      obtain ⟨l, dx, fv, hv, hl, af, rf, gl, bl, me⟩ := e1.slot i _ hs
      have af2 : AtF X.K c' (putD n d fs) := ⟨af.1, fun p hp => by
        rcases putD_mem hp with rfl | hp
        · exact na
        · exact af.2 p hp⟩
      refine ⟨_, hv, l, ca X.K c', dx, fv, rfl, hl, af.1.cls, na, by rw [rf.length]; exact hz, q1 G1 σ _ (e1.change hs (by rw [hv]; exact rfl) (by rw [hv]; exact ⟨l, dx, _, rfl, upd_same, af2, rf.put r, gl, bl, me⟩) fun b f => .inl (by rw [hv] at f ⊢; exact f))⟩
    | _ => exact q1.elim
theorem me_ins (i : Nat) (n : Nm) (hn : n.s = fs := by rfl) (hN : X.N[i]? = some x := by rfl) (hv : Vis X.env.scope x := by first | exact Or.inl rfl | exact Or.inr (Or.inl rfl) | exact Or.inr (Or.inr rfl)) (hd : (x == ("__debug__" : Str)) = false := by decide) (hcd : (x == ("__classdict__" : Str)) = false := by decide)
    (hb : attributeBase (.Name x p1) fs X.env (eval (.Name x p1) X.env) = eval (.Name x p1) X.env := by rfl) : PE X (.Attribute (.Name x p1) fs pos) (tM X.K B W (mIns i n)) := by
  subst hn
  refine PE.imp (pe_fld (pe_var (i := i) hN hv hd hcd) hb) fun σ H Q ⟨G, ρ, e0, q⟩ => ?_
  unfold mIns at q
  split at q
  · rename_i c fs hs
    obtain ⟨d, hd, q⟩ := RG.opt q
    obtain ⟨l, dx, fv, hv, hl, af, rf, _⟩ := e0.slot i _ hs
    obtain ⟨w, e1, r1⟩ := rf.lookup hd
    exact ⟨_, hv, l, _, dx, fv, w, rfl, hl, af.1.cls, af.2 _ (me_fld.mem_of_lookup hd), e1, RG.here e0.sub q r1⟩
  · exact q.elim
/-- a constant of the class, by self in the making -/
def mInsC (i : Nat) (ps : Cl → Option D) : Ev → Res D := fun ρ => match ρ[i]? with
  | some (.ins c _) => ofOpt (ps c)
  | _ => .stuck
theorem me_insC (i : Nat) {ps : Cl → Option D} (hx : ∀ n : Nm, n.s ≠ fs) (hp : ∀ c d, ps c = some d → ∃ v u, Con X.K (ca X.K c) fs v u ∧ ∀ G, Rep X.K G v d) (hN : X.N[i]? = some x := by rfl) (hv : Vis X.env.scope x := by first | exact Or.inl rfl | exact Or.inr (Or.inl rfl) | exact Or.inr (Or.inr rfl)) (hd : (x == ("__debug__" : Str)) = false := by decide) (hcd : (x == ("__classdict__" : Str)) = false := by decide)
    (hb : attributeBase (.Name x p1) fs X.env (eval (.Name x p1) X.env) = eval (.Name x p1) X.env := by rfl) : PE X (.Attribute (.Name x p1) fs pos) (tM X.K B W (mInsC i ps)) := by
  refine PE.imp (pe_con (pe_var (i := i) hN hv hd hcd) hb) fun σ H Q ⟨G, ρ, e0, q⟩ => ?_
  unfold mInsC at q
  split at q
  · rename_i c fs hs
    obtain ⟨d, hd, q⟩ := RG.opt q
    obtain ⟨l, dx, fv, hv, hl, af, rf, _⟩ := e0.slot i _ hs
    obtain ⟨v, u, k, rv⟩ := hp _ d hd
    exact ⟨_, hv, l, _, dx, fv, v, u, rfl, hl, af.1.cls, k, rf.lookup_out hx, RG.here e0.sub q (rv _)⟩
  · exact q.elim
end
end PL
namespace PL
open PySem PySem.Spec L2
open PySem.W (Frag)
abbrev Fb := Frag → Bool
section
variable {K : Frag}
theorem b2 {a b : Bool} (h : (a && b) = true) : a = true ∧ b = true := Bool.and_eq_true_iff.mp h
theorem ca_ga (K : Frag) (c : Cl) : ca K c = He.ga K c.s := rfl
def gloB (x : Str) : Fb := fun K => decide (PySem.W.nsIn K mainGlobals x = some (some (.ref (He.ga K x))))
def freeB (x : Str) : Fb := fun K => decide (PySem.W.nsIn K mainGlobals x = some none)
def bltB (x : Str) (id : String) : Fb := fun K => decide (PySem.W.nsIn K mainGlobals x = some (some (.builtin id)))
def intB (x : Str) (i : Int) : Fb := fun K => match PySem.W.nsIn K mainGlobals x with
  | some (some (.int j _)) => decide (j = i)
  | _ => false
def strB (x z : Str) : Fb := fun K => match PySem.W.nsIn K mainGlobals x with
  | some (some (.str j _)) => decide (j = z)
  | _ => false
variable {h : Heap} {mg : Str → Option Value}
theorem gloB_ok (X : K.In h) (G : h.Ns mainGlobals mg) {x : Str} (c : gloB x K = true) : mg x = some (.ref (He.ga K x)) := PySem.W.mg_of X G (of_decide_eq_true c)
theorem freeB_ok (X : K.In h) (G : h.Ns mainGlobals mg) {x : Str} (c : freeB x K = true) : mg x = none := PySem.W.mg_none_of X G (of_decide_eq_true c)
theorem bltB_ok (X : K.In h) (G : h.Ns mainGlobals mg) {x : Str} {id : String} (c : bltB x id K = true) : mg x = some (.builtin id) := PySem.W.mg_of X G (of_decide_eq_true c)
theorem intB_ok (X : K.In h) (G : h.Ns mainGlobals mg) {x : Str} {i : Int} (c : intB x i K = true) : ∃ t, mg x = some (.int i t) := by
  unfold intB at c
  split at c
  · rename_i j t e
    have ej := of_decide_eq_true c
    subst ej
    exact ⟨t, PySem.W.mg_of X G e⟩
  · cases c
theorem strB_ok (X : K.In h) (G : h.Ns mainGlobals mg) {x z : Str} (c : strB x z K = true) : ∃ t, mg x = some (.str z t) := by
  unfold strB at c
  split at c
  · rename_i j t e
    have ej := of_decide_eq_true c
    subst ej
    exact ⟨t, PySem.W.mg_of X G e⟩
  · cases c
def fndB (c : Cl) (m : Str) (v : Option Value) : Fb := fun K => decide (PySem.W.findIn K (.ref (ca K c)) m = some v)
def clB (c : Cl) : Fb := fun K => PySem.W.plainGet K (ca K c) Str.empty && PySem.W.hasDictIn K (ca K c) && PySem.W.plainOver K (ca K c) && fndB c "__setattr__" (some (.builtin "object.__setattr__")) K && fndB c "__class__" (some (.builtin "object.__class__")) K &&
  decide (PySem.W.specialIn K (.builtin "object.__class__") "__get__" = some (some (.builtin "getset_descriptor.__get__"))) && decide (PySem.W.takesIn K (.builtin "object.__class__") = some true) && decide (PySem.W.mroIn K (ca K c) (.type "object") = some true) && PySem.W.selfFirst K (ca K c)
theorem clB_ok {c : Cl} (e : clB c K = true) : ClF K c := by
  unfold clB fndB at e
  simp only [Bool.and_eq_true, decide_eq_true_eq] at e
  obtain ⟨⟨⟨⟨⟨⟨⟨⟨h1, h2⟩, h3⟩, h4⟩, h5⟩, h6⟩, h7⟩, h8⟩, h9⟩ := e
  exact ⟨⟨h1, h2, h3, h4⟩, h5, h6, h7, h8, h9⟩
/-- no class has the attribute's name -/
def naB (c : Cl) (n : Nm) : Fb := fndB c n.s none
theorem naB_ok {c : Cl} {n : Nm} (e : naB c n K = true) : NoAttr K (ca K c) n.s := by
  unfold naB fndB at e
  have z : PySem.W.findIn K (.ref (ca K c)) n.s = some none := of_decide_eq_true e
  exact z
/-- where a method, a property's getter stands -/
def mA (c : Cl) (m : Str) : Frag → Addr := fun K => He.ma K (ca K c) m
def pA (c : Cl) (m : Str) : Frag → Addr := fun K => match PySem.W.recIn K (He.ma K (ca K c) m) "property" with
  | some (.ref g :: _) => g
  | _ => 0
def mtB (c : Cl) (m : Str) : Fb := fun K => fndB c m (some (.ref (mA c m K))) K && PySem.W.isFn K (.ref (mA c m K)) && PySem.W.keepIn K (.ref (mA c m K))
theorem mtB_ok {c : Cl} {m : Str} (e : mtB c m K = true) : Meth K (ca K c) m (mA c m K) := by
  unfold mtB fndB at e
  simp only [Bool.and_eq_true, decide_eq_true_eq] at e
  exact ⟨e.1.1, e.1.2, e.2⟩
def mkB (c : Cl) : Fb := fun K => PySem.W.makesIn K (ca K c) && fndB c "__init__" (some (.ref (mA c "__init__" K))) K && PySem.W.isFn K (.ref (mA c "__init__" K)) && PySem.W.keepIn K (.ref (ca K c))
theorem mkB_ok {c : Cl} (e : mkB c K = true) : Mk K (ca K c) (mA c "__init__" K) := by
  unfold mkB fndB at e
  simp only [Bool.and_eq_true, decide_eq_true_eq] at e
  exact ⟨e.1.1.1, e.1.1.2, e.1.2, e.2⟩
def prB (c : Cl) (f : Str) : Fb := fun K => fndB c f (some (.ref (mA c f K))) K && decide (PySem.W.specialIn K (.ref (mA c f K)) "__get__" = some (some (.builtin "property.__get__"))) && decide (PySem.W.takesIn K (.ref (mA c f K)) = some true) &&
  match PySem.W.recIn K (mA c f K) "property" with
  | some (.ref g :: _) => true
  | _ => false
theorem prB_ok {c : Cl} {f : Str} (e : prB c f K = true) : PropOf K (ca K c) f (mA c f K) (pA c f K) := by
  unfold prB fndB at e
  simp only [Bool.and_eq_true, decide_eq_true_eq] at e
  obtain ⟨⟨⟨h1, h2⟩, h3⟩, h4⟩ := e
  refine ⟨h1, h2, h3, ?_⟩
  unfold pA
  have h5 : (match PySem.W.recIn K (mA c f K) "property" with
    | some (.ref g :: _) => true
    | _ => false) = true := h4
  split at h5
  · rename_i g r e
    refine ⟨r, ?_⟩
    have e2 : PySem.W.recIn K (He.ma K (ca K c) f) "property" = some (.ref g :: r) := e
    rw [e2]
    exact e
  · cases h5
/-- a constant of the class: an int -/
def ciB (c : Cl) (f : Str) (i : Int) : Fb := fun K => (match PySem.W.findIn K (.ref (ca K c)) f with
  | some (some (.int j t)) => decide (j = i) && decide (PySem.W.specialIn K (.int j t) "__get__" = some none)
  | _ => false) && !PySem.W.copiedNames.contains f
theorem ciB_ok {c : Cl} {f : Str} {i : Int} (e : ciB c f i K = true) : ∃ v u, Con K (ca K c) f v u ∧ ∀ G, Rep K G v (.int i) := by
  unfold ciB at e
  obtain ⟨e1, e2⟩ := b2 e
  split at e1
  · rename_i j t q
    obtain ⟨h1, h2⟩ := b2 e1
    have hj := of_decide_eq_true h1
    subst hj
    exact ⟨.int j, .int j t, ⟨q, ⟨t, rfl⟩, of_decide_eq_true h2, by simpa using e2⟩, fun G => .int j⟩
  · cases e1
def bnB (c : Cl) (op : Operator) : Fb := fun K => fndB c (PySem.dunder op.info.2) (some (.ref (mA c (PySem.dunder op.info.2) K))) K && PySem.W.isFn K (.ref (mA c (PySem.dunder op.info.2) K)) &&
  (fndB c (dunderR op.info.2) none K || fndB c (dunderR op.info.2) (some (.ref (mA c (dunderR op.info.2) K))) K)
theorem bnB_ok {T : Tk} {k : Nat} {c : Cl} {op : Operator} {g : List D → Res D} (e : bnB c op T.K = true) (F : FnM T k (mA c (PySem.dunder op.info.2) T.K) 2 g) : BinF T k op c g := by
  unfold bnB fndB at e
  simp only [Bool.and_eq_true, Bool.or_eq_true, decide_eq_true_eq] at e
  obtain ⟨⟨h1, h2⟩, h3⟩ := e
  rcases h3 with h3 | h3
  · exact ⟨_, none, h1, h2, h3, .inl rfl, F⟩
  · exact ⟨_, _, h1, h2, h3, .inr ⟨_, rfl⟩, F⟩
def rnB (c : Cl) (op : Operator) : Fb := fun K => fndB c (dunderR op.info.2) (some (.ref (mA c (dunderR op.info.2) K))) K && PySem.W.isFn K (.ref (mA c (dunderR op.info.2) K)) && fndB c (PySem.dunder op.info.2) (some (.ref (mA c (PySem.dunder op.info.2) K))) K && decide (PySem.W.subIn K (.ref (ca K c)) (.type "int") = some false)
theorem rnB_ok {T : Tk} {k : Nat} {c : Cl} {op : Operator} {g : List D → Res D} (e : rnB c op T.K = true) (F : FnM T k (mA c (dunderR op.info.2) T.K) 2 g) : RinF T k op c g := by
  unfold rnB fndB at e
  simp only [Bool.and_eq_true, decide_eq_true_eq] at e
  obtain ⟨⟨⟨h1, h2⟩, h3⟩, h4⟩ := e
  exact ⟨_, _, h1, h2, h3, F, h4⟩
def cpB (c : Cl) (op : CmpOp) : Fb := fun K => fndB c (cmpInfo op).2.1 (some (.ref (mA c (cmpInfo op).2.1 K))) K && PySem.W.isFn K (.ref (mA c (cmpInfo op).2.1 K))
theorem cpB_ok {T : Tk} {k : Nat} {c : Cl} {op : CmpOp} {g : List D → Res D} (e : cpB c op T.K = true) (F : FnM T k (mA c (cmpInfo op).2.1 T.K) 2 g) : CmpF T k op c g := by
  unfold cpB fndB at e
  simp only [Bool.and_eq_true, decide_eq_true_eq] at e
  exact ⟨_, e.1, e.2, F⟩
/-- the classmethod's def -/
def cA (c : Cl) (m : Str) : Frag → Addr := fun K => match PySem.W.recIn K (He.ma K (ca K c) m) "classmethod" with
  | some (.ref g :: _) => g
  | _ => 0
def cmB (c : Cl) (m : Str) : Fb := fun K => PySem.W.readsIn K (ca K c) (.type "type") && decide (PySem.W.specialIn K (.ref (ca K c)) "__getattribute__" = some (some (.builtin "type.__getattribute__"))) &&
  (match PySem.W.findCls K (.ref (ca K c)) (.type "type") m with
  | some (.get (.builtin b) (.ref p) .none (.ref C)) => decide (b = "classmethod.__get__") && decide (p = He.ma K (ca K c) m) && decide (C = ca K c)
  | _ => false) &&
  (match PySem.W.recIn K (He.ma K (ca K c) m) "classmethod" with
  | some (.ref g :: _) => PySem.W.fnIn K g
  | _ => false)
def lnB (c : Cl) : Fb := fun K => fndB c "__len__" (some (.ref (mA c "__len__" K))) K && PySem.W.isFn K (.ref (mA c "__len__" K))
def inB (c : Cl) : Fb := fun K => fndB c "__contains__" (some (.ref (mA c "__contains__" K))) K && PySem.W.isFn K (.ref (mA c "__contains__" K))
def neB (c : Cl) : Fb := fndB c "__ne__" (some (.builtin "object.__ne__"))
def itB (c : Cl) : Fb := fun K => fndB c "__iter__" (some (.ref (mA c "__iter__" K))) K && PySem.W.isFn K (.ref (mA c "__iter__" K))
def ixB (c : Cl) : Fb := fun K => fndB c "__getitem__" (some (.ref (mA c "__getitem__" K))) K && PySem.W.fnIn K (mA c "__getitem__" K) && PySem.W.isFn K (.ref (mA c "__getitem__" K))
theorem ixB_ok {T : Tk} {k : Nat} {c : Cl} {g : List D → Res D} (e : ixB c T.K = true) (F : FnM T k (mA c "__getitem__" T.K) 2 g) : IxF T k c g := by
  unfold ixB fndB at e
  simp only [Bool.and_eq_true, decide_eq_true_eq] at e
  exact ⟨_, e.1.1, e.1.2, e.2, F⟩
def kiB (c c' : Cl) (b : Bool) : Fb := fun K => decide (PySem.W.kitOne K (.ref (ca K c)) (.ref (ca K c')) = some b)
def ktB (c : Cl) (T : String) (b : Bool) : Fb := fun K => decide (PySem.W.kitOne K (.ref (ca K c)) (.type T) = some b)
def akB (c : Cl) : Fb := fun K => clsAsk K (ca K c)
def exB (c c' : Cl) (b : Bool) : Fb := fun K => decide (PySem.W.exmOne K (.ref (ca K c)) (.ref (ca K c')) = some b)
def ecB (c : Cl) : Fb := fun K => fndB c "__getattribute__" (some (.builtin "BaseException.__getattribute__")) K && fndB c "__getattr__" none K && decide (PySem.W.subIn K (.ref (ca K c)) (.type "BaseException") = some true) && PySem.W.hasDictIn K (ca K c) && fndB c "__class__" (some (.builtin "object.__class__")) K &&
  decide (PySem.W.specialIn K (.builtin "object.__class__") "__get__" = some (some (.builtin "getset_descriptor.__get__"))) && decide (PySem.W.takesIn K (.builtin "object.__class__") = some true) && decide (PySem.W.mroIn K (ca K c) (.type "object") = some true)
theorem ecB_ok {c : Cl} (e : ecB c K = true) : XcF K c := by
  unfold ecB fndB at e
  simp only [Bool.and_eq_true, decide_eq_true_eq] at e
  obtain ⟨⟨⟨⟨⟨⟨⟨h1, h2⟩, h3⟩, h4⟩, h5⟩, h6⟩, h7⟩, h8⟩ := e
  exact ⟨⟨h1, h2, h3, h4⟩, ⟨h1, h2, h3, h4, h5, h6, h7, h8⟩⟩
/-- it may be raised -/
def rsB (c : Cl) : Fb := fun K => gloB c.s K && PySem.W.keepIn K (.ref (ca K c)) && decide (PySem.W.subIn K (.ref (ca K c)) (.type "BaseException") = some true) && decide (PySem.W.typeIn K (.ref (ca K c)) = some (.type "type")) && ecB c K
def x0B (c : Cl) : Fb := fun K => rsB c K && PySem.W.excIn K (ca K c) [.type "ValueError", .type "Exception", .type "BaseException", .type "object"] "ValueError.__new__"
theorem x0B_ok {T : Tk} {h : Heap} (X : T.K.In h) (G : h.Ns mainGlobals T.mg) {c : Cl} (e : x0B c T.K = true) : X0F T c := by
  unfold x0B rsB at e
  simp only [Bool.and_eq_true, decide_eq_true_eq] at e
  obtain ⟨⟨⟨⟨⟨h1, h2⟩, h3⟩, h4⟩, h5⟩, h6⟩ := e
  exact ⟨h6, gloB_ok X G h1, h2, h3, h4, ecB_ok h5⟩
abbrev XW : Type := Option (Str × Str × Arguments × FuncBody × Scope × Addr × Addr × Value × Value)
def xnA (K : Frag) (a : Addr) : XW := match K.lookup a with
  | some ⟨_, _, .func fd, _⟩ => some (fd.name, fd.qualname, fd.params, fd.body, fd.scope, fd.globals, fd.builtins, fd.defaults, fd.kwdefaults)
  | _ => none
/-- an error's __init__ -/
structure XDef where
  c : Cl
  qual : Str
  params : Arguments
  body : List Stmt
  scope : Scope
def XDef.val (d : XDef) : XW := some ("__init__", d.qual, d.params, .stmts d.body, d.scope, mainGlobals, builtinsNs, .none, .none)
def XDef.at_ (d : XDef) : Frag → Addr := mA d.c "__init__"
def xclB (c : Cl) : Fb := fun K => match K.lookup (ca K c) with
  | some ⟨.type t, _, .cls cd, sl⟩ => (match cd.mro, sl.toList with
    | .ref C' :: bm, [_, _, _, _, some (.builtin n), _] => decide (t = "type") && decide (C' = ca K c) && decide (n = "ValueError.__new__") && !cd.hasDel && cd.hasDict && PySem.HandSPX.refsVE bm
    | _, _ => false)
  | _ => false
def xclosB (c : Cl) (qual file : Str) : Fb := fun K => match K.lookup (mA c "__init__" K) with
  | some ⟨_, _, .func fd, _⟩ => (match fd.closure, fd.code with
    | [(n, cc)], .ref cda => decide (n = "__class__") && PySem.W.codeIn K (.ref cda) qual && (match K.lookup cda with
      | some ⟨_, _, .fields vs, _⟩ => (match (vs[2]? : Option Value) with
        | some (Value.str f _) => f == file
        | _ => false)
      | _ => false) && (match K.lookup cc with
      | some ⟨_, _, .cell (some v), _⟩ => decide (v = .ref (ca K c))
      | _ => false)
    | _, _ => false)
  | _ => false
def xiB (c : Cl) (qual file : Str) : Fb := fun K => rsB c K && xclB c K && xclosB c qual file K && fndB c "__setattr__" (some (.builtin "object.__setattr__")) K && fndB c "__init__" (some (.ref (mA c "__init__" K))) K && decide (PySem.W.typeIn K (.ref (mA c "__init__" K)) = some (.type "function")) &&
  decide (PySem.W.mroIn K (ca K c) (.ref (ca K c)) = some true) && decide (PySem.W.subIn K (.ref (ca K c)) (.type "ValueError") = some true) && decide (PySem.W.ks_superIn K (ca K c) (ca K c) "__init__" = some (some (.builtin veI))) && decide (PySem.W.nsIn K PySem.cStatics "thirdparty.any" = some none)
theorem xclB_ok {c : Cl} (e : xclB c K = true) : ∃ nm q N bs bm sn sub ab col dd k0 k1 k2 k3 k5, K.lookup (ca K c) = some (PySem.excClassObj nm q (ca K c) N bs bm true sn sub ab col dd k0 k1 k2 k3 k5 "ValueError.__new__") ∧ PySem.HandSPX.refsVE bm = true := by
  unfold xclB at e
  split at e
  · rename_i t dd cd sl hl
    split at e
    · rename_i C' bm k0 k1 k2 k3 n k5 hm hs
      simp only [Bool.and_eq_true, decide_eq_true_eq] at e
      obtain ⟨⟨⟨⟨⟨h1, h2⟩, h3⟩, h4⟩, h5⟩, h6⟩ := e
      obtain ⟨nm, bs, mro, ns, q, hd, sn, sub, ab, col, del⟩ := cd
      simp only at hm h4 h5
      subst h1 h2 h3 hm h5
      have h4' : del = false := by simpa using h4
      subst h4'
      refine ⟨nm, q, ns, bs, bm, sn, sub, ab, col, dd, k0, k1, k2, k3, k5, ?_, h6⟩
      rw [hl]
      have e2 : sl = #[k0, k1, k2, k3, some (.builtin "ValueError.__new__"), k5] := by
        have := congrArg List.toArray hs
        simpa using this
      rw [e2]
    · cases e
  · cases e
theorem xi_of {prog : Program} {c : Cl} {qual : Str} {params : Arguments} {body : List Stmt} {scope : Scope} (e : xiB c qual prog.main.file K = true) (ew : xnA K (mA c "__init__" K) = XDef.val ⟨c, qual, params, body, scope⟩) (top : (prog.main.scope.names.lookup ("super" : Str)).isSome = false) :
    XiT prog K (ca K c) (mA c "__init__" K) qual params body scope := by
  unfold xiB at e
  simp only [Bool.and_eq_true, decide_eq_true_eq] at e
  obtain ⟨⟨⟨⟨⟨⟨⟨⟨⟨h1, h2⟩, h3⟩, h4⟩, h5⟩, h6⟩, h7⟩, h8⟩, h9⟩, h10⟩ := e
  refine ⟨xclB_ok h2, ?_, of_decide_eq_true h4, of_decide_eq_true h5, h6, h7, h8, h9, h10, top⟩
  unfold xclosB at h3
  unfold xnA at ew
  split at h3
  · rename_i oc od fd osl hl
    rw [hl] at ew
    split at h3
    · rename_i n cc cda hcl hco
      simp only [Bool.and_eq_true, decide_eq_true_eq] at h3
      obtain ⟨⟨⟨k1, k2⟩, k3⟩, k4⟩ := h3
      obtain ⟨n1, n2, n3, n4, n5, n6, n7, n8, n9, n10, n11, n12, n13, n14, n15⟩ := fd
      simp only at hcl hco
      unfold XDef.val at ew
      simp only [Option.some.injEq, Prod.mk.injEq] at ew
      obtain ⟨w1, w2, w3, w4, w5, w6, w7, w8, w9⟩ := ew
      subst w1 w2 w3 w4 w5 w6 w7 w8 w9 hcl hco k1
      refine ⟨oc, od, n10, n11, n12, n14, osl, cda, cc, hl, k2, ?_, ?_⟩
      · split at k3
        · rename_i ccl cdd vs ccs hc
          split at k3
          · rename_i f tf hv
            refine ⟨ccl, cdd, vs, ccs, f, tf, hc, hv, ?_⟩
            have z : f = prog.main.file := by simpa using k3
            simpa using z.symm
          · cases k3
        · cases k3
      · split at k4
        · rename_i cl cld v csl hc
          have z := of_decide_eq_true k4
          subst z
          exact ⟨cl, cld, csl, hc⟩
        · cases k4
    · cases h3
  · cases h3
end
abbrev AlP : Type := Bool × List He.FnW × List XW
def obsP (fb : List Fb) (fn : List He5.DefA) (xn : List XDef) (K : Frag) : AlP := ((fb.all fun f => f K) && fn.all fun d => d.ok K, fn.map fun d => He5.fnA K (d.at_ K), xn.map fun d => xnA K (d.at_ K))
def valP (fn : List He5.DefA) (xn : List XDef) : AlP := (true, fn.map He5.DefA.val, xn.map XDef.val)
def SaysP (fb : List Fb) (fn : List He5.DefA) (xn : List XDef) (K : Frag) : Prop := obsP fb fn xn K = valP fn xn
/-- without lists: no list of the head's is the script -/
def noL (K : Frag) : Frag := K.filter fun p => match p.2.cls with
  | .type n => n != "list"
  | _ => true
def NoLs (K : Frag) : Prop := ∀ a o, K.lookup a = some o → o.cls ≠ .type "list"
theorem mem_frG {g : Addr → Option Obj} {as : List Addr} {p : Addr × Obj} (h : p ∈ He.frG g as) : g p.1 = some p.2 := by
  unfold He.frG at h
  obtain ⟨a, _, e⟩ := List.mem_filterMap.mp h
  cases q : g a with
  | none => rw [q] at e; cases e
  | some o => rw [q] at e; cases e; exact q
theorem mem_lookup {K : Frag} {a : Addr} {o : Obj} (h : K.lookup a = some o) : (a, o) ∈ K := by
  induction K with
  | nil => cases h
  | cons p r ih =>
    obtain ⟨b, q⟩ := p
    rw [List.lookup_cons] at h
    by_cases z : (a == b) = true
    · rw [z] at h
      have e : a = b := by simpa using z
      subst e
      cases h
      exact List.mem_cons_self
    · have z' : (a == b) = false := by simpa using z
      rw [z'] at h
      exact List.mem_cons_of_mem _ (ih h)
theorem noL_in {as : List Addr} {h : Heap} : (noL (He.frG h.get? as)).In h := fun _ _ e => mem_frG (List.mem_filter.mp (mem_lookup e)).1
theorem noL_no {K : Frag} : NoLs (noL K) := fun a o e z => by
  have q := (List.mem_filter.mp (mem_lookup e)).2
  rw [show ((a, o) : Addr × Obj).2.cls = Value.type "list" from z] at q
  simp at q
def obsPG (n : Nat) (fb : List Fb) (fn : List He5.DefA) (xn : List XDef) (g : Addr → Option Obj) : AlP := obsP fb fn xn (noL (He.frG g (He5.asA g n)))
def hookP (n : Nat) (fb : List Fb) (fn : List He5.DefA) (xn : List XDef) : PySem.W.Hook where
  α := AlP
  obs := fun s => obsPG n fb fn xn s.heap.get?
  val := fun _ => valP fn xn
  says := fun _ h => ∃ K : Frag, K.In h ∧ SaysP fb fn xn K ∧ NoLs K
  of := fun _ _ e => ⟨_, noL_in, e, noL_no⟩
  keeps := fun _ _ _ ⟨K, hK, c⟩ k => ⟨K, PySem.W.Frag.In.keeps hK k, c⟩
theorem obsPG_eq {n : Nat} {fb : List Fb} {fn : List He5.DefA} {xn : List XDef} {g : Addr → Option Obj} {s : Shared} (h : ∀ a, g a = s.heap.get? a) : obsPG n fb fn xn g = (hookP n fb fn xn).obs s := by
  have e : g = s.heap.get? := funext h
  rw [e] <;> rfl
section
variable {fb : List Fb} {fn : List He5.DefA} {xn : List XDef} {K : Frag}
theorem SaysP.fact (c : SaysP fb fn xn K) (i : Nat) {f : Fb} (h : fb[i]? = some f := by rfl) : f K = true := by
  have c1 := (b2 (show ((fb.all fun f => f K) && fn.all fun d => d.ok K) = true from congrArg (fun z : AlP => z.1) c)).1
  exact List.all_eq_true.mp c1 f (List.mem_of_getElem? h)
theorem SaysP.def_ (c : SaysP fb fn xn K) (i : Nat) {d : He5.DefA} (h : fn[i]? = some d := by rfl) : ∃ fd, FunD K d.name d.qual d.params d.body d.scope (d.dvs K) (d.kws K) (d.at_ K) fd := by
  have c2 := (b2 (show ((fb.all fun f => f K) && fn.all fun d => d.ok K) = true from congrArg (fun z : AlP => z.1) c)).2
  have e : fn.map (fun d => He5.fnA K (d.at_ K)) = fn.map He5.DefA.val := congrArg (fun z : AlP => z.2.1) c
  have e2 : (fn.map fun d => He5.fnA K (d.at_ K))[i]? = (fn.map He5.DefA.val)[i]? := by rw [e]
  rw [List.getElem?_map, List.getElem?_map, h] at e2
  exact He5.DefA.funD (Option.some.inj e2) (List.all_eq_true.mp c2 d (List.mem_of_getElem? h))
theorem SaysP.ini_ (c : SaysP fb fn xn K) (i : Nat) {d : XDef} (h : xn[i]? = some d := by rfl) : xnA K (d.at_ K) = d.val := by
  have e : xn.map (fun d => xnA K (d.at_ K)) = xn.map XDef.val := congrArg (fun z : AlP => z.2.2) c
  have e2 : (xn.map fun d => xnA K (d.at_ K))[i]? = (xn.map XDef.val)[i]? := by rw [e]
  rw [List.getElem?_map, List.getElem?_map, h] at e2
  exact Option.some.inj e2
end
section
variable {T : Tk} {c : Cl} {f1 f2 : Nm} {qual tx a1 a2 : Str} {params : Arguments} {scope : Scope} {j : Nat} {p0 p1 p2 p3 p4 t1 t2 t3 q1 q2 q3 q4 r1 r2 r3 r4 : Pos} {ar : Arg} {h : Heap}
theorem rs_of (X : T.K.In h) (G : h.Ns mainGlobals T.mg) (e : rsB c T.K = true) : T.mg c.s = some (.ref (ca T.K c)) ∧ PySem.W.keepIn T.K (.ref (ca T.K c)) = true ∧ PySem.W.subIn T.K (.ref (ca T.K c)) (.type "BaseException") = some true ∧ PySem.W.typeIn T.K (.ref (ca T.K c)) = some (.type "type") ∧ XcF T.K c := by
  unfold rsB at e
  simp only [Bool.and_eq_true, decide_eq_true_eq] at e
  obtain ⟨⟨⟨⟨h1, h2⟩, h3⟩, h4⟩, h5⟩ := e
  exact ⟨gloB_ok X G h1, h2, h3, h4, ecB_ok h5⟩
theorem xi_rs {file : Str} (e : xiB c qual file T.K = true) : rsB c T.K = true := by
  unfold xiB at e
  simp only [Bool.and_eq_true, decide_eq_true_eq] at e
  exact e.1.1.1.1.1.1.1.1.1
theorem x1_of (X : T.K.In h) (G : h.Ns mainGlobals T.mg) (e : xiB c qual T.P.main.file T.K = true) (ew : xnA T.K (mA c "__init__" T.K) = XDef.val ⟨c, qual, params, [.Expr (supE (.Constant (.str tx) j t1) p0 p1 p2 p3) p4, stoE f1.s a1 q1 q2 q3 q4], scope⟩)
    (hn : fndB c f1.s none T.K = true) (nog : T.mg "super" = none) (top : (T.P.main.scope.names.lookup ("super" : Str)).isSome = false) (S : XSc scope) (SO : SupOk (.Constant (.str tx) j t1) p0 p1 p2 p3 p4) (l1 : scope.names.lookup a1 = some .local)
    (hp : (params.posonlyargs ++ params.args).head? = some ar) (har : ar.arg = "self") (n1 : (("self" : Str) == a1) = false) (d1 : (a1 == ("__debug__" : Str)) = false) (sw1 : ∀ env, swapsWith (.Name a1 q3) (some (.Attribute (.Name "self" q1) f1.s q2)) q4.line env = pure false)
    (hb : ∀ x v doc pm an cdv ct cc, bindArgs (PySem.W.ksFn "__init__" qual params [.Expr (supE (.Constant (.str tx) j t1) p0 p1 p2 p3) p4, stoE f1.s a1 q1 q2 q3 q4] scope .none .none doc pm an cdv ct cc) ⟨[x, v], []⟩ = pure [(("self" : Str), x), (a1, v)]) : X1F T c f1 := by
  have TX := xi_of e ew top
  obtain ⟨g1, g2, g3, g4, g5⟩ := rs_of X G (xi_rs e)
  have h1 : PySem.W.findIn T.K (.ref (ca T.K c)) f1.s = some none := of_decide_eq_true hn
  refine ⟨g1, g2, g3, g4, g5, h1, fun A s R v KI kb hlim room M hq => ?_⟩
  refine x_made TX KI (by show 1 ≤ 1000; omega) (fun A' s' x t0 R' hd KI' hnx kk hx hq' => ?_) hq
  exact xi_run1 TX S SO l1 hp har h1 n1 d1 sw1 hb M nog v A' s' x t0 R' (by rw [hd]; exact room) KI' (fun b o q => kk b o (kb b o q)) (hlim.keeps kk) hnx hx hq'
theorem x2_of (X : T.K.In h) (G : h.Ns mainGlobals T.mg) (e : xiB c qual T.P.main.file T.K = true) (ew : xnA T.K (mA c "__init__" T.K) = XDef.val ⟨c, qual, params, [.Expr (supE (.BinOp (.Constant (.str tx) j t1) .Add (.Name a1 t2) t3) p0 p1 p2 p3) p4, stoE f1.s a1 q1 q2 q3 q4, stoE f2.s a2 r1 r2 r3 r4], scope⟩)
    (hn : fndB c f1.s none T.K = true) (hn2 : fndB c f2.s none T.K = true) (ne : f1 ≠ f2) (nog : T.mg "super" = none) (top : (T.P.main.scope.names.lookup ("super" : Str)).isSome = false) (S : XSc scope) (SO : SupOk (.BinOp (.Constant (.str tx) j t1) .Add (.Name a1 t2) t3) p0 p1 p2 p3 p4) (l1 : scope.names.lookup a1 = some .local) (l2 : scope.names.lookup a2 = some .local)
    (hp : (params.posonlyargs ++ params.args).head? = some ar) (har : ar.arg = "self") (n1 : (("self" : Str) == a1) = false) (n2 : (("self" : Str) == a2) = false) (n12 : (a1 == a2) = false) (d1 : (a1 == ("__debug__" : Str)) = false) (d2 : (a2 == ("__debug__" : Str)) = false)
    (sw1 : ∀ env, swapsWith (.Name a1 q3) (some (.Attribute (.Name "self" q1) f1.s q2)) q4.line env = pure false) (sw2 : ∀ env, swapsWith (.Name a2 r3) (some (.Attribute (.Name "self" r1) f2.s r2)) r4.line env = pure false)
    (hb : ∀ x v u doc pm an cdv ct cc, bindArgs (PySem.W.ksFn "__init__" qual params [.Expr (supE (.BinOp (.Constant (.str tx) j t1) .Add (.Name a1 t2) t3) p0 p1 p2 p3) p4, stoE f1.s a1 q1 q2 q3 q4, stoE f2.s a2 r1 r2 r3 r4] scope .none .none doc pm an cdv ct cc) ⟨[x, v, u], []⟩ = pure [(("self" : Str), x), (a1, v), (a2, u)]) : X2F T c tx.length f1 f2 := by
  have TX := xi_of e ew top
  obtain ⟨g1, g2, g3, g4, g5⟩ := rs_of X G (xi_rs e)
  have h1 : PySem.W.findIn T.K (.ref (ca T.K c)) f1.s = some none := of_decide_eq_true hn
  have h2 : PySem.W.findIn T.K (.ref (ca T.K c)) f2.s = some none := of_decide_eq_true hn2
  refine ⟨g1, g2, g3, g4, g5, h1, h2, ne, fun A s R y ty u hz KI kb hlim room M hq => ?_⟩
  refine x_made TX KI (by show 2 ≤ 1000; omega) (fun A' s' x t0 R' hd KI' hnx kk hx hq' => ?_) hq
  exact xi_run2 TX S SO l1 l2 hp har h1 h2 n1 n2 n12 d1 d2 sw1 sw2 hb M nog y ty u hz A' s' x t0 R' (by rw [hd]; exact room) KI' (fun b o q => kk b o (kb b o q)) (hlim.keeps kk) hnx hx hq'
end
def unNm : UnaryOp → Str
  | .Invert => "__invert__"
  | .UAdd => "__pos__"
  | .USub => "__neg__"
  | .Not => ""
def uaB (c : Cl) (op : UnaryOp) : Fb := fun K => fndB c (unNm op) (some (.ref (mA c (unNm op) K))) K && PySem.W.isFn K (.ref (mA c (unNm op) K))
def cvB (x f : Str) (i : Int) : Fb := fun K => PySem.W.readsIn K (He.ga K x) (.type "type") && decide (PySem.W.specialIn K (.ref (He.ga K x)) "__getattribute__" = some (some (.builtin "type.__getattribute__"))) &&
  (match PySem.W.findCls K (.ref (He.ga K x)) (.type "type") f with
  | some (.val (.int j _)) => decide (j = i)
  | _ => false)
end PL
namespace PL
open PySem PySem.Spec L2
open PySem.W (Frag)
/-- a class's body -/
def clsB : Stmt → List Stmt
  | .ClassDef _ _ _ b _ _ _ _ _ _ _ => b
  | _ => []
def nth (l : List Stmt) (i : Nat) : Stmt := l.getD i (.Pass ⟨0, 0, 0, 0⟩)
/-- all that the head tells -/
structure FX (P0 : Program) (fb : List Fb) (fn : List He5.DefA) (xn : List XDef) (T : Tk) : Prop where
  pr : T.P = P0
  ex : ∃ h : Heap, T.K.In h ∧ h.Ns mainGlobals T.mg
  c : SaysP fb fn xn T.K
section
variable {P0 : Program} {fb : List Fb} {fn : List He5.DefA} {xn : List XDef} {T : Tk}
theorem FX.fact (Z : FX P0 fb fn xn T) (i : Nat) {f : Fb} (h : fb[i]? = some f := by rfl) : f T.K = true := Z.c.fact i h
theorem FX.glo (Z : FX P0 fb fn xn T) (i : Nat) {x : Str} (h : fb[i]? = some (gloB x) := by rfl) : T.mg x = some (.ref (He.ga T.K x)) := by
  obtain ⟨_, X, G⟩ := Z.ex
  exact gloB_ok X G (Z.fact i h)
theorem FX.free (Z : FX P0 fb fn xn T) (i : Nat) {x : Str} (h : fb[i]? = some (freeB x) := by rfl) : T.mg x = none := by
  obtain ⟨_, X, G⟩ := Z.ex
  exact freeB_ok X G (Z.fact i h)
theorem FX.blt (Z : FX P0 fb fn xn T) (i : Nat) {x : Str} {id : String} (h : fb[i]? = some (bltB x id) := by rfl) : T.mg x = some (.builtin id) := by
  obtain ⟨_, X, G⟩ := Z.ex
  exact bltB_ok X G (Z.fact i h)
theorem FX.int (Z : FX P0 fb fn xn T) (i : Nat) {x : Str} {n : Int} (h : fb[i]? = some (intB x n) := by rfl) : ∃ t, T.mg x = some (.int n t) := by
  obtain ⟨_, X, G⟩ := Z.ex
  exact intB_ok X G (Z.fact i h)
theorem FX.str (Z : FX P0 fb fn xn T) (i : Nat) {x z : Str} (h : fb[i]? = some (strB x z) := by rfl) : ∃ t, T.mg x = some (.str z t) := by
  obtain ⟨_, X, G⟩ := Z.ex
  exact strB_ok X G (Z.fact i h)
theorem FX.cl (Z : FX P0 fb fn xn T) (i : Nat) {c : Cl} (h : fb[i]? = some (clB c) := by rfl) : ClF T.K c := clB_ok (Z.fact i h)
theorem FX.x0 (Z : FX P0 fb fn xn T) (i : Nat) {c : Cl} (h : fb[i]? = some (x0B c) := by rfl) : X0F T c := by
  obtain ⟨_, X, G⟩ := Z.ex
  exact x0B_ok X G (Z.fact i h)
theorem FX.def_ (Z : FX P0 fb fn xn T) (i : Nat) {d : He5.DefA} (h : fn[i]? = some d := by rfl) : ∃ fd, FunD T.K d.name d.qual d.params d.body d.scope (d.dvs T.K) (d.kws T.K) (d.at_ T.K) fd := Z.c.def_ i h
/-- a module's def without defaults -/
theorem FX.fun_ (Z : FX P0 fb fn xn T) {k j : Nat} {x : Str} {m : List D → Res D} (hg : T.mg x = some (.ref (He.ga T.K x))) (kp : PySem.W.keepIn T.K (.ref (He.ga T.K x)) = true) (F : FnM T k (He.ga T.K x) j m) : Glo T k x j m := ⟨_, hg, kp, F⟩
end
theorem FnM.none {T : Tk} {k j : Nat} (f : Addr) : FnM T k f j (fun _ => .stuck) := fun _ _ _ _ _ _ _ _ _ _ _ _ _ _ _ _ h => h.elim
def oSetL (i : Nat) (m : Ev → Res (List D)) : Ev → Out := oSet i (lstOf m)
theorem setL {K : Frag} {B : Base} {W : WX} {G H : Hp} {σ : St} {ρ : Ev} {Dn : Ends} {i : Nat} {m : Ev → Res (List D)} (e : EnvOk K B G σ ρ H) (q : SG K B W Dn (oSetL i m ρ)) : FG K (fun c d H' => W c d σ H') G H (fun v H1 => Dn.nx (σ.set i (some v)) H1) (m ρ) := by
  unfold oSetL oSet lstOf at q
  cases hm : m ρ with
  | ok ds =>
    rw [hm] at q
    intro G' p vs H' g hp r gp hn
    have g2 : Grow G H (upd G' p (.lst vs)) H' := ⟨g.g.trans (.upd gp), g.h, fun a o z => by
      by_cases w : a = p
      · subst w; rw [upd_same] at z; cases z; exact hp
      · rw [upd_ne w] at z; exact g.sub _ _ z, fun a o z => by
      by_cases w : a = p
      · subst w; exact .inr hn
      · rw [upd_ne w] at z; exact g.new _ _ z⟩
    exact q (upd G' p (.lst vs)) _ H' ((e.growN g2).setDat i (.lst (.inl upd_same) (r.mono (.upd gp))))
  | exc x =>
    rw [hm] at q
    exact fun G1 c d H1 g k => q G1 σ H1 c d (e.growN g) k
  | stuck => rw [hm] at q; exact q
section
variable {X : Cx} {B : Base} {W : WX} {pos : Pos}
theorem ms_setLcD (i : Nat) {y : Str} {py spos : Pos} {elt tg iter : Expr} {ifs : List Expr} {scope : Scope} {own : List (Str × Nat)} {js : List Nat} {mi : Ev → Res (List D)} {f : D → Ev → Option Ev} {t : Ev → Res Bool} {m : Ev → Res D} (hc : X.calm = true) (ok : BlkOk X.N X.env.scope scope own) (hi : IP X B W tg iter mi)
    (hg : ∀ (s : Shared) (H : Hp) (C : Addr) (cl : List (Str × Addr)) (fp : List Addr), GP (X.blk s H scope (compEnvC scope cl C X.env) fp) B tg js f) (ht : ∀ (s : Shared) (H : Hp) (C : Addr) (cl : List (Str × Addr)) (fp : List Addr), PTs (X.blk s H scope (compEnvC scope cl C X.env) fp) ifs (tMT X.K B noW t))
    (he : ∀ (s : Shared) (H : Hp) (C : Addr) (cl : List (Str × Addr)) (fp : List Addr), PE (X.blk s H scope (compEnvC scope cl C X.env) fp) elt (tM X.K B noW m)) (hsw : swapsWith (.ListComp elt [⟨tg, iter, ifs, 0⟩] scope pos) (some (.Name y py)) spos.line X.env = pure true) (hj : ∀ j ∈ js, j ∈ own.map (·.2) := by decide) (hN : X.N.Nodup := by decide)
    (hy : X.N[i]? = some y := by rfl) (hyl : X.env.scope.names.lookup y = some .local := by rfl) (hs : ∀ x, foldedSetIterable iter X.env x = pure x := by intro _; rfl) :
    PS X (.Assign [.Name y py] (.ListComp elt [⟨tg, iter, ifs, 0⟩] scope pos) spos) (tS X.K B W (oSetL i (fLc (own.map (·.2)) mi f t m))) :=
  PS.imp (L2.ps_setLc hc hN hy hyl hsw hi ok hg ht he hs) fun Dn σ H ⟨G, ρ, e, q⟩ => lc_main hj e (setL e q)
end
def oSeq (a b : Ev → Out) : Ev → Out := fun ρ => (a ρ).then b
def oFrz (i : Nat) (o : Ev → Out) : Ev → Out := fun ρ => o (freeze i ρ)
def oNo : Ev → Out := fun _ => .stuck
abbrev mStuck : Ev → Res D := fun _ => .stuck
section
variable {X : Cx} {B : Base} {W : WX} {st : Stmt} {rest : List Stmt} {o o' : Ev → Out}
theorem mq_cons (h1 : PS X st (tS X.K B W o)) (h2 : PSs X rest (tS X.K B W o')) : PSs X (st :: rest) (tS X.K B W (oSeq o o')) := ms_cons h1 h2
theorem mq_frz (i : Nat) (h : PSs X rest (tS X.K B W o)) : PSs X rest (tS X.K B W (oFrz i o)) := ms_frz i h
theorem mq_stuck : PSs X rest (tS X.K B W oNo) := mss_stuck
theorem mq_no : PS X st (tS X.K B W oNo) := ms_stuck
end
/-- no attribute has the name -/
theorem nm_out {x : Str} (h : (Nm.all.map Nm.s).contains x = false) : ∀ n : Nm, n.s ≠ x := fun n e => by
  have m : n.s ∈ Nm.all.map Nm.s := List.mem_map_of_mem (Nm.mem_all n)
  rw [e] at m
  rw [List.contains_iff_mem.mpr m] at h
  cases h
theorem nm_no {x : Str} (h : (Nm.all.map Nm.s).contains x = false) : ∀ n : Nm, n.s = x → (none : Option Nm) = some n := fun n e => absurd e (nm_out h n)
theorem BinF.mono {T : Tk} {k k' : Nat} {op : Operator} {c : Cl} {g : List D → Res D} (F : BinF T k op c g) (h : k ≤ k') : BinF T k' op c g := by
  obtain ⟨f, rc, h1, h2, h3, h4, h5⟩ := F.ex
  exact ⟨f, rc, h1, h2, h3, h4, h5.mono h⟩
theorem RinF.mono {T : Tk} {k k' : Nat} {op : Operator} {c : Cl} {g : List D → Res D} (F : RinF T k op c g) (h : k ≤ k') : RinF T k' op c g := by
  obtain ⟨f, f', h1, h2, h3, h4, h5⟩ := F.ex
  exact ⟨f, f', h1, h2, h3, h4.mono h, h5⟩
end PL
noncomputable section
namespace PL
open PySem PySem.Spec L2
def hookL (as : List Addr) (fb : List Fb) (fn : List He5.DefA) (xn : List XDef) : PySem.W.Hook where
  α := AlP
  obs := fun s => obsP fb fn xn (noL (He.frG s.heap.get? as))
  val := fun _ => valP fn xn
  says := fun _ h => ∃ K : PySem.W.Frag, K.In h ∧ SaysP fb fn xn K ∧ NoLs K
  of := fun _ _ e => ⟨_, noL_in, e, noL_no⟩
  keeps := fun _ _ _ ⟨K, hK, c⟩ k => ⟨K, PySem.W.Frag.In.keeps hK k, c⟩
def obsL (as : List Addr) (fb : List Fb) (fn : List He5.DefA) (xn : List XDef) (g : Addr → Option PySem.Obj) : AlP := obsP fb fn xn (noL (He.frG g as))
theorem obsL_eq {as : List Addr} {fb : List Fb} {fn : List He5.DefA} {xn : List XDef} {g : Addr → Option PySem.Obj} {s : Shared} (h : ∀ a, g a = s.heap.get? a) : obsL as fb fn xn g = (hookL as fb fn xn).obs s := by
  have e : g = s.heap.get? := funext h
  rw [e] <;> rfl
theorem map_pair {α β γ : Type} {o : Option α} {f : α → β} {g : α → γ} {a : β} {b : γ} (h1 : o.map f = some a) (h2 : o.map g = some b) : o.map (fun x => (f x, g x)) = some (a, b) := by
  cases o with
  | none => cases h1
  | some x =>
    have e1 : f x = a := Option.some.inj h1
    have e2 : g x = b := Option.some.inj h2
    show some (f x, g x) = _
    rw [e1, e2]
theorem map_split {α β γ : Type} {o : Option α} {f : α → β} {g : α → γ} {a : β} {b : γ} (h : o.map (fun x => (f x, g x)) = some (a, b)) : o.map f = some a ∧ o.map g = some b := by
  cases o with
  | none => cases h
  | some x =>
    have e := Option.some.inj h
    obtain ⟨e1, e2⟩ := Prod.mk.inj e
    exact ⟨congrArg some e1, congrArg some e2⟩
theorem map_3 {α β γ δ : Type} {o : Option α} {f : α → β} {g : α → γ} {k : α → δ} {a : β} {b : γ} {c : δ} (h1 : o.map (fun x => (f x, g x)) = some (a, b)) (h2 : o.map k = some c) : o.map (fun x => (f x, g x, k x)) = some (a, b, c) := by
  obtain ⟨x, y⟩ := map_split h1
  exact map_pair x (map_pair y h2)
end PL
namespace K04
noncomputable section
open PySem PySem.Spec L2 PL
abbrev P0 : Program := PySem.Challenge.pw_beatswatched_k04_meetings_and_starts
def st__law_draws : Stmt := (nth P0.main.body 24)
def d__law_draws : He5.DefA := ⟨(fun K => He.ga K "_law_draws"), "_law_draws", "_law_draws", defArgs st__law_draws, defBody st__law_draws, defScope st__law_draws, [], []⟩
def st__law_cell : Stmt := (nth P0.main.body 23)
def d__law_cell : He5.DefA := ⟨(fun K => He.ga K "_law_cell"), "_law_cell", "_law_cell", defArgs st__law_cell, defBody st__law_cell, defScope st__law_cell, [], []⟩
def st__law_sparse : Stmt := (nth P0.main.body 29)
def d__law_sparse : He5.DefA := ⟨(fun K => He.ga K "_law_sparse"), "_law_sparse", "_law_sparse", defArgs st__law_sparse, defBody st__law_sparse, defScope st__law_sparse, [], []⟩
def st__law_bits : Stmt := (nth P0.main.body 27)
def d__law_bits : He5.DefA := ⟨(fun K => He.ga K "_law_bits"), "_law_bits", "_law_bits", defArgs st__law_bits, defBody st__law_bits, defScope st__law_bits, [], []⟩
def st__law_subset : Stmt := (nth P0.main.body 28)
def d__law_subset : He5.DefA := ⟨(fun K => He.ga K "_law_subset"), "_law_subset", "_law_subset", defArgs st__law_subset, defBody st__law_subset, defScope st__law_subset, [], []⟩
def st__law_drawn_lot : Stmt := (nth P0.main.body 30)
def d__law_drawn_lot : He5.DefA := ⟨(fun K => He.ga K "_law_drawn_lot"), "_law_drawn_lot", "_law_drawn_lot", defArgs st__law_drawn_lot, defBody st__law_drawn_lot, defScope st__law_drawn_lot, [], []⟩
def st_hours_checked : Stmt := (nth P0.main.body 11)
def d_hours_checked : He5.DefA := ⟨(fun K => He.ga K "hours_checked"), "hours_checked", "hours_checked", defArgs st_hours_checked, defBody st_hours_checked, defScope st_hours_checked, [], []⟩
def st_first_repeated : Stmt := (nth P0.main.body 17)
def d_first_repeated : He5.DefA := ⟨(fun K => He.ga K "first_repeated"), "first_repeated", "first_repeated", defArgs st_first_repeated, defBody st_first_repeated, defScope st_first_repeated, [], []⟩
def st_Lot___init__ : Stmt := (nth (clsB (nth P0.main.body 19)) 1)
def d_Lot___init__ : He5.DefA := ⟨(mA .Lot "__init__"), "__init__", "Lot.__init__", defArgs st_Lot___init__, defBody st_Lot___init__, defScope st_Lot___init__, [], []⟩
def st_rings_checked : Stmt := (nth P0.main.body 12)
def d_rings_checked : He5.DefA := ⟨(fun K => He.ga K "rings_checked"), "rings_checked", "rings_checked", defArgs st_rings_checked, defBody st_rings_checked, defScope st_rings_checked, [], []⟩
def st_Lot___iter__ : Stmt := (nth (clsB (nth P0.main.body 19)) 7)
def d_Lot___iter__ : He5.DefA := ⟨(mA .Lot "__iter__"), "__iter__", "Lot.__iter__", defArgs st_Lot___iter__, defBody st_Lot___iter__, defScope st_Lot___iter__, [], []⟩
def st_meetings : Stmt := (nth P0.main.body 14)
def d_meetings : He5.DefA := ⟨(fun K => He.ga K "meetings"), "meetings", "meetings", defArgs st_meetings, defBody st_meetings, defScope st_meetings, [], []⟩
def st__law_kept_apart : Stmt := (nth P0.main.body 34)
def d__law_kept_apart : He5.DefA := ⟨(fun K => He.ga K "_law_kept_apart"), "_law_kept_apart", "_law_kept_apart", defArgs st__law_kept_apart, defBody st__law_kept_apart, defScope st__law_kept_apart, [], []⟩
def st__law_is_int : Stmt := (nth P0.main.body 25)
def d__law_is_int : He5.DefA := ⟨(fun K => He.ga K "_law_is_int"), "_law_is_int", "_law_is_int", defArgs st__law_is_int, defBody st__law_is_int, defScope st__law_is_int, [], []⟩
def st__law_same : Stmt := (nth P0.main.body 26)
def d__law_same : He5.DefA := ⟨(fun K => He.ga K "_law_same"), "_law_same", "_law_same", defArgs st__law_same, defBody st__law_same, defScope st__law_same, [], []⟩
def st_Lot_members : Stmt := (nth (clsB (nth P0.main.body 19)) 3)
def d_Lot_members : He5.DefA := ⟨(pA .Lot "members"), "members", "Lot.members", defArgs st_Lot_members, defBody st_Lot_members, defScope st_Lot_members, [], []⟩
def st__law_counts : Stmt := (nth P0.main.body 31)
def d__law_counts : He5.DefA := ⟨(fun K => He.ga K "_law_counts"), "_law_counts", "_law_counts", defArgs st__law_counts, defBody st__law_counts, defScope st__law_counts, [], []⟩
def st__law_agrees : Stmt := (nth P0.main.body 32)
def d__law_agrees : He5.DefA := ⟨(fun K => He.ga K "_law_agrees"), "_law_agrees", "_law_agrees", defArgs st__law_agrees, defBody st__law_agrees, defScope st__law_agrees, [], []⟩
def st_differences : Stmt := (nth P0.main.body 15)
def d_differences : He5.DefA := ⟨(fun K => He.ga K "differences"), "differences", "differences", defArgs st_differences, defBody st_differences, defScope st_differences, [], []⟩
def st__law_differs : Stmt := (nth P0.main.body 33)
def d__law_differs : He5.DefA := ⟨(fun K => He.ga K "_law_differs"), "_law_differs", "_law_differs", defArgs st__law_differs, defBody st__law_differs, defScope st__law_differs, [], []⟩
def st__law_part_a : Stmt := (nth P0.main.body 35)
def d__law_part_a : He5.DefA := ⟨(fun K => He.ga K "_law_part_a"), "_law_part_a", "_law_part_a", defArgs st__law_part_a, defBody st__law_part_a, defScope st__law_part_a, [], []⟩
def st__law_round_parts : Stmt := (nth P0.main.body 37)
def d__law_round_parts : He5.DefA := ⟨(fun K => He.ga K "_law_round_parts"), "_law_round_parts", "_law_round_parts", defArgs st__law_round_parts, defBody st__law_round_parts, defScope st__law_round_parts, [], []⟩
def st__law_any_parts : Stmt := (nth P0.main.body 36)
def d__law_any_parts : He5.DefA := ⟨(fun K => He.ga K "_law_any_parts"), "_law_any_parts", "_law_any_parts", defArgs st__law_any_parts, defBody st__law_any_parts, defScope st__law_any_parts, [], []⟩
def st__law_due : Stmt := (nth P0.main.body 38)
def d__law_due : He5.DefA := ⟨(fun K => He.ga K "_law_due"), "_law_due", "_law_due", defArgs st__law_due, defBody st__law_due, defScope st__law_due, [], []⟩
def st_starts_of : Stmt := (nth P0.main.body 21)
def d_starts_of : He5.DefA := ⟨(fun K => He.ga K "starts_of"), "starts_of", "starts_of", defArgs st_starts_of, defBody st_starts_of, defScope st_starts_of, [], []⟩
def st__law_refused_by_base : Stmt := (nth P0.main.body 39)
def d__law_refused_by_base : He5.DefA := ⟨(fun K => He.ga K "_law_refused_by_base"), "_law_refused_by_base", "_law_refused_by_base", defArgs st__law_refused_by_base, defBody st__law_refused_by_base, defScope st__law_refused_by_base, [], []⟩
def st__law_right : Stmt := (nth P0.main.body 40)
def d__law_right : He5.DefA := ⟨(fun K => He.ga K "_law_right"), "_law_right", "_law_right", defArgs st__law_right, defBody st__law_right, defScope st__law_right, [], []⟩
def st__law_bad_hours : Stmt := (nth P0.main.body 41)
def d__law_bad_hours : He5.DefA := ⟨(fun K => He.ga K "_law_bad_hours"), "_law_bad_hours", "_law_bad_hours", defArgs st__law_bad_hours, defBody st__law_bad_hours, defScope st__law_bad_hours, [], []⟩
def st__law_part_b : Stmt := (nth P0.main.body 42)
def d__law_part_b : He5.DefA := ⟨(fun K => He.ga K "_law_part_b"), "_law_part_b", "_law_part_b", defArgs st__law_part_b, defBody st__law_part_b, defScope st__law_part_b, [], []⟩
def st_law : Stmt := (nth P0.main.body 43)
def d_law : He5.DefA := ⟨(fun K => He.ga K "law"), "law", "law", defArgs st_law, defBody st_law, defScope st_law, [], []⟩
def fb : List Fb := [
  freeB "len",
  freeB "range",
  freeB "int",
  gloB "_law_draws",
  freeB "abs",
  gloB "_law_cell",
  freeB "min",
  freeB "list",
  gloB "_law_sparse",
  gloB "_law_bits",
  gloB "_law_subset",
  gloB "_law_drawn_lot",
  xiB .BadNumber "BadNumber.__init__" P0.main.file,
  fndB .BadNumber (Nm.s .name) none,
  fndB .BadNumber (Nm.s .value) none,
  freeB "super",
  gloB "hours_checked",
  ciB .Lot "MOST" 360,
  freeB "set",
  gloB "first_repeated",
  xiB .RepeatedHour "RepeatedHour.__init__" P0.main.file,
  fndB .RepeatedHour (Nm.s .hour) none,
  naB .Lot .hours,
  freeB "sorted",
  naB .Lot .u_members,
  clB .Lot,
  mkB .Lot,
  gloB "Lot",
  x0B .OtherHours,
  gloB "rings_checked",
  freeB "iter",
  itB .Lot,
  gloB "meetings",
  freeB "isinstance",
  kiB .BadNumber .Meets false,
  kiB .OtherHours .Meets false,
  kiB .RepeatedHour .Meets false,
  gloB "Meets",
  kiB .BadNumber .OtherHouse false,
  kiB .OtherHours .OtherHouse false,
  kiB .RepeatedHour .OtherHouse false,
  gloB "OtherHouse",
  ktB .BadNumber "ValueError" true,
  ktB .OtherHours "ValueError" true,
  ktB .RepeatedHour "ValueError" true,
  freeB "ValueError",
  kiB .BadNumber .OtherHours false,
  kiB .OtherHours .OtherHours true,
  kiB .RepeatedHour .OtherHours false,
  gloB "OtherHours",
  kiB .BadNumber .WrongLength false,
  kiB .OtherHours .WrongLength false,
  kiB .RepeatedHour .WrongLength false,
  gloB "WrongLength",
  exB .BadNumber .WatchError true,
  exB .OtherHours .WatchError true,
  exB .RepeatedHour .WatchError true,
  gloB "WatchError",
  gloB "_law_kept_apart",
  ktB .Lot "int" false,
  ktB .Lot "bool" false,
  freeB "bool",
  gloB "_law_is_int",
  ktB .Lot "str" false,
  freeB "str",
  ktB .Lot "tuple" false,
  freeB "tuple",
  ktB .Lot "list" false,
  gloB "_law_same",
  prB .Lot "members",
  gloB "_law_counts",
  gloB "_law_agrees",
  gloB "differences",
  gloB "_law_differs",
  gloB "_law_part_a",
  gloB "_law_round_parts",
  gloB "_law_any_parts",
  gloB "_law_due",
  gloB "starts_of",
  exB .BadNumber .RepeatedHour false,
  exB .OtherHours .RepeatedHour false,
  exB .RepeatedHour .RepeatedHour true,
  gloB "RepeatedHour",
  kiB .BadNumber .RepeatedHour false,
  kiB .OtherHours .RepeatedHour false,
  kiB .RepeatedHour .RepeatedHour true,
  kiB .BadNumber .BadNumber true,
  kiB .OtherHours .BadNumber false,
  kiB .RepeatedHour .BadNumber false,
  gloB "BadNumber",
  gloB "_law_refused_by_base",
  kiB .Lot .Lot true,
  akB .Lot,
  gloB "_law_right",
  exB .BadNumber .BadNumber true,
  exB .OtherHours .BadNumber false,
  exB .RepeatedHour .BadNumber false,
  gloB "_law_bad_hours",
  gloB "_law_part_b",
  gloB "law"]
def fn : List He5.DefA := [d__law_draws, d__law_cell, d__law_sparse, d__law_bits, d__law_subset, d__law_drawn_lot, d_hours_checked, d_first_repeated, d_Lot___init__, d_rings_checked, d_Lot___iter__, d_meetings, d__law_kept_apart, d__law_is_int, d__law_same, d_Lot_members, d__law_counts, d__law_agrees, d_differences, d__law_differs, d__law_part_a, d__law_round_parts, d__law_any_parts, d__law_due, d_starts_of, d__law_refused_by_base, d__law_right, d__law_bad_hours, d__law_part_b, d_law]
def xd_BadNumber : XDef := ⟨.BadNumber, "BadNumber.__init__", defArgs (nth (clsB (nth P0.main.body 3)) 0), defBody (nth (clsB (nth P0.main.body 3)) 0), defScope (nth (clsB (nth P0.main.body 3)) 0)⟩
def xd_RepeatedHour : XDef := ⟨.RepeatedHour, "RepeatedHour.__init__", defArgs (nth (clsB (nth P0.main.body 4)) 0), defBody (nth (clsB (nth P0.main.body 4)) 0), defScope (nth (clsB (nth P0.main.body 4)) 0)⟩
def xn : List XDef := [xd_BadNumber, xd_RepeatedHour]
abbrev Rw : PySem.W.OpenRow := PySem.W.OpenLaw.row PySem.Challenge.rw_beatswatched_k04_meetings_and_starts
def adrs : List Addr := [3, 6, 4, 21, 31, 53, 74, 95, 107, 119, 140, 161, 170, 177, 182, 189, 196, 201, 334, 343, 350, 357, 364, 371, 378, 383, 388, 395, 400, 407, 414, 421, 426, 433, 440, 445, 452, 459, 466, 473, 480, 0, 20, 30, 52, 73, 94, 106, 118, 139, 160, 169, 176, 181, 188, 195, 200, 333, 342, 349, 356, 363, 370, 377, 382, 387, 394, 399, 406, 413, 420, 425, 432, 439, 444, 451, 458, 465, 472, 479, 29, 32, 50, 51, 71, 72, 92, 93, 105, 117, 137, 138, 158, 159, 213, 222, 231, 239, 246, 253, 260, 267, 274, 279, 284, 289, 294, 299, 304, 309, 316, 321, 326, 331, 332, 335, 336, 49, 38, 70, 59, 91, 80, 136, 125, 157, 146, 212, 220, 221, 230, 238, 245, 252, 259, 266, 273, 278, 283, 288, 293, 298, 303, 308, 315, 320, 325, 330, 219, 223, 229, 237, 2]
abbrev hk : PySem.W.Hook := hookL adrs fb fn xn
def ob (s : PySem.W.SharedT) : AlP := obsL adrs fb fn xn (HandSHeadRun.getT s)
theorem ob_eq (s : PySem.W.SharedT) : ob s = hk.obs s.abs := obsL_eq (HandSHeadRun.getT_eq s)
def names0 : List Str := ["_wall", "WatchError", "BadNumber", "RepeatedHour", "Meets", "OtherHours", "OtherHouse", "NotADivisor", "WrongLength", "hours_checked", "rings_checked", "meetings", "differences", "first_repeated", "each_once", "Lot", "starts_of", "_law_cell", "_law_draws", "_law_is_int", "_law_same", "_law_bits", "_law_subset", "_law_sparse", "_law_drawn_lot", "_law_counts", "_law_agrees", "_law_differs", "_law_kept_apart", "_law_part_a"]
def names1 : List Str := ["_law_any_parts", "_law_round_parts", "_law_due", "_law_refused_by_base", "_law_right", "_law_bad_hours", "_law_part_b"]
def names : List Str := names0 ++ names1
theorem head_run (w : World) : HandSHeadRun.RunEq Rw (PySem.W.view Rw.prog [43]) hk ob 20000 names w := by
  intro os
  kernel_rfl
end
end K04
namespace PL
open PySem PySem.Spec L2
open PyProof.Rows (b2i)
/-- by the operator, one after the other -/
def sumGo (f : D → D → Res D) : D → List D → Res D
  | a, [] => .ok a
  | a, x :: xs => match f a x with
    | .ok b => sumGo f b xs
    | _ => .stuck
def sumO (f : D → D → Res D) : List D → Res D
  | [.lst xs] => sumGo f (.int 0) xs
  | _ => .stuck
theorem sumGo_no {f : D → D → Res D} : ∀ (xs : List D) (a : D) (e : Err), sumGo f a xs ≠ .exc e
  | [], a, e => fun h => by cases h
  | x :: xs, a, e => fun h => by
    have h' : (match f a x with | .ok b => sumGo f b xs | _ => .stuck) = .exc e := h
    cases hf : f a x with
    | ok b => rw [hf] at h'; exact sumGo_no xs b e h'
    | exc _ => rw [hf] at h'; cases h'
    | stuck => rw [hf] at h'; cases h'
/-- the place where sum stands: one frame of the machine further, no error may leave -/
abbrev Cx.sm (X : Cx) : Cx := { X with A := X.A.in1, xe := fun _ _ => False }
/-- on numbers the operator adds -/
structure AddsN (f : D → D → Res D) : Prop where
  ii : ∀ a b r, f (.int a) (.int b) = .ok r → r = .int (a + b)
  ib : ∀ a b r, f (.int a) (.bl b) = .ok r → r = .int (a + b2i b)
section
variable {X : Cx} {pins : List (Addr × Obj)} {σ : St} {f : D → D → Res D}
theorem wpAny_iteB {α : Type} {c : Bool} {M : Model} {A : Around} {t e : Sem α} {Q : α → Shared → Prop} {E : Value → Shared → Prop} {s : Shared} (h1 : wpAny M A t Q E s) (h2 : wpAny M A e Q E s) : wpAny M A (if c = true then t else e) Q E s := by
  cases c
  · exact h2
  · exact h1
theorem okSm (ok : X.Ok) : (Cx.sm X).Ok :=
  ⟨ok.mod, ok.kind, ok.glob, ok.blt, ok.above, ok.inj, ok.has, ok.cab, ok.hd, ok.frames, ok.stk, ok.exf, ok.bs, ok.bsz, ok.noex, ok.exfs, ok.funs, ok.frf⟩
theorem okUnsm (ok : (Cx.sm X).Ok) : X.Ok :=
  ⟨ok.mod, ok.kind, ok.glob, ok.blt, ok.above, ok.inj, ok.has, ok.cab, ok.hd, ok.frames, ok.stk, ok.exf, ok.bs, ok.bsz, ok.noex, ok.exfs, ok.funs, ok.frf⟩
theorem invSm {H : Hp} {s : Shared} (I : Inv X pins σ H s) : Inv (Cx.sm X) pins σ H s := ⟨okSm I.ok, I.os, I.bare, I.base, I.loc, I.cell, I.free, I.freeC, I.pin, I.hok, I.len⟩
theorem invUnsm {H : Hp} {s : Shared} (I : Inv (Cx.sm X) pins σ H s) : Inv X pins σ H s := ⟨okUnsm I.ok, I.os, I.bare, I.base, I.loc, I.cell, I.free, I.freeC, I.pin, I.hok, I.len⟩
theorem takesSm : Takes (Cx.sm X) noW := fun u s' ⟨_, _, _, _, _, _, _, _, _, _, _, _, _, _, _, _, w⟩ => w.elim
/-- the record that keeps the sum so far -/
def sumRec (u : Value) (c : Nat) : Obj := { cls := .type "list", dict := none, data := .seq #[u] c, slots := #[] }
theorem sum_go (hc : X.calm = true) (ho : OpM (Cx.sm X) noW (binaryOp .Add) f) (hf : AddsN f) {it S a : Addr} {vs : List V} {R : Result → Shared → Prop} (ne : it ≠ S) :
    ∀ (rest : List D) (i : Nat) (s : Shared) (G H : Hp) (av : V) (total : Value) (ad d : D) (c : Nat) (st : Int), (st = 0 ∨ st = 2) → Inv X pins σ H s → Ext G H → RelV av total → Rep X.K G av ad → Rd G a (.lst vs) → Reps X.K G (vs.drop i) rest →
      FpOk X pins H it → FpOk X pins H S → s.heap.IsListIter it a i → s.heap.get? S = some (sumRec total c) → sumGo f ad rest = .ok d →
      (∀ G' H' v u s', Grow G H G' H' → Rep X.K G' v d → Inv X pins σ H' s' → RelV v u → R (.ok (.ret u)) s') → codeAny (model X.prog X.w) X.A (.builtin "sum.loop" ⟨[.ref it, .ref S, rawInt st, rawInt 0], []⟩) R s := by
  intro rest
  induction rest with
  | nil =>
    intro i s G H av total ad d c st hst I e ra rep hl rr f1 f2 hit hS hd hR
    cases hd
    have rr0 := rr.length
    rw [List.length_drop, List.length_nil] at rr0
    obtain ⟨its, rv, p, hz⟩ := I.list (xs := vs) (a := a) (.inl (e.rd hl))
    have hlen := rv.length
    refine codeAny_builtin PySem.F.entry_sum_loop ?_
    rw [Around.under_plainId PySem.F.plain_sum_loop _]
    show wpAny _ X.A.in1 (seqItems? (.ref S) >>= _) _ _ s
    refine wpAny_bind (wpAny_seqItems hS rfl ?_)
    show wpAny _ X.A.in1 (tryCatch (pyNext (.ref it)) _ >>= _) _ _ s
    refine wpAny_bind (wpAny_tryCatch (wpAny_pyNext_list_end (A := X.A.in1) (I.ok.hd hc) hit p.isList (by simp; omega) fun h' eb => ?_))
    have I1 : Inv X pins σ H { s with heap := h' } := I.turned (t' := s.toks) (fun b o hb e => eb b o hb e) f1.1 f1.2.1 f1.2.2.2.1 f1.2.2.2.2.1 f1.2.2.2.2.2
    have fin := hR G H av total { s with heap := h' } (.refl e) rep I1 ra
    cases av with
    | int n => obtain ⟨t, rfl⟩ := ra; exact wpAny_pure fin
    | bl n => obtain rfl := ra; exact wpAny_pure fin
    | non => obtain rfl := ra; exact wpAny_pure fin
    | str x => obtain ⟨t, rfl⟩ := ra; exact wpAny_pure fin
    | byt x => obtain ⟨t, rfl⟩ := ra; exact wpAny_pure fin
    | flt x => cases rep
    | ref x => obtain rfl := ra; exact wpAny_pure fin
    | ty x => cases rep
  | cons xd rest ih =>
    intro i s G H av total ad d c st hst I e ra rep hl rr f1 f2 hit hS hd hR
    have hd' : (match f ad xd with | .ok b => sumGo f b rest | _ => .stuck) = .ok d := hd
    cases hfx : f ad xd with
    | stuck => rw [hfx] at hd'; cases hd'
    | exc er => rw [hfx] at hd'; cases hd'
    | ok bd =>
    rw [hfx] at hd'
    obtain ⟨x, vr, hvr, rx, rr'⟩ : ∃ x vr, vs.drop i = x :: vr ∧ Rep X.K G x xd ∧ Reps X.K G vr rest := by
      generalize vs.drop i = l at rr
      cases rr with
      | cons r1 r2 => exact ⟨_, _, rfl, r1, r2⟩
    have hi : vs[i]? = some x := by
      have := congrArg (fun l => l[0]?) hvr
      simpa using this
    have hdr : vs.drop (i + 1) = vr := by
      rw [← List.drop_drop, hvr]
      rfl
    obtain ⟨its, rv, p, hz⟩ := I.list (xs := vs) (a := a) (.inl (e.rd hl))
    obtain ⟨u, hu, ru⟩ := rv.get hi
    refine codeAny_builtin PySem.F.entry_sum_loop ?_
    rw [Around.under_plainId PySem.F.plain_sum_loop _]
    show wpAny _ X.A.in1 (seqItems? (.ref S) >>= _) _ _ s
    refine wpAny_bind (wpAny_seqItems hS rfl ?_)
    show wpAny _ X.A.in1 (tryCatch (pyNext (.ref it)) _ >>= _) _ _ s
    refine wpAny_bind (wpAny_tryCatch (wpAny_pyNext_list_item hit p.isList (x := u) (by simpa using hu) fun h' st' sb => ?_))
    have I1 : Inv X pins σ H { s with heap := h' } := I.turned (t' := s.toks) (fun b o hb e => (sb.2 b hb).trans e) f1.1 f1.2.1 f1.2.2.2.1 f1.2.2.2.2.1 f1.2.2.2.2.2
    have hS1 : h'.get? S = some (sumRec total c) := (sb.2 S (Ne.symm ne)).trans hS
    -- the next round
    have next : ∀ (s2 : Shared) (G2 H2 : Hp) (bv : V) (r : Value) (c2 : Nat), Grow G H G2 H2 → Inv X pins σ H2 s2 → RelV bv r → Rep X.K G2 bv bd → s2.heap.IsListIter it a (i + 1) → FpOk X pins H2 it → FpOk X pins H2 S → s2.heap.get? S = some (sumRec r c2) →
        ∀ st2 : Int, (st2 = 0 ∨ st2 = 2) → codeAny (model X.prog X.w) X.A (.builtin "sum.loop" ⟨[.ref it, .ref S, rawInt st2, rawInt 0], []⟩) R s2 := fun s2 G2 H2 bv r c2 g I2 rb repb hit2 g1 g2 hS2 st2 hst2 => by
      refine ih (i + 1) s2 G2 H2 bv r bd d c2 st2 hst2 I2 g.sub rb repb (g.g.rd hl) ?_ g1 g2 hit2 hS2 hd' fun G' H' v w s' gg rv' I' rw' => hR G' H' v w s' (g.trans gg) rv' I' rw'
      rw [hdr]
      exact rr'.mono g.g
    -- by the operator
    have plain : wpAny (model X.prog X.w) X.A.in1 ((holding [u] (binaryOp .Add total u)).attempt) (fun res s2 => ∃ r, res = .ok r ∧ ∃ G2 H2 bv, Grow G H G2 H2 ∧ Inv X pins σ H2 s2 ∧ RelV bv r ∧ Rep X.K G2 bv bd ∧ s2.heap.IsListIter it a (i + 1) ∧ FpOk X pins H2 it ∧ FpOk X pins H2 S ∧ s2.heap.get? S = some (sumRec total c)) (fun _ _ => False) { s with heap := h' } := by
      obtain ⟨oi, hoi, ci, di⟩ := id st'
      have Ip : Inv X (pins ++ pinsAt [it, S] h') σ H { s with heap := h' } := I1.pinned (fun b hb => by
        rcases List.mem_cons.mp hb with rfl | hb
        · exact f1
        · rcases List.mem_cons.mp hb with rfl | hb
          · exact f2
          · cases hb) fun b hb => by
        rcases List.mem_cons.mp hb with rfl | hb
        · exact ⟨oi, hoi, fun v z => by rw [di] at z; cases z⟩
        · rcases List.mem_cons.mp hb with rfl | hb
          · exact ⟨_, hS1, fun v z => by cases z⟩
          · cases hb
      refine wpAny_attempt (wpAny_holding (wpAny_mono (ho (pins ++ pinsAt [it, S] h') { s with heap := h' } σ G H av x total u ad xd (fun bv H2 => ∃ G2, Grow G H G2 H2 ∧ Rep X.K G2 bv bd) (invSm Ip) ra ru e rep rx (by rw [hfx]; exact fun G' v H' g r => ⟨G', g, r⟩)) (fun r s2 ⟨bv, H2, I2, rb, G2, g, repb⟩ => ?_) fun _ _ z => z.elim))
      have I2 := invUnsm I2
      have p1 := I2.pin (it, oi) (List.mem_append_right _ (List.mem_append_right _ (mem_pinsAt (by simp) hoi)))
      have p2 := I2.pin (S, _) (List.mem_append_right _ (List.mem_append_right _ (mem_pinsAt (by simp) hS1)))
      exact ⟨r, rfl, G2, H2, bv, g, I2.unpinned, rb, repb, ⟨oi, p1.1, ci, di⟩, ⟨p1.2.1, f1.2⟩, ⟨p2.2.1, f2.2⟩, p2.1⟩
    -- .. and the record is written twice
    have after : ∀ (r : Value) (s2 : Shared) (G2 H2 : Hp) (bv : V) (c0 : Nat) (u0 : Value), Grow G H G2 H2 → Inv X pins σ H2 s2 → RelV bv r → Rep X.K G2 bv bd → s2.heap.IsListIter it a (i + 1) → FpOk X pins H2 it → FpOk X pins H2 S → s2.heap.get? S = some (sumRec u0 c0) →
        ∀ st2 : Int, (st2 = 0 ∨ st2 = 2) → ∀ t2 : Nat, (Code.builtin "sum.loop" ⟨[.ref it, .ref S, rawInt st2, rawInt 0], []⟩).quiet = true ∧ codeAny (model X.prog X.w) X.A (.builtin "sum.loop" ⟨[.ref it, .ref S, rawInt st2, rawInt 0], []⟩) R { s2 with heap := s2.heap.update S (Obj.mapSeq fun _ => #[r]), toks := t2 } := fun r s2 G2 H2 bv c0 u0 g I2 rb repb hit2 g1 g2 hS2 st2 hst2 t2 => by
      refine ⟨plainId_quiet PySem.F.plain_sum_loop _, next _ G2 H2 bv r _ g ?_ rb repb ?_ g1 g2 (Heap.get?_update_self _ hS2 rfl) st2 hst2⟩
      · exact I2.turned (fun b o hb e => (Heap.get?_update_other _ _ (Ne.symm hb)).trans e) g2.1 g2.2.1 g2.2.2.2.1 g2.2.2.2.2.1 g2.2.2.2.2.2
      · exact hit2.at fun o e => (Heap.get?_update_other _ _ (Ne.symm ne)).trans e
    have plainT : ∀ (nx : Value → Int) (E : Value → Shared → Prop), (∀ r, (∀ b t, r ≠ .float b t) → nx r = 2) → wpAny (model X.prog X.w) X.A.in1 ((holding [u] (binaryOp .Add total u)).attempt >>= fun y => (match y with
        | .ok r => (updateSeq S fun _ => #[r]) >>= fun _ => letGo [total, u] >>= fun _ => (updateSeq S fun _ => #[r]) >>= fun _ => again (.builtin "sum.loop" ⟨[.ref it, .ref S, rawInt (nx r), rawInt 0], []⟩)
        | .error e => (updateSeq S fun _ => #[]) >>= fun _ => letGo [total, u] [e] >>= fun _ => throw e : Sem PySem.Fin)) (fun (fin : PySem.Fin) s' => (match fin with
          | .done v => R (.ok v) s'
          | .again k => k.quiet = true ∧ codeAny (model X.prog X.w) X.A k R s' : Prop)) E { s with heap := h' } := fun nx E hnx => by
      refine wpAny_bind (wpAny_mono plain (fun res s2 ⟨r, er, G2, H2, bv, g, I2, rb, repb, hit2, g1, g2, hS2⟩ => ?_) fun _ _ z => z.elim)
      subst er
      have e2 : nx r = 2 := hnx r fun b t z => by
        subst z
        cases repb <;> first
          | (obtain ⟨_, q⟩ := rb; cases q)
          | cases rb
      show wpAny _ X.A.in1 (updateSeq S (fun _ => #[r]) >>= _) _ _ _
      refine wpAny_bind (wpAny_updateSeq hS2 rfl ?_)
      have hS3 := Heap.get?_update_self (Obj.mapSeq fun _ => #[r]) hS2 rfl
      refine wpAny_bind (wpAny_letGo ?_)
      refine wpAny_bind (wpAny_updateSeq hS3 rfl ?_)
      rw [e2]
      refine wpAny_pure ⟨plainId_quiet PySem.F.plain_sum_loop _, next _ G2 H2 bv r _ g ?_ rb repb ?_ g1 g2 (Heap.get?_update_self _ hS3 rfl) 2 (.inr rfl)⟩
      · exact I2.turned (t' := s2.toks) (fun b o hb e => (Heap.get?_update_other _ _ (Ne.symm hb)).trans ((Heap.get?_update_other _ _ (Ne.symm hb)).trans e)) g2.1 g2.2.1 g2.2.2.2.1 g2.2.2.2.2.1 g2.2.2.2.2.2
      · exact hit2.at fun o e => (Heap.get?_update_other _ _ (Ne.symm ne)).trans ((Heap.get?_update_other _ _ (Ne.symm ne)).trans e)
    cases av with
    | int n =>
      obtain ⟨t, rfl⟩ := ra
      cases rep
      have nf : ∀ r : Value, (∀ b t, r ≠ .float b t) → (match r with | .float .. => (1 : Int) | _ => 2) = 2 := fun r h => by
        cases r <;> first
          | rfl
          | exact absurd rfl (h _ _)
      rcases hst with rfl | rfl
      · cases x with
        | int m =>
          obtain ⟨t', rfl⟩ := ru
          cases rx
          have eb := hf.ii n m bd hfx
          subst eb
          show wpAny _ X.A.in1 (if (_ : Bool) = true then (mkInt (n + m) >>= _) else _) _ _ _
          split
          · refine wpAny_bind (wpAny_mkInt ?_)
            refine wpAny_bind (wpAny_updateSeq hS1 rfl ?_)
            exact wpAny_pure (after _ { s with heap := h' } G H (.int (n + m)) c _ (.refl e) I1 ⟨_, rfl⟩ (.int _) st' f1 f2 hS1 0 (.inl rfl) _)
          · refine wpAny_bind (wpAny_rule ?_)
            exact plainT (fun _ => 2) _ fun _ _ => rfl
        | bl m =>
          obtain rfl := ru
          cases rx
          have eb := hf.ib n m bd hfx
          subst eb
          cases m
          · refine wpAny_iteB (t := mkInt (n + 0) >>= _) ?_ ?_
            · refine wpAny_bind (wpAny_mkInt ?_)
              refine wpAny_bind (wpAny_updateSeq hS1 rfl ?_)
              exact wpAny_pure (after _ { s with heap := h' } G H (.int (n + 0)) c _ (.refl e) I1 ⟨_, rfl⟩ (.int _) st' f1 f2 hS1 0 (.inl rfl) _)
            · refine wpAny_bind (wpAny_rule ?_)
              exact plainT (fun _ => 2) _ fun _ _ => rfl
          · refine wpAny_iteB (t := mkInt (n + 1) >>= _) ?_ ?_
            · refine wpAny_bind (wpAny_mkInt ?_)
              refine wpAny_bind (wpAny_updateSeq hS1 rfl ?_)
              exact wpAny_pure (after _ { s with heap := h' } G H (.int (n + 1)) c _ (.refl e) I1 ⟨_, rfl⟩ (.int _) st' f1 f2 hS1 0 (.inl rfl) _)
            · refine wpAny_bind (wpAny_rule ?_)
              exact plainT (fun _ => 2) _ fun _ _ => rfl
        | non => obtain rfl := ru; exact wpAny_bind (wpAny_rule (plainT _ _ nf))
        | str _ => obtain ⟨_, rfl⟩ := ru; exact wpAny_bind (wpAny_rule (plainT _ _ nf))
        | byt _ => obtain ⟨_, rfl⟩ := ru; exact wpAny_bind (wpAny_rule (plainT _ _ nf))
        | flt _ => cases rx
        | ref _ => obtain rfl := ru; exact wpAny_bind (wpAny_rule (plainT _ _ nf))
        | ty _ => cases rx
      · exact plainT (fun _ => 2) _ fun _ _ => rfl
    | bl n => obtain rfl := ra; exact plainT (fun _ => 2) _ fun _ _ => rfl
    | non => obtain rfl := ra; exact plainT (fun _ => 2) _ fun _ _ => rfl
    | str x => obtain ⟨t, rfl⟩ := ra; exact plainT (fun _ => 2) _ fun _ _ => rfl
    | byt x => obtain ⟨t, rfl⟩ := ra; exact plainT (fun _ => 2) _ fun _ _ => rfl
    | flt x => cases rep
    | ref x => obtain rfl := ra; exact plainT (fun _ => 2) _ fun _ _ => rfl
    | ty x => cases rep
end
theorem addsN_own {ps rs : Cl → Option (List D → Res D)} : AddsN (ownD addD ps rs) :=
  ⟨fun a b r h => by cases h; rfl, fun a b r h => by cases h; rfl⟩
theorem call_sumO {X : Cx} {W : WX} {f : D → D → Res D} (hc : X.calm = true) (ho : OpM (Cx.sm X) noW (binaryOp .Add) f) (hf : AddsN f) : CallM X W (.builtin "sum") (sumO f) := by
  intro pins s σ G H xs us ds Q I r e rr h
  cases rr with
  | nil => exact h.elim
  | cons r1 t1 =>
    cases t1 with
    | cons _ _ => cases r1 <;> exact h.elim
    | nil => cases r1 with
      | @lst a vs ds q rr =>
        have h' : RG (Rep X.K) X.K (fun c d H' => W c d σ H') G H Q (sumGo f (.int 0) ds) := h
        obtain ⟨its, rv, p, hz⟩ := I.list (xs := vs) (a := a) (.inl (e.rd q))
        rw [Vals.ref1 r]
        cases hd : sumGo f (.int 0) ds with
        | stuck => rw [hd] at h'; exact h'.elim
        | exc er =>
          exact absurd hd (sumGo_no ds _ er)
        | ok d =>
          rw [hd] at h'
          refine call_function_tree PySem.F.kind_sum PySem.F.plain_sum PySem.F.entry_sum (PySem.F.args_sum1 _) ?_
          unfold Builtin.«sum»
          simp only [List.length_cons, List.length_nil]
          rw [if_neg (by decide)]
          refine wpAny_bind (wpAny_of_eq (show Builtin.Builtins.bindParams "sum" ["start"] 0 { } = pure [none] from rfl) ?_)
          refine wpAny_bind (wpAny_pyIter_list p.isList ?_)
          refine wpAny_bind (wpAny_mkInt ?_)
          refine wpAny_bind (wpAny_pure ?_)
          simp only [List.forIn_cons, List.forIn_nil]
          refine wpAny_bind (wpAny_bind (wpAny_bind (wpAny_isInstance (T := "int") (b := false) (typeIs_int _ _ _) sub_int_str ?_)))
          simp only [Bool.false_eq_true, if_false]
          refine wpAny_pure (wpAny_bind (wpAny_bind (wpAny_isInstance (T := "int") (b := false) (typeIs_int _ _ _) sub_int_bytes ?_)))
          simp only [Bool.false_eq_true, if_false]
          refine wpAny_pure (wpAny_bind (wpAny_bind (wpAny_isInstance (T := "int") (b := false) (typeIs_int _ _ _) sub_int_bytearray ?_)))
          simp only [Bool.false_eq_true, if_false]
          refine wpAny_pure (wpAny_pure ?_)
          refine wpAny_bind (wpAny_newObj_type ?_)
          have nIt : H s.heap.objs.size = none := I.hok.fresh (Nat.le_refl _)
          have I2 : ∀ (o1 o2 : Obj) (tk : Nat), Inv X pins σ H { s with heap := (s.heap.push o1).push o2, toks := tk } := fun o1 o2 tk => I.kept fun b o e => Heap.get?_push_of_some _ (Heap.get?_push_of_some _ e)
          refine wpAny_pure ⟨plainId_quiet PySem.F.plain_sum_loop _, sum_go hc ho hf (it := s.heap.objs.size) (a := a) (vs := vs) (Nat.ne_of_lt (by simp only [Heap.size_push]; exact Nat.lt_succ_self _)) ds 0 _ G H (.int 0) (.int 0 s.toks) (.int 0) d 0 0 (.inl rfl) (I2 _ _ _) e ⟨s.toks, rfl⟩ (.int 0) q rr (I.fpOk (Nat.le_refl _) nIt) (I.fpOk (by simp only [Heap.size_push]; omega) (I.hok.fresh (by simp only [Heap.size_push]; omega))) ?_ ?_ hd fun G' H' v u s' g rv I' ru => ⟨v, H', I', ru, h' G' v H' g rv⟩⟩
          · exact ⟨_, Heap.get?_push_of_some _ (Heap.get?_push_size _ rfl), rfl, rfl⟩
          · exact Heap.get?_push_size _ rfl
      | _ => exact h.elim
end PL
namespace PL
open PySem PySem.Spec L2
open PySem.W (Frag)
theorem reps_ints {K : Frag} {G : Hp} : ∀ ns : List Int, Reps K G (ns.map V.int) (ns.map D.int)
  | [] => .nil
  | n :: ns => .cons (.int n) (reps_ints ns)
theorem sql_noL {K : Frag} {H : Hp} {a : Addr} {xs : List V} (n : NoLs K) (h : SqL K H a xs) : Rd H a (.lst xs) := by
  rcases h with h | ⟨o, its, m, hk, hc, _⟩
  · exact h
  · exact absurd hc (n _ _ hk)
/-- where no error may leave -/
def spN (sp : Sp) : Sp := fun vs H Q _ => sp vs H Q fun _ _ _ => False
theorem fn_nox {P : Program} {w : World} {K : Frag} {mg : Str → Option Value} {base : Heap} {k : Nat} {f : Addr} {fd : FuncData} {ps : List Str} {sp : Sp} (F : FnOk P w K mg base (L2.CX P w) k f fd ps sp) : FnOk P w K mg base CX0 k f fd ps (spN sp) :=
  ⟨fun vs H Q E h => F.len vs H Q _ h, fun A outer s H args us vs Q E hr e0 b r h => codeAny_mono (F.run A outer s H args us vs Q _ hr e0 b r h) fun r s' q => by
    cases r with
    | ok fl => cases fl <;> exact q
    | error e => obtain ⟨_, _, _, _, _, _, _, _, _, _, _, _, z⟩ := q; exact z⟩
/-- the law: its walk, and what its reading answers -/
theorem pl_end {l : PySem.W.OpenLaw} {fb : List Fb} {fn : List He5.DefA} {xn : List XDef} {n i g kb : Nat} {q : Program} {loose : List Str} {XP : (Str → Option Value) → Heap → Prop} {dr : DefRec} {d : He5.DefA} {m : List D → Res D}
    (hn : l.most = some 63) (hdf : dr.params.defaults = []) (hr : Room kb callerA) (hnm : dr.name = ("law" : Str)) (hd : fn[i]? = some d) (hat : ∀ K, d.at_ K = He.ga K "law") (hg : fb[g]? = some (gloB "law"))
    (hb : ∀ (K : Frag) (fd : FuncData), FunD K d.name d.qual d.params d.body d.scope (d.dvs K) (d.kws K) (d.at_ K) fd → ∀ (s : Shared) (v : Value), BindsTo s fd ⟨[v], []⟩ [("script", v)])
    (hF : ∀ (T : Tk), FX l.prog fb fn xn T → ∀ fd, FunD T.K d.name d.qual d.params d.body d.scope (d.dvs T.K) (d.kws T.K) (d.at_ T.K) fd → FnOk T.P T.w T.K T.mg T.base (L2.CX T.P T.w) kb (d.at_ T.K) fd ["script"] (spD T.K 1 m))
    (hm : ∀ ns : List Int, ns.length ≤ 63 → m [.lst (ns.map D.int)] = .ok (.bl true)) :
    PySem.W.WalkO q loose XP (hookP n fb fn xn).says l.row.toRowW dr [] (fun f vs => PySem.call f vs) := by
  refine L2.walk_ofE (l := l) (n := 63) (k := kb) (x := "script") (CX := CX0) hn (by decide) hdf hr ?_ (fun _ _ _ _ z => z)
  intro w mg fa h Y G hmg0
  obtain ⟨K, KX, c, nl⟩ := Y
  rw [hnm] at hmg0
  have e := hmg0.symm.trans (gloB_ok KX G (c.fact g hg))
  obtain ⟨fd, F⟩ := c.def_ i hd
  have ef : fa = d.at_ K := by rw [hat]; cases e; rfl
  subst ef
  refine ⟨K, fd, spN (spD K 1 m), KX, hb K fd F, fun H a ns hl _ hS => ⟨rfl, H, [.lst (ns.map D.int)], fun _ _ z => z, .cons (.lst (sql_noL nl hS) (reps_ints ns)) .nil, ?_⟩, fun base KB GB => fn_nox (hF ⟨l.prog, w, K, mg, base⟩ ⟨rfl, ⟨base, KB, GB⟩, c⟩ fd F)⟩
  rw [hm ns hl]
  intro G' v H' _ rv
  cases rv
  rfl
end PL
namespace PL
open PySem PySem.Spec L2
open PyProof.Rows (b2i)
/-- r's value has Q, its error E -/
@[irreducible] def wr {α : Type} (r : Res α) (Q : α → Prop) (E : Err → Prop) : Prop := match r with
  | .ok a => Q a
  | .exc e => E e
  | .stuck => False
abbrev noE : Err → Prop := fun _ => False
@[simp] theorem wr_ok {α : Type} {a : α} {Q : α → Prop} {E : Err → Prop} : wr (.ok a) Q E = Q a := by with_unfolding_all exact id rfl
@[simp] theorem wr_exc {α : Type} {e : Err} {Q : α → Prop} {E : Err → Prop} : wr (.exc e : Res α) Q E = E e := by with_unfolding_all exact id rfl
@[simp] theorem wr_stuck {α : Type} {Q : α → Prop} {E : Err → Prop} : wr (.stuck : Res α) Q E = False := by with_unfolding_all exact id rfl
theorem wr_bind {α β : Type} {r : Res α} {f : α → Res β} {Q : β → Prop} {E : Err → Prop} : wr (r >>= f) Q E = wr r (fun a => wr (f a) Q E) E := by
  with_unfolding_all
    cases r <;> rfl
theorem wr_mono {α : Type} {r : Res α} {Q Q' : α → Prop} {E E' : Err → Prop} (h : wr r Q E) (hq : ∀ a, Q a → Q' a) (he : ∀ e, E e → E' e) : wr r Q' E' := by
  with_unfolding_all
    cases r with
    | ok a => exact hq a h
    | exc e => exact he e h
    | stuck => exact h
theorem wr_imp {α : Type} {r : Res α} {Q Q' : α → Prop} {E : Err → Prop} (h : wr r Q E) (hq : ∀ a, Q a → Q' a) : wr r Q' E := by with_unfolding_all exact wr_mono h hq fun _ z => z
theorem wr_ex {α : Type} {r : Res α} {Q : α → Prop} (h : wr r Q noE) : ∃ a, r = .ok a ∧ Q a := by
  with_unfolding_all
    cases r with
    | ok a => exact ⟨a, rfl, h⟩
    | exc e => exact h.elim
    | stuck => exact h.elim
theorem wr_eq {α : Type} {r : Res α} {a : α} (h : wr r (fun x => x = a) noE) : r = .ok a := by
  with_unfolding_all
    obtain ⟨b, e, z⟩ := wr_ex h
    rw [e, z]
theorem wr_of {α : Type} {r : Res α} {a : α} {Q : α → Prop} {E : Err → Prop} (h : r = .ok a) (q : Q a) : wr r Q E := by
  with_unfolding_all
    rw [h]; exact q
theorem wr_err {α : Type} {r : Res α} {e : Err} (h : wr r (fun _ => False) (fun x => x = e)) : r = .exc e := by
  with_unfolding_all
    cases r with
    | ok a => exact h.elim
    | exc x => rw [show x = e from h]
    | stuck => exact h.elim
theorem wr_ofOpt {α : Type} {o : Option α} {a : α} {Q : α → Prop} {E : Err → Prop} (h : o = some a) (q : Q a) : wr (ofOpt o) Q E := by
  with_unfolding_all
    rw [h]; exact q
@[simp] theorem wr_chk {α : Type} {p : Prop} [Decidable p] {r : Res α} {Q : α → Prop} {E : Err → Prop} : wr (chk p r) Q E = (p ∧ wr r Q E) := by
  with_unfolding_all
    unfold chk
    by_cases z : p
    · rw [if_pos z]; exact propext ⟨fun h => ⟨z, h⟩, fun h => h.2⟩
    · rw [if_neg z]; exact propext ⟨fun h => h.elim, fun h => absurd h.1 z⟩
theorem wr_if {α : Type} {c : Prop} [Decidable c] {r r' : Res α} {Q : α → Prop} {E : Err → Prop} : wr (if c then r else r') Q E = if c then wr r Q E else wr r' Q E := by
  with_unfolding_all
    by_cases z : c
    · rw [if_pos z, if_pos z]
    · rw [if_neg z, if_neg z]
section
variable {α : Type} {Q : D → Prop} {E : Err → Prop} {ρ : Ev}
@[simp] theorem wm_var {i : Nat} : wr (mVar i ρ) Q E = match ρ[i]? with | some (.dat d) => Q d | _ => False := by
  with_unfolding_all
    unfold mVar
    cases ρ[i]? with
    | none => rfl
    | some sl => cases sl <;> rfl
@[simp] theorem wm_con {d : D} : wr (mCon d ρ) Q E = Q d := by with_unfolding_all exact id rfl
@[simp] theorem wm_op {f : D → D → Res D} {a b : Ev → Res D} : wr (mOp f a b ρ) Q E = wr (a ρ) (fun x => wr (b ρ) (fun y => wr (f x y) Q E) E) E := by
  with_unfolding_all
    unfold mOp
    rw [wr_bind]
    congr
    funext x
    rw [wr_bind]
@[simp] theorem wm_un {f : D → Res D} {a : Ev → Res D} : wr (mUn f a ρ) Q E = wr (a ρ) (fun x => wr (f x) Q E) E := by with_unfolding_all exact wr_bind
@[simp] theorem wm_nil {Q : List D → Prop} : wr (mNil ρ) Q E = Q [] := by with_unfolding_all exact id rfl
@[simp] theorem wm_cons {Q : List D → Prop} {m : Ev → Res D} {ms : Ev → Res (List D)} : wr (mCons m ms ρ) Q E = wr (m ρ) (fun x => wr (ms ρ) (fun xs => Q (x :: xs)) E) E := by
  with_unfolding_all
    unfold mCons
    rw [wr_bind]
    congr
    funext x
    rw [wr_bind]
    rfl
@[simp] theorem wm_call {g : List D → Res D} {ms : Ev → Res (List D)} : wr (mCall g ms ρ) Q E = wr (ms ρ) (fun xs => wr (g xs) Q E) E := by with_unfolding_all exact wr_bind
@[simp] theorem wm_tup {ms : Ev → Res (List D)} : wr (mTup ms ρ) Q E = wr (ms ρ) (fun xs => xs.length ≤ sizeLine ∧ Q (.tup xs)) E := by
  with_unfolding_all
    unfold mTup
    rw [wr_bind]
    congr
    funext x
    rw [wr_chk]
    rfl
@[simp] theorem wm_lstOf {m : Ev → Res (List D)} : wr (lstOf m ρ) Q E = wr (m ρ) (fun xs => Q (.lst xs)) E := by
  with_unfolding_all
    unfold lstOf
    rw [wr_bind]
    rfl
@[simp] theorem wm_fLst {Q : List D → Prop} {m : Ev → Res (List D)} : wr (fLst m ρ) Q E = wr (m ρ) (fun xs => xs.length ≤ sizeLine ∧ Q xs) E := by
  with_unfolding_all
    unfold fLst
    rw [wr_bind]
    congr
    funext x
    rw [wr_chk]
    rfl
@[simp] theorem wm_fList {Q : List D → Prop} {m : Ev → Res D} : wr (fList m ρ) Q E = wr (m ρ) (fun x => wr (itD x) Q E) E := by with_unfolding_all exact wr_bind
@[simp] theorem wm_fOp {Q : List D → Prop} {f : D → D → Res (List D)} {a b : Ev → Res D} : wr (fOp f a b ρ) Q E = wr (a ρ) (fun x => wr (b ρ) (fun y => wr (f x y) Q E) E) E := by
  with_unfolding_all
    unfold fOp
    rw [wr_bind]
    congr
    funext x
    rw [wr_bind]
@[simp] theorem wm_iMap {Q : List D → Prop} {f : D → Res (List D)} {m : Ev → Res D} : wr (iMap f m ρ) Q E = wr (m ρ) (fun x => wr (f x) Q E) E := by with_unfolding_all exact wr_bind
@[simp] theorem wm_iMapA {Q : List D → Prop} {f : List D → Res (List D)} {m : Ev → Res (List D)} : wr (iMapA f m ρ) Q E = wr (m ρ) (fun x => wr (f x) Q E) E := by with_unfolding_all exact wr_bind
@[simp] theorem wm_sl {m : Ev → Res D} {l h : Ev → Res (Option Int)} : wr (mSl m l h ρ) Q E = wr (m ρ) (fun d => wr (l ρ) (fun a => wr (h ρ) (fun b => wr (slD d a b) Q E) E) E) E := by
  with_unfolding_all
    unfold mSl
    rw [wr_bind]
    congr
    funext x
    rw [wr_bind]
    congr
    funext y
    rw [wr_bind]
@[simp] theorem wm_noP {Q : Option Int → Prop} : wr (mNoP ρ) Q E = Q none := by with_unfolding_all exact id rfl
@[simp] theorem wm_part {Q : Option Int → Prop} {m : Ev → Res D} : wr (mPart m ρ) Q E = wr (m ρ) (fun d => wr (partD d) Q E) E := by with_unfolding_all exact wr_bind
@[simp] theorem wm_bl {Q : Bool → Prop} {m : Ev → Res D} : wr (mBl m ρ) Q E = wr (m ρ) (fun d => wr (boolD d) Q E) E := by with_unfolding_all exact wr_bind
@[simp] theorem wm_tru {Q : Bool → Prop} {m : Ev → Res D} : wr (mTru m ρ) Q E = wr (m ρ) (fun d => wr (truthD d) Q E) E := by with_unfolding_all exact wr_bind
@[simp] theorem wm_not {Q : Bool → Prop} {m : Ev → Res Bool} : wr (mtNot m ρ) Q E = wr (m ρ) (fun b => Q (!b)) E := by
  with_unfolding_all
    unfold mtNot
    rw [wr_bind]
    rfl
@[simp] theorem wm_tand {Q : Bool → Prop} {m m' : Ev → Res Bool} : wr (mtAnd m m' ρ) Q E = wr (m ρ) (fun b => if b = true then wr (m' ρ) Q E else Q false) E := by
  with_unfolding_all
    unfold mtAnd
    rw [wr_bind]
    congr
    funext b
    rw [wr_if]
    rfl
@[simp] theorem wm_tor {Q : Bool → Prop} {m m' : Ev → Res Bool} : wr (mtOr m m' ρ) Q E = wr (m ρ) (fun b => if b = true then Q true else wr (m' ρ) Q E) E := by
  with_unfolding_all
    unfold mtOr
    rw [wr_bind]
    congr
    funext b
    rw [wr_if]
    rfl
@[simp] theorem wm_bool {m : Ev → Res Bool} : wr (mBool m ρ) Q E = wr (m ρ) (fun b => Q (.bl b)) E := by
  with_unfolding_all
    unfold mBool
    rw [wr_bind]
    rfl
@[simp] theorem wm_and {m m' : Ev → Res D} : wr (mAnd m m' ρ) Q E = wr (m ρ) (fun a => wr (truthD a) (fun b => if b = true then wr (m' ρ) Q E else Q a) E) E := by
  with_unfolding_all
    unfold mAnd
    rw [wr_bind]
    congr
    funext a
    rw [wr_bind]
    congr
    funext b
    rw [wr_if]
    rfl
@[simp] theorem wm_or {m m' : Ev → Res D} : wr (mOr m m' ρ) Q E = wr (m ρ) (fun a => wr (truthD a) (fun b => if b = true then Q a else wr (m' ρ) Q E) E) E := by
  with_unfolding_all
    unfold mOr
    rw [wr_bind]
    congr
    funext a
    rw [wr_bind]
    congr
    funext b
    rw [wr_if]
    rfl
@[simp] theorem wm_if {c : Ev → Res Bool} {m m' : Ev → Res D} : wr (mIf c m m' ρ) Q E = wr (c ρ) (fun b => if b = true then wr (m ρ) Q E else wr (m' ρ) Q E) E := by
  with_unfolding_all
    unfold mIf
    rw [wr_bind]
    congr
    funext b
    rw [wr_if]
end
/-- what is asked of an end -/
structure Po where
  nx : Ev → Prop
  rt : D → Prop
  bk : Ev → Prop
  ct : Ev → Prop
  exc : Err → Ev → Prop
@[irreducible] def ends (P : Po) : Out → Prop
  | .nx ρ => P.nx ρ
  | .rt d _ => P.rt d
  | .bk ρ => P.bk ρ
  | .ct ρ => P.ct ρ
  | .exc e ρ => P.exc e ρ
  | .stuck => False
/-- P behind o at ρ -/
@[irreducible] def wp (o : Ev → Out) (P : Po) (ρ : Ev) : Prop := ends P (o ρ)
theorem ends_of {α : Type} {r : Res α} {ρ : Ev} {f : α → Out} {P : Po} : ends P (Out.of r ρ f) = wr r (fun a => ends P (f a)) (fun e => P.exc e ρ) := by
  with_unfolding_all
    cases r <;> rfl
theorem ends_mono {P P' : Po} (h1 : ∀ ρ, P.nx ρ → P'.nx ρ) (h2 : ∀ d, P.rt d → P'.rt d) (h3 : ∀ ρ, P.bk ρ → P'.bk ρ) (h4 : ∀ ρ, P.ct ρ → P'.ct ρ) (h5 : ∀ e ρ, P.exc e ρ → P'.exc e ρ) {o : Out} (h : ends P o) : ends P' o := by
  with_unfolding_all
    cases o with
    | nx ρ => exact h1 _ h
    | rt d ρ => exact h2 _ h
    | bk ρ => exact h3 _ h
    | ct ρ => exact h4 _ h
    | exc e ρ => exact h5 _ _ h
    | stuck => exact h
section
variable {P : Po} {ρ : Ev} {m : Ev → Res D} {o o' : Ev → Out} {i : Nat}
@[simp] theorem wp_seq : wp (oSeq o o') P ρ = wp o { P with nx := wp o' P } ρ := by
  with_unfolding_all
    unfold wp oSeq
    cases o ρ <;> rfl
@[simp] theorem wp_set : wp (oSet i m) P ρ = wr (m ρ) (fun d => P.nx (ρ.set i (.dat d))) (fun e => P.exc e ρ) := by with_unfolding_all exact ends_of
@[simp] theorem wp_setL {m : Ev → Res (List D)} : wp (oSetL i m) P ρ = wr (m ρ) (fun d => P.nx (ρ.set i (.dat (.lst d)))) (fun e => P.exc e ρ) := by
  with_unfolding_all
    unfold oSetL
    rw [wp_set, wm_lstOf]
@[simp] theorem wp_setF {m : Ev → Res (List D)} : wp (oSetF i m) P ρ = wr (m ρ) (fun d => P.nx (ρ.set i (.own d))) (fun e => P.exc e ρ) := by with_unfolding_all exact ends_of
@[simp] theorem wp_ret : wp (oRet m) P ρ = wr (m ρ) P.rt (fun e => P.exc e ρ) := by with_unfolding_all exact ends_of
@[simp] theorem wp_retN : wp oRetN P ρ = P.rt .non := by with_unfolding_all exact id rfl
@[simp] theorem wp_expr : wp (oExpr m) P ρ = wr (m ρ) (fun _ => P.nx ρ) (fun e => P.exc e ρ) := by with_unfolding_all exact ends_of
@[simp] theorem wp_if {t : Ev → Res Bool} : wp (oIf t o o') P ρ = wr (t ρ) (fun b => if b = true then wp o P ρ else wp o' P ρ) (fun e => P.exc e ρ) := by
  with_unfolding_all
    unfold wp oIf
    rw [ends_of]
    congr
    funext b
    cases b <;> rfl
@[simp] theorem wp_nx : wp Out.nx P ρ = P.nx ρ := by with_unfolding_all exact id rfl
@[simp] theorem wp_bk : wp Out.bk P ρ = P.bk ρ := by with_unfolding_all exact id rfl
@[simp] theorem wp_ct : wp Out.ct P ρ = P.ct ρ := by with_unfolding_all exact id rfl
@[simp] theorem wp_asg {f : D → Ev → Option Ev} : wp (oAsg f m) P ρ = wr (m ρ) (fun d => ends P (Out.opt (f d ρ))) (fun e => P.exc e ρ) := by with_unfolding_all exact ends_of
@[simp] theorem wp_o2 {i j : Nat} {ms : Ev → Res (List D)} : wp (o2 i j ms) P ρ = wr (ms ρ) (fun ds => match ds with | [a, b] => P.nx ((ρ.set i (.dat a)).set j (.dat b)) | _ => False) (fun e => P.exc e ρ) := by
  with_unfolding_all
    unfold wp o2
    rw [ends_of]
    congr
    funext ds
    match ds with
    | [] => rfl
    | [_] => rfl
    | [_, _] => rfl
    | _ :: _ :: _ :: _ => rfl
@[simp] theorem wp_o3 {i j l : Nat} {ms : Ev → Res (List D)} : wp (o3 i j l ms) P ρ = wr (ms ρ) (fun ds => match ds with | [a, b, c] => P.nx (((ρ.set i (.dat a)).set j (.dat b)).set l (.dat c)) | _ => False) (fun e => P.exc e ρ) := by
  with_unfolding_all
    unfold wp o3
    rw [ends_of]
    congr
    funext ds
    match ds with
    | [] => rfl
    | [_] => rfl
    | [_, _] => rfl
    | [_, _, _] => rfl
    | _ :: _ :: _ :: _ :: _ => rfl
@[simp] theorem wp_app : wp (oApp i m) P ρ = match ρ[i]? with | some (.own xs) => wr (m ρ) (fun d => xs.length < sizeLine ∧ P.nx (ρ.set i (.own (xs ++ [d])))) (fun e => P.exc e ρ) | _ => False := by
  with_unfolding_all
    unfold wp oApp oOwn ownOf
    cases ρ[i]? with
    | none => rfl
    | some sl =>
      cases sl with
      | own xs =>
        show ends P (Out.of (m ρ) ρ _) = _
        rw [ends_of]
        congr
        funext d
        unfold oChk
        by_cases z : xs.length < sizeLine
        · rw [if_pos z]; exact propext ⟨fun h => ⟨z, h⟩, fun h => h.2⟩
        · rw [if_neg z]; exact propext ⟨fun h => h.elim, fun h => absurd h.1 z⟩
      | _ => rfl
@[simp] theorem wp_frz : wp (oFrz i o) P ρ = wp o P (freeze i ρ) := by with_unfolding_all exact id rfl
@[simp] theorem wp_for {mi : Ev → Res (List D)} {f : D → Ev → Option Ev} : wp (oFor mi f o) P ρ = wr (mi ρ) (fun ds => ends P (forL f o ds ρ)) (fun e => P.exc e ρ) := by with_unfolding_all exact ends_of
@[simp] theorem wp_raise {mx : Ev → Res Err} : wp (oRaise mx) P ρ = wr (mx ρ) (fun e => P.exc e ρ) (fun e => P.exc e ρ) := by
  with_unfolding_all
    unfold wp oRaise
    cases mx ρ <;> rfl
end
/-- behind each turn the word I, of as many items as are done -/
theorem for_inv {P : Po} {f : D → Ev → Option Ev} {o : Ev → Out} (I : Nat → Ev → Prop) {ds : List D} {ρ : Ev} (h0 : I 0 ρ)
    (hs : ∀ (i : Nat) (d : D) (ρ : Ev), ds[i]? = some d → I i ρ → ∃ ρ1, f d ρ = some ρ1 ∧ wp o ⟨I (i + 1), P.rt, P.nx, I (i + 1), P.exc⟩ ρ1) (hd : ∀ ρ, I ds.length ρ → P.nx ρ) : ends P (forL f o ds ρ) := by
  with_unfolding_all
    have main : ∀ (l : List D) (i : Nat) (ρ : Ev), ds.drop i = l → i ≤ ds.length → I i ρ → ends P (forL f o l ρ) := by
      intro l
      induction l with
      | nil =>
        intro i ρ e hi hI
        have z : ds.length ≤ i := by
          have := congrArg List.length e
          rw [List.length_drop, List.length_nil] at this
          omega
        have z2 : i = ds.length := by omega
        subst z2
        exact hd ρ hI
      | cons d l ih =>
        intro i ρ e hi hI
        have hlt : i < ds.length := by
          have := congrArg List.length e
          rw [List.length_drop, List.length_cons] at this
          omega
        rw [List.drop_eq_getElem_cons hlt] at e
        cases e
        obtain ⟨ρ1, e1, w⟩ := hs i _ ρ (List.getElem?_eq_getElem hlt) hI
        unfold forL
        unfold wp at w
        cases ho : o ρ1 with
        | nx ρ2 => rw [ho] at w; simp only [e1, ho]; exact ih (i + 1) ρ2 rfl hlt w
        | ct ρ2 => rw [ho] at w; simp only [e1, ho]; exact ih (i + 1) ρ2 rfl hlt w
        | bk ρ2 => rw [ho] at w; simp only [e1, ho]; exact w
        | rt d ρ2 => rw [ho] at w; simp only [e1, ho]; exact w
        | exc e ρ2 => rw [ho] at w; simp only [e1, ho]; exact w
        | stuck => rw [ho] at w; exact w.elim
    exact main ds 0 ρ rfl (Nat.zero_le _) h0
/-- the word I, a measure that falls -/
theorem while_inv {P : Po} {c : Ev → Res Bool} {b : Ev → Out} (I : Nat → Ev → Prop) {n : Nat} {ρ : Ev} (h0 : I n ρ)
    (hs : ∀ (n : Nat) (ρ : Ev), I n ρ → wr (c ρ) (fun k => if k = true then wp b ⟨fun ρ => ∃ m, m < n ∧ I m ρ, P.rt, P.nx, fun ρ => ∃ m, m < n ∧ I m ρ, P.exc⟩ ρ else P.nx ρ) (fun e => P.exc e ρ)) : wp (oWhile c b) P ρ := by
  with_unfolding_all
    have main : ∀ (n : Nat) (ρ : Ev), I n ρ → ∃ k, ends P (whN c b k ρ) := by
      intro n
      induction n using Nat.strongRecOn with
      | ind n ih =>
        intro ρ hI
        have w := hs n ρ hI
        cases hc : c ρ with
        | stuck => rw [hc] at w; exact w.elim
        | exc e =>
          rw [hc] at w
          refine ⟨1, ?_⟩
          unfold whN
          rw [hc]
          exact w
        | ok k =>
          rw [hc] at w
          cases k with
          | false =>
            refine ⟨1, ?_⟩
            unfold whN
            rw [hc]
            exact w
          | true =>
            have w' : ends _ (b ρ) := w
            have go : ∀ ρ2, (∃ m, m < n ∧ I m ρ2) → ((∀ k, ends P (whN c b k ρ2) → ends P (whN c b (k + 1) ρ)) → ∃ k, ends P (whN c b k ρ)) := fun ρ2 ⟨m, hm, I2⟩ f => by
              obtain ⟨k, hk⟩ := ih m hm ρ2 I2
              exact ⟨k + 1, f k hk⟩
            cases hb : b ρ with
            | nx ρ2 =>
              rw [hb] at w'
              refine go ρ2 w' fun k hk => ?_
              unfold whN
              rw [hc, Out.of_ok, if_pos rfl, hb]
              exact hk
            | ct ρ2 =>
              rw [hb] at w'
              refine go ρ2 w' fun k hk => ?_
              unfold whN
              rw [hc, Out.of_ok, if_pos rfl, hb]
              exact hk
            | bk ρ2 =>
              rw [hb] at w'
              refine ⟨1, ?_⟩
              unfold whN
              rw [hc, Out.of_ok, if_pos rfl, hb]
              exact w'
            | rt d ρ2 =>
              rw [hb] at w'
              refine ⟨1, ?_⟩
              unfold whN
              rw [hc, Out.of_ok, if_pos rfl, hb]
              exact w'
            | exc e ρ2 =>
              rw [hb] at w'
              refine ⟨1, ?_⟩
              unfold whN
              rw [hc, Out.of_ok, if_pos rfl, hb]
              exact w'
            | stuck => rw [hb] at w'; exact w'.elim
    obtain ⟨k, hk⟩ := main n ρ h0
    unfold wp
    rw [oWhile_of (n := k) (fun z => by rw [z] at hk; exact hk)]
    exact hk
theorem wr_def {n : Nat} {o : Ev → Out} {ds : List D} {Q : D → Prop} {E : Err → Prop} (h : wp o ⟨fun _ => Q .non, Q, fun _ => False, fun _ => False, fun e _ => E e⟩ (ev0 n ds)) : wr (mDef n o ds) Q E := by
  with_unfolding_all
    unfold mDef
    unfold wp at h
    cases ho : o (ev0 n ds) with
    | bk ρ => rw [ho] at h; exact h.elim
    | ct ρ => rw [ho] at h; exact h.elim
    | stuck => rw [ho] at h; exact h.elim
    | nx ρ => rw [ho] at h; exact h
    | rt d ρ => rw [ho] at h; exact h
    | exc e ρ => rw [ho] at h; exact h
theorem lc_map {f : D → Ev → Option Ev} {m : Ev → Res D} {ρ : Ev} {F : D → D} : ∀ {ds : List D}, (∀ d ∈ ds, ∃ ρ1, f d ρ = some ρ1 ∧ m ρ1 = .ok (F d)) → lcGo f mYes m ρ ds = .ok (ds.map F)
  | [], _ => rfl
  | d :: ds, h => by
    obtain ⟨ρ1, e1, e2⟩ := h d List.mem_cons_self
    have ih := lc_map (f := f) (m := m) (ρ := ρ) (F := F) (ds := ds) fun x hx => h x (List.mem_cons_of_mem _ hx)
    unfold lcGo
    rw [e1]
    simp only [mYes, ok_bind, if_true]
    rw [e2, ok_bind, ih]
    rfl
/-- each item has its own answer -/
theorem wm_fLc {vs : List Nat} {mi : Ev → Res (List D)} {f : D → Ev → Option Ev} {m : Ev → Res D} {Q : List D → Prop} {E : Err → Prop} {ρ : Ev} (F : D → D)
    (h : wr (mi ρ) (fun ds => (∀ d ∈ ds, ∃ ρ1, f d (wipeE ρ vs) = some ρ1 ∧ m ρ1 = .ok (F d)) ∧ ds.length ≤ sizeLine ∧ Q (ds.map F)) E) : wr (fLc vs mi f mYes m ρ) Q E := by
  with_unfolding_all
    unfold fLc
    rw [wr_bind]
    refine wr_imp h fun ds ⟨h1, h2, h3⟩ => ?_
    rw [lc_map h1]
    show wr (chk _ _) Q E
    rw [wr_chk]
    exact ⟨by rw [List.length_map]; exact h2, h3⟩
end PL
namespace PL
open PySem PySem.Spec L2
open PyProof.Rows (b2i)
/-- fewer than n bits -/
def Bd (n : Nat) (a : Int) : Prop := a.natAbs < 2 ^ n
theorem Bd.mono {n m : Nat} {a : Int} (h : Bd n a) (l : n ≤ m) : Bd m a := by with_unfolding_all exact Nat.lt_of_lt_of_le h (Nat.pow_le_pow_right (by decide) l)
theorem Bd.mul {n m : Nat} {a b : Int} (h : Bd n a) (k : Bd m b) : Bd (n + m) (a * b) := by
  with_unfolding_all
    unfold Bd at *
    rw [Int.natAbs_mul, Nat.pow_add]
    exact Nat.mul_lt_mul'' h k
theorem Bd.add {n m : Nat} {a b : Int} (h : Bd n a) (k : Bd m b) : Bd (max n m + 1) (a + b) := by
  with_unfolding_all
    have h1 := h.mono (Nat.le_max_left n m)
    have k1 := k.mono (Nat.le_max_right n m)
    unfold Bd at *
    have e : 2 ^ (max n m + 1) = 2 ^ max n m + 2 ^ max n m := by rw [Nat.pow_succ]; omega
    rw [e]
    omega
theorem Bd.neg {n : Nat} {a : Int} (h : Bd n a) : Bd n (-a) := by
  with_unfolding_all
    unfold Bd at *
    rw [Int.natAbs_neg]
    exact h
theorem Bd.sub {n m : Nat} {a b : Int} (h : Bd n a) (k : Bd m b) : Bd (max n m + 1) (a - b) := by with_unfolding_all exact h.add k.neg
theorem Bd.bits {n : Nat} {a : Int} (h : Bd n a) : Builtin.Int.intBits a ≤ n := by
  with_unfolding_all
    unfold Bd at h
    unfold Builtin.Int.intBits
    split
    · exact Nat.zero_le _
    · rename_i z
      have z' : a ≠ 0 := by simpa using z
      have := (Nat.log2_lt (by omega : a.natAbs ≠ 0)).mpr h
      omega
theorem Bd.cmul {n m : Nat} {a b : Int} (h : Bd n a) (k : Bd m b) (l : n + m ≤ 134217728) : CMulX a b := by
  with_unfolding_all
    have h1 := h.bits
    have k1 := k.bits
    unfold CMulX
    omega
theorem cmul_small {a b : Int} (h1 : -18446744073709551616 < a) (h2 : a < 18446744073709551616) (h3 : -18446744073709551616 < b) (h4 : b < 18446744073709551616) : CMulX a b := by
  with_unfolding_all
    exact
      Bd.cmul (n := 64) (m := 64) (by unfold Bd; omega) (by unfold Bd; omega) (by decide)
theorem Bd.div {n : Nat} {b : Int} (h : Bd n b) (hb : b ≠ 0) (l : n ≤ 9000) {a : Int} : DivOk a b := by
  with_unfolding_all
    refine ⟨hb, PyProof.noPylong_of_log2 ?_⟩
    unfold Bd at h
    have := (Nat.log2_lt (by omega : b.natAbs ≠ 0)).mpr h
    omega
theorem div_small {a b : Int} (h1 : b ≠ 0) (h2 : -18446744073709551616 < b) (h3 : b < 18446744073709551616) : DivOk a b := Bd.div (n := by with_unfolding_all exact 64) (by unfold Bd; omega) h1 (by decide)
section
variable {Q : D → Prop} {E : Err → Prop}
@[simp] theorem wo_add {a b : Int} : wr (addD (.int a) (.int b)) Q E = Q (.int (a + b)) := by with_unfolding_all exact id rfl
@[simp] theorem wo_sub {a b : Int} : wr (subD (.int a) (.int b)) Q E = Q (.int (a - b)) := by with_unfolding_all exact id rfl
@[simp] theorem wo_mul {a b : Int} : wr (mulD (.int a) (.int b)) Q E = (CMulX a b ∧ Q (.int (a * b))) := by with_unfolding_all exact wr_chk
@[simp] theorem wo_div {a b : Int} : wr (fdivD (.int a) (.int b)) Q E = (DivOk a b ∧ Q (.int (a.fdiv b))) := by with_unfolding_all exact wr_chk
@[simp] theorem wo_mod {a b : Int} : wr (modD (.int a) (.int b)) Q E = (b ≠ 0 ∧ Q (.int (a.fmod b))) := by with_unfolding_all exact wr_chk
@[simp] theorem wo_pow {a b : Int} : wr (powD (.int a) (.int b)) Q E = (CPow a b ∧ Q (.int (a ^ b.toNat))) := by with_unfolding_all exact wr_chk
@[simp] theorem wo_cmp {f : Int → Int → Bool} {a b : Int} : wr (cmpD f (.int a) (.int b)) Q E = Q (.bl (f a b)) := by with_unfolding_all exact id rfl
@[simp] theorem wo_neg {a : Int} : wr (negD (.int a)) Q E = Q (.int (-a)) := by with_unfolding_all exact id rfl
@[simp] theorem wo_eq {a b : Int} : wr (eqD (.int a) (.int b)) Q E = Q (.bl (decide (a = b))) := by with_unfolding_all exact id rfl
@[simp] theorem wo_eqs {a b : Str} : wr (eqD (.str a) (.str b)) Q E = Q (.bl (decide (a = b))) := by with_unfolding_all exact id rfl
@[simp] theorem wo_ne {a b : Int} : wr (neD (.int a) (.int b)) Q E = Q (.bl (!decide (a = b))) := by with_unfolding_all exact id rfl
@[simp] theorem wo_nes {a b : Str} : wr (neD (.str a) (.str b)) Q E = Q (.bl (!decide (a = b))) := by with_unfolding_all exact id rfl
@[simp] theorem wo_isN {a : D} : wr (isD a .non) Q E = Q (.bl (match a with | .non => true | _ => false)) := by
  with_unfolding_all
    cases a <;> rfl
@[simp] theorem wo_isB {a b : Bool} : wr (isD (.bl a) (.bl b)) Q E = Q (.bl (decide (a = b))) := by with_unfolding_all exact id rfl
@[simp] theorem wo_lenL {xs : List D} : wr (lenD [.lst xs]) Q E = Q (.int xs.length) := by with_unfolding_all exact id rfl
@[simp] theorem wo_lenT {xs : List D} : wr (lenD [.tup xs]) Q E = Q (.int xs.length) := by with_unfolding_all exact id rfl
@[simp] theorem wo_abs {a : Int} : wr (absD [.int a]) Q E = Q (.int (if a < 0 then -a else a)) := by with_unfolding_all exact id rfl
@[simp] theorem wo_int {a : Int} : wr (intD [.int a]) Q E = Q (.int a) := by with_unfolding_all exact id rfl
@[simp] theorem wo_intB {a : Bool} : wr (intD [.bl a]) Q E = Q (.int (if a = true then 1 else 0)) := by
  with_unfolding_all
    cases a <;> rfl
@[simp] theorem wo_max {a b : Int} : wr (maxD [.int a, .int b]) Q E = Q (.int (if b > a then b else a)) := by with_unfolding_all exact id rfl
@[simp] theorem wo_min {a b : Int} : wr (minD [.int a, .int b]) Q E = Q (.int (if b < a then b else a)) := by with_unfolding_all exact id rfl
@[simp] theorem wo_gcd {a b : Int} : wr (gcdD [.int a, .int b]) Q E = Q (.int (Int.gcd a b)) := by with_unfolding_all exact id rfl
@[simp] theorem wo_ixL {xs : List D} {i : Int} : wr (ixD (.lst xs) (.int i)) Q E = wr (ofOpt (atI xs i)) Q E := by with_unfolding_all exact id rfl
@[simp] theorem wo_ixT {xs : List D} {i : Int} : wr (ixD (.tup xs) (.int i)) Q E = wr (ofOpt (atI xs i)) Q E := by with_unfolding_all exact id rfl
@[simp] theorem wo_opt {α : Type} {a : α} {Q : α → Prop} : wr (ofOpt (some a)) Q E = Q a := by with_unfolding_all exact id rfl
@[simp] theorem wo_itL {xs : List D} {Q : List D → Prop} : wr (itD (.lst xs)) Q E = Q xs := by with_unfolding_all exact id rfl
@[simp] theorem wo_itT {xs : List D} {Q : List D → Prop} : wr (itD (.tup xs)) Q E = Q xs := by with_unfolding_all exact id rfl
@[simp] theorem wo_rng1 {j : Int} {Q : List D → Prop} : wr (rng1 [.int j]) Q E = ((-(2 ^ 62) ≤ j ∧ j < 2 ^ 62) ∧ Q (rngL 0 j.toNat)) := by with_unfolding_all exact wr_chk
@[simp] theorem wo_rng2 {i j : Int} {Q : List D → Prop} : wr (rng2 [.int i, .int j]) Q E = ((-(2 ^ 62) ≤ i ∧ i < 2 ^ 62 ∧ -(2 ^ 62) ≤ j ∧ j < 2 ^ 62) ∧ Q (rngL i (j - i).toNat)) := by with_unfolding_all exact wr_chk
@[simp] theorem wo_rep {xs : List D} {k : Int} {Q : List D → Prop} : wr (repL (.lst xs) (.int k)) Q E = ((-(2 ^ 63) ≤ k ∧ k < 2 ^ 63 ∧ xs.length * k.toNat ≤ sizeLine) ∧ Q (List.replicate k.toNat xs).flatten) := by with_unfolding_all exact wr_chk
@[simp] theorem wo_cat {xs ys : List D} {Q : List D → Prop} : wr (catL (.lst xs) (.lst ys)) Q E = (xs.length + ys.length ≤ sizeLine ∧ Q (xs ++ ys)) := by with_unfolding_all exact wr_chk
@[simp] theorem wo_blB {b : Bool} {Q : Bool → Prop} : wr (boolD (.bl b)) Q E = Q b := by with_unfolding_all exact id rfl
@[simp] theorem wo_trB {b : Bool} {Q : Bool → Prop} : wr (truthD (.bl b)) Q E = Q b := by with_unfolding_all exact id rfl
@[simp] theorem wo_trL {xs : List D} {Q : Bool → Prop} : wr (truthD (.lst xs)) Q E = Q (!xs.isEmpty) := by with_unfolding_all exact id rfl
@[simp] theorem wo_rev {xs : List D} : wr (revD (.lst xs)) Q E = Q (.lst xs.reverse) := by with_unfolding_all exact id rfl
@[simp] theorem wo_slL {xs : List D} {a b : Option Int} : wr (slD (.lst xs) a b) Q E = Q (.lst (cutL xs a b)) := by with_unfolding_all exact id rfl
@[simp] theorem wo_partI {i : Int} {Q : Option Int → Prop} : wr (partD (.int i)) Q E = Q (some i) := by with_unfolding_all exact id rfl
@[simp] theorem wo_tupL {xs : List D} : wr (tupleD [.lst xs]) Q E = Q (.tup xs) := by with_unfolding_all exact id rfl
theorem ints_map : ∀ ns : List Int, intsD (ns.map D.int) = some ns
  | [] => rfl
  | n :: ns => by
    show (intsD (ns.map D.int)).map (n :: ·) = some (n :: ns)
    rw [ints_map ns]
    rfl
@[simp] theorem wo_sum {ns : List Int} : wr (sumD [.lst (ns.map D.int)]) Q E = Q (.int ns.sum) := by
  with_unfolding_all
    show wr (ofOpt (intsD (ns.map D.int)) >>= fun ns => .ok (.int ns.sum)) Q E = _
    rw [ints_map]
    rfl
end
/-- a whole number, no truth value -/
def isI : D → Bool
  | .int _ => true
  | _ => false
theorem fdiv_mul {a g : Int} (h : g ∣ a) : a.fdiv g * g = a := by
  with_unfolding_all
    obtain ⟨q, rfl⟩ := h
    by_cases z : g = 0
    · subst z; simp
    · rw [Int.mul_fdiv_cancel_left _ z, Int.mul_comm]
theorem pos_of_mul {q g : Int} (h : 0 < q * g) (hg : 0 < g) : 0 < q := Classical.byContradiction fun z => by
  have := Int.mul_le_mul_of_nonneg_right (show q ≤ 0 by omega) (Int.le_of_lt hg)
  rw [Int.zero_mul] at this
  omega
theorem le_mul_pos {q g : Int} (h : 0 ≤ q) (hg : 0 < g) : q ≤ q * g := by
  with_unfolding_all
    have := Int.mul_le_mul_of_nonneg_left (show 1 ≤ g by omega) h
    rwa [Int.mul_one] at this
theorem Bd.le {n : Nat} {a b : Int} (h : Bd n a) (h0 : 0 ≤ b) (hb : b ≤ a) : Bd n b := by
  with_unfolding_all
    unfold Bd at *
    omega
theorem Bd.dvd {n : Nat} {a b : Int} (h : Bd n a) (ha : a ≠ 0) (hb : b ∣ a) : Bd n b := by
  with_unfolding_all
    unfold Bd at *
    exact Nat.lt_of_le_of_lt (Nat.le_of_dvd (by omega) (Int.natAbs_dvd_natAbs.mpr hb)) h
theorem atI_nn {α : Type} {xs : List α} (i : Nat) : atI xs (i : Int) = xs[i]? := by
  with_unfolding_all
    unfold atI ixN
    rw [if_pos (Int.natCast_nonneg i)]
    by_cases h : i < xs.length
    · rw [if_pos (by omega)]
      rfl
    · rw [if_neg (by omega), List.getElem?_eq_none (by omega)]
      rfl
theorem atI_of {α : Type} {xs : List α} {i : Int} (h : 0 ≤ i) : atI xs i = xs[i.toNat]? := by
  with_unfolding_all
    have := atI_nn (xs := xs) i.toNat
    rwa [Int.toNat_of_nonneg h] at this
@[simp] theorem atI_lit {α : Type} {xs : List α} (i : Nat) : atI xs (OfNat.ofNat i : Int) = xs[i]? := by with_unfolding_all exact atI_nn i
@[simp] theorem atI_zero {α : Type} {xs : List α} : atI xs (0 : Int) = xs[0]? := by with_unfolding_all exact atI_nn 0
@[simp] theorem atI_one {α : Type} {xs : List α} : atI xs (1 : Int) = xs[1]? := by with_unfolding_all exact atI_nn 1
theorem rngL_get {lo : Int} {n i : Nat} {d : D} (h : (rngL lo n)[i]? = some d) : i < n ∧ d = .int (lo + i) := by
  with_unfolding_all
    unfold rngL at h
    rw [List.getElem?_map] at h
    by_cases z : i < n
    · rw [List.getElem?_range z] at h
      cases h
      exact ⟨z, rfl⟩
    · rw [List.getElem?_eq_none (by rw [List.length_range]; omega)] at h
      cases h
@[simp] theorem rngL_len {lo : Int} {n : Nat} : (rngL lo n).length = n := by
  with_unfolding_all
    unfold rngL
    rw [List.length_map, List.length_range]
theorem cut_to {α : Type} (xs : List α) (k : Nat) : cutL xs none (some (k : Int)) = xs.take k := by
  with_unfolding_all
    unfold cutL
    rw [HT.sIx_none, HT.sIx_nat, List.drop_zero, Nat.sub_zero, List.take_eq_take_iff, Nat.min_assoc, Nat.min_self]
theorem cut_from {α : Type} (xs : List α) (k : Nat) : cutL xs (some (k : Int)) none = xs.drop k := by
  with_unfolding_all
    unfold cutL
    rw [HT.sIx_none, HT.sIx_nat, List.take_of_length_le (by rw [List.length_drop]; omega)]
    by_cases h : k ≤ xs.length
    · rw [Nat.min_eq_left h]
    · rw [Nat.min_eq_right (by omega), List.drop_length, List.drop_eq_nil_of_le (by omega)]
theorem cut_fromTo {α : Type} (xs : List α) (i j : Nat) (h : i ≤ xs.length) : cutL xs (some (i : Int)) (some (j : Int)) = (xs.drop i).take (j - i) := by
  with_unfolding_all
    unfold cutL
    rw [HT.sIx_nat, HT.sIx_nat, Nat.min_eq_left h]
    by_cases hj : j ≤ xs.length
    · rw [Nat.min_eq_left hj]
    · rw [Nat.min_eq_right (by omega), List.take_of_length_le (by rw [List.length_drop]; omega), List.take_of_length_le (by rw [List.length_drop]; omega)]
end PL
namespace PL
open PySem PySem.Spec L2
open PyProof.Rows (b2i)
theorem wr_ini {c : Cl} {n : Nat} {o : Ev → Out} {ds : List D} {Q : List (Nm × D) → Prop} {E : Err → Prop}
    (h : wp o ⟨fun ρ => match ρ with | .ins c' fs :: _ => c' = c ∧ Q fs | _ => False, fun _ => False, fun _ => False, fun _ => False, fun e _ => E e⟩ ((ev0 n (.non :: ds)).set 0 (.ins c []))) : wr (mIni c n o ds) Q E := by
  unfold mIni
  unfold wp at h
  cases ho : o ((ev0 n (.non :: ds)).set 0 (.ins c [])) with
  | bk ρ => rw [ho] at h; unfold ends at h; exact h.elim
  | ct ρ => rw [ho] at h; unfold ends at h; exact h.elim
  | stuck => rw [ho] at h; unfold ends at h; exact h.elim
  | rt d ρ => rw [ho] at h; unfold ends at h; exact h.elim
  | exc e ρ => rw [ho] at h; unfold ends at h; unfold wr; exact h
  | nx ρ =>
    rw [ho] at h
    unfold ends at h
    match ρ, h with
    | .ins c' fs :: r, h =>
      obtain ⟨e, h⟩ := (show c' = c ∧ Q fs from h)
      show wr (if c' = c then Res.ok fs else .stuck) Q E
      rw [if_pos e]
      unfold wr
      exact h
section
variable {Q : D → Prop} {E : Err → Prop} {P : Po} {ρ : Ev}
@[simp] theorem wp_fld {i : Nat} {c : Cl} {n : Nm} {m : Ev → Res D} : wp (oFld i c n m) P ρ = wr (m ρ) (fun d => match ρ[i]? with | some (.ins c' fs) => (c' = c ∧ fs.length < 1000) ∧ P.nx (ρ.set i (.ins c (putD n d fs))) | _ => False) (fun e => P.exc e ρ) := by
  with_unfolding_all
    unfold wp oFld
    rw [ends_of]
    congr
    funext d
    cases ρ[i]? with
    | none => rfl
    | some sl =>
      cases sl with
      | ins c' fs =>
        show ends P (oChk _ _) = _
        unfold oChk
        by_cases z : c' = c ∧ fs.length < 1000
        · rw [if_pos z]; exact propext ⟨fun h => ⟨z, h⟩, fun h => h.2⟩
        · rw [if_neg z]; exact propext ⟨fun h => h.elim, fun h => absurd h.1 z⟩
      | _ => rfl
@[simp] theorem wm_ins {i : Nat} {n : Nm} : wr (mIns i n ρ) Q E = match ρ[i]? with | some (.ins _ fs) => wr (ofOpt (fs.lookup n)) Q E | _ => False := by
  with_unfolding_all
    unfold mIns
    cases ρ[i]? with
    | none => rfl
    | some sl => cases sl <;> rfl
@[simp] theorem wm_X0 {c : Cl} {Q : Err → Prop} : wr (mX0 c ρ) Q E = Q ⟨c, []⟩ := by with_unfolding_all exact id rfl
@[simp] theorem wm_X {g : List D → Res Err} {ms : Ev → Res (List D)} {Q : Err → Prop} : wr (mX g ms ρ) Q E = wr (ms ρ) (fun ds => wr (g ds) Q E) E := by with_unfolding_all exact wr_bind
theorem wo_new {c : Cl} {m : List D → Res (List (Nm × D))} {ds : List D} : wr (newD c m ds) Q E = wr (m ds) (fun fs => Q (.obj c fs)) E := by
  with_unfolding_all
    unfold newD
    rw [wr_bind]
    rfl
theorem wo_fld {c : Cl} {n : Nm} {fs : List (Nm × D)} : wr (fldD n (.obj c fs)) Q E = wr (ofOpt (fs.lookup n)) Q E := by with_unfolding_all exact id rfl
theorem wo_own2 {base : D → D → Res D} {ps rs : Cl → Option (List D → Res D)} {c : Cl} {fs gs : List (Nm × D)} {g : List D → Res D} (h : ps c = some g) : wr (ownD base ps rs (.obj c fs) (.obj c gs)) Q E = wr (g [.obj c fs, .obj c gs]) Q E := by
  with_unfolding_all
    show wr (ofOpt (ps c) >>= fun g => chk (c = c) (g [.obj c fs, .obj c gs])) Q E = _
    rw [h, ofOpt_some, ok_bind, wr_chk]
    exact propext ⟨fun h => h.2, fun h => ⟨rfl, h⟩⟩
theorem wo_ownI {base : D → D → Res D} {ps rs : Cl → Option (List D → Res D)} {c : Cl} {fs : List (Nm × D)} {i : Int} {g : List D → Res D} (h : ps c = some g) : wr (ownD base ps rs (.obj c fs) (.int i)) Q E = wr (g [.obj c fs, .int i]) Q E := by
  with_unfolding_all
    show wr (ofOpt (ps c) >>= fun g => g [.obj c fs, .int i]) Q E = _
    rw [h, ofOpt_some, ok_bind]
theorem wo_ownR {base : D → D → Res D} {ps rs : Cl → Option (List D → Res D)} {c : Cl} {fs : List (Nm × D)} {i : Int} {g : List D → Res D} (h : rs c = some g) : wr (ownD base ps rs (.int i) (.obj c fs)) Q E = wr (g [.obj c fs, .int i]) Q E := by
  with_unfolding_all
    show wr (ofOpt (rs c) >>= fun g => g [.obj c fs, .int i]) Q E = _
    rw [h, ofOpt_some, ok_bind]
@[simp] theorem wo_ownN {base : D → D → Res D} {ps rs : Cl → Option (List D → Res D)} {i j : Int} : wr (ownD base ps rs (.int i) (.int j)) Q E = wr (base (.int i) (.int j)) Q E := by with_unfolding_all exact id rfl
end
@[simp] theorem ends_nx {P : Po} {ρ : Ev} : ends P (.nx ρ) = P.nx ρ := by with_unfolding_all exact id rfl
@[simp] theorem wm_chain {f g : D → D → Res D} {a b c : Ev → Res D} {Q : D → Prop} {E : Err → Prop} {ρ : Ev} : wr (mChain f g a b c ρ) Q E = wr (a ρ) (fun x => wr (b ρ) (fun y => wr (f x y) (fun r => wr (chainD g y (c ρ) r) Q E) E) E) E := by
  with_unfolding_all
    unfold mChain
    rw [wr_bind]
    congr
    funext x
    rw [wr_bind]
    congr
    funext y
    rw [wr_bind]
@[simp] theorem wo_chain {g : D → D → Res D} {y : D} {m : Res D} {k : Bool} {Q : D → Prop} {E : Err → Prop} : wr (chainD g y m (.bl k)) Q E = if k = true then wr m (fun z => wr (g y z) Q E) E else Q (.bl false) := by
  with_unfolding_all
    cases k with
    | true => exact wr_bind
    | false => rfl
/-- a fraction as an instance -/
def R (q : Rat) : D := .obj .Ratio [(.top, .int q.num), (.under, .int q.den)]
@[simp] theorem wo_top {q : Rat} {Q : D → Prop} {E : Err → Prop} : wr (fldD .top (R q)) Q E = Q (.int q.num) := by with_unfolding_all exact id rfl
@[simp] theorem wo_under {q : Rat} {Q : D → Prop} {E : Err → Prop} : wr (fldD .under (R q)) Q E = Q (.int q.den) := by with_unfolding_all exact id rfl
theorem wo_ownRR {Q : D → Prop} {E : Err → Prop} {base : D → D → Res D} {ps rs : Cl → Option (List D → Res D)} {p q : Rat} {g : List D → Res D} (h : ps .Ratio = some g) : wr (ownD base ps rs (R p) (R q)) Q E = wr (g [R p, R q]) Q E := by with_unfolding_all exact wo_own2 h
theorem wo_ownRI {Q : D → Prop} {E : Err → Prop} {base : D → D → Res D} {ps rs : Cl → Option (List D → Res D)} {p : Rat} {i : Int} {g : List D → Res D} (h : ps .Ratio = some g) : wr (ownD base ps rs (R p) (.int i)) Q E = wr (g [R p, .int i]) Q E := by with_unfolding_all exact wo_ownI h
theorem wo_ownIR {Q : D → Prop} {E : Err → Prop} {base : D → D → Res D} {ps rs : Cl → Option (List D → Res D)} {p : Rat} {i : Int} {g : List D → Res D} (h : rs .Ratio = some g) : wr (ownD base ps rs (.int i) (R p)) Q E = wr (g [R p, .int i]) Q E := by with_unfolding_all exact wo_ownR h
theorem wo_ownC {Q : D → Prop} {E : Err → Prop} {base : D → D → Res D} {ps : Cl → Option (List D → Res D)} {p q : Rat} {g : List D → Res D} {r : D} (h : ps .Ratio = some g) (e : g [R p, R q] = .ok r) (hq : Q r) : wr (ownC base ps (R p) (R q)) Q E := by
  with_unfolding_all
    show wr (ofOpt (ps .Ratio) >>= fun g => chk (sameCl .Ratio (R q) = true) (g [R p, R q])) Q E
    rw [h, ofOpt_some, ok_bind, wr_chk, e]
    exact ⟨rfl, hq⟩
/-- fewer than n bits above and below the line -/
def Sz (n : Nat) (q : Rat) : Prop := Bd n q.num ∧ Bd n (q.den : Int)
theorem Sz.mono {n m : Nat} {q : Rat} (h : Sz n q) (l : n ≤ m) : Sz m q := by with_unfolding_all exact ⟨h.1.mono l, h.2.mono l⟩
theorem Bd.nat {n : Nat} {a : Nat} (h : a < 2 ^ n) : Bd n (a : Int) := by with_unfolding_all exact h
theorem divInt_size {n : Nat} {t u : Int} (h1 : Bd n t) (h2 : Bd n u) (hu : u ≠ 0) : Sz n (Rat.divInt t u) := by
  with_unfolding_all
    refine ⟨?_, ?_⟩
    · rw [Rat.num_divInt]
      unfold Bd at *
      refine Nat.lt_of_le_of_lt (Int.natAbs_ediv_le_natAbs _ _) ?_
      rw [Int.natAbs_mul]
      refine Nat.lt_of_le_of_lt (Nat.mul_le_mul_right _ (show u.sign.natAbs ≤ 1 from ?_)) (by rw [Nat.one_mul]; exact h1)
      rcases Int.lt_trichotomy u 0 with z | z | z
      · rw [Int.sign_eq_neg_one_of_neg z]; decide
      · exact absurd z hu
      · rw [Int.sign_eq_one_of_pos z]; decide
    · rw [Rat.den_divInt, if_neg hu]
      exact Bd.nat (Nat.lt_of_le_of_lt (Nat.div_le_self _ _) h2)
/-- dividing by the greatest common divisor, with the sign of the one below -/
theorem divInt_parts {t u : Int} (hu : 0 < u) : (Rat.divInt t u).num = t.fdiv (Int.gcd t u) ∧ ((Rat.divInt t u).den : Int) = u.fdiv (Int.gcd t u) := by
  with_unfolding_all
    have g0 : (0 : Int) ≤ Int.gcd t u := Int.natCast_nonneg _
    refine ⟨?_, ?_⟩
    · rw [Rat.num_divInt, Int.sign_eq_one_of_pos hu, Int.one_mul, Int.fdiv_eq_ediv_of_nonneg _ g0, Int.gcd_comm]
    · rw [Rat.den_divInt, if_neg (by omega), Int.fdiv_eq_ediv_of_nonneg _ g0, Int.natCast_ediv, Int.gcd_comm, Int.natAbs_of_nonneg (by omega)]
theorem divInt_partsN {t u : Int} (hu : u < 0) : (Rat.divInt t u).num = t.fdiv (-(Int.gcd t u : Int)) ∧ ((Rat.divInt t u).den : Int) = u.fdiv (-(Int.gcd t u : Int)) := by
  with_unfolding_all
    have h := divInt_parts (t := -t) (u := -u) (by omega)
    rw [Rat.neg_divInt_neg, Int.gcd_neg, Int.neg_gcd] at h
    rw [h.1, h.2]
    refine ⟨?_, ?_⟩ <;> rw [← Int.neg_fdiv_neg, Int.neg_neg]
theorem gcd_add_dvd (p q : Rat) : (Int.gcd (p.num * q.den + q.num * p.den) (p.den * q.den) : Int) ∣ (q.den : Int) * q.den := by
  with_unfolding_all
    have h1 : (Int.gcd (p.num * q.den + q.num * p.den) (p.den * q.den) : Int) ∣ p.num * q.den + q.num * p.den := Int.gcd_dvd_left _ _
    have h2 : (Int.gcd (p.num * q.den + q.num * p.den) (p.den * q.den) : Int) ∣ p.den * q.den := Int.gcd_dvd_right _ _
    generalize (Int.gcd (p.num * q.den + q.num * p.den) (p.den * q.den) : Int) = d at h1 h2
    have h3 : d ∣ p.num * (q.den * q.den) := by
      have e : p.num * (q.den * q.den) = (p.num * q.den + q.num * p.den) * q.den - p.den * q.den * q.num := by grind
      rw [e]
      exact Int.dvd_sub (Int.dvd_mul_of_dvd_left h1) (Int.dvd_mul_of_dvd_left h2)
    have h4 : d ∣ p.den * (q.den * q.den) := by
      rw [← Int.mul_assoc]
      exact Int.dvd_mul_of_dvd_left h2
    have h5 := Int.dvd_coe_gcd h3 h4
    rw [Int.gcd_mul_right] at h5
    have e : Int.gcd p.num p.den = 1 := p.reduced
    rw [e, Nat.one_mul] at h5
    exact Int.dvd_natAbs.mp h5
theorem gcd_pos {t u : Int} (hu : u ≠ 0) : (Int.gcd t u : Int) ≠ 0 := fun z => by
  have := Int.gcd_eq_zero_iff.mp (Int.ofNat_eq_zero.mp z)
  omega
theorem den_pos (q : Rat) : (0 : Int) < q.den := by
  with_unfolding_all
    have := q.den_pos
    omega
theorem gcd_add_bd {n m : Nat} {p q : Rat} (hq : Sz m q) (l : 2 * m ≤ 9000) : Bd 9000 (Int.gcd (p.num * q.den + q.num * p.den) (p.den * q.den)) := by
  with_unfolding_all
    have h := (hq.2.mul hq.2).mono (show m + m ≤ 9000 by omega)
    have z := den_pos q
    exact h.dvd (Int.ne_of_gt (Int.mul_pos z z)) (gcd_add_dvd p q)
theorem add_divInt (p q : Rat) : Rat.divInt (p.num * q.den + q.num * p.den) (p.den * q.den) = p + q := by
  with_unfolding_all
    have h1 := den_pos p
    have h2 := den_pos q
    rw [← Rat.divInt_add_divInt _ _ (by omega) (by omega), Rat.num_divInt_den, Rat.num_divInt_den]
theorem mul_divInt (p q : Rat) : Rat.divInt (p.num * q.num) (p.den * q.den) = p * q := by
  with_unfolding_all
    rw [← Rat.divInt_mul_divInt, Rat.num_divInt_den, Rat.num_divInt_den]
theorem Sz.add {n m : Nat} {p q : Rat} (hp : Sz n p) (hq : Sz m q) : Sz (n + m + 1) (p + q) := by
  with_unfolding_all
    have h1 := den_pos p
    have h2 := den_pos q
    rw [← add_divInt]
    refine divInt_size (((hp.1.mul hq.2).add (hq.1.mul hp.2)).mono (by omega)) ((hp.2.mul hq.2).mono (by omega)) (Int.ne_of_gt (Int.mul_pos h1 h2))
theorem Sz.mul {n m : Nat} {p q : Rat} (hp : Sz n p) (hq : Sz m q) : Sz (n + m) (p * q) := by
  with_unfolding_all
    have h1 := den_pos p
    have h2 := den_pos q
    rw [← mul_divInt]
    exact divInt_size (hp.1.mul hq.1) (hp.2.mul hq.2) (Int.ne_of_gt (Int.mul_pos h1 h2))
theorem Sz.neg {n : Nat} {p : Rat} (hp : Sz n p) : Sz n (-p) := by with_unfolding_all exact ⟨by rw [Rat.neg_num]; exact hp.1.neg, by rw [Rat.neg_den]; exact hp.2⟩
theorem Sz.int {n : Nat} {i : Int} (h : Bd n i) (hn : 1 ≤ n) : Sz n (i : Rat) := by with_unfolding_all exact ⟨h, Nat.lt_of_lt_of_le (show (1 : Nat) < 2 ^ 1 by decide) (Nat.pow_le_pow_right (by decide) hn)⟩
/-- a whole number, or a fraction -/
inductive NumD : D → Rat → Prop
  | int (i : Int) : NumD (.int i) i
  | rat (q : Rat) : NumD (R q) q
/-- the word I, of the items that are left -/
theorem for_rem {P : Po} {f : D → Ev → Option Ev} {o : Ev → Out} (I : List D → Ev → Prop) {ds : List D} {ρ : Ev} (h0 : I ds ρ)
    (hs : ∀ (J : List D → Ev → Prop), (∀ l ρ, I l ρ → J l ρ) → ∀ (d : D) (l : List D) (ρ : Ev), I (d :: l) ρ → ∃ ρ1, f d ρ = some ρ1 ∧ wp o ⟨J l, P.rt, P.nx, J l, P.exc⟩ ρ1) (hd : ∀ ρ, I [] ρ → P.nx ρ) : ends P (forL f o ds ρ) := by
  with_unfolding_all
    have hs := hs I fun _ _ h => h
    induction ds generalizing ρ with
    | nil => exact hd ρ h0
    | cons d l ih =>
      obtain ⟨ρ1, e1, w⟩ := hs d l ρ h0
      unfold forL
      unfold wp at w
      cases ho : o ρ1 with
      | nx ρ2 => rw [ho] at w; simp only [e1, ho]; exact ih w
      | ct ρ2 => rw [ho] at w; simp only [e1, ho]; exact ih w
      | bk ρ2 => rw [ho] at w; simp only [e1, ho]; exact w
      | rt d ρ2 => rw [ho] at w; simp only [e1, ho]; exact w
      | exc e ρ2 => rw [ho] at w; simp only [e1, ho]; exact w
      | stuck => rw [ho] at w; exact w.elim
/-- .. by the number of items done -/
theorem for_ix {P : Po} {f : D → Ev → Option Ev} {o : Ev → Out} (I : Nat → Ev → Prop) {ds : List D} {ρ : Ev} (h0 : I 0 ρ)
    (hs : ∀ (J : Nat → Ev → Prop), (∀ i ρ, I i ρ → J i ρ) → ∀ (i : Nat) (d : D) (ρ : Ev), ds[i]? = some d → I i ρ → ∃ ρ1, f d ρ = some ρ1 ∧ wp o ⟨J (i + 1), P.rt, P.nx, J (i + 1), P.exc⟩ ρ1) (hd : ∀ ρ, I ds.length ρ → P.nx ρ) : ends P (forL f o ds ρ) := by
  with_unfolding_all
    exact
      for_inv I h0 (hs I fun _ _ h => h) hd
theorem zip_eq : ∀ (a b : List D), zipL a b = (a.zip b).map fun p => .tup [p.1, p.2]
  | [], _ => rfl
  | _ :: _, [] => rfl
  | x :: a, y :: b => by
    show D.tup [x, y] :: zipL a b = _
    rw [zip_eq a b]
    rfl
@[simp] theorem wo_zip {a b : List D} {Q : List D → Prop} {E : Err → Prop} : wr (zipD [.lst a, .lst b]) Q E = Q (zipL a b) := by with_unfolding_all exact id rfl
/-- all are numbers -/
inductive NumDs : List D → List Rat → Prop
  | nil : NumDs [] []
  | cons {d : D} {q : Rat} {ds : List D} {qs : List Rat} : NumD d q → NumDs ds qs → NumDs (d :: ds) (q :: qs)
theorem NumDs.length {ds : List D} {qs : List Rat} (h : NumDs ds qs) : ds.length = qs.length := by
  with_unfolding_all
    induction h with
    | nil => rfl
    | cons _ _ ih => rw [List.length_cons, List.length_cons, ih]
theorem NumDs.rats : ∀ qs : List Rat, NumDs (qs.map R) qs
  | [] => .nil
  | q :: qs => .cons (.rat q) (NumDs.rats qs)
theorem NumDs.map {α : Type} {f : α → D} {g : α → Rat} (h : ∀ a, NumD (f a) (g a)) : ∀ l : List α, NumDs (l.map f) (l.map g)
  | [] => .nil
  | a :: l => .cons (h a) (NumDs.map h l)
inductive NumDss : List (List D) → List (List Rat) → Prop
  | nil : NumDss [] []
  | cons {d : List D} {q : List Rat} {ds : List (List D)} {qs : List (List Rat)} : NumDs d q → NumDss ds qs → NumDss (d :: ds) (q :: qs)
theorem NumDss.length {ds : List (List D)} {qs : List (List Rat)} (h : NumDss ds qs) : ds.length = qs.length := by
  with_unfolding_all
    induction h with
    | nil => rfl
    | cons _ _ ih => rw [List.length_cons, List.length_cons, ih]
@[simp] theorem cut_one {α : Type} (x : α) (xs : List α) : cutL (x :: xs) (some 1) none = xs := by with_unfolding_all exact cut_from (x :: xs) 1
/-- a + the sum of the products -/
def dotA : Rat → List Rat → List Rat → Rat
  | a, w :: ws, q :: qs => dotA (a + w * q) ws qs
  | a, _, _ => a
theorem Sz.zero : Sz 1 (0 : Rat) := by with_unfolding_all exact ⟨by unfold Bd; decide, by unfold Bd; decide⟩
theorem lc_mapM {α : Type} {f : D → Ev → Option Ev} {m : Ev → Res D} {ρ : Ev} {g F : α → D} : ∀ {l : List α}, (∀ a ∈ l, ∃ ρ1, f (g a) ρ = some ρ1 ∧ wr (m ρ1) (fun d => d = F a) noE) → lcGo f mYes m ρ (l.map g) = .ok (l.map F)
  | [], _ => rfl
  | a :: l, h => by
    obtain ⟨ρ1, e1, e2⟩ := h a List.mem_cons_self
    have ih := lc_mapM (f := f) (m := m) (ρ := ρ) (g := g) (F := F) (l := l) fun x hx => h x (List.mem_cons_of_mem _ hx)
    rw [List.map_cons]
    unfold lcGo
    rw [e1]
    simp only [mYes, ok_bind, if_true]
    rw [wr_eq e2, ok_bind, ih]
    rfl
theorem wm_lcM {α : Type} (l : List α) (g F : α → D) {vs : List Nat} {mi : Ev → Res (List D)} {f : D → Ev → Option Ev} {m : Ev → Res D} {Q : List D → Prop} {E : Err → Prop} {ρ : Ev} (hi : wr (mi ρ) (fun ds => ds = l.map g) noE) (hl : l.length ≤ sizeLine)
    (h : ∀ a ∈ l, ∃ ρ1, f (g a) (wipeE ρ vs) = some ρ1 ∧ wr (m ρ1) (fun d => d = F a) noE) (hq : Q (l.map F)) : wr (fLc vs mi f mYes m ρ) Q E := by
  with_unfolding_all
    unfold fLc
    rw [wr_bind, wr_eq hi]
    show wr (noX (lcGo f mYes m (wipeE ρ vs) (l.map g)) >>= _) Q E
    rw [lc_mapM h]
    show wr (chk _ _) Q E
    rw [wr_chk]
    exact ⟨by rw [List.length_map]; exact hl, hq⟩
theorem wm_lcOf {xs ys : List D} {vs : List Nat} {mi : Ev → Res (List D)} {f : D → Ev → Option Ev} {m : Ev → Res D} {Q : List D → Prop} {E : Err → Prop} {ρ : Ev} (hi : wr (mi ρ) (fun ds => ds = xs) noE) (h : lcGo f mYes m (wipeE ρ vs) xs = .ok ys)
    (hl : ys.length ≤ sizeLine) (hq : Q ys) : wr (fLc vs mi f mYes m ρ) Q E := by
  with_unfolding_all
    unfold fLc
    rw [wr_bind, wr_eq hi]
    show wr (noX (lcGo f mYes m (wipeE ρ vs) xs) >>= _) Q E
    rw [h]
    show wr (chk _ _) Q E
    rw [wr_chk]
    exact ⟨hl, hq⟩
/-- top and under as the law keeps them -/
def pairD (p : Int × Int) : D := .tup [.int p.1, .int p.2]
/-- as the program takes them -/
def numP (plain : Int) (p : Int × Int) : D := if plain = 1 ∧ p.1.fmod p.2 = 0 then .int (p.1.fdiv p.2) else R (Rat.divInt p.1 p.2)
theorem numP_num {plain : Int} {p : Int × Int} (hu : 0 < p.2) : NumD (numP plain p) (Rat.divInt p.1 p.2) := by
  with_unfolding_all
    unfold numP
    split
    · rename_i h
      have e : Rat.divInt p.1 p.2 = ((p.1.fdiv p.2 : Int) : Rat) := by
        have d : p.2 ∣ p.1 := Int.dvd_of_fmod_eq_zero h.2
        have e2 := fdiv_mul d
        rw [Rat.divInt_eq_div]
        have hz : (p.2 : Rat) ≠ 0 := fun z => by
          have := Rat.intCast_eq_zero_iff.mp z
          omega
        have e3 : ((p.1.fdiv p.2 * p.2 : Int) : Rat) = (p.1 : Rat) := by rw [e2]
        rw [Rat.intCast_mul] at e3
        rw [← e3]
        exact Rat.mul_div_cancel hz
      rw [e]
      exact .int _
    · exact .rat _
theorem sumO_go {f : D → D → Res D} {xs : List D} : sumO f [.lst xs] = sumGo f (.int 0) xs := by with_unfolding_all exact id rfl
theorem sumGo_cons {f : D → D → Res D} {a b x : D} {xs : List D} (h : f a x = .ok b) : sumGo f a (x :: xs) = sumGo f b xs := by
  with_unfolding_all
    show (match f a x with | .ok b => sumGo f b xs | _ => .stuck) = _
    rw [h]
end PL
namespace PL
open PySem PySem.Spec L2
open PyProof.Rows (b2i)
@[simp] theorem wp_try {ob : Ev → Out} {hs : List Hd} {P : Po} {ρ : Ev} : wp (oTry ob hs) P ρ = wp ob { P with exc := fun e ρ' => ends P (hdGo hs e ρ') } ρ := by
  with_unfolding_all
    unfold wp oTry
    cases ob ρ <;> rfl
def Po.leave (P : Po) (i : Option Nat) : Po := ⟨fun ρ => P.nx (leaveX i ρ), P.rt, fun ρ => P.bk (leaveX i ρ), fun ρ => P.ct (leaveX i ρ), fun _ _ => False⟩
theorem ends_leave {P : Po} {i : Option Nat} {o : Out} : ends P (o.leave i) = ends (P.leave i) o := by
  with_unfolding_all
    cases o <;> rfl
@[simp] theorem hd_nil {P : Po} {e : Err} {ρ : Ev} : ends P (hdGo [] e ρ) = P.exc e ρ := by with_unfolding_all exact id rfl
theorem hd_yes {P : Po} {e : Err} {ρ : Ev} {h : Hd} {r : List Hd} (z : h.t e.cls = some true) (w : wp h.o (P.leave h.i) (enterX h.i e ρ)) : ends P (hdGo (h :: r) e ρ) := by
  with_unfolding_all
    unfold hdGo
    rw [z]
    show ends P (Out.leave _ _)
    rw [ends_leave]
    exact w
theorem hd_no {P : Po} {e : Err} {ρ : Ev} {h : Hd} {r : List Hd} (z : h.t e.cls = some false) (w : ends P (hdGo r e ρ)) : ends P (hdGo (h :: r) e ρ) := by
  with_unfolding_all
    unfold hdGo
    rw [z]
    exact w
@[simp] theorem wm_xf {i : Nat} {f : Nm} {ρ : Ev} {Q : D → Prop} {E : Err → Prop} : wr (mXf i f ρ) Q E = match ρ[i]? with | some (.exn er) => wr (ofOpt (er.fs.lookup f)) Q E | _ => False := by
  with_unfolding_all
    unfold mXf
    cases ρ[i]? with
    | none => rfl
    | some s => cases s <;> rfl
@[simp] theorem wm_xi {i : Nat} {t : Cl → Option Bool} {ρ : Ev} {Q : D → Prop} {E : Err → Prop} : wr (mXi i t ρ) Q E = match ρ[i]? with | some (.exn er) => wr (ofOpt (t er.cls)) (fun b => Q (.bl b)) E | _ => False := by
  with_unfolding_all
    unfold mXi
    cases ρ[i]? with
    | none => rfl
    | some s =>
      cases s with
      | exn e => exact wr_bind
      | _ => rfl
/-- data that _law_same finds to be itself, at so many levels -/
inductive SameOk : Nat → D → Prop
  | non (n : Nat) : SameOk n .non
  | bl (n : Nat) (b : Bool) : SameOk n (.bl b)
  | int (n : Nat) (i : Int) : SameOk n (.int i)
  | str (n : Nat) (x : Str) : SameOk n (.str x)
  | tup {n : Nat} {xs : List D} : (∀ x ∈ xs, SameOk n x) → xs.length < 2 ^ 61 → SameOk (n + 1) (.tup xs)
  | lst {n : Nat} {xs : List D} : (∀ x ∈ xs, SameOk n x) → xs.length < 2 ^ 61 → SameOk (n + 1) (.lst xs)
section
variable {α : Type} {xs : List α}
@[simp] theorem atI_2 : atI xs (2 : Int) = xs[2]? := by with_unfolding_all exact atI_nn 2
@[simp] theorem atI_3 : atI xs (3 : Int) = xs[3]? := by with_unfolding_all exact atI_nn 3
@[simp] theorem atI_4 : atI xs (4 : Int) = xs[4]? := by with_unfolding_all exact atI_nn 4
@[simp] theorem atI_5 : atI xs (5 : Int) = xs[5]? := by with_unfolding_all exact atI_nn 5
@[simp] theorem atI_6 : atI xs (6 : Int) = xs[6]? := by with_unfolding_all exact atI_nn 6
@[simp] theorem atI_7 : atI xs (7 : Int) = xs[7]? := by with_unfolding_all exact atI_nn 7
@[simp] theorem atI_8 : atI xs (8 : Int) = xs[8]? := by with_unfolding_all exact atI_nn 8
@[simp] theorem atI_9 : atI xs (9 : Int) = xs[9]? := by with_unfolding_all exact atI_nn 9
@[simp] theorem atI_10 : atI xs (10 : Int) = xs[10]? := by with_unfolding_all exact atI_nn 10
@[simp] theorem atI_11 : atI xs (11 : Int) = xs[11]? := by with_unfolding_all exact atI_nn 11
@[simp] theorem atI_12 : atI xs (12 : Int) = xs[12]? := by with_unfolding_all exact atI_nn 12
@[simp] theorem atI_13 : atI xs (13 : Int) = xs[13]? := by with_unfolding_all exact atI_nn 13
@[simp] theorem atI_14 : atI xs (14 : Int) = xs[14]? := by with_unfolding_all exact atI_nn 14
@[simp] theorem atI_15 : atI xs (15 : Int) = xs[15]? := by with_unfolding_all exact atI_nn 15
@[simp] theorem atI_16 : atI xs (16 : Int) = xs[16]? := by with_unfolding_all exact atI_nn 16
@[simp] theorem atI_17 : atI xs (17 : Int) = xs[17]? := by with_unfolding_all exact atI_nn 17
@[simp] theorem atI_18 : atI xs (18 : Int) = xs[18]? := by with_unfolding_all exact atI_nn 18
@[simp] theorem atI_19 : atI xs (19 : Int) = xs[19]? := by with_unfolding_all exact atI_nn 19
@[simp] theorem atI_20 : atI xs (20 : Int) = xs[20]? := by with_unfolding_all exact atI_nn 20
@[simp] theorem atI_21 : atI xs (21 : Int) = xs[21]? := by with_unfolding_all exact atI_nn 21
@[simp] theorem atI_22 : atI xs (22 : Int) = xs[22]? := by with_unfolding_all exact atI_nn 22
@[simp] theorem atI_23 : atI xs (23 : Int) = xs[23]? := by with_unfolding_all exact atI_nn 23
@[simp] theorem atI_24 : atI xs (24 : Int) = xs[24]? := by with_unfolding_all exact atI_nn 24
@[simp] theorem atI_25 : atI xs (25 : Int) = xs[25]? := by with_unfolding_all exact atI_nn 25
@[simp] theorem atI_26 : atI xs (26 : Int) = xs[26]? := by with_unfolding_all exact atI_nn 26
@[simp] theorem atI_27 : atI xs (27 : Int) = xs[27]? := by with_unfolding_all exact atI_nn 27
@[simp] theorem atI_28 : atI xs (28 : Int) = xs[28]? := by with_unfolding_all exact atI_nn 28
@[simp] theorem atI_29 : atI xs (29 : Int) = xs[29]? := by with_unfolding_all exact atI_nn 29
@[simp] theorem atI_30 : atI xs (30 : Int) = xs[30]? := by with_unfolding_all exact atI_nn 30
@[simp] theorem atI_31 : atI xs (31 : Int) = xs[31]? := by with_unfolding_all exact atI_nn 31
@[simp] theorem atI_32 : atI xs (32 : Int) = xs[32]? := by with_unfolding_all exact atI_nn 32
@[simp] theorem atI_33 : atI xs (33 : Int) = xs[33]? := by with_unfolding_all exact atI_nn 33
@[simp] theorem atI_34 : atI xs (34 : Int) = xs[34]? := by with_unfolding_all exact atI_nn 34
@[simp] theorem atI_35 : atI xs (35 : Int) = xs[35]? := by with_unfolding_all exact atI_nn 35
@[simp] theorem atI_36 : atI xs (36 : Int) = xs[36]? := by with_unfolding_all exact atI_nn 36
@[simp] theorem atI_37 : atI xs (37 : Int) = xs[37]? := by with_unfolding_all exact atI_nn 37
@[simp] theorem atI_38 : atI xs (38 : Int) = xs[38]? := by with_unfolding_all exact atI_nn 38
@[simp] theorem atI_39 : atI xs (39 : Int) = xs[39]? := by with_unfolding_all exact atI_nn 39
@[simp] theorem atI_40 : atI xs (40 : Int) = xs[40]? := by with_unfolding_all exact atI_nn 40
end
/-- .. of tuples and lists by their items -/
inductive SameAll : Nat → List D → Prop
  | nil (n : Nat) : SameAll n []
  | cons {n : Nat} {x : D} {xs : List D} : SameOk n x → SameAll n xs → SameAll n (x :: xs)
theorem SameAll.mem {n : Nat} {xs : List D} (h : SameAll n xs) : ∀ x ∈ xs, SameOk n x := by
  with_unfolding_all
    induction h with
    | nil => exact fun x hx => by cases hx
    | cons a _ ih => exact fun x hx => (List.mem_cons.mp hx).elim (fun e => e ▸ a) (ih x)
theorem SameAll.tup {n : Nat} {xs : List D} (h : SameAll n xs) (l : xs.length < 2 ^ 61 := by first | decide | simp) : SameOk (n + 1) (.tup xs) := by with_unfolding_all exact .tup h.mem l
theorem SameAll.lst {n : Nat} {xs : List D} (h : SameAll n xs) (l : xs.length < 2 ^ 61 := by first | decide | simp) : SameOk (n + 1) (.lst xs) := by with_unfolding_all exact .lst h.mem l
/-- is it this very truth value -/
def isBl : D → Bool → Bool
  | .bl a, b => decide (a = b)
  | _, _ => false
@[simp] theorem wo_isV {a : D} {b : Bool} {Q : D → Prop} {E : Err → Prop} : wr (isD a (.bl b)) Q E = Q (.bl (isBl a b)) := by
  with_unfolding_all
    cases a <;> rfl
@[simp] theorem isBl_int {i : Int} {b : Bool} : isBl (.int i) b = false := by with_unfolding_all exact id rfl
@[simp] theorem isBl_str {x : Str} {b : Bool} : isBl (.str x) b = false := by with_unfolding_all exact id rfl
@[simp] theorem isBl_tup {xs : List D} {b : Bool} : isBl (.tup xs) b = false := by with_unfolding_all exact id rfl
@[simp] theorem isBl_lst {xs : List D} {b : Bool} : isBl (.lst xs) b = false := by with_unfolding_all exact id rfl
@[simp] theorem isBl_non {b : Bool} : isBl .non b = false := by with_unfolding_all exact id rfl
@[simp] theorem isBl_obj {c : Cl} {fs : List (Nm × D)} {b : Bool} : isBl (.obj c fs) b = false := by with_unfolding_all exact id rfl
@[simp] theorem isBl_bl {a b : Bool} : isBl (.bl a) b = decide (a = b) := by with_unfolding_all exact id rfl
@[simp] theorem wo_isi {f : D → Option Bool} {d : D} {Q : D → Prop} {E : Err → Prop} : wr (isiD f d) Q E = wr (ofOpt (f d)) (fun b => Q (.bl b)) E := by with_unfolding_all exact wr_bind
@[simp] theorem isT_int_non {t : Cl → Bool}  : isTy "int" t .non = some false := by
  with_unfolding_all
    kernel_rfl
@[simp] theorem isT_int_bl {t : Cl → Bool} {b : Bool} : isTy "int" t (.bl b) = some true := by
  with_unfolding_all
    kernel_rfl
@[simp] theorem isT_int_int {t : Cl → Bool} {i : Int} : isTy "int" t (.int i) = some true := by
  with_unfolding_all
    kernel_rfl
@[simp] theorem isT_int_str {t : Cl → Bool} {x : Str} : isTy "int" t (.str x) = some false := by
  with_unfolding_all
    kernel_rfl
@[simp] theorem isT_int_tup {t : Cl → Bool} {xs : List D} : isTy "int" t (.tup xs) = some false := by
  with_unfolding_all
    kernel_rfl
@[simp] theorem isT_int_lst {t : Cl → Bool} {xs : List D} : isTy "int" t (.lst xs) = some false := by
  with_unfolding_all
    kernel_rfl
@[simp] theorem isT_bool_non {t : Cl → Bool}  : isTy "bool" t .non = some false := by
  with_unfolding_all
    kernel_rfl
@[simp] theorem isT_bool_bl {t : Cl → Bool} {b : Bool} : isTy "bool" t (.bl b) = some true := by
  with_unfolding_all
    kernel_rfl
@[simp] theorem isT_bool_int {t : Cl → Bool} {i : Int} : isTy "bool" t (.int i) = some false := by
  with_unfolding_all
    kernel_rfl
@[simp] theorem isT_bool_str {t : Cl → Bool} {x : Str} : isTy "bool" t (.str x) = some false := by
  with_unfolding_all
    kernel_rfl
@[simp] theorem isT_bool_tup {t : Cl → Bool} {xs : List D} : isTy "bool" t (.tup xs) = some false := by
  with_unfolding_all
    kernel_rfl
@[simp] theorem isT_bool_lst {t : Cl → Bool} {xs : List D} : isTy "bool" t (.lst xs) = some false := by
  with_unfolding_all
    kernel_rfl
@[simp] theorem isT_str_non {t : Cl → Bool}  : isTy "str" t .non = some false := by
  with_unfolding_all
    kernel_rfl
@[simp] theorem isT_str_bl {t : Cl → Bool} {b : Bool} : isTy "str" t (.bl b) = some false := by
  with_unfolding_all
    kernel_rfl
@[simp] theorem isT_str_int {t : Cl → Bool} {i : Int} : isTy "str" t (.int i) = some false := by
  with_unfolding_all
    kernel_rfl
@[simp] theorem isT_str_str {t : Cl → Bool} {x : Str} : isTy "str" t (.str x) = some true := by
  with_unfolding_all
    kernel_rfl
@[simp] theorem isT_str_tup {t : Cl → Bool} {xs : List D} : isTy "str" t (.tup xs) = some false := by
  with_unfolding_all
    kernel_rfl
@[simp] theorem isT_str_lst {t : Cl → Bool} {xs : List D} : isTy "str" t (.lst xs) = some false := by
  with_unfolding_all
    kernel_rfl
@[simp] theorem isT_tuple_non {t : Cl → Bool}  : isTy "tuple" t .non = some false := by
  with_unfolding_all
    kernel_rfl
@[simp] theorem isT_tuple_bl {t : Cl → Bool} {b : Bool} : isTy "tuple" t (.bl b) = some false := by
  with_unfolding_all
    kernel_rfl
@[simp] theorem isT_tuple_int {t : Cl → Bool} {i : Int} : isTy "tuple" t (.int i) = some false := by
  with_unfolding_all
    kernel_rfl
@[simp] theorem isT_tuple_str {t : Cl → Bool} {x : Str} : isTy "tuple" t (.str x) = some false := by
  with_unfolding_all
    kernel_rfl
@[simp] theorem isT_tuple_tup {t : Cl → Bool} {xs : List D} : isTy "tuple" t (.tup xs) = some true := by
  with_unfolding_all
    kernel_rfl
@[simp] theorem isT_tuple_lst {t : Cl → Bool} {xs : List D} : isTy "tuple" t (.lst xs) = some false := by
  with_unfolding_all
    kernel_rfl
@[simp] theorem isT_list_non {t : Cl → Bool}  : isTy "list" t .non = some false := by
  with_unfolding_all
    kernel_rfl
@[simp] theorem isT_list_bl {t : Cl → Bool} {b : Bool} : isTy "list" t (.bl b) = some false := by
  with_unfolding_all
    kernel_rfl
@[simp] theorem isT_list_int {t : Cl → Bool} {i : Int} : isTy "list" t (.int i) = some false := by
  with_unfolding_all
    kernel_rfl
@[simp] theorem isT_list_str {t : Cl → Bool} {x : Str} : isTy "list" t (.str x) = some false := by
  with_unfolding_all
    kernel_rfl
@[simp] theorem isT_list_tup {t : Cl → Bool} {xs : List D} : isTy "list" t (.tup xs) = some false := by
  with_unfolding_all
    kernel_rfl
@[simp] theorem isT_list_lst {t : Cl → Bool} {xs : List D} : isTy "list" t (.lst xs) = some true := by
  with_unfolding_all
    kernel_rfl
@[simp] theorem isOwn_non {t : Cl → Option Bool}  : isOwn t .non = some false := by with_unfolding_all exact id rfl
@[simp] theorem isOwn_bl {t : Cl → Option Bool} {b : Bool} : isOwn t (.bl b) = some false := by with_unfolding_all exact id rfl
@[simp] theorem isOwn_int {t : Cl → Option Bool} {i : Int} : isOwn t (.int i) = some false := by with_unfolding_all exact id rfl
@[simp] theorem isOwn_str {t : Cl → Option Bool} {x : Str} : isOwn t (.str x) = some false := by with_unfolding_all exact id rfl
@[simp] theorem isOwn_tup {t : Cl → Option Bool} {xs : List D} : isOwn t (.tup xs) = some false := by with_unfolding_all exact id rfl
@[simp] theorem isOwn_lst {t : Cl → Option Bool} {xs : List D} : isOwn t (.lst xs) = some false := by with_unfolding_all exact id rfl
section
variable {base : D → D → Res D} {ps : Cl → Option (List D → Res D)} {b : D}
@[simp] theorem ownC_int {i : Int} : ownC base ps (.int i) b = base (.int i) b := by with_unfolding_all exact id rfl
@[simp] theorem ownC_str {x : Str} : ownC base ps (.str x) b = base (.str x) b := by with_unfolding_all exact id rfl
@[simp] theorem ownC_bl {x : Bool} : ownC base ps (.bl x) b = base (.bl x) b := by with_unfolding_all exact id rfl
@[simp] theorem ownC_non : ownC base ps .non b = base .non b := by with_unfolding_all exact id rfl
@[simp] theorem ownC_tup {xs : List D} : ownC base ps (.tup xs) b = base (.tup xs) b := by with_unfolding_all exact id rfl
@[simp] theorem ownC_lst {xs : List D} : ownC base ps (.lst xs) b = base (.lst xs) b := by with_unfolding_all exact id rfl
end
@[simp] theorem lk_cons {n m : Nm} {d : D} {fs : List (Nm × D)} : ((m, d) :: fs).lookup n = if n = m then some d else fs.lookup n := by
  with_unfolding_all
    rw [List.lookup_cons]
    by_cases h : n = m
    · subst h
      simp
    · rw [if_neg h]
      have : (n == m) = false := by simpa using h
      rw [this]
/-- errors by their fields -/
def er1 (c : Cl) (f : Nm) (d : D) : Err := ⟨c, [(f, d)]⟩
def er2 (c : Cl) (f f' : Nm) (d d' : D) : Err := ⟨c, [(f, d), (f', d')]⟩
@[simp] theorem er1_cls {c : Cl} {f : Nm} {d : D} : (er1 c f d).cls = c := by with_unfolding_all exact id rfl
@[simp] theorem er2_cls {c : Cl} {f f' : Nm} {d d' : D} : (er2 c f f' d d').cls = c := by with_unfolding_all exact id rfl
@[simp] theorem er1_fs {c : Cl} {f : Nm} {d : D} : (er1 c f d).fs = [(f, d)] := by with_unfolding_all exact id rfl
@[simp] theorem er2_fs {c : Cl} {f f' : Nm} {d d' : D} : (er2 c f f' d d').fs = [(f, d), (f', d')] := by with_unfolding_all exact id rfl
@[simp] theorem wo_x1 {c : Cl} {f : Nm} {d : D} {Q : Err → Prop} {E : Err → Prop} : wr (xF1 c f [d]) Q E = Q (er1 c f d) := by with_unfolding_all exact id rfl
theorem wo_x2 {c : Cl} {n : Nat} {f f' : Nm} {y : Str} {d : D} {Q : Err → Prop} {E : Err → Prop} (h : n + y.length ≤ 1000) (hq : Q (er2 c f f' (.str y) d)) : wr (xF2 c n f f' [.str y, d]) Q E := by
  with_unfolding_all
    show wr (chk (n + y.length ≤ sizeLine) _) Q E
    rw [wr_chk]
    exact ⟨by rw [sizeLine_eq]; omega, hq⟩
end PL
namespace PL
open PySem PySem.Spec L2
open PyProof.Rows (b2i)
section
variable {α : Type} {Q : D → Prop} {E : Err → Prop} {ρ : Ev} {P : Po} {i : Nat} {m mk : Ev → Res D}
@[simp] theorem wm_peek {is : List Nat} : wr (mPeek is m ρ) Q E = wr (m (frzAll is ρ)) (fun d => isFlatV d = true ∧ Q d) (fun e => flatFs e.fs = true ∧ E e) := by
  with_unfolding_all
    unfold mPeek peekD
    cases m (frzAll is ρ) with
    | ok d => exact wr_chk
    | exc e => exact wr_chk
    | stuck => rfl
@[simp] theorem wm_tpeek {is : List Nat} {m : Ev → Res Bool} {Q : Bool → Prop} : wr (mtPeek is m ρ) Q E = wr (m (frzAll is ρ)) Q (fun e => flatFs e.fs = true ∧ E e) := by
  with_unfolding_all
    unfold mtPeek peekT
    cases m (frzAll is ρ) with
    | ok d => rfl
    | exc e => exact wr_chk
    | stuck => rfl
@[simp] theorem sizeLine_s : sizeLine = 16777216 := by with_unfolding_all exact sizeLine_eq
@[simp] theorem freeze_eq : freeze i ρ = match ρ[i]? with
  | some (.own xs) => ρ.set i (.dat (.lst xs))
  | some (.own2 xss) => ρ.set i (.dat (.lst (xss.map .lst)))
  | some (.ins c fs) => ρ.set i (.dat (.obj c fs))
  | _ => ρ := by
  unfold freeze
  rfl
@[simp] theorem frzAll_nil : frzAll [] ρ = ρ := by with_unfolding_all exact id rfl
@[simp] theorem frzAll_cons {is : List Nat} : frzAll (i :: is) ρ = frzAll is (freeze i ρ) := by with_unfolding_all exact id rfl
@[simp] theorem flatV_int {k : Int} : isFlatV (.int k) = true := by with_unfolding_all exact id rfl
@[simp] theorem flatV_bl {b : Bool} : isFlatV (.bl b) = true := by with_unfolding_all exact id rfl
@[simp] theorem flatV_str {x : Str} : isFlatV (.str x) = true := by with_unfolding_all exact id rfl
@[simp] theorem flatV_non : isFlatV .non = true := by with_unfolding_all exact id rfl
@[simp] theorem wm_ownIx : wr (mOwnIx i mk ρ) Q E = match ρ[i]? with | some (.own xs) => wr (mk ρ) (fun k => wr (ownIx xs k) Q E) E | _ => False := by
  with_unfolding_all
    unfold mOwnIx ownOf
    cases ρ[i]? with
    | none => rfl
    | some s =>
      cases s with
      | own xs => exact wr_bind
      | _ => rfl
@[simp] theorem wo_ownIx {xs : List D} {k : Int} : wr (ownIx xs (.int k)) Q E = wr (ofOpt (atI xs k)) Q E := by with_unfolding_all exact id rfl
@[simp] theorem wm_fOwn {Q : List D → Prop} : wr (fOwn i ρ) Q E = match ρ[i]? with | some (.own xs) => Q xs | _ => False := by
  with_unfolding_all
    unfold fOwn ownOf
    cases ρ[i]? with
    | none => rfl
    | some s => cases s <;> rfl
@[simp] theorem wm_ownT : wr (mOwnT i ρ) Q E = match ρ[i]? with | some (.own xs) => Q (.tup xs) | _ => False := by
  with_unfolding_all
    unfold mOwnT ownOf
    cases ρ[i]? with
    | none => rfl
    | some s => cases s <;> rfl
@[simp] theorem wp_rev : wp (oRev i) P ρ = match ρ[i]? with | some (.own xs) => P.nx (ρ.set i (.own xs.reverse)) | _ => False := by
  with_unfolding_all
    unfold wp oRev oOwn ownOf
    cases ρ[i]? with
    | none => rfl
    | some s => cases s <;> rfl
def setIxP (xs : List D) (d : D) : D → (List D → Prop) → Prop
  | .int k, q => match ixN xs.length k with
    | some j => q (xs.set j d)
    | none => False
  | _, _ => False
@[simp] theorem wp_setIx : wp (oSetIx i mk m) P ρ = match ρ[i]? with | some (.own xs) => wr (m ρ) (fun d => wr (mk ρ) (fun k => setIxP xs d k fun ys => P.nx (ρ.set i (.own ys))) (fun e => P.exc e ρ)) (fun e => P.exc e ρ) | _ => False := by
  with_unfolding_all
    unfold wp oSetIx oOwn ownOf
    cases ρ[i]? with
    | none => rfl
    | some s =>
      cases s with
      | own xs =>
        show ends P (Out.of (m ρ) ρ _) = _
        rw [ends_of]
        congr
        funext d
        rw [ends_of]
        congr
        funext k
        cases k with
        | int k =>
          show ends P (match ixN xs.length k with | some j => _ | none => _) = match ixN xs.length k with | some j => _ | none => _
          cases ixN xs.length k <;> rfl
        | _ => rfl
      | _ => rfl
theorem setIx_nat {xs : List D} {d : D} {j : Nat} {q : List D → Prop} (h : j < xs.length) : setIxP xs d (.int j) q = q (xs.set j d) := by
  with_unfolding_all
    show (match ixN xs.length (j : Int) with | some j => q (xs.set j d) | none => False) = _
    have e2 : ixN xs.length (j : Int) = some j := by
      unfold ixN
      rw [if_pos (Int.natCast_nonneg j), if_pos (by omega)]
      rfl
    rw [e2]
theorem setIx_int {xs : List D} {d : D} {k : Int} {q : List D → Prop} (h0 : 0 ≤ k) (h : k < xs.length) : setIxP xs d (.int k) q = q (xs.set k.toNat d) := by
  with_unfolding_all
    have := setIx_nat (xs := xs) (d := d) (j := k.toNat) (q := q) (by omega)
    rwa [Int.toNat_of_nonneg h0] at this
end
/-- a comprehension of which one knows that each item has S -/
theorem lc_each {α β : Type} {f : D → Ev → Option Ev} {m : Ev → Res D} {ρ : Ev} {g : α → D} {F : β → D} {S : β → Prop} : ∀ {l : List α}, (∀ a ∈ l, ∃ ρ1, f (g a) ρ = some ρ1 ∧ wr (m ρ1) (fun d => ∃ b, d = F b ∧ S b) noE) → ∃ bs : List β, bs.length = l.length ∧ (∀ b ∈ bs, S b) ∧ lcGo f mYes m ρ (l.map g) = .ok (bs.map F)
  | [], _ => ⟨[], rfl, (fun b h => by cases h), rfl⟩
  | a :: l, h => by
    obtain ⟨ρ1, e1, e2⟩ := h a List.mem_cons_self
    obtain ⟨d, e3, b, rfl, hb⟩ := wr_ex e2
    obtain ⟨bs, k1, k2, k3⟩ := lc_each (f := f) (m := m) (ρ := ρ) (g := g) (F := F) (S := S) (l := l) fun x hx => h x (List.mem_cons_of_mem _ hx)
    refine ⟨b :: bs, by rw [List.length_cons, List.length_cons, k1], fun x hx => (List.mem_cons.mp hx).elim (fun e => e ▸ hb) (k2 x), ?_⟩
    rw [List.map_cons]
    unfold lcGo
    rw [e1]
    simp only [mYes, ok_bind, if_true]
    rw [e3, ok_bind, k3]
    rfl
theorem wm_lcE {α β : Type} (l : List α) (g : α → D) (F : β → D) (S : β → Prop) {vs : List Nat} {mi : Ev → Res (List D)} {f : D → Ev → Option Ev} {m : Ev → Res D} {Q : List D → Prop} {E : Err → Prop} {ρ : Ev} (hi : wr (mi ρ) (fun ds => ds = l.map g) noE) (hl : l.length ≤ sizeLine)
    (h : ∀ a ∈ l, ∃ ρ1, f (g a) (wipeE ρ vs) = some ρ1 ∧ wr (m ρ1) (fun d => ∃ b, d = F b ∧ S b) noE) (hq : ∀ bs : List β, bs.length = l.length → (∀ b ∈ bs, S b) → Q (bs.map F)) : wr (fLc vs mi f mYes m ρ) Q E := by
  with_unfolding_all
    obtain ⟨bs, k1, k2, k3⟩ := lc_each h
    unfold fLc
    rw [wr_bind, wr_eq hi]
    show wr (noX (lcGo f mYes m (wipeE ρ vs) (l.map g)) >>= _) Q E
    rw [k3]
    show wr (chk _ _) Q E
    rw [wr_chk]
    exact ⟨by rw [List.length_map, k1]; exact hl, hq bs k1 k2⟩
theorem rngL0 (n : Nat) : rngL 0 n = (List.range n).map fun i => D.int (i : Nat) := by
  with_unfolding_all
    unfold rngL
    refine List.map_congr_left fun i _ => ?_
    rw [Int.zero_add]
end PL
namespace PL
open PySem PySem.Spec L2
open PyProof.Rows (b2i)
def F2G (K : PySem.W.Frag) (E : XK) (G H : Hp) (Q : VK) : Res (List (List D)) → Prop
  | .ok xss => ∀ (G' : Hp) (p : Addr) (ls : List Addr) (H' : Hp), Grow G H G' H' → H' p = some (.lst (ls.map V.ref)) → RowsOk K (Base.of G H) G' H' ls xss → G' p = none → H p = none → (p :: ls).Nodup → Q (.ref p) H'
  | .exc e => ∀ G' cls dx H', Grow G H G' H' → ErrOk K G' H' cls dx e → E cls dx H'
  | .stuck => False
def tF2 (K : PySem.W.Frag) (B : Base) (W : WX) (m : Ev → Res (List (List D))) : TE := fun σ H Q => ∃ G ρ, EnvOk K B G σ ρ H ∧ F2G K (fun c d H' => W c d σ H') G H Q (m ρ)
theorem F2G.chk {K : PySem.W.Frag} {E : XK} {G H : Hp} {Q : VK} {p : Prop} [Decidable p] {r : Res (List (List D))} (h : F2G K E G H Q (chk p r)) : p ∧ F2G K E G H Q r := by
  unfold PL.chk at h
  by_cases z : p
  · rw [if_pos z] at h; exact ⟨z, h⟩
  · rw [if_neg z] at h; exact h.elim
theorem RG.bindF2 {α β : Type} {R : Hp → β → α → Prop} {K : PySem.W.Frag} {E : XK} {G H : Hp} {Q : VK} {r : Res α} {f : α → Res (List (List D))} {P : β → Hp → Prop} (h : F2G K E G H Q (r >>= f)) (k : ∀ a G1 v H1, Grow G H G1 H1 → R G1 v a → F2G K E G H Q (f a) → P v H1) : RG R K E G H P r := by
  cases r with
  | ok a => exact fun G1 v H1 g r => k a G1 v H1 g r h
  | exc e => exact h
  | stuck => exact h
theorem rows_free {K : PySem.W.Frag} {B : Base} {G H : Hp} {ls : List Addr} {xss : List (List D)} {a : Addr} (r : RowsOk K B G H ls xss) (h : H a = none) : a ∉ ls := fun m => by
  obtain ⟨vs, xs, h1, _⟩ := r.at m
  rw [h] at h1
  cases h1
theorem RowsOk.baseN {K : PySem.W.Frag} {B B' : Base} {G H : Hp} (hb : ∀ a, B.H a = none → B'.H a = none) : ∀ {ls : List Addr} {xss : List (List D)}, RowsOk K B G H ls xss → RowsOk K B' G H ls xss
  | [], [], _ => trivial
  | _ :: _, _ :: _, ⟨⟨vs, h1, r, g1, b1⟩, h⟩ => ⟨⟨vs, h1, r, g1, hb _ b1⟩, RowsOk.baseN hb h⟩
  | [], _ :: _, h => h
  | _ :: _, [], h => h
/-- the slot that holds what was just made -/
theorem F2G.slot {K : PySem.W.Frag} {B : Base} {G H G' H' : Hp} {σ : St} {ρ : Ev} {p : Addr} {ls : List Addr} {xss : List (List D)} {i : Nat} (e : EnvOk K B G σ ρ H) (g : Grow G H G' H') (hp : H' p = some (.lst (ls.map V.ref))) (r : RowsOk K (Base.of G H) G' H' ls xss) (gp : G' p = none) (hn : H p = none) (nd : (p :: ls).Nodup) :
    EnvOk K B G' (σ.set i (some (.ref p))) (ρ.set i (.own2 xss)) H' := by
  have bH : ∀ a, H a = none → B.H a = none := fun a h => e.grow.h.free h
  refine (e.growN g).setMine i ⟨p, ls, rfl, hp, r.baseN bH, gp, bH p hn, nd⟩ fun a fa j t _ ht ft => ?_
  have ft' := foot_grow (e.slot j t ht) g.h ft
  have ha : H a = none := by
    rcases (show a = p ∨ ∃ ms : List Addr, H' p = some (.lst (ms.map V.ref)) ∧ a ∈ ms from fa) with h | ⟨ms, hm, m⟩
    · rw [h]; exact hn
    · rw [hp] at hm
      injection hm with hm
      injection hm with hm
      have em := map_ref_inj hm
      subst em
      obtain ⟨_, _, _, _, _, b1⟩ := r.at m
      exact b1
  exact e.noMine ha j t ht ft'
def oSetF2 (i : Nat) (m : Ev → Res (List (List D))) : Ev → Out := fun ρ => Out.of (m ρ) ρ fun xss => .nx (ρ.set i (.own2 xss))
section
variable {X : Cx} {B : Base} {W : WX} {e : Expr} {m : Ev → Res (List (List D))} {pos : Pos}
theorem setF2 {K : PySem.W.Frag} {G H : Hp} {σ : St} {ρ : Ev} {Dn : Ends} {i : Nat} (e : EnvOk K B G σ ρ H) (q : SG K B W Dn (oSetF2 i m ρ)) : F2G K (fun c d H' => W c d σ H') G H (fun v H1 => Dn.nx (σ.set i (some v)) H1) (m ρ) := by
  unfold oSetF2 at q
  cases hm : m ρ with
  | ok xss =>
    rw [hm] at q
    exact fun G' p ls H' g hp r gp hn nd => q G' _ H' (F2G.slot e g hp r gp hn nd)
  | exc x =>
    rw [hm] at q
    exact fun G1 c d H1 g k => q G1 σ H1 c d (e.growN g) k
  | stuck => rw [hm] at q; exact q
theorem ms_setF2 (i : Nat) {x : Str} {p' : Pos} (he : PE X e (tF2 X.K B W m)) (hN : X.N.Nodup := by decide) (hi : X.N[i]? = some x := by rfl) (hx : Loc X.env.scope x := by first | exact .inl rfl | exact .inr rfl) (hs : swapsWith e (some (.Name x p')) pos.line X.env = pure false := by rfl)
    (hf : X.fn x = true ∨ X.env.scope.names.lookup x = some .local := by first | exact .inl rfl | exact .inr rfl) : PS X (.Assign [.Name x p'] e pos) (tS X.K B W (oSetF2 i m)) :=
  PS.imp (ps_set hN hi hx he hs hf) fun Dn σ H ⟨G, ρ, e, q⟩ => ⟨G, ρ, e, setF2 e q⟩
/-- [] as such a list -/
def fNil2 : Ev → Res (List (List D)) := fun _ => .ok []
theorem mf2_nil : PE X (.List [] pos) (tF2 X.K B W fNil2) := PE.imp (pe_lst (pa_nil (X := X))) fun σ H Q ⟨G, ρ, e, q⟩ =>
  ⟨Nat.zero_le _, fun p hp => q G p [] _ (.side e.sub hp _) upd_same trivial (e.sub.free hp) hp (by simp)⟩
/-- as data -/
def lst2Of (m : Ev → Res (List (List D))) : Ev → Res D := fun ρ => m ρ >>= fun xss => .ok (.lst (xss.map .lst))
def lcGo2 (f : D → Ev → Option Ev) (t : Ev → Res Bool) (m : Ev → Res (List D)) (ρ : Ev) : List D → Res (List (List D))
  | [] => .ok []
  | d :: ds => match f d ρ with
    | none => .stuck
    | some ρ1 => t ρ1 >>= fun k => if k = true then m ρ1 >>= fun y => lcGo2 f t m ρ ds >>= fun ys => .ok (y :: ys) else lcGo2 f t m ρ ds
def fLc2 (vs : List Nat) (mi : Ev → Res (List D)) (f : D → Ev → Option Ev) (t : Ev → Res Bool) (m : Ev → Res (List D)) : Ev → Res (List (List D)) := fun ρ => mi ρ >>= fun ds => noX (lcGo2 f t m (wipeE ρ vs) ds) >>= fun ys => chk (ys.length ≤ sizeLine) (.ok ys)
theorem lc_main2 {K : PySem.W.Frag} {G H : Hp} {σ : St} {ρ : Ev} {Q : VK} {vs js : List Nat} {mi : Ev → Res (List D)} {f : D → Ev → Option Ev} {t : Ev → Res Bool} {m : Ev → Res (List D)} (hj : ∀ j ∈ js, j ∈ vs) (e : EnvOk K B G σ ρ H) (q : F2G K (fun c d H' => W c d σ H') G H Q (fLc2 vs mi f t m ρ)) :
    tLc (tG (ItOk K B.H) K B W mi) (gM K B js f) (tMT K B noW t) (tF K B noW m) vs σ H Q := by
  refine ⟨G, ρ, e, RG.bindF2 q fun ds G1 J H1 g r q1 => fun Dd hD => ?_⟩
  have e1 := (e.growN g).wipe vs
  obtain ⟨ys, hys, hz, q2⟩ : ∃ ys, lcGo2 f t m (wipeE ρ vs) ds = .ok ys ∧ ys.length ≤ sizeLine ∧ F2G K (fun c d H' => W c d σ H') G H Q (.ok ys) := by
    have q3 : F2G K (fun c d H' => W c d σ H') G H Q (noX (lcGo2 f t m (wipeE ρ vs) ds) >>= fun ys => chk (ys.length ≤ sizeLine) (.ok ys)) := q1
    cases hr : lcGo2 f t m (wipeE ρ vs) ds with
    | ok ys =>
      rw [hr] at q3
      obtain ⟨z, q3⟩ := F2G.chk (show F2G K _ G H Q (chk (ys.length ≤ sizeLine) (.ok ys)) from q3)
      exact ⟨ys, rfl, z, q3⟩
    | exc x => rw [hr] at q3; exact q3.elim
    | stuck => rw [hr] at q3; exact q3.elim
  refine ⟨fun i k H' => k = ds.length - i ∧ i ≤ ds.length ∧ ∃ (G' : Hp) (acc : List (List D)) (accl : List Addr) (rest : List (List D)), Grow G1 H1 G' H' ∧ H' Dd = some (.lst (accl.map V.ref)) ∧ RowsOk K (Base.of G H) G' H' accl acc ∧ G' Dd = none ∧ (Dd :: accl).Nodup ∧ lcGo2 f t m (wipeE ρ vs) (ds.drop i) = .ok rest ∧ acc ++ rest = ys,
    ⟨ds.length, rfl, Nat.zero_le _, G1, [], [], ys, .side g.sub hD _, upd_same, trivial, g.sub.free hD, by simp, hys, rfl⟩, ?_⟩
  rintro i k H2 ⟨rfl, hl, G2, acc, accl, rest, g2, hD2, r2, gD, nd, hgo, hap⟩
  obtain ⟨k1, k2⟩ := r i G2 H2 g2.g (e.grow.trans (g.trans g2)).h g2.sub
  by_cases hlt : i < ds.length
  · obtain ⟨go, yl⟩ := k2 ds[i] (List.getElem?_eq_getElem hlt)
    rw [List.drop_eq_getElem_cons hlt] at hgo
    refine .inr ⟨go, fun H' => ∃ m', m' < ds.length - i ∧ m' = ds.length - (i + 1) ∧ i + 1 ≤ ds.length ∧ ∃ (G' : Hp) (acc : List (List D)) (accl : List Addr) (rest : List (List D)), Grow G1 H1 G' H' ∧ H' Dd = some (.lst (accl.map V.ref)) ∧ RowsOk K (Base.of G H) G' H' accl acc ∧ G' Dd = none ∧ (Dd :: accl).Nodup ∧ lcGo2 f t m (wipeE ρ vs) (ds.drop (i + 1)) = .ok rest ∧ acc ++ rest = ys, fun H' z => z, fun x H3 y => ?_⟩
    obtain ⟨G3, g3, r3⟩ := yl x H3 y
    have hgo' : (match f ds[i] (wipeE ρ vs) with
      | none => Res.stuck
      | some ρ1 => t ρ1 >>= fun k => if k = true then m ρ1 >>= fun y => lcGo2 f t m (wipeE ρ vs) (ds.drop (i + 1)) >>= fun ys => .ok (y :: ys) else lcGo2 f t m (wipeE ρ vs) (ds.drop (i + 1))) = .ok rest := hgo
    cases hf : f ds[i] (wipeE ρ vs) with
    | none => rw [hf] at hgo'; cases hgo'
    | some ρ1 =>
      rw [hf] at hgo'
      dsimp only at hgo'
      have g13 := g2.trans g3
      refine ⟨G3, ds[i], _, ρ1, e1.growN g13, r3, hf, fun σ2 e2 l2 o2 => ⟨?_, G3, ρ1, e2, ?_⟩⟩
      · refine (wipe_agree ?_ fun j hjv => ?_)
        · rw [l2, wipe_length]
        · rw [o2 j fun z => hjv (hj j z), wipe_get hjv]
      · cases ht : t ρ1 with
        | exc x => rw [ht] at hgo'; cases hgo'
        | stuck => rw [ht] at hgo'; cases hgo'
        | ok k =>
          rw [ht, ok_bind] at hgo'
          refine fun G4 v H4 g4 r4 => ?_
          have r4' : v = k := r4
          subst r4'
          cases v with
          | false =>
            simp only [Bool.false_eq_true, if_false] at hgo' ⊢
            have g14 := g13.trans g4
            obtain ⟨w1, w2⟩ := (g3.trans g4).keeps hD2 gD
            exact ⟨ds.length - (i + 1), by omega, rfl, hlt, G4, acc, accl, rest, g14, w1, r2.grow (g3.trans g4), w2, nd, hgo', hap⟩
          | true =>
            simp only [if_true] at hgo' ⊢
            cases hm : m ρ1 with
            | exc x => rw [hm] at hgo'; cases hgo'
            | stuck => rw [hm] at hgo'; cases hgo'
            | ok y =>
              rw [hm, ok_bind] at hgo'
              cases hl2 : lcGo2 f t m (wipeE ρ vs) (ds.drop (i + 1)) with
              | exc x => rw [hl2] at hgo'; cases hgo'
              | stuck => rw [hl2] at hgo'; cases hgo'
              | ok rest' =>
                rw [hl2, ok_bind] at hgo'
                cases hgo'
                refine ⟨G4, ρ1, e2.growN g4, ?_⟩
                rw [hm]
                refine fun G5 p us H5 g5 hp5 r5 gp5 hn5 => ?_
                have g34 := g3.trans g4
                have g25 := g34.trans g5
                obtain ⟨w1, w2⟩ := g25.keeps hD2 gD
                obtain ⟨w3, _⟩ := g34.keeps hD2 gD
                have r4b := r2.grow g34
                have npD : p ≠ Dd := fun z => by rw [z, w3] at hn5; cases hn5
                have npl : p ∉ accl := rows_free r4b hn5
                rw [List.nodup_cons] at nd
                have hlen : acc.length < sizeLine := by
                  have := congrArg List.length hap
                  rw [List.length_append, List.length_cons] at this
                  omega
                have hH : H p = none := (g.h.trans (g2.h.trans g34.h)).free hn5
                have r5b : RowsOk K (Base.of G H) G5 H5 (accl ++ [p]) (acc ++ [y]) := RowsOk.snoc hp5 r5 gp5 hH (r2.grow g25)
                have nD : Dd ∉ accl ++ [p] := by
                  rw [List.mem_append, List.mem_singleton, not_or]
                  exact ⟨nd.1, fun z => npD z.symm⟩
                refine ⟨accl.map V.ref, w1, by rw [List.length_map, r2.length]; exact hlen, ds.length - (i + 1), by omega, rfl, hlt, G5, acc ++ [y], accl ++ [p], rest', ?_, by rw [List.map_append]; exact upd_same, r5b.other nD, w2, ?_, rfl, by rw [List.append_assoc]; exact hap⟩
                · have g15 := g2.trans g25
                  exact ⟨g15.g, fun a o z => by rw [upd_ne (ne_of_none z hD)]; exact g15.h _ _ z, fun a o z => by rw [upd_ne (ne_of_none z w2)]; exact g15.sub _ _ z, g15.new⟩
                · rw [List.nodup_cons]
                  refine ⟨nD, List.nodup_append.mpr ⟨nd.2, by simp, fun a ha b hb z => ?_⟩⟩
                  rw [List.mem_singleton.mp hb] at z
                  exact npl (z ▸ ha)
  · have ei : i = ds.length := by omega
    subst ei
    rw [List.drop_length] at hgo
    cases hgo
    rw [List.append_nil] at hap
    subst hap
    exact .inl ⟨k1 (Nat.le_refl _), q2 G2 Dd accl H2 (g.trans g2) hD2 r2 gD (g.h.free hD) nd⟩
theorem mf2_lc {elt tg iter : Expr} {ifs : List Expr} {scope : Scope} {own : List (Str × Nat)} {js : List Nat} {mi : Ev → Res (List D)} {f : D → Ev → Option Ev} {t : Ev → Res Bool} {m : Ev → Res (List D)} (hc : X.calm = true) (ok : BlkOk X.N X.env.scope scope own) (hi : IP X B W tg iter mi)
    (hg : ∀ (s : Shared) (H : Hp) (C : Addr) (cl : List (Str × Addr)) (fp : List Addr), GP (X.blk s H scope (compEnvC scope cl C X.env) fp) B tg js f) (ht : ∀ (s : Shared) (H : Hp) (C : Addr) (cl : List (Str × Addr)) (fp : List Addr), PTs (X.blk s H scope (compEnvC scope cl C X.env) fp) ifs (tMT X.K B noW t))
    (he : ∀ (s : Shared) (H : Hp) (C : Addr) (cl : List (Str × Addr)) (fp : List Addr), PE (X.blk s H scope (compEnvC scope cl C X.env) fp) elt (tF X.K B noW m)) (hj : ∀ j ∈ js, j ∈ own.map (·.2) := by decide) (hN : X.N.Nodup := by decide) (hs : ∀ x, foldedSetIterable iter X.env x = pure x := by intro _; rfl) :
    PE X (.ListComp elt [⟨tg, iter, ifs, 0⟩] scope pos) (tF2 X.K B W (fLc2 (own.map (·.2)) mi f t m)) :=
  PE.imp (pe_lc hc hN hi ok hg ht he hs) fun σ H Q ⟨G, ρ, e, q⟩ => lc_main2 hj e q
theorem ms_setLc2 (i : Nat) {y : Str} {py spos : Pos} {elt tg iter : Expr} {ifs : List Expr} {scope : Scope} {own : List (Str × Nat)} {js : List Nat} {mi : Ev → Res (List D)} {f : D → Ev → Option Ev} {t : Ev → Res Bool} {m : Ev → Res (List D)} (hc : X.calm = true) (ok : BlkOk X.N X.env.scope scope own) (hi : IP X B W tg iter mi)
    (hg : ∀ (s : Shared) (H : Hp) (C : Addr) (cl : List (Str × Addr)) (fp : List Addr), GP (X.blk s H scope (compEnvC scope cl C X.env) fp) B tg js f) (ht : ∀ (s : Shared) (H : Hp) (C : Addr) (cl : List (Str × Addr)) (fp : List Addr), PTs (X.blk s H scope (compEnvC scope cl C X.env) fp) ifs (tMT X.K B noW t))
    (he : ∀ (s : Shared) (H : Hp) (C : Addr) (cl : List (Str × Addr)) (fp : List Addr), PE (X.blk s H scope (compEnvC scope cl C X.env) fp) elt (tF X.K B noW m)) (hsw : swapsWith (.ListComp elt [⟨tg, iter, ifs, 0⟩] scope pos) (some (.Name y py)) spos.line X.env = pure true) (hj : ∀ j ∈ js, j ∈ own.map (·.2) := by decide) (hN : X.N.Nodup := by decide)
    (hy : X.N[i]? = some y := by rfl) (hyl : X.env.scope.names.lookup y = some .local := by rfl) (hs : ∀ x, foldedSetIterable iter X.env x = pure x := by intro _; rfl) :
    PS X (.Assign [.Name y py] (.ListComp elt [⟨tg, iter, ifs, 0⟩] scope pos) spos) (tS X.K B W (oSetF2 i (fLc2 (own.map (·.2)) mi f t m))) :=
  PS.imp (L2.ps_setLc hc hN hy hyl hsw hi ok hg ht he hs) fun Dn σ H ⟨G, ρ, e, q⟩ => lc_main2 hj e (setF2 e q)
def own2Of (ρ : Ev) (i : Nat) : Option (List (List D)) := match ρ[i]? with
  | some (.own2 xss) => some xss
  | _ => none
theorem own2Of_some {ρ : Ev} {i : Nat} {xss : List (List D)} (h : own2Of ρ i = some xss) : ρ[i]? = some (.own2 xss) := by
  unfold own2Of at h
  split at h
  · rename_i ys hs
    cases h
    exact hs
  · cases h
def oOwn2 (i : Nat) (f : List (List D) → Ev → Out) : Ev → Out := fun ρ => match own2Of ρ i with
  | some xs => f xs ρ
  | none => .stuck
theorem SG.own2 {K : PySem.W.Frag} {Dn : Ends} {i : Nat} {f : List (List D) → Ev → Out} {ρ : Ev} (h : SG K B W Dn (oOwn2 i f ρ)) : ∃ xs, ρ[i]? = some (.own2 xs) ∧ SG K B W Dn (f xs ρ) := by
  unfold oOwn2 at h
  cases ho : own2Of ρ i with
  | none => rw [ho] at h; exact h.elim
  | some xs => rw [ho] at h; exact ⟨xs, own2Of_some ho, h⟩
theorem own2_at {K : PySem.W.Frag} {G H : Hp} {σ : St} {ρ : Ev} {i : Nat} {xss : List (List D)} (e : EnvOk K B G σ ρ H) (hs : ρ[i]? = some (.own2 xss)) : ∃ (l : Addr) (ls : List Addr), σ[i]? = some (some (.ref l)) ∧ H l = some (.lst (ls.map V.ref)) ∧ RowsOk K B G H ls xss ∧ G l = none ∧ B.H l = none ∧ (l :: ls).Nodup := e.slot i _ hs
/-- one row is changed -/
theorem own2_row {K : PySem.W.Frag} {G H : Hp} {σ : St} {ρ : Ev} {i n : Nat} {xss : List (List D)} {l a : Addr} {ls : List Addr} {us : List V} {ys : List D} (e : EnvOk K B G σ ρ H) (hs : ρ[i]? = some (.own2 xss)) (hv : σ[i]? = some (some (.ref l))) (hl : H l = some (.lst (ls.map V.ref))) (rk : RowsOk K B G H ls xss) (gl : G l = none) (bl : B.H l = none) (nd : (l :: ls).Nodup)
    (ha : ls[n]? = some a) (r : Reps K G us ys) : EnvOk K B G σ (ρ.set i (.own2 (xss.set n ys))) (upd H a (.lst us)) := by
  have nd' := nd
  rw [List.nodup_cons] at nd'
  have ma : a ∈ ls := List.mem_of_getElem? ha
  have nl : l ≠ a := fun z => nd'.1 (z ▸ ma)
  refine e.change hs (by rw [hv]; exact .inr ⟨ls, hl, ma⟩) (by rw [hv]; exact ⟨l, ls, rfl, by rw [upd_ne nl]; exact hl, RowsOk.put r rk ha nd'.2, gl, bl, nd⟩) fun b f => .inl ?_
  rw [hv] at f ⊢
  rcases (show b = l ∨ ∃ ms : List Addr, upd H a (.lst us) l = some (.lst (ms.map V.ref)) ∧ b ∈ ms from f) with h | ⟨ms, hm, m⟩
  · exact .inl h
  · rw [upd_ne nl] at hm
    exact .inr ⟨ms, hm, m⟩
/-- a new row behind all -/
theorem own2_snoc {K : PySem.W.Frag} {G H G1 H1 : Hp} {σ : St} {ρ : Ev} {i : Nat} {xss : List (List D)} {l p : Addr} {ls : List Addr} {us : List V} {ys : List D} (e : EnvOk K B G σ ρ H) (g : Grow G H G1 H1) (hs : ρ[i]? = some (.own2 xss)) (hv : σ[i]? = some (some (.ref l))) (hl : H l = some (.lst (ls.map V.ref))) (rk : RowsOk K B G H ls xss) (gl : G l = none) (bl : B.H l = none) (nd : (l :: ls).Nodup)
    (hp : H1 p = some (.lst us)) (r : Reps K G1 us ys) (gp : G1 p = none) (hn : H p = none) : H1 l = some (.lst (ls.map V.ref)) ∧ EnvOk K B G1 σ (ρ.set i (.own2 (xss ++ [ys]))) (upd H1 l (.lst (ls.map V.ref ++ [V.ref p]))) := by
  have e1 := e.growN g
  obtain ⟨k1, k2⟩ := g.keeps hl gl
  have npl : p ≠ l := fun z => by rw [z, hl] at hn; cases hn
  have npls : p ∉ ls := rows_free rk hn
  have nd' := nd
  rw [List.nodup_cons] at nd'
  have em : ls.map V.ref ++ [V.ref p] = (ls ++ [p]).map V.ref := by rw [List.map_append]; rfl
  have nl : l ∉ ls ++ [p] := by
    rw [List.mem_append, List.mem_singleton, not_or]
    exact ⟨nd'.1, fun z => npl z.symm⟩
  have nd2 : (l :: (ls ++ [p])).Nodup := by
    rw [List.nodup_cons]
    refine ⟨nl, List.nodup_append.mpr ⟨nd'.2, by simp, fun a ha b hb z => ?_⟩⟩
    rw [List.mem_singleton.mp hb] at z
    exact npls (z ▸ ha)
  refine ⟨k1, e1.change hs (by rw [hv]; exact .inl rfl) (by rw [hv]; exact ⟨l, ls ++ [p], rfl, by rw [← em]; exact upd_same, (RowsOk.snoc hp r gp (e.grow.h.free hn) (rk.grow g)).other nl, k2, bl, nd2⟩) fun b f => ?_⟩
  rw [hv] at f ⊢
  rcases (show b = l ∨ ∃ ms : List Addr, upd H1 l (.lst (ls.map V.ref ++ [V.ref p])) l = some (.lst (ms.map V.ref)) ∧ b ∈ ms from f) with h | ⟨ms, hm, m⟩
  · exact .inl (.inl h)
  · rw [upd_same, em] at hm
    injection hm with hm
    injection hm with hm
    have eq := map_ref_inj hm
    subst eq
    rw [List.mem_append, List.mem_singleton] at m
    rcases m with m | m
    · exact .inl (.inr ⟨ls, k1, m⟩)
    · subst m
      exact .inr fun j u _ hu fu => e.noMine hn j u hu (foot_grow (e.slot j u hu) g.h fu)
end
end PL
namespace PL
open PySem PySem.Spec L2
open PyProof.Rows (b2i)
/-- what a call gives: 0 data, 1 a new list, 2 a new list of new lists -/
def RtV (K : PySem.W.Frag) (G H : Hp) (fr : Nat) (G' : Hp) (v : V) (H' : Hp) (d : D) : Prop := match fr with
  | 0 => Rep K G' v d
  | 1 => ∃ xs, d = .lst xs ∧ SlotOk K (Base.of G H) G' H' (some (some v)) (.own xs)
  | _ => ∃ xss : List (List D), d = .lst (xss.map .lst) ∧ SlotOk K (Base.of G H) G' H' (some (some v)) (.own2 xss)
def NG (K : PySem.W.Frag) (fr : Nat) (E : XK) (G H : Hp) (Q : VK) : Res D → Prop
  | .ok d => (∃ xs, d = .lst xs) ∧ ∀ G' v H', Grow G H G' H' → RtV K G H fr G' v H' d → Q v H'
  | .exc e => ∀ G' cls dx H', Grow G H G' H' → ErrOk K G' H' cls dx e → E cls dx H'
  | .stuck => False
theorem RtV.less {K : PySem.W.Frag} {G H G1 H1 G' H' : Hp} {fr : Nat} {v : V} {d : D} (g : Grow G H G1 H1) (h : RtV K G1 H1 fr G' v H' d) : RtV K G H fr G' v H' d := by
  unfold RtV at h ⊢
  cases fr with
  | zero => exact h
  | succ n =>
    cases n with
    | zero =>
      obtain ⟨xs, e, l, vs, e1, hl, r, gl, bl⟩ := h
      exact ⟨xs, e, l, vs, e1, hl, r, gl, g.h.free bl⟩
    | succ n =>
      obtain ⟨xs, e, l, ls, e1, hl, r, gl, bl, nd⟩ := h
      exact ⟨xs, e, l, ls, e1, hl, r.baseN fun a ha => g.h.free ha, gl, g.h.free bl, nd⟩
theorem NG.grow {K : PySem.W.Frag} {fr : Nat} {E : XK} {G H G' H' : Hp} {Q : VK} {r : Res D} (g : Grow G H G' H') (h : NG K fr E G H Q r) : NG K fr E G' H' Q r := by
  cases r with
  | ok d => exact ⟨h.1, fun G2 v H2 g2 rv => h.2 G2 v H2 (g.trans g2) (rv.less g)⟩
  | exc e => exact fun G2 c d H2 g2 k => h G2 c d H2 (g.trans g2) k
  | stuck => exact h
theorem RG.bindN {α β : Type} {R : Hp → β → α → Prop} {K : PySem.W.Frag} {fr : Nat} {E : XK} {G H : Hp} {Q : VK} {r : Res α} {f : α → Res D} {P : β → Hp → Prop} (h : NG K fr E G H Q (r >>= f)) (k : ∀ a G1 v H1, r = .ok a → Grow G H G1 H1 → R G1 v a → NG K fr E G1 H1 Q (f a) → P v H1) : RG R K E G H P r := by
  cases r with
  | ok a => exact fun G1 v H1 g r => k a G1 v H1 rfl g r (NG.grow g h)
  | exc e => exact h
  | stuck => exact h
theorem RtOk.val {K : PySem.W.Frag} {G H G' H' : Hp} {fr : Nat} {σ : St} {ρ : Ev} {v : V} {d : D} (h : RtOk K (Base.of G H fr) G' σ ρ H' v d) : Grow G H G' H' ∧ RtV K G H fr G' v H' d := by
  unfold RtOk at h
  unfold RtV
  have ef : (Base.of G H fr).fr = fr := rfl
  rw [ef] at h
  cases fr with
  | zero => exact ⟨h.1.grow, h.2⟩
  | succ n =>
    cases n with
    | zero =>
      obtain ⟨g, xs, e, l, vs, e1, hl, r, gl, bl⟩ := h
      exact ⟨g, xs, e, l, vs, e1, hl, r, gl, bl⟩
    | succ n =>
      obtain ⟨g, xs, e, l, ls, e1, hl, r, gl, bl, nd⟩ := h
      exact ⟨g, xs, e, l, ls, e1, hl, RowsOk.baseN (B := Base.of G H (n + 1 + 1)) (B' := Base.of G H) (fun a ha => ha) r, gl, bl, nd⟩
section
variable {T : Tk} {K : PySem.W.Frag} {k n j fr : Nat} {x qual : Str} {params : Arguments} {body : List Stmt} {scope : Scope} {dvs : List V} {kws : List (Str × V)} {f : Addr} {fd : FuncData} {N ps : List Str} {o : Ev → Out}
def FnX (T : Tk) (k : Nat) (f : Addr) (j fr : Nat) (m : List D → Res D) : Prop :=
  ∀ (A : Around) (outer : List Env) (s : Shared) (G H : Hp) (us : List Value) (vs : List V) (ds : List D) (Q : VK) (E : XK), Room k A → Env0 T.P T.w T.K T.mg T.base A outer s H → Vals vs us → vs.length = j → Ext G H → Reps T.K G vs ds →
    NG T.K fr E G H Q (m ds) → codeAny (model T.P T.w) A (.call (.ref f) ⟨us, []⟩) (CR (L2.CX T.P T.w) outer T.P T.w H s Q E) s
theorem FnX.mono {k' : Nat} {m : List D → Res D} (h : k ≤ k') (F : FnX T k f j fr m) : FnX T k' f j fr m := fun A outer s G H us vs ds Q E hr => F A outer s G H us vs ds Q E (hr.mono h)
def spX (K : PySem.W.Frag) (fr j : Nat) (m : List D → Res D) : Sp := fun vs H Q E => vs.length = j ∧ ∃ G ds, Ext G H ∧ Reps K G vs ds ∧ NG K fr E G H Q (m ds)
abbrev BodyX (T : Tk) (k fr : Nat) (N : List Str) (qual : Str) (scope : Scope) (f : Addr) (body : List Stmt) (o : Ev → Out) : Prop :=
  ∀ (cdv : Value) (A : Around) (outer : List Env) (s : Shared) (H : Hp) (E : XK), Room k (A.deeper (PyProof.Rows.envOfC qual scope s.heap.objs.size f cdv)) → ∀ B : Base, B.fr = fr → PSs (cxT T N qual scope f cdv A outer s H E) body (tS T.K B (fun c d _ H' => E c d H') o)
theorem fnX (F : FunD T.K x qual params body scope dvs kws f fd) (S : FnScope N ps scope) (hb : BodyX T k fr N qual scope f body o) : FnOk T.P T.w T.K T.mg T.base (L2.CX T.P T.w) (k + 1) f fd ps (spX T.K fr ps.length (mDef N.length o)) :=
  F.ok S (fun vs H Q E h => h.1) fun cdv A outer s H vs Q E hr ⟨hl, G, ds, e, r, q⟩ => ⟨_, hb cdv A outer s H E hr (Base.of G H fr) rfl, G, _, env_start e r, by
    have q' : NG T.K fr E G H Q (o (ev0 N.length ds)).fin := by unfold mDef at q; exact q
    cases ho : o (ev0 N.length ds) with
    | rt d ρ => rw [ho] at q'; exact fun G' σ H' v e' => q'.2 G' v H' e'.val.1 e'.val.2
    | nx ρ =>
      rw [ho] at q'
      obtain ⟨xs, z⟩ := q'.1
      cases z
    | exc er ρ => rw [ho] at q'; exact fun G' σ H' c d e' kk => q' G' c d H' e'.grow kk
    | bk ρ => rw [ho] at q'; exact q'.elim
    | ct ρ => rw [ho] at q'; exact q'.elim
    | stuck => rw [ho] at q'; exact q'⟩
theorem FnX.of0 {m : List D → Res D} (F : FnOk T.P T.w T.K T.mg T.base (L2.CX T.P T.w) k f fd ps (spX T.K fr ps.length m)) (hb : Binds T.K fd ps []) (hj : j = ps.length := by rfl) : FnX T k f j fr m := by
  subst hj
  intro A outer s G H us vs ds Q E hr e0 r hl e rr h
  have l2 : (us ++ []).length = ps.length := by rw [List.append_nil, ← r.length, hl]
  have z := F.run A outer s H ⟨us, []⟩ (us ++ []) vs Q E hr e0 (hb s us (e0.mod.kin.keeps fun b o q => (e0.bs b o q).1) l2) (by rw [List.append_nil]; exact r) ⟨hl, G, ds, e, rr, h⟩
  exact z
structure GloX (T : Tk) (k : Nat) (x : Str) (j fr : Nat) (m : List D → Res D) : Prop where
  ex : ∃ f, T.mg x = some (.ref f) ∧ PySem.W.keepIn T.K (.ref f) = true ∧ FnX T k f j fr m
structure PropX (T : Tk) (k : Nat) (c : Cl) (f : Str) (fr : Nat) (g : List D → Res D) : Prop where
  ex : ∃ p fa, PropOf T.K (ca T.K c) f p fa ∧ FnX T k fa 1 fr g
end
section
variable {X : Cx} {W : WX} {pins : List (Addr × Obj)} {σ : St} {G H : Hp} {s : Shared} {A : Around} {k j fr : Nat} {f : Addr} {m : List D → Res D} {us : List Value} {vs : List V} {ds : List D} {Q : VK}
theorem FnX.go (F : FnX (tkOf X) k f j fr m) (tk : Takes X W) (hr : Room k A) (e0 : Env0 X.prog X.w X.K X.mg X.base A X.stack s H) (I : Inv X pins σ H s) (r : Vals vs us) (hl : vs.length = j) (e : Ext G H) (rr : Reps X.K G vs ds)
    (h : NG X.K fr (fun c d H' => W c d σ H') G H Q (m ds)) :
    codeAny (model X.prog X.w) A (.call (.ref f) ⟨us, []⟩) (CEnd X pins σ Q) s :=
  codeAny_mono (F A X.stack s G H us vs ds Q (WE W σ) hr e0 r hl e rr h) fun _ _ q => cr_go tk I q
theorem FnX.call (F : FnX (tkOf X) k f j fr m) (tk : Takes X W) (hr : Room k X.A) (I : Inv X pins σ H s) (r : Vals vs us) (hl : vs.length = j) (e : Ext G H) (rr : Reps X.K G vs ds)
    (h : NG X.K fr (fun c d H' => W c d σ H') G H Q (m ds)) : wpAny (model X.prog X.w) X.A (call (.ref f) us) (EP X pins σ Q) X.xe s := by
  refine wpAny_call (codeAny_mono (F.go tk hr I.env0 I r hl e rr h) fun r s' q => ?_)
  cases r with
  | error e => exact q
  | ok fl => cases fl <;> exact q
end
def tN (K : PySem.W.Frag) (fr : Nat) (B : Base) (W : WX) (m : Ev → Res D) : TE := fun σ H Q => ∃ G ρ, EnvOk K B G σ ρ H ∧ NG K fr (fun c d H' => W c d σ H') G H Q (m ρ)
/-- a list's items -/
def asL (m : Ev → Res D) : Ev → Res (List D) := fun ρ => m ρ >>= fun d => match d with
  | .lst xs => .ok xs
  | _ => .stuck
def lstsD : List D → Option (List (List D))
  | [] => some []
  | .lst xs :: ds => (lstsD ds).map (xs :: ·)
  | _ :: _ => none
theorem lstsD_map : ∀ xss : List (List D), lstsD (xss.map .lst) = some xss
  | [] => rfl
  | xs :: xss => by
    show (lstsD (xss.map .lst)).map (xs :: ·) = _
    rw [lstsD_map xss]
    rfl
theorem lstsD_some : ∀ {ds : List D} {xss : List (List D)}, lstsD ds = some xss → ds = xss.map .lst
  | [], xss, h => by cases h; rfl
  | d :: ds, xss, h => by
    cases d with
    | lst xs =>
      obtain ⟨yss, h1, h2⟩ := Option.map_eq_some_iff.mp (show (lstsD ds).map (xs :: ·) = some xss from h)
      subst h2
      rw [lstsD_some h1]
      rfl
    | _ => cases h
def asL2 (m : Ev → Res D) : Ev → Res (List (List D)) := fun ρ => m ρ >>= fun d => match d with
  | .lst xs => ofOpt (lstsD xs)
  | _ => .stuck
section
variable {X : Cx} {B : Base} {W : WX} {k j fr : Nat} {x f : Str} {g : List D → Res D} {e o : Expr} {es : List Expr} {m mo : Ev → Res D} {ms : Ev → Res (List D)} {p pos : Pos}
theorem mf_X (h : PE X e (tN X.K 1 B W m)) : PE X e (tF X.K B W (asL m)) := PE.imp h fun σ H Q ⟨G, ρ, e, q⟩ => ⟨G, ρ, e, by
  unfold asL at q
  cases hm : m ρ with
  | ok d =>
    rw [hm] at q
    cases d with
    | lst xs =>
      refine ⟨⟨xs, rfl⟩, fun G' v H' g rv => ?_⟩
      obtain ⟨ys, e1, l, vs, e2, hl, r, gl, bl⟩ := rv
      cases e1
      cases e2
      exact q G' l vs H' g hl r gl bl
    | _ => exact q.elim
  | exc x => rw [hm] at q; exact q
  | stuck => rw [hm] at q; exact q⟩
theorem mf2_X (h : PE X e (tN X.K 2 B W m)) : PE X e (tF2 X.K B W (asL2 m)) := PE.imp h fun σ H Q ⟨G, ρ, e, q⟩ => ⟨G, ρ, e, by
  unfold asL2 at q
  cases hm : m ρ with
  | ok d =>
    rw [hm] at q
    cases d with
    | lst xs =>
      have q : F2G X.K _ G H Q (ofOpt (lstsD xs)) := q
      cases hx : lstsD xs with
      | none => rw [hx] at q; exact q.elim
      | some xss =>
        rw [hx] at q
        have ex := lstsD_some hx
        refine ⟨⟨xs, rfl⟩, fun G' v H' g rv => ?_⟩
        obtain ⟨yss, e1, l, ls, e2, hl, r, gl, bl, nd⟩ := rv
        injection e1 with e1
        rw [e1, lstsD_map] at hx
        cases hx
        cases e2
        exact q G' l ls H' g hl r gl bl nd
    | _ => exact q.elim
  | exc x => rw [hm] at q; exact q
  | stuck => rw [hm] at q; exact q⟩
theorem mx_call (F : GloX (tkOf X) k x j fr g) (tk : Takes X W) (hr : Room k X.A) (hg : Gl X x) (ha : PA X (e :: es) (tMA X.K B W ms)) (hj : ∀ ρ ds, ms ρ = .ok ds → ds.length = j) (hdb : (x == ("__debug__" : Str)) = false := by decide)
    (he : starEach (e :: es) X.env = (false, eval e X.env) :: starEach es X.env := by rfl) (hpl : (backTo pos (starEach es X.env)).any (·.1) = false := by rfl) : PE X (.Call (.Name x p) (e :: es) [] pos) (tN X.K fr B W (mCall g ms)) := by
  obtain ⟨f, hm, hk, F⟩ := F.ex
  refine ⟨fun pins s σ H Q I ⟨G, ρ, e0, h⟩ => ?_⟩
  refine wpAny_Call_Name_kw (ld_glob I hg hm ?_ hdb)
  refine PySem.W.callWith_K (h₀ := X.base) I.ok.mod.kin hk (thn (ha.run pos pins s σ H (fun vs H1 => ∃ G1 ds, Ext G1 H1 ∧ Reps X.K G1 vs ds ∧ ds.length = j ∧ NG X.K fr (fun c d H' => W c d σ H') G1 H1 Q (g ds)) I ?_) fun us s1 ⟨vs, H1, I1, r, G1, ds, e1, rr, hl, q⟩ => ⟨I1.kIn, F.call tk hr I1 r (reps_len rr hl) e1 rr q⟩) he hpl
  refine ⟨G, ρ, e0, RG.bindN h fun ds G1 vs H1 em g rr h1 => ⟨G1, ds, g.sub, rr, hj ρ ds em, h1⟩⟩
theorem mx_call0 (F : GloX (tkOf X) k x 0 fr g) (tk : Takes X W) (hr : Room k X.A) (hg : Gl X x) (hdb : (x == ("__debug__" : Str)) = false := by decide) : PE X (.Call (.Name x p) [] [] pos) (tN X.K fr B W (mCall g mNil)) := by
  obtain ⟨f, hm, hk, F⟩ := F.ex
  refine ⟨fun pins s σ H Q I ⟨G, ρ, e0, h⟩ => ?_⟩
  refine wpAny_Call_Name_kw (ld_glob I hg hm ?_ hdb)
  exact PySem.W.callWith_K0 I.kIn hk (F.call (us := []) tk hr I .nil rfl e0.sub .nil h)
theorem noX_ok {α : Type} {r : Res α} {a : α} (h : noX r = .ok a) : r = .ok a := by
  cases r with
  | ok b => exact h
  | exc e => cases h
  | stuck => cases h
/-- a property that makes a new list -/
def propN (ps : Cl → Option (List D → Res D)) : D → Res D
  | .obj c fs => ofOpt (ps c) >>= fun g => noX (g [.obj c fs])
  | _ => .stuck
theorem mx_prop {ps : Cl → Option (List D → Res D)} (hp : ∀ c g, ps c = some g → PropX (tkOf X) k c f fr g) (hr : Room (k + 1) X.A) (he : PE X e (tM X.K B W m)) (hb : attributeBase e f X.env (eval e X.env) = eval e X.env := by rfl) :
    PE X (.Attribute e f pos) (tN X.K fr B W (mUn (propN ps) m)) := by
  refine ⟨fun pins s σ H Q I ⟨G, ρ, e0, h⟩ => ?_⟩
  refine attr_of hb (thn (he.run pins s σ H (fun x H1 => ∃ G1 d, Ext G1 H1 ∧ Rep X.K G1 x d ∧ NG X.K fr (fun c d H' => W c d σ H') G1 H1 Q (propN ps d)) I ⟨G, ρ, e0, RG.bindN h fun d G1 v H1 _ g r h1 => ⟨G1, d, g.sub, r, h1⟩⟩) fun u s1 ⟨x, H1, I1, rx, G1, d, e1, r, q⟩ => ?_)
  cases r with
  | @obj a dx fv c fs hG at_ r =>
    obtain rfl : u = Value.ref a := rx
    have q' : NG X.K fr (fun c d H' => W c d σ H') G1 H1 Q (ofOpt (ps c) >>= fun g => noX (g [.obj c fs])) := q
    cases hps : ps c with
    | none =>
      rw [hps] at q'
      exact q'.elim
    | some g =>
      rw [hps] at q'
      obtain ⟨p, fa, hp, F⟩ := (hp c g hps).ex
      obtain ⟨mA, O, _, _, _, _⟩ := ins_get I1.hok (e1 _ _ hG)
      obtain ⟨od, J, _⟩ := O.look
      obtain ⟨rest, hrec⟩ := hp.rec_
      have I2 := I1.tok (s1.toks + 1)
      have c' := at_.1.cls
      have hc : (PySem.W.clsIn X.K (ca X.K c)).isSome = true := by
        obtain ⟨cd, hc, _⟩ := PySem.W.any_some c'.hd
        rw [hc]
        rfl
      have q2 : NG X.K fr (fun _ _ _ => False) G1 H1 Q (g [.obj c fs]) := by
        have q4 : NG X.K fr (fun c d H' => W c d σ H') G1 H1 Q (noX (g [.obj c fs])) := q'
        cases hg : g [.obj c fs] with
        | ok d => rw [hg] at q4; exact q4
        | exc x => rw [hg] at q4; exact q4.elim
        | stuck => rw [hg] at q4; exact q4
      refine PySem.W.get_bind I1.kIn J (PySem.W.plainGet_of (c'.get f)).1 (PySem.W.findObj_data hc hp.at_ hp.get hp.tak) (PySem.W.plainGet_of (c'.get f)).2 (wpAny_call (PySem.W.prop_get (s := { s1 with toks := s1.toks + 1 }) I1.kIn hrec ?_))
      refine codeAny_mono (F X.A.in1 X.stack { s1 with toks := s1.toks + 1 } G1 H1 [.ref a] [.ref a] [.obj c fs] Q (fun _ _ _ => False) hr.in1 I2.env0.in1 (.cons rfl .nil) rfl e1 (.cons (.obj hG at_ r) .nil) q2) fun rr s' hq => ?_
      cases rr with
      | error er =>
        obtain ⟨_, _, _, _, _, _, _, _, _, _, _, _, z⟩ := hq
        exact z.elim
      | ok fl =>
        cases fl with
        | ret u =>
          obtain ⟨v, H', I3, rv, q3⟩ := I2.after hq
          exact wpAny_of_eq (PySem.W.handedOut_of (handed_of rv)) ⟨v, H', I3, rv, q3⟩
        | next => exact False.elim hq
        | brk => exact False.elim hq
        | cont => exact False.elim hq
  | _ => exact q.elim
theorem ms_retF {m : Ev → Res (List D)} (hf : B.fr = 1) (he : PE X e (tF X.K B W m)) : PS X (.Return (some e) pos) (tS X.K B W (oRet (lstOf m))) :=
  PS.imp (ps_ret he) fun Dn σ H ⟨G, ρ, e, q⟩ => ⟨G, ρ, e, by
    unfold oRet lstOf at q
    cases hm : m ρ with
    | ok xs =>
      rw [hm] at q
      exact fun G' p vs H' g hp r gp hn => q G' σ H' _ (.ofOwn hf (e.grow.trans g) ⟨p, vs, rfl, hp, r, gp, e.grow.h.free hn⟩)
    | exc x =>
      rw [hm] at q
      exact fun G1 c d H1 g k => q G1 σ H1 c d (e.growN g) k
    | stuck => rw [hm] at q; exact q⟩
theorem ms_retF2 {m : Ev → Res (List (List D))} (hf : B.fr = 2) (he : PE X e (tF2 X.K B W m)) : PS X (.Return (some e) pos) (tS X.K B W (oRet (lst2Of m))) :=
  PS.imp (ps_ret he) fun Dn σ H ⟨G, ρ, e, q⟩ => ⟨G, ρ, e, by
    unfold oRet lst2Of at q
    cases hm : m ρ with
    | ok xs =>
      rw [hm] at q
      exact fun G' p ls H' g hp r gp hn nd => q G' σ H' _ (.ofOwn2 hf (e.grow.trans g) ⟨p, ls, rfl, hp, r.baseN fun a ha => e.grow.h.free ha, gp, e.grow.h.free hn, nd⟩)
    | exc x =>
      rw [hm] at q
      exact fun G1 c d H1 g k => q G1 σ H1 c d (e.growN g) k
    | stuck => rw [hm] at q; exact q⟩
/-- return x, a list of one's own -/
def oRetO (i : Nat) : Ev → Out := fun ρ => match ρ[i]? with
  | some (.own xs) => .rt (.lst xs) (freeze i ρ)
  | some (.own2 xss) => .rt (.lst (xss.map .lst)) (freeze i ρ)
  | _ => .stuck
theorem ms_retO0 (hf : B.fr = 0) (i : Nat) {p1 : Pos} (hN : X.N[i]? = some x := by rfl) (hv : Vis X.env.scope x := by first | exact Or.inl rfl | exact Or.inr (Or.inl rfl) | exact Or.inr (Or.inr rfl)) (hd : (x == ("__debug__" : Str)) = false := by decide) (hcd : (x == ("__classdict__" : Str)) = false := by decide) : PS X (.Return (some (.Name x p1)) pos) (tS X.K B W (oRetO i)) :=
  PS.imp (ps_ret (pe_var (i := i) hN hv hd hcd)) fun Dn σ H ⟨G, ρ, e, q⟩ => by
    unfold oRetO at q
    obtain ⟨G', e', x'⟩ := e.freeze i
    cases hs : ρ[i]? with
    | none => rw [hs] at q; exact q.elim
    | some s =>
      rw [hs] at q
      have hi := (List.getElem?_eq_some_iff.mp hs).1
      cases s with
      | own xs =>
        have fe : (freeze i ρ)[i]? = some (.dat (.lst xs)) := by unfold freeze; rw [hs]; exact List.getElem?_set_self hi
        obtain ⟨v, hv, r⟩ := e'.slot i _ fe
        exact ⟨v, hv, q G' σ H v (.ofDat hf e' r)⟩
      | own2 xss =>
        have fe : (freeze i ρ)[i]? = some (.dat (.lst (xss.map .lst))) := by unfold freeze; rw [hs]; exact List.getElem?_set_self hi
        obtain ⟨v, hv, r⟩ := e'.slot i _ fe
        exact ⟨v, hv, q G' σ H v (.ofDat hf e' r)⟩
      | _ => exact q.elim
def oRetO1 (i : Nat) : Ev → Out := fun ρ => match ρ[i]? with
  | some (.own xs) => .rt (.lst xs) (freeze i ρ)
  | _ => .stuck
theorem ms_retO10 (hf : B.fr = 0) (i : Nat) {p1 : Pos} (hN : X.N[i]? = some x := by rfl) (hv : Vis X.env.scope x := by first | exact Or.inl rfl | exact Or.inr (Or.inl rfl) | exact Or.inr (Or.inr rfl)) (hd : (x == ("__debug__" : Str)) = false := by decide) (hcd : (x == ("__classdict__" : Str)) = false := by decide) : PS X (.Return (some (.Name x p1)) pos) (tS X.K B W (oRetO1 i)) :=
  PS.imp (ps_ret (pe_var (i := i) hN hv hd hcd)) fun Dn σ H ⟨G, ρ, e, q⟩ => by
    unfold oRetO1 at q
    obtain ⟨G', e', x'⟩ := e.freeze i
    cases hs : ρ[i]? with
    | none => rw [hs] at q; exact q.elim
    | some s =>
      rw [hs] at q
      have hi := (List.getElem?_eq_some_iff.mp hs).1
      cases s with
      | own xs =>
        have fe : (freeze i ρ)[i]? = some (.dat (.lst xs)) := by unfold freeze; rw [hs]; exact List.getElem?_set_self hi
        obtain ⟨v, hv, r⟩ := e'.slot i _ fe
        exact ⟨v, hv, q G' σ H v (.ofDat hf e' r)⟩
      | _ => exact q.elim
theorem ms_retO1 (hf : B.fr = 1) (i : Nat) {p1 : Pos} (hN : X.N[i]? = some x := by rfl) (hv : Vis X.env.scope x := by first | exact Or.inl rfl | exact Or.inr (Or.inl rfl) | exact Or.inr (Or.inr rfl)) (hd : (x == ("__debug__" : Str)) = false := by decide) (hcd : (x == ("__classdict__" : Str)) = false := by decide) : PS X (.Return (some (.Name x p1)) pos) (tS X.K B W (oRetO1 i)) :=
  PS.imp (ps_ret (pe_var (i := i) hN hv hd hcd)) fun Dn σ H ⟨G, ρ, e, q⟩ => by
    unfold oRetO1 at q
    cases hs : ρ[i]? with
    | none => rw [hs] at q; exact q.elim
    | some s =>
      rw [hs] at q
      cases s with
      | own xs =>
        obtain ⟨l, vs, hv, hl, r, gl, bl⟩ := e.slot i _ hs
        exact ⟨_, hv, q G σ H _ (.ofOwn hf e.grow ⟨l, vs, rfl, hl, r, gl, bl⟩)⟩
      | _ => exact q.elim
def oRetO2 (i : Nat) : Ev → Out := fun ρ => match ρ[i]? with
  | some (.own2 xss) => .rt (.lst (xss.map .lst)) (freeze i ρ)
  | _ => .stuck
theorem ms_retO20 (hf : B.fr = 0) (i : Nat) {p1 : Pos} (hN : X.N[i]? = some x := by rfl) (hv : Vis X.env.scope x := by first | exact Or.inl rfl | exact Or.inr (Or.inl rfl) | exact Or.inr (Or.inr rfl)) (hd : (x == ("__debug__" : Str)) = false := by decide) (hcd : (x == ("__classdict__" : Str)) = false := by decide) : PS X (.Return (some (.Name x p1)) pos) (tS X.K B W (oRetO2 i)) :=
  PS.imp (ps_ret (pe_var (i := i) hN hv hd hcd)) fun Dn σ H ⟨G, ρ, e, q⟩ => by
    unfold oRetO2 at q
    obtain ⟨G', e', x'⟩ := e.freeze i
    cases hs : ρ[i]? with
    | none => rw [hs] at q; exact q.elim
    | some s =>
      rw [hs] at q
      have hi := (List.getElem?_eq_some_iff.mp hs).1
      cases s with
      | own2 xss =>
        have fe : (freeze i ρ)[i]? = some (.dat (.lst (xss.map .lst))) := by unfold freeze; rw [hs]; exact List.getElem?_set_self hi
        obtain ⟨v, hv, r⟩ := e'.slot i _ fe
        exact ⟨v, hv, q G' σ H v (.ofDat hf e' r)⟩
      | _ => exact q.elim
theorem ms_retO2 (hf : B.fr = 2) (i : Nat) {p1 : Pos} (hN : X.N[i]? = some x := by rfl) (hv : Vis X.env.scope x := by first | exact Or.inl rfl | exact Or.inr (Or.inl rfl) | exact Or.inr (Or.inr rfl)) (hd : (x == ("__debug__" : Str)) = false := by decide) (hcd : (x == ("__classdict__" : Str)) = false := by decide) : PS X (.Return (some (.Name x p1)) pos) (tS X.K B W (oRetO2 i)) :=
  PS.imp (ps_ret (pe_var (i := i) hN hv hd hcd)) fun Dn σ H ⟨G, ρ, e, q⟩ => by
    unfold oRetO2 at q
    cases hs : ρ[i]? with
    | none => rw [hs] at q; exact q.elim
    | some s =>
      rw [hs] at q
      cases s with
      | own2 xss =>
        obtain ⟨l, ls, hv, hl, r, gl, bl, nd⟩ := e.slot i _ hs
        exact ⟨_, hv, q G σ H _ (.ofOwn2 hf e.grow ⟨l, ls, rfl, hl, r, gl, bl, nd⟩)⟩
      | _ => exact q.elim
/-- as data -/
theorem me_fresh2 {m : Ev → Res (List (List D))} (h : PE X e (tF2 X.K B W m)) : PE X e (tM X.K B W (lst2Of m)) := PE.imp h fun σ H Q ⟨G, ρ, e, q⟩ => ⟨G, ρ, e, by
  unfold lst2Of at q
  cases hm : m ρ with
  | ok xss =>
    rw [hm] at q
    intro G' p ls H' g hp r gp hn nd
    have g0 : ∀ a ∈ p :: ls, G' a = none := fun a ha => by
      rcases List.mem_cons.mp ha with h | h
      · rw [h]; exact gp
      · obtain ⟨_, _, _, _, g1, _⟩ := r.at h
        exact g1
    have h0 : ∀ a ∈ p :: ls, H a = none := fun a ha => by
      rcases List.mem_cons.mp ha with h | h
      · rw [h]; exact hn
      · obtain ⟨_, _, _, _, _, b1⟩ := r.at h
        exact b1
    have gg := layRows_ext (H := H') (ls := p :: ls) g0
    refine q (layRows H' (p :: ls) G') _ H' ⟨g.g.trans gg, g.h, fun a o z => ?_, fun a o z => ?_⟩ (.lst (.inl (layRows_get nd List.mem_cons_self hp)) (layRows_reps gg r fun a ha o ho => layRows_get nd (List.mem_cons_of_mem _ ha) ho))
    · rcases layRows_new z with h | ⟨_, h⟩
      · exact g.sub _ _ h
      · exact h
    · rcases layRows_new z with h | ⟨h, _⟩
      · exact g.new _ _ h
      · exact .inr (h0 a h)
  | exc x => rw [hm] at q; exact q
  | stuck => rw [hm] at q; exact q⟩
end
end PL
namespace PL
open PySem PySem.Spec L2
open PyProof.Rows (b2i)
/-- what a target stores is data -/
def GDat (js : List Nat) (f : D → Ev → Option Ev) : Prop := ∀ d ρ ρ', f d ρ = some ρ' → ∀ j s, ρ'[j]? = some s → (∃ d, s = .dat d) ∨ (j ∉ js ∧ ρ[j]? = some s)
def GsDat (js : List Nat) (f : List D → Ev → Option Ev) : Prop := ∀ d ρ ρ', f d ρ = some ρ' → ∀ j s, ρ'[j]? = some s → (∃ d, s = .dat d) ∨ (j ∉ js ∧ ρ[j]? = some s)
theorem gd_name (i : Nat) : GDat [i] (gN i) := fun d ρ ρ' h j s q => by
  cases h
  by_cases e : i = j
  · subst e
    have hl : i < ρ.length := by
      have := (List.getElem?_eq_some_iff.mp q).1
      rwa [List.length_set] at this
    rw [List.getElem?_set_self hl] at q
    cases q
    exact .inl ⟨d, rfl⟩
  · rw [List.getElem?_set_ne e] at q
    exact .inr ⟨by simp [Ne.symm e], q⟩
theorem gd_nil : GsDat [] gNi := fun d ρ ρ' h j s q => by
  cases d with
  | nil => cases h; exact .inr ⟨by simp, q⟩
  | cons _ _ => cases h
theorem gd_cons {js ks : List Nat} {f : D → Ev → Option Ev} {fs : List D → Ev → Option Ev} (h1 : GDat js f) (h2 : GsDat ks fs) : GsDat (js ++ ks) (gCo f fs) := fun d ρ ρ' h j s q => by
  cases d with
  | nil => cases h
  | cons x xs =>
    have h : ((f x ρ).bind fun ρ => fs xs ρ) = some ρ' := h
    obtain ⟨ρ1, e1, e2⟩ := Option.bind_eq_some_iff.mp h
    rcases h2 xs ρ1 ρ' e2 j s q with z | ⟨z, q1⟩
    · exact .inl z
    · rcases h1 x ρ ρ1 e1 j s q1 with w | ⟨w, q2⟩
      · exact .inl w
      · exact .inr ⟨by rw [List.mem_append, not_or]; exact ⟨w, z⟩, q2⟩
theorem gd_tup {js : List Nat} {fs : List D → Ev → Option Ev} (h : GsDat js fs) : GDat js (gTu fs) := fun d ρ ρ' e j s q => by
  cases d with
  | tup xs => exact h xs ρ ρ' e j s q
  | _ => cases e
/-- the heap changes where no slot looks -/
theorem EnvOk.poke {K : PySem.W.Frag} {B : Base} {G H : Hp} {σ : St} {ρ : Ev} {a : Addr} {o o' : HO} (e : EnvOk K B G σ ρ H) (hn : ∀ (j : Nat) (s : Sl), ρ[j]? = some s → ¬ foot H σ[j]? s a) (ga : G a = none) (ba : B.H a = none) (ha : H a = some o') (nx : ∀ fv, o' ≠ .xd fv) :
    EnvOk K B G σ ρ (upd H a o) ∧ ∀ (j : Nat) (s : Sl), ρ[j]? = some s → ¬ foot (upd H a o) σ[j]? s a := by
  have fo : ∀ {j : Nat} {u : Sl} {b : Addr}, ρ[j]? = some u → foot (upd H a o) σ[j]? u b → foot H σ[j]? u b := fun {j u b} q f => by
    cases u with
    | own2 yss =>
      obtain ⟨l', ls, e1, h1, _⟩ := e.slot j _ q
      have nl : l' ≠ a := fun z => hn j _ q (by rw [e1]; exact .inl z.symm)
      rw [e1] at f ⊢
      rcases (show b = l' ∨ ∃ ls : List Addr, upd H a o l' = some (.lst (ls.map V.ref)) ∧ b ∈ ls from f) with h | ⟨ms, hm, m⟩
      · exact .inl h
      · rw [upd_ne nl] at hm
        exact .inr ⟨ms, hm, m⟩
    | own ys =>
      obtain ⟨l', vs, e1, _⟩ := e.slot j _ q
      rw [e1] at f ⊢
      exact f
    | ins c fs =>
      obtain ⟨l', dx, fv, e1, _⟩ := e.slot j _ q
      rw [e1] at f ⊢
      exact f
    | no => exact (foot_no f).elim
    | dat d => exact (foot_dat f).elim
    | exn d => exact (foot_exn f).elim
    | cls d => exact (foot_cls f).elim
    | bor d => exact (foot_bor f).elim
  refine ⟨⟨⟨e.grow.g, fun b u q => ?_, fun b u q => ?_, e.grow.new⟩, e.len, fun j u q => ?_, fun j k u w q1 q2 n b f1 f2 => e.sep j k u w q1 q2 n b (fo q1 f1) (fo q2 f2)⟩, fun j s q f => hn j s q (fo q f)⟩
  · rw [upd_ne (ne_of_none q ba)]; exact e.grow.h _ _ q
  · rw [upd_ne (ne_of_none q ga)]; exact e.sub _ _ q
  · have z := e.slot j u q
    have nl : ∀ l', foot H σ[j]? u l' → l' ≠ a := fun l' f z => by
      subst z
      exact hn j u q f
    cases u with
    | no => trivial
    | dat d' => exact z
    | own ys =>
      obtain ⟨l', vs, e1, h1, r1, g1, b1⟩ := z
      exact ⟨l', vs, e1, by rw [upd_ne (nl l' (by rw [e1]; exact rfl))]; exact h1, r1, g1, b1⟩
    | own2 yss =>
      obtain ⟨l', ls, e1, h1, r1, g1, b1, nd⟩ := z
      refine ⟨l', ls, e1, by rw [upd_ne (nl l' (by rw [e1]; exact .inl rfl))]; exact h1, r1.other fun m => ?_, g1, b1, nd⟩
      exact nl a (by rw [e1]; exact .inr ⟨ls, h1, m⟩) rfl
    | ins c fs =>
      obtain ⟨l', dx, fv, e1, h1, af, r1, g1, b1⟩ := z
      exact ⟨l', dx, fv, e1, by rw [upd_ne (nl l' (by rw [e1]; exact rfl))]; exact h1, af, r1, g1, b1⟩
    | exn er =>
      obtain ⟨b, cls, dx, e1, e2, e3⟩ := z
      refine ⟨b, cls, dx, e1, e2, e3.mono (fun _ _ q => q) fun d fv q => ?_⟩
      have nd : d ≠ a := fun ed => by
        subst ed
        rw [ha] at q
        cases q
        exact nx fv rfl
      rw [upd_ne nd]; exact q
    | cls c => exact z
    | bor xs => exact z
theorem wipe_none {ρ : Ev} : ∀ {vs : List Nat} {j : Nat} {s : Sl}, (wipeE ρ vs)[j]? = some s → s = .no ∨ (ρ[j]? = some s ∧ j ∉ vs)
  | [], j, s, h => .inr ⟨h, by simp⟩
  | v :: vs, j, s, h => by
    have h : ((wipeE ρ vs).set v .no)[j]? = some s := h
    by_cases e : v = j
    · subst e
      have hl : v < (wipeE ρ vs).length := by
        have := (List.getElem?_eq_some_iff.mp h).1
        rwa [List.length_set] at this
      rw [List.getElem?_set_self hl] at h
      cases h
      exact .inl rfl
    · rw [List.getElem?_set_ne e] at h
      rcases wipe_none h with z | ⟨z1, z2⟩
      · exact .inl z
      · exact .inr ⟨z1, by rw [List.mem_cons, not_or]; exact ⟨Ne.symm e, z2⟩⟩
def lcGoC (f : D → Ev → Option Ev) (t : Ev → Res Bool) (vs1 : List Nat) (mi1 : Ev → Res (List D)) (f1 : D → Ev → Option Ev) (t1 : Ev → Res Bool) (m : Ev → Res D) (ρ : Ev) : List D → Res (List D)
  | [] => .ok []
  | d :: ds => match f d ρ with
    | none => .stuck
    | some ρ1 => t ρ1 >>= fun k => if k = true then mi1 ρ1 >>= fun es => lcGo f1 t1 m (wipeE ρ1 vs1) es >>= fun ys => lcGoC f t vs1 mi1 f1 t1 m ρ ds >>= fun zs => .ok (ys ++ zs) else lcGoC f t vs1 mi1 f1 t1 m ρ ds
def fLcc (vs : List Nat) (mi : Ev → Res (List D)) (f : D → Ev → Option Ev) (t : Ev → Res Bool) (vs1 : List Nat) (mi1 : Ev → Res (List D)) (f1 : D → Ev → Option Ev) (t1 : Ev → Res Bool) (m : Ev → Res D) : Ev → Res (List D) := fun ρ => mi ρ >>= fun ds => noX (lcGoC f t vs1 mi1 f1 t1 m (wipeE ρ vs) ds) >>= fun ys => chk (ys.length ≤ sizeLine) (.ok ys)
section
variable {X : Cx} {B : Base} {W : WX} {pos : Pos}
theorem lc_mainC {K : PySem.W.Frag} {G H : Hp} {σ : St} {ρ : Ev} {Q : VK} {vs js vs1 js1 : List Nat} {mi mi1 : Ev → Res (List D)} {f f1 : D → Ev → Option Ev} {t t1 : Ev → Res Bool} {m : Ev → Res D} (hj : ∀ j ∈ js, j ∈ vs) (hj1 : ∀ j ∈ js1, j ∈ vs1) (hfd : GDat js f) (e : EnvOk K B G σ ρ H) (q : FG K (fun c d H' => W c d σ H') G H Q (fLcc vs mi f t vs1 mi1 f1 t1 m ρ)) :
    tLc2 (tG (ItOk K B.H) K B W mi) (gM K B js f) (tMT K B noW t) (tG (ItOk K B.H) K B noW mi1) (gM K B js1 f1) (tMT K B noW t1) (tM K B noW m) vs vs1 σ H Q := by
  refine ⟨G, ρ, e, RG.bindF q fun ds G1 J H1 g r q1 => fun Dd hD => ?_⟩
  have e1 := (e.growN g).wipe vs
  obtain ⟨ys, hys, hz, q2⟩ : ∃ ys, lcGoC f t vs1 mi1 f1 t1 m (wipeE ρ vs) ds = .ok ys ∧ ys.length ≤ sizeLine ∧ FG K (fun c d H' => W c d σ H') G H Q (.ok ys) := by
    have q3 : FG K (fun c d H' => W c d σ H') G H Q (noX (lcGoC f t vs1 mi1 f1 t1 m (wipeE ρ vs) ds) >>= fun ys => chk (ys.length ≤ sizeLine) (.ok ys)) := q1
    cases hr : lcGoC f t vs1 mi1 f1 t1 m (wipeE ρ vs) ds with
    | ok ys =>
      rw [hr] at q3
      obtain ⟨z, q3⟩ := FG.chk (show FG K _ G H Q (chk (ys.length ≤ sizeLine) (.ok ys)) from q3)
      exact ⟨ys, rfl, z, q3⟩
    | exc x => rw [hr] at q3; exact q3.elim
    | stuck => rw [hr] at q3; exact q3.elim
  refine ⟨fun i k H' => k = ds.length - i ∧ i ≤ ds.length ∧ ∃ (G' : Hp) (acc : List D) (accv : List V) (rest : List D), Grow G1 H1 G' H' ∧ H' Dd = some (.lst accv) ∧ Reps K G' accv acc ∧ G' Dd = none ∧ lcGoC f t vs1 mi1 f1 t1 m (wipeE ρ vs) (ds.drop i) = .ok rest ∧ acc ++ rest = ys,
    ⟨ds.length, rfl, Nat.zero_le _, G1, [], [], ys, .side g.sub hD _, upd_same, .nil, g.sub.free hD, hys, rfl⟩, ?_⟩
  rintro i k H2 ⟨rfl, hl, G2, acc, accv, rest, g2, hD2, r2, gD, hgo, hap⟩
  obtain ⟨k1, k2⟩ := r i G2 H2 g2.g (e.grow.trans (g.trans g2)).h g2.sub
  by_cases hlt : i < ds.length
  · obtain ⟨go, yl⟩ := k2 ds[i] (List.getElem?_eq_getElem hlt)
    rw [List.drop_eq_getElem_cons hlt] at hgo
    refine .inr ⟨go, fun H' => ∃ m', m' < ds.length - i ∧ m' = ds.length - (i + 1) ∧ i + 1 ≤ ds.length ∧ ∃ (G' : Hp) (acc : List D) (accv : List V) (rest : List D), Grow G1 H1 G' H' ∧ H' Dd = some (.lst accv) ∧ Reps K G' accv acc ∧ G' Dd = none ∧ lcGoC f t vs1 mi1 f1 t1 m (wipeE ρ vs) (ds.drop (i + 1)) = .ok rest ∧ acc ++ rest = ys, fun H' z => z, fun x H3 y => ?_⟩
    obtain ⟨G3, g3, r3⟩ := yl x H3 y
    have hgo' : (match f ds[i] (wipeE ρ vs) with
      | none => Res.stuck
      | some ρ1 => t ρ1 >>= fun k => if k = true then mi1 ρ1 >>= fun es => lcGo f1 t1 m (wipeE ρ1 vs1) es >>= fun ys => lcGoC f t vs1 mi1 f1 t1 m (wipeE ρ vs) (ds.drop (i + 1)) >>= fun zs => .ok (ys ++ zs) else lcGoC f t vs1 mi1 f1 t1 m (wipeE ρ vs) (ds.drop (i + 1))) = .ok rest := hgo
    cases hf : f ds[i] (wipeE ρ vs) with
    | none => rw [hf] at hgo'; cases hgo'
    | some ρ1 =>
      rw [hf] at hgo'
      dsimp only at hgo'
      have g13 := g2.trans g3
      refine ⟨G3, ds[i], _, ρ1, e1.growN g13, r3, hf, fun σ2 e2 l2 o2 => ⟨?_, G3, ρ1, e2, ?_⟩⟩
      · refine (wipe_agree ?_ fun j hjv => ?_)
        · rw [l2, wipe_length]
        · rw [o2 j fun z => hjv (hj j z), wipe_get hjv]
      · cases ht : t ρ1 with
        | exc x => rw [ht] at hgo'; cases hgo'
        | stuck => rw [ht] at hgo'; cases hgo'
        | ok k =>
          rw [ht, ok_bind] at hgo'
          refine fun G4 v H4 g4 r4 => ?_
          have r4' : v = k := r4
          subst r4'
          cases v with
          | false =>
            simp only [Bool.false_eq_true, if_false] at hgo' ⊢
            have g14 := g13.trans g4
            obtain ⟨w1, w2⟩ := (g3.trans g4).keeps hD2 gD
            exact ⟨ds.length - (i + 1), by omega, rfl, hlt, G4, acc, accv, rest, g14, w1, r2.mono (g3.trans g4).g, w2, hgo', hap⟩
          | true =>
            simp only [if_true] at hgo' ⊢
            have e4 := e2.growN g4
            cases hm : mi1 ρ1 with
            | exc x => rw [hm] at hgo'; cases hgo'
            | stuck => rw [hm] at hgo'; cases hgo'
            | ok es =>
              rw [hm, ok_bind] at hgo'
              refine ⟨G4, ρ1, e4, ?_⟩
              rw [hm]
              refine fun G5 J1 H5 g5 r5 => ?_
              have e5 := (e4.growN g5).wipe vs1
              cases hl1 : lcGo f1 t1 m (wipeE ρ1 vs1) es with
              | exc x => rw [hl1] at hgo'; cases hgo'
              | stuck => rw [hl1] at hgo'; cases hgo'
              | ok in1 =>
                rw [hl1, ok_bind] at hgo'
                cases hl2 : lcGoC f t vs1 mi1 f1 t1 m (wipeE ρ vs) (ds.drop (i + 1)) with
                | exc x => rw [hl2] at hgo'; cases hgo'
                | stuck => rw [hl2] at hgo'; cases hgo'
                | ok rest' =>
                  rw [hl2, ok_bind] at hgo'
                  cases hgo'
                  have g25 := (g3.trans g4).trans g5
                  have g15 := g2.trans g25
                  obtain ⟨w1, w2⟩ := g25.keeps hD2 gD
                  have bD : B.H Dd = none := e.grow.h.free (g.h.free hD)
                  have nf5 : ∀ (j : Nat) (s : Sl), (wipeE ρ1 vs1)[j]? = some s → ¬ foot H5 (L2.wipe σ2 vs1)[j]? s Dd := fun j s q fq => by
                    rcases wipe_none q with rfl | ⟨q, nv⟩
                    · exact foot_no fq
                    · rw [wipe_get nv] at fq
                      have f2 := foot_grow (e2.slot j s q) (g4.trans g5).h fq
                      rcases hfd _ _ _ hf j s q with ⟨d, rfl⟩ | ⟨nj, q0⟩
                      · exact foot_dat f2
                      · rw [o2 j nj] at f2
                        exact e1.noMine hD j s q0 (foot_grow (e1.slot j s q0) g13.h f2)
                  refine ⟨fun j k H' => k = es.length - j ∧ j ≤ es.length ∧ ∃ (G' : Hp) (acc : List D) (accv : List V) (r1 : List D), Grow G1 H1 G' H' ∧ Ext G5 G' ∧ EnvOk K B G' (L2.wipe σ2 vs1) (wipeE ρ1 vs1) H' ∧ (∀ (j : Nat) (s : Sl), (wipeE ρ1 vs1)[j]? = some s → ¬ foot H' (L2.wipe σ2 vs1)[j]? s Dd) ∧ H' Dd = some (.lst accv) ∧ Reps K G' accv acc ∧ G' Dd = none ∧ lcGo f1 t1 m (wipeE ρ1 vs1) (es.drop j) = .ok r1 ∧ acc ++ (r1 ++ rest') = ys,
                    ⟨es.length, rfl, Nat.zero_le _, G5, acc, accv, in1, g15, .refl, e5, nf5, w1, r2.mono g25.g, w2, hl1, hap⟩, ?_⟩
                  rintro j k H6 ⟨rfl, hlj, G6, acc6, accv6, r6, g6, x6, e6, nf6, hD6, rr6, gD6, hgo6, hap6⟩
                  obtain ⟨p1, p2⟩ := r5 j G6 H6 x6 e6.grow.h g6.sub
                  by_cases hltj : j < es.length
                  · obtain ⟨goj, ylj⟩ := p2 es[j] (List.getElem?_eq_getElem hltj)
                    rw [List.drop_eq_getElem_cons hltj] at hgo6
                    refine .inr ⟨goj, fun H' => ∃ k', k' < es.length - j ∧ k' = es.length - (j + 1) ∧ j + 1 ≤ es.length ∧ ∃ (G' : Hp) (acc : List D) (accv : List V) (r1 : List D), Grow G1 H1 G' H' ∧ Ext G5 G' ∧ EnvOk K B G' (L2.wipe σ2 vs1) (wipeE ρ1 vs1) H' ∧ (∀ (j : Nat) (s : Sl), (wipeE ρ1 vs1)[j]? = some s → ¬ foot H' (L2.wipe σ2 vs1)[j]? s Dd) ∧ H' Dd = some (.lst accv) ∧ Reps K G' accv acc ∧ G' Dd = none ∧ lcGo f1 t1 m (wipeE ρ1 vs1) (es.drop (j + 1)) = .ok r1 ∧ acc ++ (r1 ++ rest') = ys, fun H' z => z, fun x7 H7 y7 => ?_⟩
                    obtain ⟨G7, g7, r7⟩ := ylj x7 H7 y7
                    have hgo6' : (match f1 es[j] (wipeE ρ1 vs1) with
                      | none => Res.stuck
                      | some ρ2 => t1 ρ2 >>= fun k => if k = true then m ρ2 >>= fun y => lcGo f1 t1 m (wipeE ρ1 vs1) (es.drop (j + 1)) >>= fun ys => .ok (y :: ys) else lcGo f1 t1 m (wipeE ρ1 vs1) (es.drop (j + 1))) = .ok r6 := hgo6
                    cases hf1 : f1 es[j] (wipeE ρ1 vs1) with
                    | none => rw [hf1] at hgo6'; cases hgo6'
                    | some ρ2 =>
                      rw [hf1] at hgo6'
                      dsimp only at hgo6'
                      have e7 := e6.growN g7
                      refine ⟨G7, es[j], _, ρ2, e7, r7, hf1, fun σ3 e8 l3 o3 => ⟨?_, G7, ρ2, e8, ?_⟩⟩
                      · refine (wipe_agree ?_ fun jj hjv => ?_)
                        · rw [l3, wipe_length]
                        · rw [o3 jj fun z => hjv (hj1 jj z), wipe_get hjv]
                      · cases ht1 : t1 ρ2 with
                        | exc x => rw [ht1] at hgo6'; cases hgo6'
                        | stuck => rw [ht1] at hgo6'; cases hgo6'
                        | ok kk =>
                          rw [ht1, ok_bind] at hgo6'
                          refine fun G8 v8 H8 g8 r8 => ?_
                          have r8' : v8 = kk := r8
                          subst r8'
                          have g78 := g7.trans g8
                          cases v8 with
                          | false =>
                            simp only [Bool.false_eq_true, if_false] at hgo6' ⊢
                            obtain ⟨u1, u2⟩ := g78.keeps hD6 gD6
                            exact ⟨es.length - (j + 1), by omega, rfl, hltj, G8, acc6, accv6, r6, g6.trans g78, x6.trans g78.g, e6.growN g78, (fun j s q fq => nf6 j s q (foot_grow (e6.slot j s q) g78.h fq)), u1, rr6.mono g78.g, u2, hgo6', hap6⟩
                          | true =>
                            simp only [if_true] at hgo6' ⊢
                            cases hm2 : m ρ2 with
                            | exc x => rw [hm2] at hgo6'; cases hgo6'
                            | stuck => rw [hm2] at hgo6'; cases hgo6'
                            | ok y =>
                              rw [hm2, ok_bind] at hgo6'
                              cases hl3 : lcGo f1 t1 m (wipeE ρ1 vs1) (es.drop (j + 1)) with
                              | exc x => rw [hl3] at hgo6'; cases hgo6'
                              | stuck => rw [hl3] at hgo6'; cases hgo6'
                              | ok r6' =>
                                rw [hl3, ok_bind] at hgo6'
                                cases hgo6'
                                refine ⟨G8, ρ2, e8.growN g8, ?_⟩
                                rw [hm2]
                                refine fun G9 v9 H9 g9 r9 => ?_
                                have g69 := g78.trans g9
                                obtain ⟨u1, u2⟩ := g69.keeps hD6 gD6
                                have hlen : acc6.length < sizeLine := by
                                  have := congrArg List.length hap6
                                  rw [List.length_append, List.length_append, List.length_cons] at this
                                  omega
                                have g19 := g6.trans g69
                                have gu : Grow G1 H1 G9 (upd H9 Dd (.lst (accv6 ++ [v9]))) := ⟨g19.g, fun a o z => by rw [upd_ne (ne_of_none z hD)]; exact g19.h _ _ z, fun a o z => by rw [upd_ne (ne_of_none z u2)]; exact g19.sub _ _ z, g19.new⟩
                                obtain ⟨eD, nfD⟩ := (e6.growN g69).poke (o := .lst (accv6 ++ [v9])) (fun j s q fq => nf6 j s q (foot_grow (e6.slot j s q) g69.h fq)) u2 bD u1 (fun fv z => by cases z)
                                exact ⟨accv6, u1, by rw [rr6.length]; exact hlen, es.length - (j + 1), by omega, rfl, hltj, G9, acc6 ++ [y], accv6 ++ [v9], r6', gu, x6.trans g69.g, eD, nfD, upd_same, (rr6.mono g69.g).append (.cons r9 .nil), u2, rfl, by rw [List.append_assoc]; exact hap6⟩
                  · have ej : j = es.length := by omega
                    subst ej
                    rw [List.drop_length] at hgo6
                    cases hgo6
                    exact .inl ⟨p1 (Nat.le_refl _), ds.length - (i + 1), by omega, rfl, hlt, G6, acc6, accv6, rest', g6, hD6, rr6, gD6, rfl, hap6⟩
  · have ei : i = ds.length := by omega
    subst ei
    rw [List.drop_length] at hgo
    cases hgo
    rw [List.append_nil] at hap
    subst hap
    exact .inl ⟨k1 (Nat.le_refl _), q2 G2 Dd accv H2 (g.trans g2) hD2 r2 gD (g.h.free hD)⟩
theorem mf_lcc {elt tg iter tg1 iter1 : Expr} {ifs ifs1 : List Expr} {scope : Scope} {own : List (Str × Nat)} {vs1 js js1 : List Nat} {mi mi1 : Ev → Res (List D)} {f f1 : D → Ev → Option Ev} {t t1 : Ev → Res Bool} {m : Ev → Res D} (hc : X.calm = true) (ok : BlkOk X.N X.env.scope scope own) (hi : IP X B W tg iter mi) (hfd : GDat js f)
    (hg : ∀ (s : Shared) (H : Hp) (C : Addr) (cl : List (Str × Addr)) (fp : List Addr), GP (X.blk s H scope (compEnvC scope cl C X.env) fp) B tg js f) (ht : ∀ (s : Shared) (H : Hp) (C : Addr) (cl : List (Str × Addr)) (fp : List Addr), PTs (X.blk s H scope (compEnvC scope cl C X.env) fp) ifs (tMT X.K B noW t))
    (hi1 : ∀ (s : Shared) (H : Hp) (C : Addr) (cl : List (Str × Addr)) (fp : List Addr), IP (X.blk s H scope (compEnvC scope cl C X.env) fp) B noW tg1 iter1 mi1)
    (hg1 : ∀ (s : Shared) (H : Hp) (C : Addr) (cl : List (Str × Addr)) (fp : List Addr), GP (X.blk s H scope (compEnvC scope cl C X.env) fp) B tg1 js1 f1) (ht1 : ∀ (s : Shared) (H : Hp) (C : Addr) (cl : List (Str × Addr)) (fp : List Addr), PTs (X.blk s H scope (compEnvC scope cl C X.env) fp) ifs1 (tMT X.K B noW t1))
    (he : ∀ (s : Shared) (H : Hp) (C : Addr) (cl : List (Str × Addr)) (fp : List Addr), PE (X.blk s H scope (compEnvC scope cl C X.env) fp) elt (tM X.K B noW m)) (hj : ∀ j ∈ js, j ∈ own.map (·.2) := by decide) (hj1 : ∀ j ∈ js1, j ∈ vs1 := by decide) (hv : ∀ i ∈ vs1, i ∈ own.map (·.2) := by decide) (hN : X.N.Nodup := by decide)
    (hs : ∀ x, foldedSetIterable iter X.env x = pure x := by intro _; rfl) (hs1 : ∀ env x, foldedSetIterable iter1 env x = pure x := by intro _ _; rfl) :
    PE X (.ListComp elt [⟨tg, iter, ifs, 0⟩, ⟨tg1, iter1, ifs1, 0⟩] scope pos) (tF X.K B W (fLcc (own.map (·.2)) mi f t vs1 mi1 f1 t1 m)) :=
  PE.imp (pe_lc2 (vs1 := vs1) hc hN hi ok hv hg ht hi1 hg1 ht1 he hs hs1) fun σ H Q ⟨G, ρ, e, q⟩ => lc_mainC hj hj1 hfd e q
theorem ms_setLcc (i : Nat) {y : Str} {py spos : Pos} {elt tg iter tg1 iter1 : Expr} {ifs ifs1 : List Expr} {scope : Scope} {own : List (Str × Nat)} {vs1 js js1 : List Nat} {mi mi1 : Ev → Res (List D)} {f f1 : D → Ev → Option Ev} {t t1 : Ev → Res Bool} {m : Ev → Res D} (hc : X.calm = true) (ok : BlkOk X.N X.env.scope scope own) (hi : IP X B W tg iter mi) (hfd : GDat js f)
    (hg : ∀ (s : Shared) (H : Hp) (C : Addr) (cl : List (Str × Addr)) (fp : List Addr), GP (X.blk s H scope (compEnvC scope cl C X.env) fp) B tg js f) (ht : ∀ (s : Shared) (H : Hp) (C : Addr) (cl : List (Str × Addr)) (fp : List Addr), PTs (X.blk s H scope (compEnvC scope cl C X.env) fp) ifs (tMT X.K B noW t))
    (hi1 : ∀ (s : Shared) (H : Hp) (C : Addr) (cl : List (Str × Addr)) (fp : List Addr), IP (X.blk s H scope (compEnvC scope cl C X.env) fp) B noW tg1 iter1 mi1)
    (hg1 : ∀ (s : Shared) (H : Hp) (C : Addr) (cl : List (Str × Addr)) (fp : List Addr), GP (X.blk s H scope (compEnvC scope cl C X.env) fp) B tg1 js1 f1) (ht1 : ∀ (s : Shared) (H : Hp) (C : Addr) (cl : List (Str × Addr)) (fp : List Addr), PTs (X.blk s H scope (compEnvC scope cl C X.env) fp) ifs1 (tMT X.K B noW t1))
    (he : ∀ (s : Shared) (H : Hp) (C : Addr) (cl : List (Str × Addr)) (fp : List Addr), PE (X.blk s H scope (compEnvC scope cl C X.env) fp) elt (tM X.K B noW m)) (hsw : swapsWith (.ListComp elt [⟨tg, iter, ifs, 0⟩, ⟨tg1, iter1, ifs1, 0⟩] scope pos) (some (.Name y py)) spos.line X.env = pure true) (hj : ∀ j ∈ js, j ∈ own.map (·.2) := by decide) (hj1 : ∀ j ∈ js1, j ∈ vs1 := by decide) (hv : ∀ i ∈ vs1, i ∈ own.map (·.2) := by decide) (hN : X.N.Nodup := by decide)
    (hy : X.N[i]? = some y := by rfl) (hyl : X.env.scope.names.lookup y = some .local := by rfl) (hs : ∀ x, foldedSetIterable iter X.env x = pure x := by intro _; rfl) (hs1 : ∀ env x, foldedSetIterable iter1 env x = pure x := by intro _ _; rfl) :
    PS X (.Assign [.Name y py] (.ListComp elt [⟨tg, iter, ifs, 0⟩, ⟨tg1, iter1, ifs1, 0⟩] scope pos) spos) (tS X.K B W (oSetF i (fLcc (own.map (·.2)) mi f t vs1 mi1 f1 t1 m))) :=
  PS.imp (L2.ps_setLc2 (vs1 := vs1) hc hN hy hyl hsw hi ok hv hg ht hi1 hg1 ht1 he hs hs1) fun Dn σ H ⟨G, ρ, e, q⟩ => lc_mainC hj hj1 hfd e (setF e q)
theorem ms_setLccD (i : Nat) {y : Str} {py spos : Pos} {elt tg iter tg1 iter1 : Expr} {ifs ifs1 : List Expr} {scope : Scope} {own : List (Str × Nat)} {vs1 js js1 : List Nat} {mi mi1 : Ev → Res (List D)} {f f1 : D → Ev → Option Ev} {t t1 : Ev → Res Bool} {m : Ev → Res D} (hc : X.calm = true) (ok : BlkOk X.N X.env.scope scope own) (hi : IP X B W tg iter mi) (hfd : GDat js f)
    (hg : ∀ (s : Shared) (H : Hp) (C : Addr) (cl : List (Str × Addr)) (fp : List Addr), GP (X.blk s H scope (compEnvC scope cl C X.env) fp) B tg js f) (ht : ∀ (s : Shared) (H : Hp) (C : Addr) (cl : List (Str × Addr)) (fp : List Addr), PTs (X.blk s H scope (compEnvC scope cl C X.env) fp) ifs (tMT X.K B noW t))
    (hi1 : ∀ (s : Shared) (H : Hp) (C : Addr) (cl : List (Str × Addr)) (fp : List Addr), IP (X.blk s H scope (compEnvC scope cl C X.env) fp) B noW tg1 iter1 mi1)
    (hg1 : ∀ (s : Shared) (H : Hp) (C : Addr) (cl : List (Str × Addr)) (fp : List Addr), GP (X.blk s H scope (compEnvC scope cl C X.env) fp) B tg1 js1 f1) (ht1 : ∀ (s : Shared) (H : Hp) (C : Addr) (cl : List (Str × Addr)) (fp : List Addr), PTs (X.blk s H scope (compEnvC scope cl C X.env) fp) ifs1 (tMT X.K B noW t1))
    (he : ∀ (s : Shared) (H : Hp) (C : Addr) (cl : List (Str × Addr)) (fp : List Addr), PE (X.blk s H scope (compEnvC scope cl C X.env) fp) elt (tM X.K B noW m)) (hsw : swapsWith (.ListComp elt [⟨tg, iter, ifs, 0⟩, ⟨tg1, iter1, ifs1, 0⟩] scope pos) (some (.Name y py)) spos.line X.env = pure true) (hj : ∀ j ∈ js, j ∈ own.map (·.2) := by decide) (hj1 : ∀ j ∈ js1, j ∈ vs1 := by decide) (hv : ∀ i ∈ vs1, i ∈ own.map (·.2) := by decide) (hN : X.N.Nodup := by decide)
    (hy : X.N[i]? = some y := by rfl) (hyl : X.env.scope.names.lookup y = some .local := by rfl) (hs : ∀ x, foldedSetIterable iter X.env x = pure x := by intro _; rfl) (hs1 : ∀ env x, foldedSetIterable iter1 env x = pure x := by intro _ _; rfl) :
    PS X (.Assign [.Name y py] (.ListComp elt [⟨tg, iter, ifs, 0⟩, ⟨tg1, iter1, ifs1, 0⟩] scope pos) spos) (tS X.K B W (oSetL i (fLcc (own.map (·.2)) mi f t vs1 mi1 f1 t1 m))) :=
  PS.imp (L2.ps_setLc2 (vs1 := vs1) hc hN hy hyl hsw hi ok hv hg ht hi1 hg1 ht1 he hs hs1) fun Dn σ H ⟨G, ρ, e, q⟩ => lc_mainC hj hj1 hfd e (setL e q)
end
end PL
namespace PL
open PySem PySem.Spec L2
open PyProof.Rows (b2i)
structure UnaF (T : Tk) (k : Nat) (op : UnaryOp) (c : Cl) (g : List D → Res D) : Prop where
  ex : ∃ f : Addr, PySem.W.findIn T.K (.ref (ca T.K c)) (unNm op) = some (some (.ref f)) ∧ PySem.W.isFn T.K (.ref f) = true ∧ FnM T k f 1 g
theorem uaB_ok {T : Tk} {k : Nat} {c : Cl} {op : UnaryOp} {g : List D → Res D} (e : uaB c op T.K = true) (F : FnM T k (mA c (unNm op) T.K) 1 g) : UnaF T k op c g := by
  unfold uaB fndB at e
  simp only [Bool.and_eq_true, decide_eq_true_eq] at e
  exact ⟨_, e.1, e.2, F⟩
def ownU (base : D → Res D) (ps : Cl → Option (List D → Res D)) : D → Res D
  | .obj c fs => ofOpt (ps c) >>= fun g => g [.obj c fs]
  | a => base a
section
variable {X : Cx} {W : WX}
theorem un_ownU {k : Nat} {op : UnaryOp} {base : D → Res D} {ps : Cl → Option (List D → Res D)} (hn : op ≠ .Not) (hb : UnM X W (unaryOp op) base) (hp : ∀ c g, ps c = some g → UnaF (tkOf X) k op c g) (tk : Takes X W) (hr : Room k X.A) : UnM X W (unaryOp op) (ownU base ps) := by
  intro pins s σ G H x v a Q I rx e ra q
  cases a with
  | obj c fs =>
    obtain ⟨g, hg, q⟩ : ∃ g, ps c = some g ∧ RG (Rep X.K) X.K (fun c d H' => W c d σ H') G H Q (g [.obj c fs]) := by
      have q' : RG (Rep X.K) X.K (fun c d H' => W c d σ H') G H Q (ofOpt (ps c) >>= fun g => g [.obj c fs]) := q
      cases h : ps c with
      | none => rw [h] at q'; exact q'.elim
      | some g => rw [h] at q'; exact ⟨g, rfl, q'⟩
    obtain ⟨f, hs, hf, F⟩ := (hp c g hg).ex
    obtain ⟨a, dx, od, rfl, J, at_, _⟩ := ins_obj (K := X.K) (d := .obj c fs) I e ra
    obtain rfl : v = Value.ref a := rx
    have call := F.call tk hr I (us := [.ref a]) (vs := [.ref a]) (.cons rfl .nil) rfl e (.cons ra .nil) q
    unfold unaryOp
    refine wpAny_holding ?_
    cases op with
    | Not => exact absurd rfl hn
    | _ => exact wpAny_bind (PySem.W.special_fn I.kIn J hs (beq_iff_eq.mp hf) (wpAny_mono call (fun r s' h' => wpAny_pure h') fun _ _ x => x))
  | _ => exact hb pins s σ G H x v _ Q I rx e ra q
end
def noU : D → Res D := fun _ => .stuck
theorem un_noU {X : Cx} {W : WX} {op : UnaryOp} : UnM X W (unaryOp op) noU := fun _ _ _ _ _ _ _ _ _ _ _ _ _ q => q.elim
def noD : D → D → Res D := fun _ _ => .stuck
theorem op_noD {X : Cx} {W : WX} {op : Operator} : OpM X W (binaryOp op) noD := fun _ _ _ _ _ _ _ _ _ _ _ _ _ _ _ _ _ _ q => q.elim
section
variable {X : Cx} {B : Base} {W : WX} {e : Expr} {ma mk mk2 : Ev → Res D} {mf : Ev → Res (List D)} {pos : Pos}
theorem SG.ofF {K : PySem.W.Frag} {G H : Hp} {σ : St} {ρ : Ev} {Dn : Ends} {r : Res (List D)} {f : List D → Out} {P : VK} (e : EnvOk K B G σ ρ H) (h : SG K B W Dn (Out.of r ρ f)) (k : ∀ ys G1 p us H1, r = .ok ys → Grow G H G1 H1 → H1 p = some (.lst us) → Reps K G1 us ys → G1 p = none → H p = none → SG K B W Dn (f ys) → P (.ref p) H1) :
    FG K (fun c d H' => W c d σ H') G H P r := by
  cases r with
  | ok ys => exact fun G1 p us H1 g hp r gp hn => k ys G1 p us H1 rfl g hp r gp hn h
  | exc x => exact fun G1 c d H1 g r => h G1 σ H1 c d (e.growN g) r
  | stuck => exact h
/-- x.append(a new list) -/
def oApp2 (i : Nat) (m : Ev → Res (List D)) : Ev → Out := oOwn2 i fun xss ρ => Out.of (m ρ) ρ fun ys => oChk (xss.length < sizeLine) (.nx (ρ.set i (.own2 (xss ++ [ys]))))
theorem ms_app2 (i : Nat) {x : Str} {p1 p2 p3 : Pos} (he : PE X e (tF X.K B W mf)) (hN : X.N[i]? = some x := by rfl) (hv : Vis X.env.scope x := by first | exact Or.inl rfl | exact Or.inr (Or.inl rfl) | exact Or.inr (Or.inr rfl)) (hd : (x == ("__debug__" : Str)) = false := by decide) (hcd : (x == ("__classdict__" : Str)) = false := by decide)
    (hbase : attributeBase (.Name x p1) "append" X.env (eval (.Name x p1) X.env) = eval (.Name x p1) X.env := by rfl)
    (hfew : ((backTo p3 (starEach [e] X.env)).all (fun x => !x.1) && (backToKw p3 (keywordEach [] X.env)).all (fun x => x.1.isSome) && decide (([e] : List Expr).length + ([] : List Keyword).length + (if ([] : List Keyword).isEmpty then 0 else 1) < 30)) = true := by rfl)
    (hline : (p2.endLine == p3.line) = true := by rfl) (hs : starEach [e] X.env = (false, eval e X.env) :: starEach [] X.env := by rfl) (hplain : (backTo p3 (starEach [] X.env)).any (·.1) = false := by rfl)
    (hsw : swapsWith (.Call (.Attribute (.Name x p1) "append" p2) [e] [] p3) none pos.line X.env = pure false := by rfl) :
    PS X (.Expr (.Call (.Attribute (.Name x p1) "append" p2) [e] [] p3) pos) (tS X.K B W (oApp2 i mf)) :=
  PS.imp (ps_expr (pe_bm PySem.F.plainAttrs_list PySem.F.slot_list_append PySem.F.type_list_append mt_append (pe_var (i := i) hN hv hd hcd) (pa_cons he pa_nil hs) hbase hfew hline hs hplain) hsw) fun Dn σ H ⟨G, ρ, e, q⟩ => by
    obtain ⟨xss, hx, q⟩ := SG.own2 q
    obtain ⟨l, ls, hv, hl, rk, gl, bl, nd⟩ := own2_at e hx
    refine ⟨_, hv, .inl ⟨rfl, ls.map V.ref, .of hl⟩, G, ρ, e, SG.ofF e q fun ys G1 p us H1 _ g hp r gp hn q1 => ?_⟩
    obtain ⟨z, q1⟩ := SG.chk q1
    obtain ⟨k1, e1⟩ := own2_snoc e g hx hv hl rk gl bl nd hp r gp hn
    exact ⟨l, ls.map V.ref, .ref p, rfl, rfl, k1, by rw [List.length_map, rk.length]; exact z, q1 G1 σ _ e1⟩
/-- x.append(what is no new list): x is forgotten -/
def oApp2D (i : Nat) (m : Ev → Res D) : Ev → Out := oOwn2 i fun xss ρ => Out.of (m ρ) ρ fun _ => oChk (xss.length < sizeLine) (.nx (ρ.set i .no))
theorem ms_app2D (i : Nat) {x : Str} {p1 p2 p3 : Pos} (he : PE X e (tM X.K B W ma)) (hN : X.N[i]? = some x := by rfl) (hv : Vis X.env.scope x := by first | exact Or.inl rfl | exact Or.inr (Or.inl rfl) | exact Or.inr (Or.inr rfl)) (hd : (x == ("__debug__" : Str)) = false := by decide) (hcd : (x == ("__classdict__" : Str)) = false := by decide)
    (hbase : attributeBase (.Name x p1) "append" X.env (eval (.Name x p1) X.env) = eval (.Name x p1) X.env := by rfl)
    (hfew : ((backTo p3 (starEach [e] X.env)).all (fun x => !x.1) && (backToKw p3 (keywordEach [] X.env)).all (fun x => x.1.isSome) && decide (([e] : List Expr).length + ([] : List Keyword).length + (if ([] : List Keyword).isEmpty then 0 else 1) < 30)) = true := by rfl)
    (hline : (p2.endLine == p3.line) = true := by rfl) (hs : starEach [e] X.env = (false, eval e X.env) :: starEach [] X.env := by rfl) (hplain : (backTo p3 (starEach [] X.env)).any (·.1) = false := by rfl)
    (hsw : swapsWith (.Call (.Attribute (.Name x p1) "append" p2) [e] [] p3) none pos.line X.env = pure false := by rfl) :
    PS X (.Expr (.Call (.Attribute (.Name x p1) "append" p2) [e] [] p3) pos) (tS X.K B W (oApp2D i ma)) :=
  PS.imp (ps_expr (pe_bm PySem.F.plainAttrs_list PySem.F.slot_list_append PySem.F.type_list_append mt_append (pe_var (i := i) hN hv hd hcd) (pa_cons he pa_nil hs) hbase hfew hline hs hplain) hsw) fun Dn σ H ⟨G, ρ, e, q⟩ => by
    obtain ⟨xss, hx, q⟩ := SG.own2 q
    obtain ⟨l, ls, hv, hl, rk, gl, bl, nd⟩ := own2_at e hx
    refine ⟨_, hv, .inl ⟨rfl, ls.map V.ref, .of hl⟩, G, ρ, e, SG.of e q fun d G1 v H1 _ g e1 rv q1 => ?_⟩
    obtain ⟨z, q1⟩ := SG.chk q1
    obtain ⟨k1, k2⟩ := g.keeps hl gl
    exact ⟨l, ls.map V.ref, v, rfl, rfl, k1, by rw [List.length_map, rk.length]; exact z, q1 G1 σ _ (e1.change hx (by rw [hv]; exact .inl rfl) trivial fun b f => (foot_no f).elim)⟩
/-- x[k] of such a list -/
def rowN (xss : List (List D)) : D → Option Nat
  | .int n => (ixN xss.length n).bind fun j => if j < xss.length then some j else none
  | _ => none
theorem ixN_lt {n j : Nat} {k : Int} (h : ixN n k = some j) : j < n := by
  unfold ixN at h
  split at h
  · split at h
    · cases h; omega
    · cases h
  · split at h
    · cases h; omega
    · cases h
theorem atI_ixN {α : Type} {xs : List α} {k : Int} {j : Nat} (h : ixN xs.length k = some j) : atI xs k = xs[j]? := by
  unfold atI
  rw [h]
  rfl
/-- x[k][n] = e -/
def ixSet2 (xss : List (List D)) (d : D) (i j : Nat) : D → Ev → Out
  | .int n, ρ => match xss[j]? with
    | some ys => match ixN ys.length n with
      | some l => .nx (ρ.set i (.own2 (xss.set j (ys.set l d))))
      | none => .stuck
    | none => .stuck
  | _, _ => .stuck
def inRow (o : Option Nat) (f : Nat → Out) : Out := match o with
  | some j => f j
  | none => .stuck
def oSetIx2 (i : Nat) (mk mk2 m : Ev → Res D) : Ev → Out := oOwn2 i fun xss ρ => Out.of (m ρ) ρ fun d => Out.of (mk ρ) ρ fun a => inRow (rowN xss a) fun j => Out.of (mk2 ρ) ρ fun b => ixSet2 xss d i j b ρ
/-- x[k].append(e) -/
def oAppIx (i : Nat) (mk m : Ev → Res D) : Ev → Out := oOwn2 i fun xss ρ => Out.of (mk ρ) ρ fun a => inRow (rowN xss a) fun j => Out.of (m ρ) ρ fun d => match xss[j]? with
  | some ys => oChk (ys.length < sizeLine) (.nx (ρ.set i (.own2 (xss.set j (ys ++ [d])))))
  | none => .stuck
/-- x[k][n] -/
def mOwnIx2 (i : Nat) (mk mk2 : Ev → Res D) : Ev → Res D := fun ρ => match own2Of ρ i with
  | some xss => mk ρ >>= fun a => match rowN xss a with
    | some j => mk2 ρ >>= fun b => match xss[j]? with
      | some ys => ownIx ys b
      | none => .stuck
    | none => .stuck
  | none => .stuck
theorem rowN_some {xss : List (List D)} {a : D} {j : Nat} (h : rowN xss a = some j) : ∃ n : Int, a = .int n ∧ ixN xss.length n = some j := by
  unfold rowN at h
  split at h
  · rename_i n
    obtain ⟨j', h1, h2⟩ := Option.bind_eq_some_iff.mp h
    split at h2
    · cases h2; exact ⟨n, rfl, h1⟩
    · cases h2
  · cases h
theorem ms_setIx2 (i : Nat) {x : Str} {k k2 : Expr} {p0 p1 p2 : Pos} (he : PE X e (tM X.K B W ma)) (hk : PE X k (tM X.K B W mk)) (hk2 : PE X k2 (tM X.K B W mk2)) (hN : X.N[i]? = some x := by rfl) (hv : Vis X.env.scope x := by first | exact Or.inl rfl | exact Or.inr (Or.inl rfl) | exact Or.inr (Or.inr rfl)) (hd : (x == ("__debug__" : Str)) = false := by decide) (hcd : (x == ("__classdict__" : Str)) = false := by decide)
    (hsx : PlainIx k := by intro _ _; rfl)
    (ha : ∀ v, assign (.Subscript (.Subscript (.Name x p0) k p1) k2 p2) X.env v = (do
      let ov ← holding [v] (eval (.Subscript (.Name x p0) k p1) X.env)
      let iv ← holding [v, ov] (eval k2 X.env)
      standAt p2
      holding [v, ov, iv] (setItem ov iv v)
      release [v, ov, iv] []) := by intro _; rfl)
    (hs : swapsWithSole [.Subscript (.Subscript (.Name x p0) k p1) k2 p2] e pos.line X.env = pure false := by rfl) (hw : swappedStores [.Subscript (.Subscript (.Name x p0) k p1) k2 p2] e X.env = pure none := by rfl)
    (h1 : (assignEach [.Subscript (.Subscript (.Name x p0) k p1) k2 p2] X.env).map (·.2) = [assign (.Subscript (.Subscript (.Name x p0) k p1) k2 p2) X.env] := by rfl) :
    PS X (.Assign [.Subscript (.Subscript (.Name x p0) k p1) k2 p2] e pos) (tS X.K B W (oSetIx2 i mk mk2 ma)) :=
  PS.imp (ps_asg he (pg_sub (pe_ix ix_seq (pe_var (i := i) hN hv hd hcd) hk hsx) hk2 set_list ha) hs hw h1) fun Dn σ H ⟨G, ρ, e, q⟩ => by
    obtain ⟨xss, hx, q⟩ := SG.own2 q
    refine ⟨G, ρ, e, SG.of e q fun d G1 v H1 _ g e1 rv q1 => ?_⟩
    obtain ⟨l, ls, hv, hl, rk, gl, bl, nd⟩ := own2_at e1 hx
    refine ⟨_, hv, G1, ρ, e1, SG.of e1 q1 fun aa G2 w H2 _ g2 e2 rw' q2 => ?_⟩
    obtain ⟨l2, ls2, hv2, hl2, rk2, gl2, bl2, nd2⟩ := own2_at e2 hx
    rw [hv] at hv2
    cases hv2
    cases hr : rowN xss aa with
    | none => rw [hr] at q2; exact q2.elim
    | some j =>
      rw [hr] at q2
      have q2 : SG X.K B W Dn (Out.of (mk2 ρ) ρ fun b => ixSet2 xss d i j b ρ) := q2
      obtain ⟨n, rfl, hj⟩ := rowN_some hr
      cases rw' with
      | int _ =>
      have hjl := ixN_lt hj
      obtain ⟨a, vs, ha, hH, rr, ga, ba⟩ := rk2.get (List.getElem?_eq_getElem hjl)
      have hat : atI (ls2.map V.ref) n = some (.ref a) := by
        rw [atI_ixN (j := j) (by rw [List.length_map, rk2.length]; exact hj), List.getElem?_map, ha]
        rfl
      refine .inl ⟨l, ls2.map V.ref, n, .ref a, rfl, rfl, .of hl2, hat, G2, ρ, e2, SG.of e2 q2 fun b G3 w3 H3 _ g3 e3 rb q3 => ?_⟩
      cases rb with
      | int m =>
        have q3 : SG X.K B W Dn (match xss[j]? with
          | some ys => match ixN ys.length m with
            | some l => .nx (ρ.set i (.own2 (xss.set j (ys.set l d))))
            | none => .stuck
          | none => .stuck) := q3
        rw [List.getElem?_eq_getElem hjl] at q3
        dsimp only at q3
        cases hm : ixN xss[j].length m with
        | none => rw [hm] at q3; exact q3.elim
        | some n2 =>
          rw [hm] at q3
          obtain ⟨k1, k2⟩ := g3.keeps hH ga
          obtain ⟨k3, k4⟩ := g3.keeps hl2 gl2
          exact ⟨a, vs, m, n2, rfl, rfl, k1, by rw [rr.length]; exact hm, q3 G3 σ _ (own2_row e3 hx hv k3 (rk2.grow g3) k4 bl2 nd2 ha ((rr.mono g3.g).set (rv.mono (g2.g.trans g3.g)) n2))⟩
      | _ => exact q3.elim
theorem ms_appIx (i : Nat) {x : Str} {k : Expr} {p0 p1 p2 p3 : Pos} (hk : PE X k (tM X.K B W mk)) (he : PE X e (tM X.K B W ma)) (hN : X.N[i]? = some x := by rfl) (hv : Vis X.env.scope x := by first | exact Or.inl rfl | exact Or.inr (Or.inl rfl) | exact Or.inr (Or.inr rfl)) (hd : (x == ("__debug__" : Str)) = false := by decide) (hcd : (x == ("__classdict__" : Str)) = false := by decide)
    (hsx : PlainIx k := by intro _ _; rfl)
    (hbase : attributeBase (.Subscript (.Name x p0) k p1) "append" X.env (eval (.Subscript (.Name x p0) k p1) X.env) = eval (.Subscript (.Name x p0) k p1) X.env := by rfl)
    (hfew : ((backTo p3 (starEach [e] X.env)).all (fun x => !x.1) && (backToKw p3 (keywordEach [] X.env)).all (fun x => x.1.isSome) && decide (([e] : List Expr).length + ([] : List Keyword).length + (if ([] : List Keyword).isEmpty then 0 else 1) < 30)) = true := by rfl)
    (hline : (p2.endLine == p3.line) = true := by rfl) (hs : starEach [e] X.env = (false, eval e X.env) :: starEach [] X.env := by rfl) (hplain : (backTo p3 (starEach [] X.env)).any (·.1) = false := by rfl)
    (hsw : swapsWith (.Call (.Attribute (.Subscript (.Name x p0) k p1) "append" p2) [e] [] p3) none pos.line X.env = pure false := by rfl) :
    PS X (.Expr (.Call (.Attribute (.Subscript (.Name x p0) k p1) "append" p2) [e] [] p3) pos) (tS X.K B W (oAppIx i mk ma)) :=
  PS.imp (ps_expr (pe_bm PySem.F.plainAttrs_list PySem.F.slot_list_append PySem.F.type_list_append mt_append (pe_ix ix_seq (pe_var (i := i) hN hv hd hcd) hk hsx) (pa_cons he pa_nil hs) hbase hfew hline hs hplain) hsw) fun Dn σ H ⟨G, ρ, e, q⟩ => by
    obtain ⟨xss, hx, q⟩ := SG.own2 q
    obtain ⟨l, ls, hv, hl, rk, gl, bl, nd⟩ := own2_at e hx
    refine ⟨_, hv, G, ρ, e, SG.of e q fun aa G2 w H2 _ g2 e2 rw' q2 => ?_⟩
    obtain ⟨l2, ls2, hv2, hl2, rk2, gl2, bl2, nd2⟩ := own2_at e2 hx
    rw [hv] at hv2
    cases hv2
    cases hr : rowN xss aa with
    | none => rw [hr] at q2; exact q2.elim
    | some j =>
      rw [hr] at q2
      obtain ⟨n, rfl, hj⟩ := rowN_some hr
      cases rw' with
      | int _ =>
      have hjl := ixN_lt hj
      obtain ⟨a, vs, ha, hH, rr, ga, ba⟩ := rk2.get (List.getElem?_eq_getElem hjl)
      have hat : atI (ls2.map V.ref) n = some (.ref a) := by
        rw [atI_ixN (j := j) (by rw [List.length_map, rk2.length]; exact hj), List.getElem?_map, ha]
        rfl
      have q2 : SG X.K B W Dn (Out.of (ma ρ) ρ fun d => match xss[j]? with
        | some ys => oChk (ys.length < sizeLine) (.nx (ρ.set i (.own2 (xss.set j (ys ++ [d])))))
        | none => .stuck) := q2
      refine .inl ⟨l, ls2.map V.ref, n, .ref a, rfl, rfl, .of hl2, hat, .inl ⟨rfl, vs, .of hH⟩, G2, ρ, e2, SG.of e2 q2 fun d G3 w3 H3 _ g3 e3 rd q3 => ?_⟩
      rw [List.getElem?_eq_getElem hjl] at q3
      obtain ⟨z, q3⟩ := SG.chk (show SG X.K B W Dn (oChk (xss[j].length < sizeLine) (.nx (ρ.set i (.own2 (xss.set j (xss[j] ++ [d])))))) from q3)
      obtain ⟨k1, k2⟩ := g3.keeps hH ga
      obtain ⟨k3, k4⟩ := g3.keeps hl2 gl2
      exact ⟨a, vs, w3, rfl, rfl, k1, by rw [rr.length]; exact z, q3 G3 σ _ (own2_row e3 hx hv k3 (rk2.grow g3) k4 bl2 nd2 ha ((rr.mono g3.g).append (.cons rd .nil)))⟩
theorem me_ownIx2 (i : Nat) {x : Str} {k k2 : Expr} {p0 p1 : Pos} (hk : PE X k (tM X.K B W mk)) (hk2 : PE X k2 (tM X.K B W mk2)) (hN : X.N[i]? = some x := by rfl) (hv : Vis X.env.scope x := by first | exact Or.inl rfl | exact Or.inr (Or.inl rfl) | exact Or.inr (Or.inr rfl)) (hd : (x == ("__debug__" : Str)) = false := by decide) (hcd : (x == ("__classdict__" : Str)) = false := by decide)
    (hsx : PlainIx k := by intro _ _; rfl) (hsx2 : PlainIx k2 := by intro _ _; rfl) : PE X (.Subscript (.Subscript (.Name x p0) k p1) k2 pos) (tM X.K B W (mOwnIx2 i mk mk2)) :=
  PE.imp (pe_ix ix_seq (pe_ix ix_seq (pe_var (i := i) hN hv hd hcd) hk hsx) hk2 hsx2) fun σ H Q ⟨G, ρ, e, q⟩ => by
    unfold mOwnIx2 at q
    cases ho : own2Of ρ i with
    | none => rw [ho] at q; exact q.elim
    | some xss =>
      rw [ho] at q
      have hx := own2Of_some ho
      obtain ⟨l, ls, hv, hl, rk, gl, bl, nd⟩ := own2_at e hx
      refine ⟨_, hv, G, ρ, e, RG.bind q fun aa G2 w g2h g2 rw' q2 => ?_⟩
      have e2 := e.growN g2
      obtain ⟨l2, ls2, hv2, hl2, rk2, gl2, bl2, nd2⟩ := own2_at e2 hx
      rw [hv] at hv2
      cases hv2
      cases hr : rowN xss aa with
      | none => rw [hr] at q2; exact q2.elim
      | some j =>
        rw [hr] at q2
        obtain ⟨n, rfl, hj⟩ := rowN_some hr
        cases rw' with
        | int _ =>
        have hjl := ixN_lt hj
        obtain ⟨a, vs, ha, hH, rr, ga, ba⟩ := rk2.get (List.getElem?_eq_getElem hjl)
        have hat : atI (ls2.map V.ref) n = some (.ref a) := by
          rw [atI_ixN (j := j) (by rw [List.length_map, rk2.length]; exact hj), List.getElem?_map, ha]
          rfl
        refine .inl ⟨l, ls2.map V.ref, n, .ref a, rfl, rfl, .of hl2, hat, G2, ρ, e2, RG.bind q2 fun b G3 w3 H3 g3 rb q3 => ?_⟩
        rw [List.getElem?_eq_getElem hjl] at q3
        cases rb with
        | int m =>
          have q3 : RG (Rep X.K) X.K _ G3 H3 Q (ofOpt (atI xss[j] m)) := q3
          obtain ⟨d, hd, q3⟩ := RG.opt q3
          obtain ⟨w, e1, r1⟩ := (rr.mono g3.g).atI hd
          exact .inl ⟨a, vs, m, w, rfl, rfl, .of (g3.keeps hH ga).1, e1, RG.here g3.sub q3 r1⟩
        | _ => exact q3.elim
end
end PL
namespace PL
open PySem PySem.Spec L2
open PyProof.Rows (b2i)
section
variable {P : Po} {ρ : Ev} {i : Nat} {m mk mk2 : Ev → Res D} {Q : D → Prop} {E : Err → Prop}
@[simp] theorem wp_setF2 {m : Ev → Res (List (List D))} : wp (oSetF2 i m) P ρ = wr (m ρ) (fun d => P.nx (ρ.set i (.own2 d))) (fun e => P.exc e ρ) := by with_unfolding_all exact ends_of
@[simp] theorem wm_fNil2 {Q : List (List D) → Prop} : wr (fNil2 ρ) Q E = Q [] := by with_unfolding_all exact (id rfl)
@[simp] theorem wm_lst2Of {m : Ev → Res (List (List D))} : wr (lst2Of m ρ) Q E = wr (m ρ) (fun xss => Q (.lst (xss.map .lst))) E := by
  unfold lst2Of
  rw [wr_bind]
  congr
  funext x
  rw [wr_ok]
@[simp] theorem wp_app2 {mf : Ev → Res (List D)} : wp (oApp2 i mf) P ρ = match ρ[i]? with | some (.own2 xss) => wr (mf ρ) (fun d => xss.length < sizeLine ∧ P.nx (ρ.set i (.own2 (xss ++ [d])))) (fun e => P.exc e ρ) | _ => False := by
  unfold wp oApp2 oOwn2 own2Of
  cases ρ[i]? with
  | none => unfold ends; rfl
  | some sl =>
    cases sl with
    | own2 xss =>
      show ends P (Out.of (mf ρ) ρ _) = _
      rw [ends_of]
      congr
      funext d
      unfold oChk
      by_cases z : xss.length < sizeLine
      · rw [if_pos z, ends_nx]; exact propext ⟨fun h => ⟨z, h⟩, fun h => h.2⟩
      · rw [if_neg z]; exact propext ⟨fun h => by unfold ends at h; exact h.elim, fun h => absurd h.1 z⟩
    | _ => unfold ends; rfl
@[simp] theorem wp_app2D : wp (oApp2D i m) P ρ = match ρ[i]? with | some (.own2 xss) => wr (m ρ) (fun d => xss.length < sizeLine ∧ P.nx (ρ.set i .no)) (fun e => P.exc e ρ) | _ => False := by
  unfold wp oApp2D oOwn2 own2Of
  cases ρ[i]? with
  | none => unfold ends; rfl
  | some sl =>
    cases sl with
    | own2 xss =>
      show ends P (Out.of (m ρ) ρ _) = _
      rw [ends_of]
      congr
      funext d
      unfold oChk
      by_cases z : xss.length < sizeLine
      · rw [if_pos z, ends_nx]; exact propext ⟨fun h => ⟨z, h⟩, fun h => h.2⟩
      · rw [if_neg z]; exact propext ⟨fun h => by unfold ends at h; exact h.elim, fun h => absurd h.1 z⟩
    | _ => unfold ends; rfl
/-- row j of xss, if there is one -/
def inRowP (o : Option Nat) (f : Nat → Prop) : Prop := match o with
  | some j => f j
  | none => False
theorem ends_inRow {o : Option Nat} {f : Nat → Out} : ends P (inRow o f) = inRowP o fun j => ends P (f j) := by
  cases o with
  | none => unfold ends; rfl
  | some j => rfl
theorem ends_opt {α : Type} {o : Option α} {f : α → Out} : ends P (match o with | some a => f a | none => .stuck) = match o with | some a => ends P (f a) | none => False := by
  cases o with
  | none => unfold ends; rfl
  | some j => rfl
@[simp] theorem wp_setIx2 : wp (oSetIx2 i mk mk2 m) P ρ = match ρ[i]? with | some (.own2 xss) => wr (m ρ) (fun d => wr (mk ρ) (fun a => inRowP (rowN xss a) fun j => wr (mk2 ρ) (fun b => ends P (ixSet2 xss d i j b ρ)) (fun e => P.exc e ρ)) (fun e => P.exc e ρ)) (fun e => P.exc e ρ) | _ => False := by
  unfold wp oSetIx2 oOwn2 own2Of
  cases ρ[i]? with
  | none => unfold ends; rfl
  | some sl =>
    cases sl with
    | own2 xss =>
      show ends P (Out.of (m ρ) ρ _) = _
      rw [ends_of]
      congr
      funext d
      rw [ends_of]
      congr
      funext a
      rw [ends_inRow]
      congr
      funext j
      rw [ends_of]
    | _ => unfold ends; rfl
theorem ixSet2_nat {xss : List (List D)} {ys : List D} {d : D} {j n : Nat} (hj : xss[j]? = some ys) (hn : n < ys.length) : ends P (ixSet2 xss d i j (.int n) ρ) = P.nx (ρ.set i (.own2 (xss.set j (ys.set n d)))) := by
  have e2 : ixN ys.length (n : Int) = some n := by
    unfold ixN
    rw [if_pos (Int.natCast_nonneg n), if_pos (by omega)]
    rfl
  have e : ixSet2 xss d i j (.int n) ρ = .nx (ρ.set i (.own2 (xss.set j (ys.set n d)))) := by
    show (match xss[j]? with
    | some ys => match ixN ys.length n with
      | some l => Out.nx (ρ.set i (.own2 (xss.set j (ys.set l d))))
      | none => .stuck
    | none => .stuck) = _
    rw [hj]
    dsimp only
    rw [e2]
  rw [e, ends_nx]
theorem rowN_nat {xss : List (List D)} {j : Nat} (hj : j < xss.length) : rowN xss (.int j) = some j := by
  have e2 : ixN xss.length (j : Int) = some j := by
    unfold ixN
    rw [if_pos (Int.natCast_nonneg j), if_pos (by omega)]
    rfl
  show ((ixN xss.length (j : Int)).bind fun j => if j < xss.length then some j else none) = some j
  rw [e2, Option.bind_some, if_pos hj]
@[simp] theorem inRowP_some {j : Nat} {f : Nat → Prop} : inRowP (some j) f = f j := by with_unfolding_all exact (id rfl)
@[simp] theorem wp_appIx : wp (oAppIx i mk m) P ρ = match ρ[i]? with | some (.own2 xss) => wr (mk ρ) (fun a => inRowP (rowN xss a) fun j => wr (m ρ) (fun d => match xss[j]? with | some ys => ys.length < sizeLine ∧ P.nx (ρ.set i (.own2 (xss.set j (ys ++ [d])))) | none => False) (fun e => P.exc e ρ)) (fun e => P.exc e ρ) | _ => False := by
  unfold wp oAppIx oOwn2 own2Of
  cases ρ[i]? with
  | none => unfold ends; rfl
  | some sl =>
    cases sl with
    | own2 xss =>
      show ends P (Out.of (mk ρ) ρ _) = _
      rw [ends_of]
      congr
      funext a
      rw [ends_inRow]
      congr
      funext j
      rw [ends_of]
      congr
      funext d
      cases xss[j]? with
      | none => unfold ends; rfl
      | some ys =>
        dsimp only
        unfold oChk
        by_cases z : ys.length < sizeLine
        · rw [if_pos z, ends_nx]; exact propext ⟨fun h => ⟨z, h⟩, fun h => h.2⟩
        · rw [if_neg z]; exact propext ⟨fun h => by unfold ends at h; exact h.elim, fun h => absurd h.1 z⟩
    | _ => unfold ends; rfl
@[simp] theorem wm_ownIx2 : wr (mOwnIx2 i mk mk2 ρ) Q E = match ρ[i]? with | some (.own2 xss) => wr (mk ρ) (fun a => inRowP (rowN xss a) fun j => wr (mk2 ρ) (fun b => match xss[j]? with | some ys => wr (ownIx ys b) Q E | none => False) E) E | _ => False := by
  unfold mOwnIx2 own2Of
  cases ρ[i]? with
  | none => unfold wr; rfl
  | some s =>
    cases s with
    | own2 xss =>
      show wr (mk ρ >>= _) Q E = _
      rw [wr_bind]
      congr
      funext a
      cases rowN xss a with
      | none => unfold wr; rfl
      | some j =>
        show wr (mk2 ρ >>= _) Q E = _
        rw [inRowP_some, wr_bind]
        congr
        funext b
        cases xss[j]? with
        | none => unfold wr; rfl
        | some ys => rfl
    | _ => unfold wr; rfl
@[simp] theorem wm_asL {Q : List D → Prop} : wr (asL m ρ) Q E = wr (m ρ) (fun d => match d with | .lst xs => Q xs | _ => False) E := by
  unfold asL
  rw [wr_bind]
  congr
  funext d
  cases d with
  | lst xs => rw [wr_ok]
  | _ => unfold wr; rfl
@[simp] theorem wm_asL2 {Q : List (List D) → Prop} : wr (asL2 m ρ) Q E = wr (m ρ) (fun d => match d with | .lst xs => wr (ofOpt (lstsD xs)) Q E | _ => False) E := by
  unfold asL2
  rw [wr_bind]
  congr
  funext d
  cases d with
  | lst xs => rfl
  | _ => unfold wr; rfl
@[simp] theorem lstsD_m {xss : List (List D)} : lstsD (xss.map .lst) = some xss := lstsD_map xss
@[simp] theorem wp_retO1 : wp (oRetO1 i) P ρ = match ρ[i]? with | some (.own xs) => P.rt (.lst xs) | _ => False := by
  unfold wp oRetO1
  cases ρ[i]? with
  | none => unfold ends; rfl
  | some s => cases s <;> (unfold ends; rfl)
@[simp] theorem wp_retO2 : wp (oRetO2 i) P ρ = match ρ[i]? with | some (.own2 xs) => P.rt (.lst (xs.map .lst)) | _ => False := by
  unfold wp oRetO2
  cases ρ[i]? with
  | none => unfold ends; rfl
  | some s => cases s <;> (unfold ends; rfl)
/-- a property -/
theorem wo_prop {ps : Cl → Option (List D → Res D)} {c : Cl} {fs : List (Nm × D)} {g : List D → Res D} {d : D} (h : ps c = some g) (e : g [.obj c fs] = .ok d) (hq : Q d) : wr (propN ps (.obj c fs)) Q E := by
  show wr (ofOpt (ps c) >>= fun g => noX (g [.obj c fs])) Q E
  rw [h, ofOpt_some, ok_bind, e]
  show wr (Res.ok d) Q E
  rw [wr_ok]
  exact hq
theorem wo_ownU {base : D → Res D} {ps : Cl → Option (List D → Res D)} {c : Cl} {fs : List (Nm × D)} {g : List D → Res D} (h : ps c = some g) : wr (ownU base ps (.obj c fs)) Q E = wr (g [.obj c fs]) Q E := by
  show wr (ofOpt (ps c) >>= fun g => g [.obj c fs]) Q E = _
  rw [h, ofOpt_some, ok_bind]
@[simp] theorem wo_ownUI {base : D → Res D} {ps : Cl → Option (List D → Res D)} {k : Int} : wr (ownU base ps (.int k)) Q E = wr (base (.int k)) Q E := by with_unfolding_all exact (id rfl)
end
theorem lc2_mapM {α : Type} {f : D → Ev → Option Ev} {m : Ev → Res (List D)} {ρ : Ev} {g : α → D} {F : α → List D} : ∀ {l : List α}, (∀ a ∈ l, ∃ ρ1, f (g a) ρ = some ρ1 ∧ wr (m ρ1) (fun d => d = F a) noE) → lcGo2 f mYes m ρ (l.map g) = .ok (l.map F)
  | [], _ => rfl
  | a :: l, h => by
    obtain ⟨ρ1, e1, e2⟩ := h a List.mem_cons_self
    have ih := lc2_mapM (f := f) (m := m) (ρ := ρ) (g := g) (F := F) (l := l) fun x hx => h x (List.mem_cons_of_mem _ hx)
    rw [List.map_cons]
    unfold lcGo2
    rw [e1]
    simp only [mYes, ok_bind, if_true]
    rw [wr_eq e2, ok_bind, ih]
    rfl
/-- a list of new lists -/
theorem wm_lc2M {α : Type} (l : List α) (g : α → D) (F : α → List D) {vs : List Nat} {mi : Ev → Res (List D)} {f : D → Ev → Option Ev} {m : Ev → Res (List D)} {Q : List (List D) → Prop} {E : Err → Prop} {ρ : Ev} (hi : wr (mi ρ) (fun ds => ds = l.map g) noE) (hl : l.length ≤ sizeLine)
    (h : ∀ a ∈ l, ∃ ρ1, f (g a) (wipeE ρ vs) = some ρ1 ∧ wr (m ρ1) (fun d => d = F a) noE) (hq : Q (l.map F)) : wr (fLc2 vs mi f mYes m ρ) Q E := by
  unfold fLc2
  rw [wr_bind, wr_eq hi, wr_ok]
  show wr (noX (lcGo2 f mYes m (wipeE ρ vs) (l.map g)) >>= _) Q E
  rw [lc2_mapM h]
  show wr (chk _ _) Q E
  rw [wr_chk, wr_ok]
  exact ⟨by rw [List.length_map]; exact hl, hq⟩
theorem lcC_mapM {α β : Type} {f f1 : D → Ev → Option Ev} {vs1 : List Nat} {mi1 : Ev → Res (List D)} {m : Ev → Res D} {ρ : Ev} {g : α → D} {g1 : α → β → D} {L : α → List β} {F : α → β → D} : ∀ {l : List α},
    (∀ a ∈ l, ∃ ρ1, f (g a) ρ = some ρ1 ∧ wr (mi1 ρ1) (fun ds => ds = (L a).map (g1 a)) noE ∧ ∀ b ∈ L a, ∃ ρ2, f1 (g1 a b) (wipeE ρ1 vs1) = some ρ2 ∧ wr (m ρ2) (fun d => d = F a b) noE) → lcGoC f mYes vs1 mi1 f1 mYes m ρ (l.map g) = .ok (l.flatMap fun a => (L a).map (F a))
  | [], _ => rfl
  | a :: l, h => by
    obtain ⟨ρ1, e1, e2, e3⟩ := h a List.mem_cons_self
    have ih := lcC_mapM (f := f) (f1 := f1) (vs1 := vs1) (mi1 := mi1) (m := m) (ρ := ρ) (g := g) (g1 := g1) (L := L) (F := F) (l := l) fun x hx => h x (List.mem_cons_of_mem _ hx)
    rw [List.map_cons]
    unfold lcGoC
    rw [e1]
    simp only [mYes, ok_bind, if_true]
    rw [wr_eq e2, ok_bind, lc_mapM e3, ok_bind, ih]
    rfl
/-- for a in l for b in L a -/
theorem wm_lccM {α β : Type} (l : List α) (g : α → D) (L : α → List β) (g1 F : α → β → D) {vs vs1 : List Nat} {mi mi1 : Ev → Res (List D)} {f f1 : D → Ev → Option Ev} {m : Ev → Res D} {Q : List D → Prop} {E : Err → Prop} {ρ : Ev} (hi : wr (mi ρ) (fun ds => ds = l.map g) noE) (hl : (l.flatMap L).length ≤ sizeLine)
    (h : ∀ a ∈ l, ∃ ρ1, f (g a) (wipeE ρ vs) = some ρ1 ∧ wr (mi1 ρ1) (fun ds => ds = (L a).map (g1 a)) noE ∧ ∀ b ∈ L a, ∃ ρ2, f1 (g1 a b) (wipeE ρ1 vs1) = some ρ2 ∧ wr (m ρ2) (fun d => d = F a b) noE) (hq : Q (l.flatMap fun a => (L a).map (F a))) : wr (fLcc vs mi f mYes vs1 mi1 f1 mYes m ρ) Q E := by
  unfold fLcc
  rw [wr_bind, wr_eq hi, wr_ok]
  show wr (noX (lcGoC f mYes vs1 mi1 f1 mYes m (wipeE ρ vs) (l.map g)) >>= _) Q E
  rw [lcC_mapM h]
  show wr (chk _ _) Q E
  rw [wr_chk, wr_ok]
  refine ⟨?_, hq⟩
  have e : (l.flatMap fun a => (L a).map (F a)).length = (l.flatMap L).length := by
    rw [List.length_flatMap, List.length_flatMap]
    congr 1
    exact List.map_congr_left fun a _ => List.length_map ..
  rw [e]
  exact hl
end PL
namespace PL
open PySem PySem.Spec L2
open PyProof.Rows (b2i)
section
variable {X : Cx} {B : Base} {W : WX} {pos p1 : Pos}
theorem me_cval {x f : Str} {i : Int} (hg : Gl X x) (hm : X.mg x = some (.ref (He.ga X.K x))) (c : cvB x f i X.K = true) (hd : (x == ("__debug__" : Str)) = false := by decide) (hb : attributeBase (.Name x p1) f X.env (eval (.Name x p1) X.env) = eval (.Name x p1) X.env := by rfl) :
    PE X (.Attribute (.Name x p1) f pos) (tM X.K B W (mCon (.int i))) := by
  unfold cvB at c
  obtain ⟨c1, c3⟩ := Bool.and_eq_true_iff.mp c
  obtain ⟨c1, c2⟩ := Bool.and_eq_true_iff.mp c1
  refine me_of (ClX.pe_cval (pe_cl hg hm hd) hb) fun G ρ σ H Q e q => ?_
  split at c3
  · rename_i j t q2
    have hj := of_decide_eq_true c3
    subst hj
    exact ⟨He.ga X.K x, .type "type", .int j, .int j t, rfl, ⟨c1, of_decide_eq_true c2⟩, ⟨q2, ⟨t, rfl⟩⟩, RG.here e.sub q (.int j)⟩
  · cases c3
end
end PL
namespace PL
open PySem PySem.Spec L2
open PySem.SeqAt AutoSeq1 MeetsSeq MeetsSeq2 MeetsSeq3 SeqRoads2
section
variable {prog : Program} {w : World} {A : Around} {R : Result → Shared → Prop}
/-- at each turn the two lists are read anew: N items each, the i-th two told equal or not -/
def ListB (prog : Program) (w : World) (A : Around) (E : Value → Shared → Prop) (l b : Addr) (N : Nat) (I : Nat → Shared → Prop) (F : Shared → Prop) : Prop :=
  ∀ i s, I i s → ∃ (items items2 : Array Value) (n n2 : Nat) (sl sl2 : Array (Option Value)), s.heap.get? l = some { cls := .type "list", data := .seq items n, slots := sl } ∧ s.heap.get? b = some { cls := .type "list", data := .seq items2 n2, slots := sl2 } ∧ items.size = N ∧ items2.size = N ∧
    ∀ (h1 : i < items.size) (h2 : i < items2.size), wpAny (model prog w) A.in1 (eqBool items[i] items2[i]) (fun r s' => (r = true ∧ I (i + 1) s') ∨ (r = false ∧ I i s' ∧ F s')) E s
theorem eq_loopB (l b : Addr) (N : Nat) (I : Nat → Shared → Prop) (F : Shared → Prop) (hl : ListB prog w A (fun e s' => R (.error e) s') l b N I F)
    (fin : ∀ s, I N s → R (.ok (.ret (.bool true))) s) (finF : ∀ s, F s → R (.ok (.ret (.bool false))) s) (k : Nat) :
    ∀ i : Nat, N - i = k → i ≤ N → ∀ s, I i s →
      wpAny (model prog w) A.in1 (Builtin.«list.__eq__.loop» ⟨[.ref l, .ref b, rawInt i, rawInt 2], []⟩) (GQ.FinOf prog w A R) (fun e s' => R (.error e) s') s := by
  induction k with
  | zero =>
    intro i hk hi s h
    obtain ⟨items, items2, n, n2, sl, sl2, hl1, hb1, hs1, hs2, _⟩ := hl _ _ h
    have hi' : i = N := by omega
    have hR : R (.ok (.ret (.bool true))) s := fin s (hi' ▸ h)
    obtain ⟨hp, g, d, tk, os⟩ := s
    wp_walk using wpAny_loadPart' hl1, wpAny_loadPart' hb1
    have hi1 : items[((i : Nat) : Int).toNat]? = none := by simp; omega
    have hi2 : items2[((i : Nat) : Int).toNat]? = none := by simp; omega
    rw [hi1, hi2]
    wp_walk using wpAny_loadPart' hl1, wpAny_loadPart' hb1
    show R (.ok (.ret (.bool (items.size == items2.size)))) _
    rw [hs1, hs2]
    simpa using hR
  | succ k ih =>
    intro i hk hi s h
    obtain ⟨items, items2, n, n2, sl, sl2, hl1, hb1, hs1, hs2, turn⟩ := hl _ _ h
    have hlt : i < items.size := by omega
    have hlt2 : i < items2.size := by omega
    have ht := turn hlt hlt2
    obtain ⟨hp, g, d, tk, os⟩ := s
    wp_walk using wpAny_loadPart' hl1, wpAny_loadPart' hb1
    have hi1 : items[((i : Nat) : Int).toNat]? = some items[i] := by simp [hlt]
    have hi2 : items2[((i : Nat) : Int).toNat]? = some items2[i] := by simp [hlt2]
    have hc : ((i : Int) + 1) = ((i + 1 : Nat) : Int) := by omega
    rw [hi1, hi2]
    refine wpAny_bind (wpAny_mono ht (fun r s2 h2 => ?_) fun _ _ x => x)
    rcases h2 with ⟨hr, h2⟩ | ⟨hr, h2, hF⟩
    · subst hr
      have hrec := ih (i + 1) (by omega) (by omega) s2 h2
      obtain ⟨hp2, g2, d2, tk2, os2⟩ := s2
      wp_walk
      rw [hc]
      exact ⟨plainId_quiet plain_eq_loop _, codeAny_builtin entry_eq_loop (by
        rw [Around.under_plainId plain_eq_loop _]
        exact hrec)⟩
    · subst hr
      obtain ⟨items', items2', n', n2', sl', sl2', hl1', hb1', hs1', hs2', _⟩ := hl _ _ h2
      have hf := finF _ hF
      obtain ⟨hp2, g2, d2, tk2, os2⟩ := s2
      wp_walk using wpAny_loadPart' hl1', wpAny_loadPart' hb1'
      have hi1' : items'[((i : Nat) : Int).toNat]? = some (items'[i]'(by omega)) := by simp
      have hi2' : items2'[((i : Nat) : Int).toNat]? = some (items2'[i]'(by omega)) := by simp
      rw [hi1', hi2']
      wp_walk
      exact hf
theorem list_eqB (l b : Addr) (N : Nat) (I : Nat → Shared → Prop) (F : Shared → Prop) (hl : ListB prog w A (fun e s' => R (.error e) s') l b N I F)
    (fin : ∀ s, I N s → R (.ok (.ret (.bool true))) s) (finF : ∀ s, F s → R (.ok (.ret (.bool false))) s) {s : Shared} (h : I 0 s) :
    wpAny (model prog w) A.in1 (Builtin.«list.__eq__» ⟨[.ref l, .ref b], []⟩) (GQ.FinOf prog w A R) (fun e s' => R (.error e) s') s := by
  obtain ⟨items, items2, n, n2, sl, sl2, hl1, hb1, hs1, hs2, _⟩ := hl _ _ h
  have hrec := eq_loopB (A := A) (R := R) l b N I F hl fin finF _ 0 rfl (Nat.zero_le _) s h
  obtain ⟨hp, g, d, tk, os⟩ := s
  have f3 := AutoSeq1.sub_list_list
  have hne : ¬ (items.size != items2.size) = true := by simp [hs1, hs2]
  wp_walk using wpAny_loadPart' hl1, wpAny_loadPart' hb1
  exact ⟨plainId_quiet plain_eq_loop _, codeAny_builtin entry_eq_loop (by
    rw [Around.under_plainId plain_eq_loop _]
    exact hrec)⟩
/-- lists of two lengths -/
theorem list_eqLen (l b : Addr) {items items2 : Array Value} {n n2 : Nat} {sl sl2 : Array (Option Value)} {s : Shared} (hl1 : s.heap.get? l = some { cls := .type "list", data := .seq items n, slots := sl }) (hb1 : s.heap.get? b = some { cls := .type "list", data := .seq items2 n2, slots := sl2 }) (hne : items.size ≠ items2.size)
    (fin : R (.ok (.ret (.bool false))) s) : wpAny (model prog w) A.in1 (Builtin.«list.__eq__» ⟨[.ref l, .ref b], []⟩) (GQ.FinOf prog w A R) (fun e s' => R (.error e) s') s := by
  obtain ⟨hp, g, d, tk, os⟩ := s
  have f3 := AutoSeq1.sub_list_list
  have hne : (items.size != items2.size) = true := by simpa using hne
  wp_walk using wpAny_loadPart' hl1, wpAny_loadPart' hb1
  exact fin
theorem tuple_eqB (l b : Addr) (items items2 : Array Value) (n n2 : Nat) (dd dd2 : Option Addr) (sl sl2 : Array (Option Value)) (I : Nat → Shared → Prop) (F : Shared → Prop)
    (turn : ∀ i (h1 : i < items.size) (h2 : i < items2.size) s, I i s → wpAny (model prog w) A.in1 (eqBool items[i] items2[i]) (fun r s' => (r = true ∧ I (i + 1) s') ∨ (r = false ∧ F s')) (fun e s' => R (.error e) s') s)
    (fin : ∀ s, I (min items.size items2.size) s → R (.ok (.ret (.bool (items.size == items2.size)))) s) (finF : ∀ s, F s → R (.ok (.ret (.bool false))) s) {s : Shared} (hl1 : s.heap.get? l = some { cls := .type "tuple", dict := dd, data := .seq items n, slots := sl }) (hb1 : s.heap.get? b = some { cls := .type "tuple", dict := dd2, data := .seq items2 n2, slots := sl2 }) (h : I 0 s) :
    wpAny (model prog w) A.in1 (Builtin.«tuple.__eq__» ⟨[.ref l, .ref b], []⟩) (GQ.FinOf prog w A R) (fun e s' => R (.error e) s') s := by
  have f2 := AutoSeq1.sub_tuple_tuple
  have hZ : (items.toList.zip items2.toList).length = min items.size items2.size := by simp
  have h0 := h
  obtain ⟨hp, g, d, tk, os⟩ := s
  wp_walk using wpAny_loadPart' hl1, wpAny_loadPart' hb1, wpAny_forIn_list _ (fun rest b s' => (b.1 = none ∧ ∃ i, rest = (items.toList.zip items2.toList).drop i ∧ i ≤ min items.size items2.size ∧ I i s')) _
  case turn =>
    rintro ⟨y, x⟩ rest b s' ⟨hb', i, hz, hi, hI⟩
    have hlt : i < (items.toList.zip items2.toList).length := by
      rcases Nat.lt_or_ge i (items.toList.zip items2.toList).length with h' | h'
      · exact h'
      · rw [List.drop_of_length_le h'] at hz; cases hz
    have h1 : i < items.size := by rw [hZ] at hlt; omega
    have h2 : i < items2.size := by rw [hZ] at hlt; omega
    rw [List.drop_eq_getElem_cons hlt] at hz
    injection hz with hyx hrest
    have hy : y = items[i] := by have := congrArg Prod.fst hyx; simpa using this
    have hx : x = items2[i] := by have := congrArg Prod.snd hyx; simpa using this
    subst hy hx
    refine wpAny_bind (wpAny_mono (turn i h1 h2 s' hI) (fun r s2 q2 => ?_) fun _ _ x => x)
    rcases q2 with ⟨hr, q2⟩ | ⟨hr, q2⟩
    · subst hr
      wp_walk
      exact ⟨rfl, i + 1, hrest, by omega, q2⟩
    · subst hr
      wp_walk
      exact finF _ q2
  case fin =>
    rintro ⟨b1, b2⟩ s' ⟨hb', i, hz, hi, hI⟩
    simp only at hb'
    subst hb'
    have hge : min items.size items2.size ≤ i := by
      rcases Nat.lt_or_ge i (items.toList.zip items2.toList).length with h' | h'
      · rw [List.drop_eq_getElem_cons h'] at hz; cases hz
      · exact hZ ▸ h'
    have hi' : i = min items.size items2.size := by omega
    have hR := fin s' (hi' ▸ hI)
    wp_walk
    simpa [Builtin.Tuple.tupleCompareSizes] using hR
  case h =>
    exact ⟨rfl, 0, rfl, Nat.zero_le _, h0⟩
end
section
variable {prog : Program} {w : World} {A : Around} {E : Value → Shared → Prop} {s : Shared}
theorem rc_listB {l b : Addr} {N : Nat} {Q : Value → Shared → Prop} (hu : A.units < cLine) (I : Nat → Shared → Prop) (Fl : Shared → Prop) (hl : ListB prog w A E l b N I Fl)
    (fin : ∀ s, I N s → Q (.bool true) s) (finF : ∀ s, Fl s → Q (.bool false) s) (h : I 0 s) : wpAny (model prog w) A (richCompare .Eq (.ref l) (.ref b)) Q E s := by
  obtain ⟨items, items2, n, n2, sl, sl2, hl1, hb1, _, _, _⟩ := hl _ _ h
  refine wpAny_richCompare_same_room (op := .Eq) ⟨_, hl1, rfl⟩ ⟨_, hb1, rfl⟩ F.slot_list_eq (GQ.call_here F.slot_list_eq ⟨_, hl1, rfl⟩ F.entry_list_eq (F.args_list_eq_2 _ _) ?_) hu
  exact list_eqB (R := wants (fun v s' => v ≠ .notImplemented ∧ Q v s') E) l b N I Fl hl (fun s' q => ⟨(fun x => nomatch x), fin s' q⟩) (fun s' q => ⟨(fun x => nomatch x), finF s' q⟩) h
theorem rc_listLen {l b : Addr} {items items2 : Array Value} {n n2 : Nat} {sl sl2 : Array (Option Value)} {Q : Value → Shared → Prop} (hu : A.units < cLine) (hl1 : s.heap.get? l = some { cls := .type "list", data := .seq items n, slots := sl }) (hb1 : s.heap.get? b = some { cls := .type "list", data := .seq items2 n2, slots := sl2 }) (hne : items.size ≠ items2.size)
    (fin : Q (.bool false) s) : wpAny (model prog w) A (richCompare .Eq (.ref l) (.ref b)) Q E s := by
  refine wpAny_richCompare_same_room (op := .Eq) ⟨_, hl1, rfl⟩ ⟨_, hb1, rfl⟩ F.slot_list_eq (GQ.call_here F.slot_list_eq ⟨_, hl1, rfl⟩ F.entry_list_eq (F.args_list_eq_2 _ _) ?_) hu
  exact list_eqLen (R := wants (fun v s' => v ≠ .notImplemented ∧ Q v s') E) l b hl1 hb1 hne ⟨(fun x => nomatch x), fin⟩
theorem rc_tupB {l b : Addr} {items items2 : Array Value} {Q : Value → Shared → Prop} (hu : A.units < cLine) (I : Nat → Shared → Prop) (Fl : Shared → Prop)
    (hl : s.heap.IsTuple l items) (hb : s.heap.IsTuple b items2)
    (turn : ∀ i (h1 : i < items.size) (h2 : i < items2.size) s, I i s → wpAny (model prog w) A.in1 (eqBool items[i] items2[i]) (fun r s' => (r = true ∧ I (i + 1) s') ∨ (r = false ∧ Fl s')) E s)
    (fin : ∀ s, I (min items.size items2.size) s → Q (.bool (items.size == items2.size)) s) (finF : ∀ s, Fl s → Q (.bool false) s) (h : I 0 s) : wpAny (model prog w) A (richCompare .Eq (.ref l) (.ref b)) Q E s := by
  obtain ⟨⟨cls, dd, data, sl⟩, ho, hc, n, hd⟩ := id hl
  obtain ⟨⟨cls2, dd2, data2, sl2⟩, ho2, hc2, n2, hd2⟩ := id hb
  simp only at hc hd hc2 hd2
  subst hc hd hc2 hd2
  refine wpAny_richCompare_same_room (op := .Eq) ⟨_, ho, rfl⟩ ⟨_, ho2, rfl⟩ F.slot_tuple_eq (GQ.call_here F.slot_tuple_eq ⟨_, ho, rfl⟩ F.entry_tuple_eq (F.args_tuple_eq_2 _ _) ?_) hu
  exact tuple_eqB (R := wants (fun v s' => v ≠ .notImplemented ∧ Q v s') E) l b items items2 n n2 dd dd2 sl sl2 I Fl turn (fun s' q => ⟨(fun x => nomatch x), fin s' q⟩) (fun s' q => ⟨(fun x => nomatch x), finF s' q⟩) ho ho2 h
end
def scD : D → Option V
  | .non => some .non
  | .bl b => some (.bl b)
  | .int i => some (.int i)
  | .str x => some (.str x)
  | _ => none
mutual
/-- data that one object may stand for are alike so far -/
def simD : D → D → Bool
  | .non, .non => true
  | .bl a, .bl b => a == b
  | .int a, .int b => a == b
  | .str a, .str b => a == b
  | .tup xs, .tup ys => simL xs ys
  | .lst xs, .lst ys => simL xs ys
  | .obj _ fs, .obj _ gs => simF fs gs
  | .tup _, .lst _ => true
  | .lst _, .tup _ => true
  | .tup _, .obj _ _ => true
  | .obj _ _, .tup _ => true
  | .lst _, .obj _ _ => true
  | .obj _ _, .lst _ => true
  | _, _ => false
def simL : List D → List D → Bool
  | [], [] => true
  | a :: as, b :: bs => simD a b && simL as bs
  | _, _ => false
def simF : List (Nm × D) → List (Nm × D) → Bool
  | [], [] => true
  | (n, a) :: as, (m, b) :: bs => (n.s == m.s) && simD a b && simF as bs
  | _, _ => false
end
mutual
theorem rep_sim {X : Cx} {pins : List (Addr × Obj)} {σ : St} {G H : Hp} {s : Shared} (I : Inv X pins σ H s) (e : Ext G H) : ∀ {x : V} {a b : D}, Rep X.K G x a → Rep X.K G x b → simD a b = true
  | _, _, _, .non, r => by cases r; rfl
  | _, _, _, .bl b, r => by cases r; exact beq_self_eq_true b
  | _, _, _, .int b, r => by cases r; exact beq_self_eq_true b
  | _, _, _, .str b, r => by cases r; exact beq_self_eq_true b
  | _, _, _, .tup q rs, r => by
    cases r with
    | tup q' rs' =>
      cases I.tuple_inj (e.sqt q) (e.sqt q')
      exact reps_sim I e rs rs'
    | lst _ _ => rfl
    | obj _ _ _ => rfl
  | _, _, _, .lst q rs, r => by
    cases r with
    | tup _ _ => rfl
    | lst q' rs' =>
      have : ∀ {a : Addr} {u v : List V}, Rd G a (.lst u) → Rd G a (.lst v) → u = v := fun {a u v} h h' => by
        rcases h with h | ⟨o, h⟩ <;> rcases h' with h' | ⟨o', h'⟩ <;> (rw [h] at h'; cases h') <;> rfl
      cases this q q'
      exact reps_sim I e rs rs'
    | obj _ _ _ => rfl
  | _, _, _, .obj h k rf, r => by
    cases r with
    | tup _ _ => rfl
    | lst _ _ => rfl
    | obj h' k' rf' =>
      rw [h] at h'
      injection h' with h'
      injection h' with h1 h2 h3
      subst h3
      exact repf_sim I e rf rf'
theorem reps_sim {X : Cx} {pins : List (Addr × Obj)} {σ : St} {G H : Hp} {s : Shared} (I : Inv X pins σ H s) (e : Ext G H) : ∀ {vs : List V} {as bs : List D}, Reps X.K G vs as → Reps X.K G vs bs → simL as bs = true
  | _, _, _, .nil, r => by cases r; rfl
  | _, _, _, .cons r1 t1, r => by
    cases r with
    | cons r2 t2 => exact Bool.and_eq_true_iff.mpr ⟨rep_sim I e r1 r2, reps_sim I e t1 t2⟩
theorem repf_sim {X : Cx} {pins : List (Addr × Obj)} {σ : St} {G H : Hp} {s : Shared} (I : Inv X pins σ H s) (e : Ext G H) : ∀ {vs : List (Str × V)} {as bs : List (Nm × D)}, RepF X.K G vs as → RepF X.K G vs bs → simF as bs = true
  | _, _, _, .nil, r => by cases r; rfl
  | _, _, _, .cons (n := n) r1 t1, r => by
    generalize hv : ((n.s, _) :: _ : List (Str × V)) = vs at r
    cases r with
    | nil => cases hv
    | cons r2 t2 =>
      injection hv with h1 h2
      injection h1 with h3 h4
      subst h4
      subst h2
      refine Bool.and_eq_true_iff.mpr ⟨Bool.and_eq_true_iff.mpr ⟨?_, rep_sim I e r1 r2⟩, repf_sim I e t1 t2⟩
      rw [h3]
      exact beq_self_eq_true _
end
end PL
namespace PL
open PySem PySem.Spec L2
def resB : Res D → Res Bool
  | .ok (.bl r) => .ok r
  | _ => .stuck
def sameCl' (c : Cl) : D → Bool
  | .obj c' _ => decide (c' = c)
  | .tup _ => false
  | .lst _ => false
  | _ => true
/-- item by item -/
def eqAll (f : D → D → Res Bool) : List D → List D → Res Bool
  | [], [] => .ok true
  | x :: xs, y :: ys => f x y >>= fun r => if r = true then eqAll f xs ys else .ok false
  | _, _ => .ok false
def scW (a b : D) : Res Bool := match scD a, scD b with
  | some x, some y => .ok (eqV x y)
  | _, _ => .stuck
/-- == of two items within a list, a tuple; ps: the classes' own __eq__ -/
def eqW (ps : Cl → Option (List D → Res D)) : Nat → D → D → Res Bool
  | _, .obj c fs, b => ofOpt (ps c) >>= fun g => chk (sameCl' c b = true) (resB (g [.obj c fs, b]) >>= fun r => chk (simD (.obj c fs) b = true → r = true) (.ok r))
  | n + 1, .tup xs, .tup ys => eqAll (eqW ps n) xs ys
  | n + 1, .lst xs, .lst ys => if xs.length = ys.length then eqAll (eqW ps n) xs ys else .ok false
  | _, a, b => scW a b
theorem scW_ok {a b : D} {r : Bool} (e : scW a b = .ok r) : ∃ x y, scD a = some x ∧ scD b = some y ∧ r = eqV x y := by
  unfold scW at e
  cases ha : scD a with
  | none => rw [ha] at e; cases e
  | some x =>
    cases hb : scD b with
    | none => rw [ha, hb] at e; cases e
    | some y =>
      rw [ha, hb] at e
      cases e
      exact ⟨x, y, rfl, rfl, rfl⟩
theorem scW_fine (a b : D) (e : Err) : scW a b ≠ .exc e := by
  intro h
  unfold scW at h
  cases ha : scD a with
  | none => rw [ha] at h; cases h
  | some x => cases hb : scD b <;> (rw [ha, hb] at h; cases h)
theorem eqAll_sim {f : D → D → Res Bool} (hf : ∀ a b r, simD a b = true → f a b = .ok r → r = true) : ∀ {xs ys : List D} {r : Bool}, simL xs ys = true → eqAll f xs ys = .ok r → r = true
  | [], [], r, _, h => by cases h; rfl
  | x :: xs, y :: ys, r, h, e => by
    obtain ⟨h1, h2⟩ := Bool.and_eq_true_iff.mp h
    have e' : (f x y >>= fun r => if r = true then eqAll f xs ys else .ok false) = .ok r := e
    cases q : f x y with
    | ok r1 =>
      have z := hf x y r1 h1 q
      subst z
      rw [q, ok_bind, if_pos rfl] at e'
      exact eqAll_sim hf h2 e'
    | exc _ => rw [q] at e'; cases e'
    | stuck => rw [q] at e'; cases e'
  | [], _ :: _, _, h, _ => by cases h
  | _ :: _, [], _, h, _ => by cases h
theorem simL_len : ∀ {xs ys : List D}, simL xs ys = true → xs.length = ys.length
  | [], [], _ => rfl
  | _ :: _, _ :: _, h => congrArg (· + 1) (simL_len (Bool.and_eq_true_iff.mp h).2)
  | [], _ :: _, h => by cases h
  | _ :: _, [], h => by cases h
theorem eqW_obj {ps : Cl → Option (List D → Res D)} {n : Nat} {c : Cl} {fs : List (Nm × D)} {b : D} : eqW ps n (.obj c fs) b = (ofOpt (ps c) >>= fun g => chk (sameCl' c b = true) (resB (g [.obj c fs, b]) >>= fun r => chk (simD (.obj c fs) b = true → r = true) (.ok r))) := by
  cases n <;> rfl
theorem sc_sim {a b : D} {x y : V} (h : simD a b = true) (ha : scD a = some x) (hb : scD b = some y) : eqV x y = true := by
  cases a <;> cases ha <;> cases b <;> cases hb <;> first | exact h | (cases h; done) | rfl
theorem eqW_sc {ps : Cl → Option (List D → Res D)} {n : Nat} {a b : D} {r : Bool} (ho : ∀ c fs, a ≠ .obj c fs) (h1 : ∀ xs ys, a = .tup xs → b = .tup ys → False) (h2 : ∀ xs ys, a = .lst xs → b = .lst ys → False) (e : eqW ps n a b = .ok r) : ∃ x y, scD a = some x ∧ scD b = some y ∧ r = eqV x y := by
  have z : eqW ps n a b = scW a b := by
    cases a with
    | obj c fs => exact absurd rfl (ho c fs)
    | tup xs =>
      cases b with
      | tup ys => exact (h1 xs ys rfl rfl).elim
      | _ => cases n <;> rfl
    | lst xs =>
      cases b with
      | lst ys => exact (h2 xs ys rfl rfl).elim
      | _ => cases n <;> rfl
    | _ => cases b <;> cases n <;> rfl
  rw [z] at e
  exact scW_ok e
theorem eqW_objs {ps : Cl → Option (List D → Res D)} {n : Nat} {c : Cl} {fs : List (Nm × D)} {b : D} {r : Bool} (e : eqW ps n (.obj c fs) b = .ok r) : ∃ g, ps c = some g ∧ sameCl' c b = true ∧ g [.obj c fs, b] = .ok (.bl r) ∧ (simD (.obj c fs) b = true → r = true) := by
  rw [eqW_obj] at e
  cases hg : ps c with
  | none => rw [hg] at e; cases e
  | some g =>
    rw [hg, ofOpt_some, ok_bind] at e
    unfold chk at e
    by_cases z : sameCl' c b = true
    · rw [if_pos z] at e
      cases q : g [.obj c fs, b] with
      | ok d =>
        rw [q] at e
        cases d with
        | bl k =>
          have e' : (if simD (.obj c fs) b = true → k = true then Res.ok k else Res.stuck) = .ok r := e
          by_cases y : simD (.obj c fs) b = true → k = true
          · rw [if_pos y] at e'
            cases e'
            exact ⟨g, rfl, z, q, y⟩
          · rw [if_neg y] at e'
            cases e'
        | _ => cases e
      | exc _ => rw [q] at e; cases e
      | stuck => rw [q] at e; cases e
    · rw [if_neg z] at e
      cases e
theorem eqW_sim {ps : Cl → Option (List D → Res D)} : ∀ (n : Nat) (a b : D) (r : Bool), simD a b = true → eqW ps n a b = .ok r → r = true := by
  intro n
  induction n with
  | zero =>
    intro a b r h e
    by_cases ho : ∃ c fs, a = .obj c fs
    · obtain ⟨c, fs, rfl⟩ := ho
      obtain ⟨g, _, _, _, z⟩ := eqW_objs e
      exact z h
    · have e2 : eqW ps 0 a b = scW a b := by
        cases a with
        | obj c fs => exact absurd ⟨c, fs, rfl⟩ ho
        | _ => rfl
      rw [e2] at e
      obtain ⟨x, y, ha, hb, rfl⟩ := scW_ok e
      exact sc_sim h ha hb
  | succ n ih =>
    intro a b r h e
    by_cases ho : ∃ c fs, a = .obj c fs
    · obtain ⟨c, fs, rfl⟩ := ho
      obtain ⟨g, _, _, _, z⟩ := eqW_objs e
      exact z h
    by_cases ht : ∃ xs ys, a = .tup xs ∧ b = .tup ys
    · obtain ⟨xs, ys, rfl, rfl⟩ := ht
      exact eqAll_sim ih h e
    by_cases hl : ∃ xs ys, a = .lst xs ∧ b = .lst ys
    · obtain ⟨xs, ys, rfl, rfl⟩ := hl
      have e' : (if xs.length = ys.length then eqAll (eqW ps n) xs ys else .ok false) = .ok r := e
      rw [if_pos (simL_len h)] at e'
      exact eqAll_sim ih h e'
    obtain ⟨x, y, ha, hb, rfl⟩ := eqW_sc (fun c fs z => ho ⟨c, fs, z⟩) (fun xs ys z1 z2 => ht ⟨xs, ys, z1, z2⟩) (fun xs ys z1 z2 => hl ⟨xs, ys, z1, z2⟩) e
    exact sc_sim h ha hb
/-- == of two different things inside a builtin, by their rich comparison -/
theorem eqBool_ne {prog : Program} {w : World} {A : Around} {E : Value → Shared → Prop} {s : Shared} {a : Addr} {u : Value} {Q : Bool → Shared → Prop} (hne : Value.ref a ≠ u) (h : wpAny (model prog w) A (richCompare .Eq (.ref a) u) (fun v s' => ∃ r, v = .bool r ∧ Q r s') E s) : wpAny (model prog w) A (eqBool (.ref a) u) Q E s := by
  unfold eqBool
  refine wpAny_holding ?_
  refine wpAny_ite_split (fun hab => absurd (eq_of_beq hab) hne) (fun _ => ?_)
  refine wpAny_bind (wpAny_mono h (fun v s' hv => ?_) fun _ _ x => x)
  obtain ⟨r, rfl, q⟩ := hv
  exact wpAny_truthy_bool q
theorem scD_rep {K : PySem.W.Frag} {G : Hp} {x y : V} {a : D} (r : Rep K G x a) (h : scD a = some y) : x = y ∧ flatV x = true := by
  cases r <;> cases h <;> exact ⟨rfl, rfl⟩
section
variable {X : Cx} {W : WX} {k : Nat} {ps : Cl → Option (List D → Res D)}
/-- by the class's own __eq__, wherever there is room -/
theorem rcOwn (hp : ∀ c g, ps c = some g → CmpF (tkOf X) k .Eq c g) (tk : Takes X W) {A : Around} (hA : A.frames = X.A.frames) (hr : Room k A) {pins : List (Addr × Obj)} {s : Shared} {σ : St} {G H : Hp} {x y : V} {v u : Value} {c : Cl} {fs : List (Nm × D)} {b : D} {r : Bool}
    (I : Inv X pins σ H s) (rx : RelV x v) (ry : RelV y u) (e : Ext G H) (ra : Rep X.K G x (.obj c fs)) (rb : Rep X.K G y b) {g : List D → Res D} (hg : ps c = some g) (sc : sameCl' c b = true) (q : g [.obj c fs, b] = .ok (.bl r)) :
    wpAny (model X.prog X.w) A (richCompare .Eq v u) (fun z s' => ∃ r', z = .bool r' ∧ r' = r ∧ ∃ G' H', Inv X pins σ H' s' ∧ Grow G H G' H') X.xe s := by
  obtain ⟨f, hs, hf, F⟩ := (hp c g hg).ex
  obtain ⟨a, dx, od, rfl, J, at_, _⟩ := ins_obj (K := X.K) (d := b) I e ra
  obtain rfl : v = Value.ref a := rx
  obtain ⟨m, hF⟩ := I.fr
  have hn : PySem.W.notFirst X.K (ca X.K c) (tyV X.K b) = true := by
    unfold PySem.W.notFirst
    cases b with
    | obj c' gs =>
      have z : c' = c := of_decide_eq_true sc
      subst z
      exact Bool.or_eq_true_iff.mpr (.inl (beq_iff_eq.mpr rfl))
    | _ => exact Bool.or_eq_true_iff.mpr (.inr (beq_iff_eq.mpr (tyV_blind fun c fs z => nomatch z)))
  refine PySem.W.cmp_K (op := .Eq) hr.units0 hF I.ok.mod.kin J (looks_ty I e rb ry) hn hs hf ?_
  have e0 : Env0 X.prog X.w X.K X.mg X.base A X.stack s H := by
    have e := I.env0
    exact ⟨by rw [hA]; exact e.frames, e.mod, e.bs, e.bsz, e.funs, e.frf, e.hok, e.bare⟩
  refine wpAny_call (codeAny_mono (F.go (A := A) (us := [.ref a, u]) (vs := [.ref a, y]) (Q := fun z H' => z = .bl r ∧ ∃ G', Grow G H G' H') tk hr e0 I (.cons rfl (.cons ry .nil)) rfl e (.cons ra (.cons rb .nil)) ?_) fun r' s' z => ?_)
  · rw [q]
    intro G' z H' gr rz
    cases rz
    exact ⟨rfl, G', gr⟩
  · cases r' with
    | error e => exact z
    | ok fl =>
      cases fl with
      | ret z' =>
        obtain ⟨w, H', I', rw', rfl, G', gr⟩ := z
        cases rw'
        exact ⟨r, rfl, rfl, G', H', I', gr⟩
      | next => exact False.elim z
      | brk => exact False.elim z
      | cont => exact False.elim z
/-- == of two items at depth n -/
def EqN (X : Cx) (ps : Cl → Option (List D → Res D)) (k n : Nat) : Prop :=
  ∀ (A : Around) (pins : List (Addr × Obj)) (s : Shared) (σ : St) (G H : Hp) (x y : V) (v u : Value) (a b : D) (r : Bool), A.frames = X.A.frames → Room (k + n) A → Inv X pins σ H s → RelV x v → RelV y u → Ext G H → Rep X.K G x a → Rep X.K G y b → eqW ps n a b = .ok r →
    wpAny (model X.prog X.w) A (eqBool v u) (fun r' s' => r' = r ∧ ∃ G' H', Inv X pins σ H' s' ∧ Grow G H G' H') X.xe s
theorem eqAll_step {f : D → D → Res Bool} {xs ys : List D} {i : Nat} {r : Bool} (h1 : i < xs.length) (h2 : i < ys.length) (e : eqAll f (xs.drop i) (ys.drop i) = .ok r) :
    f xs[i] ys[i] = .ok true ∧ eqAll f (xs.drop (i + 1)) (ys.drop (i + 1)) = .ok r ∨ f xs[i] ys[i] = .ok false ∧ r = false := by
  rw [List.drop_eq_getElem_cons h1, List.drop_eq_getElem_cons h2] at e
  have e' : (f xs[i] ys[i] >>= fun r => if r = true then eqAll f (xs.drop (i + 1)) (ys.drop (i + 1)) else .ok false) = .ok r := e
  cases q : f xs[i] ys[i] with
  | ok r1 =>
    rw [q, ok_bind] at e'
    cases r1 with
    | true => exact .inl ⟨rfl, e'⟩
    | false =>
      cases e'
      exact .inr ⟨rfl, rfl⟩
  | exc _ => rw [q] at e'; cases e'
  | stuck => rw [q] at e'; cases e'
theorem eqAll_end {f : D → D → Res Bool} {xs ys : List D} {r : Bool} (e : eqAll f (xs.drop (min xs.length ys.length)) (ys.drop (min xs.length ys.length)) = .ok r) : r = (xs.length == ys.length) := by
  rcases Nat.lt_trichotomy xs.length ys.length with h | h | h
  · have hm : min xs.length ys.length = xs.length := by omega
    rw [hm, List.drop_length, List.drop_eq_getElem_cons h] at e
    cases e
    exact (beq_eq_false_iff_ne.mpr (by omega)).symm
  · have hm : min xs.length ys.length = xs.length := by omega
    rw [hm, List.drop_length, h, List.drop_length] at e
    cases e
    rw [h]
    exact (beq_self_eq_true _).symm
  · have hm : min xs.length ys.length = ys.length := by omega
    rw [hm, List.drop_length, List.drop_eq_getElem_cons h] at e
    cases e
    exact (beq_eq_false_iff_ne.mpr (by omega)).symm
/-- one turn of the walk over the items -/
theorem turnW {n : Nat} (ih : EqN X ps k n) {A : Around} (hA : A.frames = X.A.frames) (hr : Room (k + n) A) {pins : List (Addr × Obj)} {s' : Shared} {σ : St} {G H : Hp} {vs ws : List V} {xs ys : List D} {its its2 : List Value} {r : Bool} (q1 : Reps X.K G vs xs) (q2 : Reps X.K G ws ys) (r1 : Vals vs its) (r2 : Vals ws its2)
    {i : Nat} (h1 : i < its.toArray.size) (h2 : i < its2.toArray.size) (z : ∃ G' H', Inv X pins σ H' s' ∧ Grow G H G' H' ∧ eqAll (eqW ps n) (xs.drop i) (ys.drop i) = .ok r) :
    wpAny (model X.prog X.w) A (eqBool its.toArray[i] its2.toArray[i]) (fun r' s' => (r' = true ∧ ∃ G' H', Inv X pins σ H' s' ∧ Grow G H G' H' ∧ eqAll (eqW ps n) (xs.drop (i + 1)) (ys.drop (i + 1)) = .ok r) ∨ (r' = false ∧ (∃ G' H', Inv X pins σ H' s' ∧ Grow G H G' H' ∧ eqAll (eqW ps n) (xs.drop i) (ys.drop i) = .ok r) ∧ r = false ∧ ∃ G' H', Inv X pins σ H' s' ∧ Grow G H G' H')) X.xe s' := by
  obtain ⟨G1, H1, I1, gr, e1⟩ := z
  have g1 : its[i]? = some its.toArray[i] := by
    have h1' : i < its.length := by simpa using h1
    rw [List.getElem?_eq_getElem h1'] <;> simp
  have g2 : its2[i]? = some its2.toArray[i] := by
    have h2' : i < its2.length := by simpa using h2
    rw [List.getElem?_eq_getElem h2'] <;> simp
  have k1 : i < vs.length := by rw [r1.length]; simpa using h1
  have k2 : i < ws.length := by rw [r2.length]; simpa using h2
  have j1 : i < xs.length := by rw [← q1.length]; exact k1
  have j2 : i < ys.length := by rw [← q2.length]; exact k2
  obtain ⟨u, hu, ru⟩ := r1.get (List.getElem?_eq_getElem k1)
  obtain ⟨v, hv, rv⟩ := r2.get (List.getElem?_eq_getElem k2)
  rw [g1] at hu
  rw [g2] at hv
  obtain ⟨a, ha, ra⟩ := q1.get (List.getElem?_eq_getElem k1)
  obtain ⟨b, hb, rb⟩ := q2.get (List.getElem?_eq_getElem k2)
  rw [List.getElem?_eq_getElem j1] at ha
  rw [List.getElem?_eq_getElem j2] at hb
  cases ha
  cases hb
  rw [Option.some.inj hu, Option.some.inj hv]
  rcases eqAll_step j1 j2 e1 with ⟨e2, e3⟩ | ⟨e2, e3⟩
  · refine wpAny_mono (ih A pins s' σ G1 H1 _ _ u v _ _ _ hA hr I1 ru rv gr.sub (ra.mono gr.g) (rb.mono gr.g) e2) (fun r' s2 q => ?_) fun _ _ x => x
    obtain ⟨hr', G2, H2, I2, gr2⟩ := q
    exact .inl ⟨hr', G2, H2, I2, gr.trans gr2, e3⟩
  · refine wpAny_mono (ih A pins s' σ G1 H1 _ _ u v _ _ _ hA hr I1 ru rv gr.sub (ra.mono gr.g) (rb.mono gr.g) e2) (fun r' s2 q => ?_) fun _ _ x => x
    obtain ⟨hr', G2, H2, I2, gr2⟩ := q
    exact .inr ⟨hr', ⟨G2, H2, I2, gr.trans gr2, e1⟩, e3, G2, H2, I2, gr.trans gr2⟩
theorem rcTup {n : Nat} (ih : EqN X ps k n) {A : Around} (hA : A.frames = X.A.frames) (hr : Room (k + (n + 1)) A) {pins : List (Addr × Obj)} {s : Shared} {σ : St} {G H : Hp} {a1 a2 : Addr} {xs ys : List D} {r : Bool}
    (I : Inv X pins σ H s) (e : Ext G H) (ra : Rep X.K G (.ref a1) (.tup xs)) (rb : Rep X.K G (.ref a2) (.tup ys)) (q : eqAll (eqW ps n) xs ys = .ok r) :
    wpAny (model X.prog X.w) A (richCompare .Eq (.ref a1) (.ref a2)) (fun z s' => ∃ r', z = .bool r' ∧ r' = r ∧ ∃ G' H', Inv X pins σ H' s' ∧ Grow G H G' H') X.xe s := by
  cases ra with
  | tup p1 q1 =>
    cases rb with
    | tup p2 q2 =>
      obtain ⟨its, r1, e1, z1⟩ := I.tuple (e.sqt p1)
      obtain ⟨its2, r2, e2, z2⟩ := I.tuple (e.sqt p2)
      have l1 : its.toArray.size = xs.length := by rw [List.size_toArray, ← r1.length, q1.length]
      have l2 : its2.toArray.size = ys.length := by rw [List.size_toArray, ← r2.length, q2.length]
      refine rc_tupB hr.units0 (fun i s' => ∃ G' H', Inv X pins σ H' s' ∧ Grow G H G' H' ∧ eqAll (eqW ps n) (xs.drop i) (ys.drop i) = .ok r) (fun s' => r = false ∧ ∃ G' H', Inv X pins σ H' s' ∧ Grow G H G' H') e1 e2 (fun i h1 h2 s' z => ?_) (fun s' z => ?_) (fun s' z => ?_) ⟨G, H, I, Grow.refl e, q⟩
      · refine wpAny_mono (turnW ih (A := A.in1) hA hr.in1 q1 q2 r1 r2 h1 h2 z) (fun r' s2 w => ?_) fun _ _ x => x
        rcases w with w | ⟨w1, w2, w3⟩
        · exact .inl w
        · exact .inr ⟨w1, w3⟩
      · obtain ⟨G', H', I', gr, e3⟩ := z
        rw [l1, l2] at e3 ⊢
        exact ⟨_, rfl, (eqAll_end e3).symm, G', H', I', gr⟩
      · obtain ⟨z1, G', H', I', gr⟩ := z
        exact ⟨_, rfl, z1.symm, G', H', I', gr⟩
theorem rcLst {n : Nat} (ih : EqN X ps k n) {A : Around} (hA : A.frames = X.A.frames) (hr : Room (k + (n + 1)) A) {pins : List (Addr × Obj)} {s : Shared} {σ : St} {G H : Hp} {a1 a2 : Addr} {xs ys : List D} {r : Bool}
    (I : Inv X pins σ H s) (e : Ext G H) (ra : Rep X.K G (.ref a1) (.lst xs)) (rb : Rep X.K G (.ref a2) (.lst ys)) (q : (if xs.length = ys.length then eqAll (eqW ps n) xs ys else .ok false) = .ok r) :
    wpAny (model X.prog X.w) A (richCompare .Eq (.ref a1) (.ref a2)) (fun z s' => ∃ r', z = .bool r' ∧ r' = r ∧ ∃ G' H', Inv X pins σ H' s' ∧ Grow G H G' H') X.xe s := by
  cases ra with
  | lst p1 q1 =>
    cases rb with
    | lst p2 q2 =>
      rename_i vs ws
      have get : ∀ {H' : Hp} {s' : Shared}, Inv X pins σ H' s' → Ext G H' → ∃ its its2 n1 n2 sl1 sl2, Vals vs its ∧ Vals ws its2 ∧ s'.heap.get? a1 = some { cls := .type "list", data := .seq its.toArray n1, slots := sl1 } ∧ s'.heap.get? a2 = some { cls := .type "list", data := .seq its2.toArray n2, slots := sl2 } := fun I' e' => by
        obtain ⟨its, r1, ⟨⟨cls, dd, data, sl⟩, n1, h1, h2, h3, h4⟩, _⟩ := I'.list (.inl (e'.rd p1))
        obtain ⟨its2, r2, ⟨⟨cls2, dd2, data2, sl2⟩, n2, k1, k2, k3, k4⟩, _⟩ := I'.list (.inl (e'.rd p2))
        simp only at h2 h3 h4 k2 k3 k4
        subst h2 h3 h4 k2 k3 k4
        exact ⟨its, its2, n1, n2, sl, sl2, r1, r2, h1, k1⟩
      by_cases hl : xs.length = ys.length
      · rw [if_pos hl] at q
        refine rc_listB (N := xs.length) hr.units0 (fun i s' => ∃ G' H', Inv X pins σ H' s' ∧ Grow G H G' H' ∧ eqAll (eqW ps n) (xs.drop i) (ys.drop i) = .ok r) (fun s' => r = false ∧ ∃ G' H', Inv X pins σ H' s' ∧ Grow G H G' H') (fun i s' z => ?_) (fun s' z => ?_) (fun s' z => ?_) ⟨G, H, I, Grow.refl e, q⟩
        · obtain ⟨G', H', I', gr, e3⟩ := id z
          obtain ⟨its, its2, n1, n2, sl1, sl2, r1, r2, h1, h2⟩ := get I' (gr.g.trans gr.sub)
          exact ⟨its.toArray, its2.toArray, n1, n2, sl1, sl2, h1, h2, by rw [List.size_toArray, ← r1.length, q1.length], by rw [List.size_toArray, ← r2.length, q2.length, hl], fun k1 k2 => turnW ih (A := A.in1) hA hr.in1 q1 q2 r1 r2 k1 k2 z⟩
        · obtain ⟨G', H', I', gr, e3⟩ := z
          have hm : xs.length = min xs.length ys.length := by omega
          rw [hm] at e3
          have e4 := eqAll_end e3
          rw [hl, beq_self_eq_true] at e4
          exact ⟨_, rfl, e4.symm, G', H', I', gr⟩
        · obtain ⟨z1, G', H', I', gr⟩ := z
          exact ⟨_, rfl, z1.symm, G', H', I', gr⟩
      · rw [if_neg hl] at q
        cases q
        obtain ⟨its, its2, n1, n2, sl1, sl2, r1, r2, h1, h2⟩ := get I e
        exact rc_listLen hr.units0 h1 h2 (by rw [List.size_toArray, List.size_toArray, ← r1.length, ← r2.length, q1.length, q2.length]; exact hl) ⟨_, rfl, rfl, G, H, I, Grow.refl e⟩
theorem relv_ref {y : V} {a : Addr} (h : RelV y (.ref a)) : y = .ref a := by
  cases y with
  | ref b => cases h; rfl
  | non => cases h
  | bl b => cases h
  | int b => obtain ⟨t, h⟩ := h; cases h
  | str b => obtain ⟨t, h⟩ := h; cases h
  | _ => first | (cases h; done) | (obtain ⟨t, h⟩ := h; cases h; done)
/-- the same object, or the comparison -/
theorem eqRef {n : Nat} {A : Around} {pins : List (Addr × Obj)} {s : Shared} {σ : St} {G H : Hp} {p : Addr} {y : V} {u : Value} {a b : D} {r : Bool} (I : Inv X pins σ H s) (ry : RelV y u) (e : Ext G H) (ra : Rep X.K G (.ref p) a) (rb : Rep X.K G y b) (q : eqW ps n a b = .ok r)
    (h : wpAny (model X.prog X.w) A (richCompare .Eq (.ref p) u) (fun z s' => ∃ r', z = .bool r' ∧ r' = r ∧ ∃ G' H', Inv X pins σ H' s' ∧ Grow G H G' H') X.xe s) :
    wpAny (model X.prog X.w) A (eqBool (.ref p) u) (fun r' s' => r' = r ∧ ∃ G' H', Inv X pins σ H' s' ∧ Grow G H G' H') X.xe s := by
  by_cases z : Value.ref p = u
  · subst z
    obtain rfl := relv_ref ry
    have hs := eqW_sim n a b r (rep_sim I e ra rb) q
    exact SeqAt.EqAt.same (A := A) (s := s) (.ref p) X.prog X.w X.xe _ ⟨hs.symm, G, H, I, Grow.refl e⟩
  · exact eqBool_ne z h
theorem eqN_ok (hp : ∀ c g, ps c = some g → CmpF (tkOf X) k .Eq c g) (tk : Takes X W) : ∀ n, EqN X ps k n := by
  have own : ∀ {n : Nat} {A : Around} {pins : List (Addr × Obj)} {s : Shared} {σ : St} {G H : Hp} {x y : V} {v u : Value} {c : Cl} {fs : List (Nm × D)} {b : D} {r : Bool}, A.frames = X.A.frames → Room (k + n) A → Inv X pins σ H s → RelV x v → RelV y u → Ext G H → Rep X.K G x (.obj c fs) → Rep X.K G y b → eqW ps n (.obj c fs) b = .ok r →
      wpAny (model X.prog X.w) A (eqBool v u) (fun r' s' => r' = r ∧ ∃ G' H', Inv X pins σ H' s' ∧ Grow G H G' H') X.xe s := by
    intro n A pins s σ G H x y v u c fs b r hA hr I rx ry e ra rb q
    obtain ⟨g, hg, sc, hq, _⟩ := eqW_objs q
    obtain ⟨p, dx, od, rfl, J, at_, _⟩ := ins_obj (K := X.K) (d := b) I e ra
    obtain rfl : v = Value.ref p := rx
    exact eqRef I ry e ra rb q (rcOwn hp tk hA (hr.mono (by omega)) I (show RelV (.ref p) (Value.ref p) from rfl) ry e ra rb hg sc hq)
  have sca : ∀ {A : Around} {pins : List (Addr × Obj)} {s : Shared} {σ : St} {G H : Hp} {x y : V} {v u : Value} {a b : D} {r : Bool} {p q : V}, Inv X pins σ H s → RelV x v → RelV y u → Ext G H → Rep X.K G x a → Rep X.K G y b → scD a = some p → scD b = some q → r = eqV p q →
      wpAny (model X.prog X.w) A (eqBool v u) (fun r' s' => r' = r ∧ ∃ G' H', Inv X pins σ H' s' ∧ Grow G H G' H') X.xe s := by
    intro A pins s σ G H x y v u a b r p q I rx ry e ra rb ha hb hr
    obtain ⟨rfl, f1⟩ := scD_rep ra ha
    obtain ⟨rfl, f2⟩ := scD_rep rb hb
    exact eqAt_V (A := A) (s := s) rx ry f1 f2 X.prog X.w X.xe _ ⟨hr.symm, G, H, I, Grow.refl e⟩
  intro n
  induction n with
  | zero =>
    intro A pins s σ G H x y v u a b r hA hr I rx ry e ra rb q
    by_cases ho : ∃ c fs, a = .obj c fs
    · obtain ⟨c, fs, rfl⟩ := ho
      exact own hA hr I rx ry e ra rb q
    · have e2 : eqW ps 0 a b = scW a b := by
        cases a with
        | obj c fs => exact absurd ⟨c, fs, rfl⟩ ho
        | _ => rfl
      rw [e2] at q
      obtain ⟨x', y', ha, hb, hz⟩ := scW_ok q
      exact sca I rx ry e ra rb ha hb hz
  | succ n ih =>
    intro A pins s σ G H x y v u a b r hA hr I rx ry e ra rb q
    by_cases ho : ∃ c fs, a = .obj c fs
    · obtain ⟨c, fs, rfl⟩ := ho
      exact own hA hr I rx ry e ra rb q
    by_cases ht : ∃ xs ys, a = .tup xs ∧ b = .tup ys
    · obtain ⟨xs, ys, rfl, rfl⟩ := ht
      obtain ⟨p, rfl⟩ : ∃ p, x = .ref p := by cases ra; exact ⟨_, rfl⟩
      obtain ⟨p2, rfl⟩ : ∃ p, y = .ref p := by cases rb; exact ⟨_, rfl⟩
      obtain rfl : v = Value.ref p := rx
      obtain rfl : u = Value.ref p2 := ry
      exact eqRef I (show RelV (.ref p2) (Value.ref p2) from rfl) e ra rb q (rcTup ih hA hr I e ra rb q)
    by_cases hl : ∃ xs ys, a = .lst xs ∧ b = .lst ys
    · obtain ⟨xs, ys, rfl, rfl⟩ := hl
      obtain ⟨p, rfl⟩ : ∃ p, x = .ref p := by cases ra; exact ⟨_, rfl⟩
      obtain ⟨p2, rfl⟩ : ∃ p, y = .ref p := by cases rb; exact ⟨_, rfl⟩
      obtain rfl : v = Value.ref p := rx
      obtain rfl : u = Value.ref p2 := ry
      exact eqRef I (show RelV (.ref p2) (Value.ref p2) from rfl) e ra rb q (rcLst ih hA hr I e ra rb q)
    obtain ⟨x', y', ha, hb, hz⟩ := eqW_sc (fun c fs z => ho ⟨c, fs, z⟩) (fun xs ys z1 z2 => ht ⟨xs, ys, z1, z2⟩) (fun xs ys z1 z2 => hl ⟨xs, ys, z1, z2⟩) q
    exact sca I rx ry e ra rb ha hb hz
/-- == of lists and tuples that hold instances -/
def deepD (base : D → D → Res D) (ps : Cl → Option (List D → Res D)) (n : Nat) : D → D → Res D
  | .tup xs, .tup ys => if flat (.tup xs) && flat (.tup ys) then base (.tup xs) (.tup ys) else eqAll (eqW ps n) xs ys >>= fun r => .ok (.bl r)
  | .lst xs, .lst ys => if flat (.lst xs) && flat (.lst ys) then base (.lst xs) (.lst ys) else (if xs.length = ys.length then eqAll (eqW ps n) xs ys else .ok false) >>= fun r => .ok (.bl r)
  | a, b => base a b
theorem eqAll_fine {f : D → D → Res Bool} (hf : ∀ a b e, f a b ≠ .exc e) : ∀ {xs ys : List D} {e : Err}, eqAll f xs ys ≠ .exc e
  | [], [], _, h => by cases h
  | x :: xs, y :: ys, e, h => by
    have e' : (f x y >>= fun r => if r = true then eqAll f xs ys else .ok false) = .exc e := h
    cases q : f x y with
    | ok r =>
      rw [q, ok_bind] at e'
      cases r with
      | true => exact eqAll_fine hf e'
      | false => cases e'
    | exc _ => exact hf _ _ _ q
    | stuck => rw [q] at e'; cases e'
  | [], _ :: _, _, h => by cases h
  | _ :: _, [], _, h => by cases h
theorem eqW_fine : ∀ (n : Nat) (a b : D) (e : Err), eqW ps n a b ≠ .exc e := by
  have own : ∀ (n : Nat) (c : Cl) (fs : List (Nm × D)) (b : D) (e : Err), eqW ps n (.obj c fs) b ≠ .exc e := by
    intro n c fs b e h
    rw [eqW_obj] at h
    cases hg : ps c with
    | none => rw [hg] at h; cases h
    | some g =>
      rw [hg, ofOpt_some, ok_bind] at h
      unfold chk at h
      by_cases z : sameCl' c b = true
      · rw [if_pos z] at h
        cases q : g [.obj c fs, b] with
        | ok d =>
          rw [q] at h
          cases d with
          | bl k =>
            have e' : (if simD (.obj c fs) b = true → k = true then Res.ok k else Res.stuck) = .exc e := h
            split at e' <;> cases e'
          | _ => cases h
        | exc _ => rw [q] at h; cases h
        | stuck => rw [q] at h; cases h
      · rw [if_neg z] at h
        cases h
  have sca := scW_fine
  intro n
  induction n with
  | zero =>
    intro a b e h
    cases a with
    | obj c fs => exact own _ _ _ _ _ h
    | _ => exact sca _ _ _ h
  | succ n ih =>
    intro a b e h
    cases a with
    | obj c fs => exact own _ _ _ _ _ h
    | tup xs =>
      cases b with
      | tup ys => exact eqAll_fine ih h
      | _ => exact sca _ _ _ h
    | lst xs =>
      cases b with
      | lst ys =>
        have e' : (if xs.length = ys.length then eqAll (eqW ps n) xs ys else .ok false) = .exc e := h
        split at e'
        · exact eqAll_fine ih e'
        · cases e'
      | _ => exact sca _ _ _ h
    | _ => cases b <;> exact sca _ _ _ h
theorem op_deepD {n : Nat} {base : D → D → Res D} (hp : ∀ c g, ps c = some g → CmpF (tkOf X) k .Eq c g) (hb : OpM X W (compareOp .Eq) base) (tk : Takes X W) (hr : Room (k + (n + 1)) X.A) : OpM X W (compareOp .Eq) (deepD base ps n) := by
  intro pins s σ G H x y v u a b Q I rx ry e ra rb q
  have fin : ∀ r : Bool, RG (Rep X.K) X.K (fun c d H' => W c d σ H') G H Q (.ok (.bl r)) → ∀ z s', (∃ r', z = Value.bool r' ∧ r' = r ∧ ∃ G' H', Inv X pins σ H' s' ∧ Grow G H G' H') → EP X pins σ Q z s' := by
    rintro r q z s' ⟨r', rfl, rfl, G', H', I', gr⟩
    exact ⟨.bl r', H', I', rfl, q G' _ H' gr (.bl r')⟩
  by_cases ht : ∃ xs ys, a = .tup xs ∧ b = .tup ys
  · obtain ⟨xs, ys, rfl, rfl⟩ := ht
    by_cases hf : (flat (.tup xs) && flat (.tup ys)) = true
    · have z : deepD base ps n (.tup xs) (.tup ys) = base (.tup xs) (.tup ys) := if_pos hf
      rw [z] at q
      exact hb pins s σ G H x y v u _ _ Q I rx ry e ra rb q
    · have z : deepD base ps n (.tup xs) (.tup ys) = (eqAll (eqW ps n) xs ys >>= fun r => .ok (.bl r)) := if_neg hf
      rw [z] at q
      obtain ⟨p, rfl⟩ : ∃ p, x = .ref p := by cases ra; exact ⟨_, rfl⟩
      obtain ⟨p2, rfl⟩ : ∃ p, y = .ref p := by cases rb; exact ⟨_, rfl⟩
      obtain rfl : v = Value.ref p := rx
      obtain rfl : u = Value.ref p2 := ry
      cases w : eqAll (eqW ps n) xs ys with
      | ok r =>
        rw [w, ok_bind] at q
        show wpAny (model X.prog X.w) X.A (richCompare .Eq _ _) _ X.xe s
        exact wpAny_mono (rcTup (eqN_ok hp tk n) rfl hr I e ra rb w) (fin r q) fun _ _ x => x
      | exc er => exact absurd w (eqAll_fine (eqW_fine n))
      | stuck => rw [w] at q; exact q.elim
  by_cases hl : ∃ xs ys, a = .lst xs ∧ b = .lst ys
  · obtain ⟨xs, ys, rfl, rfl⟩ := hl
    by_cases hf : (flat (.lst xs) && flat (.lst ys)) = true
    · have z : deepD base ps n (.lst xs) (.lst ys) = base (.lst xs) (.lst ys) := if_pos hf
      rw [z] at q
      exact hb pins s σ G H x y v u _ _ Q I rx ry e ra rb q
    · have z : deepD base ps n (.lst xs) (.lst ys) = ((if xs.length = ys.length then eqAll (eqW ps n) xs ys else .ok false) >>= fun r => .ok (.bl r)) := if_neg hf
      rw [z] at q
      obtain ⟨p, rfl⟩ : ∃ p, x = .ref p := by cases ra; exact ⟨_, rfl⟩
      obtain ⟨p2, rfl⟩ : ∃ p, y = .ref p := by cases rb; exact ⟨_, rfl⟩
      obtain rfl : v = Value.ref p := rx
      obtain rfl : u = Value.ref p2 := ry
      cases w : (if xs.length = ys.length then eqAll (eqW ps n) xs ys else .ok false) with
      | ok r =>
        rw [w, ok_bind] at q
        show wpAny (model X.prog X.w) X.A (richCompare .Eq _ _) _ X.xe s
        exact wpAny_mono (rcLst (eqN_ok hp tk n) rfl hr I e ra rb w) (fin r q) fun _ _ x => x
      | exc er =>
        split at w
        · exact absurd w (eqAll_fine (eqW_fine n))
        · cases w
      | stuck => rw [w] at q; exact q.elim
  · have z : deepD base ps n a b = base a b := by
      cases a with
      | tup xs =>
        cases b with
        | tup ys => exact absurd ⟨xs, ys, rfl, rfl⟩ ht
        | _ => rfl
      | lst xs =>
        cases b with
        | lst ys => exact absurd ⟨xs, ys, rfl, rfl⟩ hl
        | _ => rfl
      | _ => cases b <;> rfl
    rw [z] at q
    exact hb pins s σ G H x y v u _ _ Q I rx ry e ra rb q
end
end PL
namespace PL
open PySem PySem.Spec L2
theorem eqAll_map {α : Type} [DecidableEq α] {f : D → D → Res Bool} {g : α → D} (h : ∀ x y, f (g x) (g y) = .ok (decide (x = y))) : ∀ xs ys : List α, eqAll f (xs.map g) (ys.map g) = .ok (decide (xs = ys))
  | [], [] => rfl
  | x :: xs, y :: ys => by
    show (f (g x) (g y) >>= fun r => if r = true then eqAll f (xs.map g) (ys.map g) else .ok false) = _
    rw [h, ok_bind]
    by_cases e : x = y
    · rw [if_pos (decide_eq_true e), eqAll_map h xs ys]
      congr 1
      by_cases e2 : xs = ys
      · rw [decide_eq_true e2, decide_eq_true (by rw [e, e2])]
      · rw [decide_eq_false e2, decide_eq_false (fun z => e2 (List.cons.inj z).2)]
    · rw [decide_eq_false e, if_neg (by decide), decide_eq_false (fun z => e (List.cons.inj z).1)]
  | [], _ :: _ => rfl
  | _ :: _, [] => rfl
section
variable {ps : Cl → Option (List D → Res D)} {n : Nat}
theorem eqW_tup {xs ys : List D} : eqW ps (n + 1) (.tup xs) (.tup ys) = eqAll (eqW ps n) xs ys := rfl
theorem eqW_lst {xs ys : List D} : eqW ps (n + 1) (.lst xs) (.lst ys) = if xs.length = ys.length then eqAll (eqW ps n) xs ys else .ok false := rfl
theorem eqW_own {c : Cl} {fs gs : List (Nm × D)} {g : List D → Res D} {r : Bool} (h : ps c = some g) (e : g [.obj c fs, .obj c gs] = .ok (.bl r)) (s : simD (.obj c fs) (.obj c gs) = true → r = true) : eqW ps n (.obj c fs) (.obj c gs) = .ok r := by
  rw [eqW_obj, h, ofOpt_some, ok_bind]
  unfold chk
  rw [if_pos (show sameCl' c (.obj c gs) = true from decide_eq_true rfl), e]
  exact if_pos s
theorem eqW_tups {α : Type} [DecidableEq α] {g : α → D} (h : ∀ x y, eqW ps n (g x) (g y) = .ok (decide (x = y))) (xs ys : List α) : eqW ps (n + 1) (.tup (xs.map g)) (.tup (ys.map g)) = .ok (decide (xs = ys)) := eqAll_map h xs ys
theorem eqW_lsts {α : Type} [DecidableEq α] {g : α → D} (h : ∀ x y, eqW ps n (g x) (g y) = .ok (decide (x = y))) (xs ys : List α) : eqW ps (n + 1) (.lst (xs.map g)) (.lst (ys.map g)) = .ok (decide (xs = ys)) := by
  rw [eqW_lst, List.length_map, List.length_map]
  by_cases e : xs.length = ys.length
  · rw [if_pos e]; exact eqAll_map h xs ys
  · rw [if_neg e, decide_eq_false (fun z => e (by rw [z]))]
theorem deep_tups {α : Type} [DecidableEq α] {base : D → D → Res D} {g : α → D} (h : ∀ x y, eqW ps n (g x) (g y) = .ok (decide (x = y))) (hg : ∀ x, flat (g x) = false) {xs : List α} (h0 : xs ≠ []) (ys : List α) : deepD base ps n (.tup (xs.map g)) (.tup (ys.map g)) = .ok (.bl (decide (xs = ys))) := by
  have hf : flat (.tup (xs.map g)) = false := by
    cases xs with
    | nil => exact absurd rfl h0
    | cons x xs =>
      show (flat (g x) && flats (xs.map g)) = false
      rw [hg x]
      rfl
  have z : deepD base ps n (.tup (xs.map g)) (.tup (ys.map g)) = (eqAll (eqW ps n) (xs.map g) (ys.map g) >>= fun r => .ok (.bl r)) := if_neg (by rw [hf, Bool.false_and]; decide)
  rw [z, eqAll_map h]
  rfl
end
end PL
namespace PL
open PySem PySem.Spec L2
open PyProof.Rows (b2i)
open PySem.W (Frag)
/-- the def at f, called with the class c and j values besides -/
def FnC (T : Tk) (k : Nat) (f : Addr) (c : Cl) (j : Nat) (m : List D → Res D) : Prop :=
  ∀ (A : Around) (outer : List Env) (s : Shared) (G H : Hp) (us : List Value) (vs : List V) (ds : List D) (Q : VK) (E : XK), Room k A → Env0 T.P T.w T.K T.mg T.base A outer s H → Vals vs us → vs.length = j → Ext G H → Reps T.K G vs ds →
    RG (Rep T.K) T.K E G H Q (m ds) → codeAny (model T.P T.w) A (.call (.ref f) ⟨.ref (ca T.K c) :: us, []⟩) (CR (L2.CX T.P T.w) outer T.P T.w H s Q E) s
@[irreducible] def mCls (c : Cl) (n : Nat) (o : Ev → Out) : List D → Res D := fun ds => (o ((ev0 n (.non :: ds)).set 0 (.cls c))).fin
section
variable {T : Tk} {k n j : Nat} {c : Cl} {x qual : Str} {params : Arguments} {body : List Stmt} {scope : Scope} {dvs : List V} {kws : List (Str × V)} {f : Addr} {fd : FuncData} {N ps : List Str} {o : Ev → Out}
theorem FnC.mono {k' : Nat} {m : List D → Res D} (F : FnC T k f c j m) (h : k ≤ k') : FnC T k' f c j m := fun A outer s G H us vs ds Q E hr => F A outer s G H us vs ds Q E (hr.mono h)
theorem env_cls {K : PySem.W.Frag} {G H : Hp} {N : List Str} {vs : List V} {ds : List D} (s : Ext G H) (r : Reps K G vs ds) (hN : 0 < N.length) :
    EnvOk K (Base.of G H) G (L2.start N (.ref (ca K c) :: vs)) ((ev0 N.length (.non :: ds)).set 0 (.cls c)) H := by
  have len : (L2.start N (.ref (ca K c) :: vs)).length = (ev0 N.length (.non :: ds)).length := by
    unfold L2.start ev0
    rw [List.length_append, List.length_append, List.length_map, List.length_map, List.length_replicate, List.length_replicate, List.length_cons, List.length_cons, r.length]
  have pos : 0 < (ev0 N.length (.non :: ds)).length := by unfold ev0; rw [List.length_append, List.length_map, List.length_cons]; omega
  have other : ∀ {i : Nat} {sl : Sl}, i ≠ 0 → (ev0 N.length (.non :: ds))[i]? = some sl → (sl = .no ∨ ∃ d v, sl = .dat d ∧ (L2.start N (.ref (ca K c) :: vs))[i]? = some (some v) ∧ Rep K G v d) := fun {i sl} h0 q => by
    obtain ⟨i, rfl⟩ := Nat.exists_eq_succ_of_ne_zero h0
    unfold ev0 at q
    by_cases hi : i < ds.length
    · rw [List.getElem?_append_left (by rw [List.length_map, List.length_cons]; omega), List.getElem?_map] at q
      obtain ⟨d, hd, e⟩ := Option.map_eq_some_iff.mp q
      subst e
      obtain ⟨v, hv, rv⟩ := r.getD (show ds[i]? = some d from hd)
      refine .inr ⟨d, v, rfl, ?_, rv⟩
      unfold L2.start
      rw [List.getElem?_append_left (by rw [List.length_map, List.length_cons, r.length]; omega), List.getElem?_map]
      show ((vs[i]?).map some) = _
      rw [hv]
      rfl
    · rw [List.getElem?_append_right (by rw [List.length_map, List.length_cons]; omega), List.getElem?_replicate] at q
      split at q <;> cases q
      exact .inl rfl
  have nofoot : ∀ {i : Nat} {sl : Sl} {a : Addr}, ((ev0 N.length (.non :: ds)).set 0 (.cls c))[i]? = some sl → ¬ foot H (L2.start N (.ref (ca K c) :: vs))[i]? sl a := fun {i sl a} q f => by
    by_cases h0 : i = 0
    · subst h0
      rw [List.getElem?_set_self pos] at q
      cases q
      exact foot_cls f
    · rw [List.getElem?_set_ne (Ne.symm h0)] at q
      rcases other h0 q with rfl | ⟨d, v, rfl, _, _⟩
      · exact foot_no f
      · exact foot_dat f
  refine ⟨.refl s, by rw [List.length_set]; exact len, fun i sl q => ?_, fun i j sl t q1 q2 n a f1 f2 => nofoot q1 f1⟩
  by_cases h0 : i = 0
  · subst h0
    rw [List.getElem?_set_self pos] at q
    cases q
    exact rfl
  · rw [List.getElem?_set_ne (Ne.symm h0)] at q
    rcases other h0 q with rfl | ⟨d, v, rfl, hv, rv⟩
    · trivial
    · exact ⟨v, hv, rv⟩
/-- what a classmethod promises -/
def spC (K : PySem.W.Frag) (c : Cl) (j : Nat) (m : List D → Res D) : Sp := fun vs H Q E => vs.length = j + 1 ∧ ∃ ws G ds, vs = .ref (ca K c) :: ws ∧ Ext G H ∧ Reps K G ws ds ∧ RG (Rep K) K E G H Q (m ds)
theorem fnC (F : FunD T.K x qual params body scope dvs kws f fd) (S : FnScope N ps scope) (hb : BodyOk T k N qual scope f body o) (hj : ps.length = j + 1) (hN : 0 < N.length) : FnOk T.P T.w T.K T.mg T.base (L2.CX T.P T.w) (k + 1) f fd ps (spC T.K c j (mCls c N.length o)) :=
  F.ok S (fun vs H Q E h => h.1.trans hj.symm) fun cdv A outer s H vs Q E hr ⟨hl, ws, G, ds, ew, e, r, q⟩ => ⟨_, hb cdv A outer s H E hr (Base.of G H) rfl, G, (ev0 N.length (.non :: ds)).set 0 (.cls c), by rw [ew]; exact env_cls (c := c) e r hN, by
    have q' : RG (Rep T.K) T.K E G H Q (o ((ev0 N.length (.non :: ds)).set 0 (.cls c))).fin := by unfold mCls at q; exact q
    cases ho : o ((ev0 N.length (.non :: ds)).set 0 (.cls c)) with
    | rt d ρ => rw [ho] at q'; exact fun G' σ H' v e' => q' G' v H' (e'.dat rfl).1.grow (e'.dat rfl).2
    | nx ρ => rw [ho] at q'; exact fun G' σ H' e' => q' G' _ H' e'.grow .non
    | exc er ρ => rw [ho] at q'; exact fun G' σ H' c d e' kk => q' G' c d H' e'.grow kk
    | bk ρ => rw [ho] at q'; exact q'.elim
    | ct ρ => rw [ho] at q'; exact q'.elim
    | stuck => rw [ho] at q'; exact q'⟩
theorem FnC.of0 {m : List D → Res D} (F : FnOk T.P T.w T.K T.mg T.base (L2.CX T.P T.w) k f fd ps (spC T.K c j m)) (hb : Binds T.K fd ps []) (hj : ps.length = j + 1) : FnC T k f c j m := by
  intro A outer s G H us vs ds Q E hr e0 r hl e rr h
  have r2 : Vals (V.ref (ca T.K c) :: vs) (Value.ref (ca T.K c) :: us) := .cons rfl r
  have l2 : (Value.ref (ca T.K c) :: us).length = ps.length := by rw [← r2.length, List.length_cons, hl, hj]
  exact F.run A outer s H ⟨Value.ref (ca T.K c) :: us, []⟩ (Value.ref (ca T.K c) :: us) (V.ref (ca T.K c) :: vs) Q E hr e0 (by have := hb s (Value.ref (ca T.K c) :: us) (e0.mod.kin.keeps fun b o q => (e0.bs b o q).1) (by simpa using l2); simpa using this) r2 ⟨by rw [List.length_cons, hl], vs, G, ds, rfl, e, rr, h⟩
end
def clsOf : Option Sl → Option Cl
  | some (.cls c) => some c
  | _ => none
/-- cls.F, a constant -/
def mClsV (i : Nat) (c : Cl) (d : D) : Ev → Res D := fun ρ => if clsOf ρ[i]? = some c then .ok d else .stuck
/-- cls(..) -/
def mClsN (i : Nat) (c : Cl) (mi : List D → Res (List (Nm × D))) (ms : Ev → Res (List D)) : Ev → Res D := fun ρ => if clsOf ρ[i]? = some c then ms ρ >>= newD c mi else .stuck
section
variable {X : Cx} {B : Base} {W : WX} {i : Nat} {c : Cl} {x f : Str} {pos p1 p : Pos} {e : Expr} {es : List Expr} {ms : Ev → Res (List D)} {mi : List D → Res (List (Nm × D))} {k j : Nat}
theorem clsOf_some {s : Option Sl} (h : clsOf s = some c) : s = some (.cls c) := by
  unfold clsOf at h
  split at h
  · cases h; rfl
  · cases h
theorem me_clsV {n : Int} (hN : X.N[i]? = some x) (hv : Vis X.env.scope x) (cv : cvB c.s f n X.K = true) (hd : (x == ("__debug__" : Str)) = false := by decide) (hcd : (x == ("__classdict__" : Str)) = false := by decide) (hb : attributeBase (.Name x p1) f X.env (eval (.Name x p1) X.env) = eval (.Name x p1) X.env := by rfl) :
    PE X (.Attribute (.Name x p1) f pos) (tM X.K B W (mClsV i c (.int n))) := by
  unfold cvB at cv
  obtain ⟨c1, c3⟩ := Bool.and_eq_true_iff.mp cv
  obtain ⟨c1, c2⟩ := Bool.and_eq_true_iff.mp c1
  refine me_of (ClX.pe_cval (pe_var hN hv hd hcd) hb) fun G ρ σ H Q e q => ?_
  unfold mClsV at q
  by_cases z : clsOf ρ[i]? = some c
  · rw [if_pos z] at q
    have sl := e.slot i _ (clsOf_some z)
    split at c3
    · rename_i j' t q2
      have hj := of_decide_eq_true c3
      subst hj
      exact ⟨_, sl, _, .type "type", .int j', .int j' t, rfl, ⟨c1, of_decide_eq_true c2⟩, ⟨q2, ⟨t, rfl⟩⟩, RG.here e.sub q (.int j')⟩
    · cases c3
  · rw [if_neg z] at q
    exact q.elim
theorem me_clsN (F : MakF (tkOf X) k c j mi) (tk : Takes X W) (hr : Room (k + 1) X.A) (hN : X.N[i]? = some x) (hv : Vis X.env.scope x) (ha : PA X (e :: es) (tMA X.K B W ms)) (hj : ∀ ρ ds, ms ρ = .ok ds → ds.length = j) (hd : (x == ("__debug__" : Str)) = false := by decide) (hcd : (x == ("__classdict__" : Str)) = false := by decide)
    (he : starEach (e :: es) X.env = (false, eval e X.env) :: starEach es X.env := by rfl) (hpl : (backTo pos (starEach es X.env)).any (·.1) = false := by rfl) : PE X (.Call (.Name x p) (e :: es) [] pos) (tM X.K B W (mClsN i c mi ms)) := by
  obtain ⟨f, M, _⟩ := id F.ex
  refine ⟨fun pins s σ H Q I ⟨G, ρ, e0, h⟩ => ?_⟩
  unfold mClsN at h
  by_cases z : clsOf ρ[i]? = some c
  · rw [if_pos z] at h
    have sl := e0.slot i _ (clsOf_some z)
    refine wpAny_Call_Name_kw (thn ((pe_var (pos := p) hN hv hd hcd).run pins s σ H (fun v H' => v = .ref (ca X.K c) ∧ H' = H) I ⟨_, sl, rfl, rfl⟩) fun u s0 ⟨v, H0, I0, rv, ev, eh⟩ => ?_)
    subst ev
    subst eh
    obtain rfl : u = Value.ref (ca X.K c) := rv
    refine PySem.W.callWith_K (h₀ := X.base) I0.ok.mod.kin M.kp (thn (ha.run pos pins s0 σ H0 (fun vs H2 => ∃ G2 ds, ds.length = j ∧ Ext G2 H2 ∧ Reps X.K G2 vs ds ∧ RG (Rep X.K) X.K (fun c d H' => W c d σ H') G2 H2 Q (newD c mi ds)) I0 ⟨G, ρ, e0, RG.len (hj ρ) h fun ds G2 vs H2 hl g2 rr q2 => ⟨G2, ds, hl, g2.sub, rr, q2⟩⟩) fun us s1 ⟨vs, H1, I1, r, G2, ds, hl, e2, rr, q⟩ => ⟨I1.kIn, ?_⟩) he hpl
    exact F.go tk hr I1 r (reps_len rr hl) e2 rr q
  · rw [if_neg z] at h
    exact h.elim
end
structure CmF (T : Tk) (k : Nat) (c : Cl) (m : Str) (j : Nat) (g : List D → Res D) : Prop where
  ex : ∃ p f mc, ClX.CRead T.K (ca T.K c) mc ∧ ClX.CMet T.K (ca T.K c) mc m p f ∧ FnC T k f c j g
theorem cmB_ok {T : Tk} {k j : Nat} {c : Cl} {m : Str} {g : List D → Res D} (e : cmB c m T.K = true) (F : FnC T k (cA c m T.K) c j g) : CmF T k c m j g := by
  unfold cmB at e
  obtain ⟨e, e4⟩ := Bool.and_eq_true_iff.mp e
  obtain ⟨e, e3⟩ := Bool.and_eq_true_iff.mp e
  obtain ⟨e1, e2⟩ := Bool.and_eq_true_iff.mp e
  refine ⟨He.ma T.K (ca T.K c) m, cA c m T.K, .type "type", ⟨e1, of_decide_eq_true e2⟩, ?_, F⟩
  unfold cA
  split at e4
  · rename_i g' r er
    refine ⟨?_, ⟨r, er⟩, e4⟩
    split at e3
    · rename_i b p C eq
      simp only [Bool.and_eq_true, decide_eq_true_eq] at e3
      obtain ⟨⟨h1, h2⟩, h3⟩ := e3
      rw [eq, h1, h2, h3]
    · cases e3
  · cases e4
section
variable {X : Cx} {B : Base} {W : WX} {c : Cl} {x m : Str} {pos p1 apos : Pos} {e : Expr} {es : List Expr} {ms : Ev → Res (List D)} {g : List D → Res D} {k j : Nat} {pl : Sem Bool}
theorem FnC.call {pins : List (Addr × Obj)} {σ : St} {G H : Hp} {s : Shared} {f : Addr} {us : List Value} {vs : List V} {ds : List D} {Q : VK} (F : FnC (tkOf X) k f c j g) (tk : Takes X W) (hr : Room k X.A) (I : Inv X pins σ H s) (r : Vals vs us) (hl : vs.length = j) (e : Ext G H) (rr : Reps X.K G vs ds)
    (h : RG (Rep X.K) X.K (fun c d H' => W c d σ H') G H Q (g ds)) : codeAny (model X.prog X.w) X.A (.call (.ref f) ⟨.ref (ca X.K c) :: us, []⟩) (fun r s' => match r with
      | .ok (.ret v) => EP X pins σ Q v s'
      | .ok _ => False
      | .error e => X.xe e s') s :=
  codeAny_mono (F X.A X.stack s G H us vs ds Q (WE W σ) hr I.env0 r hl e rr h) fun r s' q => by
    have z := cr_go tk I q
    cases r with
    | error e => exact z
    | ok fl => cases fl <;> exact z
theorem me_cmeth (F : CmF (tkOf X) k c m j g) (tk : Takes X W) (hr : Room k X.A) (hg : Gl X x) (hm : X.mg x = some (.ref (ca X.K c))) (ha : PA X (e :: es) (tMA X.K B W ms)) (hj : ∀ ρ ds, ms ρ = .ok ds → ds.length = j) (hd : (x == ("__debug__" : Str)) = false := by decide)
    (hst : starEach (e :: es) X.env = (false, eval e X.env) :: starEach es X.env := by rfl) (hpl : (backTo pos (starEach es X.env)).any (·.1) = false := by rfl)
    (ht : eval (.Call (.Attribute (.Name x p1) m apos) (e :: es) [] pos) X.env = (do
      let ov ← eval (.Name x p1) X.env
      standAt apos.atName
      let (f, first) ← holding [ov] (getMethod ov m pl)
      callWith pos f first (backTo pos (starEach (e :: es) X.env)) (backToKw pos (keywordEach [] X.env))) := by rfl) :
    PE X (.Call (.Attribute (.Name x p1) m apos) (e :: es) [] pos) (tM X.K B W (mCall g ms)) := by
  obtain ⟨p, f, mc, r, cm, F⟩ := F.ex
  refine ⟨fun pins s σ H Q I ⟨G, ρ, e0, h⟩ => ?_⟩
  refine PySem.W.methodCall_KW (pl := pl) (thn ((pe_cl (pos := p1) hg hm hd).run pins s σ H (fun v H' => v = .ref (ca X.K c) ∧ H' = H) I ⟨rfl, rfl⟩) fun u s1 ⟨v, H1, I1, rx, ex, eh⟩ => ?_) ht
  subst ex
  subst eh
  obtain rfl : u = Value.ref (ca X.K c) := rx
  refine ClX.getmethcm_ok I1 r cm fun s2 I2 => ?_
  refine ClX.callwith_cm I2 (ClX.base_none I1 (Nat.le_refl _)) cm.fi (thn (ha.run pos _ s2 σ H1 (fun vs H2 => ∃ G2 ds, ds.length = j ∧ Ext G2 H2 ∧ Reps X.K G2 vs ds ∧ RG (Rep X.K) X.K (fun c d H' => W c d σ H') G2 H2 Q (g ds)) I2 ⟨G, ρ, e0, RG.len (hj ρ) h fun ds G2 vs H2 hl g2 rr q2 => ⟨G2, ds, hl, g2.sub, rr, q2⟩⟩) fun us s3 ⟨vs, H2, I3, rv, G2, ds, hl, e2, rr, q2⟩ => ⟨⟨ClX.pin_at I3, I3.kIn⟩, ?_⟩) hst hpl
  refine thn (Q := EP X ((s1.heap.objs.size, PySem.W.methodObj (.ref f) (.ref (ca X.K c))) :: pins) σ Q) (wpAny_call (PySem.W.method_call (ClX.pin_at I3) (codeAny_mono (F.call tk hr I3 rv (reps_len rr hl) e2 rr q2) fun r s' z => ?_))) fun _ _ y => ClX.unpinE y
  cases r with
  | error e => exact z
  | ok fl => cases fl <;> exact z
end
section
variable {Q : D → Prop} {E : Err → Prop} {ρ : Ev} {i : Nat} {c : Cl} {d : D}
@[simp] theorem clsOf_cls : clsOf (some (.cls c)) = some c := id rfl
@[simp] theorem wm_clsV : wr (mClsV i c d ρ) Q E = (clsOf ρ[i]? = some c ∧ Q d) := by
  unfold mClsV
  by_cases z : clsOf ρ[i]? = some c
  · rw [if_pos z, wr_ok]
    exact propext ⟨fun h => ⟨z, h⟩, fun h => h.2⟩
  · rw [if_neg z, wr_stuck]
    exact propext ⟨fun h => h.elim, fun h => z h.1⟩
@[simp] theorem wm_clsN {mi : List D → Res (List (Nm × D))} {ms : Ev → Res (List D)} : wr (mClsN i c mi ms ρ) Q E = (clsOf ρ[i]? = some c ∧ wr (ms ρ) (fun ds => wr (newD c mi ds) Q E) E) := by
  unfold mClsN
  by_cases z : clsOf ρ[i]? = some c
  · rw [if_pos z, wr_bind]
    exact propext ⟨fun h => ⟨z, h⟩, fun h => h.2⟩
  · rw [if_neg z, wr_stuck]
    exact propext ⟨fun h => h.elim, fun h => z h.1⟩
end
theorem wr_cls {n : Nat} {c : Cl} {o : Ev → Out} {ds : List D} {Q : D → Prop} {E : Err → Prop} (h : wp o ⟨fun _ => Q .non, Q, fun _ => False, fun _ => False, fun e _ => E e⟩ ((ev0 n (.non :: ds)).set 0 (.cls c))) : wr (mCls c n o ds) Q E := by
  with_unfolding_all
    unfold mCls
    unfold wp at h
    cases ho : o ((ev0 n (.non :: ds)).set 0 (.cls c)) with
    | bk ρ => rw [ho] at h; exact h.elim
    | ct ρ => rw [ho] at h; exact h.elim
    | stuck => rw [ho] at h; exact h.elim
    | nx ρ => rw [ho] at h; exact h
    | rt d ρ => rw [ho] at h; exact h
    | exc e ρ => rw [ho] at h; exact h
section
variable {ps : Cl → Option (List D → Res D)} {xs : List D} {k : D}
@[simp] theorem ixO_lst : ixO ps (.lst xs) k = ixD (.lst xs) k := id rfl
@[simp] theorem ixO_tup : ixO ps (.tup xs) k = ixD (.tup xs) k := id rfl
end
end PL
namespace PL
open PySem PySem.Spec L2
open PyProof.Rows (b2i)
open PySem.W (Frag)
structure LenF (T : Tk) (k : Nat) (c : Cl) (g : List D → Res D) : Prop where
  ex : ∃ f : Addr, PySem.W.findIn T.K (.ref (ca T.K c)) "__len__" = some (some (.ref f)) ∧ PySem.W.isFn T.K (.ref f) = true ∧ FnM T k f 1 g
theorem lnB_ok {T : Tk} {k : Nat} {c : Cl} {g : List D → Res D} (e : lnB c T.K = true) (F : FnM T k (mA c "__len__" T.K) 1 g) : LenF T k c g := by
  unfold lnB fndB at e
  obtain ⟨e1, e2⟩ := Bool.and_eq_true_iff.mp e
  exact ⟨_, of_decide_eq_true e1, e2, F⟩
def lenBackD : D → Res D
  | .int n => chk (0 ≤ n ∧ n < 2 ^ 63) (.ok (.int n))
  | _ => .stuck
def lenO (ps : Cl → Option (List D → Res D)) : List D → Res D
  | [.obj c fs] => ofOpt (ps c) >>= fun g => g [.obj c fs] >>= lenBackD
  | ds => lenD ds
section
variable {X : Cx} {W : WX} {k : Nat} {ps : Cl → Option (List D → Res D)}
theorem call_lenO (hp : ∀ c g, ps c = some g → LenF (tkOf X) k c g) (tk : Takes X W) (hr : Room (k + 1) X.A) : CallM X W (.builtin "len") (lenO ps) := by
  intro pins s σ G H xs us ds Q I r e rr q
  cases rr with
  | nil => exact call_lenD pins s σ G H _ us _ Q I r e .nil q
  | @cons x d xs ds ra t =>
    cases t with
    | cons a b => exact call_lenD pins s σ G H _ us _ Q I r e (.cons ra (.cons a b)) (by cases d <;> exact q)
    | nil =>
      cases d with
      | obj c fs =>
        obtain ⟨g, hg, q⟩ : ∃ g, ps c = some g ∧ RG (Rep X.K) X.K (fun c d H' => W c d σ H') G H Q (g [.obj c fs] >>= lenBackD) := by
          have q' : RG (Rep X.K) X.K (fun c d H' => W c d σ H') G H Q (ofOpt (ps c) >>= fun g => g [.obj c fs] >>= lenBackD) := q
          cases h : ps c with
          | none => rw [h] at q'; exact q'.elim
          | some g => rw [h] at q'; exact ⟨g, rfl, q'⟩
        obtain ⟨f, hs, hf, F⟩ := (hp c g hg).ex
        obtain ⟨a, dx, od, rfl, J, at_, _⟩ := ins_obj (K := X.K) (d := .non) I e ra
        cases r with
        | cons rv rt =>
          cases rt
          obtain rfl := rv
          obtain ⟨m, hF⟩ := I.fr
          refine PySem.W.len_K hF I.ok.mod.kin J hs hf ?_
          refine wpAny_call (codeAny_mono (F.go (A := X.A.in1) (us := [.ref a]) (vs := [.ref a]) (Q := fun v H1 => ∃ G1 d1, Ext G1 H1 ∧ Rep X.K G1 v d1 ∧ RG (Rep X.K) X.K (fun c d H' => W c d σ H') G1 H1 Q (lenBackD d1)) tk hr.in1 I.env0.in1 I (.cons rfl .nil) rfl e (.cons ra .nil) (RG.bind q fun d1 G1 v1 H1 g1 r1 q1 => ⟨G1, d1, g1.sub, r1, q1⟩)) fun r s' z => ?_)
          cases r with
          | error e => exact z
          | ok fl =>
            cases fl with
            | ret u =>
              obtain ⟨v1, H1, I1, rv1, G1, d1, e1, r1, q1⟩ := z
              cases r1 with
              | int n =>
                obtain ⟨t, rfl⟩ := rv1
                obtain ⟨hc, q2⟩ := RG.chk q1
                refine ⟨hc, ?_⟩
                exact ⟨.int n, H1, I1.tok _, ⟨_, rfl⟩, RG.here e1 q2 (.int n)⟩
              | _ => exact q1.elim
            | next => exact z
            | brk => exact z
            | cont => exact z
      | _ => exact call_lenD pins s σ G H _ us _ Q I r e (.cons ra .nil) q
end
structure InF (T : Tk) (k : Nat) (c : Cl) (g : List D → Res D) : Prop where
  ex : ∃ f : Addr, PySem.W.findIn T.K (.ref (ca T.K c)) "__contains__" = some (some (.ref f)) ∧ PySem.W.isFn T.K (.ref f) = true ∧ FnM T k f 2 g
theorem inB_ok {T : Tk} {k : Nat} {c : Cl} {g : List D → Res D} (e : inB c T.K = true) (F : FnM T k (mA c "__contains__" T.K) 2 g) : InF T k c g := by
  unfold inB fndB at e
  obtain ⟨e1, e2⟩ := Bool.and_eq_true_iff.mp e
  exact ⟨_, of_decide_eq_true e1, e2, F⟩
def blBackD (f : Bool → Bool) : D → Res D
  | .bl k => .ok (.bl (f k))
  | _ => .stuck
def inO (ps : Cl → Option (List D → Res D)) : D → D → Res D
  | a, .obj c fs => ofOpt (ps c) >>= fun g => g [.obj c fs, a] >>= blBackD id
  | a, b => inD a b
def ninO (ps : Cl → Option (List D → Res D)) : D → D → Res D
  | a, .obj c fs => ofOpt (ps c) >>= fun g => g [.obj c fs, a] >>= blBackD not
  | a, b => ninD a b
section
variable {X : Cx} {W : WX} {k : Nat} {ps : Cl → Option (List D → Res D)}
theorem bl_back {pins : List (Addr × Obj)} {s : Shared} {σ : St} {G H : Hp} {v : Value} {Q : VK} {f : Bool → Bool} (h : EP X pins σ (fun v H1 => ∃ G1 d1, Ext G1 H1 ∧ Rep X.K G1 v d1 ∧ RG (Rep X.K) X.K (fun c d H' => W c d σ H') G1 H1 Q (blBackD f d1)) v s) :
    ∃ k, v = .bool k ∧ EP X pins σ Q (.bool (f k)) s := by
  obtain ⟨v1, H1, I1, rv1, G1, d1, e1, r1, q1⟩ := h
  cases r1 with
  | bl k =>
    have rv1 : v = .bool k := rv1
    exact ⟨k, rv1, .bl (f k), H1, I1, rfl, RG.here e1 q1 (.bl (f k))⟩
  | _ => exact q1.elim
theorem own2_go {pins : List (Addr × Obj)} {s : Shared} {σ : St} {G H : Hp} {x y : V} {v u : Value} {Q : VK} {a b : D} {g : List D → Res D} {f : Addr} {h : Bool → Bool} {A : Around} (hA : Env0 X.prog X.w X.K X.mg X.base A X.stack s H) (F : FnM (tkOf X) k f 2 g) (tk : Takes X W) (hr : Room k A) (I : Inv X pins σ H s) (rx : RelV x v) (ry : RelV y u) (e : Ext G H) (ra : Rep X.K G x a) (rb : Rep X.K G y b)
    (q : RG (Rep X.K) X.K (fun c d H' => W c d σ H') G H Q (g [a, b] >>= blBackD h)) : wpAny (model X.prog X.w) A (call (.ref f) [v, u]) (fun r s' => ∃ k, r = .bool k ∧ EP X pins σ Q (.bool (h k)) s') X.xe s := by
  refine wpAny_call (codeAny_mono (F.go (A := A) (us := [v, u]) (vs := [x, y]) (Q := fun v H1 => ∃ G1 d1, Ext G1 H1 ∧ Rep X.K G1 v d1 ∧ RG (Rep X.K) X.K (fun c d H' => W c d σ H') G1 H1 Q (blBackD h d1)) tk hr hA I (.cons rx (.cons ry .nil)) rfl e (.cons ra (.cons rb .nil)) (RG.bind q fun d1 G1 v1 H1 g1 r1 q1 => ⟨G1, d1, g1.sub, r1, q1⟩)) fun r s' z => ?_)
  cases r with
  | error e => exact z
  | ok fl =>
    cases fl with
    | ret w => exact bl_back (G := G) (H := H) z
    | next => exact z
    | brk => exact z
    | cont => exact z
theorem in_get {c : Cl} {fs : List (Nm × D)} {a : D} {f : Bool → Bool} {R : Res D → Prop} (h0 : R .stuck → False) (h : R (ofOpt (ps c) >>= fun g => g [.obj c fs, a] >>= blBackD f)) : ∃ g, ps c = some g ∧ R (g [.obj c fs, a] >>= blBackD f) := by
  cases e : ps c with
  | none => rw [e] at h; exact (h0 h).elim
  | some g => rw [e, ofOpt_some, ok_bind] at h; exact ⟨g, rfl, h⟩
theorem op_inO (hp : ∀ c g, ps c = some g → InF (tkOf X) k c g) (tk : Takes X W) (hr : Room k X.A) : OpM X W (compareOp .In) (inO ps) := by
  intro pins s σ G H x y v u a b Q I rx ry e ra rb q
  cases b with
  | obj c fs =>
    obtain ⟨g, hg, q⟩ := in_get (R := RG (Rep X.K) X.K (fun c d H' => W c d σ H') G H Q) (fun z => z) q
    obtain ⟨f, hs, hf, F⟩ := (hp c g hg).ex
    obtain ⟨o, dx, od, rfl, J, at_, _⟩ := ins_obj (K := X.K) (d := .non) I e rb
    obtain rfl := ry
    obtain ⟨m, hF⟩ := I.fr
    refine PySem.W.in_K hF I.ok.mod.kin J hs hf (wpAny_mono (own2_go (x := .ref o) (h := id) I.env0 F tk hr I (show RelV (.ref o) (Value.ref o) from rfl) rx e rb ra q) (fun r s' z => ?_) fun _ _ z => z)
    obtain ⟨b, rfl, z⟩ := z
    unfold truthy
    exact wpAny_pure z
  | _ => exact op_inP.m pins s σ G H x y v u _ _ Q I rx ry e ra rb q
theorem op_ninO (hp : ∀ c g, ps c = some g → InF (tkOf X) k c g) (tk : Takes X W) (hr : Room k X.A) : OpM X W (compareOp .NotIn) (ninO ps) := by
  intro pins s σ G H x y v u a b Q I rx ry e ra rb q
  cases b with
  | obj c fs =>
    obtain ⟨g, hg, q⟩ := in_get (R := RG (Rep X.K) X.K (fun c d H' => W c d σ H') G H Q) (fun z => z) q
    obtain ⟨f, hs, hf, F⟩ := (hp c g hg).ex
    obtain ⟨o, dx, od, rfl, J, at_, _⟩ := ins_obj (K := X.K) (d := .non) I e rb
    obtain rfl := ry
    obtain ⟨m, hF⟩ := I.fr
    refine PySem.W.notIn_K hF I.ok.mod.kin J hs hf (wpAny_mono (own2_go (x := .ref o) (h := not) I.env0 F tk hr I (show RelV (.ref o) (Value.ref o) from rfl) rx e rb ra q) (fun r s' z => ?_) fun _ _ z => z)
    obtain ⟨b, rfl, z⟩ := z
    unfold truthy
    exact wpAny_pure z
  | _ => exact op_ninP.m pins s σ G H x y v u _ _ Q I rx ry e ra rb q
end
theorem ne_K {prog : Program} {w : World} {A : Around} {E : Value → Shared → Prop} {s : Shared} {K : Frag} {x C L f : Addr} {h₀ : Heap} {m : Str → Option Value} {ox : Obj} {od : Option Obj} {b tb : Value} {Q : Value → Shared → Prop} (hu : A.units < cLine) (hu1 : A.in1.units < cLine) (F : PyProof.Rows.Fr h₀ L s.heap m) (X₀ : K.In h₀) (I : PySem.W.InstAt s.heap x ox C od) (hb : PySem.W.Looks (model prog w) s.heap (typeOf b) tb) (hn : PySem.W.notFirst K C tb = true)
    (hs : PySem.W.findIn K (.ref C) "__ne__" = some (some (.builtin "object.__ne__"))) (hm : PySem.W.mroIn K C (.type "object") = some true) (he : PySem.W.findIn K (.ref C) "__eq__" = some (some (.ref f))) (hf : PySem.W.isFn K (.ref f) = true)
    (h : wpAny (model prog w) A.in1 (call (.ref f) [.ref x, b]) (fun r s' => ∃ k, r = .bool k ∧ Q (.bool (!k)) s') E s) : wpAny (model prog w) A (richCompare .NotEq (.ref x) b) Q E s := by
  have X := X₀.keeps F.keep
  have core : wpAny (model prog w) A (call (.builtin "object.__ne__") [.ref x, b]) (fun v s' => (∃ k, v = .bool k) ∧ Q v s') E s := by
    refine wpAny_call (codeAny_call_builtin PySem.F.cmp_object.ne.plain PySem.F.cmpEntry_ne (PySem.W.check_slot (i := "object.__ne__") (owner := "object") (n := "__ne__") PySem.F.cmpKind_ne PySem.F.cmpSplit_ne (I.type.andThen (PySem.W.looks_mroIn X hm)) (PySem.F.cmpArgs_ne _ _) ?_))
    unfold Builtin.«object.__ne__»
    refine wpAny_bind (m := slotArgs "__ne__" 1 _) (wpAny_pure ?_)
    refine wpAny_bind (m := cRoomFor _ _) (wpAny_cRoomFor hu1 ?_)
    refine wpAny_bind (m := callSpecialIfBound? (.ref x) (Str.ofString "__eq__") _) (PySem.W.ifBound_K X I he hf (wpAny_mono h (fun r s' z => ?_) fun _ _ z => z))
    obtain ⟨k, rfl, z⟩ := z
    refine wpAny_bind ?_
    unfold truthy
    refine wpAny_pure ?_
    exact wpAny_pure ⟨⟨_, rfl⟩, z⟩
  have fin : wpAny (model prog w) A (call (.builtin "object.__ne__") ([.ref x] ++ [b]) >>= fun v => pure (some v)) (fun r s' => ∃ v, r = some (.bool v) ∧ Q (.bool v) s') E s := wpAny_bind (wpAny_mono core (fun v s' z => by
    obtain ⟨⟨k, rfl⟩, z⟩ := z
    exact wpAny_pure ⟨_, rfl, z⟩) fun _ _ z => z)
  have spec : wpAny (model prog w) A (callSpecialIfBound? (.ref x) "__ne__" [b]) (fun r s' => ∃ v, r = some (.bool v) ∧ Q (.bool v) s') E s := by
    simp only [callSpecialIfBound?, bindSpecialIfBound?]
    refine wpAny_holding (wpAny_bind (wpAny_bind (wpAny_bind (I.type.here ((PySem.W.looks_findIn X hs).here ?_)))))
    refine wpAny_bind (wpAny_askSetting (wpAny_ite ?_))
    split
    · exact wpAny_bind ((PySem.W.Looks.of_pure (PySem.F.cmp_object.ne.bind _)).here (wpAny_pure (by exact fin)))
    · exact wpAny_tryCatch (wpAny_bind ((PySem.W.Looks.of_pure (PySem.F.cmp_object.ne.bind _)).here (wpAny_pure (by exact fin))))
  have one : wpAny (model prog w) A (tryCompare (.ref x) (cmpInfo .NotEq).2.1 b) (fun r s' => ∃ v, r = some v ∧ Q v s') E s := by
    unfold tryCompare
    refine wpAny_bind (wpAny_mono spec (fun r s' z => ?_) fun _ _ z => z)
    obtain ⟨v, rfl, z⟩ := z
    exact wpAny_pure ⟨_, rfl, z⟩
  unfold richCompare
  simp only [oneThing_ref]
  refine wpAny_holding (wpAny_bind (wpAny_cRoomFor hu ?_))
  refine wpAny_bind (I.type.here (wpAny_bind (hb.here ?_)))
  split
  · rename_i q
    have e : PySem.W.subIn K tb (.ref C) = some false := by
      rcases Bool.or_eq_true_iff.mp hn with e | e
      · rw [beq_iff_eq.mp e] at q; simp at q
      · exact beq_iff_eq.mp e
    refine wpAny_bind ((PySem.W.looks_subIn X e).here ?_)
    simp only [Bool.false_eq_true, if_false]
    refine wpAny_bind (wpAny_mono one (fun r s' z => ?_) fun _ _ e => e)
    obtain ⟨v, rfl, hq⟩ := z
    exact wpAny_pure hq
  · refine wpAny_bind (wpAny_pure ?_)
    simp only [Bool.false_eq_true, if_false]
    refine wpAny_bind (wpAny_mono one (fun r s' z => ?_) fun _ _ e => e)
    obtain ⟨v, rfl, hq⟩ := z
    exact wpAny_pure hq
structure NeF (T : Tk) (k : Nat) (c : Cl) (g : List D → Res D) : Prop where
  eq : CmpF T k .Eq c g
  ne : PySem.W.findIn T.K (.ref (ca T.K c)) "__ne__" = some (some (.builtin "object.__ne__"))
theorem neB_ok {T : Tk} {k : Nat} {c : Cl} {g : List D → Res D} (e : neB c T.K = true) (F : CmpF T k .Eq c g) : NeF T k c g := by
  unfold neB fndB at e
  exact ⟨F, of_decide_eq_true e⟩
def ownN (base : D → D → Res D) (ps : Cl → Option (List D → Res D)) : D → D → Res D
  | .obj c fs, b => ofOpt (ps c) >>= fun g => chk (sameCl c b = true) (g [.obj c fs, b] >>= blBackD not)
  | a, b => base a b
section
variable {X : Cx} {W : WX} {k : Nat} {ps : Cl → Option (List D → Res D)}
theorem op_ownN {base : D → D → Res D} (hb : OpM X W (compareOp .NotEq) base) (hp : ∀ c g, ps c = some g → NeF (tkOf X) k c g) (tk : Takes X W) (hr : Room (k + 1) X.A) : OpM X W (compareOp .NotEq) (ownN base ps) := by
  intro pins s σ G H x y v u a b Q I rx ry e ra rb q
  cases a with
  | obj c fs =>
    obtain ⟨g, hg, sc, q⟩ : ∃ g, ps c = some g ∧ sameCl c b = true ∧ RG (Rep X.K) X.K (fun c d H' => W c d σ H') G H Q (g [.obj c fs, b] >>= blBackD not) := by
      have q' : RG (Rep X.K) X.K (fun c d H' => W c d σ H') G H Q (ofOpt (ps c) >>= fun g => chk (sameCl c b = true) (g [.obj c fs, b] >>= blBackD not)) := q
      cases h : ps c with
      | none => rw [h] at q'; exact q'.elim
      | some g =>
        rw [h, ofOpt_some, ok_bind] at q'
        obtain ⟨z, q'⟩ := RG.chk q'
        exact ⟨g, rfl, z, q'⟩
    obtain ⟨⟨f, hs, hf, F⟩, hne⟩ := hp c g hg
    obtain ⟨a, dx, od, rfl, J, at_, _⟩ := ins_obj (K := X.K) (d := b) I e ra
    have ex : v = Value.ref a := rx
    obtain ⟨m, hF⟩ := I.fr
    have hn : PySem.W.notFirst X.K (ca X.K c) (tyV X.K b) = true := by
      unfold PySem.W.notFirst
      cases b with
      | obj c' gs =>
        have z : c' = c := of_decide_eq_true sc
        subst z
        exact Bool.or_eq_true_iff.mpr (.inl (beq_iff_eq.mpr rfl))
      | _ => exact Bool.or_eq_true_iff.mpr (.inr (beq_iff_eq.mpr (tyV_blind fun c fs z => nomatch z)))
    have go := own2_go (h := not) I.env0.in1 F tk hr.in1 I rx ry e ra rb q
    rw [ex] at go ⊢
    exact ne_K hr.units0 hr.in1.units0 hF I.ok.mod.kin J (looks_ty I e rb ry) hn hne at_.1.hm hs hf go
  | _ => exact hb pins s σ G H x y v u _ _ Q I rx ry e ra rb q
end
end PL
namespace PL
open PySem PySem.Spec L2
open PyProof.Rows (b2i)
open PySem.W (Frag)
def tIt (K : Frag) (c : Cl) (n : Nm) (z : Nat) : TS := fun Dn σ H => ∃ G x fs xs, σ[0]? = some (some x) ∧ Ext G H ∧ Rep K G x (.obj c fs) ∧ fs.lookup n = some (.lst xs) ∧ ∀ l ws it, Rd G l (.lst ws) → Reps K G ws xs → H it = none → z ≤ it → Dn.rt (.ref it) (upd H it (ItO l it 0))
abbrev ItBody (T : Tk) (k : Nat) (N : List Str) (qual : Str) (scope : Scope) (f : Addr) (body : List Stmt) (c : Cl) (n : Nm) : Prop :=
  ∀ (cdv : Value) (A : Around) (outer : List Env) (s : Shared) (H : Hp) (E : XK), Room k (A.deeper (PyProof.Rows.envOfC qual scope s.heap.objs.size f cdv)) → PSs (cxT T N qual scope f cdv A outer s H E) body (tIt T.K c n s.heap.objs.size)
/-- the __iter__ at f: it hands back an iterator, a new object, of the list kept under n -/
def ItM (T : Tk) (k : Nat) (f : Addr) (c : Cl) (n : Nm) : Prop :=
  ∀ (A : Around) (outer : List Env) (s : Shared) (G H : Hp) (u : Value) (x : V) (fs : List (Nm × D)) (xs : List D) (Q : VK) (E : XK), Room k A → Env0 T.P T.w T.K T.mg T.base A outer s H → RelV x u → Ext G H → Rep T.K G x (.obj c fs) → fs.lookup n = some (.lst xs) →
    (∀ l ws it, Rd G l (.lst ws) → Reps T.K G ws xs → H it = none → s.heap.objs.size ≤ it → Q (.ref it) (upd H it (ItO l it 0))) → codeAny (model T.P T.w) A (.call (.ref f) ⟨[u], []⟩) (CR (L2.CX T.P T.w) outer T.P T.w H s Q E) s
section
variable {T : Tk} {k : Nat} {c : Cl} {n : Nm} {x qual : Str} {params : Arguments} {body : List Stmt} {scope : Scope} {dvs : List V} {kws : List (Str × V)} {f : Addr} {fd : FuncData} {N ps : List Str}
/-- a def run once, from the state s: what its body does there (the kit's promise of a def does not tell of s) -/
theorem run_at {t : TS} {A : Around} {outer : List Env} {s : Shared} {H : Hp} {args : Args} {us : List Value} {vs : List V} {Q : VK} {E : XK} (F : FunD T.K x qual params body scope dvs kws f fd) (S : FnScope N ps scope) (hl : vs.length = ps.length)
    (hb : ∀ cdv, Room k (A.deeper (PyProof.Rows.envOfC qual scope s.heap.objs.size f cdv)) → PSs (cxT T N qual scope f cdv A outer s H E) body t) (ht : t { nx := fun _ H' => Q .non H', rt := Q } (L2.start N vs) H)
    (room : Room (k + 1) A) (e0 : Env0 T.P T.w T.K T.mg T.base A outer s H) (bind : BindsTo s fd args (ps.zip us)) (rel : Vals vs us) : codeAny (model T.P T.w) A (.call (.ref f) args) (CR (L2.CX T.P T.w) outer T.P T.w H s Q E) s := by
  obtain ⟨oc, od, dV, kV, doc, pm, an, cdv, ct, osl, rfl, there, code, _, _⟩ := F.ex
  have inK : T.K.In s.heap := e0.mod.kin.keeps fun b o e => (e0.bs b o e).1
  have nolim := e0.mod.nolimit.keeps (h' := s.heap) fun b o e => (e0.bs b o e).1
  refine codeAny_call_function room.depth (inK _ _ there) rfl S.co S.gen rfl (PySem.W.codeRec_of inK code) (bind _ _ _ _ ?_)
  refine wpAny_newFunctionEnv_cells S.kind (fun y hy => ?_) fun env he s1 fresh => ?_
  · match y, hy with
    | (a, b), hy =>
      cases S.par a (List.of_mem_zip hy).1 with
      | inl q => exact Or.inl q
      | inr q => exact Or.inr ⟨q, PySem.W.cellsFrom_some _ _ _ (Or.inl q)⟩
  subst he
  refine ⟨nolim.keeps fresh.toInCall.keep, codeAny_func ?_⟩
  have inv : Inv (cxT T N qual scope f cdv A outer s H E) [] (L2.start N vs) H s1 := inv_start S room.hd e0 hl rel fresh
  refine wpAny_mono ((hb cdv (room.deeper _)).run [] s1 (L2.start N vs) H _ inv ht) (fun fl s' hs => ?_) fun _ _ hs => hs
  cases fl with
  | ret u =>
    obtain ⟨v, σ', H', J, rv, q⟩ := hs
    exact ⟨v, H', J.os, J.bare, J.base, J.hok, rv, q⟩
  | next =>
    obtain ⟨σ', H', J, q⟩ := hs
    exact ⟨V.non, H', J.os, J.bare, J.base, J.hok, rfl, q⟩
  | brk => exact hs.elim fun _ z => z.elim fun _ z => z.2.elim
  | cont => exact hs.elim fun _ z => z.elim fun _ z => z.2.elim
theorem ItM.of0 (F : FunD T.K x qual params body scope dvs kws f fd) (S : FnScope N ps scope) (hb : ItBody T k N qual scope f body c n) (hB : Binds T.K fd ps []) (hj : ps.length = 1) (hN : 0 < N.length) : ItM T (k + 1) f c n := by
  intro A outer s G H u x fs xs Q E hr e0 rx e rr hf h
  refine run_at (us := [u]) (vs := [x]) F S (by rw [hj]; rfl) (fun cdv hr => hb cdv A outer s H E hr) ⟨G, x, fs, xs, by unfold L2.start; rfl, e, rr, hf, h⟩ hr e0 ?_ (.cons rx .nil)
  have := hB s [u] (e0.mod.kin.keeps fun b o q => (e0.bs b o q).1) (by simpa using hj.symm)
  simpa using this
end
section
variable {X : Cx} {c : Cl} {n : Nm} {x f : Str} {p p1 p2 p3 pos : Pos}
/-- return iter(self.F) -/
theorem it_body (hN : X.N[0]? = some x) (hv : Vis X.env.scope x) (hg : Gl X "iter") (hm : X.mg "iter" = none) (hf : n.s = f := by rfl) (hd : (x == ("__debug__" : Str)) = false := by decide) (hcd : (x == ("__classdict__" : Str)) = false := by decide)
    (hb : attributeBase (.Name x p) f X.env (eval (.Name x p) X.env) = eval (.Name x p) X.env := by rfl) (hst : starEach [.Attribute (.Name x p) f p1] X.env = (false, eval (.Attribute (.Name x p) f p1) X.env) :: starEach [] X.env := by rfl) :
    PSs X [.Return (some (.Call (.Name "iter" p2) [.Attribute (.Name x p) f p1] [] p3)) pos] (tIt X.K c n X.s_0.heap.objs.size) := by
  subst hf
  have h := pss_one (ps_ret (pos := pos) (pe_callB (pos := p3) (p := p2) ItX.call_iterN hg hm (by rfl) (pa_cons (pe_fld (pos := p1) (f := n.s) (pe_var (pos := p) hN hv hd hcd) hb) pa_nil hst) (by decide) (by decide) hst rfl))
  refine ⟨fun pins s σ H Dn I q => h.run pins s σ H Dn I ?_⟩
  obtain ⟨G, x, fs, xs, hx, e, r, hl, q⟩ := q
  cases r with
  | obj hG at_ r =>
    obtain ⟨w, e1, r1⟩ := r.lookup hl
    have hm : (n, D.lst xs) ∈ fs := me_fld.mem_of_lookup hl
    cases r1 with
    | lst h1 r1 => exact ⟨_, hx, _, _, _, _, _, rfl, e _ _ hG, at_.1.cls, at_.2 _ hm, e1, _, _, rfl, .inl (e.rd h1), fun it h2 h3 => q _ _ it h1 r1 h2 h3⟩
end
structure ItrF (T : Tk) (k : Nat) (c : Cl) (n : Nm) : Prop where
  ex : ∃ f : Addr, PySem.W.findIn T.K (.ref (ca T.K c)) "__iter__" = some (some (.ref f)) ∧ PySem.W.isFn T.K (.ref f) = true ∧ ItM T k f c n
theorem itB_ok {T : Tk} {k : Nat} {c : Cl} {n : Nm} (e : itB c T.K = true) (F : ItM T k (mA c "__iter__" T.K) c n) : ItrF T k c n := by
  unfold itB fndB at e
  obtain ⟨e1, e2⟩ := Bool.and_eq_true_iff.mp e
  exact ⟨_, of_decide_eq_true e1, e2, F⟩
def itL : D → Res (List D)
  | .lst xs => .ok xs
  | _ => .stuck
def itO (is : Cl → Option Nm) : D → Res (List D)
  | .obj c fs => ofOpt (is c) >>= fun n => ofOpt (fs.lookup n) >>= itL
  | d => itD d
section
variable {X : Cx} {B : Base} {W : WX} {tg : Expr} {k : Nat} {is : Cl → Option Nm}
theorem pyIter_own {pins : List (Addr × Obj)} {s : Shared} {σ : St} {G H : Hp} {a : Addr} {c : Cl} {n : Nm} {fs : List (Nm × D)} {xs : List D} {R : It → Hp → Prop} (I : Inv X pins σ H s) (F : ItrF (tkOf X) k c n) (tk : Takes X W) (hr : Room k X.A) (e : Ext G H) (r : Rep X.K G (.ref a) (.obj c fs)) (hf : fs.lookup n = some (.lst xs))
    (hq : ∀ l ws, Rd G l (.lst ws) → Reps X.K G ws xs → R (Itl X.K l) H) : wpAny (model X.prog X.w) X.A (pyIter (.ref a)) (PIE X pins σ tg R) X.xe s := by
  obtain ⟨f, hs, hfn, M⟩ := F.ex
  obtain ⟨o, dx, od, eo, J, at_, _⟩ := ins_obj (K := X.K) (d := .non) I e r
  cases eo
  obtain ⟨m, hF⟩ := I.fr
  refine PySem.W.owit_iter hF I.ok.mod.kin J hs hfn ?_
  refine wpAny_call (codeAny_mono (M X.A X.stack s G H (.ref a) (.ref a) fs xs (fun v H1 => ∃ l ws it, v = .ref it ∧ H it = none ∧ s.heap.objs.size ≤ it ∧ Rd G l (.lst ws) ∧ Reps X.K G ws xs ∧ H1 = upd H it (ItO l it 0)) (WE W σ) hr I.env0 rfl e r hf (fun l ws it h1 h2 h3 h4 => ⟨l, ws, it, rfl, h3, h4, h1, h2, rfl⟩)) fun r s' z => ?_)
  cases r with
  | error er => exact tk er s' (XE.of_call I (fun _ _ _ h => h) z)
  | ok fl =>
    cases fl with
    | next => exact z
    | brk => exact z
    | cont => exact z
    | ret u =>
      obtain ⟨v, H1, hos, hbr, un, hok, rv, l, ws, it, ev, hn, big, h1, h2, eH⟩ := z
      subst ev
      obtain rfl : u = Value.ref it := rv
      have hit : H1 it = some (ItO l it 0) := by rw [eH, upd_same]
      obtain ⟨v', H', I1, _, ev', eH'⟩ := I.after (Q := fun v' H' => v' = .ref it ∧ H' = H1) ⟨.ref it, H1, hos, hbr, un, hok, (show RelV (.ref it) (Value.ref it) from rfl), rfl, rfl⟩
      subst eH'
      have eo := itO_get I1 hit
      have st : s'.heap.IsListIter it l 0 := ⟨_, eo, rfl, rfl⟩
      have hT : s'.TypeIs (.ref it) "list_iterator" := ⟨_, eo, rfl⟩
      unfold PySem.W.OwitIt
      refine wpAny_specialOf (name := Str.ofString "__next__") hT slot_listiter_next.lookup ?_
      have hi' := hit
      unfold ItO at hi'
      have hd := ItX.inv_drop I1 hi'
      have eD : ItX.dropH H' it = H := by rw [eH]; exact ItX.dropH_upd hn
      refine ⟨it, [it], _, _, ItX.dropH H' it, rfl, hd, turn_list l it, st, fun b hb => ?_, ?_⟩
      · have eb : b = it := by simpa using hb
        rw [eb]
        exact ItX.inv_fp I1 hit (Nat.le_trans I.sz big)
      · rw [eD]
        exact hq l ws h1 h2
theorem ip_own {e : Expr} {m : Ev → Res D} (hi : ∀ c n, is c = some n → ItrF (tkOf X) k c n) (tk : Takes X W) (hr : Room k X.A) (he : PE X e (tM X.K B W m)) : IP X B W tg e (iMap (itO is) m) := by
  refine ⟨fun pins s σ H R I ⟨G, ρ, e0, q⟩ => ?_⟩
  refine thn (he.run pins s σ H (fun v H1 => ∃ G1 d, Ext G1 H1 ∧ Rep X.K G1 v d ∧ RG (ItOk X.K B.H) X.K (fun c d H' => W c d σ H') G1 H1 R (itO is d)) I ⟨G, ρ, e0, RG.bind q fun d G1 v H1 g r q1 => ⟨G1, d, g.sub, r, q1⟩⟩) fun v s1 ⟨x, H1, I1, rx, G1, d, e1, r, q1⟩ => ?_
  have plain : ∀ {a : Addr}, x = .ref a → (((∃ xs, SqL X.K H1 a xs) ∧ R (Itl X.K a) H1) ∨ ((∃ xs, SqT X.K H1 a xs) ∧ R (Itt X.K a) H1)) → wpAny (model X.prog X.w) X.A (pyIter v) (PIE X pins σ tg R) X.xe s1 := fun {a} ex q => by
    subst ex
    obtain rfl : v = Value.ref a := rx
    have fp : ∀ b ∈ [s1.heap.objs.size], FpOk X pins H1 b := fun b hb => by
      have eb : b = s1.heap.objs.size := by simpa using hb
      subst eb
      exact I1.fpOk (Nat.le_refl _) (I1.hok.fresh (Nat.le_refl _))
    rcases q with ⟨⟨xs, hq⟩, q⟩ | ⟨⟨xs, hq⟩, q⟩
    · obtain ⟨its, rv, p, hz⟩ := I1.list hq
      refine wpAny_pyIter_list p.isList ?_
      exact ⟨s1.heap.objs.size, [s1.heap.objs.size], _, _, H1, rfl, I1.kept (t' := s1.toks) fun b o e => Heap.get?_push_of_some _ e, turn_list a _, ⟨_, Heap.get?_push_size _ rfl, rfl, rfl⟩, fp, q⟩
    · obtain ⟨its, rv, p, hz⟩ := I1.tuple hq
      refine wpAny_pyIter_tuple (show s1.heap.IsTuple a its.toArray from p) ?_
      exact ⟨s1.heap.objs.size, [s1.heap.objs.size], _, _, H1, rfl, I1.kept (t' := s1.toks) fun b o e => Heap.get?_push_of_some _ e, turn_tuple a _, ⟨_, Heap.get?_push_size _ rfl, rfl, rfl⟩, fp, q⟩
  cases r with
  | lst h r => exact plain rfl (.inl ⟨⟨_, .inl (e1.rd h)⟩, q1 G1 _ H1 (.refl e1) (itOk_list h r)⟩)
  | tup h r => exact plain rfl (.inr ⟨⟨_, e1.sqt h⟩, q1 G1 _ H1 (.refl e1) (itOk_tup h r)⟩)
  | @obj a dx fv c fs hG at_ r =>
    have q2 : RG (ItOk X.K B.H) X.K (fun c d H' => W c d σ H') G1 H1 R (ofOpt (is c) >>= fun n => ofOpt (fs.lookup n) >>= itL) := q1
    cases hc : is c with
    | none => rw [hc] at q2; exact q2.elim
    | some n =>
      rw [hc, ofOpt_some, ok_bind] at q2
      cases hl : fs.lookup n with
      | none => rw [hl] at q2; exact q2.elim
      | some d =>
        rw [hl, ofOpt_some, ok_bind] at q2
        cases d with
        | lst xs =>
          obtain rfl : v = Value.ref a := rx
          refine pyIter_own I1 (hi c n hc) tk hr e1 (.obj hG at_ r) hl fun l ws h1 h2 => q2 G1 _ H1 (.refl e1) (itOk_list h1 h2)
        | _ => exact q2.elim
  | _ => exact q1.elim
end
end PL
namespace PL
open PySem PySem.Spec L2
open PyProof.Rows (b2i)
section
variable {X : Cx} {B : Base} {W : WX} {pos : Pos} {ma : Ev → Res D} {e e2 : Expr} {ms : Ev → Res (List D)}
/-- x.insert(k, e) -/
def insOut (xs : List D) (i : Nat) : List D → Ev → Out
  | [.int k, d], ρ => oChk (xs.length < sizeLine ∧ 0 ≤ k ∧ k < 2 ^ 63) (.nx (ρ.set i (.own (xs.take k.toNat ++ [d] ++ xs.drop k.toNat))))
  | _, _ => .stuck
def oIns (i : Nat) (ms : Ev → Res (List D)) : Ev → Out := oOwn i fun xs ρ => Out.of (ms ρ) ρ fun ds => insOut xs i ds ρ
theorem ms_ins (i : Nat) {x : Str} {p1 p2 p3 : Pos} (he : PA X [e, e2] (tMA X.K B W ms)) (hN : X.N[i]? = some x := by rfl) (hv : Vis X.env.scope x := by first | exact Or.inl rfl | exact Or.inr (Or.inl rfl) | exact Or.inr (Or.inr rfl)) (hd : (x == ("__debug__" : Str)) = false := by decide) (hcd : (x == ("__classdict__" : Str)) = false := by decide)
    (hbase : attributeBase (.Name x p1) "insert" X.env (eval (.Name x p1) X.env) = eval (.Name x p1) X.env := by rfl)
    (hfew : ((backTo p3 (starEach [e, e2] X.env)).all (fun x => !x.1) && (backToKw p3 (keywordEach [] X.env)).all (fun x => x.1.isSome) && decide (([e, e2] : List Expr).length + ([] : List Keyword).length + (if ([] : List Keyword).isEmpty then 0 else 1) < 30)) = true := by rfl)
    (hline : (p2.endLine == p3.line) = true := by rfl) (hs : starEach [e, e2] X.env = (false, eval e X.env) :: starEach [e2] X.env := by rfl) (hplain : (backTo p3 (starEach [e2] X.env)).any (·.1) = false := by rfl)
    (hsw : swapsWith (.Call (.Attribute (.Name x p1) "insert" p2) [e, e2] [] p3) none pos.line X.env = pure false := by rfl) :
    PS X (.Expr (.Call (.Attribute (.Name x p1) "insert" p2) [e, e2] [] p3) pos) (tS X.K B W (oIns i ms)) :=
  PS.imp (ps_expr (pe_bm PySem.F.plainAttrs_list PySem.F.slot_list_insert PySem.F.type_list_insert mt_insert (pe_var (i := i) hN hv hd hcd) he hbase hfew hline hs hplain) hsw) fun Dn σ H ⟨G, ρ, e, q⟩ => by
    obtain ⟨xs, hx, q⟩ := SG.own q
    obtain ⟨l, vs, hv, hl, r, gl, bl⟩ := own_at e hx
    refine ⟨_, hv, .inl ⟨rfl, vs, .of hl⟩, G, ρ, e, SG.of e q fun ds G1 us H1 _ g e1 rv q1 => ?_⟩
    cases rv with
    | nil => exact q1.elim
    | cons r1 rv =>
      cases rv with
      | nil => cases r1 <;> exact q1.elim
      | cons r2 rv =>
        cases rv with
        | cons _ _ => cases r1 <;> exact q1.elim
        | nil =>
          cases r1 with
          | int k =>
            obtain ⟨z, q1⟩ := SG.chk q1
            obtain ⟨k1, k2⟩ := g.keeps hl gl
            have r0 := r.mono g.g
            exact ⟨l, vs, k, _, rfl, rfl, k1, by rw [r.length]; exact z.1, z.2.1, z.2.2, q1 G1 σ _ (own_put e1 hx hv k2 bl (((r0.take k.toNat).append (.cons r2 .nil)).append (r0.drop k.toNat)))⟩
          | _ => exact q1.elim
/-- x.clear() -/
def oClr (i : Nat) : Ev → Out := oOwn i fun _ ρ => .nx (ρ.set i (.own []))
theorem ms_clr (i : Nat) {x : Str} {p1 p2 p3 : Pos} (hN : X.N[i]? = some x := by rfl) (hv : Vis X.env.scope x := by first | exact Or.inl rfl | exact Or.inr (Or.inl rfl) | exact Or.inr (Or.inr rfl)) (hd : (x == ("__debug__" : Str)) = false := by decide) (hcd : (x == ("__classdict__" : Str)) = false := by decide)
    (hbase : attributeBase (.Name x p1) "clear" X.env (eval (.Name x p1) X.env) = eval (.Name x p1) X.env := by rfl) (hline : (p2.endLine == p3.line) = true := by rfl)
    (hsw : swapsWith (.Call (.Attribute (.Name x p1) "clear" p2) [] [] p3) none pos.line X.env = pure false := by rfl) :
    PS X (.Expr (.Call (.Attribute (.Name x p1) "clear" p2) [] [] p3) pos) (tS X.K B W (oClr i)) :=
  PS.imp (ps_expr (pe_bm0 PySem.F.plainAttrs_list PySem.F.slot_list_clear PySem.F.type_list_clear mt_clear (pe_var (i := i) hN hv hd hcd) hbase hline) hsw) fun Dn σ H ⟨G, ρ, e, q⟩ => by
    obtain ⟨xs, hx, q⟩ := SG.own q
    obtain ⟨l, vs, hv, hl, r, gl, bl⟩ := own_at e hx
    exact ⟨_, hv, .inl ⟨rfl, vs, .of hl⟩, l, vs, rfl, rfl, hl, q G σ _ (own_put e hx hv gl bl .nil)⟩
/-- x.pop(), its value left -/
def oPop (i : Nat) : Ev → Out := oOwn i fun xs ρ => oChk (0 < xs.length) (.nx (ρ.set i (.own xs.dropLast)))
theorem Reps.dropLast {K : PySem.W.Frag} {G : Hp} {vs : List V} {ds : List D} (r : Reps K G vs ds) : Reps K G vs.dropLast ds.dropLast := by
  rw [List.dropLast_eq_take, List.dropLast_eq_take, r.length]
  exact r.take _
theorem ms_pop (i : Nat) {x : Str} {p1 p2 p3 : Pos} (hN : X.N[i]? = some x := by rfl) (hv : Vis X.env.scope x := by first | exact Or.inl rfl | exact Or.inr (Or.inl rfl) | exact Or.inr (Or.inr rfl)) (hd : (x == ("__debug__" : Str)) = false := by decide) (hcd : (x == ("__classdict__" : Str)) = false := by decide)
    (hbase : attributeBase (.Name x p1) "pop" X.env (eval (.Name x p1) X.env) = eval (.Name x p1) X.env := by rfl) (hline : (p2.endLine == p3.line) = true := by rfl)
    (hsw : swapsWith (.Call (.Attribute (.Name x p1) "pop" p2) [] [] p3) none pos.line X.env = pure false := by rfl) :
    PS X (.Expr (.Call (.Attribute (.Name x p1) "pop" p2) [] [] p3) pos) (tS X.K B W (oPop i)) :=
  PS.imp (ps_expr (pe_bm0 PySem.F.plainAttrs_list PySem.F.slot_list_pop PySem.F.type_list_pop mt_pop (pe_var (i := i) hN hv hd hcd) hbase hline) hsw) fun Dn σ H ⟨G, ρ, e, q⟩ => by
    obtain ⟨xs, hx, q⟩ := SG.own q
    obtain ⟨z, q⟩ := SG.chk q
    obtain ⟨l, vs, hv, hl, r, gl, bl⟩ := own_at e hx
    have hlen : vs.length - 1 < vs.length := by rw [r.length]; omega
    exact ⟨_, hv, .inl ⟨rfl, vs, .of hl⟩, l, vs, _, rfl, rfl, hl, List.getElem?_eq_getElem hlen, q G σ _ (own_put e hx hv gl bl r.dropLast)⟩
/-- s.index(t), found -/
def sidxD : D → D → Res D
  | .str a, .str b => match Builtin.Str.occurrences a b 0 a.length 1 with
    | k :: _ => .ok (.int (k : Nat))
    | [] => .stuck
  | _, _ => .stuck
def mSidx (mo me : Ev → Res D) : Ev → Res D := fun ρ => mo ρ >>= fun a => match a with
  | .str z => me ρ >>= sidxD (.str z)
  | _ => .stuck
theorem me_sidx {o : Expr} {mo me : Ev → Res D} {apos : Pos} (ho : PE X o (tM X.K B W mo)) (he : PE X e (tM X.K B W me)) (hs : starEach [e] X.env = [(false, eval e X.env)] := by rfl) (hbase : attributeBase o "index" X.env (eval o X.env) = eval o X.env := by rfl) (hline : (apos.endLine == pos.line) = true := by rfl) :
    PE X (.Call (.Attribute o "index" apos) [e] [] pos) (tM X.K B W (mSidx mo me)) :=
  PE.imp (pe_m1 PySem.F.slot_str_index PySem.F.type_str_index mt_sindex ho he hs hbase hline) fun σ H Q ⟨G, ρ, e0, q⟩ => ⟨G, ρ, e0, RG.bind q fun a G1 x H1 g1 r1 q1 => by
    cases r1 with
    | str z =>
      have q1' : RG (Rep X.K) X.K (fun c d H' => W c d σ H') G1 H1 Q (me ρ >>= sidxD (.str z)) := q1
      refine ⟨⟨z, rfl⟩, G1, ρ, e0.growN g1, RG.bind q1' fun b G2 y H2 g2 r2 q2 => ?_⟩
      cases r2 with
      | str w =>
        have q2' : RG (Rep X.K) X.K (fun c d H' => W c d σ H') G2 H2 Q (match Builtin.Str.occurrences z w 0 z.length 1 with | k :: _ => Res.ok (D.int (k : Nat)) | [] => .stuck) := q2
        cases ho : Builtin.Str.occurrences z w 0 z.length 1 with
        | nil => rw [ho] at q2'; exact q2'.elim
        | cons k rest =>
          rw [ho] at q2'
          exact ⟨z, w, k, rest, rfl, rfl, ho, RG.here g2.sub q2' (.int _)⟩
      | _ => exact q2.elim
    | _ => exact q1.elim⟩
/-- t < u of tuples of whole numbers (numbers, too) -/
def ltT : D → D → Res D
  | .tup xs, .tup ys => ofOpt (intsD xs) >>= fun ns => ofOpt (intsD ys) >>= fun ms => .ok (.bl (HT.lexLt ns ms))
  | a, b => ltD a b
theorem op_ltTD (hu : X.A.units < cLine) : OpM X W (compareOp .Lt) ltT := by
  intro pins s σ G H x y v u a b Q I rx ry e ra rb q
  have base : RG (Rep X.K) X.K (fun c d H' => W c d σ H') G H Q (ltD a b) → wpAny (model X.prog X.w) X.A (compareOp .Lt v u) (EP X pins σ Q) X.xe s := fun q => op_ltD.m pins s σ G H x y v u a b Q I rx ry e ra rb q
  cases a with
  | tup xs =>
    cases b with
    | tup ys =>
      have q0 : RG (Rep X.K) X.K (fun c d H' => W c d σ H') G H Q (ofOpt (intsD xs) >>= fun ns => ofOpt (intsD ys) >>= fun ms => .ok (.bl (HT.lexLt ns ms))) := q
      obtain ⟨ns, ms, hn, hm, q2⟩ : ∃ ns ms, intsD xs = some ns ∧ intsD ys = some ms ∧ RG (Rep X.K) X.K (fun c d H' => W c d σ H') G H Q (.ok (.bl (HT.lexLt ns ms))) := by
        cases h1 : intsD xs with
        | none => rw [h1] at q0; exact q0.elim
        | some ns =>
          cases h2 : intsD ys with
          | none => rw [h1, h2] at q0; exact q0.elim
          | some ms => rw [h1, h2] at q0; exact ⟨ns, ms, rfl, rfl, q0⟩
      cases ra with
      | tup h1 r1 =>
        cases rb with
        | tup h2 r2 => exact op_ltT hu pins s σ H _ _ v u Q I rx ry ⟨_, _, ns, ms, rfl, rfl, by rw [← r1.ints hn]; exact e.sqt h1, by rw [← r2.ints hm]; exact e.sqt h2, RG.here e q2 (.bl _)⟩
    | _ => exact base q
  | _ => exact base q
end
section
variable {Q : D → Prop} {E : Err → Prop} {P : Po} {ρ : Ev} {i : Nat} {mo me : Ev → Res D} {ms : Ev → Res (List D)}
@[simp] theorem wm_sidx : wr (mSidx mo me ρ) Q E = wr (mo ρ) (fun a => match a with | .str z => wr (me ρ) (fun b => wr (sidxD (.str z) b) Q E) E | _ => False) E := by
  with_unfolding_all
    unfold mSidx
    rw [wr_bind]
    congr
    funext a
    cases a with
    | str z => exact wr_bind
    | _ => rfl
def insP (xs : List D) (i : Nat) (P : Po) (ρ : Ev) : List D → Prop
  | [.int k, d] => (xs.length < sizeLine ∧ 0 ≤ k ∧ k < 2 ^ 63) ∧ P.nx (ρ.set i (.own (xs.take k.toNat ++ [d] ++ xs.drop k.toNat)))
  | _ => False
@[simp] theorem wp_ins : wp (oIns i ms) P ρ = match ρ[i]? with | some (.own xs) => wr (ms ρ) (insP xs i P ρ) (fun e => P.exc e ρ) | _ => False := by
  with_unfolding_all
    unfold wp oIns oOwn ownOf
    cases ρ[i]? with
    | none => rfl
    | some sl =>
      cases sl with
      | own xs =>
        show ends P (Out.of (ms ρ) ρ _) = _
        rw [ends_of]
        congr
        funext ds
        unfold insOut insP
        split
        · rename_i k d
          unfold oChk
          by_cases z : xs.length < sizeLine ∧ 0 ≤ k ∧ k < 2 ^ 63
          · rw [if_pos z]; exact propext ⟨fun h => ⟨z, h⟩, fun h => h.2⟩
          · rw [if_neg z]; exact propext ⟨fun h => h.elim, fun h => absurd h.1 z⟩
        · rename_i h
          split
          · rename_i k d
            exact absurd rfl (h k d)
          · rfl
      | _ => rfl
@[simp] theorem insP_2 {xs : List D} {k : Int} {d : D} : insP xs i P ρ [.int k, d] = ((xs.length < sizeLine ∧ 0 ≤ k ∧ k < 2 ^ 63) ∧ P.nx (ρ.set i (.own (xs.take k.toNat ++ [d] ++ xs.drop k.toNat)))) := id rfl
@[simp] theorem wp_clr : wp (oClr i) P ρ = match ρ[i]? with | some (.own _) => P.nx (ρ.set i (.own [])) | _ => False := by
  with_unfolding_all
    unfold wp oClr oOwn ownOf
    cases ρ[i]? with
    | none => rfl
    | some s => cases s <;> rfl
@[simp] theorem wp_pop : wp (oPop i) P ρ = match ρ[i]? with | some (.own xs) => 0 < xs.length ∧ P.nx (ρ.set i (.own xs.dropLast)) | _ => False := by
  with_unfolding_all
    unfold wp oPop oOwn ownOf
    cases ρ[i]? with
    | none => rfl
    | some s =>
      cases s with
      | own xs =>
        show ends P (oChk _ _) = _
        unfold oChk
        by_cases z : 0 < xs.length
        · rw [if_pos z]; exact propext ⟨fun h => ⟨z, h⟩, fun h => h.2⟩
        · rw [if_neg z]; exact propext ⟨fun h => h.elim, fun h => absurd h.1 z⟩
      | _ => rfl
@[simp] theorem wo_ltT {ns ms : List Int} : wr (ltT (.tup (ns.map D.int)) (.tup (ms.map D.int))) Q E = Q (.bl (HT.lexLt ns ms)) := by
  with_unfolding_all
    show wr (ofOpt (intsD (ns.map D.int)) >>= fun ns => ofOpt (intsD (ms.map D.int)) >>= fun ms => .ok (.bl (HT.lexLt ns ms))) Q E = _
    rw [ints_map, ints_map]
    rfl
@[simp] theorem wo_ltTI {a b : Int} : wr (ltT (.int a) (.int b)) Q E = Q (.bl (decide (a < b))) := by with_unfolding_all exact id rfl
section
variable {ps : Cl → Option (List D → Res D)} {c : Cl} {fs : List (Nm × D)} {g : List D → Res D} {xs : List D} {b : D}
theorem wo_lenO (h : ps c = some g) : wr (lenO ps [.obj c fs]) Q E = wr (g [.obj c fs]) (fun d => wr (lenBackD d) Q E) E := by
  with_unfolding_all
    show wr (ofOpt (ps c) >>= fun g => g [.obj c fs] >>= lenBackD) Q E = _
    rw [h, ofOpt_some, ok_bind, wr_bind]
@[simp] theorem wo_lenBack {n : Int} : wr (lenBackD (.int n)) Q E = ((0 ≤ n ∧ n < 2 ^ 63) ∧ Q (.int n)) := by with_unfolding_all exact wr_chk
@[simp] theorem lenO_lst : lenO ps [.lst xs] = lenD [.lst xs] := id rfl
@[simp] theorem lenO_tup : lenO ps [.tup xs] = lenD [.tup xs] := id rfl
theorem wo_inO {a : D} (h : ps c = some g) : wr (inO ps a (.obj c fs)) Q E = wr (g [.obj c fs, a]) (fun d => wr (blBackD id d) Q E) E := by
  with_unfolding_all
    have e : inO ps a (.obj c fs) = (ofOpt (ps c) >>= fun g => g [.obj c fs, a] >>= blBackD id) := by cases a <;> rfl
    rw [e, h, ofOpt_some, ok_bind, wr_bind]
theorem wo_ninO {a : D} (h : ps c = some g) : wr (ninO ps a (.obj c fs)) Q E = wr (g [.obj c fs, a]) (fun d => wr (blBackD not d) Q E) E := by
  with_unfolding_all
    have e : ninO ps a (.obj c fs) = (ofOpt (ps c) >>= fun g => g [.obj c fs, a] >>= blBackD not) := by cases a <;> rfl
    rw [e, h, ofOpt_some, ok_bind, wr_bind]
@[simp] theorem wo_blBack {f : Bool → Bool} {k : Bool} : wr (blBackD f (.bl k)) Q E = Q (.bl (f k)) := by with_unfolding_all exact id rfl
theorem wo_ownNe {base : D → D → Res D} (h : ps c = some g) (sc : sameCl c b = true) : wr (ownN base ps (.obj c fs) b) Q E = wr (g [.obj c fs, b]) (fun d => wr (blBackD not d) Q E) E := by
  with_unfolding_all
    show wr (ofOpt (ps c) >>= fun g => chk (sameCl c b = true) (g [.obj c fs, b] >>= blBackD not)) Q E = _
    rw [h, ofOpt_some, ok_bind, wr_chk, wr_bind]
    exact propext ⟨fun h => h.2, fun h => ⟨sc, h⟩⟩
@[simp] theorem ownN_int {base : D → D → Res D} {k : Int} : ownN base ps (.int k) b = base (.int k) b := id rfl
@[simp] theorem ownN_lst {base : D → D → Res D} : ownN base ps (.lst xs) b = base (.lst xs) b := id rfl
@[simp] theorem ownN_tup {base : D → D → Res D} : ownN base ps (.tup xs) b = base (.tup xs) b := id rfl
end
section
variable {is : Cl → Option Nm} {c : Cl} {fs : List (Nm × D)} {xs : List D} {n : Nm} {Q : List D → Prop}
theorem wo_itO (h : is c = some n) (hl : fs.lookup n = some (.lst xs)) : wr (itO is (.obj c fs)) Q E = Q xs := by
  with_unfolding_all
    show wr (ofOpt (is c) >>= fun n => ofOpt (fs.lookup n) >>= itL) Q E = _
    rw [h, ofOpt_some, ok_bind, hl, ofOpt_some, ok_bind]
    rfl
@[simp] theorem itO_lst : itO is (.lst xs) = itD (.lst xs) := id rfl
@[simp] theorem itO_tup : itO is (.tup xs) = itD (.tup xs) := id rfl
end
end
end PL
namespace PL
open PySem PySem.Spec L2 PySem.Calls
open PyProof.Rows (b2i)
namespace MC
theorem entry_comb : entryFor table "math.comb" = some Builtin.«math.comb» := entryFor_of_tree (by kernel_rfl)
theorem kind_comb : builtinKind "math.comb" = none := by kernel_rfl
theorem plain_comb : plainId "math.comb" = true := by decide +kernel
theorem args_comb (a b : Value) : argsOk "math.comb" ⟨[a, b], []⟩ := by unfold argsOk; kernel_rfl
end MC
/-- n over k -/
def combI (n k : Int) : Int := Builtin.Math.fallingProduct n (min k (n - k)).toNat / Builtin.Math.fallingProduct (min k (n - k)) (min k (n - k)).toNat
theorem run_comb (a : Int) (t : Tok) (b : Int) (u : Tok) (h0 : ¬ a < 0) (h1 : ¬ b < 0) (h2 : ¬ b > a) (h3 : ¬ min b (a - b) > Builtin.Math.maxSsize) (h4 : ¬ min b (a - b) > Builtin.Math.manyFactors) (h5 : ¬ min b (a - b) > 9000) (hsz : (combI a b).natAbs.log2 < bitsLine) :
    Gives (Builtin.«math.comb» ⟨[.int a t, .int b u], []⟩) (.int (combI a b)) :=
  .of_wp fun M A E s Q h => by
    obtain ⟨hp, g, d, tk, os⟩ := s
    wp_walk
    refine wpAny_ite_false (decide_eq_false (Nat.not_le.mpr hsz)) ?_
    wp_walk
    exact ⟨_, rfl, h⟩
def combD : List D → Res D
  | [.int a, .int b] => chk (0 ≤ b ∧ b ≤ a ∧ a ≤ 100 ∧ (combI a b).natAbs.log2 < 1000) (.ok (.int (combI a b)))
  | _ => .stuck
def lcmI (a b : Int) : Int := ((Nat.lcm 1 a.natAbs).lcm b.natAbs : Nat)
def lcmD : List D → Res D
  | [.int a, .int b] => chk (a.natAbs.log2 ≤ 9000 ∧ b.natAbs.log2 ≤ 9000 ∧ (lcmI a b).natAbs.log2 < 100000000) (.ok (.int (lcmI a b)))
  | _ => .stuck
theorem two_ints {K : PySem.W.Frag} {G : Hp} {xs : List V} {ds : List D} {R : Res D → Prop} {g : List D → Res D} (r : Reps K G xs ds) (hg : ∀ ds, (∀ a b, ds ≠ [.int a, .int b]) → g ds = .stuck) (h0 : ¬ R .stuck) (h : R (g ds)) : ∃ a b, ds = [.int a, .int b] ∧ xs = [.int a, .int b] := by
  refine Classical.byContradiction fun z => ?_
  refine h0 ?_
  rw [← hg ds fun a b e => ?_]
  · exact h
  · subst e
    cases r with
    | cons r1 r =>
      cases r with
      | cons r2 r =>
        cases r
        cases r1
        cases r2
        exact z ⟨a, b, rfl, rfl⟩
section
variable {X : Cx} {W : WX}
theorem call_combD : CallM X W (.builtin "math.comb") combD := by
  intro pins s σ G H xs us ds Q I rv e rr q
  obtain ⟨a, b, rfl, rfl⟩ := two_ints (R := RG (Rep X.K) X.K (fun c d H' => W c d σ H') G H Q) (g := combD) rr (fun ds h => by
    unfold combD
    split
    · rename_i a b
      exact absurd rfl (h a b)
    · rfl) (fun z => z) q
  obtain ⟨⟨h0, h1, h2, h3⟩, q⟩ := RG.chk q
  obtain ⟨t, u, rfl⟩ := Vals.int2 rv
  have z1 : Builtin.Math.maxSsize = 2 ^ 63 - 1 := rfl
  have z2 : Builtin.Math.manyFactors = 20000 := rfl
  refine call_function_meets MC.kind_comb MC.plain_comb MC.entry_comb (MC.args_comb _ _) (run_comb a t b u (by omega) (by omega) (by omega) (by rw [z1]; omega) (by rw [z2]; omega) (by omega) (Nat.lt_of_lt_of_le h3 (by decide))).meets ?_
  exact ⟨.int _, H, I.tok _, ⟨_, rfl⟩, RG.here e q (.int _)⟩
theorem call_lcmD : CallM X W (.builtin "math.lcm") lcmD := by
  intro pins s σ G H xs us ds Q I rv e rr q
  obtain ⟨a, b, rfl, rfl⟩ := two_ints (R := RG (Rep X.K) X.K (fun c d H' => W c d σ H') G H Q) (g := lcmD) rr (fun ds h => by
    unfold lcmD
    split
    · rename_i a b
      exact absurd rfl (h a b)
    · rfl) (fun z => z) q
  obtain ⟨⟨h0, h1, h3⟩, q⟩ := RG.chk q
  obtain ⟨t, u, rfl⟩ := Vals.int2 rv
  have hm : ∀ x y : Nat, x.log2 ≤ 9000 → y.log2 ≤ 9000 → (max x y).log2 ≤ 9000 := fun x y hx hy => by
    rcases Nat.le_total x y with z | z
    · rw [Nat.max_eq_right z]; exact hy
    · rw [Nat.max_eq_left z]; exact hx
  have l1 : (1 : Nat).log2 ≤ 9000 := by decide
  have m1 := hm 1 a.natAbs l1 h0
  have m2 := hm a.natAbs b.natAbs h0 h1
  refine call_function_meets PySem.W.MGF.kind_lcm PySem.W.MGF.plain_lcm PySem.W.MGF.entry_lcm (PySem.W.MGF.args_lcm _ _) (PySem.W.mg_run_lcm a t b u (by omega) (by omega) (Nat.lt_of_lt_of_le h3 (by decide))).meets ?_
  exact ⟨.int _, H, I.tok _, ⟨_, rfl⟩, RG.here e q (.int _)⟩
end
section
variable {Q : D → Prop} {E : Err → Prop} {a b : Int}
@[simp] theorem wo_comb : wr (combD [.int a, .int b]) Q E = ((0 ≤ b ∧ b ≤ a ∧ a ≤ 100 ∧ (combI a b).natAbs.log2 < 1000) ∧ Q (.int (combI a b))) := by with_unfolding_all exact wr_chk
@[simp] theorem wo_lcm : wr (lcmD [.int a, .int b]) Q E = ((a.natAbs.log2 ≤ 9000 ∧ b.natAbs.log2 ≤ 9000 ∧ (lcmI a b).natAbs.log2 < 100000000) ∧ Q (.int (lcmI a b))) := by with_unfolding_all exact wr_chk
end
end PL
namespace PL
open PySem PySem.Spec L2
open PyProof.Rows (b2i)
def sgD (c : Nat) : D := .str ⟨#[c]⟩
def itS : D → Res (List D)
  | .str x => .ok (x.cps.toList.map sgD)
  | _ => .stuck
section
variable {X : Cx} {B : Base} {W : WX} {tg : Expr}
theorem itOk_str {K : PySem.W.Frag} {H0 G1 : Hp} (x : Str) : ItOk K H0 G1 (Its x) (x.cps.toList.map sgD) := by
  refine fun i G H e1 _ e2 => ⟨fun h => (show x.cps.size ≤ i by simpa using h), fun d hd => ?_⟩
  rw [List.getElem?_map] at hd
  obtain ⟨c, hc, rfl⟩ := Option.map_eq_some_iff.mp hd
  have hc' : x.cps[i]? = some c := by simpa using hc
  refine ⟨(Array.getElem?_eq_some_iff.mp hc').1, fun v H' y => ?_⟩
  obtain ⟨rfl, c', h1, rfl⟩ := y
  rw [hc'] at h1
  cases h1
  exact ⟨G, .refl e2, .str _⟩
theorem ip_str {e : Expr} {m : Ev → Res D} (he : PE X e (tM X.K B W m)) : IP X B W tg e (iMap itS m) :=
  PI.imp (pi_str he) fun σ H R ⟨G, ρ, e0, q⟩ => ⟨G, ρ, e0, RG.bind q fun d G1 v H1 g r q1 => by
    cases r with
    | str x => exact ⟨x, rfl, q1 G1 _ H1 (.refl g.sub) (itOk_str x)⟩
    | _ => exact q1.elim⟩
end
def inP : D → D → Res D
  | a, .lst ys => chk (flat a = true ∧ flats ys = true ∧ SeqAt.shaped (toPy a) = true ∧ SeqAt.shaped (.list (toPys ys)) = true) (.ok (.bl ((toPys ys).any fun z => PyData.eqv z (toPy a))))
  | _, _ => .stuck
def ninP (a b : D) : Res D := inP a b >>= fun r => match r with
  | .bl k => .ok (.bl (!k))
  | _ => .stuck
section
variable {X : Cx} {W : WX}
theorem in_data {G H : Hp} {x y : V} {a b : D} {E : XK} {Q : VK} (e : Ext G H) (ra : Rep X.K G x a) (rb : Rep X.K G y b) {f : Bool → Bool} (q : RG (Rep X.K) X.K E G H Q (inP a b >>= blBackD f)) :
    ∃ d ds, Dp X.K H x d ∧ Dp X.K H y (.list ds) ∧ SeqAt.shaped d = true ∧ SeqAt.shaped (.list ds) = true ∧ Q (.bl (f (ds.any fun z => PyData.eqv z d))) H := by
  cases b with
  | lst ys =>
    have q0 : RG (Rep X.K) X.K E G H Q (chk (flat a = true ∧ flats ys = true ∧ SeqAt.shaped (toPy a) = true ∧ SeqAt.shaped (.list (toPys ys)) = true) (.ok (.bl ((toPys ys).any fun z => PyData.eqv z (toPy a)))) >>= blBackD f) := q
    by_cases z : flat a = true ∧ flats ys = true ∧ SeqAt.shaped (toPy a) = true ∧ SeqAt.shaped (.list (toPys ys)) = true
    · rw [chk_pos z, ok_bind] at q0
      exact ⟨_, _, toPy_rep e ra z.1, toPy_rep (d := .lst ys) e rb z.2.1, z.2.2.1, z.2.2.2, RG.here e q0 (.bl _)⟩
    · unfold chk at q0
      rw [if_neg z] at q0
      exact q0.elim
  | _ => exact q.elim
theorem room65 {k : Nat} {A : Around} (hr : Room k A) : A.units + 65 < cLine := by have := hr.un; omega
theorem op_inPD {k : Nat} (hr : Room k X.A) : OpM X W (compareOp .In) inP := by
  intro pins s σ G H x y v u a b Q I rx ry e ra rb q
  refine op_inD (room65 hr) pins s σ H x y v u Q I rx ry (in_data (E := fun c d H' => W c d σ H') (f := id) e ra rb ?_)
  have eid : (inP a b >>= blBackD id) = inP a b := by
    cases h : inP a b with
    | ok r =>
      unfold inP at h
      split at h
      · unfold chk at h
        split at h
        · cases h; rfl
        · cases h
      · cases h
    | exc _ => rfl
    | stuck => rfl
  rw [eid]
  exact q
theorem op_ninPD {k : Nat} (hr : Room k X.A) : OpM X W (compareOp .NotIn) ninP := by
  intro pins s σ G H x y v u a b Q I rx ry e ra rb q
  exact op_notInD (room65 hr) pins s σ H x y v u Q I rx ry (in_data (E := fun c d H' => W c d σ H') (f := not) e ra rb q)
end
section
variable {Q : D → Prop} {E : Err → Prop}
@[simp] theorem wo_itS {x : Str} {Q : List D → Prop} : wr (itS (.str x)) Q E = Q (x.cps.toList.map sgD) := by with_unfolding_all exact id rfl
theorem wo_inSg {c : Nat} {z : Str} : wr (inD (sgD c) (.str z)) Q E = Q (.bl (decide (c ∈ z.cps.toList))) := by
  with_unfolding_all
    show Q (.bl (!(Builtin.Str.occurrences z ⟨#[c]⟩ 0 z.length 1).isEmpty)) = _
    rw [show (!(Builtin.Str.occurrences z ⟨#[c]⟩ 0 z.length 1).isEmpty) = decide (c ∈ z.cps.toList) from PySem.StrLaws.found_one z c]
/-- tuples of whole numbers -/
def tupI (ns : List Int) : D := .tup (ns.map .int)
theorem toPys_ints : ∀ ns : List Int, toPys (ns.map D.int) = ns.map PyData.int
  | [] => rfl
  | n :: ns => by
    show PyData.int n :: toPys (ns.map D.int) = _
    rw [toPys_ints ns]
    rfl
theorem flats_ints : ∀ ns : List Int, flats (ns.map D.int) = true
  | [] => rfl
  | n :: ns => by
    show (true && flats (ns.map D.int)) = true
    rw [flats_ints ns]
    rfl
theorem eqvAll_ints : ∀ a b : List Int, PyData.eqvAll (a.map .int) (b.map .int) = decide (a = b)
  | [], [] => rfl
  | [], _ :: _ => rfl
  | _ :: _, [] => rfl
  | x :: a, y :: b => by
    show ((x == y) && PyData.eqvAll (a.map .int) (b.map .int)) = _
    rw [eqvAll_ints a b]
    by_cases h : x = y
    · by_cases h2 : a = b
      · simp [h, h2]
      · simp [h, h2]
    · simp [h]
theorem canLay_ints : ∀ ns : List Int, PyData.canLayAll0 (ns.map .int) = true
  | [] => rfl
  | n :: ns => by
    show (true && PyData.canLayAll0 (ns.map .int)) = true
    rw [canLay_ints ns]
    rfl
theorem depth_ints : ∀ ns : List Int, PyData.depthAll (ns.map .int) = 0
  | [] => rfl
  | n :: ns => by
    show max 0 (PyData.depthAll (ns.map .int)) = 0
    rw [depth_ints ns]
    rfl
/-- rows of whole numbers, in tuples -/
theorem toPys_tups : ∀ ts : List (List Int), toPys (ts.map tupI) = ts.map fun t => PyData.tuple (t.map .int)
  | [] => rfl
  | t :: ts => by
    show PyData.tuple (toPys (t.map D.int)) :: toPys (ts.map tupI) = _
    rw [toPys_tups ts, toPys_ints]
    rfl
theorem flats_tups : ∀ ts : List (List Int), flats (ts.map tupI) = true
  | [] => rfl
  | t :: ts => by
    show (flats (t.map D.int) && flats (ts.map tupI)) = true
    rw [flats_tups ts, flats_ints]
    rfl
theorem canLay_tups : ∀ ts : List (List Int), PyData.canLayAll0 (ts.map fun t => PyData.tuple (t.map .int)) = true
  | [] => rfl
  | t :: ts => by
    show (PyData.canLayAll0 (t.map .int) && PyData.canLayAll0 (ts.map fun t => PyData.tuple (t.map .int))) = true
    rw [canLay_ints, canLay_tups ts]
    rfl
theorem depth_tups : ∀ ts : List (List Int), PyData.depthAll (ts.map fun t => PyData.tuple (t.map .int)) ≤ 1
  | [] => Nat.zero_le _
  | t :: ts => by
    show max (PyData.depthAll (t.map .int) + 1) (PyData.depthAll (ts.map fun t => PyData.tuple (t.map .int))) ≤ 1
    have := depth_tups ts
    rw [depth_ints]
    omega
theorem shaped_tup (t : List Int) : SeqAt.shaped (.tuple (t.map .int)) = true := by
  unfold SeqAt.shaped
  have h1 : PyData.canLay0 (.tuple (t.map .int)) = true := canLay_ints t
  have h2 : PyData.depth (.tuple (t.map .int)) = 1 := by show PyData.depthAll (t.map .int) + 1 = 1; rw [depth_ints]
  rw [h1, h2]
  decide
theorem shaped_tups (ts : List (List Int)) : SeqAt.shaped (.list (ts.map fun t => PyData.tuple (t.map .int))) = true := by
  unfold SeqAt.shaped
  have h1 : PyData.canLay0 (.list (ts.map fun t => PyData.tuple (t.map .int))) = true := canLay_tups ts
  have h2 : PyData.depth (.list (ts.map fun t => PyData.tuple (t.map .int))) ≤ 64 := by
    show PyData.depthAll (ts.map fun t => PyData.tuple (t.map .int)) + 1 ≤ 64
    have := depth_tups ts
    omega
  rw [h1, decide_eq_true h2]
  rfl
theorem any_tups {a : List Int} : ∀ ys : List (List Int), ((ys.map fun t => PyData.tuple (t.map .int)).any fun z => PyData.eqv z (.tuple (a.map .int))) = decide (a ∈ ys)
  | [] => by simp
  | y :: ys => by
    rw [List.map_cons, List.any_cons, any_tups ys]
    have e : PyData.eqv (.tuple (y.map .int)) (.tuple (a.map .int)) = decide (y = a) := eqvAll_ints y a
    rw [e]
    by_cases h : y = a
    · simp [h]
    · by_cases h2 : a ∈ ys
      · simp [h2]
      · have : ¬ a = y := fun z => h z.symm
        simp [h, h2, this]
theorem wo_inP {a : List Int} {ys : List (List Int)} : wr (inP (tupI a) (.lst (ys.map tupI))) Q E = Q (.bl (decide (a ∈ ys))) := by
  with_unfolding_all
    have e : inP (tupI a) (.lst (ys.map tupI)) = chk (flat (tupI a) = true ∧ flats (ys.map tupI) = true ∧ SeqAt.shaped (toPy (tupI a)) = true ∧ SeqAt.shaped (.list (toPys (ys.map tupI))) = true) (.ok (.bl ((toPys (ys.map tupI)).any fun z => PyData.eqv z (toPy (tupI a))))) := rfl
    have e2 : toPy (tupI a) = .tuple (a.map .int) := by show PyData.tuple (toPys (a.map D.int)) = _; rw [toPys_ints]
    rw [e, chk_pos ⟨flats_ints a, flats_tups ys, by rw [e2]; exact shaped_tup a, by rw [toPys_tups]; exact shaped_tups ys⟩, e2, toPys_tups, any_tups]
    rfl
theorem wo_ninP {a : List Int} {ys : List (List Int)} : wr (ninP (tupI a) (.lst (ys.map tupI))) Q E = Q (.bl (!decide (a ∈ ys))) := by
  with_unfolding_all
    unfold ninP
    rw [wr_bind, wo_inP]
    rfl
theorem eqD_tups {a b : List Int} : eqD (tupI a) (tupI b) = .ok (.bl (decide (a = b))) := by
  have e : eqD (tupI a) (tupI b) = chk (eqOk (tupI a) (tupI b) = true) (.ok (.bl (eqB (tupI a) (tupI b)))) := rfl
  have e2 : ∀ a : List Int, toPy (tupI a) = .tuple (a.map .int) := fun a => by show PyData.tuple (toPys (a.map D.int)) = _; rw [toPys_ints]
  have ok : eqOk (tupI a) (tupI b) = true := by
    unfold eqOk
    rw [e2, e2, shaped_tup, shaped_tup, show flat (tupI a) = true from flats_ints a, show flat (tupI b) = true from flats_ints b]
    rfl
  rw [e, chk_pos ok]
  unfold eqB
  rw [e2, e2, show PyData.eqv (.tuple (a.map .int)) (.tuple (b.map .int)) = decide (a = b) from eqvAll_ints a b]
theorem wo_eqT {a b : List Int} : wr (eqD (tupI a) (tupI b)) Q E = Q (.bl (decide (a = b))) := by rw [eqD_tups, wr_ok]
theorem wo_ltTups {a b : List Int} : wr (ltT (tupI a) (tupI b)) Q E = Q (.bl (HT.lexLt a b)) := wo_ltT
end
end PL
noncomputable section
namespace PL
open PySem PySem.Spec L2
def tx (cs : List Nat) : D := .str ⟨cs.toArray⟩
theorem tx_inj {a b : List Nat} (h : tx a = tx b) : a = b := by
  unfold tx at h
  injection h with h
  injection h with h
  exact Array.toList_inj.mpr h |> fun z => by simpa using z
def abc : List Nat := (List.range 26).map (97 + ·)
theorem abc_str : (D.str "abcdefghijklmnopqrstuvwxyz") = tx abc := by
  unfold tx abc
  congr 1
theorem nil_str : (D.str "") = tx [] := by
  unfold tx
  congr 1
section
variable {Q : D → Prop} {E : Err → Prop}
theorem wo_addTx {a b : List Nat} (l : a.length + b.length ≤ 1000) : wr (addD (tx a) (tx b)) Q E = Q (tx (a ++ b)) := by
  have e : addD (tx a) (tx b) = .ok (tx (a ++ b)) := by
    show chk ((⟨a.toArray⟩ : Str).length + (⟨b.toArray⟩ : Str).length ≤ sizeLine) _ = _
    have h : (⟨a.toArray⟩ : Str).length + (⟨b.toArray⟩ : Str).length ≤ sizeLine := by
      rw [sizeLine_eq]
      show a.toArray.size + b.toArray.size ≤ _
      simp; omega
    unfold chk
    rw [if_pos h]
    show Res.ok (D.str (⟨a.toArray ++ b.toArray⟩ : Str)) = _
    unfold tx
    simp
  rw [e, wr_ok]
theorem wo_lenTx {a : List Nat} (l : a.length ≤ 1000) : wr (lenD [tx a]) Q E = Q (.int a.length) := by
  have e : lenD [tx a] = .ok (.int a.length) := by
    show chk ((⟨a.toArray⟩ : Str).length ≤ sizeLine) (Res.ok (D.int ((⟨a.toArray⟩ : Str).length : Nat))) = _
    have h : (⟨a.toArray⟩ : Str).length ≤ sizeLine := by
      rw [sizeLine_eq]
      show a.toArray.size ≤ _
      simp; omega
    unfold chk
    rw [if_pos h]
    rfl
  rw [e, wr_ok]
theorem wo_ixTx {a : List Nat} {i : Int} {c : Nat} (l : a.length ≤ 1000) (h : atI a i = some c) : wr (ixD (tx a) (.int i)) Q E = Q (tx [c]) := by
  have e : ixD (tx a) (.int i) = .ok (tx [c]) := by
    show chk ((⟨a.toArray⟩ : Str).length ≤ sizeLine) (ofOpt (atI (a.toArray).toList i) >>= fun c => Res.ok (D.str ⟨#[c]⟩)) = _
    have h1 : (⟨a.toArray⟩ : Str).length ≤ sizeLine := by
      rw [sizeLine_eq]
      show a.toArray.size ≤ _
      simp; omega
    unfold chk
    rw [if_pos h1]
    rw [show a.toArray.toList = a from rfl, h]
    rfl
  rw [e, wr_ok]
theorem wo_slTx {a : List Nat} (l : a.length ≤ 1000) (h : 0 < a.length) : wr (slD (tx a) none (some (-1))) Q E = Q (tx a.dropLast) := by
  have e : slD (tx a) none (some (-1)) = .ok (tx a.dropLast) := by
    show chk ((⟨a.toArray⟩ : Str).length ≤ sizeLine) (Res.ok (D.str (cutS ⟨a.toArray⟩ none (some (-1))))) = _
    have h1 : (⟨a.toArray⟩ : Str).length ≤ sizeLine := by
      rw [sizeLine_eq]
      show a.toArray.size ≤ _
      simp; omega
    unfold chk
    rw [if_pos h1]
    unfold cutS
    have hl : (⟨a.toArray⟩ : Str).length = a.length := by show a.toArray.size = _; simp
    rw [hl, HT.sIx_none]
    have hz : HT.sIx a.length a.length (some (-1)) = a.length - 1 := by
      unfold HT.sIx
      simp
      omega
    rw [hz]
    show Res.ok (tx ((a.drop 0).take (a.length - 1 - 0))) = _
    rw [List.drop_zero, Nat.sub_zero, List.dropLast_eq_take]
  rw [e, wr_ok]
theorem sidx_abc : ∀ i : Fin 26, sidxD (tx abc) (tx [97 + i.val]) = .ok (.int i.val) := by
  intro i
  have h : ∀ j : Fin 26, (match Builtin.Str.occurrences ⟨abc.toArray⟩ ⟨#[97 + j.val]⟩ 0 (⟨abc.toArray⟩ : Str).length 1 with | k :: _ => k == j.val | [] => false) = true := by decide +kernel
  have q := h i
  show (match Builtin.Str.occurrences ⟨abc.toArray⟩ ⟨#[97 + i.val]⟩ 0 (⟨abc.toArray⟩ : Str).length 1 with
    | k :: _ => Res.ok (D.int (k : Nat))
    | [] => .stuck) = _
  cases e : Builtin.Str.occurrences ⟨abc.toArray⟩ ⟨#[97 + i.val]⟩ 0 (⟨abc.toArray⟩ : Str).length 1 with
  | nil => rw [e] at q; cases q
  | cons k r =>
    rw [e] at q
    have : k = i.val := by simpa using q
    rw [this]
theorem wo_sidx {c : Nat} (h : c ∈ abc) : wr (sidxD (tx abc) (tx [c])) Q E = Q (.int ((c - 97 : Nat) : Int)) := by
  unfold abc at h
  obtain ⟨i, hi, rfl⟩ := List.mem_map.mp h
  have hi' : i < 26 := List.mem_range.mp hi
  have e := sidx_abc ⟨i, hi'⟩
  rw [show 97 + (⟨i, hi'⟩ : Fin 26).val = 97 + i from rfl] at e
  rw [e, wr_ok]
  rw [show (97 + i - 97 : Nat) = i by omega]
theorem wo_inTx {a : List Nat} {ws : List (List Nat)} : wr (inD (tx a) (.lst (ws.map tx))) Q E = Q (.bl (decide (a ∈ ws))) := by
  have e : inD (tx a) (.lst (ws.map tx)) = .ok (.bl (decide (a ∈ ws))) := by
    have hf : ∀ l : List (List Nat), (l.map tx).all isFlatV = true := fun l => by
      induction l with
      | nil => rfl
      | cons b r ih => rw [List.map_cons, List.all_cons, ih]; rfl
    show chk (isFlatV (tx a) = true ∧ (ws.map tx).all isFlatV = true) _ = _
    unfold chk
    rw [if_pos ⟨rfl, hf ws⟩]
    congr 2
    induction ws with
    | nil => rfl
    | cons b r ih =>
      rw [List.map_cons, List.any_cons, ih]
      have : eqF (tx b) (tx a) = decide (a = b) := by
        show ((⟨b.toArray⟩ : Str) == ⟨a.toArray⟩) = _
        by_cases z : a = b
        · subst z; simp
        · rw [decide_eq_false z]
          refine beq_eq_false_iff_ne.mpr fun e => z ?_
          injection e with e
          exact (Array.toList_inj.mpr e : b.toArray.toList = a.toArray.toList).symm |> fun q => by simpa using q
      rw [this]
      by_cases z : a = b <;> by_cases z2 : a ∈ r <;> simp [z, z2]
  rw [e, wr_ok]
end
section
variable {base : D → D → Res D} {ps : Cl → Option (List D → Res D)} {n : Nat} {b : D}
@[simp] theorem deepD_int {i : Int} : deepD base ps n (.int i) b = base (.int i) b := by cases b <;> rfl
@[simp] theorem deepD_bl {i : Bool} : deepD base ps n (.bl i) b = base (.bl i) b := by cases b <;> rfl
@[simp] theorem deepD_str {x : Str} : deepD base ps n (.str x) b = base (.str x) b := by cases b <;> rfl
@[simp] theorem deepD_non : deepD base ps n .non b = base .non b := by cases b <;> rfl
end
def pyX (w : List Nat) : PyData := .str ⟨w.toArray⟩
theorem pyX_eqv (a b : List Nat) : PyData.eqv (pyX a) (pyX b) = decide (a = b) := by
  show ((⟨a.toArray⟩ : Str) == ⟨b.toArray⟩) = _
  by_cases z : a = b
  · subst z; simp
  · rw [decide_eq_false z]
    refine beq_eq_false_iff_ne.mpr fun e => z ?_
    injection e with e
    exact (Array.toList_inj.mpr e : a.toArray.toList = b.toArray.toList) |> fun q => by simpa using q
theorem toPys_txs : ∀ ws : List (List Nat), toPys (ws.map tx) = ws.map pyX
  | [] => rfl
  | w :: ws => by
    show pyX w :: toPys (ws.map tx) = _
    rw [toPys_txs ws]
    rfl
theorem flats_txs : ∀ ws : List (List Nat), flats (ws.map tx) = true
  | [] => rfl
  | w :: ws => by
    show (true && flats (ws.map tx)) = true
    rw [flats_txs ws]
    rfl
theorem eqvAll_txs : ∀ a b : List (List Nat), PyData.eqvAll (a.map pyX) (b.map pyX) = decide (a = b)
  | [], [] => rfl
  | [], _ :: _ => rfl
  | _ :: _, [] => rfl
  | x :: a, y :: b => by
    show (PyData.eqv (pyX x) (pyX y) && PyData.eqvAll (a.map pyX) (b.map pyX)) = _
    rw [eqvAll_txs a b, pyX_eqv]
    by_cases h : x = y
    · by_cases h2 : a = b
      · simp [h, h2]
      · simp [h, h2]
    · simp [h]
def TxOk (ws : List (List Nat)) : Prop := ∀ w ∈ ws, ∀ c ∈ w, c < 1114112
theorem canLay_txs : ∀ ws : List (List Nat), TxOk ws → PyData.canLayAll0 (ws.map pyX) = true
  | [], _ => rfl
  | w :: ws, h => by
    show (PyData.canLay0 (pyX w) && PyData.canLayAll0 (ws.map pyX)) = true
    rw [canLay_txs ws fun x hx => h x (List.mem_cons_of_mem _ hx)]
    have : PyData.canLay0 (pyX w) = true := by
      show (w.toArray).all (fun c => decide (c < 1114112)) = true
      simp
      exact h w List.mem_cons_self
    rw [this]
    rfl
theorem depth_txs : ∀ ws : List (List Nat), PyData.depthAll (ws.map pyX) = 0
  | [] => rfl
  | w :: ws => by
    show max 0 (PyData.depthAll (ws.map pyX)) = 0
    rw [depth_txs ws]
    rfl
theorem eqD_txs {a b : List (List Nat)} (ha : TxOk a) (hb : TxOk b) : eqD (.tup (a.map tx)) (.tup (b.map tx)) = .ok (.bl (decide (a = b))) := by
  have e : eqD (.tup (a.map tx)) (.tup (b.map tx)) = chk (eqOk (.tup (a.map tx)) (.tup (b.map tx)) = true) (.ok (.bl (eqB (.tup (a.map tx)) (.tup (b.map tx))))) := rfl
  have e2 : ∀ a : List (List Nat), toPy (.tup (a.map tx)) = .tuple (a.map pyX) := fun a => by show PyData.tuple (toPys (a.map tx)) = _; rw [toPys_txs]
  have sh : ∀ a : List (List Nat), TxOk a → SeqAt.shaped (.tuple (a.map pyX)) = true := fun a ha => by
    unfold SeqAt.shaped
    have h1 : PyData.canLay0 (.tuple (a.map pyX)) = true := canLay_txs a ha
    have h2 : PyData.depth (.tuple (a.map pyX)) = 1 := by show PyData.depthAll (a.map pyX) + 1 = 1; rw [depth_txs]
    rw [h1, h2]
    decide
  have ok : eqOk (.tup (a.map tx)) (.tup (b.map tx)) = true := by
    unfold eqOk
    rw [e2, e2, sh a ha, sh b hb, show flat (.tup (a.map tx)) = true from flats_txs a, show flat (.tup (b.map tx)) = true from flats_txs b]
    rfl
  rw [e, chk_pos ok]
  unfold eqB
  rw [e2, e2, show PyData.eqv (.tuple (a.map pyX)) (.tuple (b.map pyX)) = decide (a = b) from eqvAll_txs a b]
theorem ixO_obj {ps : Cl → Option (List D → Res D)} {c : Cl} {fs : List (Nm × D)} {k : D} {g : List D → Res D} (h : ps c = some g) : ixO ps (.obj c fs) k = g [.obj c fs, k] := by
  show (ofOpt (ps c) >>= fun g => g [.obj c fs, k]) = _
  rw [h]
  rfl
theorem lc_mapP {α : Type} {f : D → Ev → Option Ev} {t : Ev → Res Bool} {m : Ev → Res D} {ρ : Ev} {g F : α → D} {p : α → Bool} : ∀ {l : List α}, (∀ a ∈ l, ∃ ρ1, f (g a) ρ = some ρ1 ∧ wr (t ρ1) (fun b => b = p a) noE ∧ (p a = true → wr (m ρ1) (fun d => d = F a) noE)) → lcGo f t m ρ (l.map g) = .ok ((l.filter p).map F)
  | [], _ => rfl
  | a :: l, h => by
    obtain ⟨ρ1, e1, e2, e3⟩ := h a List.mem_cons_self
    have ih := lc_mapP (f := f) (t := t) (m := m) (ρ := ρ) (g := g) (F := F) (p := p) (l := l) fun x hx => h x (List.mem_cons_of_mem _ hx)
    rw [List.map_cons]
    unfold lcGo
    rw [e1]
    simp only []
    rw [wr_eq e2, ok_bind]
    cases z : p a with
    | true =>
      rw [if_pos rfl, wr_eq (e3 z), ok_bind, ih, List.filter_cons_of_pos z]
      rfl
    | false =>
      rw [if_neg Bool.false_ne_true, ih, List.filter_cons_of_neg (by rw [z]; exact Bool.false_ne_true)]
theorem wm_lcP {α : Type} (l : List α) (g : α → D) (p : α → Bool) (F : α → D) {vs : List Nat} {mi : Ev → Res (List D)} {f : D → Ev → Option Ev} {t : Ev → Res Bool} {m : Ev → Res D} {Q : List D → Prop} {E : Err → Prop} {ρ : Ev} (hi : wr (mi ρ) (fun ds => ds = l.map g) noE) (hl : l.length ≤ sizeLine)
    (h : ∀ a ∈ l, ∃ ρ1, f (g a) (wipeE ρ vs) = some ρ1 ∧ wr (t ρ1) (fun b => b = p a) noE ∧ (p a = true → wr (m ρ1) (fun d => d = F a) noE)) (hq : Q ((l.filter p).map F)) : wr (fLc vs mi f t m ρ) Q E := by
  with_unfolding_all
    unfold fLc
    rw [wr_bind, wr_eq hi]
    show wr (noX (lcGo f t m (wipeE ρ vs) (l.map g)) >>= _) Q E
    rw [lc_mapP h]
    show wr (chk _ _) Q E
    rw [wr_chk]
    exact ⟨by rw [List.length_map]; exact Nat.le_trans (List.length_filter_le _ _) hl, hq⟩
theorem lex_irr : ∀ xs : List Int, HT.lexLt xs xs = false
  | [] => rfl
  | x :: xs => by rw [HT.lexLt_cons, if_pos rfl]; exact lex_irr xs
theorem lex_trans : ∀ xs ys zs : List Int, HT.lexLt xs ys = true → HT.lexLt ys zs = true → HT.lexLt xs zs = true
  | [], [], _, h, _ => by rw [HT.lexLt_nil_nil] at h; cases h
  | [], _ :: _, [], _, h => by rw [HT.lexLt_cons_nil] at h; cases h
  | [], _ :: _, _ :: _, _, _ => HT.lexLt_nil_cons _ _
  | _ :: _, [], _, h, _ => by rw [HT.lexLt_cons_nil] at h; cases h
  | _ :: _, _ :: _, [], _, h => by rw [HT.lexLt_cons_nil] at h; cases h
  | x :: xs, y :: ys, z :: zs, h1, h2 => by
    rw [HT.lexLt_cons] at h1 h2 ⊢
    by_cases e1 : x = y
    · subst e1
      rw [if_pos rfl] at h1
      by_cases e2 : x = z
      · subst e2
        rw [if_pos rfl] at h2 ⊢
        exact lex_trans xs ys zs h1 h2
      · rw [if_neg e2] at h2 ⊢
        exact h2
    · rw [if_neg e1] at h1
      have a1 : x < y := of_decide_eq_true h1
      by_cases e2 : y = z
      · subst e2
        rw [if_neg e1]
        exact h1
      · rw [if_neg e2] at h2
        have a2 : y < z := of_decide_eq_true h2
        rw [if_neg (by omega)]
        exact decide_eq_true (by omega)
theorem lex_tri : ∀ xs ys : List Int, HT.lexLt xs ys = false → HT.lexLt ys xs = false → xs = ys
  | [], [], _, _ => rfl
  | [], y :: ys, h, _ => by rw [HT.lexLt_nil_cons] at h; cases h
  | x :: xs, [], _, h => by rw [HT.lexLt_nil_cons] at h; cases h
  | x :: xs, y :: ys, h1, h2 => by
    rw [HT.lexLt_cons] at h1 h2
    by_cases e : x = y
    · subst e
      rw [if_pos rfl] at h1 h2
      rw [lex_tri xs ys h1 h2]
    · rw [if_neg e] at h1
      rw [if_neg (fun z => e z.symm)] at h2
      have := of_decide_eq_false h1
      have := of_decide_eq_false h2
      omega
/-- no more different ones than there are places for them -/
theorem nodup_le {α : Type} [DecidableEq α] : ∀ (l m : List α), l.Nodup → (∀ x ∈ l, x ∈ m) → l.length ≤ m.length
  | [], _, _, _ => Nat.zero_le _
  | x :: l, m, hn, hs => by
    obtain ⟨h1, h2⟩ := List.nodup_cons.mp hn
    have hx := hs x List.mem_cons_self
    have := nodup_le l (m.erase x) h2 fun y hy => by
      have : y ≠ x := fun e => h1 (e ▸ hy)
      exact (List.mem_erase_of_ne this).mpr (hs y (List.mem_cons_of_mem _ hy))
    rw [List.length_erase_of_mem hx] at this
    have hp : 0 < m.length := List.length_pos_of_mem hx
    rw [List.length_cons]
    omega
end PL
namespace PL
open PySem PySem.Spec L2
def insI (a : Int) : List Int → List Int
  | [] => [a]
  | b :: l => if a ≤ b then a :: b :: l else b :: insI a l
def sortI : List Int → List Int
  | [] => []
  | a :: l => insI a (sortI l)
theorem insI_perm (a : Int) : ∀ l : List Int, (insI a l).Perm (a :: l)
  | [] => List.Perm.refl _
  | b :: l => by
    unfold insI
    split
    · exact List.Perm.refl _
    · exact (List.Perm.cons b (insI_perm a l)).trans (List.Perm.swap a b l)
theorem insI_asc (a : Int) : ∀ l : List Int, l.Pairwise (· ≤ ·) → (insI a l).Pairwise (· ≤ ·)
  | [], _ => List.pairwise_singleton _ _
  | b :: l, h => by
    obtain ⟨h1, h2⟩ := List.pairwise_cons.mp h
    unfold insI
    split
    · rename_i hab
      refine List.pairwise_cons.mpr ⟨fun x hx => ?_, h⟩
      rcases List.mem_cons.mp hx with rfl | hx
      · exact hab
      · exact Int.le_trans hab (h1 x hx)
    · rename_i hab
      refine List.pairwise_cons.mpr ⟨fun x hx => ?_, insI_asc a l h2⟩
      rcases List.mem_cons.mp ((insI_perm a l).mem_iff.mp hx) with rfl | hx
      · omega
      · exact h1 x hx
theorem sortI_perm : ∀ l : List Int, (sortI l).Perm l
  | [] => List.Perm.refl _
  | a :: l => (insI_perm a (sortI l)).trans (List.Perm.cons a (sortI_perm l))
theorem sortI_asc : ∀ l : List Int, (sortI l).Pairwise (· ≤ ·)
  | [] => List.Pairwise.nil
  | a :: l => insI_asc a (sortI l) (sortI_asc l)
theorem asc_one : ∀ {a b : List Int}, a.Perm b → a.Pairwise (· ≤ ·) → b.Pairwise (· ≤ ·) → a = b
  | [], b, h, _, _ => h.nil_eq
  | x :: a, [], h, _, _ => absurd h.symm.nil_eq (by simp)
  | x :: a, y :: b, h, ha, hb => by
    obtain ⟨h1, h2⟩ := List.pairwise_cons.mp ha
    obtain ⟨h3, h4⟩ := List.pairwise_cons.mp hb
    have e : x = y := by
      have m1 := h.mem_iff.mp (List.mem_cons_self (a := x))
      have m2 := h.mem_iff.mpr (List.mem_cons_self (a := y))
      rcases List.mem_cons.mp m1 with z | z
      · exact z
      · rcases List.mem_cons.mp m2 with w | w
        · exact w.symm
        · exact Int.le_antisymm (h1 y w) (h3 x z)
    subst e
    rw [asc_one (List.Perm.cons_inv h) h2 h4]
def srtL : D → Res (List D)
  | .lst xs => ofOpt (intsD xs) >>= fun ns => .ok ((sortI ns).map .int)
  | _ => .stuck
def fSrt (ma : Ev → Res D) : Ev → Res (List D) := fun ρ => ma ρ >>= srtL
theorem Reps.ofInts {K : PySem.W.Frag} {G : Hp} : ∀ ns : List Int, Reps K G (ns.map V.int) (ns.map D.int)
  | [] => .nil
  | n :: ns => .cons (.int n) (Reps.ofInts ns)
section
variable {X : Cx} {B : Base} {W : WX} {a : Expr} {ma : Ev → Res D} {p p2 q pos : Pos}
theorem mf_srt (ha : PE X a (tM X.K B W ma)) (hg : Gl X "sorted") (hm : X.mg "sorted" = none) (hs : starEach [a] X.env = (false, eval a X.env) :: starEach [] X.env := by rfl) (hpl : (backTo pos (starEach [] X.env)).any (·.1) = false := by rfl) :
    PE X (.Call (.Name "sorted" p) [a] [] pos) (tF X.K B W (fSrt ma)) :=
  PE.imp (pe_callB cr_sortedI hg hm (by kernel_rfl) (pa_cons ha pa_nil hs) (by decide) (by decide) hs hpl) fun σ H Q ⟨G, ρ, e, q⟩ => ⟨G, ρ, e, RG.bindF q fun d G1 v H1 g r q1 => by
    cases r with
    | lst s t =>
      rename_i l vs ds
      have q2 : FG X.K (fun c d H' => W c d σ H') G H Q (ofOpt (intsD ds) >>= fun ns => .ok ((sortI ns).map .int)) := q1
      cases hi : intsD ds with
      | none => rw [hi] at q2; exact q2.elim
      | some ns =>
        rw [hi] at q2
        have ev := t.ints hi
        subst ev
        refine ⟨_, ns, rfl, .inl (g.sub.rd s), fun ns' p' hp ho hf => ?_⟩
        have e1 := asc_one (hp.trans (sortI_perm ns).symm) ho (sortI_asc ns)
        subst e1
        exact RG.fresh g q2 (Reps.ofInts _) p' hf
    | _ => exact q1.elim⟩
def lrg1 : D → Res (List D)
  | .int j => chk (-(2 ^ 62) ≤ j ∧ j < 2 ^ 62 ∧ j.toNat ≤ sizeLine) (.ok (rngL 0 j.toNat))
  | _ => .stuck
def fRg1 (ma : Ev → Res D) : Ev → Res (List D) := fun ρ => ma ρ >>= lrg1
theorem rgV_reps {K : PySem.W.Frag} {G : Hp} (j : Int) : Reps K G (rgV 0 j) (rngL 0 j.toNat) := by
  have e1 : rgV 0 j = ((List.range j.toNat).map fun i : Nat => (0 : Int) + (i : Nat)).map V.int := by
    unfold rgV
    rw [List.map_map, Int.sub_zero]
    rfl
  have e2 : rngL 0 j.toNat = ((List.range j.toNat).map fun i : Nat => (0 : Int) + (i : Nat)).map D.int := by
    unfold rngL
    rw [List.map_map]
    rfl
  rw [e1, e2]
  exact Reps.ofInts _
theorem mf_lrg1 (ha : PE X a (tM X.K B W ma)) (hc : X.calm = true) (hg : Gl X "list") (hm : X.mg "list" = none) (hg2 : Gl X "range") (hm2 : X.mg "range" = none) (na : starEach [a] X.env = (false, eval a X.env) :: starEach [] X.env := by rfl)
    (ne : starEach [.Call (.Name "range" p2) [a] [] q] X.env = (false, eval (.Call (.Name "range" p2) [a] [] q) X.env) :: starEach [] X.env := by rfl) :
    PE X (.Call (.Name "list" p) [.Call (.Name "range" p2) [a] [] q] [] pos) (tF X.K B W (fRg1 ma)) :=
  PE.imp (pe_listRg hc hg hm (prg_1 hg2 hm2 ha na) ne) fun σ H Q ⟨G, ρ, e, q⟩ => ⟨G, ρ, e, RG.bindF q fun d G1 v H1 g r q1 => by
    cases r with
    | int j =>
      have q2 : FG X.K (fun c d H' => W c d σ H') G H Q (chk (-(2 ^ 62) ≤ j ∧ j < 2 ^ 62 ∧ j.toNat ≤ sizeLine) (.ok (rngL 0 j.toNat))) := q1
      obtain ⟨z, q3⟩ := FG.chk q2
      have hs := sizeLine_eq
      refine ⟨j, rfl, ⟨by decide, by decide, z.1, z.2.1, by rw [Int.sub_zero]; omega⟩, fun p' hf => RG.fresh g q3 (rgV_reps j) p' hf⟩
    | _ => exact q1.elim⟩
def dcI (ns : List Int) : Nat := (PyProof.Rows.firstMet (fun i => ns.getD i 0) ns.length).length
def dlenD : D → Res D
  | .lst xs => ofOpt (intsD xs) >>= fun ns => chk (ns.length ≤ 4000) (.ok (.int (dcI ns : Nat)))
  | _ => .stuck
def tLenSetM (K : PySem.W.Frag) (ta : TE) : TE := fun σ H Q => ta σ H fun x H1 => ∃ (l : Addr) (ns : List Int), x = .ref l ∧ SqL K H1 l (ns.map V.int) ∧ ns.length ≤ 4000 ∧ Q (.int (dcI ns : Nat)) H1
theorem pe_lenSetM {ta : TE} (hg : Gl X "len") (hm : X.mg "len" = none) (hg2 : Gl X "set") (hm2 : X.mg "set" = none) (ha : PE X a ta) (hc : X.calm = true)
    (na : starEach [a] X.env = (false, eval a X.env) :: starEach [] X.env := by rfl) : PE X (.Call (.Name "len" p) [.Call (.Name "set" p2) [a] [] q] [] pos) (tLenSetM X.K ta) := by
  refine ⟨fun pins s σ H Q I h => ?_⟩
  refine PyProof.Rows.Call_ (ld_blt (u := .builtin "len") I hg hm (by kernel_rfl) ?_)
  refine PyProof.Rows.callWith_builtin1 (PyProof.Rows.args_cons ?_ rfl) rfl rfl
  refine PyProof.Rows.Call_ (ld_blt (u := .type "set") I hg2 hm2 (by kernel_rfl) ?_)
  refine PyProof.Rows.callWith_type1 (PyProof.Rows.args_cons (thn (ha.run pins s σ H _ I h) fun v s1 ⟨x, H1, I1, r1, q1⟩ => PyProof.Rows.args_nil ?_) na) na rfl
  obtain ⟨l, ns, rfl, hq, hl, q1⟩ := q1
  cases r1
  obtain ⟨its, r, pl, hz⟩ := I1.list hq
  have hlen : its.toArray.size = ns.length := by rw [List.size_toArray, ← r.length, List.length_map]
  refine PySem.call_set_list (I1.ok.hd hc) pl.isList (by simpa using RZ.intsAre_vals r) (by rw [hlen]; unfold scanBound; omega) fun h' tk hS hk => ?_
  refine PyProof.Rows.args_nil ?_
  rw [hlen] at hS
  have hle : dcI ns ≤ ns.length := PyProof.Rows.firstMet_length_le _ _
  obtain ⟨o, es, ep, t, ho, hex, hd, _, _, _, hf, hn⟩ := hS
  have hn' : es.size = dcI ns := hn
  have I2 : Inv X pins σ H1 { s1 with heap := h', toks := tk } := I1.kept fun b o e => hk b o (Heap.lt_size e) e
  exact call_len_set ho hex hd hf (by rw [hn'] <;> omega) ⟨.int (dcI ns : Nat), H1, I2.tok _, ⟨_, by rw [hn']⟩, q1⟩
theorem me_lenSet (ha : PE X a (tM X.K B W ma)) (hc : X.calm = true) (hg : Gl X "len") (hm : X.mg "len" = none) (hg2 : Gl X "set") (hm2 : X.mg "set" = none) (na : starEach [a] X.env = (false, eval a X.env) :: starEach [] X.env := by rfl) :
    PE X (.Call (.Name "len" p) [.Call (.Name "set" p2) [a] [] q] [] pos) (tM X.K B W (mUn dlenD ma)) :=
  PE.imp (pe_lenSetM hg hm hg2 hm2 ha hc na) fun σ H Q ⟨G, ρ, e, q⟩ => ⟨G, ρ, e, RG.bind q fun d G1 v H1 g r q1 => by
    cases r with
    | lst s t =>
      rename_i l vs ds
      have q2 : RG (Rep X.K) X.K (fun c d H' => W c d σ H') G1 H1 Q (ofOpt (intsD ds) >>= fun ns => chk (ns.length ≤ 4000) (.ok (.int (dcI ns : Nat)))) := q1
      cases hi : intsD ds with
      | none => rw [hi] at q2; exact q2.elim
      | some ns =>
        rw [hi] at q2
        obtain ⟨z, q3⟩ := RG.chk q2
        have ev := t.ints hi
        subst ev
        exact ⟨_, ns, rfl, .inl (g.sub.rd s), z, RG.here g.sub q3 (.int _)⟩
    | _ => exact q1.elim⟩
end
section
variable {Q : D → Prop} {E : Err → Prop}
theorem intsD_eq : ∀ ns : List Int, intsD (ns.map D.int) = some ns
  | [] => rfl
  | n :: ns => by
    show (intsD (ns.map D.int)).map (n :: ·) = _
    rw [intsD_eq ns]
    rfl
@[simp] theorem wm_fSrt {m : Ev → Res D} {ρ : Ev} {Q : List D → Prop} : wr (fSrt m ρ) Q E = wr (m ρ) (fun d => wr (srtL d) Q E) E := by with_unfolding_all exact wr_bind
@[simp] theorem wm_fRg1 {m : Ev → Res D} {ρ : Ev} {Q : List D → Prop} : wr (fRg1 m ρ) Q E = wr (m ρ) (fun d => wr (lrg1 d) Q E) E := by with_unfolding_all exact wr_bind
@[simp] theorem wo_lrg1 {j : Int} {Q : List D → Prop} : wr (lrg1 (.int j)) Q E = ((-(2 ^ 62) ≤ j ∧ j < 2 ^ 62 ∧ j.toNat ≤ sizeLine) ∧ Q (rngL 0 j.toNat)) := by with_unfolding_all exact wr_chk
theorem wo_srt {ns : List Int} {Q : List D → Prop} : wr (srtL (.lst (ns.map D.int))) Q E = Q ((sortI ns).map D.int) := by
  have e : srtL (.lst (ns.map D.int)) = .ok ((sortI ns).map D.int) := by
    show (ofOpt (intsD (ns.map D.int)) >>= fun ns => Res.ok ((sortI ns).map D.int)) = _
    rw [intsD_eq]
    rfl
  rw [e, wr_ok]
theorem wo_dlen {ns : List Int} : wr (dlenD (.lst (ns.map D.int))) Q E = (ns.length ≤ 4000 ∧ Q (.int (dcI ns : Nat))) := by
  have e : dlenD (.lst (ns.map D.int)) = chk (ns.length ≤ 4000) (.ok (.int (dcI ns : Nat))) := by
    show (ofOpt (intsD (ns.map D.int)) >>= fun ns => chk (ns.length ≤ 4000) (Res.ok (D.int (dcI ns : Nat)))) = _
    rw [intsD_eq]
    rfl
  rw [e, wr_chk, wr_ok]
end
end PL
namespace PL
open PySem PySem.Spec L2
open PyProof.Rows (b2i)
/-- a value that is data, or (b) a list at hand, lent -/
def RepB (K : PySem.W.Frag) (G H : Hp) (b : Bool) (v : V) (d : D) : Prop := match b with
  | true => ∃ (l : Addr) (us : List V) (xs : List D), v = .ref l ∧ H l = some (.lst us) ∧ Reps K G us xs ∧ d = .lst xs
  | false => Rep K G v d
theorem RepB.ext {K : PySem.W.Frag} {G H G' H' : Hp} (g : Ext G G') (h : Ext H H') {b : Bool} {v : V} {d : D} (r : RepB K G H b v d) : RepB K G' H' b v d := by
  cases b with
  | true =>
    obtain ⟨l, us, xs, e, hl, r, ed⟩ := r
    exact ⟨l, us, xs, e, h _ _ hl, r.mono g, ed⟩
  | false => exact Rep.mono g r
inductive RepsB (K : PySem.W.Frag) (G H : Hp) : List Bool → List V → List D → Prop
  | nil : RepsB K G H [] [] []
  | cons {b : Bool} {v : V} {d : D} {bs : List Bool} {vs : List V} {ds : List D} : RepB K G H b v d → RepsB K G H bs vs ds → RepsB K G H (b :: bs) (v :: vs) (d :: ds)
theorem RepsB.ext {K : PySem.W.Frag} {G H G' H' : Hp} (g : Ext G G') (h : Ext H H') : ∀ {bs : List Bool} {vs : List V} {ds : List D}, RepsB K G H bs vs ds → RepsB K G' H' bs vs ds
  | _, _, _, .nil => .nil
  | _, _, _, .cons r t => .cons (r.ext g h) (RepsB.ext g h t)
theorem RepsB.len {K : PySem.W.Frag} {G H : Hp} : ∀ {bs : List Bool} {vs : List V} {ds : List D}, RepsB K G H bs vs ds → vs.length = ds.length ∧ bs.length = ds.length
  | _, _, _, .nil => ⟨rfl, rfl⟩
  | _, _, _, .cons _ t => by
    obtain ⟨h1, h2⟩ := RepsB.len t
    exact ⟨by rw [List.length_cons, List.length_cons, h1], by rw [List.length_cons, List.length_cons, h2]⟩
def AG (K : PySem.W.Frag) (bs : List Bool) (E : XK) (G H : Hp) (Q : List V → Hp → Prop) : Res (List D) → Prop
  | .ok ds => ∀ G' vs H', Grow G H G' H' → RepsB K G' H' bs vs ds → Q vs H'
  | .exc e => ∀ G' cls dx H', Grow G H G' H' → ErrOk K G' H' cls dx e → E cls dx H'
  | .stuck => False
def tAB (K : PySem.W.Frag) (B : Base) (W : WX) (bs : List Bool) (m : Ev → Res (List D)) : TA := fun σ H Q => ∃ G ρ, EnvOk K B G σ ρ H ∧ AG K bs (fun c d H' => W c d σ H') G H Q (m ρ)
/-- the list at slot i that may be lent -/
def lentOf (ρ : Ev) (i : Nat) : Option (List D) := match ρ[i]? with
  | some (.own xs) => some xs
  | some (.bor xs) => some xs
  | _ => none
def mConsB (i : Nat) (ms : Ev → Res (List D)) : Ev → Res (List D) := fun ρ => match lentOf ρ i with
  | some xs => ms ρ >>= fun ds => .ok (.lst xs :: ds)
  | none => .stuck
section
variable {X : Cx} {B : Base} {W : WX} {k j : Nat} {e : Expr} {es : List Expr} {m : Ev → Res D} {ms : Ev → Res (List D)} {pos : Pos} {bs : List Bool}
theorem lent_at {K : PySem.W.Frag} {G H : Hp} {σ : St} {ρ : Ev} {i : Nat} {xs : List D} (e : EnvOk K B G σ ρ H) (h : lentOf ρ i = some xs) : ∃ l vs, σ[i]? = some (some (.ref l)) ∧ H l = some (.lst vs) ∧ Reps K G vs xs := by
  unfold lentOf at h
  split at h
  · rename_i ys hs
    cases h
    obtain ⟨l, vs, hv, hl, r, _⟩ := e.slot i _ hs
    exact ⟨l, vs, hv, hl, r⟩
  · rename_i ys hs
    cases h
    obtain ⟨l, vs, hv, hl, r⟩ := e.slot i _ hs
    exact ⟨l, vs, hv, e.grow.h _ _ hl, r⟩
  · cases h
theorem mab_nil : PA X [] (tAB X.K B W [] mNil) := PA.imp pa_nil fun σ H Q ⟨G, ρ, e, q⟩ => q G [] H (.refl e.sub) .nil
theorem AG.grow {K : PySem.W.Frag} {E : XK} {G H G' H' : Hp} {Q : List V → Hp → Prop} {r : Res (List D)} (g : Grow G H G' H') (h : AG K bs E G H Q r) : AG K bs E G' H' Q r := by
  cases r with
  | ok ds => exact fun G2 vs H2 g2 r => h G2 vs H2 (g.trans g2) r
  | exc e => exact fun G2 c d H2 g2 k => h G2 c d H2 (g.trans g2) k
  | stuck => exact h
theorem mab_cons (ha : PE X e (tM X.K B W m)) (hr : PA X es (tAB X.K B W bs ms)) (hs : starEach (e :: es) X.env = (false, eval e X.env) :: starEach es X.env := by rfl) : PA X (e :: es) (tAB X.K B W (false :: bs) (mCons m ms)) :=
  PA.imp (pa_cons ha hr hs) fun σ H Q ⟨G, ρ, e, q⟩ => ⟨G, ρ, e, by
    unfold mCons at q
    cases hm : m ρ with
    | exc x => rw [hm] at q; exact q
    | stuck => rw [hm] at q; exact q
    | ok d =>
      rw [hm] at q
      refine fun G1 v H1 g r => ⟨G1, ρ, e.growN g, ?_⟩
      rw [ok_bind] at q
      have q := AG.grow g q
      cases hm2 : ms ρ with
      | exc x => rw [hm2] at q; exact q
      | stuck => rw [hm2] at q; exact q
      | ok ds =>
        rw [hm2] at q
        exact fun G2 vs H2 g2 r2 => q G2 (v :: vs) H2 g2 (.cons (Rep.mono g2.g r) r2)⟩
theorem mab_lend (i : Nat) {x : Str} {p1 : Pos} (hr : PA X es (tAB X.K B W bs ms)) (hN : X.N[i]? = some x := by rfl) (hv : Vis X.env.scope x := by first | exact Or.inl rfl | exact Or.inr (Or.inl rfl) | exact Or.inr (Or.inr rfl)) (hd : (x == ("__debug__" : Str)) = false := by decide) (hcd : (x == ("__classdict__" : Str)) = false := by decide)
    (hs : starEach (.Name x p1 :: es) X.env = (false, eval (.Name x p1) X.env) :: starEach es X.env := by rfl) : PA X (.Name x p1 :: es) (tAB X.K B W (true :: bs) (mConsB i ms)) :=
  PA.imp (pa_cons (pe_var (i := i) hN hv hd hcd) hr hs) fun σ H Q ⟨G, ρ, e, q⟩ => by
    unfold mConsB at q
    cases ho : lentOf ρ i with
    | none => rw [ho] at q; exact q.elim
    | some xs =>
      rw [ho] at q
      obtain ⟨l, us, hv, hl, r⟩ := lent_at e ho
      refine ⟨_, hv, G, ρ, e, ?_⟩
      cases hm2 : ms ρ with
      | exc x => rw [hm2] at q; exact q
      | stuck => rw [hm2] at q; exact q
      | ok ds =>
        rw [hm2] at q
        exact fun G2 vs H2 g2 r2 => q G2 (.ref l :: vs) H2 g2 (.cons ⟨l, us, xs, rfl, g2.h _ _ hl, r.mono g2.g, rfl⟩ r2)
theorem mLen_consB {i n : Nat} {ms : Ev → Res (List D)} (h : ∀ ρ ds, ms ρ = .ok ds → ds.length = n) : ∀ ρ ds, mConsB i ms ρ = .ok ds → ds.length = n + 1 := fun ρ ds q => by
  unfold mConsB at q
  cases h1 : lentOf ρ i with
  | some d =>
    rw [h1] at q
    cases h2 : ms ρ with
    | ok es =>
      simp only [h2, ok_bind] at q
      cases q
      rw [List.length_cons, h ρ es h2]
    | exc x => simp only [h2] at q; cases q
    | stuck => simp only [h2] at q; cases q
  | none => rw [h1] at q; cases q
end
def slB : Bool → D → Sl
  | true, .lst xs => .bor xs
  | true, _ => .no
  | false, d => .dat d
def evB (bs : List Bool) (n : Nat) (ds : List D) : Ev := List.zipWith slB bs ds ++ List.replicate (n - ds.length) .no
@[irreducible] def mDefB (bs : List Bool) (n : Nat) (o : Ev → Out) : List D → Res D := fun ds => (o (evB bs n ds)).fin
theorem slB_ok {K : PySem.W.Frag} {G H : Hp} {b : Bool} {v : V} {d : D} {B : Base} (r : RepB K G H b v d) (hB : ∀ l us, H l = some (.lst us) → B.H l = some (.lst us)) : SlotOk K B G H (some (some v)) (slB b d) ∧ ∀ a, ¬ foot H (some (some v)) (slB b d) a := by
  cases b with
  | true =>
    obtain ⟨l, us, xs, rfl, hl, r, rfl⟩ := r
    exact ⟨⟨l, us, rfl, hB _ _ hl, r⟩, fun a f => foot_bor f⟩
  | false => exact ⟨⟨v, rfl, r⟩, fun a f => foot_dat f⟩
theorem slB_get {K : PySem.W.Frag} {G H : Hp} {B : Base} (hB : ∀ l us, H l = some (.lst us) → B.H l = some (.lst us)) : ∀ {bs : List Bool} {vs : List V} {ds : List D} {i : Nat} {sl : Sl}, RepsB K G H bs vs ds → (List.zipWith slB bs ds)[i]? = some sl → ∃ v, vs[i]? = some v ∧ SlotOk K B G H (some (some v)) sl ∧ ∀ a, ¬ foot H (some (some v)) sl a
  | _, _, _, i, sl, .nil, q => by simp at q
  | _, _, _, 0, sl, .cons r t, q => by
    rw [List.zipWith_cons_cons, List.getElem?_cons_zero] at q
    cases q
    exact ⟨_, rfl, slB_ok r hB⟩
  | _, _, _, i + 1, sl, .cons r t, q => by
    rw [List.zipWith_cons_cons, List.getElem?_cons_succ] at q
    obtain ⟨v, h1, h2⟩ := slB_get hB (i := i) t q
    exact ⟨v, by rw [List.getElem?_cons_succ]; exact h1, h2⟩
theorem slB_len {bs : List Bool} {ds : List D} (h : bs.length = ds.length) : (List.zipWith slB bs ds).length = ds.length := by
  rw [List.length_zipWith, h, Nat.min_self]
theorem env_startB {K : PySem.W.Frag} {G H : Hp} {N : List Str} {bs : List Bool} {vs : List V} {ds : List D} {fr : Nat} (s : Ext G H) (r : RepsB K G H bs vs ds) : EnvOk K (Base.of G H fr) G (L2.start N vs) (evB bs N.length ds) H := by
  obtain ⟨l1, l2⟩ := r.len
  have l3 := slB_len l2
  have z : ∀ {i : Nat} {sl : Sl}, (evB bs N.length ds)[i]? = some sl → sl = .no ∨ ∃ v, (L2.start N vs)[i]? = some (some v) ∧ SlotOk K (Base.of G H fr) G H (some (some v)) sl ∧ ∀ a, ¬ foot H (some (some v)) sl a := fun {i sl} q => by
    unfold evB at q
    by_cases hi : i < ds.length
    · rw [List.getElem?_append_left (by rw [l3]; exact hi)] at q
      obtain ⟨v, h1, h2⟩ := slB_get (B := Base.of G H fr) (fun _ _ h => h) r q
      refine .inr ⟨v, ?_, h2⟩
      unfold L2.start
      rw [List.getElem?_append_left (by rw [List.length_map, l1]; exact hi), List.getElem?_map, h1]
      rfl
    · rw [List.getElem?_append_right (by rw [l3]; omega), List.getElem?_replicate] at q
      split at q <;> cases q
      exact .inl rfl
  refine ⟨.refl s, ?_, fun i sl q => ?_, fun i j sl t q1 q2 n a f1 f2 => ?_⟩
  · unfold L2.start evB
    rw [List.length_append, List.length_append, List.length_map, l3, List.length_replicate, List.length_replicate, l1]
  · rcases z q with rfl | ⟨v, hv, h, _⟩
    · trivial
    · rw [hv]; exact h
  · rcases z q1 with rfl | ⟨v, hv, _, h⟩
    · exact foot_no f1
    · rw [hv] at f1; exact h a f1
section
variable {T : Tk} {K : PySem.W.Frag} {k n j : Nat} {x qual : Str} {params : Arguments} {body : List Stmt} {scope : Scope} {dvs : List V} {kws : List (Str × V)} {f : Addr} {fd : FuncData} {N ps : List Str} {o : Ev → Out} {bs : List Bool}
/-- the def at f, called with values of which those of bs are lists lent, is worth m -/
def FnB (T : Tk) (k : Nat) (f : Addr) (bs : List Bool) (m : List D → Res D) : Prop :=
  ∀ (A : Around) (outer : List Env) (s : Shared) (G H : Hp) (us : List Value) (vs : List V) (ds : List D) (Q : VK) (E : XK), Room k A → Env0 T.P T.w T.K T.mg T.base A outer s H → Vals vs us → Ext G H → RepsB T.K G H bs vs ds →
    RG (Rep T.K) T.K E G H Q (m ds) → codeAny (model T.P T.w) A (.call (.ref f) ⟨us, []⟩) (CR (L2.CX T.P T.w) outer T.P T.w H s Q E) s
theorem FnB.mono {k' : Nat} {m : List D → Res D} (h : k ≤ k') (F : FnB T k f bs m) : FnB T k' f bs m := fun A outer s G H us vs ds Q E hr => F A outer s G H us vs ds Q E (hr.mono h)
def spB (K : PySem.W.Frag) (bs : List Bool) (m : List D → Res D) : Sp := fun vs H Q E => vs.length = bs.length ∧ ∃ G ds, Ext G H ∧ RepsB K G H bs vs ds ∧ RG (Rep K) K E G H Q (m ds)
theorem fnB (F : FunD T.K x qual params body scope dvs kws f fd) (S : FnScope N ps scope) (hb : BodyOk T k N qual scope f body o) (hl : bs.length = ps.length := by rfl) : FnOk T.P T.w T.K T.mg T.base (L2.CX T.P T.w) (k + 1) f fd ps (spB T.K bs (mDefB bs N.length o)) :=
  F.ok S (fun vs H Q E h => h.1.trans hl) fun cdv A outer s H vs Q E hr ⟨_, G, ds, e, r, q⟩ => ⟨_, hb cdv A outer s H E hr (Base.of G H) rfl, G, _, env_startB e r, by
    have q' : RG (Rep T.K) T.K E G H Q (o (evB bs N.length ds)).fin := by unfold mDefB at q; exact q
    cases ho : o (evB bs N.length ds) with
    | rt d ρ => rw [ho] at q'; exact fun G' σ H' v e' => q' G' v H' (e'.dat rfl).1.grow (e'.dat rfl).2
    | nx ρ => rw [ho] at q'; exact fun G' σ H' e' => q' G' _ H' e'.grow .non
    | exc er ρ => rw [ho] at q'; exact fun G' σ H' c d e' kk => q' G' c d H' e'.grow kk
    | bk ρ => rw [ho] at q'; exact q'.elim
    | ct ρ => rw [ho] at q'; exact q'.elim
    | stuck => rw [ho] at q'; exact q'⟩
theorem FnB.of0 {m : List D → Res D} (F : FnOk T.P T.w T.K T.mg T.base (L2.CX T.P T.w) k f fd ps (spB T.K bs m)) (hb : Binds T.K fd ps []) (hj : bs.length = ps.length := by rfl) : FnB T k f bs m := by
  intro A outer s G H us vs ds Q E hr e0 r e rr h
  have l1 : vs.length = bs.length := rr.len.1.trans rr.len.2.symm
  have l2 : (us ++ []).length = ps.length := by rw [List.append_nil, ← r.length, l1, hj]
  exact F.run A outer s H ⟨us, []⟩ (us ++ []) vs Q E hr e0 (hb s us (e0.mod.kin.keeps fun b o q => (e0.bs b o q).1) l2) (by rw [List.append_nil]; exact r) ⟨l1, G, ds, e, rr, h⟩
structure GloB (T : Tk) (k : Nat) (x : Str) (bs : List Bool) (m : List D → Res D) : Prop where
  ex : ∃ f, T.mg x = some (.ref f) ∧ PySem.W.keepIn T.K (.ref f) = true ∧ FnB T k f bs m
end
section
variable {X : Cx} {B : Base} {W : WX} {k j : Nat} {x : Str} {g : List D → Res D} {e : Expr} {es : List Expr} {ms : Ev → Res (List D)} {p pos : Pos} {bs : List Bool}
theorem FnB.call {pins : List (Addr × Obj)} {σ : St} {G H : Hp} {s : Shared} {f : Addr} {m : List D → Res D} {us : List Value} {vs : List V} {ds : List D} {Q : VK} (F : FnB (tkOf X) k f bs m) (tk : Takes X W) (hr : Room k X.A) (I : Inv X pins σ H s) (r : Vals vs us) (e : Ext G H) (rr : RepsB X.K G H bs vs ds)
    (h : RG (Rep X.K) X.K (fun c d H' => W c d σ H') G H Q (m ds)) : wpAny (model X.prog X.w) X.A (call (.ref f) us) (EP X pins σ Q) X.xe s := by
  refine wpAny_call (codeAny_mono (codeAny_mono (F X.A X.stack s G H us vs ds Q (WE W σ) hr I.env0 r e rr h) fun _ _ q => cr_go tk I q) fun r s' q => ?_)
  cases r with
  | error e => exact q
  | ok fl => cases fl <;> exact q
theorem AG.bind {K : PySem.W.Frag} {E : XK} {G H : Hp} {Q : VK} {r : Res (List D)} {f : List D → Res D} {P : List V → Hp → Prop} (h : RG (Rep K) K E G H Q (r >>= f)) (k : ∀ ds G1 vs H1, Grow G H G1 H1 → RepsB K G1 H1 bs vs ds → RG (Rep K) K E G1 H1 Q (f ds) → P vs H1) : AG K bs E G H P r := by
  cases r with
  | ok ds => exact fun G1 vs H1 g rr => k ds G1 vs H1 g rr (RG.grow g h)
  | exc e => exact h
  | stuck => exact h
theorem me_callB' (F : GloB (tkOf X) k x bs g) (tk : Takes X W) (hr : Room k X.A) (hg : Gl X x) (ha : PA X (e :: es) (tAB X.K B W bs ms)) (hdb : (x == ("__debug__" : Str)) = false := by decide)
    (he : starEach (e :: es) X.env = (false, eval e X.env) :: starEach es X.env := by rfl) (hpl : (backTo pos (starEach es X.env)).any (·.1) = false := by rfl) : PE X (.Call (.Name x p) (e :: es) [] pos) (tM X.K B W (mCall g ms)) := by
  obtain ⟨f, hm, hk, F⟩ := F.ex
  refine ⟨fun pins s σ H Q I ⟨G, ρ, e0, h⟩ => ?_⟩
  refine wpAny_Call_Name_kw (ld_glob I hg hm ?_ hdb)
  refine PySem.W.callWith_K (h₀ := X.base) I.ok.mod.kin hk (thn (ha.run pos pins s σ H (fun vs H1 => ∃ G1 ds, Ext G1 H1 ∧ RepsB X.K G1 H1 bs vs ds ∧ RG (Rep X.K) X.K (fun c d H' => W c d σ H') G1 H1 Q (g ds)) I ?_) fun us s1 ⟨vs, H1, I1, r, G1, ds, e1, rr, q⟩ => ⟨I1.kIn, F.call tk hr I1 r e1 rr q⟩) he hpl
  exact ⟨G, ρ, e0, AG.bind h fun ds G1 vs H1 g rr q => ⟨G1, ds, g.sub, rr, q⟩⟩
end
def borOf (ρ : Ev) (i : Nat) : Option (List D) := match ρ[i]? with
  | some (.bor xs) => some xs
  | _ => none
theorem borOf_some {ρ : Ev} {i : Nat} {xs : List D} (h : borOf ρ i = some xs) : ρ[i]? = some (.bor xs) := by
  unfold borOf at h
  split at h
  · rename_i ys hs
    cases h
    exact hs
  · cases h
theorem itOk_bor {K : PySem.W.Frag} {H0 G1 : Hp} {a : Addr} {vs : List V} {ds : List D} (h : H0 a = some (.lst vs)) (r : Reps K G1 vs ds) : ItOk K H0 G1 (Itl K a) ds := by
  refine fun i G H e1 e0 e2 => ⟨fun hl => ⟨vs, .of (e0 _ _ h), by rw [r.length]; exact hl⟩, fun d hd => ?_⟩
  obtain ⟨v, hv, rv⟩ := r.getD hd
  refine ⟨⟨vs, v, .of (e0 _ _ h), hv⟩, fun x H' y => ?_⟩
  obtain ⟨rfl, y2⟩ := y
  have z := y2 vs (.of (e0 _ _ h))
  rw [hv] at z
  cases z
  exact ⟨G, .refl e2, rv.mono e1⟩
def iBor (i : Nat) : Ev → Res (List D) := fun ρ => ofOpt (borOf ρ i)
section
variable {X : Cx} {B : Base} {W : WX} {tg : Expr} {pos : Pos} {ma : Ev → Res D} {e : Expr}
theorem ip_bor (i : Nat) {x : Str} {p1 : Pos} (hN : X.N[i]? = some x := by rfl) (hv : Vis X.env.scope x := by first | exact Or.inl rfl | exact Or.inr (Or.inl rfl) | exact Or.inr (Or.inr rfl)) (hd : (x == ("__debug__" : Str)) = false := by decide) (hcd : (x == ("__classdict__" : Str)) = false := by decide) : IP X B W tg (.Name x p1) (iBor i) :=
  PI.imp (pi_seq (pe_var (i := i) hN hv hd hcd)) fun σ H R ⟨G, ρ, e0, q⟩ => by
    unfold iBor at q
    cases ho : borOf ρ i with
    | none => rw [ho] at q; exact q.elim
    | some xs =>
      rw [ho] at q
      obtain ⟨l, vs, hv, hl, r⟩ := e0.slot i _ (borOf_some ho)
      exact ⟨_, hv, l, rfl, .inl ⟨⟨vs, .inl (.of (e0.grow.h _ _ hl))⟩, q G _ H (.refl e0.sub) (itOk_bor hl r)⟩⟩
def fBor (i : Nat) : Ev → Res (List D) := fun ρ => ofOpt (borOf ρ i)
theorem mf_listBor (i : Nat) {x : Str} {p p1 : Pos} (hg : Gl X "list") (hm : X.mg "list" = none) (hN : X.N[i]? = some x := by rfl) (hv : Vis X.env.scope x := by first | exact Or.inl rfl | exact Or.inr (Or.inl rfl) | exact Or.inr (Or.inr rfl)) (hd : (x == ("__debug__" : Str)) = false := by decide) (hcd : (x == ("__classdict__" : Str)) = false := by decide)
    (hs : starEach [.Name x p1] X.env = (false, eval (.Name x p1) X.env) :: starEach [] X.env := by rfl) (hpl : (backTo pos (starEach [] X.env)).any (·.1) = false := by rfl) : PE X (.Call (.Name "list" p) [.Name x p1] [] pos) (tF X.K B W (fBor i)) :=
  PE.imp (pe_callTy call_list_of hg hm (by kernel_rfl) (pa_cons (pe_var (i := i) hN hv hd hcd) pa_nil hs) (by decide) (by decide) hs hpl) fun σ H Q ⟨G, ρ, e, q⟩ => by
    unfold fBor at q
    cases ho : borOf ρ i with
    | none => rw [ho] at q; exact q.elim
    | some xs =>
      rw [ho] at q
      obtain ⟨l, vs, hv, hl, r⟩ := e.slot i _ (borOf_some ho)
      exact ⟨_, hv, l, vs, rfl, .inl (.inl (.of (e.grow.h _ _ hl))), RG.fresh (.refl e.sub) q r⟩
/-- lists lent, read as data -/
def lend1 (i : Nat) (ρ : Ev) : Ev := match ρ[i]? with
  | some (.bor xs) => ρ.set i (.dat (.lst xs))
  | _ => ρ
def lendAll (is : List Nat) (ρ : Ev) : Ev := is.foldl (fun ρ i => lend1 i ρ) ρ
theorem EnvOk.lend1 {K : PySem.W.Frag} {G H : Hp} {σ : St} {ρ : Ev} (e : EnvOk K B G σ ρ H) (i : Nat) : ∃ G', Ext G G' ∧ EnvOk K (B.at G') G' σ (lend1 i ρ) H := by
  unfold PL.lend1
  split
  · rename_i xs hs
    obtain ⟨l, vs, hv, hl, r⟩ := e.slot i _ hs
    have hl' := e.grow.h _ _ hl
    have ex : ∃ G', Ext G G' ∧ Ext G' H ∧ G' l = some (.lst vs) ∧ ∀ a, G' a ≠ none → G a ≠ none ∨ B.H a ≠ none := by
      cases hg : G l with
      | some o =>
        have := e.sub _ _ hg
        rw [hl'] at this
        cases this
        exact ⟨G, .refl, e.sub, hg, fun a h => .inl h⟩
      | none =>
        refine ⟨upd G l (.lst vs), .upd hg, fun a o q => ?_, upd_same, fun a h => ?_⟩
        · by_cases z : a = l
          · subst z; rw [upd_same] at q; cases q; exact hl'
          · rw [upd_ne z] at q; exact e.sub _ _ q
        · by_cases z : a = l
          · subst z; exact .inr (by rw [hl]; exact fun w => nomatch w)
          · rw [upd_ne z] at h; exact .inl h
    obtain ⟨G', x, sub, gl, new⟩ := ex
    have keep : ∀ a, G a = none → B.H a = none → G' a = none := fun a h1 h2 => by
      cases h : G' a with
      | none => rfl
      | some o =>
        rcases new a (by rw [h]; exact fun w => nomatch w) with w | w
        · exact absurd h1 w
        · exact absurd h2 w
    have rows : ∀ {ls : List Addr} {xss : List (List D)}, RowsOk K B G H ls xss → RowsOk K (B.at G') G' H ls xss := by
      intro ls
      induction ls with
      | nil => intro xss h; cases xss with
        | nil => trivial
        | cons _ _ => exact h.elim
      | cons a ls ih =>
        intro xss h
        cases xss with
        | nil => exact h.elim
        | cons xs xss =>
          obtain ⟨⟨vs, h1, r, g1, b1⟩, h⟩ := h
          exact ⟨⟨vs, h1, r.mono x, keep _ g1 b1, b1⟩, ih h⟩
    have sl : ∀ (v : Option (Option V)) (s : Sl), SlotOk K B G H v s → SlotOk K (B.at G') G' H v s := fun v s h => by
      cases s with
      | no => trivial
      | dat d => obtain ⟨x', e1, r⟩ := h; exact ⟨x', e1, r.mono x⟩
      | own ys => obtain ⟨l, vs, e1, h1, r, g1, b1⟩ := h; exact ⟨l, vs, e1, h1, r.mono x, keep _ g1 b1, b1⟩
      | own2 yss => obtain ⟨l, ls, e1, h1, r, g1, b1, nd⟩ := h; exact ⟨l, ls, e1, h1, rows r, keep _ g1 b1, b1, nd⟩
      | ins c fs => obtain ⟨l, dx, fv, e1, h1, a1, r, g1, b1, me⟩ := h; exact ⟨l, dx, fv, e1, h1, a1, r.mono x, keep _ g1 b1, b1, me⟩
      | exn er => obtain ⟨a, cls, dx, e1, e2, k⟩ := h; exact ⟨a, cls, dx, e1, e2, k.mono x fun _ _ z => z⟩
      | cls c => exact h
      | bor ys => obtain ⟨l, vs, e1, h1, r⟩ := h; exact ⟨l, vs, e1, h1, r.mono x⟩
    have e1 : EnvOk K (B.at G') G' σ ρ H := ⟨⟨.refl, e.grow.h, sub, fun a o q => .inl q⟩, e.len, fun j s q => sl _ _ (e.slot j s q), e.sep⟩
    refine ⟨G', x, ?_⟩
    have z := e1.put i (x := some (.ref l)) (s := .dat (.lst xs)) (fun _ => ⟨_, rfl, .lst (.inl gl) (r.mono x)⟩) fun a f => (foot_dat f).elim
    have hi : i < σ.length := by
      rw [e.len]
      exact (List.getElem?_eq_some_iff.mp hs).1
    have es : σ.set i (some (.ref l)) = σ := by
      refine List.ext_getElem? fun j => ?_
      by_cases w : j = i
      · subst w
        rw [List.getElem?_set_self hi, hv]
      · rw [List.getElem?_set_ne (Ne.symm w)]
    rw [es] at z
    exact z
  · exact ⟨G, .refl, e.rebase⟩
theorem EnvOk.lendAll {K : PySem.W.Frag} {H : Hp} {σ : St} : ∀ (is : List Nat) {ρ : Ev} {G : Hp} {B : Base}, EnvOk K B G σ ρ H → ∃ G', Ext G G' ∧ EnvOk K (B.at G') G' σ (lendAll is ρ) H
  | [], ρ, G, B, e => ⟨G, .refl, e.rebase⟩
  | i :: is, ρ, G, B, e => by
    obtain ⟨G1, x1, e1⟩ := e.lend1 i
    obtain ⟨G2, x2, e2⟩ := EnvOk.lendAll is e1
    exact ⟨G2, x1.trans x2, e2⟩
def mPeekB (is : List Nat) (m : Ev → Res D) : Ev → Res D := fun ρ => peekD (m (lendAll is ρ))
def mtPeekB (is : List Nat) (m : Ev → Res Bool) : Ev → Res Bool := fun ρ => peekT (m (lendAll is ρ))
theorem me_peekB (is : List Nat) (h : ∀ B', PE X e (tM X.K B' W ma)) : PE X e (tM X.K B W (mPeekB is ma)) := ⟨fun pins s σ H Q I ⟨G, ρ, e0, q⟩ => by
  obtain ⟨G', x, e1⟩ := EnvOk.lendAll is e0
  refine (h (B.at G')).run pins s σ H Q I ⟨G', _, e1, ?_⟩
  unfold mPeekB at q
  cases hm : ma (PL.lendAll is ρ) with
  | ok d =>
    rw [hm] at q
    obtain ⟨f, q⟩ := RG.chk (show RG (Rep X.K) X.K _ G H Q (chk (isFlatV d = true) (.ok d)) from q)
    exact fun G2 v H2 g r => q G v H2 (grow_back x g) (flat_rep r f)
  | exc er =>
    rw [hm] at q
    obtain ⟨f, q⟩ := RG.chk (show RG (Rep X.K) X.K _ G H Q (chk (flatFs er.fs = true) (.exc er)) from q)
    exact fun G2 c d H2 g k => q G c d H2 (grow_back x g) (err_flat k f)
  | stuck => rw [hm] at q; exact q⟩
theorem mt_peekB (is : List Nat) {t : Ev → Res Bool} (h : ∀ B', PT X e (tMT X.K B' W t)) : PT X e (tMT X.K B W (mtPeekB is t)) := ⟨fun pins s σ H Q I ⟨G, ρ, e0, q⟩ => by
  obtain ⟨G', x, e1⟩ := EnvOk.lendAll is e0
  refine (h (B.at G')).run pins s σ H Q I ⟨G', _, e1, ?_⟩
  unfold mtPeekB at q
  cases hm : t (PL.lendAll is ρ) with
  | ok d =>
    rw [hm] at q
    exact fun G2 v H2 g r => q G v H2 (grow_back x g) r
  | exc er =>
    rw [hm] at q
    obtain ⟨f, q⟩ := RG.chk (show RG (fun _ b c => b = c) X.K _ G H Q (chk (flatFs er.fs = true) (.exc er)) from q)
    exact fun G2 c d H2 g k => q G c d H2 (grow_back x g) (err_flat k f)
  | stuck => rw [hm] at q; exact q⟩
end
section
variable {Q : D → Prop} {E : Err → Prop} {ρ : Ev} {i : Nat}
@[simp] theorem wm_consB {Q : List D → Prop} {ms : Ev → Res (List D)} : wr (mConsB i ms ρ) Q E = match ρ[i]? with | some (.own xs) => wr (ms ρ) (fun ds => Q (.lst xs :: ds)) E | some (.bor xs) => wr (ms ρ) (fun ds => Q (.lst xs :: ds)) E | _ => False := by
  with_unfolding_all
    unfold mConsB lentOf
    cases ρ[i]? with
    | none => rfl
    | some sl => cases sl with
      | own xs => exact wr_bind
      | bor xs => exact wr_bind
      | _ => rfl
@[simp] theorem wm_iBor {Q : List D → Prop} : wr (iBor i ρ) Q E = match ρ[i]? with | some (.bor xs) => Q xs | _ => False := by
  with_unfolding_all
    unfold iBor borOf
    cases ρ[i]? with
    | none => rfl
    | some sl => cases sl <;> rfl
@[simp] theorem wm_fBor {Q : List D → Prop} : wr (fBor i ρ) Q E = match ρ[i]? with | some (.bor xs) => Q xs | _ => False := by
  with_unfolding_all
    unfold fBor borOf
    cases ρ[i]? with
    | none => rfl
    | some sl => cases sl <;> rfl
@[simp] theorem wm_peekB {is : List Nat} {m : Ev → Res D} : wr (mPeekB is m ρ) Q E = wr (m (lendAll is ρ)) (fun d => isFlatV d = true ∧ Q d) (fun e => flatFs e.fs = true ∧ E e) := by
  with_unfolding_all
    unfold mPeekB peekD
    cases m (lendAll is ρ) with
    | ok d => exact wr_chk
    | exc e => exact wr_chk
    | stuck => rfl
@[simp] theorem wm_tpeekB {is : List Nat} {m : Ev → Res Bool} {Q : Bool → Prop} : wr (mtPeekB is m ρ) Q E = wr (m (lendAll is ρ)) Q (fun e => flatFs e.fs = true ∧ E e) := by
  with_unfolding_all
    unfold mtPeekB peekT
    cases m (lendAll is ρ) with
    | ok d => rfl
    | exc e => exact wr_chk
    | stuck => rfl
theorem wr_defB {bs : List Bool} {n : Nat} {o : Ev → Out} {ds : List D} {Q : D → Prop} {E : Err → Prop} (h : wp o ⟨fun _ => Q .non, Q, fun _ => False, fun _ => False, fun e _ => E e⟩ (evB bs n ds)) : wr (mDefB bs n o ds) Q E := by
  with_unfolding_all
    unfold mDefB
    unfold wp at h
    cases ho : o (evB bs n ds) with
    | bk ρ => rw [ho] at h; exact h.elim
    | ct ρ => rw [ho] at h; exact h.elim
    | stuck => rw [ho] at h; exact h.elim
    | nx ρ => rw [ho] at h; exact h
    | rt d ρ => rw [ho] at h; exact h
    | exc e ρ => rw [ho] at h; exact h
end
end PL
namespace K04
noncomputable section
open PySem PySem.Spec L2 PL
def o__law_draws : Ev → Out :=
  (oSeq (oSetF 3 (fLst mNil))
    (oSeq (oSet 4 (mOp subD (mVar 0) (mOp powD (mCon (.int 10)) (mCon (.int 18)))))
    (oSeq (oSet 5 (mOp addD (mVar 0) (mOp mulD (mCon (.int 7919)) (mVar 1))))
    (oSeq (oFor (iMapA rng1 (mCons (mCall lenD (mCons (mVar 2) mNil)) mNil)) (gN 6)
    (oIf (mBl (mOp geD (mVar 4) (mCon (.int 0)))) (oSeq (oApp 3 (mOp modD (mCall intD (mCons (mVar 4) mNil)) (mOp ixD (mVar 2) (mVar 6))))
    (oSet 4 (mOp fdivD (mVar 4) (mOp ixD (mVar 2) (mVar 6))))) (oSeq (oSet 5 (mOp modD (mCall intD (mCons (mOp addD (mOp addD (mOp mulD (mVar 5) (mVar 5)) (mOp mulD (mCon (.int 3571)) (mOp addD (mVar 6) (mCon (.int 1))))) (mCon (.int 40692))) mNil)) (mCon (.int 2147483399))))
    (oSeq (oSet 5 (mOp modD (mCall intD (mCons (mOp addD (mOp mulD (mVar 5) (mVar 5)) (mOp fdivD (mVar 5) (mCon (.int 97)))) mNil)) (mCon (.int 2147483629))))
    (oApp 3 (mOp modD (mCall intD (mCons (mOp fdivD (mVar 5) (mCon (.int 8))) mNil)) (mOp ixD (mVar 2) (mVar 6))))))))
    (oFrz 3 (oRet (mVar 3)))))))
def m__law_draws : List D → Res D := mDef 7 o__law_draws
def o__law_cell : Ev → Out :=
  (oSeq (oIf (mBl (mOp ltD (mVar 1) (mCall lenD (mCons (mVar 0) mNil)))) (oRet (mCall absD (mCons (mOp ixD (mVar 0) (mVar 1)) mNil))) Out.nx)
    (oRet (mCon (.int 0))))
def m__law_cell : List D → Res D := mDef 2 o__law_cell
def o__law_sparse : Ev → Out :=
  (oSeq (oSet 3 (mCall m__law_draws (mCons (mVar 0) (mCons (mVar 1) (mCons (lstOf (fOp catL (lstOf (fLst (mCons (mCon (.int 7)) mNil))) (lstOf (fOp repL (lstOf (fLst (mCons (mCon (.int 360)) mNil))) (mCon (.int 6)))))) mNil)))))
    (oSeq (oSet 4 (lstOf (fLc [5] (iMap itD (mSl (mVar 3) (mPart (mCon (.int 1))) (mPart (mOp addD (mCon (.int 1)) (mOp ixD (mVar 3) (mCon (.int 0))))))) (gN 5) mYes (mOp modD (mCall intD (mCons (mVar 5) mNil)) (mVar 2)))))
    (oRet (lstOf (fLc [6] (iMapA rng1 (mCons (mVar 2) mNil)) (gN 6) (mBl (mOp inD (mVar 6) (mVar 4))) (mVar 6))))))
def m__law_sparse : List D → Res D := mDef 7 o__law_sparse
def o__law_bits : Ev → Out :=
  (oSeq (oSetF 2 (fLst mNil))
    (oSeq (oFor (iMapA rng1 (mCons (mVar 0) mNil)) (gN 3)
    (oSeq (oIf (mBl (mOp eqD (mOp modD (mCall intD (mCons (mVar 1) mNil)) (mCon (.int 2))) (mCon (.int 1)))) (oApp 2 (mVar 3)) Out.nx)
    (oSet 1 (mOp fdivD (mVar 1) (mCon (.int 2))))))
    (oFrz 2 (oRet (mVar 2)))))
def m__law_bits : List D → Res D := mDef 4 o__law_bits
def o__law_subset : Ev → Out :=
  (oSeq (oSet 3 (lstOf (fLst mNil)))
    (oSeq (oSet 4 (mCall m__law_draws (mCons (mVar 0) (mCons (mVar 1) (mCons (lstOf (fOp repL (lstOf (fLst (mCons (mOp powD (mCon (.int 2)) (mCon (.int 25))) mNil))) (mOp addD (mCon (.int 1)) (mOp fdivD (mOp subD (mVar 2) (mCon (.int 1))) (mCon (.int 25)))))) mNil)))))
    (oSeq (oFor (iMapA rng1 (mCons (mCall lenD (mCons (mVar 4) mNil)) mNil)) (gN 5)
    (oSet 3 (lstOf (fOp catL (mVar 3) (lstOf (fLc [6] (iMap itD (mCall m__law_bits (mCons (mCon (.int 25)) (mCons (mOp ixD (mVar 4) (mVar 5)) mNil)))) (gN 6) (mBl (mOp ltD (mOp addD (mOp mulD (mCon (.int 25)) (mVar 5)) (mVar 6)) (mVar 2))) (mOp addD (mOp mulD (mCon (.int 25)) (mVar 5)) (mVar 6))))))))
    (oRet (mVar 3)))))
def m__law_subset : List D → Res D := mDef 7 o__law_subset
def o__law_drawn_lot : Ev → Out :=
  (oSeq (oIf (mBl (mOp eqD (mVar 4) (mCon (.int 0)))) (oRet (lstOf (fLst mNil))) Out.nx)
    (oSeq (oIf (mtAnd (mBl (mOp eqD (mVar 4) (mCon (.int 1)))) (mtNot (mTru (mVar 3)))) (oRet (lstOf (fRg1 (mVar 2)))) Out.nx)
    (oSeq (oIf (mtOr (mBl (mOp leD (mVar 4) (mCon (.int 2)))) (mTru (mVar 3))) (oRet (mCall m__law_sparse (mCons (mVar 0) (mCons (mOp addD (mVar 1) (mCon (.int 1))) (mCons (mVar 2) mNil))))) Out.nx)
    (oRet (mCall m__law_subset (mCons (mVar 0) (mCons (mVar 1) (mCons (mVar 2) mNil))))))))
def m__law_drawn_lot : List D → Res D := mDef 5 o__law_drawn_lot
def o_hours_checked : Ev → Out :=
  (oIf (mtNot (mBl (mChain leD leD (mCon (.int 1)) (mVar 0) (mVar 1)))) (oRaise (mX (xF2 .BadNumber 22 .name .value) (mCons (mCon (.str "hours")) (mCons (mVar 0) mNil)))) Out.nx)
def m_hours_checked : List D → Res D := mDef 2 o_hours_checked
def t_MOST_Lot : Cl → Option D
  | .Lot => some (.int 360)
  | _ => none
def o_first_repeated : Ev → Out :=
  (oSeq (oFor (iMapA rng2 (mCons (mCon (.int 1)) (mCons (mCall lenD (mCons (mVar 0) mNil)) mNil))) (gN 1)
    (oIf (mBl (mOp inD (mOp ixD (mVar 0) (mVar 1)) (mSl (mVar 0) mNoP (mPart (mVar 1))))) (oRet (mOp ixD (mVar 0) (mVar 1))) Out.nx))
    (oRet (mCon .non)))
def m_first_repeated : List D → Res D := mDef 2 o_first_repeated
def o_Lot___init__ : Ev → Out :=
  (oSeq (oExpr (mCall m_hours_checked (mCons (mVar 1) (mCons (mInsC 0 t_MOST_Lot) mNil))))
    (oSeq (oSetL 3 (fLc [4] (iMap itD (mVar 2)) (gN 4) mYes (mOp modD (mVar 4) (mVar 1))))
    (oSeq (oIf (mBl (mOp ltD (mUn dlenD (mVar 3)) (mCall lenD (mCons (mVar 3) mNil)))) (oRaise (mX (xF1 .RepeatedHour .hour) (mCons (mCall m_first_repeated (mCons (mVar 3) mNil)) mNil))) Out.nx)
    (oSeq (oFld 0 .Lot .hours (mVar 1))
    (oFld 0 .Lot .u_members (lstOf (fSrt (lstOf (fLc [5] (iMap itD (mVar 3)) (gN 5) mYes (mCall intD (mCons (mVar 5) mNil)))))))))))
def mi0_Lot : List D → Res (List (Nm × D)) := mIni .Lot 6 o_Lot___init__
def mi_Lot_2 : List D → Res (List (Nm × D)) := mi0_Lot
def o_rings_checked : Ev → Out :=
  (oIf (mBl (mOp neD (mUn (fldD .hours) (mVar 0)) (mUn (fldD .hours) (mVar 1)))) (oRaise (mX0 .OtherHours)) Out.nx)
def m_rings_checked : List D → Res D := mDef 2 o_rings_checked
def tn_Lot : Cl → Option Nm
  | .Lot => some .u_members
  | _ => none
def o_meetings : Ev → Out :=
  (oSeq (oExpr (mCall m_rings_checked (mCons (mVar 0) (mCons (mVar 1) mNil))))
    (oSeq (oSetF 2 (fLc [3] (iMapA rng1 (mCons (mUn (fldD .hours) (mVar 0)) mNil)) (gN 3) mYes (mCon (.int 0))))
    (oSeq (oFor (iMap (itO tn_Lot) (mVar 0)) (gN 4)
    (oFor (iMap (itO tn_Lot) (mVar 1)) (gN 5)
    (oSeq (oSet 6 (mOp modD (mOp subD (mVar 4) (mVar 5)) (mUn (fldD .hours) (mVar 0))))
    (oSetIx 2 (mVar 6) (mPeek [2] (mOp addD (mOp ixD (mVar 2) (mVar 6)) (mCon (.int 1))))))))
    (oRetO1 2))))
def m_meetings : List D → Res D := mDef 7 o_meetings
def tk_Meets : Cl → Option Bool
  | .BadNumber => some false
  | .OtherHours => some false
  | .RepeatedHour => some false
  | _ => none
def tk_OtherHouse : Cl → Option Bool
  | .BadNumber => some false
  | .OtherHours => some false
  | .RepeatedHour => some false
  | _ => none
def tk_ValueError : Cl → Option Bool
  | .BadNumber => some true
  | .OtherHours => some true
  | .RepeatedHour => some true
  | _ => none
def tk_OtherHours : Cl → Option Bool
  | .BadNumber => some false
  | .OtherHours => some true
  | .RepeatedHour => some false
  | _ => none
def tk_WrongLength : Cl → Option Bool
  | .BadNumber => some false
  | .OtherHours => some false
  | .RepeatedHour => some false
  | _ => none
def tx_WatchError : Cl → Option Bool
  | .BadNumber => some true
  | .OtherHours => some true
  | .RepeatedHour => some true
  | _ => none
def o__law_kept_apart : Ev → Out :=
  (oSeq (oSet 2 (mCon .non))
    (oSeq (oSet 3 (lstOf (fLst mNil)))
    (oSeq (oTry (oSet 2 (mCall m_meetings (mCons (mVar 0) (mCons (mVar 1) mNil)))) (⟨tx_WatchError, some 4, (oSeq (oSet 3 (lstOf (fLst (mCons (mXi 4 tk_OtherHours) (mCons (mXi 4 tk_ValueError) (mCons (mXi 4 tk_OtherHouse) (mCons (mXi 4 tk_Meets) mNil)))))))
    (oSet 3 (lstOf (fOp catL (mVar 3) (lstOf (fLst (mCons (mXi 4 tk_WrongLength) mNil)))))))⟩ :: []))
    (oRet (mAnd (mOp isD (mVar 2) (mCon .non)) (mOp eqD (mVar 3) (lstOf (fLst (mCons (mCon (.bl true)) (mCons (mCon (.bl true)) (mCons (mCon (.bl false)) (mCons (mCon (.bl false)) (mCons (mCon (.bl false)) mNil)))))))))))))
def m__law_kept_apart : List D → Res D := mDef 5 o__law_kept_apart
def tt_int : Cl → Bool
  | .Lot => true
  | _ => false
def tt_bool : Cl → Bool
  | .Lot => true
  | _ => false
def o__law_is_int : Ev → Out :=
  (oRet (mAnd (mUn (isiD (isTy "int" tt_int)) (mVar 0)) (mBool (mtNot (mTru (mUn (isiD (isTy "bool" tt_bool)) (mVar 0)))))))
def m__law_is_int : List D → Res D := mDef 1 o__law_is_int
def tt_str : Cl → Bool
  | .Lot => true
  | _ => false
def tt_tuple : Cl → Bool
  | .Lot => true
  | _ => false
def tt_list : Cl → Bool
  | .Lot => true
  | _ => false
def o__law_same (r : List D → Res D) : Ev → Out :=
  (oSeq (oIf (mBl (mOp isD (mVar 1) (mCon .non))) (oRet (mOp isD (mVar 0) (mCon .non))) Out.nx)
    (oSeq (oIf (mBl (mOp isD (mVar 1) (mCon (.bl true)))) (oRet (mOp isD (mVar 0) (mCon (.bl true)))) Out.nx)
    (oSeq (oIf (mBl (mOp isD (mVar 1) (mCon (.bl false)))) (oRet (mOp isD (mVar 0) (mCon (.bl false)))) Out.nx)
    (oSeq (oIf (mTru (mUn (isiD (isTy "int" tt_int)) (mVar 1))) (oRet (mAnd (mCall m__law_is_int (mCons (mVar 0) mNil)) (mOp eqD (mVar 0) (mVar 1)))) Out.nx)
    (oSeq (oIf (mTru (mUn (isiD (isTy "str" tt_str)) (mVar 1))) (oRet (mAnd (mUn (isiD (isTy "str" tt_str)) (mVar 0)) (mOp eqD (mVar 0) (mVar 1)))) Out.nx)
    (oSeq (oIf (mTru (mUn (isiD (isTy "tuple" tt_tuple)) (mVar 1))) (oIf (mtOr (mtNot (mTru (mUn (isiD (isTy "tuple" tt_tuple)) (mVar 0)))) (mBl (mOp neD (mCall lenD (mCons (mVar 0) mNil)) (mCall lenD (mCons (mVar 1) mNil))))) (oRet (mCon (.bl false))) Out.nx) (oIf (mtOr (mtNot (mTru (mUn (isiD (isTy "list" tt_list)) (mVar 0)))) (mBl (mOp neD (mCall lenD (mCons (mVar 0) mNil)) (mCall lenD (mCons (mVar 1) mNil))))) (oRet (mCon (.bl false))) Out.nx))
    (oSeq (oFor (iMapA rng1 (mCons (mCall lenD (mCons (mVar 1) mNil)) mNil)) (gN 2)
    (oIf (mtNot (mTru (mCall r (mCons (mOp ixD (mVar 0) (mVar 2)) (mCons (mOp ixD (mVar 1) (mVar 2)) mNil))))) (oRet (mCon (.bl false))) Out.nx))
    (oRet (mCon (.bl true))))))))))
def mr__law_same : Nat → List D → Res D
  | 0 => fun _ => .stuck
  | n + 1 => mDef 3 (o__law_same (mr__law_same n))
abbrev m__law_same : List D → Res D := mr__law_same 8
def o_Lot_members : Ev → Out :=
  (oRet (lstOf (fList (mUn (fldD .u_members) (mVar 0)))))
def m_Lot_members : List D → Res D := mDef 1 o_Lot_members
def t_members_Lot : Cl → Option (List D → Res D)
  | .Lot => some m_Lot_members
  | _ => none
def o__law_counts : Ev → Out :=
  (oSeq (oSet 3 (lstOf (fLc [4] (iMapA rng1 (mCons (mVar 2) mNil)) (gN 4) mYes (mOp inD (mVar 4) (mVar 0)))))
    (oSeq (oSetF 5 (fLst mNil))
    (oSeq (oFor (iMapA rng1 (mCons (mVar 2) mNil)) (gN 6)
    (oApp 5 (mCall lenD (mCons (lstOf (fLc [7] (iMap itD (mVar 1)) (gN 7) (mTru (mOp ixD (mVar 3) (mOp modD (mCall intD (mCons (mOp addD (mVar 7) (mVar 6)) mNil)) (mVar 2)))) (mVar 7))) mNil))))
    (oFrz 5 (oRet (mVar 5))))))
def m__law_counts : List D → Res D := mDef 8 o__law_counts
def o__law_agrees : Ev → Out :=
  (oSeq (oSetF 3 (asL (mCall m_meetings (mCons (mVar 0) (mCons (mVar 1) mNil)))))
    (oSeq (oIf (mtPeek [3] (mtNot (mTru (mCall m__law_same (mCons (mVar 3) (mCons (mVar 2) mNil)))))) (oRet (mCon (.bl false))) Out.nx)
    (oSeq (oSetIx 3 (mCon (.int 0)) (mPeek [3] (mOp addD (mOp ixD (mVar 3) (mCon (.int 0))) (mCon (.int 1)))))
    (oSeq (oApp 3 (mCon (.int 0)))
    (oRet (mCall m__law_same (mCons (mCall m_meetings (mCons (mVar 0) (mCons (mVar 1) mNil))) (mCons (mVar 2) mNil))))))))
def m__law_agrees : List D → Res D := mDef 4 o__law_agrees
def o_differences : Ev → Out :=
  (oRet (lstOf (asL (mCall m_meetings (mCons (mVar 0) (mCons (mVar 0) mNil))))))
def m_differences : List D → Res D := mDef 1 o_differences
def o__law_differs : Ev → Out :=
  (oSeq (oSetF 2 (asL (mCall m_differences (mCons (mVar 0) mNil))))
    (oSeq (oIf (mtPeek [2] (mtNot (mTru (mCall m__law_same (mCons (mVar 2) (mCons (mVar 1) mNil)))))) (oRet (mCon (.bl false))) Out.nx)
    (oSeq (oSetIx 2 (mCon (.int 0)) (mPeek [2] (mOp addD (mOp ixD (mVar 2) (mCon (.int 0))) (mCon (.int 1)))))
    (oSeq (oApp 2 (mCon (.int 0)))
    (oRet (mCall m__law_same (mCons (mCall m_differences (mCons (mVar 0) mNil)) (mCons (mVar 1) mNil))))))))
def m__law_differs : List D → Res D := mDef 3 o__law_differs
def o__law_part_a_16 : Ev → Out :=
  (oRet (mAnd (mCall m__law_same (mCons (mUn (attrD none t_members_Lot) (mVar 8)) (mCons (mVar 5) mNil))) (mCall m__law_same (mCons (mUn (attrD none t_members_Lot) (mVar 9)) (mCons (mVar 6) mNil)))))
def o__law_part_a_15 : Ev → Out :=
  (oSeq (oIf (mtOr (mtNot (mTru (mCall m__law_differs (mCons (mVar 9) (mCons (mCall m__law_counts (mCons (mVar 6) (mCons (mVar 6) (mCons (mVar 2) mNil)))) mNil))))) (mtNot (mTru (mCall m__law_differs (mCons (mVar 8) (mCons (mVar 10) mNil)))))) (oRet (mCon (.bl false))) Out.nx)
    o__law_part_a_16)
def o__law_part_a_14 : Ev → Out :=
  (oSeq (oIf (mtOr (mtNot (mTru (mCall m__law_differs (mCons (mVar 8) (mCons (mVar 10) mNil))))) (mtNot (mTru (mCall m__law_agrees (mCons (mVar 8) (mCons (mVar 8) (mCons (mVar 10) mNil))))))) (oRet (mCon (.bl false))) Out.nx)
    o__law_part_a_15)
def o__law_part_a_13 : Ev → Out :=
  (oSeq (oSet 10 (mCall m__law_counts (mCons (mVar 5) (mCons (mVar 5) (mCons (mVar 2) mNil)))))
    o__law_part_a_14)
def o__law_part_a_12 : Ev → Out :=
  (oSeq (oIf (mtOr (mtNot (mTru (mCall m__law_agrees (mCons (mVar 8) (mCons (mVar 9) (mCons (mVar 10) mNil)))))) (mtNot (mTru (mCall m__law_agrees (mCons (mVar 9) (mCons (mVar 8) (mCons (lstOf (fLc [11] (iMapA rng1 (mCons (mVar 2) mNil)) (gN 11) mYes (mOp ixD (mVar 10) (mOp modD (mCall intD (mCons (mOp subD (mCon (.int 0)) (mVar 11)) mNil)) (mVar 2))))) mNil))))))) (oRet (mCon (.bl false))) Out.nx)
    o__law_part_a_13)
def o__law_part_a_11 : Ev → Out :=
  (oSeq (oSet 10 (mCall m__law_counts (mCons (mVar 5) (mCons (mVar 6) (mCons (mVar 2) mNil)))))
    o__law_part_a_12)
def o__law_part_a_10 : Ev → Out :=
  (oSeq (oIf (mBl (mOp neD (mVar 2) (mVar 4))) (oSeq (oIf (mtOr (mtNot (mTru (mCall m__law_kept_apart (mCons (mVar 8) (mCons (mVar 9) mNil))))) (mtNot (mTru (mCall m__law_kept_apart (mCons (mVar 9) (mCons (mVar 8) mNil)))))) (oRet (mCon (.bl false))) Out.nx)
    (oRet (mAnd (mCall m__law_same (mCons (mUn (attrD none t_members_Lot) (mVar 8)) (mCons (mVar 5) mNil))) (mCall m__law_same (mCons (mUn (attrD none t_members_Lot) (mVar 9)) (mCons (mVar 6) mNil)))))) Out.nx)
    o__law_part_a_11)
def o__law_part_a_9 : Ev → Out :=
  (oSeq (oSet 9 (mCall (newD .Lot mi_Lot_2) (mCons (mVar 4) (mCons (lstOf (fList (mVar 6))) mNil))))
    o__law_part_a_10)
def o__law_part_a_8 : Ev → Out :=
  (oSeq (oSet 8 (mCall (newD .Lot mi_Lot_2) (mCons (mVar 2) (mCons (lstOf (fList (mVar 5))) mNil))))
    o__law_part_a_9)
def o__law_part_a_7 : Ev → Out :=
  (oSeq (oIf (mBl (mOp eqD (mOp ixD (mVar 1) (mCon (.int 7))) (mCon (.int 3)))) (oSetL 6 (fLc [7] (iMap itD (mVar 5)) (gN 7) (mBl (mOp ltD (mVar 7) (mVar 4))) (mVar 7))) Out.nx)
    o__law_part_a_8)
def o__law_part_a_6 : Ev → Out :=
  (oSeq (oSet 6 (mCall m__law_drawn_lot (mCons (mCall m__law_cell (mCons (mVar 0) (mCons (mCon (.int 2)) mNil))) (mCons (mCon (.int 42)) (mCons (mVar 4) (mCons (mVar 3) (mCons (mOp ixD (mVar 1) (mCon (.int 7))) mNil)))))))
    o__law_part_a_7)
def o__law_part_a_5 : Ev → Out :=
  (oSeq (oSet 5 (mCall m__law_drawn_lot (mCons (mCall m__law_cell (mCons (mVar 0) (mCons (mCon (.int 1)) mNil))) (mCons (mCon (.int 26)) (mCons (mVar 2) (mCons (mVar 3) (mCons (mOp ixD (mVar 1) (mCon (.int 6))) mNil)))))))
    o__law_part_a_6)
def o__law_part_a_4 : Ev → Out :=
  (oSeq (oIf (mBl (mOp eqD (mOp ixD (mVar 1) (mCon (.int 5))) (mCon (.int 0)))) (oSet 4 (mOp addD (mOp modD (mCall intD (mCons (mVar 2) mNil)) (mCon (.int 360))) (mCon (.int 1)))) Out.nx)
    o__law_part_a_5)
def o__law_part_a_3 : Ev → Out :=
  (oSeq (oSet 4 (mVar 2))
    o__law_part_a_4)
def o__law_part_a_2 : Ev → Out :=
  (oSeq (oSet 3 (mOp eqD (mOp ixD (mVar 1) (mCon (.int 0))) (mCon (.int 0))))
    o__law_part_a_3)
def o__law_part_a_1 : Ev → Out :=
  (oSeq (oSet 2 (mOp ixD (lstOf (fLst (mCons (mOp addD (mCon (.int 1)) (mOp ixD (mVar 1) (mCon (.int 4)))) (mCons (mOp addD (mCon (.int 1)) (mOp ixD (mVar 1) (mCon (.int 3)))) (mCons (mOp addD (mCon (.int 1)) (mOp ixD (mVar 1) (mCon (.int 2)))) (mCons (mOp addD (mCon (.int 1)) (mOp ixD (mVar 1) (mCon (.int 2)))) (mCons (mOp addD (mCon (.int 1)) (mOp ixD (mVar 1) (mCon (.int 1)))) mNil))))))) (mCall minD (mCons (mCon (.int 4)) (mCons (mOp ixD (mVar 1) (mCon (.int 0))) mNil)))))
    o__law_part_a_2)
def o__law_part_a : Ev → Out :=
  (oSeq (oSet 1 (mCall m__law_draws (mCons (mCall m__law_cell (mCons (mVar 0) (mCons (mCon (.int 0)) mNil))) (mCons (mCon (.int 21)) (mCons (lstOf (fLst (mCons (mCon (.int 8)) (mCons (mCon (.int 12)) (mCons (mCon (.int 24)) (mCons (mCon (.int 120)) (mCons (mCon (.int 360)) (mCons (mCon (.int 8)) (mCons (mCon (.int 6)) (mCons (mCon (.int 6)) mNil)))))))))) mNil)))))
    o__law_part_a_1)
def m__law_part_a : List D → Res D := mDef 12 o__law_part_a
def o__law_round_parts : Ev → Out :=
  (oSeq (oSet 4 (mCall m__law_draws (mCons (mVar 0) (mCons (mCon (.int 3)) (mCons (lstOf (fLst (mCons (mCon (.int 100)) (mCons (mVar 1) (mCons (mVar 1) (mCons (mCon (.int 4)) (mCons (mCon (.int 9)) mNil))))))) mNil)))))
    (oSeq (oSetF 5 (fLst mNil))
    (oSeq (oFor (iMapA rng1 (mCons (mOp addD (mCon (.int 1)) (mOp ixD (mVar 4) (mCon (.int 0)))) mNil)) (gN 6)
    (oSeq (oSet 7 (mOp addD (mOp mulD (mVar 6) (mOp ixD (mVar 4) (mCon (.int 3)))) (mOp fdivD (mVar 6) (mOp addD (mCon (.int 1)) (mOp ixD (mVar 4) (mCon (.int 4)))))))
    (oSeq (oSet 8 (mTup (mCons (mOp addD (mVar 2) (mOp modD (mCall intD (mCons (mVar 7) mNil)) (mCon (.int 4)))) (mCons (mOp modD (mCall intD (mCons (mOp addD (mOp ixD (mVar 4) (mCon (.int 1))) (mOp mulD (mVar 6) (mOp ixD (mVar 4) (mCon (.int 2))))) mNil)) (mVar 1)) mNil))))
    (oIf (mtPeek [5] (mtOr (mTru (mVar 3)) (mBl (mOp ninP (mVar 8) (mVar 5))))) (oApp 5 (mVar 8)) Out.nx))))
    (oFrz 5 (oRet (mVar 5))))))
def m__law_round_parts : List D → Res D := mDef 9 o__law_round_parts
def o__law_any_parts : Ev → Out :=
  (oSeq (oSet 4 (lstOf (fLst (mCons (mCon (.int 21)) mNil))))
    (oSeq (oFor (iMapA rng1 (mCons (mCon (.int 20)) mNil)) (gN 5)
    (oSet 4 (lstOf (fOp catL (mVar 4) (lstOf (fLst (mCons (mCon (.int 4)) (mCons (mVar 1) mNil))))))))
    (oSeq (oSet 6 (mCall m__law_draws (mCons (mVar 0) (mCons (mCon (.int 3)) (mCons (mVar 4) mNil)))))
    (oSeq (oSetF 7 (fLst mNil))
    (oSeq (oFor (iMapA rng1 (mCons (mOp ixD (mVar 6) (mCon (.int 0))) mNil)) (gN 5)
    (oSeq (oSet 8 (mTup (mCons (mOp addD (mVar 2) (mOp ixD (mVar 6) (mOp addD (mOp mulD (mCon (.int 2)) (mVar 5)) (mCon (.int 1))))) (mCons (mOp ixD (mVar 6) (mOp addD (mOp mulD (mCon (.int 2)) (mVar 5)) (mCon (.int 2)))) mNil))))
    (oIf (mtPeek [7] (mtOr (mTru (mVar 3)) (mBl (mOp ninP (mVar 8) (mVar 7))))) (oApp 7 (mVar 8)) Out.nx)))
    (oFrz 7 (oRet (mVar 7))))))))
def m__law_any_parts : List D → Res D := mDef 9 o__law_any_parts
def o__law_due : Ev → Out :=
  (oSeq (oSetF 3 (fLc [4] (iMapA rng1 (mCons (mVar 1) mNil)) (gN 4) mYes (mCon (.int 0))))
    (oSeq (oFor (iMap itD (mVar 0)) (gTu (gCo (gN 5) (gCo (gN 6) gNi)))
    (oIf (mBl (mOp eqD (mVar 5) (mVar 2))) (oSeq (oIf (mtPeek [3] (mBl (mOp eqD (mOp ixD (mVar 3) (mVar 6)) (mCon (.int 1))))) (oRet (mTup (mCons (mCon (.str "RepeatedHour")) (mCons (mVar 6) mNil)))) Out.nx)
    (oSetIx 3 (mVar 6) (mCon (.int 1)))) Out.nx))
    (oFrz 3 (oRet (mTup (mCons (mCon (.str "Lot")) (mCons (lstOf (fLc [4] (iMapA rng1 (mCons (mVar 1) mNil)) (gN 4) (mBl (mOp eqD (mOp ixD (mVar 3) (mVar 4)) (mCon (.int 1)))) (mVar 4))) mNil)))))))
def m__law_due : List D → Res D := mDef 7 o__law_due
def o_starts_of : Ev → Out :=
  (oRet (mCall (newD .Lot mi_Lot_2) (mCons (mVar 1) (mCons (lstOf (fLc [3, 4] (iMap itD (mVar 0)) (gTu (gCo (gN 3) (gCo (gN 4) gNi))) (mBl (mOp eqD (mVar 3) (mVar 2))) (mVar 4))) mNil))))
def m_starts_of : List D → Res D := mDef 5 o_starts_of
def o_starts_of_B100 : Ev → Out :=
  (oRet (mCall (newD .Lot mi_Lot_2) (mCons (mVar 1) (mCons (lstOf (fLc [3, 4] (iBor 0) (gTu (gCo (gN 3) (gCo (gN 4) gNi))) (mBl (mOp eqD (mVar 3) (mVar 2))) (mVar 4))) mNil))))
def m_starts_of_B100 : List D → Res D := mDefB [true, false, false] 5 o_starts_of_B100
def tx_RepeatedHour : Cl → Option Bool
  | .BadNumber => some false
  | .OtherHours => some false
  | .RepeatedHour => some true
  | _ => none
def tk_RepeatedHour : Cl → Option Bool
  | .BadNumber => some false
  | .OtherHours => some false
  | .RepeatedHour => some true
  | _ => none
def tk_BadNumber : Cl → Option Bool
  | .BadNumber => some true
  | .OtherHours => some false
  | .RepeatedHour => some false
  | _ => none
def o__law_refused_by_base : Ev → Out :=
  (oSeq (oSet 3 (mCon (.bl false)))
    (oSeq (oTry (oExpr (mCall m_starts_of (mCons (lstOf (fList (mVar 0))) (mCons (mVar 1) (mCons (mVar 2) mNil))))) (⟨tx_WatchError, some 4, (oSet 3 (mAnd (mXi 4 tk_ValueError) (mAnd (mXi 4 tk_RepeatedHour) (mBool (mtNot (mTru (mXi 4 tk_BadNumber)))))))⟩ :: []))
    (oRet (mVar 3))))
def m__law_refused_by_base : List D → Res D := mDef 5 o__law_refused_by_base
def ti_Lot : Cl → Option Bool
  | .Lot => some true
  | _ => none
def t_membersX1_Lot : Cl → Option (List D → Res D)
  | .Lot => some m_Lot_members
  | _ => none
def o__law_right : Ev → Out :=
  (oSeq (oSet 3 (mCall m__law_due (mCons (mVar 0) (mCons (mVar 1) (mCons (mVar 2) mNil)))))
    (oSeq (oSetF 4 (fList (mVar 0)))
    (oSeq (oSet 5 (mCon .non))
    (oSeq (oSet 6 (mTup (mCons (mCon (.str "Lot")) (mCons (mCon (.int 0)) mNil))))
    (oSeq (oTry (oSet 5 (mCall m_starts_of_B100 (mConsB 4 (mCons (mVar 1) (mCons (mVar 2) mNil))))) (⟨tx_RepeatedHour, some 7, (oSet 6 (mTup (mCons (mCon (.str "RepeatedHour")) (mCons (mXf 7 .hour) mNil))))⟩ :: []))
    (oSeq (oIf (mtPeek [4] (mtNot (mTru (mCall m__law_same (mCons (mVar 4) (mCons (mVar 0) mNil)))))) (oRet (mCon (.bl false))) Out.nx)
    (oSeq (oIf (mBl (mOp eqD (mOp ixD (mVar 3) (mCon (.int 0))) (mCon (.str "RepeatedHour")))) (oRet (mAnd (mCall m__law_same (mCons (mVar 6) (mCons (mVar 3) mNil))) (mCall m__law_refused_by_base (mCons (mVar 0) (mCons (mVar 1) (mCons (mVar 2) mNil)))))) Out.nx)
    (oSeq (oIf (mtNot (mTru (mUn (isiD (isOwn ti_Lot)) (mVar 5)))) (oRet (mCon (.bl false))) Out.nx)
    (oSeq (oClr 4)
    (oSeq (oSetF 8 (asL (mUn (propN t_membersX1_Lot) (mVar 5))))
    (oSeq (oIf (mtPeek [8] (mtOr (mtNot (mTru (mCall m__law_same (mCons (mUn (fldD .hours) (mVar 5)) (mCons (mVar 1) mNil))))) (mtNot (mTru (mCall m__law_same (mCons (mVar 8) (mCons (mOp ixD (mVar 3) (mCon (.int 1))) mNil))))))) (oRet (mCon (.bl false))) Out.nx)
    (oSeq (oApp 8 (mVar 1))
    (oRet (mCall m__law_same (mCons (mUn (attrD none t_members_Lot) (mVar 5)) (mCons (mOp ixD (mVar 3) (mCon (.int 1))) mNil))))))))))))))))
def m__law_right : List D → Res D := mDef 9 o__law_right
def tx_BadNumber : Cl → Option Bool
  | .BadNumber => some true
  | .OtherHours => some false
  | .RepeatedHour => some false
  | _ => none
def o__law_bad_hours : Ev → Out :=
  (oSeq (oSet 3 (mTup (mCons (mCon (.str "none")) (mCons (mCon (.str "none")) (mCons (mCon (.int 0)) mNil)))))
    (oSeq (oTry (oExpr (mCall m_starts_of (mCons (lstOf (fList (mVar 0))) (mCons (mVar 1) (mCons (mVar 2) mNil))))) (⟨tx_BadNumber, some 4, (oSet 3 (mTup (mCons (mCon (.str "BadNumber")) (mCons (mXf 4 .name) (mCons (mXf 4 .value) mNil)))))⟩ :: []))
    (oRet (mCall m__law_same (mCons (mVar 3) (mCons (mTup (mCons (mCon (.str "BadNumber")) (mCons (mCon (.str "hours")) (mCons (mVar 1) mNil)))) mNil))))))
def m__law_bad_hours : List D → Res D := mDef 5 o__law_bad_hours
def o__law_part_b_11 : Ev → Out :=
  (oRet (mCon (.bl true)))
def o__law_part_b_10 : Ev → Out :=
  (oSeq (oIf (mBl (mOp eqD (mOp ixD (mVar 1) (mCon (.int 7))) (mCon (.int 0)))) (oSeq (oFor (iMap itD (lstOf (fLst (mCons (mCon (.int 0)) (mCons (mUn negD (mCon (.int 1))) mNil))))) (gN 8)
    (oIf (mtNot (mTru (mCall m__law_bad_hours (mCons (lstOf (fLst mNil)) (mCons (mVar 8) (mCons (mVar 3) mNil)))))) (oRet (mCon (.bl false))) Out.nx))
    (oRet (mCall m__law_bad_hours (mCons (mVar 4) (mCons (mCon (.int 361)) (mCons (mVar 3) mNil)))))) Out.nx)
    o__law_part_b_11)
def o__law_part_b_9 : Ev → Out :=
  (oSeq (oFor (iMapA rng2 (mCons (mVar 3) (mCons (mOp addD (mVar 3) (mCon (.int 5))) mNil))) (gN 7)
    (oIf (mtPeek [5] (mtOr (mtNot (mTru (mCall m__law_right (mCons (mVar 4) (mCons (mVar 2) (mCons (mVar 7) mNil)))))) (mtNot (mTru (mCall m__law_right (mCons (mVar 5) (mCons (mVar 2) (mCons (mVar 7) mNil)))))))) (oRet (mCon (.bl false))) Out.nx))
    o__law_part_b_10)
def o__law_part_b_8 : Ev → Out :=
  (oSeq (oFor (iMap itD (mVar 4)) (gN 6)
    (oIf (mtPeek [5] (mBl (mOp ninP (mVar 6) (mVar 5)))) (oApp 5 (mVar 6)) Out.nx))
    o__law_part_b_9)
def o__law_part_b_7 : Ev → Out :=
  (oSeq (oSetF 5 (fLst mNil))
    o__law_part_b_8)
def o__law_part_b_6 : Ev → Out :=
  (oSeq (oIf (mBl (mOp eqD (mOp ixD (mVar 1) (mCon (.int 3))) (mCon (.int 0)))) (oSet 4 (mCall m__law_round_parts (mCons (mCall m__law_cell (mCons (mVar 0) (mCons (mCon (.int 1)) mNil))) (mCons (mVar 2) (mCons (mVar 3) (mCons (mOp eqD (mOp ixD (mVar 1) (mCon (.int 4))) (mCon (.int 0))) mNil)))))) (oSet 4 (mCall m__law_any_parts (mCons (mCall m__law_cell (mCons (mVar 0) (mCons (mCon (.int 1)) mNil))) (mCons (mVar 2) (mCons (mVar 3) (mCons (mOp eqD (mOp ixD (mVar 1) (mCon (.int 4))) (mCon (.int 0))) mNil)))))))
    o__law_part_b_7)
def o__law_part_b_5 : Ev → Out :=
  (oSeq (oIf (mBl (mOp eqD (mOp ixD (mVar 1) (mCon (.int 5))) (mCon (.int 0)))) (oSet 3 (mOp ixD (mVar 1) (mCon (.int 6)))) Out.nx)
    o__law_part_b_6)
def o__law_part_b_4 : Ev → Out :=
  (oSeq (oSet 3 (mCon (.int 0)))
    o__law_part_b_5)
def o__law_part_b_3 : Ev → Out :=
  (oSeq (oIf (mBl (mOp eqD (mOp ixD (mVar 1) (mCon (.int 1))) (mCon (.int 1)))) (oSet 2 (mCon (.int 360))) Out.nx)
    o__law_part_b_4)
def o__law_part_b_2 : Ev → Out :=
  (oSeq (oIf (mBl (mOp eqD (mOp ixD (mVar 1) (mCon (.int 1))) (mCon (.int 0)))) (oSet 2 (mOp addD (mCon (.int 1)) (mOp ixD (mVar 1) (mCon (.int 2))))) Out.nx)
    o__law_part_b_3)
def o__law_part_b_1 : Ev → Out :=
  (oSeq (oSet 2 (mOp addD (mCon (.int 1)) (mOp ixD (mVar 1) (mCon (.int 0)))))
    o__law_part_b_2)
def o__law_part_b : Ev → Out :=
  (oSeq (oSet 1 (mCall m__law_draws (mCons (mCall m__law_cell (mCons (mVar 0) (mCons (mCon (.int 0)) mNil))) (mCons (mCon (.int 13)) (mCons (lstOf (fLst (mCons (mCon (.int 24)) (mCons (mCon (.int 8)) (mCons (mCon (.int 360)) (mCons (mCon (.int 3)) (mCons (mCon (.int 2)) (mCons (mCon (.int 4)) (mCons (mCon (.int 57)) (mCons (mCon (.int 8)) mNil)))))))))) mNil)))))
    o__law_part_b_1)
def m__law_part_b : List D → Res D := mDef 9 o__law_part_b
def o_law_1 : Ev → Out :=
  (oRet (mCall m__law_part_b (mCons (mVar 0) mNil)))
def o_law : Ev → Out :=
  (oSeq (oIf (mtNot (mTru (mCall m__law_part_a (mCons (mVar 0) mNil)))) (oRet (mCon (.bl false))) Out.nx)
    o_law_1)
def m_law : List D → Res D := mDef 1 o_law
end
end K04
namespace K04
open PySem PySem.Spec L2 PL
theorem cell_wp (ns : List Int) {k : Int} (hk : 0 ≤ k) {Q : D → Prop} {E : Err → Prop} (hq : ∀ c : Int, 0 ≤ c → Q (.int c)) : wr (m__law_cell [.lst (ns.map D.int), .int k]) Q E := by
  refine wr_def ?_
  simp only [o__law_cell, ev0]
  simp
  split
  · rename_i h
    rw [atI_of hk, List.getElem?_map, List.getElem?_eq_getElem (by omega)]
    simp
    refine hq _ ?_
    split <;> omega
  · exact hq 0 (Int.le_refl 0)
theorem ints_get {ns : List Int} {i : Nat} {d : D} (h : (ns.map D.int)[i]? = some d) : ∃ n, ns[i]? = some n ∧ d = .int n := by
  rw [List.getElem?_map] at h
  obtain ⟨n, e1, e2⟩ := Option.map_eq_some_iff.mp h
  exact ⟨n, e1, e2.symm⟩
theorem pow_1018 : CPow 10 18 := by
  unfold CPow
  omega
/-- the word of the loop: as many are found as there were turns, each below its menu -/
def DrawI (cell salt : Int) (menu : List Int) (i : Nat) (ρ : Ev) : Prop :=
  ∃ (found : List Int) (rest mixed : Int) (s : Sl), ρ = [.dat (.int cell), .dat (.int salt), .dat (.lst (menu.map .int)), .own (found.map .int), .dat (.int rest), .dat (.int mixed), s] ∧ found.length = i ∧
    (∀ (j : Nat) (x m : Int), found[j]? = some x → menu[j]? = some m → 0 ≤ x ∧ x < m) ∧ (rest < 0 → 0 ≤ mixed ∧ mixed < 10000000000000000000)
theorem draws_wp {cell salt : Int} {menu : List Int} (h0 : 0 ≤ cell) (h1 : 0 ≤ salt) (h2 : salt < 1000000) (hm : ∀ m ∈ menu, 1 ≤ m ∧ Bd 8000 m) (hl : menu.length < 100000) {Q : D → Prop} {E : Err → Prop}
    (hq : ∀ xs : List Int, xs.length = menu.length → (∀ (j : Nat) (x m : Int), xs[j]? = some x → menu[j]? = some m → 0 ≤ x ∧ x < m) → Q (.lst (xs.map .int))) : wr (m__law_draws [.int cell, .int salt, .lst (menu.map .int)]) Q E := by
  refine wr_def ?_
  simp only [o__law_draws, ev0]
  simp
  have sz : sizeLine = 16777216 := sizeLine_eq
  refine ⟨pow_1018, cmul_small (by omega) (by omega) (by omega) (by omega), by omega, ?_⟩
  refine for_inv (DrawI cell salt menu) ?_ ?_ ?_
  · exact ⟨[], _, _, _, rfl, rfl, fun j x m h => by simp at h, fun h => by omega⟩
  · rintro i d ρ hi ⟨found, rest, mixed, s, rfl, hlen, hf, hr⟩
    obtain ⟨hi2, rfl⟩ := rngL_get hi
    refine ⟨_, rfl, ?_⟩
    have hi3 : i < menu.length := by simpa using hi2
    obtain ⟨m1, m2⟩ := hm _ (List.getElem_mem hi3)
    have at1 : atI (menu.map D.int) (0 + (i : Int)) = some (.int menu[i]) := by
      rw [atI_of (by omega), List.getElem?_map, List.getElem?_eq_getElem (by omega)]
      simp
    have step : ∀ x : Int, 0 ≤ x → x < menu[i] → ∀ (j : Nat) (y m : Int), (found ++ [x])[j]? = some y → menu[j]? = some m → 0 ≤ y ∧ y < m := fun x x0 x1 j y m e1 e2 => by
      by_cases z : j < found.length
      · rw [List.getElem?_append_left z] at e1
        exact hf j y m e1 e2
      · have z2 : j = i := by
          have := (List.getElem?_eq_some_iff.mp e1).1
          rw [List.length_append, List.length_singleton] at this
          omega
        subst z2
        rw [List.getElem?_append_right (by omega)] at e1
        simp [hlen] at e1
        rw [List.getElem?_eq_getElem hi3] at e2
        cases e2
        subst e1
        exact ⟨x0, x1⟩
    have at1' : atI (menu.map D.int) (i : Int) = some (.int menu[i]) := by
      rw [atI_nn, List.getElem?_map, List.getElem?_eq_getElem hi3]
      rfl
    have nz : menu[i] ≠ 0 := by omega
    have mp : 0 < menu[i] := by omega
    have done : ∀ (x rest' mixed' : Int), 0 ≤ x → x < menu[i] → (rest' < 0 → 0 ≤ mixed' ∧ mixed' < 10000000000000000000) → DrawI cell salt menu (i + 1) [.dat (.int cell), .dat (.int salt), .dat (.lst (menu.map .int)), .own (found.map .int ++ [.int x]), .dat (.int rest'), .dat (.int mixed'), .dat (.int i)] := fun x rest' mixed' x0 x1 hr' =>
      ⟨found ++ [x], rest', mixed', _, by rw [List.map_append]; rfl, by rw [List.length_append, hlen]; rfl, step x x0 x1, hr'⟩
    simp [at1']
    split
    · rename_i h
      refine ⟨nz, by omega, ⟨m2.div nz (by decide), done _ _ _ (Int.fmod_nonneg_of_pos _ mp) (Int.fmod_lt_of_pos _ mp) fun z => absurd z ?_⟩⟩
      have := Int.fdiv_nonneg h (by omega : 0 ≤ menu[i])
      omega
    · rename_i h
      obtain ⟨r1, r2⟩ := hr (by omega)
      have a0 := Int.fmod_nonneg_of_pos (mixed * mixed + 3571 * ((i : Int) + 1) + 40692) (by decide : (0 : Int) < 2147483399)
      have a1 := Int.fmod_lt_of_pos (mixed * mixed + 3571 * ((i : Int) + 1) + 40692) (by decide : (0 : Int) < 2147483399)
      generalize (mixed * mixed + 3571 * ((i : Int) + 1) + 40692).fmod 2147483399 = a at a0 a1 ⊢
      have b0 := Int.fmod_nonneg_of_pos (a * a + a.fdiv 97) (by decide : (0 : Int) < 2147483629)
      have b1 := Int.fmod_lt_of_pos (a * a + a.fdiv 97) (by decide : (0 : Int) < 2147483629)
      generalize (a * a + a.fdiv 97).fmod 2147483629 = b at b0 b1 ⊢
      refine ⟨cmul_small (by omega) (by omega) (by omega) (by omega), cmul_small (by omega) (by omega) (by omega) (by omega), cmul_small (by omega) (by omega) (by omega) (by omega), div_small (by decide) (by decide) (by decide), div_small (by decide) (by decide) (by decide), nz, by omega, done _ _ _ (Int.fmod_nonneg_of_pos _ mp) (Int.fmod_lt_of_pos _ mp) fun z => ⟨b0, by omega⟩⟩
  · rintro ρ ⟨found, rest, mixed, s, rfl, hlen, hf, hr⟩
    simp at hlen
    simp [freeze]
    exact hq found hlen hf
def accR (f : Nat → Rat) : Nat → Rat
  | 0 => 0
  | k + 1 => accR f k + f k
def accZ (f : Nat → Int) : Nat → Int
  | 0 => 0
  | k + 1 => accZ f k + f k
theorem accR_congr {f g : Nat → Rat} : ∀ {n : Nat}, (∀ i, i < n → f i = g i) → accR f n = accR g n
  | 0, _ => rfl
  | n + 1, h => by
    show accR f n + f n = accR g n + g n
    rw [accR_congr fun i hi => h i (by omega), h n (by omega)]
theorem accR_add {f g : Nat → Rat} : ∀ {n : Nat}, accR (fun i => f i + g i) n = accR f n + accR g n
  | 0 => by show (0 : Rat) = 0 + 0; rw [Rat.add_zero]
  | n + 1 => by
    show accR (fun i => f i + g i) n + (f n + g n) = (accR f n + f n) + (accR g n + g n)
    rw [accR_add]
    grind
theorem accR_mul {f : Nat → Rat} {c : Rat} : ∀ {n : Nat}, accR (fun i => c * f i) n = c * accR f n
  | 0 => by show (0 : Rat) = c * 0; rw [Rat.mul_zero]
  | n + 1 => by
    show accR (fun i => c * f i) n + c * f n = c * (accR f n + f n)
    rw [accR_mul, Rat.mul_add]
theorem accR_mulR {f : Nat → Rat} {c : Rat} {n : Nat} : accR (fun i => f i * c) n = accR f n * c := by
  rw [Rat.mul_comm, ← accR_mul]
  exact accR_congr fun i _ => Rat.mul_comm _ _
theorem accR_zero : ∀ {n : Nat}, accR (fun _ => 0) n = 0
  | 0 => rfl
  | n + 1 => by show accR (fun _ => 0) n + 0 = 0; rw [accR_zero, Rat.add_zero]
theorem accR_swap {f : Nat → Nat → Rat} {m : Nat} : ∀ {n : Nat}, accR (fun i => accR (fun j => f i j) m) n = accR (fun j => accR (fun i => f i j) n) m
  | 0 => by
    show (0 : Rat) = accR (fun j => 0) m
    rw [accR_zero]
  | n + 1 => by
    show accR (fun i => accR (fun j => f i j) m) n + accR (fun j => f n j) m = accR (fun j => accR (fun i => f i j) n + f n j) m
    rw [accR_swap, accR_add]
theorem accR_split {f : Nat → Rat} {n : Nat} : ∀ {m : Nat}, accR f (n + m) = accR f n + accR (fun i => f (n + i)) m
  | 0 => by show accR f n = accR f n + 0; rw [Rat.add_zero]
  | m + 1 => by
    show accR f (n + m) + f (n + m) = accR f n + (accR (fun i => f (n + i)) m + f (n + m))
    rw [accR_split, Rat.add_assoc]
theorem accR_nn {f : Nat → Rat} : ∀ {n : Nat}, (∀ i, i < n → 0 ≤ f i) → 0 ≤ accR f n
  | 0, _ => Rat.le_refl
  | n + 1, h => Rat.add_nonneg (accR_nn fun i hi => h i (by omega)) (h n (by omega))
theorem accZ_cast {f : Nat → Int} : ∀ {n : Nat}, ((accZ f n : Int) : Rat) = accR (fun i => (f i : Rat)) n
  | 0 => rfl
  | n + 1 => by
    show ((accZ f n + f n : Int) : Rat) = accR (fun i => (f i : Rat)) n + f n
    rw [Rat.intCast_add, accZ_cast]
theorem sum_acc {f : Nat → Int} : ∀ {n : Nat}, ((List.range n).map f).sum = accZ f n
  | 0 => rfl
  | n + 1 => by
    rw [List.range_succ, List.map_append, List.sum_append, sum_acc]
    simp [accZ]
theorem foldl_acc {f : Nat → Rat} : ∀ {n : Nat}, ((List.range n).map f).foldl (· + ·) 0 = accR f n
  | 0 => rfl
  | n + 1 => by
    rw [List.range_succ, List.map_append, List.foldl_append, foldl_acc]
    rfl
theorem accR_sz {f : Nat → Rat} {m : Nat} : ∀ {n : Nat}, (∀ i, i < n → Sz m (f i)) → Sz (1 + n * (m + 1)) (accR f n)
  | 0, _ => Sz.zero.mono (by omega)
  | n + 1, h => ((accR_sz fun i hi => h i (by omega)).add (h n (by omega))).mono (by rw [Nat.succ_mul]; omega)
theorem accZ_bd {f : Nat → Int} {m : Nat} : ∀ {n : Nat}, (∀ i, i < n → Bd m (f i)) → Bd (m + n) (accZ f n)
  | 0, _ => by unfold Bd accZ; exact Nat.two_pow_pos _
  | n + 1, h => ((accZ_bd fun i hi => h i (by omega)).add (h n (by omega))).mono (by omega)
def tabL {α : Type} (k : Nat) (f : Nat → α) : List α := (List.range k).map f
def tab {α : Type} (n k : Nat) (f : Nat → Nat → α) : List (List α) := tabL n fun i => tabL k (f i)
section
variable {α β : Type} {k n i : Nat} {f : Nat → α}
@[simp] theorem tabL_len : (tabL k f).length = k := by unfold tabL; rw [List.length_map, List.length_range]
@[simp] theorem tab_len {f : Nat → Nat → α} : (tab n k f).length = n := tabL_len
theorem tabL_get (h : i < k) : (tabL k f)[i]? = some (f i) := by
  unfold tabL
  rw [List.getElem?_map, List.getElem?_range h]
  rfl
theorem tab_get {f : Nat → Nat → α} (h : i < n) : (tab n k f)[i]? = some (tabL k (f i)) := tabL_get h
theorem tabL_of (l : List α) (d : α) : l = tabL l.length fun i => l.getD i d := by
  refine List.ext_getElem (by simp) fun i h1 h2 => ?_
  unfold tabL
  simp [List.getElem?_eq_getElem h1]
theorem tabL_map {g : α → β} : (tabL k f).map g = tabL k fun i => g (f i) := by
  unfold tabL
  rw [List.map_map]
  rfl
theorem tabL_congr {f g : Nat → α} (h : ∀ i, i < k → f i = g i) : tabL k f = tabL k g := by
  unfold tabL
  exact List.map_congr_left fun i hi => h i (List.mem_range.mp hi)
theorem tabL_mem {x : α} (h : x ∈ tabL k f) : ∃ i, i < k ∧ x = f i := by
  unfold tabL at h
  obtain ⟨i, hi, rfl⟩ := List.mem_map.mp h
  exact ⟨i, List.mem_range.mp hi, rfl⟩
theorem tabL_succ : tabL (k + 1) f = tabL k f ++ [f k] := by
  unfold tabL
  rw [List.range_succ, List.map_append]
  rfl
theorem tabL_app {m : Nat} {g : Nat → α} : tabL k f ++ tabL m g = tabL (k + m) fun i => if i < k then f i else g (i - k) := by
  refine List.ext_getElem? fun i => ?_
  by_cases h : i < k
  · rw [List.getElem?_append_left (by simpa using h), tabL_get h, tabL_get (by omega), if_pos h]
  · rw [List.getElem?_append_right (by simpa using h), tabL_len]
    by_cases h2 : i < k + m
    · rw [tabL_get (by omega), tabL_get h2, if_neg h]
    · rw [List.getElem?_eq_none (by simp; omega), List.getElem?_eq_none (by simp; omega)]
theorem flat_tab {F : Nat → Nat → α} {l : Nat} : ∀ {k : Nat}, (List.range k).flatMap (fun x => (List.range l).map (F x)) = tabL (k * l) fun c => F (c / l) (c % l)
  | 0 => by
    rw [Nat.zero_mul]
    rfl
  | k + 1 => by
    rw [List.range_succ, List.flatMap_append, flat_tab, Nat.succ_mul]
    have e : [k].flatMap (fun x => (List.range l).map (F x)) = tabL l (F k) := by simp [tabL]
    rw [e, tabL_app]
    refine tabL_congr fun i hi => ?_
    by_cases h : i < k * l
    · rw [if_pos h]
    · rw [if_neg h]
      have hl : 0 < l := by
        rcases Nat.eq_zero_or_pos l with z | z
        · rw [z] at hi h; omega
        · exact z
      have e2 : i = l * k + (i - k * l) := by rw [Nat.mul_comm]; omega
      have e3 : i / l = k := by
        rw [e2, Nat.mul_add_div hl, Nat.div_eq_of_lt (by omega)]
        omega
      have e4 : i % l = i - k * l := by
        conv => lhs; rw [e2]
        rw [Nat.mul_add_mod, Nat.mod_eq_of_lt (by omega)]
      rw [e3, e4]
end
/-- a lot: its hours, its members -/
def Lt (n : Int) (ms : List Int) : D := .obj .Lot [(.hours, .int n), (.u_members, .lst (ms.map .int))]
section
variable {n : Int} {ms : List Int} {Q : D → Prop} {E : Err → Prop}
@[simp] theorem wo_hoursL : wr (fldD .hours (Lt n ms)) Q E = Q (.int n) := by unfold wr; rfl
@[simp] theorem wo_membersL : wr (fldD .u_members (Lt n ms)) Q E = Q (.lst (ms.map .int)) := by unfold wr; rfl
@[simp] theorem wo_itLt {Q : List D → Prop} : wr (itO tn_Lot (Lt n ms)) Q E = Q (ms.map .int) := by
  unfold Lt
  exact wo_itO rfl rfl
end
def ddF (a l : List Int) : List Int := l.foldl PyProof.Rows.step_dedup a
theorem dcI_eq (ns : List Int) : dcI ns = (ddF [] ns).length := by
  unfold dcI PyProof.Rows.firstMet ddF
  rw [show (List.range ns.length).map (fun i => ns.getD i 0) = ns from (tabL_of ns 0).symm]
theorem step_yes {a : List Int} {k : Int} (h : k ∈ a) : PyProof.Rows.step_dedup a k = a := by
  unfold PyProof.Rows.step_dedup
  have z : (a.any fun x => x == k) = true := List.any_eq_true.mpr ⟨k, h, beq_self_eq_true k⟩
  exact if_pos z
theorem step_no {a : List Int} {k : Int} (h : k ∉ a) : PyProof.Rows.step_dedup a k = a ++ [k] := by
  unfold PyProof.Rows.step_dedup
  exact if_neg fun z => by
    obtain ⟨x, hx, e⟩ := List.any_eq_true.mp z
    exact h (eq_of_beq e ▸ hx)
theorem ddF_len : ∀ (l a : List Int), a.Nodup → (ddF a l).length ≤ a.length + l.length ∧ ((ddF a l).length = a.length + l.length ↔ (a ++ l).Nodup)
  | [], a, h => by simp [ddF, h]
  | k :: l, a, h => by
    unfold ddF
    rw [List.foldl_cons]
    by_cases z : k ∈ a
    · rw [step_yes z]
      obtain ⟨h1, h2⟩ := ddF_len l a h
      unfold ddF at h1 h2
      refine ⟨by rw [List.length_cons]; omega, ⟨fun e => by rw [List.length_cons] at e; omega, fun hn => ?_⟩⟩
      rw [List.nodup_append] at hn
      exact absurd rfl (hn.2.2 k z k List.mem_cons_self)
    · rw [step_no z]
      have hn : (a ++ [k]).Nodup := by
        rw [List.nodup_append]
        refine ⟨h, by simp, fun x hx y hy e => ?_⟩
        rw [List.mem_singleton.mp hy] at e
        exact z (e ▸ hx)
      obtain ⟨h1, h2⟩ := ddF_len l (a ++ [k]) hn
      unfold ddF at h1 h2
      rw [List.length_append, List.length_singleton, List.append_assoc] at *
      refine ⟨by rw [List.length_cons]; omega, ?_⟩
      rw [List.length_cons]
      rw [show a.length + (l.length + 1) = a.length + 1 + l.length by omega]
      exact h2
theorem dcI_nodup {ns : List Int} (h : ns.Nodup) : dcI ns = ns.length := by
  rw [dcI_eq]
  have := ((ddF_len ns [] List.nodup_nil).2).mpr (by rw [List.nil_append]; exact h)
  rw [this, List.length_nil, Nat.zero_add]
theorem dcI_dup {ns : List Int} (h : ¬ ns.Nodup) : dcI ns < ns.length := by
  rw [dcI_eq]
  obtain ⟨h1, h2⟩ := ddF_len ns [] List.nodup_nil
  rw [List.length_nil, Nat.zero_add] at h1 h2
  rcases Nat.lt_or_eq_of_le h1 with z | z
  · exact z
  · exact absurd (by have := h2.mp z; rwa [List.nil_append] at this) h
/-- the first that stood before -/
def firstRep : List Int → List Int → Option Int
  | _, [] => none
  | a, k :: l => if k ∈ a then some k else firstRep (a ++ [k]) l
def resOf (n : Int) (ms : List Int) : List Int := ms.map fun m => m.fmod n
theorem hours_ok {n : Int} (h1 : 1 ≤ n) (h2 : n ≤ 360) : m_hours_checked [.int n, .int 360] = .ok .non := by
  refine wr_eq (wr_def ?_)
  simp only [o_hours_checked, ev0]
  simp [h1, h2]
theorem hours_bad {n : Int} (h : ¬ (1 ≤ n ∧ n ≤ 360)) : m_hours_checked [.int n, .int 360] = .exc (er2 .BadNumber .name .value (.str "hours") (.int n)) := by
  refine wr_err (wr_def ?_)
  simp only [o_hours_checked, ev0]
  simp
  by_cases h1 : 1 ≤ n
  · rw [if_pos h1]
    exact ⟨by omega, wo_x2 (by decide) rfl⟩
  · rw [if_neg h1]
    exact wo_x2 (by decide) rfl
theorem lot_ok {n : Int} {ms : List Int} (h1 : 1 ≤ n) (h2 : n ≤ 360) (hl : ms.length ≤ 4000) (hn : (resOf n ms).Nodup) {Q : D → Prop} {E : Err → Prop} (hq : Q (Lt n (sortI (resOf n ms)))) : wr (newD .Lot mi_Lot_2 [.int n, .lst (ms.map .int)]) Q E := by
  rw [wo_new]
  refine wr_ini ?_
  simp only [o_Lot___init__, ev0]
  simp [mInsC, t_MOST_Lot, hours_ok h1 h2]
  refine wm_lcM ms D.int (fun m => .int (m.fmod n)) (by simp) (by simp; omega) (fun m hm => ⟨_, rfl, ?_⟩) ?_
  · simp [wipeE]
    omega
  · have e : ms.map (fun m => D.int (m.fmod n)) = (resOf n ms).map D.int := by unfold resOf; rw [List.map_map]; rfl
    rw [e]
    have hrl : (resOf n ms).length = ms.length := by unfold resOf; simp
    generalize resOf n ms = rs at hn hrl hq ⊢
    simp
    rw [wo_dlen, dcI_nodup hn]
    simp
    refine ⟨by omega, ?_⟩
    refine wm_lcM rs D.int D.int (by simp) (by simp; omega) (fun m hm => ⟨_, rfl, ?_⟩) ?_
    · simp [wipeE]
    · rw [wo_srt]
      exact hq
def cntAt (n : Int) (as bs : List Int) (d : Int) : Nat := (as.map fun a => (bs.filter fun b => (a - b).fmod n = d).length).sum
theorem rings_ok {n : Int} {as bs : List Int} : m_rings_checked [Lt n as, Lt n bs] = .ok .non := by
  refine wr_eq (wr_def ?_)
  simp only [o_rings_checked, ev0]
  simp
theorem rings_bad {n m : Int} {as bs : List Int} (h : n ≠ m) : m_rings_checked [Lt n as, Lt m bs] = .exc ⟨.OtherHours, []⟩ := by
  refine wr_err (wr_def ?_)
  simp only [o_rings_checked, ev0]
  simp [h]
theorem meet_bad {n m : Int} {as bs : List Int} (h : n ≠ m) : m_meetings [Lt n as, Lt m bs] = .exc ⟨.OtherHours, []⟩ := by
  refine wr_err (wr_def ?_)
  simp only [o_meetings, ev0]
  simp [rings_bad h]
/-- one more at a place -/
def bump (c : List Int) (j : Nat) : List Int := c.set j (c.getD j 0 + 1)
def bumps (n : Int) (a : Int) (c bs : List Int) : List Int := bs.foldl (fun c b => bump c ((a - b).fmod n).toNat) c
theorem bump_len {c : List Int} {j : Nat} : (bump c j).length = c.length := by unfold bump; simp
theorem bumps_len {n a : Int} : ∀ (bs c : List Int), (bumps n a c bs).length = c.length
  | [], _ => rfl
  | b :: bs, c => by
    unfold bumps
    rw [List.foldl_cons]
    have := bumps_len (n := n) (a := a) bs (bump c ((a - b).fmod n).toNat)
    unfold bumps at this
    rw [this, bump_len]
theorem bump_get {c : List Int} {j i : Nat} (hj : j < c.length) (hi : i < c.length) : (bump c j).getD i 0 = c.getD i 0 + if i = j then 1 else 0 := by
  unfold bump
  rw [List.getD_eq_getElem?_getD, List.getElem?_set]
  by_cases z : j = i
  · subst z
    rw [if_pos rfl, if_pos hj, if_pos rfl]
    rfl
  · rw [if_neg z, if_neg (fun e => z e.symm), List.getD_eq_getElem?_getD, Int.add_zero]
theorem bumps_get {n a : Int} (hn : 0 < n) : ∀ (bs c : List Int), (c.length : Int) = n → ∀ i, i < c.length → (bumps n a c bs).getD i 0 = c.getD i 0 + ((bs.filter fun b => (a - b).fmod n = (i : Int)).length : Nat)
  | [], c, _, i, _ => by simp [bumps]
  | b :: bs, c, hc, i, hi => by
    have f0 := Int.fmod_nonneg_of_pos (a - b) hn
    have f1 := Int.fmod_lt_of_pos (a - b) hn
    unfold bumps
    rw [List.foldl_cons]
    have ih := bumps_get (n := n) (a := a) hn bs (bump c ((a - b).fmod n).toNat) (by rw [bump_len]; exact hc) i (by rw [bump_len]; exact hi)
    unfold bumps at ih
    rw [ih, bump_get (by omega) hi]
    by_cases z : (a - b).fmod n = (i : Int)
    · rw [if_pos (by omega), List.filter_cons_of_pos (by simpa using z), List.length_cons]
      omega
    · rw [if_neg (by omega), List.filter_cons_of_neg (by simpa using z)]
      omega
def meetC (n : Int) (as bs : List Int) (c : List Int) : List Int := as.foldl (fun c a => bumps n a c bs) c
theorem meetC_len {n : Int} {bs : List Int} : ∀ (as c : List Int), (meetC n as bs c).length = c.length
  | [], _ => rfl
  | a :: as, c => by
    unfold meetC
    rw [List.foldl_cons]
    have := meetC_len (n := n) (bs := bs) as (bumps n a c bs)
    unfold meetC at this
    rw [this, bumps_len]
theorem meetC_get {n : Int} (hn : 0 < n) {bs : List Int} : ∀ (as c : List Int), (c.length : Int) = n → ∀ i, i < c.length → (meetC n as bs c).getD i 0 = c.getD i 0 + (cntAt n as bs i : Nat)
  | [], c, _, i, _ => by simp [meetC, cntAt]
  | a :: as, c, hc, i, hi => by
    unfold meetC
    rw [List.foldl_cons]
    have ih := meetC_get (n := n) hn (bs := bs) as (bumps n a c bs) (by rw [bumps_len]; exact hc) i (by rw [bumps_len]; exact hi)
    unfold meetC at ih
    rw [ih, bumps_get hn bs c hc i hi]
    unfold cntAt
    rw [List.map_cons, List.sum_cons]
    omega
def cntL (n : Int) (as bs : List Int) : List Int := (List.range n.toNat).map fun d : Nat => ((cntAt n as bs (d : Int) : Nat) : Int)
theorem meetC_eq {n : Int} (hn : 0 < n) {as bs : List Int} : meetC n as bs (List.replicate n.toNat 0) = cntL n as bs := by
  have hl : (meetC n as bs (List.replicate n.toNat 0)).length = n.toNat := by rw [meetC_len]; simp
  have e := tabL_of (meetC n as bs (List.replicate n.toNat 0)) 0
  rw [hl] at e
  rw [e]
  unfold cntL
  refine tabL_congr fun i hi => ?_
  rw [meetC_get hn as _ (by simp; omega) i (by simpa using hi)]
  simp [hi]
theorem meet_eq {n : Int} {as bs : List Int} (h1 : 1 ≤ n) (h2 : n ≤ 360) : m_meetings [Lt n as, Lt n bs] = .ok (.lst ((cntL n as bs).map .int)) := by
  refine wr_eq (wr_def ?_)
  simp only [o_meetings, ev0]
  simp [rings_ok]
  have hh := fun (F : Nat → D) => @wm_lcM Nat (List.range n.toNat) (fun i => D.int (0 + (i : Int))) F
  refine hh (fun _ => .int 0) (by simp [rngL]; omega) (by simp; omega) (fun i hi => ⟨_, rfl, ?_⟩) ?_
  · simp [wipeE]
  · have e0 : ((List.range n.toNat).map fun _ : Nat => D.int 0) = (List.replicate n.toNat (0 : Int)).map D.int := by
      rw [List.map_replicate, List.map_const', List.length_range]
    rw [e0]
    refine for_rem (fun r ρ => ∃ (done rest : List Int) (s3 s4 s5 s6 : Sl), ρ = [.dat (Lt n as), .dat (Lt n bs), .own ((meetC n done bs (List.replicate n.toNat 0)).map .int), s3, s4, s5, s6] ∧ r = rest.map .int ∧ done ++ rest = as) ?_ ?_ ?_
    · exact ⟨[], as, _, _, _, _, rfl, rfl, rfl⟩
    · rintro J hJ d r ρ ⟨done, rest, s3, s4, s5, s6, rfl, hr, e⟩
      cases rest with
      | nil => cases hr
      | cons a rest =>
        cases hr
        refine ⟨_, rfl, ?_⟩
        simp
        have hlen : (meetC n done bs (List.replicate n.toNat 0)).length = n.toNat := by rw [meetC_len]; simp
        generalize hc : meetC n done bs (List.replicate n.toNat 0) = c at hlen
        refine for_rem (fun r ρ => ∃ (fin rest : List Int) (s5 s6 : Sl), ρ = [.dat (Lt n as), .dat (Lt n bs), .own ((bumps n a c fin).map .int), s3, .dat (.int a), s5, s6] ∧ r = rest.map .int ∧ fin ++ rest = bs) ?_ ?_ ?_
        · exact ⟨[], bs, _, _, rfl, rfl, rfl⟩
        · rintro J' hJ' d r ρ ⟨fin, rest, s5, s6, rfl, hr, e⟩
          cases rest with
          | nil => cases hr
          | cons b rest =>
            cases hr
            refine ⟨_, rfl, ?_⟩
            have f0 := Int.fmod_nonneg_of_pos (a - b) (show 0 < n by omega)
            have f1 := Int.fmod_lt_of_pos (a - b) (show 0 < n by omega)
            have hl2 : (bumps n a c fin).length = n.toNat := by rw [bumps_len]; exact hlen
            have hj : ((a - b).fmod n).toNat < (bumps n a c fin).length := by omega
            simp
            rw [atI_of f0, List.getElem?_map, List.getElem?_eq_getElem hj]
            simp
            rw [setIx_int f0 (by simp; omega)]
            refine ⟨by omega, hJ' _ _ ⟨fin ++ [b], rest, .dat (.int b), .dat (.int ((a - b).fmod n)), ?_, rfl, by rw [List.append_assoc]; exact e⟩⟩
            have eb : bumps n a c (fin ++ [b]) = bump (bumps n a c fin) ((a - b).fmod n).toNat := by
              unfold bumps
              rw [List.foldl_append]
              rfl
            rw [eb]
            unfold bump
            rw [List.getD_eq_getElem?_getD, List.getElem?_eq_getElem hj, Option.getD_some, List.map_set]
        · rintro ρ ⟨fin, rest, s5, s6, rfl, hr, e⟩
          have hr0 : rest = [] := List.map_eq_nil_iff.mp hr.symm
          subst hr0
          rw [List.append_nil] at e
          subst e
          refine hJ _ _ ⟨done ++ [a], _, s3, .dat (.int a), s5, s6, ?_, rfl, by rw [List.append_assoc]; assumption⟩
          have em : meetC n (done ++ [a]) fin (List.replicate n.toNat 0) = bumps n a c fin := by
            rw [← hc]
            unfold meetC
            rw [List.foldl_append]
            rfl
          rw [em]
    · rintro ρ ⟨done, rest, s3, s4, s5, s6, rfl, hr, e⟩
      have hr0 : rest = [] := List.map_eq_nil_iff.mp hr.symm
      subst hr0
      rw [List.append_nil] at e
      subst e
      simp
      rw [meetC_eq (by omega)]
def castL (ns : List Int) : List Rat := ns.map fun n : Int => (n : Rat)
def zl (ns : List Int) : D := .lst (ns.map .int)
def ratP (p : Int × Int) : Rat := Rat.divInt p.1 p.2
theorem is_int_wp (x : D) {Q : D → Prop} {E : Err → Prop} (hc : ∀ c fs, x = .obj c fs → tt_int c = true ∧ tt_bool c = true) (h : Q (.bl (isI x))) : wr (m__law_is_int [x]) Q E := by
  refine wr_def ?_
  simp only [o__law_is_int, ev0]
  cases x with
  | obj c fs =>
    obtain ⟨h1, h2⟩ := hc c fs rfl
    simp [isTy, h1]
    exact h
  | _ =>
    simp
    exact h
theorem same_loop {n : Nat} {xs : List D} (h : ∀ x ∈ xs, mr__law_same n [x, x] = .ok (.bl true)) {P : Po} {d : D} (ha : d = .lst xs ∨ d = .tup xs) (hq : ∀ s, P.nx [.dat d, .dat d, s]) :
    ends P (forL (gN 2) (oIf (mtNot (mTru (mCall (mr__law_same n) (mCons (mOp ixD (mVar 0) (mVar 2)) (mCons (mOp ixD (mVar 1) (mVar 2)) mNil))))) (oRet (mCon (.bl false))) Out.nx) (rngL 0 xs.length) [.dat d, .dat d, .no]) := by
  refine for_ix (fun i ρ => ∃ s, ρ = [.dat d, .dat d, s]) ⟨_, rfl⟩ ?_ ?_
  · rintro J hJ i e ρ hi ⟨s, rfl⟩
    obtain ⟨hl, rfl⟩ := rngL_get hi
    refine ⟨_, rfl, ?_⟩
    have hx : wr (ixD d (.int (0 + (i : Int)))) (fun x => x = xs[i]) noE := by
      rcases ha with rfl | rfl <;> simp [atI_nn, List.getElem?_eq_getElem hl]
    have e1 := wr_eq hx
    simp at e1
    simp [e1, h _ (List.getElem_mem hl)]
    exact hJ _ _ ⟨_, rfl⟩
  · rintro ρ ⟨s, rfl⟩
    exact hq s
theorem same_self : ∀ (n : Nat) (d : D), SameOk n d → mr__law_same (n + 1) [d, d] = .ok (.bl true) := by
  intro n
  induction n with
  | zero =>
    intro d h
    unfold mr__law_same
    refine wr_eq (wr_def ?_)
    simp only [o__law_same, ev0]
    cases h with
    | bl _ b => cases b <;> simp
    | non => simp
    | int _ i =>
      simp
      refine is_int_wp _ (fun c fs z => by cases z) ?_
      simp [isI]
    | str _ x =>
      simp
  | succ n ih =>
    intro d h
    unfold mr__law_same
    refine wr_eq (wr_def ?_)
    simp only [o__law_same, ev0]
    cases h with
    | bl _ b => cases b <;> simp
    | non => simp
    | int _ i =>
      simp
      refine is_int_wp _ (fun c fs z => by cases z) ?_
      simp [isI]
    | str _ x =>
      simp
    | tup hx hl =>
      simp
      refine ⟨by omega, same_loop (fun x m => ih x (hx x m)) (.inr rfl) fun s => by simp⟩
    | lst hx hl =>
      simp
      refine ⟨by omega, same_loop (fun x m => ih x (hx x m)) (.inl rfl) fun s => by simp⟩
theorem sum_swap {α β : Type} (p : α → β → Bool) : ∀ (as : List α) (bs : List β), (as.map fun a => (bs.filter (p a)).length).sum = (bs.map fun b => (as.filter fun a => p a b).length).sum
  | [], bs => by
    induction bs with
    | nil => rfl
    | cons b bs ih => rw [List.map_cons, List.sum_cons, ← ih]; rfl
  | a :: as, bs => by
    rw [List.map_cons, List.sum_cons, sum_swap p as bs]
    induction bs with
    | nil => rfl
    | cons b bs ih =>
      rw [List.map_cons, List.sum_cons, List.map_cons, List.sum_cons, ← ih]
      by_cases h : p a b = true
      · rw [List.filter_cons_of_pos (p := p a) h, List.filter_cons_of_pos (p := fun a => p a b) (a := a) (l := as) h, List.length_cons, List.length_cons]
        omega
      · rw [List.filter_cons_of_neg (p := p a) h, List.filter_cons_of_neg (p := fun a => p a b) (a := a) (l := as) h]
        omega
theorem sum_filter {β : Type} (q : β → Bool) : ∀ bs : List β, (bs.map fun b => if q b = true then 1 else 0).sum = (bs.filter q).length
  | [] => rfl
  | b :: bs => by
    rw [List.map_cons, List.sum_cons, sum_filter q bs]
    by_cases h : q b = true
    · rw [if_pos h, List.filter_cons_of_pos h, List.length_cons]; omega
    · rw [if_neg h, List.filter_cons_of_neg h]; omega
/-- residues in rising order -/
structure Rise (n : Int) (l : List Int) : Prop where
  asc : l.Pairwise (· < ·)
  rng : ∀ x ∈ l, 0 ≤ x ∧ x < n
theorem Rise.nodup {n : Int} {l : List Int} (h : Rise n l) : l.Nodup := h.asc.imp fun z => Int.ne_of_lt z
theorem Rise.res {n : Int} {l : List Int} (h : Rise n l) : resOf n l = l := by
  unfold resOf
  conv => rhs; rw [← List.map_id l]
  refine List.map_congr_left fun x hx => ?_
  obtain ⟨h1, h2⟩ := h.rng x hx
  rw [Int.fmod_eq_emod_of_nonneg _ (by omega)]
  exact Int.emod_eq_of_lt h1 h2
theorem Rise.sort {n : Int} {l : List Int} (h : Rise n l) : sortI l = l := asc_one (sortI_perm l) (sortI_asc l) (h.asc.imp fun z => Int.le_of_lt z)
theorem Rise.len {n : Int} {l : List Int} (h : Rise n l) (hn : 0 ≤ n) : l.length ≤ n.toNat := by
  have := nodup_le l ((List.range n.toNat).map fun i : Nat => (i : Int)) h.nodup fun x hx => by
    obtain ⟨h1, h2⟩ := h.rng x hx
    exact List.mem_map.mpr ⟨x.toNat, List.mem_range.mpr (by omega), by omega⟩
  simpa using this
theorem lot_rise {n : Int} {l : List Int} (h : Rise n l) (h1 : 1 ≤ n) (h2 : n ≤ 360) {Q : D → Prop} {E : Err → Prop} (hq : Q (Lt n l)) : wr (newD .Lot mi_Lot_2 [.int n, .lst (l.map .int)]) Q E := by
  have hl := h.len (by omega)
  refine lot_ok h1 h2 (by omega) (by rw [h.res]; exact h.nodup) ?_
  rw [h.res, h.sort]
  exact hq
theorem fmod_sub_iff {n a b d : Int} (hn : 0 < n) (ha : 0 ≤ a ∧ a < n) (hd : 0 ≤ d ∧ d < n) : (a - b).fmod n = d ↔ a = (b + d).fmod n := by
  rw [Int.fmod_eq_emod_of_nonneg _ (by omega), Int.fmod_eq_emod_of_nonneg _ (by omega)]
  constructor
  · intro h
    have e1 : a % n = a := Int.emod_eq_of_lt ha.1 ha.2
    rw [← h, Int.add_emod_emod] 
    rw [show b + (a - b) = a by omega, e1]
  · intro h
    rw [h, Int.emod_sub_emod, show b + d - b = d by omega]
    exact Int.emod_eq_of_lt hd.1 hd.2
theorem fmod_neg_iff {n a b d : Int} (hn : 0 < n) (hd : 0 ≤ d ∧ d < n) : (b - a).fmod n = d ↔ (a - b).fmod n = (0 - d).fmod n := by
  rw [Int.fmod_eq_emod_of_nonneg _ (by omega), Int.fmod_eq_emod_of_nonneg _ (by omega), Int.fmod_eq_emod_of_nonneg _ (by omega)]
  rw [Int.emod_eq_emod_iff_emod_sub_eq_zero]
  constructor
  · intro h
    have : (b - a - d) % n = 0 := by rw [← h, Int.sub_emod_emod] ; simp
    have h2 : n ∣ (b - a - d) := Int.dvd_of_emod_eq_zero this
    have h3 : n ∣ (a - b - (0 - d)) := by
      have := Int.dvd_neg.mpr h2
      rwa [show -(b - a - d) = a - b - (0 - d) by omega] at this
    exact Int.emod_eq_zero_of_dvd h3
  · intro h
    have h2 : n ∣ (a - b - (0 - d)) := Int.dvd_of_emod_eq_zero h
    have h3 : n ∣ (b - a - d) := by
      have := Int.dvd_neg.mpr h2
      rwa [show -(a - b - (0 - d)) = b - a - d by omega] at this
    have h4 := (Int.emod_eq_emod_iff_emod_sub_eq_zero (n := n) (m := b - a) (k := d)).mpr (Int.emod_eq_zero_of_dvd h3)
    rw [h4]
    exact Int.emod_eq_of_lt hd.1 hd.2
/-- the law's count -/
def lawAt (n : Int) (as bs : List Int) (d : Int) : Nat := (bs.filter fun b => decide ((b + d).fmod n ∈ as)).length
theorem cnt_law {n d : Int} {as bs : List Int} (hn : 0 < n) (ha : Rise n as) (hd : 0 ≤ d ∧ d < n) : cntAt n as bs d = lawAt n as bs d := by
  unfold cntAt lawAt
  rw [sum_swap (fun a b => decide ((a - b).fmod n = d)) as bs, ← sum_filter]
  congr 1
  refine List.map_congr_left fun b _ => ?_
  have e : (as.filter fun a => decide ((a - b).fmod n = d)) = as.filter fun a => decide (a = (b + d).fmod n) := by
    refine List.filter_congr fun a h => ?_
    exact decide_eq_decide.mpr (fmod_sub_iff hn (ha.rng a h) hd)
  rw [e]
  have key : ∀ (l : List Int) (x : Int), l.Nodup → (l.filter fun a => decide (a = x)).length = if decide (x ∈ l) = true then 1 else 0 := by
    intro l x
    induction l with
    | nil => intro _; rfl
    | cons a l ih =>
      intro hn
      obtain ⟨h1, h2⟩ := List.nodup_cons.mp hn
      by_cases z : a = x
      · subst z
        rw [List.filter_cons_of_pos (by simp), List.length_cons, ih h2, if_neg (by simpa using h1), if_pos (by simp)]
      · rw [List.filter_cons_of_neg (by simpa using z), ih h2]
        have : (x ∈ a :: l) ↔ x ∈ l := by
          rw [List.mem_cons]
          exact ⟨fun h => h.resolve_left fun e => z e.symm, .inr⟩
        simp only [this]
  exact key as _ ha.nodup
theorem cnt_rev {n d : Int} {as bs : List Int} (hn : 0 < n) (hd : 0 ≤ d ∧ d < n) : cntAt n bs as d = cntAt n as bs ((0 - d).fmod n) := by
  unfold cntAt
  rw [sum_swap (fun b a => decide ((b - a).fmod n = d)) bs as]
  congr 1
  refine List.map_congr_left fun a _ => ?_
  congr 1
  refine List.filter_congr fun b _ => ?_
  exact decide_eq_decide.mpr (fmod_neg_iff hn hd)
theorem Rise.snoc {n m : Int} {l : List Int} (h : Rise n l) (h0 : 0 ≤ n) (hm : n < m) : Rise m (l ++ [n]) := by
  refine ⟨?_, fun x hx => ?_⟩
  · rw [List.pairwise_append]
    refine ⟨h.asc, List.pairwise_singleton _ _, fun a ha b hb => ?_⟩
    rw [List.mem_singleton.mp hb]
    exact (h.rng a ha).2
  · rcases List.mem_append.mp hx with y | y
    · have := h.rng x y; omega
    · rw [List.mem_singleton.mp y]; omega
theorem Rise.mono {n m : Int} {l : List Int} (h : Rise n l) (hm : n ≤ m) : Rise m l := ⟨h.asc, fun x hx => by have := h.rng x hx; omega⟩
theorem Rise.filter {n : Int} {l : List Int} (h : Rise n l) (p : Int → Bool) : Rise n (l.filter p) := ⟨h.asc.filter p, fun x hx => h.rng x (List.mem_filter.mp hx).1⟩
theorem rise_range (n : Nat) : Rise n ((List.range n).map fun i : Nat => (i : Int)) := by
  refine ⟨?_, fun x hx => ?_⟩
  · rw [List.pairwise_map]
    exact (List.pairwise_lt_range (n := n)).imp fun h => by omega
  · obtain ⟨i, hi, rfl⟩ := List.mem_map.mp hx
    have := List.mem_range.mp hi
    omega
theorem Rise.app {n m : Int} {l r : List Int} (h : Rise n l) (g : Rise (m - n) r) (h0 : 0 ≤ n) (hm : n ≤ m) : Rise m (l ++ r.map (n + ·)) := by
  refine ⟨?_, fun x hx => ?_⟩
  · rw [List.pairwise_append]
    refine ⟨h.asc, by rw [List.pairwise_map]; exact g.asc.imp fun z => by omega, fun a ha b hb => ?_⟩
    obtain ⟨y, hy, rfl⟩ := List.mem_map.mp hb
    have := h.rng a ha
    have := g.rng y hy
    omega
  · rcases List.mem_append.mp hx with y | y
    · have := h.rng x y; omega
    · obtain ⟨z, hz, rfl⟩ := List.mem_map.mp y
      have := g.rng z hz
      omega
theorem bits_wp {n : Nat} {number : Int} (hn : n ≤ 1000) {Q : D → Prop} {E : Err → Prop} (hq : ∀ l, Rise n l → Q (.lst (l.map .int))) : wr (m__law_bits [.int n, .int number]) Q E := by
  refine wr_def ?_
  simp only [o__law_bits, ev0]
  simp
  refine ⟨by omega, for_ix (fun i ρ => ∃ (l : List Int) (k : Int) (s3 : Sl), ρ = [.dat (.int n), .dat (.int k), .own (l.map .int), s3] ∧ Rise i l) ?_ ?_ ?_⟩
  · exact ⟨[], _, _, rfl, List.Pairwise.nil, fun x hx => by cases hx⟩
  · rintro J hJ i d ρ hi ⟨l, k, s3, rfl, h⟩
    obtain ⟨hi2, rfl⟩ := rngL_get hi
    have hi3 : i < n := by simpa using hi2
    have hl := h.len (by omega)
    refine ⟨_, rfl, ?_⟩
    simp
    split
    · refine ⟨by omega, div_small (by decide) (by decide) (by decide), hJ _ _ ⟨l ++ [(i : Int)], _, .dat (.int i), by rw [List.map_append]; rfl, (h.snoc (by omega) (by omega))⟩⟩
    · exact ⟨div_small (by decide) (by decide) (by decide), hJ _ _ ⟨l, _, .dat (.int i), rfl, h.mono (by omega)⟩⟩
  · rintro ρ ⟨l, k, s3, rfl, h⟩
    simp
    exact hq l (by simpa using h)
theorem wo_inI {a : Int} {ns : List Int} {Q : D → Prop} {E : Err → Prop} : wr (inD (.int a) (.lst (ns.map .int))) Q E = Q (.bl (decide (a ∈ ns))) := by
  have e : inD (.int a) (.lst (ns.map .int)) = .ok (.bl (decide (a ∈ ns))) := by
    have hf : (ns.map D.int).all isFlatV = true := by
      induction ns with
      | nil => rfl
      | cons b r ih => rw [List.map_cons, List.all_cons, ih]; rfl
    show chk (isFlatV (.int a) = true ∧ (ns.map D.int).all isFlatV = true) _ = _
    unfold chk
    rw [if_pos ⟨rfl, hf⟩]
    congr 2
    clear hf
    induction ns with
    | nil => rfl
    | cons b r ih =>
      rw [List.map_cons, List.any_cons, ih]
      have : eqF (.int b) (.int a) = decide (a = b) := by
        show (b == a) = _
        by_cases z : a = b
        · subst z; simp
        · rw [decide_eq_false z]
          exact beq_eq_false_iff_ne.mpr fun e => z e.symm
      rw [this]
      by_cases z : a = b <;> by_cases z2 : a ∈ r <;> simp [z, z2]
  rw [e, wr_ok]
theorem cutL_map {α β : Type} (f : α → β) (l : List α) (a b : Option Int) : cutL (l.map f) a b = (cutL l a b).map f := by
  unfold cutL
  rw [List.length_map, List.map_take, List.map_drop]
theorem cutL_len {α : Type} (l : List α) (a b : Option Int) : (cutL l a b).length ≤ l.length := by
  unfold cutL
  rw [List.length_take, List.length_drop]
  omega
theorem subset_wp {cell salt : Int} {n : Nat} (h0 : 0 ≤ cell) (s0 : 0 ≤ salt) (s1 : salt < 1000000) (n1 : 1 ≤ n) (n2 : n ≤ 360) {Q : D → Prop} {E : Err → Prop} (hq : ∀ l, Rise n l → Q (.lst (l.map .int))) : wr (m__law_subset [.int cell, .int salt, .int n]) Q E := by
  refine wr_def ?_
  simp only [o__law_subset, ev0]
  have hw : ∃ w : Nat, (((n : Int) - 1).fdiv 25) = w ∧ w ≤ 15 := by
    refine ⟨(((n : Int) - 1).fdiv 25).toNat, ?_, ?_⟩
    · rw [Int.fdiv_eq_ediv_of_nonneg _ (by decide)]; omega
    · rw [Int.fdiv_eq_ediv_of_nonneg _ (by decide)]; omega
  obtain ⟨w, hw, w15⟩ := hw
  show wp _ _ [.dat (.int cell), .dat (.int salt), .dat (.int n), .no, .no, .no, .no]
  simp [-List.reduceReplicate, -List.map_flatten, hw]
  have hmenu : List.replicate ((1 : Int) + (w : Int)).toNat (D.int 33554432) = (List.replicate (1 + w) (33554432 : Int)).map D.int := by
    rw [List.map_replicate, show ((1 : Int) + (w : Int)).toNat = 1 + w by omega]
  rw [hmenu]
  refine ⟨by unfold CPow; omega, div_small (by decide) (by decide) (by decide), ⟨by omega, by omega, by omega⟩, ?_⟩
  refine draws_wp h0 s0 s1 (fun x hx => ?_) (by simp; omega) fun xs hxl hxb => ?_
  · rw [(List.mem_replicate.mp hx).2]
    exact ⟨by decide, Bd.mono (n := 26) (by unfold Bd; decide) (by decide)⟩
  · have hxl : xs.length = 1 + w := by rw [hxl]; simp
    simp
    refine ⟨by omega, for_ix (fun i ρ => ∃ (l : List Int) (s5 s6 : Sl), ρ = [.dat (.int cell), .dat (.int salt), .dat (.int n), .dat (.lst (l.map .int)), .dat (.lst (xs.map .int)), s5, s6] ∧ Rise (25 * (i : Int)) l ∧ ∀ x ∈ l, x < n) ?_ ?_ ?_⟩
    · exact ⟨[], _, _, rfl, ⟨List.Pairwise.nil, fun x hx => by cases hx⟩, fun x hx => by cases hx⟩
    · rintro J hJ i d ρ hi ⟨l, s5, s6, rfl, h, hlt⟩
      obtain ⟨hi2, rfl⟩ := rngL_get hi
      have hi3 : i < xs.length := by simpa using hi2
      refine ⟨_, rfl, ?_⟩
      have hll := h.len (by omega)
      have at1 : atI (xs.map D.int) (i : Int) = some (.int xs[i]) := by rw [atI_nn, List.getElem?_map, List.getElem?_eq_getElem hi3]; rfl
      obtain ⟨d, e1, l', rfl, h'⟩ := wr_ex (bits_wp (n := 25) (number := xs[i]) (Q := fun d => ∃ l', d = .lst (l'.map .int) ∧ Rise 25 l') (by decide) fun l h => ⟨l, rfl, h⟩)
      have e2 : m__law_bits [.int 25, .int xs[i]] = .ok (.lst (l'.map .int)) := e1
      have hl' := h'.len (by decide)
      simp
      refine wm_lcP l' D.int (fun h => decide (25 * (i : Int) + h < n)) (fun h => .int (25 * (i : Int) + h)) (by simp [wipeE, at1, e2]) (by simp; omega) (fun h hh => ⟨_, rfl, ?_, fun _ => ?_⟩) ?_
      · simp [wipeE]
        exact cmul_small (by decide) (by decide) (by omega) (by omega)
      · simp [wipeE]
        exact cmul_small (by decide) (by decide) (by omega) (by omega)
      · have hf := h'.filter (fun h => decide (25 * (i : Int) + h < n))
        have hfl : (l'.filter fun h => decide (25 * (i : Int) + h < n)).length ≤ l'.length := List.length_filter_le _ _
        refine ⟨by simp; omega, hJ _ _ ⟨l ++ (l'.filter fun h => decide (25 * (i : Int) + h < n)).map (25 * (i : Int) + ·), .dat (.int i), s6, ?_, ?_, ?_⟩⟩
        · simp
        · have := h.app (m := 25 * ((i + 1 : Nat) : Int)) (r := l'.filter fun h => decide (25 * (i : Int) + h < n)) (hf.mono (by omega)) (by omega) (by omega)
          exact this
        · intro x hx
          rcases List.mem_append.mp hx with y | y
          · exact hlt x y
          · obtain ⟨z, hz, rfl⟩ := List.mem_map.mp y
            exact of_decide_eq_true (List.mem_filter.mp hz).2
    · rintro ρ ⟨l, s5, s6, rfl, h, hlt⟩
      simp
      exact hq l ⟨h.asc, fun x hx => ⟨(h.rng x hx).1, hlt x hx⟩⟩
theorem sparse_wp {cell salt : Int} {n : Nat} (h0 : 0 ≤ cell) (s0 : 0 ≤ salt) (s1 : salt < 1000000) (n1 : 1 ≤ n) (n2 : n ≤ 360) {Q : D → Prop} {E : Err → Prop} (hq : ∀ l, Rise n l → Q (.lst (l.map .int))) : wr (m__law_sparse [.int cell, .int salt, .int n]) Q E := by
  refine wr_def ?_
  simp only [o__law_sparse, ev0]
  show wp _ _ [.dat (.int cell), .dat (.int salt), .dat (.int n), .no, .no, .no, .no]
  simp [-List.reduceReplicate, -List.map_flatten]
  rw [show D.int 7 :: List.replicate 6 (D.int 360) = ([7, 360, 360, 360, 360, 360, 360] : List Int).map D.int from rfl]
  refine draws_wp h0 s0 s1 (fun x hx => ?_) (by simp) fun xs hxl hxb => ?_
  · simp at hx
    rcases hx with rfl | rfl
    · exact ⟨by decide, Bd.mono (n := 9) (by unfold Bd; decide) (by decide)⟩
    · exact ⟨by decide, Bd.mono (n := 9) (by unfold Bd; decide) (by decide)⟩
  · have hxl : xs.length = 7 := by rw [hxl]; simp
    have g0 : xs[0]? = some xs[0] := List.getElem?_eq_getElem (by omega)
    have at0 : atI (xs.map D.int) 0 = some (.int xs[0]) := by rw [atI_of (by decide), List.getElem?_map]; exact congrArg (Option.map D.int) g0
    have hcl := cutL_len xs (some 1) (some ((1 : Int) + xs[0]))
    refine wm_lcM (cutL xs (some 1) (some ((1 : Int) + xs[0]))) D.int (fun x => .int (x.fmod n)) (by simp [wipeE, at0, cutL_map]) (by simp; omega) (fun x hx => ⟨_, rfl, ?_⟩) ?_
    · simp [wipeE]
      omega
    · have hh := fun (p : Nat → Bool) (F : Nat → D) => @wm_lcP Nat (List.range n) (fun i => D.int (0 + (i : Int))) p F
      generalize hc : cutL xs (some 1) (some ((1 : Int) + xs[0])) = cs
      have ec : cs.map (fun x => D.int (x.fmod n)) = (cs.map fun x => x.fmod n).map D.int := by rw [List.map_map]; rfl
      rw [ec]
      refine hh (fun i => decide ((i : Int) ∈ cs.map fun x => x.fmod n)) (fun i => .int i) (by simp [rngL]; omega) (by simp; omega) (fun i hi => ⟨_, rfl, ?_, fun _ => ?_⟩) ?_
      · generalize (cs.map fun x => x.fmod n) = rs
        simp [wipeE]
        rw [wo_inI]
        simp
      · simp [wipeE]
      · have hr := (rise_range n).filter fun x => decide (x ∈ cs.map fun x => x.fmod n)
        have ef : (((List.range n).map fun i : Nat => (i : Int)).filter fun x => decide (x ∈ cs.map fun x => x.fmod n)).map D.int = ((List.range n).filter fun i : Nat => decide ((i : Int) ∈ cs.map fun x => x.fmod n)).map fun i : Nat => D.int i := by
          rw [List.filter_map, List.map_map]
          rfl
        rw [← ef]
        exact hq _ hr
theorem drawn_lot_wp {cell salt way : Int} {few : Bool} {n : Nat} (h0 : 0 ≤ cell) (s0 : 0 ≤ salt) (s1 : salt < 900000) (n1 : 1 ≤ n) (n2 : n ≤ 360) {Q : D → Prop} {E : Err → Prop} (hq : ∀ l, Rise n l → Q (.lst (l.map .int))) : wr (m__law_drawn_lot [.int cell, .int salt, .int n, .bl few, .int way]) Q E := by
  refine wr_def ?_
  simp only [o__law_drawn_lot, ev0]
  have nil : Q (.lst []) := hq [] ⟨List.Pairwise.nil, fun x hx => by cases hx⟩
  have all : Q (.lst (rngL 0 n)) := by
    have := hq _ (rise_range n)
    rw [List.map_map] at this
    have e : rngL 0 n = (List.range n).map (D.int ∘ fun i : Nat => (i : Int)) := by
      unfold rngL
      refine List.map_congr_left fun i _ => ?_
      show D.int (0 + (i : Int)) = D.int (i : Int)
      rw [Int.zero_add]
    rw [e]
    exact this
  have sp := sparse_wp (cell := cell) (salt := salt + 1) (Q := Q) (E := E) h0 (by omega) (by omega) n1 n2 hq
  have sb := subset_wp (cell := cell) (salt := salt) (Q := Q) (E := E) h0 (by omega) (by omega) n1 n2 hq
  simp
  repeat' split
  all_goals first
    | exact nil
    | exact sp
    | exact sb
    | exact ⟨⟨by omega, by omega⟩, all⟩
def lawL (n : Nat) (as bs : List Int) : List Int := (List.range n).map fun d : Nat => ((lawAt n as bs (d : Int) : Nat) : Int)
theorem cntL_law {n : Nat} {as bs : List Int} (hn : 0 < n) (ha : Rise n as) : cntL n as bs = lawL n as bs := by
  unfold cntL lawL
  rw [show ((n : Int)).toNat = n by omega]
  refine List.map_congr_left fun d hd => ?_
  have := List.mem_range.mp hd
  rw [cnt_law (by omega) ha (by omega)]
theorem law_counts_eq {n : Nat} {as bs : List Int} (n1 : 1 ≤ n) (n2 : n ≤ 360) (ha : as.length ≤ 1000) (hb : bs.length ≤ 1000) : m__law_counts [.lst (as.map .int), .lst (bs.map .int), .int n] = .ok (.lst ((lawL n as bs).map .int)) := by
  refine wr_eq (wr_def ?_)
  simp only [o__law_counts, ev0]
  have hh := fun (F : Nat → D) => @wm_lcM Nat (List.range n) (fun i => D.int (0 + (i : Int))) F
  simp
  refine hh (fun h => .bl (decide ((h : Int) ∈ as))) (by simp [rngL]; omega) (by simp; omega) (fun i hi => ⟨_, rfl, ?_⟩) ?_
  · simp [wipeE]
    rw [wo_inI]
  · refine ⟨by omega, for_ix (fun i ρ => ∃ s4 s6 s7 : Sl, ρ = [.dat (.lst (as.map .int)), .dat (.lst (bs.map .int)), .dat (.int n), .dat (.lst ((List.range n).map fun h : Nat => .bl (decide ((h : Int) ∈ as)))), s4, .own (((List.range i).map fun d : Nat => ((lawAt n as bs (d : Int) : Nat) : Int)).map .int), s6, s7]) ?_ ?_ ?_⟩
    · exact ⟨_, _, _, rfl⟩
    · rintro J hJ i d ρ hi ⟨s4, s6, s7, rfl⟩
      obtain ⟨hi2, rfl⟩ := rngL_get hi
      have hi3 : i < n := by simpa using hi2
      refine ⟨_, rfl, ?_⟩
      simp
      have f : ∀ y : Int, 0 ≤ (y + i).fmod n ∧ (y + i).fmod n < n := fun y => ⟨Int.fmod_nonneg_of_pos _ (by omega), Int.fmod_lt_of_pos _ (by omega)⟩
      refine wm_lcP bs D.int (fun y => decide ((y + (i : Int)).fmod n ∈ as)) D.int (by simp) (by simp; omega) (fun y hy => ⟨_, rfl, ?_, fun _ => ?_⟩) ?_
      · obtain ⟨g0, g1⟩ := f y
        have hlt : ((y + (i : Int)).fmod n).toNat < n := by omega
        simp [wipeE]
        refine ⟨by omega, ?_⟩
        rw [atI_of g0, List.getElem?_map, List.getElem?_range hlt]
        simp
        rw [Int.max_eq_left g0]
      · simp [wipeE]
      · refine ⟨by omega, hJ _ _ ⟨s4, .dat (.int i), s7, ?_⟩⟩
        rw [List.range_succ]
        simp [lawAt]
    · rintro ρ ⟨s4, s6, s7, rfl⟩
      simp [lawL]
theorem same_ints {l : List Int} (h : l.length ≤ 4000) : m__law_same [.lst (l.map .int), .lst (l.map .int)] = .ok (.bl true) := by
  refine same_self 7 _ (.lst (fun x hx => ?_) (by simp; omega))
  obtain ⟨i, _, rfl⟩ := List.mem_map.mp hx
  exact .int _ _
theorem cntL_len {n : Int} {as bs : List Int} : (cntL n as bs).length = n.toNat := by unfold cntL; simp
theorem agrees_eq {n : Int} {as bs due : List Int} (h1 : 1 ≤ n) (h2 : n ≤ 360) (hd : due = cntL n as bs) : m__law_agrees [Lt n as, Lt n bs, .lst (due.map .int)] = .ok (.bl true) := by
  subst hd
  have hl := cntL_len (n := n) (as := as) (bs := bs)
  have hs := same_ints (l := cntL n as bs) (by omega)
  have g0 : (cntL n as bs)[0]? = some (cntL n as bs)[0] := List.getElem?_eq_getElem (by omega)
  refine wr_eq (wr_def ?_)
  simp only [o__law_agrees, ev0]
  simp [meet_eq h1 h2, hs]
  rw [g0]
  simp
  rw [setIx_int (by decide) (by simp; omega)]
  simp
  omega
theorem differences_eq {n : Int} {as : List Int} (h1 : 1 ≤ n) (h2 : n ≤ 360) : m_differences [Lt n as] = .ok (.lst ((cntL n as as).map .int)) := by
  refine wr_eq (wr_def ?_)
  simp only [o_differences, ev0]
  simp [meet_eq h1 h2]
theorem differs_eq {n : Int} {as due : List Int} (h1 : 1 ≤ n) (h2 : n ≤ 360) (hd : due = cntL n as as) : m__law_differs [Lt n as, .lst (due.map .int)] = .ok (.bl true) := by
  subst hd
  have hl := cntL_len (n := n) (as := as) (bs := as)
  have hs := same_ints (l := cntL n as as) (by omega)
  have g0 : (cntL n as as)[0]? = some (cntL n as as)[0] := List.getElem?_eq_getElem (by omega)
  refine wr_eq (wr_def ?_)
  simp only [o__law_differs, ev0]
  simp [differences_eq h1 h2, hs]
  rw [g0]
  simp
  rw [setIx_int (by decide) (by simp; omega)]
  simp
  omega
theorem kept_apart_eq {n m : Int} {as bs : List Int} (h : n ≠ m) : m__law_kept_apart [Lt n as, Lt m bs] = .ok (.bl true) := by
  refine wr_eq (wr_def ?_)
  simp only [o__law_kept_apart, ev0]
  simp [meet_bad h]
  refine hd_yes rfl ?_
  simp [Po.leave, enterX, dropX, leaveX, tk_OtherHours, tk_ValueError, tk_OtherHouse, tk_Meets, tk_WrongLength, sizeLine_eq]
  have e : eqD (D.lst [D.bl true, D.bl true, D.bl false, D.bl false, D.bl false]) (D.lst [D.bl true, D.bl true, D.bl false, D.bl false, D.bl false]) = .ok (.bl true) := by rfl
  rw [e, wr_ok]
theorem lot_members {n : Int} {l : List Int} : m_Lot_members [Lt n l] = .ok (.lst (l.map .int)) := by
  refine wr_eq (wr_def ?_)
  simp only [o_Lot_members, ev0]
  simp
theorem wo_membersP {n : Int} {l : List Int} {Q : D → Prop} {E : Err → Prop} (hq : Q (.lst (l.map .int))) : wr (attrD none t_members_Lot (Lt n l)) Q E := by
  show wr (noX (m_Lot_members [Lt n l])) Q E
  rw [lot_members]
  show wr (Res.ok _) Q E
  rw [wr_ok]
  exact hq
section
variable {script d1 d3 d7 : D} {n ring : Nat} {as bs : List Int} {s10 s11 : Sl}
theorem a_10 (n1 : 1 ≤ n) (n2 : n ≤ 360) (r1 : 1 ≤ ring) (r2 : ring ≤ 360) (ha : Rise n as) (hb : Rise ring bs) :
    wp o__law_part_a_10 ⟨fun _ => False, fun x => x = .bl true, fun _ => False, fun _ => False, fun e _ => noE e⟩ [.dat script, .dat d1, .dat (.int n), .dat d3, .dat (.int ring), .dat (.lst (as.map .int)), .dat (.lst (bs.map .int)), s11, .dat (Lt n as), .dat (Lt ring bs), s10, .no] := by
  have la := ha.len (by omega)
  have lb := hb.len (by omega)
  have sa := same_ints (l := as) (by omega)
  have sb := same_ints (l := bs) (by omega)
  have ma : ∀ {Q : D → Prop} {E : Err → Prop} (hq : Q (.lst (as.map .int))), wr (attrD none t_members_Lot (Lt n as)) Q E := fun hq => wo_membersP hq
  have mb : ∀ {Q : D → Prop} {E : Err → Prop} (hq : Q (.lst (bs.map .int))), wr (attrD none t_members_Lot (Lt ring bs)) Q E := fun hq => wo_membersP hq
  simp only [o__law_part_a_10]
  by_cases h : n = ring
  · subst h
    simp
    have c1 := law_counts_eq (as := as) (bs := bs) n1 n2 (by omega) (by omega)
    have c2 := law_counts_eq (as := as) (bs := as) n1 n2 (by omega) (by omega)
    have c3 := law_counts_eq (as := bs) (bs := bs) n1 n2 (by omega) (by omega)
    have e1 := cntL_law (bs := bs) (show 0 < n by omega) ha
    have e2 := cntL_law (bs := as) (show 0 < n by omega) ha
    have e3 := cntL_law (bs := bs) (show 0 < n by omega) hb
    have a1 := agrees_eq (n := n) (as := as) (bs := bs) (due := lawL n as bs) (by omega) (by omega) e1.symm
    have a2 := agrees_eq (n := n) (as := as) (bs := as) (due := lawL n as as) (by omega) (by omega) e2.symm
    have d1 := differs_eq (n := n) (as := as) (due := lawL n as as) (by omega) (by omega) e2.symm
    have d2 := differs_eq (n := n) (as := bs) (due := lawL n bs bs) (by omega) (by omega) e3.symm
    have a3 := agrees_eq (n := n) (as := bs) (bs := as) (due := cntL n bs as) (by omega) (by omega) rfl
    have hl := cntL_len (n := n) (as := as) (bs := bs)
    rw [e1] at hl
    simp only [o__law_part_a_11]
    simp [c1]
    simp only [o__law_part_a_12]
    simp [a1]
    have hh := fun (F : Nat → D) => @wm_lcM Nat (List.range n) (fun i => D.int (0 + (i : Int))) F
    refine hh (fun d => .int ((cntAt n bs as (d : Int) : Nat) : Int)) (by simp [rngL]; omega) (by simp; omega) (fun d hd => ⟨_, rfl, ?_⟩) ?_
    · have hd' := List.mem_range.mp hd
      have f0 := Int.fmod_nonneg_of_pos (0 - (d : Int)) (show (0 : Int) < n by omega)
      have f1 := Int.fmod_lt_of_pos (0 - (d : Int)) (show (0 : Int) < n by omega)
      have hr := cnt_rev (n := n) (d := d) (as := as) (bs := bs) (by omega) (by omega)
      have hlt : ((0 - (d : Int)).fmod n).toNat < n := by omega
      have gl : (lawL n as bs)[((0 - (d : Int)).fmod n).toNat]? = some ((cntAt n as bs ((0 - (d : Int)).fmod n) : Nat) : Int) := by
        rw [← e1]
        unfold cntL
        rw [List.getElem?_map, show ((n : Int)).toNat = n by omega, List.getElem?_range hlt]
        simp only [Option.map_some]
        rw [show ((((0 - (d : Int)).fmod n).toNat : Nat) : Int) = (0 - (d : Int)).fmod n by omega]
      have ga : atI ((lawL n as bs).map D.int) ((0 - (d : Int)).fmod n) = some (.int ((cntAt n as bs ((0 - (d : Int)).fmod n) : Nat) : Int)) := by
        rw [atI_of f0, List.getElem?_map, gl]
        rfl
      rw [Int.zero_sub] at ga hr
      simp [wipeE]
      refine ⟨by omega, ?_⟩
      rw [ga, hr]
      simp
    · have ex : ((List.range n).map fun d : Nat => D.int ((cntAt n bs as (d : Int) : Nat) : Int)) = (cntL n bs as).map D.int := by
        unfold cntL
        rw [show ((n : Int)).toNat = n by omega, List.map_map]
        rfl
      rw [ex, a3]
      simp
      simp only [o__law_part_a_13]
      simp [c2]
      simp only [o__law_part_a_14]
      simp [d1, a2]
      simp only [o__law_part_a_15]
      simp [c3, d1, d2]
      simp only [o__law_part_a_16]
      simp
      refine ma ?_
      simp [sa]
      refine mb ?_
      simp [sb]
  · have k1 : m__law_kept_apart [Lt n as, Lt ring bs] = .ok (.bl true) := kept_apart_eq (by omega)
    have k2 : m__law_kept_apart [Lt ring bs, Lt n as] = .ok (.bl true) := kept_apart_eq (by omega)
    have h' : ¬ ((n : Int) = (ring : Int)) := by omega
    simp [h, h', k1, k2]
    refine ma ?_
    simp [sa]
    refine mb ?_
    simp [sb]
end
abbrev PT4 : Po := ⟨fun _ => False, fun x => x = .bl true, fun _ => False, fun _ => False, fun e _ => noE e⟩
section
variable {ns zs : List Int} {n ring : Nat} {few : Bool} {s5 s6 s7 s8 s9 s10 s11 : Sl}
theorem a_8 {as bs : List Int} {d1 d3 : D} (n1 : 1 ≤ n) (n2 : n ≤ 360) (r1 : 1 ≤ ring) (r2 : ring ≤ 360) (ha : Rise n as) (hb : Rise ring bs) :
    wp o__law_part_a_8 PT4 [.dat (.lst (ns.map D.int)), .dat d1, .dat (.int n), .dat d3, .dat (.int ring), .dat (.lst (as.map .int)), .dat (.lst (bs.map .int)), s7, s8, s9, s10, .no] := by
  simp only [o__law_part_a_8]
  simp
  refine lot_rise ha (by omega) (by omega) ?_
  simp only [o__law_part_a_9]
  simp
  refine lot_rise hb (by omega) (by omega) ?_
  exact a_10 n1 n2 r1 r2 ha hb
theorem a_5 (n1 : 1 ≤ n) (n2 : n ≤ 360) (r1 : 1 ≤ ring) (r2 : ring ≤ 360) (hz : zs.length = 8) :
    wp o__law_part_a_5 PT4 [.dat (.lst (ns.map D.int)), .dat (.lst (zs.map .int)), .dat (.int n), .dat (.bl few), .dat (.int ring), s5, s6, s7, s8, s9, s10, .no] := by
  have g6 : zs[6]? = some zs[6] := List.getElem?_eq_getElem (by omega)
  have g7 : zs[7]? = some zs[7] := List.getElem?_eq_getElem (by omega)
  simp only [o__law_part_a_5]
  simp
  refine cell_wp ns (by decide) fun c1 hc1 => ?_
  rw [g6]
  simp
  refine drawn_lot_wp hc1 (by decide) (by decide) n1 n2 fun as ha => ?_
  have la := ha.len (by omega)
  simp only [o__law_part_a_6]
  simp
  refine cell_wp ns (by decide) fun c2 hc2 => ?_
  rw [g7]
  simp
  refine drawn_lot_wp hc2 (by decide) (by decide) r1 r2 fun bs hb => ?_
  simp only [o__law_part_a_7]
  simp
  rw [g7]
  simp
  split
  · refine wm_lcP as D.int (fun x => decide (x < ring)) D.int (by simp) (by simp; omega) (fun x hx => ⟨_, rfl, ?_, fun _ => ?_⟩) ?_
    · simp [wipeE]
    · simp [wipeE]
    · have hf := ha.filter fun x => decide (x < (ring : Int))
      have hr : Rise ring (as.filter fun x => decide (x < (ring : Int))) := ⟨hf.asc, fun x hx => ⟨(hf.rng x hx).1, of_decide_eq_true (List.mem_filter.mp hx).2⟩⟩
      exact a_8 n1 n2 r1 r2 ha hr
  · exact a_8 n1 n2 r1 r2 ha hb
end
theorem part_a_eq (ns : List Int) : m__law_part_a [.lst (ns.map D.int)] = .ok (.bl true) := by
  refine wr_eq (wr_def ?_)
  simp only [o__law_part_a, ev0]
  simp
  refine cell_wp ns (by decide) fun cell hc => ?_
  rw [show [D.int 8, D.int 12, D.int 24, D.int 120, D.int 360, D.int 8, D.int 6, D.int 6] = ([8, 12, 24, 120, 360, 8, 6, 6] : List Int).map D.int from rfl]
  refine draws_wp hc (by decide) (by decide) (fun x hx => ?_) (by simp) fun zs hzl hzb => ?_
  · simp at hx
    have : 1 ≤ x ∧ x ≤ 360 := by omega
    exact ⟨this.1, Bd.mono (n := 10) (by unfold Bd; omega) (by decide)⟩
  · have hzl : zs.length = 8 := by rw [hzl]; simp
    have b0 := hzb 0 zs[0] 8 (List.getElem?_eq_getElem (by omega)) rfl
    have b1 := hzb 1 zs[1] 12 (List.getElem?_eq_getElem (by omega)) rfl
    have b2 := hzb 2 zs[2] 24 (List.getElem?_eq_getElem (by omega)) rfl
    have b3 := hzb 3 zs[3] 120 (List.getElem?_eq_getElem (by omega)) rfl
    have b4 := hzb 4 zs[4] 360 (List.getElem?_eq_getElem (by omega)) rfl
    have g0 : zs[0]? = some zs[0] := List.getElem?_eq_getElem (by omega)
    have g1 : zs[1]? = some zs[1] := List.getElem?_eq_getElem (by omega)
    have g2 : zs[2]? = some zs[2] := List.getElem?_eq_getElem (by omega)
    have g3 : zs[3]? = some zs[3] := List.getElem?_eq_getElem (by omega)
    have g4 : zs[4]? = some zs[4] := List.getElem?_eq_getElem (by omega)
    have g5 : zs[5]? = some zs[5] := List.getElem?_eq_getElem (by omega)
    simp only [o__law_part_a_1]
    simp
    rw [g0, g1, g2, g3, g4]
    simp
    have hn : ∃ v : Int, atI [D.int ((1 : Int) + zs[4]), D.int ((1 : Int) + zs[3]), D.int ((1 : Int) + zs[2]), D.int ((1 : Int) + zs[2]), D.int ((1 : Int) + zs[1])] (if zs[0] < 4 then zs[0] else 4) = some (.int v) ∧ 1 ≤ v ∧ v ≤ 360 := by
      generalize zs[0] = y0 at b0
      have : y0 = 0 ∨ y0 = 1 ∨ y0 = 2 ∨ y0 = 3 ∨ 4 ≤ y0 := by omega
      rcases this with rfl | rfl | rfl | rfl | h
      · exact ⟨_, rfl, by omega, by omega⟩
      · exact ⟨_, rfl, by omega, by omega⟩
      · exact ⟨_, rfl, by omega, by omega⟩
      · exact ⟨_, rfl, by omega, by omega⟩
      · rw [if_neg (by omega)]
        exact ⟨_, rfl, by omega, by omega⟩
    obtain ⟨v, hv, v1, v2⟩ := hn
    rw [hv]
    simp only [o__law_part_a_2]
    simp
    rw [g0]
    simp
    simp only [o__law_part_a_3]
    simp
    simp only [o__law_part_a_4]
    simp
    rw [g5]
    simp
    obtain ⟨n, rfl⟩ : ∃ n : Nat, v = n := ⟨v.toNat, by omega⟩
    split
    · have f0 := Int.fmod_nonneg_of_pos (n : Int) (show (0 : Int) < 360 by decide)
      have f1 := Int.fmod_lt_of_pos (n : Int) (show (0 : Int) < 360 by decide)
      obtain ⟨r, hr⟩ : ∃ r : Nat, (n : Int).fmod 360 + 1 = r := ⟨((n : Int).fmod 360 + 1).toNat, by omega⟩
      rw [hr]
      exact a_5 (by omega) (by omega) (by omega) (by omega) hzl
    · exact a_5 (by omega) (by omega) (by omega) (by omega) hzl
structure PartsOk (n : Int) (ps : List (List Int)) : Prop where
  len : ps.length ≤ 100
  ok : ∀ p ∈ ps, ∃ i s : Int, p = [i, s] ∧ 0 ≤ i ∧ i < 100 ∧ 0 ≤ s ∧ s < n
theorem round_wp {cell base : Int} {n : Nat} {dbl : Bool} (h0 : 0 ≤ cell) (n1 : 1 ≤ n) (n2 : n ≤ 360) (b0 : 0 ≤ base) (b1 : base < 57) {Q : D → Prop} {E : Err → Prop} (hq : ∀ ps, PartsOk n ps → Q (.lst (ps.map tupI))) : wr (m__law_round_parts [.int cell, .int n, .int base, .bl dbl]) Q E := by
  refine wr_def ?_
  simp only [o__law_round_parts, ev0]
  simp
  rw [show [D.int 100, D.int n, D.int n, D.int 4, D.int 9] = ([100, (n : Int), (n : Int), 4, 9] : List Int).map D.int from rfl]
  refine draws_wp h0 (by decide) (by decide) (fun x hx => ?_) (by simp) fun zs hzl hzb => ?_
  · simp at hx
    have : 1 ≤ x ∧ x ≤ 360 := by omega
    exact ⟨this.1, Bd.mono (n := 10) (by unfold Bd; omega) (by decide)⟩
  · have hzl : zs.length = 5 := by rw [hzl]; simp
    match zs, hzl, hzb with
    | [a0, a1, a2, a3, a4], _, hzb =>
      have c0 := hzb 0 a0 100 rfl rfl
      have c1 := hzb 1 a1 n rfl rfl
      have c2 := hzb 2 a2 n rfl rfl
      have c3 := hzb 3 a3 4 rfl rfl
      have c4 := hzb 4 a4 9 rfl rfl
      simp
      refine ⟨by omega, for_ix (fun i ρ => ∃ (ps : List (List Int)) (s6 s7 s8 : Sl), ρ = [.dat (.int cell), .dat (.int n), .dat (.int base), .dat (.bl dbl), .dat (.lst [.int a0, .int a1, .int a2, .int a3, .int a4]), .own (ps.map tupI), s6, s7, s8] ∧ ps.length ≤ i ∧ ∀ p ∈ ps, ∃ i s : Int, p = [i, s] ∧ 0 ≤ i ∧ i < 100 ∧ 0 ≤ s ∧ s < n) ?_ ?_ ?_⟩
      · exact ⟨[], _, _, _, rfl, Nat.le_refl _, fun p hp => by cases hp⟩
      · rintro J hJ i d ρ hi ⟨ps, s6, s7, s8, rfl, hl, hp⟩
        obtain ⟨hi2, rfl⟩ := rngL_get hi
        have hi3 : i < 100 := by omega
        refine ⟨_, rfl, ?_⟩
        simp
        have e0 := Int.fmod_nonneg_of_pos ((i : Int) * a3 + (i : Int).fdiv (1 + a4)) (show (0 : Int) < 4 by decide)
        have e1 := Int.fmod_lt_of_pos ((i : Int) * a3 + (i : Int).fdiv (1 + a4)) (show (0 : Int) < 4 by decide)
        have g0 := Int.fmod_nonneg_of_pos (a1 + (i : Int) * a2) (show (0 : Int) < n by omega)
        have g1 := Int.fmod_lt_of_pos (a1 + (i : Int) * a2) (show (0 : Int) < n by omega)
        refine ⟨cmul_small (by omega) (by omega) (by omega) (by omega), div_small (by omega) (by omega) (by omega), cmul_small (by omega) (by omega) (by omega) (by omega), by omega, ?_⟩
        generalize (i : Int) * a3 + (i : Int).fdiv (1 + a4) = y at e0 e1 ⊢
        generalize (a1 + (i : Int) * a2).fmod n = z at g0 g1 ⊢
        have et : D.tup [D.int (base + y.fmod 4), D.int z] = tupI [base + y.fmod 4, z] := rfl
        have put : J (i + 1) [Sl.dat (D.int cell), Sl.dat (D.int n), Sl.dat (D.int base), Sl.dat (D.bl dbl), Sl.dat (D.lst [D.int a0, D.int a1, D.int a2, D.int a3, D.int a4]), Sl.own (List.map tupI ps ++ [tupI [base + y.fmod 4, z]]), Sl.dat (D.int i), Sl.dat (D.int y), Sl.dat (tupI [base + y.fmod 4, z])] :=
          hJ _ _ ⟨ps ++ [[base + y.fmod 4, z]], .dat (.int i), .dat (.int y), .dat (tupI [base + y.fmod 4, z]), by rw [List.map_append]; rfl, by rw [List.length_append, List.length_singleton]; omega, fun p h => by
            rcases List.mem_append.mp h with h | h
            · exact hp p h
            · rw [List.mem_singleton.mp h]
              exact ⟨_, _, rfl, by omega, by omega, g0, g1⟩⟩
        rw [et]
        split
        · exact ⟨by omega, put⟩
        · rw [wo_ninP]
          simp
          split
          · exact hJ _ _ ⟨ps, .dat (.int i), .dat (.int y), .dat (tupI [base + y.fmod 4, z]), rfl, by omega, hp⟩
          · exact ⟨by omega, put⟩
      · rintro ρ ⟨ps, s6, s7, s8, rfl, hl, hp⟩
        simp at hl
        simp
        exact hq ps ⟨by omega, hp⟩
def menuN (n : Int) : Nat → List Int
  | 0 => [21]
  | i + 1 => menuN n i ++ [4, n]
theorem menuN_len (n : Int) : ∀ i, (menuN n i).length = 2 * i + 1
  | 0 => rfl
  | i + 1 => by
    show (menuN n i ++ [4, n]).length = _
    rw [List.length_append, menuN_len n i]
    simp
    omega
theorem menuN_get (n : Int) : ∀ i k, k < i → (menuN n i)[2 * k + 1]? = some 4 ∧ (menuN n i)[2 * k + 2]? = some n
  | i + 1, k, h => by
    have hl := menuN_len n i
    show (menuN n i ++ [4, n])[2 * k + 1]? = some 4 ∧ (menuN n i ++ [4, n])[2 * k + 2]? = some n
    by_cases z : k < i
    · obtain ⟨h1, h2⟩ := menuN_get n i k z
      rw [List.getElem?_append_left (by omega), List.getElem?_append_left (by omega)]
      exact ⟨h1, h2⟩
    · have : k = i := by omega
      subst this
      rw [List.getElem?_append_right (by omega), List.getElem?_append_right (by omega), hl]
      rw [show 2 * k + 1 - (2 * k + 1) = 0 by omega, show 2 * k + 2 - (2 * k + 1) = 1 by omega]
      exact ⟨rfl, rfl⟩
theorem menuN_zero (n : Int) : ∀ i, (menuN n i)[0]? = some 21
  | 0 => rfl
  | i + 1 => by
    show (menuN n i ++ [4, n])[0]? = some 21
    rw [List.getElem?_append_left (by rw [menuN_len]; omega)]
    exact menuN_zero n i
theorem menuN_mem {n : Int} : ∀ i x, x ∈ menuN n i → x = 21 ∨ x = 4 ∨ x = n
  | 0, x, h => .inl (List.mem_singleton.mp h)
  | i + 1, x, h => by
    rcases List.mem_append.mp (show x ∈ menuN n i ++ [4, n] from h) with y | y
    · exact menuN_mem i x y
    · simp at y
      exact .inr y
theorem any_wp {cell base : Int} {n : Nat} {dbl : Bool} (h0 : 0 ≤ cell) (n1 : 1 ≤ n) (n2 : n ≤ 360) (b0 : 0 ≤ base) (b1 : base < 57) {Q : D → Prop} {E : Err → Prop} (hq : ∀ ps, PartsOk n ps → Q (.lst (ps.map tupI))) : wr (m__law_any_parts [.int cell, .int n, .int base, .bl dbl]) Q E := by
  refine wr_def ?_
  simp only [o__law_any_parts, ev0]
  simp
  refine for_ix (fun i ρ => ∃ s5 s6 s7 s8 : Sl, ρ = [.dat (.int cell), .dat (.int n), .dat (.int base), .dat (.bl dbl), .dat (.lst ((menuN n i).map .int)), s5, s6, s7, s8]) ?_ ?_ ?_
  · exact ⟨_, _, _, _, rfl⟩
  · rintro J hJ i d ρ hi ⟨s5, s6, s7, s8, rfl⟩
    obtain ⟨hi2, rfl⟩ := rngL_get hi
    have hl := menuN_len n i
    refine ⟨_, rfl, ?_⟩
    simp
    refine ⟨by omega, hJ _ _ ⟨.dat (.int i), s6, s7, s8, ?_⟩⟩
    simp [menuN]
  · rintro ρ ⟨s5, s6, s7, s8, rfl⟩
    have hl := menuN_len n 20
    have hg := menuN_get n 20
    have hm0 := menuN_zero n 20
    have hmm := menuN_mem (n := (n : Int)) 20
    rw [show (rngL 0 20).length = 20 by simp [rngL]]
    generalize menuN n 20 = mn at hl hg hm0 hmm ⊢
    simp
    refine draws_wp h0 (by decide) (by decide) (fun x hx => ?_) (by omega) fun zs hzl hzb => ?_
    · have : x = 21 ∨ x = 4 ∨ x = (n : Int) := hmm x hx
      have : 1 ≤ x ∧ x ≤ 360 := by omega
      exact ⟨this.1, Bd.mono (n := 10) (by unfold Bd; omega) (by decide)⟩
    · rw [hl] at hzl
      have z0 : zs[0]? = some zs[0] := List.getElem?_eq_getElem (by omega)
      have c0 := hzb 0 zs[0] 21 z0 hm0
      simp
      rw [z0]
      simp
      refine ⟨by omega, for_ix (fun i ρ => ∃ (ps : List (List Int)) (s5 s8 : Sl), ρ = [.dat (.int cell), .dat (.int n), .dat (.int base), .dat (.bl dbl), .dat (.lst (mn.map .int)), s5, .dat (.lst (zs.map .int)), .own (ps.map tupI), s8] ∧ ps.length ≤ i ∧ ∀ p ∈ ps, ∃ i s : Int, p = [i, s] ∧ 0 ≤ i ∧ i < 100 ∧ 0 ≤ s ∧ s < n) ?_ ?_ ?_⟩
      · exact ⟨[], _, _, rfl, Nat.le_refl _, fun p hp => by cases hp⟩
      · rintro J hJ i d ρ hi ⟨ps, s5, s8, rfl, hl2, hp⟩
        obtain ⟨hi2, rfl⟩ := rngL_get hi
        have hi3 : i < 20 := by omega
        obtain ⟨q1, q2⟩ := hg i hi3
        have r1 : zs[2 * i + 1]? = some zs[2 * i + 1] := List.getElem?_eq_getElem (by omega)
        have r2 : zs[2 * i + 2]? = some zs[2 * i + 2] := List.getElem?_eq_getElem (by omega)
        have c1 := hzb _ _ 4 r1 q1
        have c2 := hzb _ _ n r2 q2
        have at1 : atI (zs.map D.int) (2 * (i : Int) + 1) = some (.int zs[2 * i + 1]) := by
          rw [show 2 * (i : Int) + 1 = ((2 * i + 1 : Nat) : Int) by omega, atI_nn, List.getElem?_map, r1]; rfl
        have at2 : atI (zs.map D.int) (2 * (i : Int) + 2) = some (.int zs[2 * i + 2]) := by
          rw [show 2 * (i : Int) + 2 = ((2 * i + 2 : Nat) : Int) by omega, atI_nn, List.getElem?_map, r2]; rfl
        generalize zs[2 * i + 1] = y at c1 at1
        generalize zs[2 * i + 2] = z at c2 at2
        refine ⟨_, rfl, ?_⟩
        simp [at1, at2]
        refine ⟨cmul_small (by omega) (by omega) (by omega) (by omega), ?_⟩
        have et : D.tup [D.int (base + y), D.int z] = tupI [base + y, z] := rfl
        rw [et]
        have put : J (i + 1) [.dat (.int cell), .dat (.int n), .dat (.int base), .dat (.bl dbl), .dat (.lst (mn.map .int)), .dat (.int i), .dat (.lst (zs.map .int)), .own (ps.map tupI ++ [tupI [base + y, z]]), .dat (tupI [base + y, z])] :=
          hJ _ _ ⟨ps ++ [[base + y, z]], .dat (.int i), .dat (tupI [base + y, z]), by rw [List.map_append]; rfl, by rw [List.length_append, List.length_singleton]; omega, fun p h => by
            rcases List.mem_append.mp h with h | h
            · exact hp p h
            · rw [List.mem_singleton.mp h]
              exact ⟨_, _, rfl, by omega, by omega, c2.1, c2.2⟩⟩
        split
        · exact ⟨by omega, put⟩
        · rw [wo_ninP]
          simp
          split
          · exact hJ _ _ ⟨ps, .dat (.int i), .dat (tupI [base + y, z]), rfl, by omega, hp⟩
          · exact ⟨by omega, put⟩
      · rintro ρ ⟨ps, s5, s8, rfl, hl2, hp⟩
        simp at hl2
        simp
        exact hq ps ⟨by omega, hp⟩
theorem firstRep_none : ∀ {l a : List Int}, firstRep a l = none ↔ l.Nodup ∧ ∀ x ∈ l, x ∉ a
  | [], a => by simp [firstRep]
  | k :: l, a => by
    unfold firstRep
    by_cases z : k ∈ a
    · rw [if_pos z]
      constructor
      · intro h; cases h
      · intro h; exact absurd z (h.2 k List.mem_cons_self)
    · rw [if_neg z, firstRep_none (l := l) (a := a ++ [k]), List.nodup_cons]
      constructor
      · rintro ⟨h1, h2⟩
        refine ⟨⟨fun hk => h2 k hk (by simp), h1⟩, fun x hx => ?_⟩
        rcases List.mem_cons.mp hx with rfl | hx
        · exact z
        · exact fun hxa => h2 x hx (List.mem_append_left _ hxa)
      · rintro ⟨⟨h1, h2⟩, h3⟩
        refine ⟨h2, fun x hx hxa => ?_⟩
        rcases List.mem_append.mp hxa with y | y
        · exact h3 x (List.mem_cons_of_mem _ hx) y
        · rw [List.mem_singleton.mp y] at hx
          exact h1 hx
theorem firstRep_nodup {l : List Int} : firstRep [] l = none ↔ l.Nodup := by
  rw [firstRep_none]
  exact ⟨fun h => h.1, fun h => ⟨h, fun x _ => by simp⟩⟩
theorem first_rep_eq {l : List Int} {s : Int} (hl : l.length ≤ 4000) (h : firstRep [] l = some s) : m_first_repeated [.lst (l.map .int)] = .ok (.int s) := by
  refine wr_eq (wr_def ?_)
  simp only [o_first_repeated, ev0]
  simp
  have hl0 : 0 < l.length := by
    cases l with
    | nil => cases h
    | cons _ _ => simp
  refine ⟨by omega, for_ix (fun i ρ => ∃ s1, ρ = [.dat (.lst (l.map .int)), s1] ∧ firstRep (l.take (1 + i)) (l.drop (1 + i)) = some s) ?_ ?_ ?_⟩
  · refine ⟨_, rfl, ?_⟩
    cases l with
    | nil => cases h
    | cons k l =>
      unfold firstRep at h
      rw [if_neg (by simp)] at h
      exact h
  · rintro J hJ i d ρ hi ⟨s1, rfl, hf⟩
    obtain ⟨hi2, rfl⟩ := rngL_get hi
    have hi3 : 1 + i < l.length := by omega
    refine ⟨_, rfl, ?_⟩
    have e1 : (1 : Int) + (i : Int) = ((1 + i : Nat) : Int) := by omega
    rw [List.drop_eq_getElem_cons hi3] at hf
    unfold firstRep at hf
    simp
    rw [e1, atI_nn, List.getElem?_map, List.getElem?_eq_getElem hi3]
    simp
    have ec : cutL (l.map D.int) none (some ((1 + i : Nat) : Int)) = (l.take (1 + i)).map D.int := by
      rw [List.map_take]
      exact cut_to _ _
    have ec' : cutL (l.map D.int) none (some (1 + (i : Int))) = (l.take (1 + i)).map D.int := by rw [e1]; exact ec
    rw [ec', wo_inI]
    simp
    split
    · rename_i hm
      rw [if_pos hm] at hf
      cases hf
      rfl
    · rename_i hm
      rw [if_neg hm] at hf
      refine hJ _ _ ⟨_, rfl, ?_⟩
      rw [show 1 + (i + 1) = 1 + i + 1 by omega, List.take_add_one, List.getElem?_eq_getElem hi3]
      exact hf
  · rintro ρ ⟨s1, rfl, hf⟩
    exfalso
    rw [List.drop_eq_nil_of_le (by simp [rngL]; omega)] at hf
    cases hf
theorem lot_dup {n : Int} {ms : List Int} {s : Int} (h1 : 1 ≤ n) (h2 : n ≤ 360) (hl : ms.length ≤ 4000) (hn : firstRep [] (resOf n ms) = some s) : newD .Lot mi_Lot_2 [.int n, .lst (ms.map .int)] = .exc (er1 .RepeatedHour .hour (.int s)) := by
  refine wr_err ?_
  rw [wo_new]
  refine wr_ini ?_
  simp only [o_Lot___init__, ev0]
  simp [mInsC, t_MOST_Lot, hours_ok h1 h2]
  refine wm_lcM ms D.int (fun m => .int (m.fmod n)) (by simp) (by simp; omega) (fun m hm => ⟨_, rfl, ?_⟩) ?_
  · simp [wipeE]
    omega
  · have e : ms.map (fun m => D.int (m.fmod n)) = (resOf n ms).map D.int := by unfold resOf; rw [List.map_map]; rfl
    rw [e]
    have hrl : (resOf n ms).length = ms.length := by unfold resOf; simp
    generalize resOf n ms = rs at hn hrl ⊢
    have hd : ¬ rs.Nodup := fun z => by rw [firstRep_nodup.mpr z] at hn; cases hn
    have hlt := dcI_dup hd
    simp
    rw [wo_dlen]
    simp [first_rep_eq (by omega) hn]
    omega
/-- the starts of the parts of an index -/
def stOf (ix : Int) (ps : List (List Int)) : List Int := (ps.filter fun p => decide (p.getD 0 0 = ix)).map fun p => p.getD 1 0
theorem stOf_app (ix : Int) {ps qs : List (List Int)} : stOf ix (ps ++ qs) = stOf ix ps ++ stOf ix qs := by
  unfold stOf
  rw [List.filter_append, List.map_append]
theorem stOf_cons (ix : Int) {i s : Int} {qs : List (List Int)} : stOf ix ([i, s] :: qs) = if i = ix then s :: stOf ix qs else stOf ix qs := by
  unfold stOf
  split
  · rename_i h
    rw [List.filter_cons_of_pos (by simpa using h)]
    rfl
  · rename_i h
    rw [List.filter_cons_of_neg (by simpa using h)]
theorem stOf_nil (ix : Int) : stOf ix [] = [] := rfl
theorem firstRep_cons {a l : List Int} {k : Int} : firstRep a (k :: l) = if k ∈ a then some k else firstRep (a ++ [k]) l := rfl
theorem stOf_len (ix : Int) {ps : List (List Int)} : (stOf ix ps).length ≤ ps.length := by
  unfold stOf
  rw [List.length_map]
  exact List.length_filter_le _ _
theorem stOf_mem {n ix : Int} {ps : List (List Int)} (h : ∀ p ∈ ps, ∃ i s : Int, p = [i, s] ∧ 0 ≤ i ∧ i < 100 ∧ 0 ≤ s ∧ s < n) : ∀ x ∈ stOf ix ps, 0 ≤ x ∧ x < n := fun x hx => by
  obtain ⟨p, hp, rfl⟩ := List.mem_map.mp hx
  obtain ⟨i, s, rfl, _, _, h0, h1⟩ := h p (List.mem_filter.mp hp).1
  exact ⟨h0, h1⟩
/-- what is due -/
def lotL (n : Nat) (ss : List Int) : List Int := ((List.range n).map fun i : Nat => (i : Int)).filter fun x => decide (x ∈ ss)
theorem lotL_rise (n : Nat) (ss : List Int) : Rise n (lotL n ss) := (rise_range n).filter _
theorem lotL_sort {n : Nat} {ss : List Int} (hn : ss.Nodup) (hr : ∀ x ∈ ss, 0 ≤ x ∧ x < (n : Int)) : sortI ss = lotL n ss := by
  have hl := lotL_rise n ss
  refine asc_one ((sortI_perm ss).trans ?_) (sortI_asc ss) (hl.asc.imp fun z => Int.le_of_lt z)
  refine (List.perm_ext_iff_of_nodup hn hl.nodup).mpr fun x => ?_
  unfold lotL
  rw [List.mem_filter, List.mem_map]
  constructor
  · intro hx
    obtain ⟨h1, h2⟩ := hr x hx
    exact ⟨⟨x.toNat, List.mem_range.mpr (by omega), by omega⟩, decide_eq_true hx⟩
  · intro h
    exact of_decide_eq_true h.2
theorem res_id {n : Int} {ss : List Int} (hr : ∀ x ∈ ss, 0 ≤ x ∧ x < n) : resOf n ss = ss := by
  unfold resOf
  conv => rhs; rw [← List.map_id ss]
  refine List.map_congr_left fun x hx => ?_
  obtain ⟨h1, h2⟩ := hr x hx
  rw [Int.fmod_eq_emod_of_nonneg _ (by omega)]
  exact Int.emod_eq_of_lt h1 h2
theorem starts_wp {ps : List (List Int)} {n ix : Int} (hl : ps.length ≤ 100) (h : ∀ p ∈ ps, ∃ i s : Int, p = [i, s] ∧ 0 ≤ i ∧ i < 100 ∧ 0 ≤ s ∧ s < n) {Q : D → Prop} {E : Err → Prop} (hr : wr (newD .Lot mi_Lot_2 [.int n, .lst ((stOf ix ps).map .int)]) Q E) : wr (m_starts_of [.lst (ps.map tupI), .int n, .int ix]) Q E ∧ wr (m_starts_of_B100 [.lst (ps.map tupI), .int n, .int ix]) Q E := by
  have e : (ps.filter fun p => decide (p.getD 0 0 = ix)).map (fun p => D.int (p.getD 1 0)) = (stOf ix ps).map D.int := by
    unfold stOf
    rw [List.map_map]
    rfl
  constructor
  · refine wr_def ?_
    simp only [o_starts_of, ev0]
    simp
    refine wm_lcP ps tupI (fun p => decide (p.getD 0 0 = ix)) (fun p => .int (p.getD 1 0)) (by simp) (by simp; omega) (fun p hp => ?_) ?_
    · obtain ⟨i, s, rfl, _⟩ := h p hp
      refine ⟨_, rfl, ?_, fun _ => ?_⟩ <;> simp [wipeE]
    · rw [e]
      exact hr
  · refine wr_defB ?_
    simp only [o_starts_of_B100, evB]
    simp [slB]
    refine wm_lcP ps tupI (fun p => decide (p.getD 0 0 = ix)) (fun p => .int (p.getD 1 0)) (by simp) (by simp; omega) (fun p hp => ?_) ?_
    · obtain ⟨i, s, rfl, _⟩ := h p hp
      refine ⟨_, rfl, ?_, fun _ => ?_⟩ <;> simp [wipeE]
    · rw [e]
      exact hr
theorem starts_good {ps : List (List Int)} {n : Nat} {ix : Int} (n1 : 1 ≤ n) (n2 : n ≤ 360) (hl : ps.length ≤ 100) (h : ∀ p ∈ ps, ∃ i s : Int, p = [i, s] ∧ 0 ≤ i ∧ i < 100 ∧ 0 ≤ s ∧ s < n) (hf : firstRep [] (stOf ix ps) = none) : m_starts_of [.lst (ps.map tupI), .int n, .int ix] = .ok (Lt n (lotL n (stOf ix ps))) ∧ m_starts_of_B100 [.lst (ps.map tupI), .int n, .int ix] = .ok (Lt n (lotL n (stOf ix ps))) := by
  have hm := stOf_mem (ix := ix) h
  have hn := firstRep_nodup.mp hf
  have hll := stOf_len ix (ps := ps)
  have hr := res_id hm
  have z : ∀ {Q : D → Prop} {E : Err → Prop}, Q (Lt n (lotL n (stOf ix ps))) → wr (newD .Lot mi_Lot_2 [.int n, .lst ((stOf ix ps).map .int)]) Q E := fun hq => by
    refine lot_ok (by omega) (by omega) (by omega) (by rw [hr]; exact hn) ?_
    rw [hr, lotL_sort hn hm]
    exact hq
  exact ⟨wr_eq (starts_wp hl h (z (Q := fun x => x = _) rfl)).1, wr_eq (starts_wp hl h (z (Q := fun x => x = _) rfl)).2⟩
theorem starts_bad {ps : List (List Int)} {n : Nat} {ix s : Int} (n1 : 1 ≤ n) (n2 : n ≤ 360) (hl : ps.length ≤ 100) (h : ∀ p ∈ ps, ∃ i s : Int, p = [i, s] ∧ 0 ≤ i ∧ i < 100 ∧ 0 ≤ s ∧ s < n) (hf : firstRep [] (stOf ix ps) = some s) : m_starts_of [.lst (ps.map tupI), .int n, .int ix] = .exc (er1 .RepeatedHour .hour (.int s)) ∧ m_starts_of_B100 [.lst (ps.map tupI), .int n, .int ix] = .exc (er1 .RepeatedHour .hour (.int s)) := by
  have hm := stOf_mem (ix := ix) h
  have hll := stOf_len ix (ps := ps)
  have hr := res_id hm
  have z := lot_dup (n := n) (ms := stOf ix ps) (s := s) (by omega) (by omega) (by omega) (by rw [hr]; exact hf)
  exact ⟨wr_err (starts_wp hl h (by rw [z]; simp)).1, wr_err (starts_wp hl h (by rw [z]; simp)).2⟩
theorem starts_hours {ps : List (List Int)} {m n ix : Int} (hl : ps.length ≤ 100) (h : ∀ p ∈ ps, ∃ i s : Int, p = [i, s] ∧ 0 ≤ i ∧ i < 100 ∧ 0 ≤ s ∧ s < m) (hn : ¬ (1 ≤ n ∧ n ≤ 360)) : m_starts_of [.lst (ps.map tupI), .int n, .int ix] = .exc (er2 .BadNumber .name .value (.str "hours") (.int n)) := by
  refine wr_err (wr_def ?_)
  simp only [o_starts_of, ev0]
  simp
  refine wm_lcP ps tupI (fun p => decide (p.getD 0 0 = ix)) (fun p => .int (p.getD 1 0)) (by simp) (by simp; omega) (fun p hp => ?_) ?_
  · obtain ⟨i, s, rfl, _⟩ := h p hp
    refine ⟨_, rfl, ?_, fun _ => ?_⟩ <;> simp [wipeE]
  · rw [wo_new]
    refine wr_ini ?_
    simp only [o_Lot___init__, ev0]
    simp [mInsC, t_MOST_Lot, hours_bad hn]
theorem due_eq {ps : List (List Int)} {n : Nat} {ix : Int} (n1 : 1 ≤ n) (n2 : n ≤ 360) (hl : ps.length ≤ 100) (h : ∀ p ∈ ps, ∃ i s : Int, p = [i, s] ∧ 0 ≤ i ∧ i < 100 ∧ 0 ≤ s ∧ s < n) : m__law_due [.lst (ps.map tupI), .int n, .int ix] = .ok (match firstRep [] (stOf ix ps) with | some s => .tup [.str "RepeatedHour", .int s] | none => .tup [.str "Lot", .lst ((lotL n (stOf ix ps)).map .int)]) := by
  refine wr_eq (wr_def ?_)
  simp only [o__law_due, ev0]
  simp
  have hh := fun (F : Nat → D) => @wm_lcM Nat (List.range n) (fun i => D.int (0 + (i : Int))) F
  refine hh (fun _ => .int 0) (by simp [rngL]; omega) (by simp; omega) (fun i hi => ⟨_, rfl, ?_⟩) ?_
  · simp [wipeE]
  · refine for_rem (fun r ρ => ∃ (pre rest : List (List Int)) (s5 s6 : Sl), ρ = [.dat (.lst (ps.map tupI)), .dat (.int n), .dat (.int ix), .own ((List.range n).map fun i : Nat => .int (if (i : Int) ∈ stOf ix pre then 1 else 0)), .no, s5, s6] ∧ r = rest.map tupI ∧ pre ++ rest = ps ∧ firstRep [] (stOf ix ps) = firstRep (stOf ix pre) (stOf ix rest)) ?_ ?_ ?_
    · refine ⟨[], ps, .no, .no, ?_, rfl, rfl, rfl⟩
      simp [stOf_nil]
    · rintro J hJ d r ρ ⟨pre, rest, s5, s6, rfl, hr, e, hf⟩
      cases rest with
      | nil => cases hr
      | cons p rest =>
        cases hr
        obtain ⟨i, s, rfl, i0, i1, t0, t1⟩ := h p (by rw [← e]; simp)
        refine ⟨_, rfl, ?_⟩
        rw [stOf_cons] at hf
        have at1 : atI ((List.range n).map fun i : Nat => D.int (if (i : Int) ∈ stOf ix pre then 1 else 0)) s = some (.int (if s ∈ stOf ix pre then 1 else 0)) := by
          rw [atI_of t0, List.getElem?_map, List.getElem?_range (by omega)]
          simp only [Option.map_some]
          rw [show ((s.toNat : Nat) : Int) = s by omega]
        simp
        by_cases z : i = ix
        · rw [if_pos z] at hf ⊢
          simp [at1]
          rw [firstRep_cons] at hf
          by_cases w : s ∈ stOf ix pre
          · rw [if_pos w] at hf
            rw [if_pos w, hf]
          · rw [if_neg w] at hf
            rw [if_neg w]
            rw [setIx_int t0 (by simp; omega)]
            refine hJ _ _ ⟨pre ++ [[i, s]], rest, .dat (.int i), .dat (.int s), ?_, rfl, by rw [← e]; simp, ?_⟩
            · have ee : ((List.range n).map fun q : Nat => D.int (if (q : Int) ∈ stOf ix pre then 1 else 0)).set s.toNat (.int 1) = (List.range n).map fun q : Nat => D.int (if (q : Int) ∈ stOf ix (pre ++ [[i, s]]) then 1 else 0) := by
                refine List.ext_getElem (by simp) fun k h1 h2 => ?_
                rw [List.getElem_set]
                simp only [List.getElem_map, List.getElem_range]
                rw [stOf_app, stOf_cons, if_pos z, stOf_nil]
                by_cases y : s.toNat = k
                · rw [if_pos y, if_pos (by rw [← y, show ((s.toNat : Nat) : Int) = s by omega]; simp)]
                · rw [if_neg y]
                  have : ((k : Int) ∈ stOf ix pre ++ [s]) ↔ (k : Int) ∈ stOf ix pre := by
                    rw [List.mem_append, List.mem_singleton]
                    exact ⟨fun w => w.resolve_right (by omega), .inl⟩
                  simp only [this]
              rw [ee]
            · rw [stOf_app, stOf_cons, if_pos z, stOf_nil]
              exact hf
        · rw [if_neg z] at hf ⊢
          refine hJ _ _ ⟨pre ++ [[i, s]], rest, .dat (.int i), .dat (.int s), ?_, rfl, by rw [← e]; simp, ?_⟩
          · rw [stOf_app, stOf_cons, if_neg z, stOf_nil, List.append_nil]
          · rw [stOf_app, stOf_cons, if_neg z, stOf_nil, List.append_nil]
            exact hf
    · rintro ρ ⟨pre, rest, s5, s6, rfl, hr, e, hf⟩
      have hr0 : rest = [] := List.map_eq_nil_iff.mp hr.symm
      subst hr0
      rw [List.append_nil] at e
      subst e
      rw [hf]
      simp
      have h3 := fun (p : Nat → Bool) (F : Nat → D) => @wm_lcP Nat (List.range n) (fun i => D.int (0 + (i : Int))) p F
      refine h3 (fun q => decide ((q : Int) ∈ stOf ix pre)) (fun q => .int q) (by simp [rngL]; omega) (by simp; omega) (fun q hq => ⟨_, rfl, ?_, fun _ => ?_⟩) ?_
      · have hq' := List.mem_range.mp hq
        simp [wipeE]
        rw [atI_nn, List.getElem?_map, List.getElem?_range hq']
        by_cases w : (q : Int) ∈ stOf ix pre <;> simp [w]
      · simp [wipeE]
      · unfold lotL
        rw [List.filter_map, List.map_map]
        rfl
theorem same_parts {n : Int} {ps : List (List Int)} (hl : ps.length ≤ 100) (h : ∀ p ∈ ps, ∃ i s : Int, p = [i, s] ∧ 0 ≤ i ∧ i < 100 ∧ 0 ≤ s ∧ s < n) : m__law_same [.lst (ps.map tupI), .lst (ps.map tupI)] = .ok (.bl true) := by
  refine same_self 7 _ (.lst (fun x hx => ?_) (by simp; omega))
  obtain ⟨p, hp, rfl⟩ := List.mem_map.mp hx
  obtain ⟨i, s, rfl, _⟩ := h p hp
  refine .tup (fun x hx => ?_) (by simp)
  have : x = .int i ∨ x = .int s := by simpa using hx
  rcases this with rfl | rfl <;> exact .int _ _
section
variable {ps : List (List Int)} {n : Nat} {ix : Int}
theorem refused_eq {s : Int} (n1 : 1 ≤ n) (n2 : n ≤ 360) (hl : ps.length ≤ 100) (h : ∀ p ∈ ps, ∃ i s : Int, p = [i, s] ∧ 0 ≤ i ∧ i < 100 ∧ 0 ≤ s ∧ s < n) (hf : firstRep [] (stOf ix ps) = some s) : m__law_refused_by_base [.lst (ps.map tupI), .int n, .int ix] = .ok (.bl true) := by
  refine wr_eq (wr_def ?_)
  simp only [o__law_refused_by_base, ev0]
  simp [(starts_bad n1 n2 hl h hf).1]
  refine hd_yes rfl ?_
  simp [Po.leave, enterX, dropX, leaveX, tk_ValueError, tk_RepeatedHour, tk_BadNumber]
theorem right_eq (n1 : 1 ≤ n) (n2 : n ≤ 360) (hl : ps.length ≤ 100) (h : ∀ p ∈ ps, ∃ i s : Int, p = [i, s] ∧ 0 ≤ i ∧ i < 100 ∧ 0 ≤ s ∧ s < n) : m__law_right [.lst (ps.map tupI), .int n, .int ix] = .ok (.bl true) := by
  refine wr_eq (wr_def ?_)
  simp only [o__law_right, ev0]
  have hd := due_eq (ix := ix) n1 n2 hl h
  have sp := same_parts hl h
  cases hf : firstRep [] (stOf ix ps) with
  | some s =>
    rw [hf] at hd
    have hb := (starts_bad n1 n2 hl h hf).2
    have hr := refused_eq n1 n2 hl h hf
    have hs : m__law_same [.tup [.str "RepeatedHour", .int s], .tup [.str "RepeatedHour", .int s]] = .ok (.bl true) := by
      refine same_self 7 _ (.tup (fun x hx => ?_) (by simp))
      have : x = .str "RepeatedHour" ∨ x = .int s := by simpa using hx
      rcases this with rfl | rfl
      · exact .str _ _
      · exact .int _ _
    simp [hd, hb]
    refine hd_yes rfl ?_
    simp [Po.leave, enterX, dropX, leaveX, sp, hs, hr]
  | none =>
    rw [hf] at hd
    have hb := (starts_good n1 n2 hl h hf).2
    have hl2 := (lotL_rise n (stOf ix ps)).len (by omega)
    have si := same_ints (l := lotL n (stOf ix ps)) (by omega)
    have sn : m__law_same [.int n, .int n] = .ok (.bl true) := same_self 7 _ (.int _ _)
    simp [hd, hb, sp]
    rw [if_neg (by decide)]
    have e1 : isOwn ti_Lot (Lt n (lotL n (stOf ix ps))) = some true := rfl
    have e2 : propN t_membersX1_Lot (Lt n (lotL n (stOf ix ps))) = .ok (.lst ((lotL n (stOf ix ps)).map .int)) := by
      show noX (m_Lot_members [Lt n (lotL n (stOf ix ps))]) = _
      rw [lot_members]
      rfl
    rw [e1, e2]
    simp [sn, si]
    refine ⟨by omega, wo_membersP ?_⟩
    simp [si]
theorem bad_hours_eq {m hours : Int} (hl : ps.length ≤ 100) (h : ∀ p ∈ ps, ∃ i s : Int, p = [i, s] ∧ 0 ≤ i ∧ i < 100 ∧ 0 ≤ s ∧ s < m) (hn : ¬ (1 ≤ hours ∧ hours ≤ 360)) : m__law_bad_hours [.lst (ps.map tupI), .int hours, .int ix] = .ok (.bl true) := by
  refine wr_eq (wr_def ?_)
  simp only [o__law_bad_hours, ev0]
  have hs : m__law_same [.tup [.str "BadNumber", .str "hours", .int hours], .tup [.str "BadNumber", .str "hours", .int hours]] = .ok (.bl true) := by
    refine same_self 7 _ (.tup (fun x hx => ?_) (by simp))
    have : x = .str "BadNumber" ∨ x = .str "hours" ∨ x = .int hours := by simpa using hx
    rcases this with rfl | rfl | rfl
    · exact .str _ _
    · exact .str _ _
    · exact .int _ _
  simp [starts_hours (ix := ix) hl h hn]
  refine hd_yes rfl ?_
  simp [Po.leave, enterX, dropX, leaveX, hs]
end
section
variable {ns zs : List Int} {n base : Nat} {ps : List (List Int)} {s5 s6 s7 s8 : Sl}
theorem b_10 {d1 d2 : D} {qs : List (List Int)} {k7 : Int} (hz : zs[7]? = some k7) (hp : PartsOk n ps) :
    wp o__law_part_b_10 PT4 [d1 |> Sl.dat, .dat (.lst (zs.map .int)), d2 |> Sl.dat, .dat (.int base), .dat (.lst (ps.map tupI)), s5, s6, s7, s8] := by
  simp only [o__law_part_b_10]
  simp
  rw [hz]
  simp
  have h0 : m__law_bad_hours [.lst [], .int 0, .int base] = .ok (.bl true) := bad_hours_eq (ps := []) (m := n) (by simp) (fun p hp => by cases hp) (by decide)
  have h1 : m__law_bad_hours [.lst [], .int (-1), .int base] = .ok (.bl true) := bad_hours_eq (ps := []) (m := n) (by simp) (fun p hp => by cases hp) (by decide)
  have h2 : m__law_bad_hours [.lst (ps.map tupI), .int 361, .int base] = .ok (.bl true) := bad_hours_eq hp.len hp.ok (by decide)
  split
  · refine for_rem (fun r ρ => ∃ s8, ρ = [.dat d1, .dat (.lst (zs.map .int)), .dat d2, .dat (.int base), .dat (.lst (ps.map tupI)), s5, s6, s7, s8] ∧ ∀ x ∈ r, x = .int 0 ∨ x = .int (-1)) ?_ ?_ ?_
    · exact ⟨_, rfl, fun x hx => by simpa using hx⟩
    · rintro J hJ d r ρ ⟨s8, rfl, hx⟩
      refine ⟨_, rfl, ?_⟩
      have hr : J r [.dat d1, .dat (.lst (zs.map .int)), .dat d2, .dat (.int base), .dat (.lst (ps.map tupI)), s5, s6, s7, .dat d] := hJ _ _ ⟨_, rfl, fun x h => hx x (List.mem_cons_of_mem _ h)⟩
      rcases hx d List.mem_cons_self with rfl | rfl
      · simp [h0]
        exact hr
      · simp [h1]
        exact hr
    · rintro ρ ⟨s8, rfl, _⟩
      simp [h2]
  · simp only [o__law_part_b_11]
    simp
theorem b_9 {d1 : D} {qs : List (List Int)} {k7 : Int} (hz : zs[7]? = some k7) (n1 : 1 ≤ n) (n2 : n ≤ 360) (hb : base < 57) (hp : PartsOk n ps) (hq : PartsOk n qs) :
    wp o__law_part_b_9 PT4 [d1 |> Sl.dat, .dat (.lst (zs.map .int)), .dat (.int n), .dat (.int base), .dat (.lst (ps.map tupI)), .own (qs.map tupI), s6, s7, s8] := by
  simp only [o__law_part_b_9]
  simp
  refine ⟨by omega, for_ix (fun i ρ => ∃ s7, ρ = [.dat d1, .dat (.lst (zs.map .int)), .dat (.int n), .dat (.int base), .dat (.lst (ps.map tupI)), .own (qs.map tupI), s6, s7, s8]) ⟨_, rfl⟩ ?_ ?_⟩
  · rintro J hJ i d ρ hi ⟨s7, rfl⟩
    obtain ⟨hi2, rfl⟩ := rngL_get hi
    refine ⟨_, rfl, ?_⟩
    have r1 := right_eq (ix := (base : Int) + (i : Int)) n1 n2 hp.len hp.ok
    have r2 := right_eq (ix := (base : Int) + (i : Int)) n1 n2 hq.len hq.ok
    simp [r1, r2]
    exact hJ _ _ ⟨_, rfl⟩
  · rintro ρ ⟨s7, rfl⟩
    exact b_10 (qs := qs) hz hp
theorem b_7 {d1 : D} {k7 : Int} (hz : zs[7]? = some k7) (n1 : 1 ≤ n) (n2 : n ≤ 360) (hb : base < 57) (hp : PartsOk n ps) :
    wp o__law_part_b_7 PT4 [d1 |> Sl.dat, .dat (.lst (zs.map .int)), .dat (.int n), .dat (.int base), .dat (.lst (ps.map tupI)), s5, s6, s7, s8] := by
  simp only [o__law_part_b_7]
  simp
  simp only [o__law_part_b_8]
  simp
  have hl := hp.len
  refine for_rem (fun r ρ => ∃ (pre rest qs : List (List Int)) (s6 : Sl), ρ = [.dat d1, .dat (.lst (zs.map .int)), .dat (.int n), .dat (.int base), .dat (.lst (ps.map tupI)), .own (qs.map tupI), s6, s7, s8] ∧ r = rest.map tupI ∧ pre ++ rest = ps ∧ qs.length ≤ pre.length ∧ ∀ p ∈ qs, p ∈ ps) ?_ ?_ ?_
  · exact ⟨[], ps, [], _, rfl, rfl, rfl, Nat.le_refl _, fun p hp => by cases hp⟩
  · rintro J hJ d r ρ ⟨pre, rest, qs, s6, rfl, hr, e, hlq, hm⟩
    cases rest with
    | nil => cases hr
    | cons p rest =>
      cases hr
      refine ⟨_, rfl, ?_⟩
      have hlp : pre.length < ps.length := by rw [← e]; simp
      simp
      rw [wo_ninP]
      simp
      split
      · exact hJ _ _ ⟨pre ++ [p], rest, qs, _, rfl, rfl, by rw [← e]; simp, by simp; omega, hm⟩
      · refine ⟨by omega, hJ _ _ ⟨pre ++ [p], rest, qs ++ [p], _, by rw [List.map_append]; rfl, rfl, by rw [← e]; simp, by simp; omega, fun x hx => ?_⟩⟩
        rcases List.mem_append.mp hx with y | y
        · exact hm x y
        · rw [List.mem_singleton.mp y, ← e]
          simp
  · rintro ρ ⟨pre, rest, qs, s6, rfl, hr, e, hlq, hm⟩
    have hr0 : rest = [] := List.map_eq_nil_iff.mp hr.symm
    subst hr0
    rw [List.append_nil] at e
    subst e
    exact b_9 hz n1 n2 hb hp ⟨by omega, fun p h => hp.ok p (hm p h)⟩
theorem b_6 {k3 k4 k7 : Int} (hz3 : zs[3]? = some k3) (hz4 : zs[4]? = some k4) (hz : zs[7]? = some k7) (n1 : 1 ≤ n) (n2 : n ≤ 360) (hb : base < 57) {s4 : Sl} :
    wp o__law_part_b_6 PT4 [.dat (.lst (ns.map D.int)), .dat (.lst (zs.map .int)), .dat (.int n), .dat (.int base), s4, s5, s6, s7, s8] := by
  simp only [o__law_part_b_6]
  simp
  rw [hz3, hz4]
  simp
  split
  · refine cell_wp ns (by decide) fun c hc => ?_
    refine round_wp hc n1 n2 (by omega) (by omega) fun ps hp => ?_
    exact b_7 hz n1 n2 hb hp
  · refine cell_wp ns (by decide) fun c hc => ?_
    refine any_wp hc n1 n2 (by omega) (by omega) fun ps hp => ?_
    exact b_7 hz n1 n2 hb hp
end
theorem part_b_eq (ns : List Int) : m__law_part_b [.lst (ns.map D.int)] = .ok (.bl true) := by
  refine wr_eq (wr_def ?_)
  simp only [o__law_part_b, ev0]
  simp
  refine cell_wp ns (by decide) fun cell hc => ?_
  rw [show [D.int 24, D.int 8, D.int 360, D.int 3, D.int 2, D.int 4, D.int 57, D.int 8] = ([24, 8, 360, 3, 2, 4, 57, 8] : List Int).map D.int from rfl]
  refine draws_wp hc (by decide) (by decide) (fun x hx => ?_) (by simp) fun zs hzl hzb => ?_
  · simp at hx
    have : 1 ≤ x ∧ x ≤ 360 := by omega
    exact ⟨this.1, Bd.mono (n := 10) (by unfold Bd; omega) (by decide)⟩
  · have hzl : zs.length = 8 := by rw [hzl]; simp
    match zs, hzl, hzb with
    | [a0, a1, a2, a3, a4, a5, a6, a7], _, hzb =>
      have c0 := hzb 0 a0 24 rfl rfl
      have c2 := hzb 2 a2 360 rfl rfl
      have c6 := hzb 6 a6 57 rfl rfl
      have last : ∀ (n base : Int), 1 ≤ n → n ≤ 360 → 0 ≤ base → base < 57 → wp o__law_part_b_6 PT4 [.dat (.lst (ns.map D.int)), .dat (.lst (([a0, a1, a2, a3, a4, a5, a6, a7] : List Int).map .int)), .dat (.int n), .dat (.int base), .no, .no, .no, .no, .no] := fun n base n1 n2 b0 b1 => by
        obtain ⟨n', rfl⟩ : ∃ n' : Nat, n = n' := ⟨n.toNat, by omega⟩
        obtain ⟨b', rfl⟩ : ∃ b' : Nat, base = b' := ⟨base.toNat, by omega⟩
        exact b_6 rfl rfl rfl (by omega) (by omega) (by omega)
      have mid : ∀ (n : Int), 1 ≤ n → n ≤ 360 → wp o__law_part_b_4 PT4 [.dat (.lst (ns.map D.int)), .dat (.lst (([a0, a1, a2, a3, a4, a5, a6, a7] : List Int).map .int)), .dat (.int n), .no, .no, .no, .no, .no, .no] := fun n n1 n2 => by
        simp only [o__law_part_b_4]
        simp
        simp only [o__law_part_b_5]
        simp
        split
        · exact last n a6 n1 n2 (by omega) (by omega)
        · exact last n 0 n1 n2 (by omega) (by omega)
      simp only [o__law_part_b_1]
      simp
      simp only [o__law_part_b_2]
      simp
      have m3 : ∀ (n : Int), 1 ≤ n → n ≤ 360 → wp o__law_part_b_3 PT4 [.dat (.lst (ns.map D.int)), .dat (.lst (([a0, a1, a2, a3, a4, a5, a6, a7] : List Int).map .int)), .dat (.int n), .no, .no, .no, .no, .no, .no] := fun n n1 n2 => by
        simp only [o__law_part_b_3]
        simp
        split
        · exact mid 360 (by decide) (by decide)
        · exact mid n n1 n2
      split
      · exact m3 _ (by omega) (by omega)
      · exact m3 _ (by omega) (by omega)
theorem law_plain (ns : List Int) (hl : ns.length ≤ 63) : m_law [.lst (ns.map D.int)] = .ok (.bl true) := by
  refine wr_eq (wr_def ?_)
  simp only [o_law, ev0]
  simp [part_a_eq]
  simp only [o_law_1]
  simp [part_b_eq]
end K04
namespace K04
noncomputable section
open PySem PySem.Spec L2 PL
abbrev ZX (T : Tk) : Prop := FX P0 fb fn xn T
def N__law_draws : List Str := ["cell", "salt", "menu", "found", "rest", "mixed", "k"]
def kb__law_draws : Nat := 0
theorem sc__law_draws : FnScope N__law_draws ["cell", "salt", "menu"] (defScope st__law_draws) := ⟨rfl, rfl, rfl, by decide +kernel, rfl, by decide +kernel, by decide +kernel⟩
theorem b__law_draws {T : Tk} (Z : ZX T) (f : Addr) : BodyOk T kb__law_draws N__law_draws "_law_draws" (defScope st__law_draws) f (defBody st__law_draws) o__law_draws := fun cdv A outer s H E hr B hB =>
  have tk := takes_of (X := cxT T N__law_draws "_law_draws" (defScope st__law_draws) f cdv A outer s H E) rfl rfl rfl rfl
  have hp := passes_of (X := cxT T N__law_draws "_law_draws" (defScope st__law_draws) f cdv A outer s H E) rfl
  (mq_cons (ms_setF 3 (mf_lst ma_nil) (hN := sc__law_draws.nd))
    (mq_cons (ms_set 4 (me_op op_subD.m (me_var 0) (me_op op_powD.m me_int me_int)) (hN := sc__law_draws.nd))
    (mq_cons (ms_set 5 (me_op op_addD.m (me_var 0) (me_op op_mulD.m me_int (me_var 1))) (hN := sc__law_draws.nd))
    (mq_cons (ms_for rfl hp (ip_range1 (ma_cons (me_callB call_lenD rfl (Z.free 0) (by kernel_rfl) (ma_cons (me_var 2) ma_nil)) ma_nil) rfl (Z.free 1)) (gp_name 6 (hN := sc__law_draws.nd)) (fun _ hq => have hB := hq.trans hB; (ms_one (ms_if (mt_cmp op_geD.m (me_var 4) me_int) (mq_cons (ms_app 3 (me_op op_modD.m (me_callT call_intD rfl (Z.free 2) (by kernel_rfl) (ma_cons (me_var 4) ma_nil)) (me_ix ix_D (me_var 2) (me_var 6))))
    (ms_one (ms_set 4 (me_op op_fdivD.m (me_var 4) (me_ix ix_D (me_var 2) (me_var 6))) (hN := sc__law_draws.nd)))) (mq_cons (ms_set 5 (me_op op_modD.m (me_callT call_intD rfl (Z.free 2) (by kernel_rfl) (ma_cons (me_op op_addD.m (me_op op_addD.m (me_op op_mulD.m (me_var 5) (me_var 5)) (me_op op_mulD.m me_int (me_op op_addD.m (me_var 6) me_int))) me_int) ma_nil)) me_int) (hN := sc__law_draws.nd))
    (mq_cons (ms_set 5 (me_op op_modD.m (me_callT call_intD rfl (Z.free 2) (by kernel_rfl) (ma_cons (me_op op_addD.m (me_op op_mulD.m (me_var 5) (me_var 5)) (me_op op_fdivD.m (me_var 5) me_int)) ma_nil)) me_int) (hN := sc__law_draws.nd))
    (ms_one (ms_app 3 (me_op op_modD.m (me_callT call_intD rfl (Z.free 2) (by kernel_rfl) (ma_cons (me_op op_fdivD.m (me_var 5) me_int) ma_nil)) (me_ix ix_D (me_var 2) (me_var 6)))))))))))
    (mq_frz 3 (ms_one (ms_ret hB (me_var 3))))))))
theorem ok__law_draws {T : Tk} (Z : ZX T) : Glo T 1 "_law_draws" 3 m__law_draws := by
  obtain ⟨fd, F⟩ := Z.def_ 0 (d := d__law_draws)
  exact Z.fun_ (Z.glo 3) F.kp (FnM.of0 (fnD F sc__law_draws (b__law_draws Z _)) (F.bindsN fun _ _ _ _ _ _ us hl => match us, hl with | [_, _, _], _ => rfl))
def N__law_cell : List Str := ["script", "k"]
def kb__law_cell : Nat := 0
theorem sc__law_cell : FnScope N__law_cell ["script", "k"] (defScope st__law_cell) := ⟨rfl, rfl, rfl, by decide +kernel, rfl, by decide +kernel, by decide +kernel⟩
theorem b__law_cell {T : Tk} (Z : ZX T) (f : Addr) : BodyOk T kb__law_cell N__law_cell "_law_cell" (defScope st__law_cell) f (defBody st__law_cell) o__law_cell := fun cdv A outer s H E hr B hB =>
  have tk := takes_of (X := cxT T N__law_cell "_law_cell" (defScope st__law_cell) f cdv A outer s H E) rfl rfl rfl rfl
  have hp := passes_of (X := cxT T N__law_cell "_law_cell" (defScope st__law_cell) f cdv A outer s H E) rfl
  (mq_cons (ms_if (mt_cmp op_ltD.m (me_var 1) (me_callB call_lenD rfl (Z.free 0) (by kernel_rfl) (ma_cons (me_var 0) ma_nil))) (ms_one (ms_ret hB (me_callB call_absD rfl (Z.free 4) (by kernel_rfl) (ma_cons (me_ix ix_D (me_var 0) (me_var 1)) ma_nil)))) ms_nil)
    (ms_one (ms_ret hB me_int)))
theorem ok__law_cell {T : Tk} (Z : ZX T) : Glo T 1 "_law_cell" 2 m__law_cell := by
  obtain ⟨fd, F⟩ := Z.def_ 1 (d := d__law_cell)
  exact Z.fun_ (Z.glo 5) F.kp (FnM.of0 (fnD F sc__law_cell (b__law_cell Z _)) (F.bindsN fun _ _ _ _ _ _ us hl => match us, hl with | [_, _], _ => rfl))
def N__law_sparse : List Str := ["cell", "salt", "n", "drawn", "residues", "number", "h"]
def kb__law_sparse : Nat := 1
theorem sc__law_sparse : FnScope N__law_sparse ["cell", "salt", "n"] (defScope st__law_sparse) := ⟨rfl, rfl, rfl, by decide +kernel, rfl, by decide +kernel, by decide +kernel⟩
theorem b__law_sparse {T : Tk} (Z : ZX T) (f : Addr) : BodyOk T kb__law_sparse N__law_sparse "_law_sparse" (defScope st__law_sparse) f (defBody st__law_sparse) o__law_sparse := fun cdv A outer s H E hr B hB =>
  have tk := takes_of (X := cxT T N__law_sparse "_law_sparse" (defScope st__law_sparse) f cdv A outer s H E) rfl rfl rfl rfl
  have hp := passes_of (X := cxT T N__law_sparse "_law_sparse" (defScope st__law_sparse) f cdv A outer s H E) rfl
  (mq_cons (ms_set 3 (me_call (ok__law_draws Z) tk (hr.mono (by decide : 1 ≤ kb__law_sparse)) rfl (ma_cons (me_var 0) (ma_cons (me_var 1) (ma_cons (me_fresh (mf_cat (me_fresh (mf_lst (ma_cons me_int ma_nil))) (me_fresh (mf_rep (me_fresh (mf_lst (ma_cons me_int ma_nil))) me_int)))) ma_nil))) (mLen_cons (mLen_cons (mLen_cons mLen_nil)))) (hN := sc__law_sparse.nd))
    (mq_cons (ms_set 4 (me_fresh (mf_lc (own := [("number", 5)]) rfl (blkOk_by (by kernel_rfl)) (ip_seq (me_sl (me_var 3) (mo_some me_int) (mo_some (me_op op_addD.m me_int (me_ix ix_D (me_var 3) me_int))))) (fun _ _ _ _ _ => (gp_name 5 (hN := sc__law_sparse.nd))) (fun _ _ _ _ _ => mts_nil) (fun _ _ _ _ _ => (me_op op_modD.m (me_callT call_intD rfl (Z.free 2) (by kernel_rfl) (ma_cons (me_var 5) ma_nil)) (me_var 2))) (hN := sc__law_sparse.nd))) (hN := sc__law_sparse.nd))
    (ms_one (ms_ret hB (me_fresh (mf_lc (own := [("h", 6)]) rfl (blkOk_by (by kernel_rfl)) (ip_range1 (ma_cons (me_var 2) ma_nil) rfl (Z.free 1)) (fun _ _ _ _ _ => (gp_name 6 (hN := sc__law_sparse.nd))) (fun _ _ _ _ _ => (mts_one (mt_cmp op_inP.m (me_var 6) (me_var 4)))) (fun _ _ _ _ _ => (me_var 6)) (hN := sc__law_sparse.nd)))))))
theorem ok__law_sparse {T : Tk} (Z : ZX T) : Glo T 2 "_law_sparse" 3 m__law_sparse := by
  obtain ⟨fd, F⟩ := Z.def_ 2 (d := d__law_sparse)
  exact Z.fun_ (Z.glo 8) F.kp (FnM.of0 (fnD F sc__law_sparse (b__law_sparse Z _)) (F.bindsN fun _ _ _ _ _ _ us hl => match us, hl with | [_, _, _], _ => rfl))
def N__law_bits : List Str := ["n", "number", "found", "h"]
def kb__law_bits : Nat := 0
theorem sc__law_bits : FnScope N__law_bits ["n", "number"] (defScope st__law_bits) := ⟨rfl, rfl, rfl, by decide +kernel, rfl, by decide +kernel, by decide +kernel⟩
theorem b__law_bits {T : Tk} (Z : ZX T) (f : Addr) : BodyOk T kb__law_bits N__law_bits "_law_bits" (defScope st__law_bits) f (defBody st__law_bits) o__law_bits := fun cdv A outer s H E hr B hB =>
  have tk := takes_of (X := cxT T N__law_bits "_law_bits" (defScope st__law_bits) f cdv A outer s H E) rfl rfl rfl rfl
  have hp := passes_of (X := cxT T N__law_bits "_law_bits" (defScope st__law_bits) f cdv A outer s H E) rfl
  (mq_cons (ms_setF 2 (mf_lst ma_nil) (hN := sc__law_bits.nd))
    (mq_cons (ms_for rfl hp (ip_range1 (ma_cons (me_var 0) ma_nil) rfl (Z.free 1)) (gp_name 3 (hN := sc__law_bits.nd)) (fun _ hq => have hB := hq.trans hB; (mq_cons (ms_if (mt_cmp (op_eqP (hr.mono (by decide : 0 ≤ kb__law_bits)).units).m (me_op op_modD.m (me_callT call_intD rfl (Z.free 2) (by kernel_rfl) (ma_cons (me_var 1) ma_nil)) me_int) me_int) (ms_one (ms_app 2 (me_var 3))) ms_nil)
    (ms_one (ms_set 1 (me_op op_fdivD.m (me_var 1) me_int) (hN := sc__law_bits.nd))))))
    (mq_frz 2 (ms_one (ms_ret hB (me_var 2))))))
theorem ok__law_bits {T : Tk} (Z : ZX T) : Glo T 1 "_law_bits" 2 m__law_bits := by
  obtain ⟨fd, F⟩ := Z.def_ 3 (d := d__law_bits)
  exact Z.fun_ (Z.glo 9) F.kp (FnM.of0 (fnD F sc__law_bits (b__law_bits Z _)) (F.bindsN fun _ _ _ _ _ _ us hl => match us, hl with | [_, _], _ => rfl))
def N__law_subset : List Str := ["cell", "salt", "n", "found", "pieces", "k", "h"]
def kb__law_subset : Nat := 1
theorem sc__law_subset : FnScope N__law_subset ["cell", "salt", "n"] (defScope st__law_subset) := ⟨rfl, rfl, rfl, by decide +kernel, rfl, by decide +kernel, by decide +kernel⟩
theorem b__law_subset {T : Tk} (Z : ZX T) (f : Addr) : BodyOk T kb__law_subset N__law_subset "_law_subset" (defScope st__law_subset) f (defBody st__law_subset) o__law_subset := fun cdv A outer s H E hr B hB =>
  have tk := takes_of (X := cxT T N__law_subset "_law_subset" (defScope st__law_subset) f cdv A outer s H E) rfl rfl rfl rfl
  have hp := passes_of (X := cxT T N__law_subset "_law_subset" (defScope st__law_subset) f cdv A outer s H E) rfl
  (mq_cons (ms_set 3 (me_fresh (mf_lst ma_nil)) (hN := sc__law_subset.nd))
    (mq_cons (ms_set 4 (me_call (ok__law_draws Z) tk (hr.mono (by decide : 1 ≤ kb__law_subset)) rfl (ma_cons (me_var 0) (ma_cons (me_var 1) (ma_cons (me_fresh (mf_rep (me_fresh (mf_lst (ma_cons (me_op op_powD.m me_int me_int) ma_nil))) (me_op op_addD.m me_int (me_op op_fdivD.m (me_op op_subD.m (me_var 2) me_int) me_int)))) ma_nil))) (mLen_cons (mLen_cons (mLen_cons mLen_nil)))) (hN := sc__law_subset.nd))
    (mq_cons (ms_for rfl hp (ip_range1 (ma_cons (me_callB call_lenD rfl (Z.free 0) (by kernel_rfl) (ma_cons (me_var 4) ma_nil)) ma_nil) rfl (Z.free 1)) (gp_name 5 (hN := sc__law_subset.nd)) (fun _ hq => have hB := hq.trans hB; (ms_one (ms_set 3 (me_fresh (mf_cat (me_var 3) (me_fresh (mf_lc (own := [("h", 6)]) rfl (blkOk_by (by kernel_rfl)) (ip_seq (me_call (ok__law_bits Z) tk (hr.mono (by decide : 1 ≤ kb__law_subset)) rfl (ma_cons me_int (ma_cons (me_ix ix_D (me_var 4) (me_var 5)) ma_nil)) (mLen_cons (mLen_cons mLen_nil)))) (fun _ _ _ _ _ => (gp_name 6 (hN := sc__law_subset.nd))) (fun _ _ _ _ _ => (mts_one (mt_cmp op_ltD.m (me_op op_addD.m (me_op op_mulD.m me_int (me_var 5)) (me_var 6)) (me_var 2)))) (fun _ _ _ _ _ => (me_op op_addD.m (me_op op_mulD.m me_int (me_var 5)) (me_var 6))) (hN := sc__law_subset.nd))))) (hN := sc__law_subset.nd)))))
    (ms_one (ms_ret hB (me_var 3))))))
theorem ok__law_subset {T : Tk} (Z : ZX T) : Glo T 2 "_law_subset" 3 m__law_subset := by
  obtain ⟨fd, F⟩ := Z.def_ 4 (d := d__law_subset)
  exact Z.fun_ (Z.glo 10) F.kp (FnM.of0 (fnD F sc__law_subset (b__law_subset Z _)) (F.bindsN fun _ _ _ _ _ _ us hl => match us, hl with | [_, _, _], _ => rfl))
def N__law_drawn_lot : List Str := ["cell", "salt", "n", "few", "way"]
def kb__law_drawn_lot : Nat := 2
theorem sc__law_drawn_lot : FnScope N__law_drawn_lot ["cell", "salt", "n", "few", "way"] (defScope st__law_drawn_lot) := ⟨rfl, rfl, rfl, by decide +kernel, rfl, by decide +kernel, by decide +kernel⟩
theorem b__law_drawn_lot {T : Tk} (Z : ZX T) (f : Addr) : BodyOk T kb__law_drawn_lot N__law_drawn_lot "_law_drawn_lot" (defScope st__law_drawn_lot) f (defBody st__law_drawn_lot) o__law_drawn_lot := fun cdv A outer s H E hr B hB =>
  have tk := takes_of (X := cxT T N__law_drawn_lot "_law_drawn_lot" (defScope st__law_drawn_lot) f cdv A outer s H E) rfl rfl rfl rfl
  have hp := passes_of (X := cxT T N__law_drawn_lot "_law_drawn_lot" (defScope st__law_drawn_lot) f cdv A outer s H E) rfl
  (mq_cons (ms_if (mt_cmp (op_eqP (hr.mono (by decide : 0 ≤ kb__law_drawn_lot)).units).m (me_var 4) me_int) (ms_one (ms_ret hB (me_fresh (mf_lst ma_nil)))) ms_nil)
    (mq_cons (ms_if (mt_w (mw_and (mt_cmp (op_eqP (hr.mono (by decide : 0 ≤ kb__law_drawn_lot)).units).m (me_var 4) me_int) (mw_and1 (mt_not (mt_val (me_var 3)))))) (ms_one (ms_ret hB (me_fresh (mf_lrg1 (me_var 2) rfl rfl (Z.free 7) rfl (Z.free 1))))) ms_nil)
    (mq_cons (ms_if (mt_w (mw_or (mt_cmp op_leD.m (me_var 4) me_int) (mw_or1 (mt_val (me_var 3))))) (ms_one (ms_ret hB (me_call (ok__law_sparse Z) tk (hr.mono (by decide : 2 ≤ kb__law_drawn_lot)) rfl (ma_cons (me_var 0) (ma_cons (me_op op_addD.m (me_var 1) me_int) (ma_cons (me_var 2) ma_nil))) (mLen_cons (mLen_cons (mLen_cons mLen_nil)))))) ms_nil)
    (ms_one (ms_ret hB (me_call (ok__law_subset Z) tk (hr.mono (by decide : 2 ≤ kb__law_drawn_lot)) rfl (ma_cons (me_var 0) (ma_cons (me_var 1) (ma_cons (me_var 2) ma_nil))) (mLen_cons (mLen_cons (mLen_cons mLen_nil)))))))))
theorem ok__law_drawn_lot {T : Tk} (Z : ZX T) : Glo T 3 "_law_drawn_lot" 5 m__law_drawn_lot := by
  obtain ⟨fd, F⟩ := Z.def_ 5 (d := d__law_drawn_lot)
  exact Z.fun_ (Z.glo 11) F.kp (FnM.of0 (fnD F sc__law_drawn_lot (b__law_drawn_lot Z _)) (F.bindsN fun _ _ _ _ _ _ us hl => match us, hl with | [_, _, _, _, _], _ => rfl))
theorem x_BadNumber {T : Tk} (Z : ZX T) : X2F T .BadNumber 22 .name .value := by
  obtain ⟨_, X, G⟩ := Z.ex
  have hp := Z.pr
  have e : xiB .BadNumber "BadNumber.__init__" T.P.main.file T.K = true := by rw [hp]; exact Z.fact 12
  exact x2_of (f1 := .name) (f2 := .value) X G e (Z.c.ini_ 0 (d := xd_BadNumber)) (Z.fact 13) (Z.fact 14) (by decide) (Z.free 15) (by rw [hp]; decide +kernel) ⟨by decide +kernel, rfl, rfl, rfl, by decide +kernel, by decide +kernel, by decide +kernel⟩ ⟨fun _ => rfl, fun _ => ⟨_, rfl⟩, fun _ => rfl, fun _ => rfl⟩ (by decide +kernel) (by decide +kernel) rfl rfl (by decide) (by decide) (by decide) (by decide) (by decide) (fun _ => rfl) (fun _ => rfl) (fun _ _ _ _ _ _ _ _ _ => rfl)
def N_hours_checked : List Str := ["hours", "most"]
def kb_hours_checked : Nat := 0
theorem sc_hours_checked : FnScope N_hours_checked ["hours", "most"] (defScope st_hours_checked) := ⟨rfl, rfl, rfl, by decide +kernel, rfl, by decide +kernel, by decide +kernel⟩
theorem b_hours_checked {T : Tk} (Z : ZX T) (f : Addr) : BodyOk T kb_hours_checked N_hours_checked "hours_checked" (defScope st_hours_checked) f (defBody st_hours_checked) o_hours_checked := fun cdv A outer s H E hr B hB =>
  have tk := takes_of (X := cxT T N_hours_checked "hours_checked" (defScope st_hours_checked) f cdv A outer s H E) rfl rfl rfl rfl
  have hp := passes_of (X := cxT T N_hours_checked "hours_checked" (defScope st_hours_checked) f cdv A outer s H E) rfl
  (ms_one (ms_if (mt_not (mt_chain op_leD op_leD me_int (me_var 0) (me_var 1))) (ms_one (ms_raise rfl tk (mx_2 (x_BadNumber Z) (hr.mono (by decide : 0 ≤ kb_hours_checked)) rfl (ma_cons me_str (ma_cons (me_var 0) ma_nil))))) ms_nil))
theorem ok_hours_checked {T : Tk} (Z : ZX T) : Glo T 1 "hours_checked" 2 m_hours_checked := by
  obtain ⟨fd, F⟩ := Z.def_ 6 (d := d_hours_checked)
  exact Z.fun_ (Z.glo 16) F.kp (FnM.of0 (fnD F sc_hours_checked (b_hours_checked Z _)) (F.bindsN fun _ _ _ _ _ _ us hl => match us, hl with | [_, _], _ => rfl))
theorem t_MOST_Lot_ok {T : Tk} (Z : ZX T) : ∀ c d, t_MOST_Lot c = some d → ∃ v u, Con T.K (ca T.K c) "MOST" v u ∧ ∀ G, Rep T.K G v d := by
  intro c d h
  unfold t_MOST_Lot at h
  split at h
  · cases h
    exact ciB_ok (Z.fact 17)
  · cases h
def N_first_repeated : List Str := ["residues", "at"]
def kb_first_repeated : Nat := 0
theorem sc_first_repeated : FnScope N_first_repeated ["residues"] (defScope st_first_repeated) := ⟨rfl, rfl, rfl, by decide +kernel, rfl, by decide +kernel, by decide +kernel⟩
theorem b_first_repeated {T : Tk} (Z : ZX T) (f : Addr) : BodyOk T kb_first_repeated N_first_repeated "first_repeated" (defScope st_first_repeated) f (defBody st_first_repeated) o_first_repeated := fun cdv A outer s H E hr B hB =>
  have tk := takes_of (X := cxT T N_first_repeated "first_repeated" (defScope st_first_repeated) f cdv A outer s H E) rfl rfl rfl rfl
  have hp := passes_of (X := cxT T N_first_repeated "first_repeated" (defScope st_first_repeated) f cdv A outer s H E) rfl
  (mq_cons (ms_for rfl hp (ip_range2 (ma_cons me_int (ma_cons (me_callB call_lenD rfl (Z.free 0) (by kernel_rfl) (ma_cons (me_var 0) ma_nil)) ma_nil)) rfl (Z.free 1)) (gp_name 1 (hN := sc_first_repeated.nd)) (fun _ hq => have hB := hq.trans hB; (ms_one (ms_if (mt_cmp op_inP.m (me_ix ix_D (me_var 0) (me_var 1)) (me_sl (me_var 0) mo_none (mo_some (me_var 1)))) (ms_one (ms_ret hB (me_ix ix_D (me_var 0) (me_var 1)))) ms_nil))))
    (ms_one (ms_ret hB me_non)))
theorem ok_first_repeated {T : Tk} (Z : ZX T) : Glo T 1 "first_repeated" 1 m_first_repeated := by
  obtain ⟨fd, F⟩ := Z.def_ 7 (d := d_first_repeated)
  exact Z.fun_ (Z.glo 19) F.kp (FnM.of0 (fnD F sc_first_repeated (b_first_repeated Z _)) (F.bindsN fun _ _ _ _ _ _ us hl => match us, hl with | [_], _ => rfl))
theorem x_RepeatedHour {T : Tk} (Z : ZX T) : X1F T .RepeatedHour .hour := by
  obtain ⟨_, X, G⟩ := Z.ex
  have hp := Z.pr
  have e : xiB .RepeatedHour "RepeatedHour.__init__" T.P.main.file T.K = true := by rw [hp]; exact Z.fact 20
  exact x1_of (f1 := .hour) X G e (Z.c.ini_ 1 (d := xd_RepeatedHour)) (Z.fact 21) (Z.free 15) (by rw [hp]; decide +kernel) ⟨by decide +kernel, rfl, rfl, rfl, by decide +kernel, by decide +kernel, by decide +kernel⟩ ⟨fun _ => rfl, fun _ => ⟨_, rfl⟩, fun _ => rfl, fun _ => rfl⟩ (by decide +kernel) rfl rfl (by decide) (by decide) (fun _ => rfl) (fun _ _ _ _ _ _ _ _ => rfl)
def N_Lot___init__ : List Str := ["self", "hours", "members", "residues", "member", "residue"]
def kb_Lot___init__ : Nat := 1
theorem sc_Lot___init__ : FnScope N_Lot___init__ ["self", "hours", "members"] (defScope st_Lot___init__) := ⟨rfl, rfl, rfl, by decide +kernel, rfl, by decide +kernel, by decide +kernel⟩
theorem b_Lot___init__ {T : Tk} (Z : ZX T) (f : Addr) : BodyOk T kb_Lot___init__ N_Lot___init__ "Lot.__init__" (defScope st_Lot___init__) f (defBody st_Lot___init__) o_Lot___init__ := fun cdv A outer s H E hr B hB =>
  have tk := takes_of (X := cxT T N_Lot___init__ "Lot.__init__" (defScope st_Lot___init__) f cdv A outer s H E) rfl rfl rfl rfl
  have hp := passes_of (X := cxT T N_Lot___init__ "Lot.__init__" (defScope st_Lot___init__) f cdv A outer s H E) rfl
  (mq_cons (ms_expr (me_call (ok_hours_checked Z) tk (hr.mono (by decide : 1 ≤ kb_Lot___init__)) rfl (ma_cons (me_var 1) (ma_cons (me_insC 0 (nm_out (by decide +kernel)) (t_MOST_Lot_ok Z)) ma_nil)) (mLen_cons (mLen_cons mLen_nil))))
    (mq_cons (ms_setLcD 3 (own := [("member", 4)]) rfl (blkOk_by (by kernel_rfl)) (ip_seq (me_var 2)) (fun _ _ _ _ _ => (gp_name 4 (hN := sc_Lot___init__.nd))) (fun _ _ _ _ _ => mts_nil) (fun _ _ _ _ _ => (me_op op_modD.m (me_var 4) (me_var 1))) (sw_true rfl rfl rfl (by decide +kernel)) (hN := sc_Lot___init__.nd))
    (mq_cons (ms_if (mt_cmp op_ltD.m (me_lenSet (me_var 3) rfl rfl (Z.free 0) rfl (Z.free 18)) (me_callB call_lenD rfl (Z.free 0) (by kernel_rfl) (ma_cons (me_var 3) ma_nil))) (ms_one (ms_raise rfl tk (mx_1 (x_RepeatedHour Z) (hr.mono (by decide : 0 ≤ kb_Lot___init__)) rfl (ma_cons (me_call (ok_first_repeated Z) tk (hr.mono (by decide : 1 ≤ kb_Lot___init__)) rfl (ma_cons (me_var 3) ma_nil) (mLen_cons mLen_nil)) ma_nil)))) ms_nil)
    (mq_cons (ms_fld 0 .Lot .hours (naB_ok (Z.fact 22)) (me_var 1))
    (ms_one (ms_fld 0 .Lot .u_members (naB_ok (Z.fact 24)) (me_fresh (mf_srt (me_fresh (mf_lc (own := [("residue", 5)]) rfl (blkOk_by (by kernel_rfl)) (ip_seq (me_var 3)) (fun _ _ _ _ _ => (gp_name 5 (hN := sc_Lot___init__.nd))) (fun _ _ _ _ _ => mts_nil) (fun _ _ _ _ _ => (me_callT call_intD rfl (Z.free 2) (by kernel_rfl) (ma_cons (me_var 5) ma_nil))) (hN := sc_Lot___init__.nd))) rfl (Z.free 23)))))))))
theorem mk_Lot_2 {T : Tk} (Z : ZX T) : MakF T 2 .Lot 2 mi_Lot_2 := by
  obtain ⟨fd, F⟩ := Z.def_ 8 (d := d_Lot___init__)
  exact ⟨_, mkB_ok (Z.fact 26), InM.of0 (Z.cl 25) (iniD F sc_Lot___init__ (b_Lot___init__ Z _) (Z.cl 25) rfl) (F.bindsN fun _ _ _ _ _ _ us hl => match us, hl with | [_, _, _], _ => rfl)⟩
def N_rings_checked : List Str := ["one", "other"]
def kb_rings_checked : Nat := 0
theorem sc_rings_checked : FnScope N_rings_checked ["one", "other"] (defScope st_rings_checked) := ⟨rfl, rfl, rfl, by decide +kernel, rfl, by decide +kernel, by decide +kernel⟩
theorem b_rings_checked {T : Tk} (Z : ZX T) (f : Addr) : BodyOk T kb_rings_checked N_rings_checked "rings_checked" (defScope st_rings_checked) f (defBody st_rings_checked) o_rings_checked := fun cdv A outer s H E hr B hB =>
  have tk := takes_of (X := cxT T N_rings_checked "rings_checked" (defScope st_rings_checked) f cdv A outer s H E) rfl rfl rfl rfl
  have hp := passes_of (X := cxT T N_rings_checked "rings_checked" (defScope st_rings_checked) f cdv A outer s H E) rfl
  (ms_one (ms_if (mt_cmp (op_neP (hr.mono (by decide : 0 ≤ kb_rings_checked)).units).m (me_fld .hours (me_var 0)) (me_fld .hours (me_var 1))) (ms_one (ms_raise rfl tk (mx_0 (Z.x0 28) rfl))) ms_nil))
theorem ok_rings_checked {T : Tk} (Z : ZX T) : Glo T 1 "rings_checked" 2 m_rings_checked := by
  obtain ⟨fd, F⟩ := Z.def_ 9 (d := d_rings_checked)
  exact Z.fun_ (Z.glo 29) F.kp (FnM.of0 (fnD F sc_rings_checked (b_rings_checked Z _)) (F.bindsN fun _ _ _ _ _ _ us hl => match us, hl with | [_, _], _ => rfl))
def N_Lot___iter__ : List Str := ["self"]
theorem sc_Lot___iter__ : FnScope N_Lot___iter__ ["self"] (defScope st_Lot___iter__) := ⟨rfl, rfl, rfl, by decide +kernel, rfl, by decide +kernel, by decide +kernel⟩
theorem itM_Lot___iter__ {T : Tk} (Z : ZX T) : ItM T 1 ((mA .Lot "__iter__") T.K) .Lot .u_members := by
  obtain ⟨fd, F⟩ := Z.def_ 10 (d := d_Lot___iter__)
  exact ItM.of0 F sc_Lot___iter__ (fun cdv A outer s H E hr => it_body rfl (by first | exact Or.inl rfl | exact Or.inr (Or.inl rfl) | exact Or.inr (Or.inr rfl)) rfl (Z.free 30)) (F.bindsN fun _ _ _ _ _ _ us hl => match us, hl with | [_], _ => rfl) rfl (by decide)
theorem tn_Lot_ok {T : Tk} (Z : ZX T) : ∀ c n, tn_Lot c = some n → ItrF T 1 c n := by
  intro c n h
  unfold tn_Lot at h
  split at h
  · cases h
    exact itB_ok (Z.fact 31) (itM_Lot___iter__ Z)
  · cases h
def N_meetings : List Str := ["one", "other", "counts", "_", "first", "second", "apart"]
def kb_meetings : Nat := 1
theorem sc_meetings : FnScope N_meetings ["one", "other"] (defScope st_meetings) := ⟨rfl, rfl, rfl, by decide +kernel, rfl, by decide +kernel, by decide +kernel⟩
theorem b_meetings {T : Tk} (Z : ZX T) (f : Addr) : BodyOk T kb_meetings N_meetings "meetings" (defScope st_meetings) f (defBody st_meetings) o_meetings := fun cdv A outer s H E hr B hB =>
  have tk := takes_of (X := cxT T N_meetings "meetings" (defScope st_meetings) f cdv A outer s H E) rfl rfl rfl rfl
  have hp := passes_of (X := cxT T N_meetings "meetings" (defScope st_meetings) f cdv A outer s H E) rfl
  (mq_cons (ms_expr (me_call (ok_rings_checked Z) tk (hr.mono (by decide : 1 ≤ kb_meetings)) rfl (ma_cons (me_var 0) (ma_cons (me_var 1) ma_nil)) (mLen_cons (mLen_cons mLen_nil))))
    (mq_cons (ms_setLc 2 (own := [("_", 3)]) rfl (blkOk_by (by kernel_rfl)) (ip_range1 (ma_cons (me_fld .hours (me_var 0)) ma_nil) rfl (Z.free 1)) (fun _ _ _ _ _ => (gp_name 3 (hN := sc_meetings.nd))) (fun _ _ _ _ _ => mts_nil) (fun _ _ _ _ _ => me_int) (sw_true rfl rfl rfl (by decide +kernel)) (hN := sc_meetings.nd))
    (mq_cons (ms_for rfl hp (ip_own (tn_Lot_ok Z) tk (hr.mono (by decide : 1 ≤ kb_meetings)) (me_var 0)) (gp_name 4 (hN := sc_meetings.nd)) (fun _ hq => have hB := hq.trans hB; (ms_one (ms_for rfl hp (ip_own (tn_Lot_ok Z) tk (hr.mono (by decide : 1 ≤ kb_meetings)) (me_var 1)) (gp_name 5 (hN := sc_meetings.nd)) (fun _ hq => have hB := hq.trans hB; (mq_cons (ms_set 6 (me_op op_modD.m (me_op op_subD.m (me_var 4) (me_var 5)) (me_fld .hours (me_var 0))) (hN := sc_meetings.nd))
    (ms_one (ms_setIx 2 (me_peek [2] (me_op op_addD.m (me_ix ix_D (me_var 2) (me_var 6)) me_int)) (me_var 6)))))))))
    (ms_one (ms_retO10 hB 2)))))
theorem ok_meetings {T : Tk} (Z : ZX T) : Glo T 2 "meetings" 2 m_meetings := by
  obtain ⟨fd, F⟩ := Z.def_ 11 (d := d_meetings)
  exact Z.fun_ (Z.glo 32) F.kp (FnM.of0 (fnD F sc_meetings (b_meetings Z _)) (F.bindsN fun _ _ _ _ _ _ us hl => match us, hl with | [_, _], _ => rfl))
theorem tk_Meets_ok {T : Tk} (Z : ZX T) : ∀ c b, tk_Meets c = some b → PySem.W.kitOne T.K (.ref (ca T.K c)) (.ref (He.ga T.K "Meets")) = some b := by
  intro c b h
  unfold tk_Meets at h
  split at h
  · cases h
    exact of_decide_eq_true (Z.fact 34)
  · cases h
    exact of_decide_eq_true (Z.fact 35)
  · cases h
    exact of_decide_eq_true (Z.fact 36)
  · cases h
theorem tk_OtherHouse_ok {T : Tk} (Z : ZX T) : ∀ c b, tk_OtherHouse c = some b → PySem.W.kitOne T.K (.ref (ca T.K c)) (.ref (He.ga T.K "OtherHouse")) = some b := by
  intro c b h
  unfold tk_OtherHouse at h
  split at h
  · cases h
    exact of_decide_eq_true (Z.fact 38)
  · cases h
    exact of_decide_eq_true (Z.fact 39)
  · cases h
    exact of_decide_eq_true (Z.fact 40)
  · cases h
theorem tk_ValueError_ok {T : Tk} (Z : ZX T) : ∀ c b, tk_ValueError c = some b → PySem.W.kitOne T.K (.ref (ca T.K c)) (.type "ValueError") = some b := by
  intro c b h
  unfold tk_ValueError at h
  split at h
  · cases h
    exact of_decide_eq_true (Z.fact 42)
  · cases h
    exact of_decide_eq_true (Z.fact 43)
  · cases h
    exact of_decide_eq_true (Z.fact 44)
  · cases h
theorem tk_OtherHours_ok {T : Tk} (Z : ZX T) : ∀ c b, tk_OtherHours c = some b → PySem.W.kitOne T.K (.ref (ca T.K c)) (.ref (He.ga T.K "OtherHours")) = some b := by
  intro c b h
  unfold tk_OtherHours at h
  split at h
  · cases h
    exact of_decide_eq_true (Z.fact 46)
  · cases h
    exact of_decide_eq_true (Z.fact 47)
  · cases h
    exact of_decide_eq_true (Z.fact 48)
  · cases h
theorem tk_WrongLength_ok {T : Tk} (Z : ZX T) : ∀ c b, tk_WrongLength c = some b → PySem.W.kitOne T.K (.ref (ca T.K c)) (.ref (He.ga T.K "WrongLength")) = some b := by
  intro c b h
  unfold tk_WrongLength at h
  split at h
  · cases h
    exact of_decide_eq_true (Z.fact 50)
  · cases h
    exact of_decide_eq_true (Z.fact 51)
  · cases h
    exact of_decide_eq_true (Z.fact 52)
  · cases h
theorem tx_WatchError_ok {T : Tk} (Z : ZX T) : ∀ c b, tx_WatchError c = some b → PySem.W.exmOne T.K (.ref (ca T.K c)) (.ref (He.ga T.K "WatchError")) = some b := by
  intro c b h
  unfold tx_WatchError at h
  split at h
  · cases h
    exact of_decide_eq_true (Z.fact 54)
  · cases h
    exact of_decide_eq_true (Z.fact 55)
  · cases h
    exact of_decide_eq_true (Z.fact 56)
  · cases h
def N__law_kept_apart : List Str := ["one", "two", "told", "kinds", "e"]
def kb__law_kept_apart : Nat := 2
theorem sc__law_kept_apart : FnScope N__law_kept_apart ["one", "two"] (defScope st__law_kept_apart) := ⟨rfl, rfl, rfl, by decide +kernel, rfl, by decide +kernel, by decide +kernel⟩
theorem b__law_kept_apart {T : Tk} (Z : ZX T) (f : Addr) : BodyOk T kb__law_kept_apart N__law_kept_apart "_law_kept_apart" (defScope st__law_kept_apart) f (defBody st__law_kept_apart) o__law_kept_apart := fun cdv A outer s H E hr B hB =>
  have tk := takes_of (X := cxT T N__law_kept_apart "_law_kept_apart" (defScope st__law_kept_apart) f cdv A outer s H E) rfl rfl rfl rfl
  have hp := passes_of (X := cxT T N__law_kept_apart "_law_kept_apart" (defScope st__law_kept_apart) f cdv A outer s H E) rfl
  (mq_cons (ms_set 2 me_non (hN := sc__law_kept_apart.nd))
    (mq_cons (ms_set 3 (me_fresh (mf_lst ma_nil)) (hN := sc__law_kept_apart.nd))
    (mq_cons (ms_try rfl rfl sc__law_kept_apart.nd tk (fun _ _ _ tk hp => (ms_one (ms_set 2 (me_call (ok_meetings Z) tk (hr.mono (by decide : 2 ≤ kb__law_kept_apart)) rfl (ma_cons (me_var 0) (ma_cons (me_var 1) ma_nil)) (mLen_cons (mLen_cons mLen_nil))) (hN := sc__law_kept_apart.nd)))) (HdsX.as (i := 4) ⟨rfl, by decide, .inl (Z.glo 57)⟩ (tx_WatchError_ok Z) rfl rfl (fun a oe cls d pn hz hf => (mq_cons (ms_set 3 (me_fresh (mf_lst (ma_cons (me_xi 4 hz hf (cv := .ref _) (u := .ref _) (fun _ h => h) (tk_OtherHours_ok Z) (pe_cl rfl (Z.glo 49)) rfl (Z.free 33)) (ma_cons (me_xi 4 hz hf (cv := .ty _) (u := .type _) (fun _ h => h) (tk_ValueError_ok Z) (pe_ty rfl (Z.free 45) (by kernel_rfl)) rfl (Z.free 33)) (ma_cons (me_xi 4 hz hf (cv := .ref _) (u := .ref _) (fun _ h => h) (tk_OtherHouse_ok Z) (pe_cl rfl (Z.glo 41)) rfl (Z.free 33)) (ma_cons (me_xi 4 hz hf (cv := .ref _) (u := .ref _) (fun _ h => h) (tk_Meets_ok Z) (pe_cl rfl (Z.glo 37)) rfl (Z.free 33)) ma_nil)))))) (hN := sc__law_kept_apart.nd))
    (ms_one (ms_set 3 (me_fresh (mf_cat (me_var 3) (me_fresh (mf_lst (ma_cons (me_xi 4 hz hf (cv := .ref _) (u := .ref _) (fun _ h => h) (tk_WrongLength_ok Z) (pe_cl rfl (Z.glo 53)) rfl (Z.free 33)) ma_nil))))) (hN := sc__law_kept_apart.nd))))) HdsX.nil))
    (ms_one (ms_ret hB (me_and (me_cmp op_isP.m (me_var 2) me_non) (me_one (me_cmp (op_eqP (hr.mono (by decide : 0 ≤ kb__law_kept_apart)).units).m (me_var 3) (me_fresh (mf_lst (ma_cons me_bl (ma_cons me_bl (ma_cons me_bl (ma_cons me_bl (ma_cons me_bl ma_nil)))))))))))))))
theorem ok__law_kept_apart {T : Tk} (Z : ZX T) : Glo T 3 "_law_kept_apart" 2 m__law_kept_apart := by
  obtain ⟨fd, F⟩ := Z.def_ 12 (d := d__law_kept_apart)
  exact Z.fun_ (Z.glo 58) F.kp (FnM.of0 (fnD F sc__law_kept_apart (b__law_kept_apart Z _)) (F.bindsN fun _ _ _ _ _ _ us hl => match us, hl with | [_, _], _ => rfl))
theorem tt_int_ok {T : Tk} (Z : ZX T) : ∀ c, tt_int c = true → PySem.W.kitOne T.K (.ref (ca T.K c)) (.type "int") = some false := by
  intro c h
  unfold tt_int at h
  split at h
  · exact of_decide_eq_true (Z.fact 59)
  · cases h
theorem tt_bool_ok {T : Tk} (Z : ZX T) : ∀ c, tt_bool c = true → PySem.W.kitOne T.K (.ref (ca T.K c)) (.type "bool") = some false := by
  intro c h
  unfold tt_bool at h
  split at h
  · exact of_decide_eq_true (Z.fact 60)
  · cases h
def N__law_is_int : List Str := ["x"]
def kb__law_is_int : Nat := 0
theorem sc__law_is_int : FnScope N__law_is_int ["x"] (defScope st__law_is_int) := ⟨rfl, rfl, rfl, by decide +kernel, rfl, by decide +kernel, by decide +kernel⟩
theorem b__law_is_int {T : Tk} (Z : ZX T) (f : Addr) : BodyOk T kb__law_is_int N__law_is_int "_law_is_int" (defScope st__law_is_int) f (defBody st__law_is_int) o__law_is_int := fun cdv A outer s H E hr B hB =>
  have tk := takes_of (X := cxT T N__law_is_int "_law_is_int" (defScope st__law_is_int) f cdv A outer s H E) rfl rfl rfl rfl
  have hp := passes_of (X := cxT T N__law_is_int "_law_is_int" (defScope st__law_is_int) f cdv A outer s H E) rfl
  (ms_one (ms_ret hB (me_and (me_isi (isTy_ok (tt_int_ok Z)) (pe_ty rfl (Z.free 2) (by kernel_rfl)) (me_var 0) rfl (Z.free 33)) (me_one (me_not (me_isi (isTy_ok (tt_bool_ok Z)) (pe_ty rfl (Z.free 61) (by kernel_rfl)) (me_var 0) rfl (Z.free 33)))))))
theorem ok__law_is_int {T : Tk} (Z : ZX T) : Glo T 1 "_law_is_int" 1 m__law_is_int := by
  obtain ⟨fd, F⟩ := Z.def_ 13 (d := d__law_is_int)
  exact Z.fun_ (Z.glo 62) F.kp (FnM.of0 (fnD F sc__law_is_int (b__law_is_int Z _)) (F.bindsN fun _ _ _ _ _ _ us hl => match us, hl with | [_], _ => rfl))
theorem tt_str_ok {T : Tk} (Z : ZX T) : ∀ c, tt_str c = true → PySem.W.kitOne T.K (.ref (ca T.K c)) (.type "str") = some false := by
  intro c h
  unfold tt_str at h
  split at h
  · exact of_decide_eq_true (Z.fact 63)
  · cases h
theorem tt_tuple_ok {T : Tk} (Z : ZX T) : ∀ c, tt_tuple c = true → PySem.W.kitOne T.K (.ref (ca T.K c)) (.type "tuple") = some false := by
  intro c h
  unfold tt_tuple at h
  split at h
  · exact of_decide_eq_true (Z.fact 65)
  · cases h
theorem tt_list_ok {T : Tk} (Z : ZX T) : ∀ c, tt_list c = true → PySem.W.kitOne T.K (.ref (ca T.K c)) (.type "list") = some false := by
  intro c h
  unfold tt_list at h
  split at h
  · exact of_decide_eq_true (Z.fact 67)
  · cases h
def N__law_same : List Str := ["got", "due", "k"]
def kb__law_same : Nat := 1
theorem sc__law_same : FnScope N__law_same ["got", "due"] (defScope st__law_same) := ⟨rfl, rfl, rfl, by decide +kernel, rfl, by decide +kernel, by decide +kernel⟩
theorem b__law_same {T : Tk} (Z : ZX T) (f : Addr) {r : List D → Res D} {kr : Nat} (hk : kb__law_same ≤ kr) (hrec : Glo T kr "_law_same" 2 r) : BodyOk T kr N__law_same "_law_same" (defScope st__law_same) f (defBody st__law_same) (o__law_same r) := fun cdv A outer s H E hr0 B hB =>
  have hr := hr0.mono hk
  have tk := takes_of (X := cxT T N__law_same "_law_same" (defScope st__law_same) f cdv A outer s H E) rfl rfl rfl rfl
  have hp := passes_of (X := cxT T N__law_same "_law_same" (defScope st__law_same) f cdv A outer s H E) rfl
  (mq_cons (ms_if (mt_cmp op_isP.m (me_var 1) me_non) (ms_one (ms_ret hB (me_cmp op_isP.m (me_var 0) me_non))) ms_nil)
    (mq_cons (ms_if (mt_cmp op_isP.m (me_var 1) me_bl) (ms_one (ms_ret hB (me_cmp op_isP.m (me_var 0) me_bl))) ms_nil)
    (mq_cons (ms_if (mt_cmp op_isP.m (me_var 1) me_bl) (ms_one (ms_ret hB (me_cmp op_isP.m (me_var 0) me_bl))) ms_nil)
    (mq_cons (ms_if (mt_val (me_isi (isTy_ok (tt_int_ok Z)) (pe_ty rfl (Z.free 2) (by kernel_rfl)) (me_var 1) rfl (Z.free 33))) (ms_one (ms_ret hB (me_and (me_call (ok__law_is_int Z) tk (hr.mono (by decide : 1 ≤ kb__law_same)) rfl (ma_cons (me_var 0) ma_nil) (mLen_cons mLen_nil)) (me_one (me_cmp (op_eqP (hr.mono (by decide : 0 ≤ kb__law_same)).units).m (me_var 0) (me_var 1)))))) ms_nil)
    (mq_cons (ms_if (mt_val (me_isi (isTy_ok (tt_str_ok Z)) (pe_ty rfl (Z.free 64) (by kernel_rfl)) (me_var 1) rfl (Z.free 33))) (ms_one (ms_ret hB (me_and (me_isi (isTy_ok (tt_str_ok Z)) (pe_ty rfl (Z.free 64) (by kernel_rfl)) (me_var 0) rfl (Z.free 33)) (me_one (me_cmp (op_eqP (hr.mono (by decide : 0 ≤ kb__law_same)).units).m (me_var 0) (me_var 1)))))) ms_nil)
    (mq_cons (ms_if (mt_val (me_isi (isTy_ok (tt_tuple_ok Z)) (pe_ty rfl (Z.free 66) (by kernel_rfl)) (me_var 1) rfl (Z.free 33))) (ms_one (ms_if (mt_w (mw_or (mt_not (mt_val (me_isi (isTy_ok (tt_tuple_ok Z)) (pe_ty rfl (Z.free 66) (by kernel_rfl)) (me_var 0) rfl (Z.free 33)))) (mw_or1 (mt_cmp (op_neP (hr.mono (by decide : 0 ≤ kb__law_same)).units).m (me_callB call_lenD rfl (Z.free 0) (by kernel_rfl) (ma_cons (me_var 0) ma_nil)) (me_callB call_lenD rfl (Z.free 0) (by kernel_rfl) (ma_cons (me_var 1) ma_nil)))))) (ms_one (ms_ret hB me_bl)) ms_nil)) (ms_one (ms_if (mt_w (mw_or (mt_not (mt_val (me_isi (isTy_ok (tt_list_ok Z)) (pe_ty rfl (Z.free 7) (by kernel_rfl)) (me_var 0) rfl (Z.free 33)))) (mw_or1 (mt_cmp (op_neP (hr.mono (by decide : 0 ≤ kb__law_same)).units).m (me_callB call_lenD rfl (Z.free 0) (by kernel_rfl) (ma_cons (me_var 0) ma_nil)) (me_callB call_lenD rfl (Z.free 0) (by kernel_rfl) (ma_cons (me_var 1) ma_nil)))))) (ms_one (ms_ret hB me_bl)) ms_nil)))
    (mq_cons (ms_for rfl hp (ip_range1 (ma_cons (me_callB call_lenD rfl (Z.free 0) (by kernel_rfl) (ma_cons (me_var 1) ma_nil)) ma_nil) rfl (Z.free 1)) (gp_name 2 (hN := sc__law_same.nd)) (fun _ hq => have hB := hq.trans hB; (ms_one (ms_if (mt_not (mt_val (me_call hrec tk hr0 rfl (ma_cons (me_ix ix_D (me_var 0) (me_var 2)) (ma_cons (me_ix ix_D (me_var 1) (me_var 2)) ma_nil)) (mLen_cons (mLen_cons mLen_nil))))) (ms_one (ms_ret hB me_bl)) ms_nil))))
    (ms_one (ms_ret hB me_bl)))))))))
theorem okr__law_same {T : Tk} (Z : ZX T) : ∀ n, Glo T (kb__law_same + n) "_law_same" 2 (mr__law_same n)
  | 0 => by
    obtain ⟨fd, F⟩ := Z.def_ 14 (d := d__law_same)
    exact Z.fun_ (Z.glo 68) F.kp (FnM.none _)
  | i + 1 => by
    obtain ⟨fd, F⟩ := Z.def_ 14 (d := d__law_same)
    exact Z.fun_ (Z.glo 68) F.kp (FnM.of0 (fnD F sc__law_same (b__law_same Z _ (Nat.le_add_right _ _) (okr__law_same Z i))) (F.bindsN fun _ _ _ _ _ _ us hl => match us, hl with | [_, _], _ => rfl))
theorem ok__law_same {T : Tk} (Z : ZX T) : Glo T 9 "_law_same" 2 m__law_same := okr__law_same Z 8
def N_Lot_members : List Str := ["self"]
def kb_Lot_members : Nat := 0
theorem sc_Lot_members : FnScope N_Lot_members ["self"] (defScope st_Lot_members) := ⟨rfl, rfl, rfl, by decide +kernel, rfl, by decide +kernel, by decide +kernel⟩
theorem b_Lot_members {T : Tk} (Z : ZX T) (f : Addr) : BodyOk T kb_Lot_members N_Lot_members "Lot.members" (defScope st_Lot_members) f (defBody st_Lot_members) o_Lot_members := fun cdv A outer s H E hr B hB =>
  have tk := takes_of (X := cxT T N_Lot_members "Lot.members" (defScope st_Lot_members) f cdv A outer s H E) rfl rfl rfl rfl
  have hp := passes_of (X := cxT T N_Lot_members "Lot.members" (defScope st_Lot_members) f cdv A outer s H E) rfl
  (ms_one (ms_ret hB (me_fresh (mf_list (me_fld .u_members (me_var 0)) rfl (Z.free 7)))))
theorem ok_Lot_members {T : Tk} (Z : ZX T) : FnM T 1 ((pA .Lot "members") T.K) 1 m_Lot_members := by
  obtain ⟨fd, F⟩ := Z.def_ 15 (d := d_Lot_members)
  exact (FnM.of0 (fnD F sc_Lot_members (b_Lot_members Z _)) (F.bindsN fun _ _ _ _ _ _ us hl => match us, hl with | [_], _ => rfl))
theorem t_members_Lot_ok {T : Tk} (Z : ZX T) : ∀ c g, t_members_Lot c = some g → PropF T 1 c "members" g := by
  intro c g h
  unfold t_members_Lot at h
  split at h
  · cases h
    exact ⟨_, _, prB_ok (Z.fact 69), (ok_Lot_members Z).mono (by decide : 1 ≤ 1)⟩
  · cases h
def N__law_counts : List Str := ["first", "second", "n", "marks", "h", "counts", "d", "y"]
def kb__law_counts : Nat := 0
theorem sc__law_counts : FnScope N__law_counts ["first", "second", "n"] (defScope st__law_counts) := ⟨rfl, rfl, rfl, by decide +kernel, rfl, by decide +kernel, by decide +kernel⟩
theorem b__law_counts {T : Tk} (Z : ZX T) (f : Addr) : BodyOk T kb__law_counts N__law_counts "_law_counts" (defScope st__law_counts) f (defBody st__law_counts) o__law_counts := fun cdv A outer s H E hr B hB =>
  have tk := takes_of (X := cxT T N__law_counts "_law_counts" (defScope st__law_counts) f cdv A outer s H E) rfl rfl rfl rfl
  have hp := passes_of (X := cxT T N__law_counts "_law_counts" (defScope st__law_counts) f cdv A outer s H E) rfl
  (mq_cons (ms_set 3 (me_fresh (mf_lc (own := [("h", 4)]) rfl (blkOk_by (by kernel_rfl)) (ip_range1 (ma_cons (me_var 2) ma_nil) rfl (Z.free 1)) (fun _ _ _ _ _ => (gp_name 4 (hN := sc__law_counts.nd))) (fun _ _ _ _ _ => mts_nil) (fun _ _ _ _ _ => (me_cmp op_inP.m (me_var 4) (me_var 0))) (hN := sc__law_counts.nd))) (hN := sc__law_counts.nd))
    (mq_cons (ms_setF 5 (mf_lst ma_nil) (hN := sc__law_counts.nd))
    (mq_cons (ms_for rfl hp (ip_range1 (ma_cons (me_var 2) ma_nil) rfl (Z.free 1)) (gp_name 6 (hN := sc__law_counts.nd)) (fun _ hq => have hB := hq.trans hB; (ms_one (ms_app 5 (me_callB call_lenD rfl (Z.free 0) (by kernel_rfl) (ma_cons (me_fresh (mf_lc (own := [("y", 7)]) rfl (blkOk_by (by kernel_rfl)) (ip_seq (me_var 1)) (fun _ _ _ _ _ => (gp_name 7 (hN := sc__law_counts.nd))) (fun _ _ _ _ _ => (mts_one (mt_val (me_ix ix_D (me_var 3) (me_op op_modD.m (me_callT call_intD rfl (Z.free 2) (by kernel_rfl) (ma_cons (me_op op_addD.m (me_var 7) (me_var 6)) ma_nil)) (me_var 2)))))) (fun _ _ _ _ _ => (me_var 7)) (hN := sc__law_counts.nd))) ma_nil))))))
    (mq_frz 5 (ms_one (ms_ret hB (me_var 5)))))))
theorem ok__law_counts {T : Tk} (Z : ZX T) : Glo T 1 "_law_counts" 3 m__law_counts := by
  obtain ⟨fd, F⟩ := Z.def_ 16 (d := d__law_counts)
  exact Z.fun_ (Z.glo 70) F.kp (FnM.of0 (fnD F sc__law_counts (b__law_counts Z _)) (F.bindsN fun _ _ _ _ _ _ us hl => match us, hl with | [_, _, _], _ => rfl))
theorem bX_meetings {T : Tk} (Z : ZX T) (f : Addr) : BodyX T kb_meetings 1 N_meetings "meetings" (defScope st_meetings) f (defBody st_meetings) o_meetings := fun cdv A outer s H E hr B hB =>
  have tk := takes_of (X := cxT T N_meetings "meetings" (defScope st_meetings) f cdv A outer s H E) rfl rfl rfl rfl
  have hp := passes_of (X := cxT T N_meetings "meetings" (defScope st_meetings) f cdv A outer s H E) rfl
  (mq_cons (ms_expr (me_call (ok_rings_checked Z) tk (hr.mono (by decide : 1 ≤ kb_meetings)) rfl (ma_cons (me_var 0) (ma_cons (me_var 1) ma_nil)) (mLen_cons (mLen_cons mLen_nil))))
    (mq_cons (ms_setLc 2 (own := [("_", 3)]) rfl (blkOk_by (by kernel_rfl)) (ip_range1 (ma_cons (me_fld .hours (me_var 0)) ma_nil) rfl (Z.free 1)) (fun _ _ _ _ _ => (gp_name 3 (hN := sc_meetings.nd))) (fun _ _ _ _ _ => mts_nil) (fun _ _ _ _ _ => me_int) (sw_true rfl rfl rfl (by decide +kernel)) (hN := sc_meetings.nd))
    (mq_cons (ms_for rfl hp (ip_own (tn_Lot_ok Z) tk (hr.mono (by decide : 1 ≤ kb_meetings)) (me_var 0)) (gp_name 4 (hN := sc_meetings.nd)) (fun _ hq => have hB := hq.trans hB; (ms_one (ms_for rfl hp (ip_own (tn_Lot_ok Z) tk (hr.mono (by decide : 1 ≤ kb_meetings)) (me_var 1)) (gp_name 5 (hN := sc_meetings.nd)) (fun _ hq => have hB := hq.trans hB; (mq_cons (ms_set 6 (me_op op_modD.m (me_op op_subD.m (me_var 4) (me_var 5)) (me_fld .hours (me_var 0))) (hN := sc_meetings.nd))
    (ms_one (ms_setIx 2 (me_peek [2] (me_op op_addD.m (me_ix ix_D (me_var 2) (me_var 6)) me_int)) (me_var 6)))))))))
    (ms_one (ms_retO1 hB 2)))))
theorem okX_meetings {T : Tk} (Z : ZX T) : GloX T 2 "meetings" 2 1 m_meetings := by
  obtain ⟨fd, F⟩ := Z.def_ 11 (d := d_meetings)
  exact ⟨_, (Z.glo 32), F.kp, FnX.of0 (fnX F sc_meetings (bX_meetings Z _)) (F.bindsN fun _ _ _ _ _ _ us hl => match us, hl with | [_, _], _ => rfl)⟩
def N__law_agrees : List Str := ["one", "two", "due", "told"]
def kb__law_agrees : Nat := 9
theorem sc__law_agrees : FnScope N__law_agrees ["one", "two", "due"] (defScope st__law_agrees) := ⟨rfl, rfl, rfl, by decide +kernel, rfl, by decide +kernel, by decide +kernel⟩
theorem b__law_agrees {T : Tk} (Z : ZX T) (f : Addr) : BodyOk T kb__law_agrees N__law_agrees "_law_agrees" (defScope st__law_agrees) f (defBody st__law_agrees) o__law_agrees := fun cdv A outer s H E hr B hB =>
  have tk := takes_of (X := cxT T N__law_agrees "_law_agrees" (defScope st__law_agrees) f cdv A outer s H E) rfl rfl rfl rfl
  have hp := passes_of (X := cxT T N__law_agrees "_law_agrees" (defScope st__law_agrees) f cdv A outer s H E) rfl
  (mq_cons (ms_setF 3 (mf_X (mx_call (okX_meetings Z) tk (hr.mono (by decide : 2 ≤ kb__law_agrees)) rfl (ma_cons (me_var 0) (ma_cons (me_var 1) ma_nil)) (mLen_cons (mLen_cons mLen_nil)))) (hN := sc__law_agrees.nd))
    (mq_cons (ms_if (mt_peek [3] (mt_not (mt_val (me_call (ok__law_same Z) tk (hr.mono (by decide : 9 ≤ kb__law_agrees)) rfl (ma_cons (me_var 3) (ma_cons (me_var 2) ma_nil)) (mLen_cons (mLen_cons mLen_nil)))))) (ms_one (ms_ret hB me_bl)) ms_nil)
    (mq_cons (ms_setIx 3 (me_peek [3] (me_op op_addD.m (me_ix ix_D (me_var 3) me_int) me_int)) me_int)
    (mq_cons (ms_app 3 me_int)
    (ms_one (ms_ret hB (me_call (ok__law_same Z) tk (hr.mono (by decide : 9 ≤ kb__law_agrees)) rfl (ma_cons (me_call (ok_meetings Z) tk (hr.mono (by decide : 2 ≤ kb__law_agrees)) rfl (ma_cons (me_var 0) (ma_cons (me_var 1) ma_nil)) (mLen_cons (mLen_cons mLen_nil))) (ma_cons (me_var 2) ma_nil)) (mLen_cons (mLen_cons mLen_nil)))))))))
theorem ok__law_agrees {T : Tk} (Z : ZX T) : Glo T 10 "_law_agrees" 3 m__law_agrees := by
  obtain ⟨fd, F⟩ := Z.def_ 17 (d := d__law_agrees)
  exact Z.fun_ (Z.glo 71) F.kp (FnM.of0 (fnD F sc__law_agrees (b__law_agrees Z _)) (F.bindsN fun _ _ _ _ _ _ us hl => match us, hl with | [_, _, _], _ => rfl))
def N_differences : List Str := ["lot"]
def kb_differences : Nat := 2
theorem sc_differences : FnScope N_differences ["lot"] (defScope st_differences) := ⟨rfl, rfl, rfl, by decide +kernel, rfl, by decide +kernel, by decide +kernel⟩
theorem b_differences {T : Tk} (Z : ZX T) (f : Addr) : BodyOk T kb_differences N_differences "differences" (defScope st_differences) f (defBody st_differences) o_differences := fun cdv A outer s H E hr B hB =>
  have tk := takes_of (X := cxT T N_differences "differences" (defScope st_differences) f cdv A outer s H E) rfl rfl rfl rfl
  have hp := passes_of (X := cxT T N_differences "differences" (defScope st_differences) f cdv A outer s H E) rfl
  (ms_one (ms_ret hB (me_fresh (mf_X (mx_call (okX_meetings Z) tk (hr.mono (by decide : 2 ≤ kb_differences)) rfl (ma_cons (me_var 0) (ma_cons (me_var 0) ma_nil)) (mLen_cons (mLen_cons mLen_nil)))))))
theorem ok_differences {T : Tk} (Z : ZX T) : Glo T 3 "differences" 1 m_differences := by
  obtain ⟨fd, F⟩ := Z.def_ 18 (d := d_differences)
  exact Z.fun_ (Z.glo 72) F.kp (FnM.of0 (fnD F sc_differences (b_differences Z _)) (F.bindsN fun _ _ _ _ _ _ us hl => match us, hl with | [_], _ => rfl))
theorem bX_differences {T : Tk} (Z : ZX T) (f : Addr) : BodyX T kb_differences 1 N_differences "differences" (defScope st_differences) f (defBody st_differences) o_differences := fun cdv A outer s H E hr B hB =>
  have tk := takes_of (X := cxT T N_differences "differences" (defScope st_differences) f cdv A outer s H E) rfl rfl rfl rfl
  have hp := passes_of (X := cxT T N_differences "differences" (defScope st_differences) f cdv A outer s H E) rfl
  (ms_one (ms_retF hB (mf_X (mx_call (okX_meetings Z) tk (hr.mono (by decide : 2 ≤ kb_differences)) rfl (ma_cons (me_var 0) (ma_cons (me_var 0) ma_nil)) (mLen_cons (mLen_cons mLen_nil))))))
theorem okX_differences {T : Tk} (Z : ZX T) : GloX T 3 "differences" 1 1 m_differences := by
  obtain ⟨fd, F⟩ := Z.def_ 18 (d := d_differences)
  exact ⟨_, (Z.glo 72), F.kp, FnX.of0 (fnX F sc_differences (bX_differences Z _)) (F.bindsN fun _ _ _ _ _ _ us hl => match us, hl with | [_], _ => rfl)⟩
def N__law_differs : List Str := ["lot", "due", "told"]
def kb__law_differs : Nat := 9
theorem sc__law_differs : FnScope N__law_differs ["lot", "due"] (defScope st__law_differs) := ⟨rfl, rfl, rfl, by decide +kernel, rfl, by decide +kernel, by decide +kernel⟩
theorem b__law_differs {T : Tk} (Z : ZX T) (f : Addr) : BodyOk T kb__law_differs N__law_differs "_law_differs" (defScope st__law_differs) f (defBody st__law_differs) o__law_differs := fun cdv A outer s H E hr B hB =>
  have tk := takes_of (X := cxT T N__law_differs "_law_differs" (defScope st__law_differs) f cdv A outer s H E) rfl rfl rfl rfl
  have hp := passes_of (X := cxT T N__law_differs "_law_differs" (defScope st__law_differs) f cdv A outer s H E) rfl
  (mq_cons (ms_setF 2 (mf_X (mx_call (okX_differences Z) tk (hr.mono (by decide : 3 ≤ kb__law_differs)) rfl (ma_cons (me_var 0) ma_nil) (mLen_cons mLen_nil))) (hN := sc__law_differs.nd))
    (mq_cons (ms_if (mt_peek [2] (mt_not (mt_val (me_call (ok__law_same Z) tk (hr.mono (by decide : 9 ≤ kb__law_differs)) rfl (ma_cons (me_var 2) (ma_cons (me_var 1) ma_nil)) (mLen_cons (mLen_cons mLen_nil)))))) (ms_one (ms_ret hB me_bl)) ms_nil)
    (mq_cons (ms_setIx 2 (me_peek [2] (me_op op_addD.m (me_ix ix_D (me_var 2) me_int) me_int)) me_int)
    (mq_cons (ms_app 2 me_int)
    (ms_one (ms_ret hB (me_call (ok__law_same Z) tk (hr.mono (by decide : 9 ≤ kb__law_differs)) rfl (ma_cons (me_call (ok_differences Z) tk (hr.mono (by decide : 3 ≤ kb__law_differs)) rfl (ma_cons (me_var 0) ma_nil) (mLen_cons mLen_nil)) (ma_cons (me_var 1) ma_nil)) (mLen_cons (mLen_cons mLen_nil)))))))))
theorem ok__law_differs {T : Tk} (Z : ZX T) : Glo T 10 "_law_differs" 2 m__law_differs := by
  obtain ⟨fd, F⟩ := Z.def_ 19 (d := d__law_differs)
  exact Z.fun_ (Z.glo 73) F.kp (FnM.of0 (fnD F sc__law_differs (b__law_differs Z _)) (F.bindsN fun _ _ _ _ _ _ us hl => match us, hl with | [_, _], _ => rfl))
def N__law_part_a : List Str := ["script", "ways", "n", "few", "ring", "first", "second", "h", "one", "two", "due", "d"]
def kb__law_part_a : Nat := 10
theorem sc__law_part_a : FnScope N__law_part_a ["script"] (defScope st__law_part_a) := ⟨rfl, rfl, rfl, by decide +kernel, rfl, by decide +kernel, by decide +kernel⟩
theorem b__law_part_a {T : Tk} (Z : ZX T) (f : Addr) : BodyOk T kb__law_part_a N__law_part_a "_law_part_a" (defScope st__law_part_a) f (defBody st__law_part_a) o__law_part_a := fun cdv A outer s H E hr B hB =>
  have tk := takes_of (X := cxT T N__law_part_a "_law_part_a" (defScope st__law_part_a) f cdv A outer s H E) rfl rfl rfl rfl
  have hp := passes_of (X := cxT T N__law_part_a "_law_part_a" (defScope st__law_part_a) f cdv A outer s H E) rfl
  (mq_cons (ms_set 1 (me_call (ok__law_draws Z) tk (hr.mono (by decide : 1 ≤ kb__law_part_a)) rfl (ma_cons (me_call (ok__law_cell Z) tk (hr.mono (by decide : 1 ≤ kb__law_part_a)) rfl (ma_cons (me_var 0) (ma_cons me_int ma_nil)) (mLen_cons (mLen_cons mLen_nil))) (ma_cons me_int (ma_cons (me_fresh (mf_lst (ma_cons me_int (ma_cons me_int (ma_cons me_int (ma_cons me_int (ma_cons me_int (ma_cons me_int (ma_cons me_int (ma_cons me_int ma_nil)))))))))) ma_nil))) (mLen_cons (mLen_cons (mLen_cons mLen_nil)))) (hN := sc__law_part_a.nd))
    (mq_cons (ms_set 2 (me_ix ix_D (me_fresh (mf_lst (ma_cons (me_op op_addD.m me_int (me_ix ix_D (me_var 1) me_int)) (ma_cons (me_op op_addD.m me_int (me_ix ix_D (me_var 1) me_int)) (ma_cons (me_op op_addD.m me_int (me_ix ix_D (me_var 1) me_int)) (ma_cons (me_op op_addD.m me_int (me_ix ix_D (me_var 1) me_int)) (ma_cons (me_op op_addD.m me_int (me_ix ix_D (me_var 1) me_int)) ma_nil))))))) (me_callB (call_minD rfl) rfl (Z.free 6) (by kernel_rfl) (ma_cons me_int (ma_cons (me_ix ix_D (me_var 1) me_int) ma_nil)))) (hN := sc__law_part_a.nd))
    (mq_cons (ms_set 3 (me_cmp (op_eqP (hr.mono (by decide : 0 ≤ kb__law_part_a)).units).m (me_ix ix_D (me_var 1) me_int) me_int) (hN := sc__law_part_a.nd))
    (mq_cons (ms_set 4 (me_var 2) (hN := sc__law_part_a.nd))
    (mq_cons (ms_if (mt_cmp (op_eqP (hr.mono (by decide : 0 ≤ kb__law_part_a)).units).m (me_ix ix_D (me_var 1) me_int) me_int) (ms_one (ms_set 4 (me_op op_addD.m (me_op op_modD.m (me_callT call_intD rfl (Z.free 2) (by kernel_rfl) (ma_cons (me_var 2) ma_nil)) me_int) me_int) (hN := sc__law_part_a.nd))) ms_nil)
    (mq_cons (ms_set 5 (me_call (ok__law_drawn_lot Z) tk (hr.mono (by decide : 3 ≤ kb__law_part_a)) rfl (ma_cons (me_call (ok__law_cell Z) tk (hr.mono (by decide : 1 ≤ kb__law_part_a)) rfl (ma_cons (me_var 0) (ma_cons me_int ma_nil)) (mLen_cons (mLen_cons mLen_nil))) (ma_cons me_int (ma_cons (me_var 2) (ma_cons (me_var 3) (ma_cons (me_ix ix_D (me_var 1) me_int) ma_nil))))) (mLen_cons (mLen_cons (mLen_cons (mLen_cons (mLen_cons mLen_nil)))))) (hN := sc__law_part_a.nd))
    (mq_cons (ms_set 6 (me_call (ok__law_drawn_lot Z) tk (hr.mono (by decide : 3 ≤ kb__law_part_a)) rfl (ma_cons (me_call (ok__law_cell Z) tk (hr.mono (by decide : 1 ≤ kb__law_part_a)) rfl (ma_cons (me_var 0) (ma_cons me_int ma_nil)) (mLen_cons (mLen_cons mLen_nil))) (ma_cons me_int (ma_cons (me_var 4) (ma_cons (me_var 3) (ma_cons (me_ix ix_D (me_var 1) me_int) ma_nil))))) (mLen_cons (mLen_cons (mLen_cons (mLen_cons (mLen_cons mLen_nil)))))) (hN := sc__law_part_a.nd))
    (mq_cons (ms_if (mt_cmp (op_eqP (hr.mono (by decide : 0 ≤ kb__law_part_a)).units).m (me_ix ix_D (me_var 1) me_int) me_int) (ms_one (ms_setLcD 6 (own := [("h", 7)]) rfl (blkOk_by (by kernel_rfl)) (ip_seq (me_var 5)) (fun _ _ _ _ _ => (gp_name 7 (hN := sc__law_part_a.nd))) (fun _ _ _ _ _ => (mts_one (mt_cmp op_ltD.m (me_var 7) (me_var 4)))) (fun _ _ _ _ _ => (me_var 7)) (sw_true rfl rfl rfl (by decide +kernel)) (hN := sc__law_part_a.nd))) ms_nil)
    (mq_cons (ms_set 8 (me_make (mk_Lot_2 Z) tk (hr.mono (by decide : 3 ≤ kb__law_part_a)) rfl (Z.glo 27) (ma_cons (me_var 2) (ma_cons (me_fresh (mf_list (me_var 5) rfl (Z.free 7))) ma_nil)) (mLen_cons (mLen_cons mLen_nil))) (hN := sc__law_part_a.nd))
    (mq_cons (ms_set 9 (me_make (mk_Lot_2 Z) tk (hr.mono (by decide : 3 ≤ kb__law_part_a)) rfl (Z.glo 27) (ma_cons (me_var 4) (ma_cons (me_fresh (mf_list (me_var 6) rfl (Z.free 7))) ma_nil)) (mLen_cons (mLen_cons mLen_nil))) (hN := sc__law_part_a.nd))
    (mq_cons (ms_if (mt_cmp (op_neP (hr.mono (by decide : 0 ≤ kb__law_part_a)).units).m (me_var 2) (me_var 4)) (mq_cons (ms_if (mt_w (mw_or (mt_not (mt_val (me_call (ok__law_kept_apart Z) tk (hr.mono (by decide : 3 ≤ kb__law_part_a)) rfl (ma_cons (me_var 8) (ma_cons (me_var 9) ma_nil)) (mLen_cons (mLen_cons mLen_nil))))) (mw_or1 (mt_not (mt_val (me_call (ok__law_kept_apart Z) tk (hr.mono (by decide : 3 ≤ kb__law_part_a)) rfl (ma_cons (me_var 9) (ma_cons (me_var 8) ma_nil)) (mLen_cons (mLen_cons mLen_nil)))))))) (ms_one (ms_ret hB me_bl)) ms_nil)
    (ms_one (ms_ret hB (me_and (me_call (ok__law_same Z) tk (hr.mono (by decide : 9 ≤ kb__law_part_a)) rfl (ma_cons (me_attr (n := none) (fun _ h => by cases h) (t_members_Lot_ok Z) (hr.mono (by decide : 2 ≤ kb__law_part_a)) (me_var 8)) (ma_cons (me_var 5) ma_nil)) (mLen_cons (mLen_cons mLen_nil))) (me_one (me_call (ok__law_same Z) tk (hr.mono (by decide : 9 ≤ kb__law_part_a)) rfl (ma_cons (me_attr (n := none) (fun _ h => by cases h) (t_members_Lot_ok Z) (hr.mono (by decide : 2 ≤ kb__law_part_a)) (me_var 9)) (ma_cons (me_var 6) ma_nil)) (mLen_cons (mLen_cons mLen_nil)))))))) ms_nil)
    (mq_cons (ms_set 10 (me_call (ok__law_counts Z) tk (hr.mono (by decide : 1 ≤ kb__law_part_a)) rfl (ma_cons (me_var 5) (ma_cons (me_var 6) (ma_cons (me_var 2) ma_nil))) (mLen_cons (mLen_cons (mLen_cons mLen_nil)))) (hN := sc__law_part_a.nd))
    (mq_cons (ms_if (mt_w (mw_or (mt_not (mt_val (me_call (ok__law_agrees Z) tk (hr.mono (by decide : 10 ≤ kb__law_part_a)) rfl (ma_cons (me_var 8) (ma_cons (me_var 9) (ma_cons (me_var 10) ma_nil))) (mLen_cons (mLen_cons (mLen_cons mLen_nil)))))) (mw_or1 (mt_not (mt_val (me_call (ok__law_agrees Z) tk (hr.mono (by decide : 10 ≤ kb__law_part_a)) rfl (ma_cons (me_var 9) (ma_cons (me_var 8) (ma_cons (me_fresh (mf_lc (own := [("d", 11)]) rfl (blkOk_by (by kernel_rfl)) (ip_range1 (ma_cons (me_var 2) ma_nil) rfl (Z.free 1)) (fun _ _ _ _ _ => (gp_name 11 (hN := sc__law_part_a.nd))) (fun _ _ _ _ _ => mts_nil) (fun _ _ _ _ _ => (me_ix ix_D (me_var 10) (me_op op_modD.m (me_callT call_intD rfl (Z.free 2) (by kernel_rfl) (ma_cons (me_op op_subD.m me_int (me_var 11)) ma_nil)) (me_var 2)))) (hN := sc__law_part_a.nd))) ma_nil))) (mLen_cons (mLen_cons (mLen_cons mLen_nil))))))))) (ms_one (ms_ret hB me_bl)) ms_nil)
    (mq_cons (ms_set 10 (me_call (ok__law_counts Z) tk (hr.mono (by decide : 1 ≤ kb__law_part_a)) rfl (ma_cons (me_var 5) (ma_cons (me_var 5) (ma_cons (me_var 2) ma_nil))) (mLen_cons (mLen_cons (mLen_cons mLen_nil)))) (hN := sc__law_part_a.nd))
    (mq_cons (ms_if (mt_w (mw_or (mt_not (mt_val (me_call (ok__law_differs Z) tk (hr.mono (by decide : 10 ≤ kb__law_part_a)) rfl (ma_cons (me_var 8) (ma_cons (me_var 10) ma_nil)) (mLen_cons (mLen_cons mLen_nil))))) (mw_or1 (mt_not (mt_val (me_call (ok__law_agrees Z) tk (hr.mono (by decide : 10 ≤ kb__law_part_a)) rfl (ma_cons (me_var 8) (ma_cons (me_var 8) (ma_cons (me_var 10) ma_nil))) (mLen_cons (mLen_cons (mLen_cons mLen_nil))))))))) (ms_one (ms_ret hB me_bl)) ms_nil)
    (mq_cons (ms_if (mt_w (mw_or (mt_not (mt_val (me_call (ok__law_differs Z) tk (hr.mono (by decide : 10 ≤ kb__law_part_a)) rfl (ma_cons (me_var 9) (ma_cons (me_call (ok__law_counts Z) tk (hr.mono (by decide : 1 ≤ kb__law_part_a)) rfl (ma_cons (me_var 6) (ma_cons (me_var 6) (ma_cons (me_var 2) ma_nil))) (mLen_cons (mLen_cons (mLen_cons mLen_nil)))) ma_nil)) (mLen_cons (mLen_cons mLen_nil))))) (mw_or1 (mt_not (mt_val (me_call (ok__law_differs Z) tk (hr.mono (by decide : 10 ≤ kb__law_part_a)) rfl (ma_cons (me_var 8) (ma_cons (me_var 10) ma_nil)) (mLen_cons (mLen_cons mLen_nil)))))))) (ms_one (ms_ret hB me_bl)) ms_nil)
    (ms_one (ms_ret hB (me_and (me_call (ok__law_same Z) tk (hr.mono (by decide : 9 ≤ kb__law_part_a)) rfl (ma_cons (me_attr (n := none) (fun _ h => by cases h) (t_members_Lot_ok Z) (hr.mono (by decide : 2 ≤ kb__law_part_a)) (me_var 8)) (ma_cons (me_var 5) ma_nil)) (mLen_cons (mLen_cons mLen_nil))) (me_one (me_call (ok__law_same Z) tk (hr.mono (by decide : 9 ≤ kb__law_part_a)) rfl (ma_cons (me_attr (n := none) (fun _ h => by cases h) (t_members_Lot_ok Z) (hr.mono (by decide : 2 ≤ kb__law_part_a)) (me_var 9)) (ma_cons (me_var 6) ma_nil)) (mLen_cons (mLen_cons mLen_nil)))))))))))))))))))))))
theorem ok__law_part_a {T : Tk} (Z : ZX T) : Glo T 11 "_law_part_a" 1 m__law_part_a := by
  obtain ⟨fd, F⟩ := Z.def_ 20 (d := d__law_part_a)
  exact Z.fun_ (Z.glo 74) F.kp (FnM.of0 (fnD F sc__law_part_a (b__law_part_a Z _)) (F.bindsN fun _ _ _ _ _ _ us hl => match us, hl with | [_], _ => rfl))
def N__law_round_parts : List Str := ["cell", "n", "base", "doubles", "draws", "parts", "k", "later", "part"]
def kb__law_round_parts : Nat := 1
theorem sc__law_round_parts : FnScope N__law_round_parts ["cell", "n", "base", "doubles"] (defScope st__law_round_parts) := ⟨rfl, rfl, rfl, by decide +kernel, rfl, by decide +kernel, by decide +kernel⟩
theorem b__law_round_parts {T : Tk} (Z : ZX T) (f : Addr) : BodyOk T kb__law_round_parts N__law_round_parts "_law_round_parts" (defScope st__law_round_parts) f (defBody st__law_round_parts) o__law_round_parts := fun cdv A outer s H E hr B hB =>
  have tk := takes_of (X := cxT T N__law_round_parts "_law_round_parts" (defScope st__law_round_parts) f cdv A outer s H E) rfl rfl rfl rfl
  have hp := passes_of (X := cxT T N__law_round_parts "_law_round_parts" (defScope st__law_round_parts) f cdv A outer s H E) rfl
  (mq_cons (ms_set 4 (me_call (ok__law_draws Z) tk (hr.mono (by decide : 1 ≤ kb__law_round_parts)) rfl (ma_cons (me_var 0) (ma_cons me_int (ma_cons (me_fresh (mf_lst (ma_cons me_int (ma_cons (me_var 1) (ma_cons (me_var 1) (ma_cons me_int (ma_cons me_int ma_nil))))))) ma_nil))) (mLen_cons (mLen_cons (mLen_cons mLen_nil)))) (hN := sc__law_round_parts.nd))
    (mq_cons (ms_setF 5 (mf_lst ma_nil) (hN := sc__law_round_parts.nd))
    (mq_cons (ms_for rfl hp (ip_range1 (ma_cons (me_op op_addD.m me_int (me_ix ix_D (me_var 4) me_int)) ma_nil) rfl (Z.free 1)) (gp_name 6 (hN := sc__law_round_parts.nd)) (fun _ hq => have hB := hq.trans hB; (mq_cons (ms_set 7 (me_op op_addD.m (me_op op_mulD.m (me_var 6) (me_ix ix_D (me_var 4) me_int)) (me_op op_fdivD.m (me_var 6) (me_op op_addD.m me_int (me_ix ix_D (me_var 4) me_int)))) (hN := sc__law_round_parts.nd))
    (mq_cons (ms_set 8 (me_tup (ma_cons (me_op op_addD.m (me_var 2) (me_op op_modD.m (me_callT call_intD rfl (Z.free 2) (by kernel_rfl) (ma_cons (me_var 7) ma_nil)) me_int)) (ma_cons (me_op op_modD.m (me_callT call_intD rfl (Z.free 2) (by kernel_rfl) (ma_cons (me_op op_addD.m (me_ix ix_D (me_var 4) me_int) (me_op op_mulD.m (me_var 6) (me_ix ix_D (me_var 4) me_int))) ma_nil)) (me_var 1)) ma_nil))) (hN := sc__law_round_parts.nd))
    (ms_one (ms_if (mt_peek [5] (mt_w (mw_or (mt_val (me_var 3)) (mw_or1 (mt_cmp (op_ninPD (hr.mono (by decide : 0 ≤ kb__law_round_parts))) (me_var 8) (me_var 5)))))) (ms_one (ms_app 5 (me_var 8))) ms_nil))))))
    (mq_frz 5 (ms_one (ms_ret hB (me_var 5)))))))
theorem ok__law_round_parts {T : Tk} (Z : ZX T) : Glo T 2 "_law_round_parts" 4 m__law_round_parts := by
  obtain ⟨fd, F⟩ := Z.def_ 21 (d := d__law_round_parts)
  exact Z.fun_ (Z.glo 75) F.kp (FnM.of0 (fnD F sc__law_round_parts (b__law_round_parts Z _)) (F.bindsN fun _ _ _ _ _ _ us hl => match us, hl with | [_, _, _, _], _ => rfl))
def N__law_any_parts : List Str := ["cell", "n", "base", "doubles", "menu", "k", "draws", "parts", "part"]
def kb__law_any_parts : Nat := 1
theorem sc__law_any_parts : FnScope N__law_any_parts ["cell", "n", "base", "doubles"] (defScope st__law_any_parts) := ⟨rfl, rfl, rfl, by decide +kernel, rfl, by decide +kernel, by decide +kernel⟩
theorem b__law_any_parts {T : Tk} (Z : ZX T) (f : Addr) : BodyOk T kb__law_any_parts N__law_any_parts "_law_any_parts" (defScope st__law_any_parts) f (defBody st__law_any_parts) o__law_any_parts := fun cdv A outer s H E hr B hB =>
  have tk := takes_of (X := cxT T N__law_any_parts "_law_any_parts" (defScope st__law_any_parts) f cdv A outer s H E) rfl rfl rfl rfl
  have hp := passes_of (X := cxT T N__law_any_parts "_law_any_parts" (defScope st__law_any_parts) f cdv A outer s H E) rfl
  (mq_cons (ms_set 4 (me_fresh (mf_lst (ma_cons me_int ma_nil))) (hN := sc__law_any_parts.nd))
    (mq_cons (ms_for rfl hp (ip_range1 (ma_cons me_int ma_nil) rfl (Z.free 1)) (gp_name 5 (hN := sc__law_any_parts.nd)) (fun _ hq => have hB := hq.trans hB; (ms_one (ms_set 4 (me_fresh (mf_cat (me_var 4) (me_fresh (mf_lst (ma_cons me_int (ma_cons (me_var 1) ma_nil)))))) (hN := sc__law_any_parts.nd)))))
    (mq_cons (ms_set 6 (me_call (ok__law_draws Z) tk (hr.mono (by decide : 1 ≤ kb__law_any_parts)) rfl (ma_cons (me_var 0) (ma_cons me_int (ma_cons (me_var 4) ma_nil))) (mLen_cons (mLen_cons (mLen_cons mLen_nil)))) (hN := sc__law_any_parts.nd))
    (mq_cons (ms_setF 7 (mf_lst ma_nil) (hN := sc__law_any_parts.nd))
    (mq_cons (ms_for rfl hp (ip_range1 (ma_cons (me_ix ix_D (me_var 6) me_int) ma_nil) rfl (Z.free 1)) (gp_name 5 (hN := sc__law_any_parts.nd)) (fun _ hq => have hB := hq.trans hB; (mq_cons (ms_set 8 (me_tup (ma_cons (me_op op_addD.m (me_var 2) (me_ix ix_D (me_var 6) (me_op op_addD.m (me_op op_mulD.m me_int (me_var 5)) me_int))) (ma_cons (me_ix ix_D (me_var 6) (me_op op_addD.m (me_op op_mulD.m me_int (me_var 5)) me_int)) ma_nil))) (hN := sc__law_any_parts.nd))
    (ms_one (ms_if (mt_peek [7] (mt_w (mw_or (mt_val (me_var 3)) (mw_or1 (mt_cmp (op_ninPD (hr.mono (by decide : 0 ≤ kb__law_any_parts))) (me_var 8) (me_var 7)))))) (ms_one (ms_app 7 (me_var 8))) ms_nil)))))
    (mq_frz 7 (ms_one (ms_ret hB (me_var 7)))))))))
theorem ok__law_any_parts {T : Tk} (Z : ZX T) : Glo T 2 "_law_any_parts" 4 m__law_any_parts := by
  obtain ⟨fd, F⟩ := Z.def_ 22 (d := d__law_any_parts)
  exact Z.fun_ (Z.glo 76) F.kp (FnM.of0 (fnD F sc__law_any_parts (b__law_any_parts Z _)) (F.bindsN fun _ _ _ _ _ _ us hl => match us, hl with | [_, _, _, _], _ => rfl))
def N__law_due : List Str := ["parts", "n", "index", "met", "h", "i", "s"]
def kb__law_due : Nat := 0
theorem sc__law_due : FnScope N__law_due ["parts", "n", "index"] (defScope st__law_due) := ⟨rfl, rfl, rfl, by decide +kernel, rfl, by decide +kernel, by decide +kernel⟩
theorem b__law_due {T : Tk} (Z : ZX T) (f : Addr) : BodyOk T kb__law_due N__law_due "_law_due" (defScope st__law_due) f (defBody st__law_due) o__law_due := fun cdv A outer s H E hr B hB =>
  have tk := takes_of (X := cxT T N__law_due "_law_due" (defScope st__law_due) f cdv A outer s H E) rfl rfl rfl rfl
  have hp := passes_of (X := cxT T N__law_due "_law_due" (defScope st__law_due) f cdv A outer s H E) rfl
  (mq_cons (ms_setF 3 (mf_lc (own := [("h", 4)]) rfl (blkOk_by (by kernel_rfl)) (ip_range1 (ma_cons (me_var 1) ma_nil) rfl (Z.free 1)) (fun _ _ _ _ _ => (gp_name 4 (hN := sc__law_due.nd))) (fun _ _ _ _ _ => mts_nil) (fun _ _ _ _ _ => me_int) (hN := sc__law_due.nd)) (hN := sc__law_due.nd))
    (mq_cons (ms_for rfl hp (ip_seq (me_var 0)) (gp_tup rfl (gp_cons (gp_name 5 (hN := sc__law_due.nd)) (gp_cons (gp_name 6 (hN := sc__law_due.nd)) gp_nil))) (fun _ hq => have hB := hq.trans hB; (ms_one (ms_if (mt_cmp (op_eqP (hr.mono (by decide : 0 ≤ kb__law_due)).units).m (me_var 5) (me_var 2)) (mq_cons (ms_if (mt_peek [3] (mt_cmp (op_eqP (hr.mono (by decide : 0 ≤ kb__law_due)).units).m (me_ix ix_D (me_var 3) (me_var 6)) me_int)) (ms_one (ms_ret hB (me_tup (ma_cons me_str (ma_cons (me_var 6) ma_nil))))) ms_nil)
    (ms_one (ms_setIx 3 me_int (me_var 6)))) ms_nil))))
    (mq_frz 3 (ms_one (ms_ret hB (me_tup (ma_cons me_str (ma_cons (me_fresh (mf_lc (own := [("h", 4)]) rfl (blkOk_by (by kernel_rfl)) (ip_range1 (ma_cons (me_var 1) ma_nil) rfl (Z.free 1)) (fun _ _ _ _ _ => (gp_name 4 (hN := sc__law_due.nd))) (fun _ _ _ _ _ => (mts_one (mt_cmp (op_eqP (hr.mono (by decide : 0 ≤ kb__law_due)).units).m (me_ix ix_D (me_var 3) (me_var 4)) me_int))) (fun _ _ _ _ _ => (me_var 4)) (hN := sc__law_due.nd))) ma_nil))))))))
theorem ok__law_due {T : Tk} (Z : ZX T) : Glo T 1 "_law_due" 3 m__law_due := by
  obtain ⟨fd, F⟩ := Z.def_ 23 (d := d__law_due)
  exact Z.fun_ (Z.glo 77) F.kp (FnM.of0 (fnD F sc__law_due (b__law_due Z _)) (F.bindsN fun _ _ _ _ _ _ us hl => match us, hl with | [_, _, _], _ => rfl))
def N_starts_of : List Str := ["parts", "hours", "index", "tile", "start"]
def kb_starts_of : Nat := 3
theorem sc_starts_of : FnScope N_starts_of ["parts", "hours", "index"] (defScope st_starts_of) := ⟨rfl, rfl, rfl, by decide +kernel, rfl, by decide +kernel, by decide +kernel⟩
theorem b_starts_of {T : Tk} (Z : ZX T) (f : Addr) : BodyOk T kb_starts_of N_starts_of "starts_of" (defScope st_starts_of) f (defBody st_starts_of) o_starts_of := fun cdv A outer s H E hr B hB =>
  have tk := takes_of (X := cxT T N_starts_of "starts_of" (defScope st_starts_of) f cdv A outer s H E) rfl rfl rfl rfl
  have hp := passes_of (X := cxT T N_starts_of "starts_of" (defScope st_starts_of) f cdv A outer s H E) rfl
  (ms_one (ms_ret hB (me_make (mk_Lot_2 Z) tk (hr.mono (by decide : 3 ≤ kb_starts_of)) rfl (Z.glo 27) (ma_cons (me_var 1) (ma_cons (me_fresh (mf_lc (own := [("tile", 3), ("start", 4)]) rfl (blkOk_by (by kernel_rfl)) (ip_seq (me_var 0)) (fun _ _ _ _ _ => (gp_tup rfl (gp_cons (gp_name 3 (hN := sc_starts_of.nd)) (gp_cons (gp_name 4 (hN := sc_starts_of.nd)) gp_nil)))) (fun _ _ _ _ _ => (mts_one (mt_cmp (op_eqP (hr.mono (by decide : 0 ≤ kb_starts_of)).units).m (me_var 3) (me_var 2)))) (fun _ _ _ _ _ => (me_var 4)) (hN := sc_starts_of.nd))) ma_nil)) (mLen_cons (mLen_cons mLen_nil)))))
theorem ok_starts_of {T : Tk} (Z : ZX T) : Glo T 4 "starts_of" 3 m_starts_of := by
  obtain ⟨fd, F⟩ := Z.def_ 24 (d := d_starts_of)
  exact Z.fun_ (Z.glo 78) F.kp (FnM.of0 (fnD F sc_starts_of (b_starts_of Z _)) (F.bindsN fun _ _ _ _ _ _ us hl => match us, hl with | [_, _, _], _ => rfl))
theorem b_starts_of_B100 {T : Tk} (Z : ZX T) (f : Addr) : BodyOk T kb_starts_of N_starts_of "starts_of" (defScope st_starts_of) f (defBody st_starts_of) o_starts_of_B100 := fun cdv A outer s H E hr B hB =>
  have tk := takes_of (X := cxT T N_starts_of "starts_of" (defScope st_starts_of) f cdv A outer s H E) rfl rfl rfl rfl
  have hp := passes_of (X := cxT T N_starts_of "starts_of" (defScope st_starts_of) f cdv A outer s H E) rfl
  (ms_one (ms_ret hB (me_make (mk_Lot_2 Z) tk (hr.mono (by decide : 3 ≤ kb_starts_of)) rfl (Z.glo 27) (ma_cons (me_var 1) (ma_cons (me_fresh (mf_lc (own := [("tile", 3), ("start", 4)]) rfl (blkOk_by (by kernel_rfl)) (ip_bor 0) (fun _ _ _ _ _ => (gp_tup rfl (gp_cons (gp_name 3 (hN := sc_starts_of.nd)) (gp_cons (gp_name 4 (hN := sc_starts_of.nd)) gp_nil)))) (fun _ _ _ _ _ => (mts_one (mt_cmp (op_eqP (hr.mono (by decide : 0 ≤ kb_starts_of)).units).m (me_var 3) (me_var 2)))) (fun _ _ _ _ _ => (me_var 4)) (hN := sc_starts_of.nd))) ma_nil)) (mLen_cons (mLen_cons mLen_nil)))))
theorem ok_starts_of_B100 {T : Tk} (Z : ZX T) : GloB T 4 "starts_of" [true, false, false] m_starts_of_B100 := by
  obtain ⟨fd, F⟩ := Z.def_ 24 (d := d_starts_of)
  exact ⟨_, (Z.glo 78), F.kp, FnB.of0 (fnB F sc_starts_of (b_starts_of_B100 Z _)) (F.bindsN fun _ _ _ _ _ _ us hl => match us, hl with | [_, _, _], _ => rfl)⟩
theorem tx_RepeatedHour_ok {T : Tk} (Z : ZX T) : ∀ c b, tx_RepeatedHour c = some b → PySem.W.exmOne T.K (.ref (ca T.K c)) (.ref (He.ga T.K "RepeatedHour")) = some b := by
  intro c b h
  unfold tx_RepeatedHour at h
  split at h
  · cases h
    exact of_decide_eq_true (Z.fact 79)
  · cases h
    exact of_decide_eq_true (Z.fact 80)
  · cases h
    exact of_decide_eq_true (Z.fact 81)
  · cases h
theorem tk_RepeatedHour_ok {T : Tk} (Z : ZX T) : ∀ c b, tk_RepeatedHour c = some b → PySem.W.kitOne T.K (.ref (ca T.K c)) (.ref (He.ga T.K "RepeatedHour")) = some b := by
  intro c b h
  unfold tk_RepeatedHour at h
  split at h
  · cases h
    exact of_decide_eq_true (Z.fact 83)
  · cases h
    exact of_decide_eq_true (Z.fact 84)
  · cases h
    exact of_decide_eq_true (Z.fact 85)
  · cases h
theorem tk_BadNumber_ok {T : Tk} (Z : ZX T) : ∀ c b, tk_BadNumber c = some b → PySem.W.kitOne T.K (.ref (ca T.K c)) (.ref (He.ga T.K "BadNumber")) = some b := by
  intro c b h
  unfold tk_BadNumber at h
  split at h
  · cases h
    exact of_decide_eq_true (Z.fact 86)
  · cases h
    exact of_decide_eq_true (Z.fact 87)
  · cases h
    exact of_decide_eq_true (Z.fact 88)
  · cases h
def N__law_refused_by_base : List Str := ["parts", "n", "index", "told", "e"]
def kb__law_refused_by_base : Nat := 4
theorem sc__law_refused_by_base : FnScope N__law_refused_by_base ["parts", "n", "index"] (defScope st__law_refused_by_base) := ⟨rfl, rfl, rfl, by decide +kernel, rfl, by decide +kernel, by decide +kernel⟩
theorem b__law_refused_by_base {T : Tk} (Z : ZX T) (f : Addr) : BodyOk T kb__law_refused_by_base N__law_refused_by_base "_law_refused_by_base" (defScope st__law_refused_by_base) f (defBody st__law_refused_by_base) o__law_refused_by_base := fun cdv A outer s H E hr B hB =>
  have tk := takes_of (X := cxT T N__law_refused_by_base "_law_refused_by_base" (defScope st__law_refused_by_base) f cdv A outer s H E) rfl rfl rfl rfl
  have hp := passes_of (X := cxT T N__law_refused_by_base "_law_refused_by_base" (defScope st__law_refused_by_base) f cdv A outer s H E) rfl
  (mq_cons (ms_set 3 me_bl (hN := sc__law_refused_by_base.nd))
    (mq_cons (ms_try rfl rfl sc__law_refused_by_base.nd tk (fun _ _ _ tk hp => (ms_one (ms_expr (me_call (ok_starts_of Z) tk (hr.mono (by decide : 4 ≤ kb__law_refused_by_base)) rfl (ma_cons (me_fresh (mf_list (me_var 0) rfl (Z.free 7))) (ma_cons (me_var 1) (ma_cons (me_var 2) ma_nil))) (mLen_cons (mLen_cons (mLen_cons mLen_nil))))))) (HdsX.as (i := 4) ⟨rfl, by decide, .inl (Z.glo 57)⟩ (tx_WatchError_ok Z) rfl rfl (fun a oe cls d pn hz hf => (ms_one (ms_set 3 (me_and (me_xi 4 hz hf (cv := .ty _) (u := .type _) (fun _ h => h) (tk_ValueError_ok Z) (pe_ty rfl (Z.free 45) (by kernel_rfl)) rfl (Z.free 33)) (me_and (me_xi 4 hz hf (cv := .ref _) (u := .ref _) (fun _ h => h) (tk_RepeatedHour_ok Z) (pe_cl rfl (Z.glo 82)) rfl (Z.free 33)) (me_one (me_not (me_xi 4 hz hf (cv := .ref _) (u := .ref _) (fun _ h => h) (tk_BadNumber_ok Z) (pe_cl rfl (Z.glo 89)) rfl (Z.free 33)))))) (hN := sc__law_refused_by_base.nd)))) HdsX.nil))
    (ms_one (ms_ret hB (me_var 3)))))
theorem ok__law_refused_by_base {T : Tk} (Z : ZX T) : Glo T 5 "_law_refused_by_base" 3 m__law_refused_by_base := by
  obtain ⟨fd, F⟩ := Z.def_ 25 (d := d__law_refused_by_base)
  exact Z.fun_ (Z.glo 90) F.kp (FnM.of0 (fnD F sc__law_refused_by_base (b__law_refused_by_base Z _)) (F.bindsN fun _ _ _ _ _ _ us hl => match us, hl with | [_, _, _], _ => rfl))
theorem ti_Lot_ok {T : Tk} (Z : ZX T) : ∀ c b, ti_Lot c = some b → PySem.W.kitOne T.K (.ref (ca T.K c)) (.ref (He.ga T.K "Lot")) = some b := by
  intro c b h
  unfold ti_Lot at h
  split at h
  · cases h
    exact of_decide_eq_true (Z.fact 91)
  · cases h
theorem bX_Lot_members {T : Tk} (Z : ZX T) (f : Addr) : BodyX T kb_Lot_members 1 N_Lot_members "Lot.members" (defScope st_Lot_members) f (defBody st_Lot_members) o_Lot_members := fun cdv A outer s H E hr B hB =>
  have tk := takes_of (X := cxT T N_Lot_members "Lot.members" (defScope st_Lot_members) f cdv A outer s H E) rfl rfl rfl rfl
  have hp := passes_of (X := cxT T N_Lot_members "Lot.members" (defScope st_Lot_members) f cdv A outer s H E) rfl
  (ms_one (ms_retF hB (mf_list (me_fld .u_members (me_var 0)) rfl (Z.free 7))))
theorem okX_Lot_members {T : Tk} (Z : ZX T) : FnX T 1 ((pA .Lot "members") T.K) 1 1 m_Lot_members := by
  obtain ⟨fd, F⟩ := Z.def_ 15 (d := d_Lot_members)
  exact FnX.of0 (fnX F sc_Lot_members (bX_Lot_members Z _)) (F.bindsN fun _ _ _ _ _ _ us hl => match us, hl with | [_], _ => rfl)
theorem t_membersX1_Lot_ok {T : Tk} (Z : ZX T) : ∀ c g, t_membersX1_Lot c = some g → PropX T 1 c "members" 1 g := by
  intro c g h
  unfold t_membersX1_Lot at h
  split at h
  · cases h
    exact ⟨_, _, prB_ok (Z.fact 69), (okX_Lot_members Z).mono (by decide : 1 ≤ 1)⟩
  · cases h
def N__law_right : List Str := ["parts", "n", "index", "due", "handed", "lot", "told", "e", "row"]
def kb__law_right : Nat := 9
theorem sc__law_right : FnScope N__law_right ["parts", "n", "index"] (defScope st__law_right) := ⟨rfl, rfl, rfl, by decide +kernel, rfl, by decide +kernel, by decide +kernel⟩
theorem b__law_right {T : Tk} (Z : ZX T) (f : Addr) : BodyOk T kb__law_right N__law_right "_law_right" (defScope st__law_right) f (defBody st__law_right) o__law_right := fun cdv A outer s H E hr B hB =>
  have tk := takes_of (X := cxT T N__law_right "_law_right" (defScope st__law_right) f cdv A outer s H E) rfl rfl rfl rfl
  have hp := passes_of (X := cxT T N__law_right "_law_right" (defScope st__law_right) f cdv A outer s H E) rfl
  (mq_cons (ms_set 3 (me_call (ok__law_due Z) tk (hr.mono (by decide : 1 ≤ kb__law_right)) rfl (ma_cons (me_var 0) (ma_cons (me_var 1) (ma_cons (me_var 2) ma_nil))) (mLen_cons (mLen_cons (mLen_cons mLen_nil)))) (hN := sc__law_right.nd))
    (mq_cons (ms_setF 4 (mf_list (me_var 0) rfl (Z.free 7)) (hN := sc__law_right.nd))
    (mq_cons (ms_set 5 me_non (hN := sc__law_right.nd))
    (mq_cons (ms_set 6 (me_tup (ma_cons me_str (ma_cons me_int ma_nil))) (hN := sc__law_right.nd))
    (mq_cons (ms_try rfl rfl sc__law_right.nd tk (fun _ _ _ tk hp => (ms_one (ms_set 5 (me_callB' (ok_starts_of_B100 Z) tk (hr.mono (by decide : 4 ≤ kb__law_right)) rfl (mab_lend 4 (mab_cons (me_var 1) (mab_cons (me_var 2) mab_nil)))) (hN := sc__law_right.nd)))) (HdsX.as (i := 7) ⟨rfl, by decide, .inl (Z.glo 82)⟩ (tx_RepeatedHour_ok Z) rfl rfl (fun a oe cls d pn hz hf => (ms_one (ms_set 6 (me_tup (ma_cons me_str (ma_cons (me_xf 7 .hour hz hf) ma_nil))) (hN := sc__law_right.nd)))) HdsX.nil))
    (mq_cons (ms_if (mt_peek [4] (mt_not (mt_val (me_call (ok__law_same Z) tk (hr.mono (by decide : 9 ≤ kb__law_right)) rfl (ma_cons (me_var 4) (ma_cons (me_var 0) ma_nil)) (mLen_cons (mLen_cons mLen_nil)))))) (ms_one (ms_ret hB me_bl)) ms_nil)
    (mq_cons (ms_if (mt_cmp (op_eqP (hr.mono (by decide : 0 ≤ kb__law_right)).units).m (me_ix ix_D (me_var 3) me_int) me_str) (ms_one (ms_ret hB (me_and (me_call (ok__law_same Z) tk (hr.mono (by decide : 9 ≤ kb__law_right)) rfl (ma_cons (me_var 6) (ma_cons (me_var 3) ma_nil)) (mLen_cons (mLen_cons mLen_nil))) (me_one (me_call (ok__law_refused_by_base Z) tk (hr.mono (by decide : 5 ≤ kb__law_right)) rfl (ma_cons (me_var 0) (ma_cons (me_var 1) (ma_cons (me_var 2) ma_nil))) (mLen_cons (mLen_cons (mLen_cons mLen_nil)))))))) ms_nil)
    (mq_cons (ms_if (mt_not (mt_val (me_isi (isOwn_ok (Z.fact 92) (ti_Lot_ok Z)) (pe_cl rfl (Z.glo 27)) (me_var 5) rfl (Z.free 33)))) (ms_one (ms_ret hB me_bl)) ms_nil)
    (mq_cons (ms_clr 4)
    (mq_cons (ms_setF 8 (mf_X (mx_prop (t_membersX1_Lot_ok Z) (hr.mono (by decide : 2 ≤ kb__law_right)) (me_var 5))) (hN := sc__law_right.nd))
    (mq_cons (ms_if (mt_peek [8] (mt_w (mw_or (mt_not (mt_val (me_call (ok__law_same Z) tk (hr.mono (by decide : 9 ≤ kb__law_right)) rfl (ma_cons (me_fld .hours (me_var 5)) (ma_cons (me_var 1) ma_nil)) (mLen_cons (mLen_cons mLen_nil))))) (mw_or1 (mt_not (mt_val (me_call (ok__law_same Z) tk (hr.mono (by decide : 9 ≤ kb__law_right)) rfl (ma_cons (me_var 8) (ma_cons (me_ix ix_D (me_var 3) me_int) ma_nil)) (mLen_cons (mLen_cons mLen_nil))))))))) (ms_one (ms_ret hB me_bl)) ms_nil)
    (mq_cons (ms_app 8 (me_var 1))
    (ms_one (ms_ret hB (me_call (ok__law_same Z) tk (hr.mono (by decide : 9 ≤ kb__law_right)) rfl (ma_cons (me_attr (n := none) (fun _ h => by cases h) (t_members_Lot_ok Z) (hr.mono (by decide : 2 ≤ kb__law_right)) (me_var 5)) (ma_cons (me_ix ix_D (me_var 3) me_int) ma_nil)) (mLen_cons (mLen_cons mLen_nil)))))))))))))))))
theorem ok__law_right {T : Tk} (Z : ZX T) : Glo T 10 "_law_right" 3 m__law_right := by
  obtain ⟨fd, F⟩ := Z.def_ 26 (d := d__law_right)
  exact Z.fun_ (Z.glo 93) F.kp (FnM.of0 (fnD F sc__law_right (b__law_right Z _)) (F.bindsN fun _ _ _ _ _ _ us hl => match us, hl with | [_, _, _], _ => rfl))
theorem tx_BadNumber_ok {T : Tk} (Z : ZX T) : ∀ c b, tx_BadNumber c = some b → PySem.W.exmOne T.K (.ref (ca T.K c)) (.ref (He.ga T.K "BadNumber")) = some b := by
  intro c b h
  unfold tx_BadNumber at h
  split at h
  · cases h
    exact of_decide_eq_true (Z.fact 94)
  · cases h
    exact of_decide_eq_true (Z.fact 95)
  · cases h
    exact of_decide_eq_true (Z.fact 96)
  · cases h
def N__law_bad_hours : List Str := ["parts", "hours", "index", "told", "e"]
def kb__law_bad_hours : Nat := 9
theorem sc__law_bad_hours : FnScope N__law_bad_hours ["parts", "hours", "index"] (defScope st__law_bad_hours) := ⟨rfl, rfl, rfl, by decide +kernel, rfl, by decide +kernel, by decide +kernel⟩
theorem b__law_bad_hours {T : Tk} (Z : ZX T) (f : Addr) : BodyOk T kb__law_bad_hours N__law_bad_hours "_law_bad_hours" (defScope st__law_bad_hours) f (defBody st__law_bad_hours) o__law_bad_hours := fun cdv A outer s H E hr B hB =>
  have tk := takes_of (X := cxT T N__law_bad_hours "_law_bad_hours" (defScope st__law_bad_hours) f cdv A outer s H E) rfl rfl rfl rfl
  have hp := passes_of (X := cxT T N__law_bad_hours "_law_bad_hours" (defScope st__law_bad_hours) f cdv A outer s H E) rfl
  (mq_cons (ms_set 3 (me_tup (ma_cons me_str (ma_cons me_str (ma_cons me_int ma_nil)))) (hN := sc__law_bad_hours.nd))
    (mq_cons (ms_try rfl rfl sc__law_bad_hours.nd tk (fun _ _ _ tk hp => (ms_one (ms_expr (me_call (ok_starts_of Z) tk (hr.mono (by decide : 4 ≤ kb__law_bad_hours)) rfl (ma_cons (me_fresh (mf_list (me_var 0) rfl (Z.free 7))) (ma_cons (me_var 1) (ma_cons (me_var 2) ma_nil))) (mLen_cons (mLen_cons (mLen_cons mLen_nil))))))) (HdsX.as (i := 4) ⟨rfl, by decide, .inl (Z.glo 89)⟩ (tx_BadNumber_ok Z) rfl rfl (fun a oe cls d pn hz hf => (ms_one (ms_set 3 (me_tup (ma_cons me_str (ma_cons (me_xf 4 .name hz hf) (ma_cons (me_xf 4 .value hz hf) ma_nil)))) (hN := sc__law_bad_hours.nd)))) HdsX.nil))
    (ms_one (ms_ret hB (me_call (ok__law_same Z) tk (hr.mono (by decide : 9 ≤ kb__law_bad_hours)) rfl (ma_cons (me_var 3) (ma_cons (me_tup (ma_cons me_str (ma_cons me_str (ma_cons (me_var 1) ma_nil)))) ma_nil)) (mLen_cons (mLen_cons mLen_nil)))))))
theorem ok__law_bad_hours {T : Tk} (Z : ZX T) : Glo T 10 "_law_bad_hours" 3 m__law_bad_hours := by
  obtain ⟨fd, F⟩ := Z.def_ 27 (d := d__law_bad_hours)
  exact Z.fun_ (Z.glo 97) F.kp (FnM.of0 (fnD F sc__law_bad_hours (b__law_bad_hours Z _)) (F.bindsN fun _ _ _ _ _ _ us hl => match us, hl with | [_, _, _], _ => rfl))
def N__law_part_b : List Str := ["script", "first", "n", "base", "parts", "once", "part", "index", "hours"]
def kb__law_part_b : Nat := 10
theorem sc__law_part_b : FnScope N__law_part_b ["script"] (defScope st__law_part_b) := ⟨rfl, rfl, rfl, by decide +kernel, rfl, by decide +kernel, by decide +kernel⟩
theorem b__law_part_b {T : Tk} (Z : ZX T) (f : Addr) : BodyOk T kb__law_part_b N__law_part_b "_law_part_b" (defScope st__law_part_b) f (defBody st__law_part_b) o__law_part_b := fun cdv A outer s H E hr B hB =>
  have tk := takes_of (X := cxT T N__law_part_b "_law_part_b" (defScope st__law_part_b) f cdv A outer s H E) rfl rfl rfl rfl
  have hp := passes_of (X := cxT T N__law_part_b "_law_part_b" (defScope st__law_part_b) f cdv A outer s H E) rfl
  (mq_cons (ms_set 1 (me_call (ok__law_draws Z) tk (hr.mono (by decide : 1 ≤ kb__law_part_b)) rfl (ma_cons (me_call (ok__law_cell Z) tk (hr.mono (by decide : 1 ≤ kb__law_part_b)) rfl (ma_cons (me_var 0) (ma_cons me_int ma_nil)) (mLen_cons (mLen_cons mLen_nil))) (ma_cons me_int (ma_cons (me_fresh (mf_lst (ma_cons me_int (ma_cons me_int (ma_cons me_int (ma_cons me_int (ma_cons me_int (ma_cons me_int (ma_cons me_int (ma_cons me_int ma_nil)))))))))) ma_nil))) (mLen_cons (mLen_cons (mLen_cons mLen_nil)))) (hN := sc__law_part_b.nd))
    (mq_cons (ms_set 2 (me_op op_addD.m me_int (me_ix ix_D (me_var 1) me_int)) (hN := sc__law_part_b.nd))
    (mq_cons (ms_if (mt_cmp (op_eqP (hr.mono (by decide : 0 ≤ kb__law_part_b)).units).m (me_ix ix_D (me_var 1) me_int) me_int) (ms_one (ms_set 2 (me_op op_addD.m me_int (me_ix ix_D (me_var 1) me_int)) (hN := sc__law_part_b.nd))) ms_nil)
    (mq_cons (ms_if (mt_cmp (op_eqP (hr.mono (by decide : 0 ≤ kb__law_part_b)).units).m (me_ix ix_D (me_var 1) me_int) me_int) (ms_one (ms_set 2 me_int (hN := sc__law_part_b.nd))) ms_nil)
    (mq_cons (ms_set 3 me_int (hN := sc__law_part_b.nd))
    (mq_cons (ms_if (mt_cmp (op_eqP (hr.mono (by decide : 0 ≤ kb__law_part_b)).units).m (me_ix ix_D (me_var 1) me_int) me_int) (ms_one (ms_set 3 (me_ix ix_D (me_var 1) me_int) (hN := sc__law_part_b.nd))) ms_nil)
    (mq_cons (ms_if (mt_cmp (op_eqP (hr.mono (by decide : 0 ≤ kb__law_part_b)).units).m (me_ix ix_D (me_var 1) me_int) me_int) (ms_one (ms_set 4 (me_call (ok__law_round_parts Z) tk (hr.mono (by decide : 2 ≤ kb__law_part_b)) rfl (ma_cons (me_call (ok__law_cell Z) tk (hr.mono (by decide : 1 ≤ kb__law_part_b)) rfl (ma_cons (me_var 0) (ma_cons me_int ma_nil)) (mLen_cons (mLen_cons mLen_nil))) (ma_cons (me_var 2) (ma_cons (me_var 3) (ma_cons (me_cmp (op_eqP (hr.mono (by decide : 0 ≤ kb__law_part_b)).units).m (me_ix ix_D (me_var 1) me_int) me_int) ma_nil)))) (mLen_cons (mLen_cons (mLen_cons (mLen_cons mLen_nil))))) (hN := sc__law_part_b.nd))) (ms_one (ms_set 4 (me_call (ok__law_any_parts Z) tk (hr.mono (by decide : 2 ≤ kb__law_part_b)) rfl (ma_cons (me_call (ok__law_cell Z) tk (hr.mono (by decide : 1 ≤ kb__law_part_b)) rfl (ma_cons (me_var 0) (ma_cons me_int ma_nil)) (mLen_cons (mLen_cons mLen_nil))) (ma_cons (me_var 2) (ma_cons (me_var 3) (ma_cons (me_cmp (op_eqP (hr.mono (by decide : 0 ≤ kb__law_part_b)).units).m (me_ix ix_D (me_var 1) me_int) me_int) ma_nil)))) (mLen_cons (mLen_cons (mLen_cons (mLen_cons mLen_nil))))) (hN := sc__law_part_b.nd))))
    (mq_cons (ms_setF 5 (mf_lst ma_nil) (hN := sc__law_part_b.nd))
    (mq_cons (ms_for rfl hp (ip_seq (me_var 4)) (gp_name 6 (hN := sc__law_part_b.nd)) (fun _ hq => have hB := hq.trans hB; (ms_one (ms_if (mt_peek [5] (mt_cmp (op_ninPD (hr.mono (by decide : 0 ≤ kb__law_part_b))) (me_var 6) (me_var 5))) (ms_one (ms_app 5 (me_var 6))) ms_nil))))
    (mq_cons (ms_for rfl hp (ip_range2 (ma_cons (me_var 3) (ma_cons (me_op op_addD.m (me_var 3) me_int) ma_nil)) rfl (Z.free 1)) (gp_name 7 (hN := sc__law_part_b.nd)) (fun _ hq => have hB := hq.trans hB; (ms_one (ms_if (mt_peek [5] (mt_w (mw_or (mt_not (mt_val (me_call (ok__law_right Z) tk (hr.mono (by decide : 10 ≤ kb__law_part_b)) rfl (ma_cons (me_var 4) (ma_cons (me_var 2) (ma_cons (me_var 7) ma_nil))) (mLen_cons (mLen_cons (mLen_cons mLen_nil)))))) (mw_or1 (mt_not (mt_val (me_call (ok__law_right Z) tk (hr.mono (by decide : 10 ≤ kb__law_part_b)) rfl (ma_cons (me_var 5) (ma_cons (me_var 2) (ma_cons (me_var 7) ma_nil))) (mLen_cons (mLen_cons (mLen_cons mLen_nil)))))))))) (ms_one (ms_ret hB me_bl)) ms_nil))))
    (mq_cons (ms_if (mt_cmp (op_eqP (hr.mono (by decide : 0 ≤ kb__law_part_b)).units).m (me_ix ix_D (me_var 1) me_int) me_int) (mq_cons (ms_for rfl hp (ip_seq (me_fresh (mf_lst (ma_cons me_int (ma_cons (me_un un_negD me_int) ma_nil))))) (gp_name 8 (hN := sc__law_part_b.nd)) (fun _ hq => have hB := hq.trans hB; (ms_one (ms_if (mt_not (mt_val (me_call (ok__law_bad_hours Z) tk (hr.mono (by decide : 10 ≤ kb__law_part_b)) rfl (ma_cons (me_fresh (mf_lst ma_nil)) (ma_cons (me_var 8) (ma_cons (me_var 3) ma_nil))) (mLen_cons (mLen_cons (mLen_cons mLen_nil)))))) (ms_one (ms_ret hB me_bl)) ms_nil))))
    (ms_one (ms_ret hB (me_call (ok__law_bad_hours Z) tk (hr.mono (by decide : 10 ≤ kb__law_part_b)) rfl (ma_cons (me_var 4) (ma_cons me_int (ma_cons (me_var 3) ma_nil))) (mLen_cons (mLen_cons (mLen_cons mLen_nil))))))) ms_nil)
    (ms_one (ms_ret hB me_bl)))))))))))))
theorem ok__law_part_b {T : Tk} (Z : ZX T) : Glo T 11 "_law_part_b" 1 m__law_part_b := by
  obtain ⟨fd, F⟩ := Z.def_ 28 (d := d__law_part_b)
  exact Z.fun_ (Z.glo 98) F.kp (FnM.of0 (fnD F sc__law_part_b (b__law_part_b Z _)) (F.bindsN fun _ _ _ _ _ _ us hl => match us, hl with | [_], _ => rfl))
def N_law : List Str := ["script"]
def kb_law : Nat := 11
theorem sc_law : FnScope N_law ["script"] (defScope st_law) := ⟨rfl, rfl, rfl, by decide +kernel, rfl, by decide +kernel, by decide +kernel⟩
theorem b_law {T : Tk} (Z : ZX T) (f : Addr) : BodyOk T kb_law N_law "law" (defScope st_law) f (defBody st_law) o_law := fun cdv A outer s H E hr B hB =>
  have tk := takes_of (X := cxT T N_law "law" (defScope st_law) f cdv A outer s H E) rfl rfl rfl rfl
  have hp := passes_of (X := cxT T N_law "law" (defScope st_law) f cdv A outer s H E) rfl
  (mq_cons (ms_if (mt_not (mt_val (me_call (ok__law_part_a Z) tk (hr.mono (by decide : 11 ≤ kb_law)) rfl (ma_cons (me_var 0) ma_nil) (mLen_cons mLen_nil)))) (ms_one (ms_ret hB me_bl)) ms_nil)
    (ms_one (ms_ret hB (me_call (ok__law_part_b Z) tk (hr.mono (by decide : 11 ≤ kb_law)) rfl (ma_cons (me_var 0) ma_nil) (mLen_cons mLen_nil)))))
theorem ok_law {T : Tk} (Z : ZX T) : Glo T 12 "law" 1 m_law := by
  obtain ⟨fd, F⟩ := Z.def_ 29 (d := d_law)
  exact Z.fun_ (Z.glo 99) F.kp (FnM.of0 (fnD F sc_law (b_law Z _)) (F.bindsN fun _ _ _ _ _ _ us hl => match us, hl with | [_], _ => rfl))
end
end K04
namespace K04
noncomputable section
open PySem PySem.Spec L2 PL
theorem call_ok {q : Program} {loose : List Str} {XP : (Str → Option Value) → Heap → Prop} : PySem.W.WalkO q loose XP hk.says Rw.toRowW (HandSHeadRun.topDef Rw.prog 43) [] (fun f vs => PySem.call f vs) :=
  pl_end (n := 0) (l := PySem.Challenge.rw_beatswatched_k04_meetings_and_starts) (i := 29) (g := 99) (d := d_law) rfl (by kernel_rfl) (kb := kb_law + 1) ⟨rfl, by decide, by decide⟩ (by kernel_rfl) rfl (fun _ => rfl) rfl (fun K fd F s v => FunD.bindsA (ps := ["script"]) F (fun _ _ _ _ _ _ us hl => match us, hl with | [_], _ => rfl) s [v] rfl) (fun T Z fd F => fnD F sc_law (b_law Z _)) law_plain
end
end K04
open PySem PySem.W PySem.Calls PyProof.Rows
theorem PySem.Challenge.cw_beatswatched_k04_meetings_and_starts_holds : PySem.Challenge.rw_beatswatched_k04_meetings_and_starts.Holds := by
  w_on; o_law
  refine HandSHeadRun.head_any (r := PySem.W.OpenLaw.row PySem.Challenge.rw_beatswatched_k04_meetings_and_starts) (q := view (PySem.W.OpenLaw.row PySem.Challenge.rw_beatswatched_k04_meetings_and_starts).prog [43]) (H := K04.hk) (ob := K04.ob) (M := 20000) (loose := K04.names) (d := HandSHeadRun.topDef (PySem.W.OpenLaw.row PySem.Challenge.rw_beatswatched_k04_meetings_and_starts).prog 43) (kwd := []) K04.ob_eq
    (by kernel_rfl) (fun s => by kernel_rfl) K04.head_run (by kernel_rfl) (by kernel_rfl) (by kernel_rfl) (by rfl) (by first | assumption | decide +kernel) (by decide +kernel) ⟨rfl, rfl, rfl, rfl, rfl, by decide +kernel⟩ ?hw ?hc
  case hw => w_witness2
  case hc => exact K04.call_ok
