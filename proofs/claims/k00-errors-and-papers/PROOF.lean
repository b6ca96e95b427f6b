import PyProof.Rows.All
import Wide.All
import OpenK.AllK
import Wide.FinOn
import HandS.ForMost
import HandS.ForExc
import HandS.Lambda
import HandS.EndTab
import HandS.Wide
import HandS.Defaults
import HandS.IsInst
import HandS.Gcd
import HandS.ExcOwn
import HandS.CallSlots
import HandS.Flow
import HandS.Small
import HandS.SortInts
import HandS.SetFor
import KE.KExcSuper
import KE.KExcPX
import HandS.ExcIs
import HandS.HeadWalk
import KE.DataFind
import HandS.Deep
import PyProof.ReprRoads
import HandS.Head0
import HandS.Head1
import HandS.Head2
import HandS.Head3
import HandS.HeadEnd
import HandS.HeadHook1
import HandS.HeadHook2
import HandS.HeadHook3
import HandS.HeadHook4
import HandS.Words
import HandS.WordsExc
import HandS.More
import HandS.Zip
import HandS.Star
import HandS.SlotsOwn
import HandS.Style
import HandS.ExcValue
import HandS.DictComp
import KE.KEqNest
import HandS.NoneIn
import PySem.Challenge.RW_nearatonce_k00_errors_and_papers
set_option Elab.async false
set_option linter.all false
set_option maxRecDepth 100000
set_option maxHeartbeats 4000000
/-! PyD: Python values as plain data trees, over the hand layer. Data, representation, states, extension. -/
namespace PyD
open PySem PySem.Spec PyProof.Rows L2

abbrev St := L2.St
/-- objects that change: a frame's own list; a volatile thing of kind n -/
inductive Kd where | own | vk (n : Nat)
/-- which objects change; the draws that are left -/
structure VS where
  f : Addr → Option Kd
  n : Nat
instance : CoeFun VS (fun _ => Addr → Option Kd) := ⟨VS.f⟩
abbrev Pr := Nat → Prop
/-- plain data -/
inductive D where
  | non | bl (b : Bool) | int (i : Int) | str (x : Str)
  | tup (l : List D) | lst (l : List D)
  | dic (l : List (Key × D))
  | ins (c : Nat) (fs : List (Str × D))
  | exc (c : Nat) (fs : List (Str × D))
  | cls (c : Nat) | ty (n : String) | vol (n : Nat)
  | opq (P : VS → Hp → V → Prop)
  | scr (l : List Int)
/-- a dict locked or set free again -/
def Lk (H H' : Hp) : Prop := ∃ (a : Addr) (kvs : List (Key × V)) (u' : HO), Rd H a (.dK kvs) ∧ (u' = .dK kvs ∨ ∃ o, u' = .frz o (.dK kvs)) ∧ H' = upd H a u'
/-- the table: written part, classes by number, what is true of volatile things, tables of code -/
structure Tb where
  K : PySem.W.Frag
  cA : Nat → Addr
  vol : Nat → VS → Hp → Addr → Prop
  tabs : List (Addr × Str)
  st : ∀ (n : Nat) (S S' : VS) (H H' : Hp) (a : Addr), vol n S H a → (∀ b o, H b = some o → (∀ ps, o ≠ .tbl ps) → S b = none → H' b = some o ∧ S' b = none) → S'.n ≤ S.n → H' a = H a → vol n S' H' a
  lk : ∀ (n : Nat) (S : VS) (H H' : Hp) (a : Addr), Lk H H' → vol n S H a → vol n S H' a
/-- an exception that was caught -/
def ExcO (cls : Value) (d : Addr) (a : Addr) : HO := .ext fun h => ∃ (oe : Obj) (vs : Array Value), h.get? a = some oe ∧ oe.cls = cls ∧ oe.dict = some d ∧ oe.data = .fields vs

/-- the script: a list that is known to the object -/
def ScrO (K : PySem.W.Frag) (H : Hp) (a : Addr) (xs : List V) : Prop := (∃ o, H a = some (.frz o (.lst xs))) ∨ ∃ (o : Obj) (its : Array Value) (n : Nat), K.lookup a = some o ∧ o.cls = .type "list" ∧ o.dict = none ∧ o.data = .seq its n ∧ its.size ≤ sizeLine ∧ Vals xs its.toList
theorem ScrO.sq {K : PySem.W.Frag} {H : Hp} {a : Addr} {xs : List V} (h : ScrO K H a xs) : SqL K H a xs := h.elim (fun z => .inl (.inr z)) .inr
/-- a good state -/
structure Ok (T : Tb) (S : VS) (H : Hp) : Prop where
  vol : ∀ a n, S a = some (.vk n) → T.vol n S H a
  chg : ∀ a k, S a = some k → (∃ xs, H a = some (.lst xs)) ∨ (∃ C dx fs, H a = some (.ins C dx fs)) ∨ (∃ kvs, H a = some (.dK kvs))
  tabs : LamX.Tabs T.tabs H
/-- what was tracked stays (but tables of code, volatile things) -/
structure Ext (S : VS) (H : Hp) (S' : VS) (H' : Hp) : Prop where
  keep : ∀ a o, H a = some o → (∀ ps, o ≠ .tbl ps) → (∀ n, S a ≠ some (.vk n)) → H' a = some o ∧ S' a = S a
  vk : ∀ a n, S a = some (.vk n) → S' a = some (.vk n)
  tb : ∀ a ps, H a = some (.tbl ps) → ∃ qs, H' a = some (.tbl qs)
/-- the weaker one: own lists may have changed -/
structure Ext0 (S : VS) (H : Hp) (S' : VS) (H' : Hp) : Prop where
  keep : ∀ a o, H a = some o → (∀ ps, o ≠ .tbl ps) → S a = none → H' a = some o ∧ S' a = none
  vk : ∀ a n, S a = some (.vk n) → S' a = some (.vk n)

mutual
inductive Rep (T : Tb) (S : VS) (H : Hp) : V → D → Prop
  | non : Rep T S H .non .non
  | bl (b : Bool) : Rep T S H (.bl b) (.bl b)
  | int (i : Int) : Rep T S H (.int i) (.int i)
  | str (x : Str) : Rep T S H (.str x) (.str x)
  | tup {a : Addr} {xs : List V} {ds : List D} : SqT T.K H a xs → RepL T S H xs ds → Rep T S H (.ref a) (.tup ds)
  | lst {a : Addr} {xs : List V} {ds : List D} : H a = some (.lst xs) → S a = none → RepL T S H xs ds → Rep T S H (.ref a) (.lst ds)
  | dic {a : Addr} {kvs : List (Key × V)} {ds : List (Key × D)} : Rd H a (.dK kvs) → S a = none → RepK T S H kvs ds → Rep T S H (.ref a) (.dic ds)
  | ins {c : Nat} {a dx : Addr} {fs : List (Str × V)} {ds : List (Str × D)} : H a = some (.ins (T.cA c) dx fs) → S a = none → RepF T S H fs ds → Rep T S H (.ref a) (.ins c ds)
  | exc {c : Nat} {a d : Addr} {fs : List (Str × V)} {ds : List (Str × D)} : H a = some (ExcO (.ref (T.cA c)) d a) → H d = some (.xd fs) → RepF T S H fs ds → Rep T S H (.ref a) (.exc c ds)
  | cls (c : Nat) : Rep T S H (.ref (T.cA c)) (.cls c)
  | ty (n : String) : Rep T S H (.ty n) (.ty n)
  | vol {a : Addr} {n : Nat} : S a = some (.vk n) → Rep T S H (.ref a) (.vol n)
  | opq {v : V} {P : VS → Hp → V → Prop} : P S H v → (∀ S1 H1 S2 H2, Ok T S1 H1 → Ext0 S1 H1 S2 H2 → P S1 H1 v → P S2 H2 v) → (∀ S1 H1 H2, Lk H1 H2 → P S1 H1 v → P S1 H2 v) → Rep T S H v (.opq P)
  | scr {a : Addr} {l : List Int} : ScrO T.K H a (l.map V.int) → Rep T S H (.ref a) (.scr l)
inductive RepL (T : Tb) (S : VS) (H : Hp) : List V → List D → Prop
  | nil : RepL T S H [] []
  | cons {v : V} {vs : List V} {d : D} {ds : List D} : Rep T S H v d → RepL T S H vs ds → RepL T S H (v :: vs) (d :: ds)
inductive RepK (T : Tb) (S : VS) (H : Hp) : List (Key × V) → List (Key × D) → Prop
  | nil : RepK T S H [] []
  | cons {k : Key} {v : V} {vs : List (Key × V)} {d : D} {ds : List (Key × D)} : Rep T S H v d → RepK T S H vs ds → RepK T S H ((k, v) :: vs) ((k, d) :: ds)
inductive RepF (T : Tb) (S : VS) (H : Hp) : List (Str × V) → List (Str × D) → Prop
  | nil : RepF T S H [] []
  | cons {k : Str} {v : V} {vs : List (Str × V)} {d : D} {ds : List (Str × D)} : Rep T S H v d → RepF T S H vs ds → RepF T S H ((k, v) :: vs) ((k, d) :: ds)
end

theorem Ext.refl {S : VS} {H : Hp} : Ext S H S H := ⟨fun _ _ h _ _ => ⟨h, rfl⟩, fun _ _ h => h, fun _ ps h => ⟨ps, h⟩⟩
theorem Ext.trans {S S1 S2 : VS} {H H1 H2 : Hp} (a : Ext S H S1 H1) (b : Ext S1 H1 S2 H2) : Ext S H S2 H2 :=
  ⟨fun x o h n m => by
    obtain ⟨h1, e1⟩ := a.keep x o h n m
    obtain ⟨h2, e2⟩ := b.keep x o h1 n fun k z => m k (by rw [← e1]; exact z)
    exact ⟨h2, e2.trans e1⟩, fun x n h => b.vk x n (a.vk x n h), fun x ps h => by
    obtain ⟨qs, h1⟩ := a.tb x ps h
    exact b.tb x qs h1⟩
theorem Ext0.refl {S : VS} {H : Hp} : Ext0 S H S H := ⟨fun _ _ h _ e => ⟨h, e⟩, fun _ _ h => h⟩
theorem Ext0.trans {S S1 S2 : VS} {H H1 H2 : Hp} (a : Ext0 S H S1 H1) (b : Ext0 S1 H1 S2 H2) : Ext0 S H S2 H2 :=
  ⟨fun x o h n m => by
    obtain ⟨h1, e1⟩ := a.keep x o h n m
    exact b.keep x o h1 n e1, fun x n h => b.vk x n (a.vk x n h)⟩
theorem Ext.to0 {S S' : VS} {H H' : Hp} (a : Ext S H S' H') : Ext0 S H S' H' :=
  ⟨fun x o h n m => by
    obtain ⟨h1, e1⟩ := a.keep x o h n fun k z => by rw [m] at z; cases z
    exact ⟨h1, e1.trans m⟩, a.vk⟩

section
variable {T : Tb} {S S' : VS} {H H' : Hp}
theorem Ok.free (ok : Ok T S H) {a : Addr} {o : HO} (h : H a = some o) (h1 : ∀ xs, o ≠ .lst xs := by intro _ z; cases z) (h2 : ∀ C dx fs, o ≠ .ins C dx fs := by intro _ _ _ z; cases z) (h3 : ∀ kvs, o ≠ .dK kvs := by intro _ z; cases z) : S a = none := by
  cases e : S a with
  | none => rfl
  | some k =>
    rcases ok.chg a k e with ⟨xs, z⟩ | ⟨C, dx, fs, z⟩ | ⟨kvs, z⟩
    · rw [h] at z; exact absurd (Option.some.inj z) (h1 xs)
    · rw [h] at z; exact absurd (Option.some.inj z) (h2 C dx fs)
    · rw [h] at z; exact absurd (Option.some.inj z) (h3 kvs)
theorem Ok.new (ok : Ok T S H) {a : Addr} (h : H a = none) : S a = none := by
  cases e : S a with
  | none => rfl
  | some k =>
    rcases ok.chg a k e with ⟨xs, z⟩ | ⟨C, dx, fs, z⟩ | ⟨kvs, z⟩ <;> (rw [h] at z; cases z)
theorem Ok.sqT (ok : Ok T S H) (x : Ext0 S H S' H') {a : Addr} {xs : List V} (h : SqT T.K H a xs) : SqT T.K H' a xs := by
  rcases h with (h | ⟨o, h⟩) | h
  · exact .inl (.inl (x.keep a _ h (fun _ z => by cases z) (ok.free h)).1)
  · exact .inl (.inr ⟨o, (x.keep a _ h (fun _ z => by cases z) (ok.free h)).1⟩)
  · exact .inr h
theorem ExcO_tbl {c : Value} {d a : Addr} : ∀ ps, ExcO c d a ≠ .tbl ps := fun _ z => by unfold ExcO at z; cases z
theorem ExcO_lst {c : Value} {d a : Addr} : ∀ ps, ExcO c d a ≠ .lst ps := fun _ z => by unfold ExcO at z; cases z
theorem ExcO_dK {c : Value} {d a : Addr} : ∀ kvs, ExcO c d a ≠ .dK kvs := fun _ z => by unfold ExcO at z; cases z
theorem ExcO_ins {c : Value} {d a : Addr} : ∀ C dx fs, ExcO c d a ≠ .ins C dx fs := fun _ _ _ z => by unfold ExcO at z; cases z
mutual
theorem Rep.ext (ok : Ok T S H) (x : Ext0 S H S' H') : ∀ {v : V} {d : D}, Rep T S H v d → Rep T S' H' v d
  | _, _, .non => .non
  | _, _, .bl b => .bl b
  | _, _, .int i => .int i
  | _, _, .str s => .str s
  | _, _, .tup h r => .tup (ok.sqT x h) (RepL.ext ok x r)
  | _, _, .lst h e r => let z := x.keep _ _ h (fun _ z => by cases z) e; .lst z.1 z.2 (RepL.ext ok x r)
  | _, _, .dic h e r => .dic (h.elim (fun h => .inl (x.keep _ _ h (fun _ z => by cases z) e).1) fun ⟨o, h⟩ => .inr ⟨o, (x.keep _ _ h (fun _ z => by cases z) e).1⟩) (h.elim (fun h => (x.keep _ _ h (fun _ z => by cases z) e).2) fun ⟨o, h⟩ => (x.keep _ _ h (fun _ z => by cases z) e).2) (RepK.ext ok x r)
  | _, _, .ins h e r => let z := x.keep _ _ h (fun _ z => by cases z) e; .ins z.1 z.2 (RepF.ext ok x r)
  | _, _, .exc h g r => .exc (x.keep _ _ h ExcO_tbl (ok.free h ExcO_lst ExcO_ins ExcO_dK)).1 (x.keep _ _ g (fun _ z => by cases z) (ok.free g)).1 (RepF.ext ok x r)
  | _, _, .cls c => .cls c
  | _, _, .ty n => .ty n
  | _, _, .vol h => .vol (x.vk _ _ h)
  | _, _, .opq p st lk => .opq (st _ _ _ _ ok x p) st lk
  | _, _, .scr h => .scr (h.elim (fun ⟨o, e⟩ => .inl ⟨o, (x.keep _ _ e (fun _ z => by cases z) (ok.free e)).1⟩) .inr)
theorem RepL.ext (ok : Ok T S H) (x : Ext0 S H S' H') : ∀ {vs : List V} {ds : List D}, RepL T S H vs ds → RepL T S' H' vs ds
  | _, _, .nil => .nil
  | _, _, .cons r t => .cons (Rep.ext ok x r) (RepL.ext ok x t)
theorem RepK.ext (ok : Ok T S H) (x : Ext0 S H S' H') : ∀ {vs : List (Key × V)} {ds : List (Key × D)}, RepK T S H vs ds → RepK T S' H' vs ds
  | _, _, .nil => .nil
  | _, _, .cons r t => .cons (Rep.ext ok x r) (RepK.ext ok x t)
theorem RepF.ext (ok : Ok T S H) (x : Ext0 S H S' H') : ∀ {vs : List (Str × V)} {ds : List (Str × D)}, RepF T S H vs ds → RepF T S' H' vs ds
  | _, _, .nil => .nil
  | _, _, .cons r t => .cons (Rep.ext ok x r) (RepF.ext ok x t)
end
theorem RepL.length : ∀ {vs : List V} {ds : List D}, RepL T S H vs ds → vs.length = ds.length
  | _, _, .nil => rfl
  | _, _, .cons _ t => congrArg Nat.succ (RepL.length t)
theorem RepL.get : ∀ {vs : List V} {ds : List D} {i : Nat} {v : V}, RepL T S H vs ds → vs[i]? = some v → ∃ d, ds[i]? = some d ∧ Rep T S H v d
  | _, _, _, _, .nil, e => by simp at e
  | _, _, 0, _, .cons r _, e => by simp at e; subst e; exact ⟨_, rfl, r⟩
  | _, _, i + 1, v, .cons _ t, e => by
    obtain ⟨d, h1, h2⟩ := RepL.get (i := i) (v := v) t (by simpa using e)
    exact ⟨d, by simpa using h1, h2⟩
theorem RepL.getD : ∀ {vs : List V} {ds : List D} {i : Nat} {d : D}, RepL T S H vs ds → ds[i]? = some d → ∃ v, vs[i]? = some v ∧ Rep T S H v d
  | _, _, _, _, .nil, e => by simp at e
  | _, _, 0, _, .cons r _, e => by simp at e; subst e; exact ⟨_, rfl, r⟩
  | _, _, i + 1, v, .cons _ t, e => by
    obtain ⟨d, h1, h2⟩ := RepL.getD (i := i) (d := v) t (by simpa using e)
    exact ⟨d, by simpa using h1, h2⟩
theorem RepL.append : ∀ {vs ws : List V} {ds es : List D}, RepL T S H vs ds → RepL T S H ws es → RepL T S H (vs ++ ws) (ds ++ es)
  | _, _, _, _, .nil, s => s
  | _, _, _, _, .cons r t, s => .cons r (RepL.append t s)
theorem RepL.set {v : V} {d : D} (r : Rep T S H v d) : ∀ {vs : List V} {ds : List D} (i : Nat), RepL T S H vs ds → RepL T S H (vs.set i v) (ds.set i d)
  | _, _, _, .nil => .nil
  | _, _, 0, .cons _ t => .cons r t
  | _, _, i + 1, .cons q t => .cons q (RepL.set r i t)
theorem RepL.drop : ∀ {vs : List V} {ds : List D} (n : Nat), RepL T S H vs ds → RepL T S H (vs.drop n) (ds.drop n)
  | _, _, 0, r => r
  | _, _, _ + 1, .nil => .nil
  | _, _, n + 1, .cons _ t => RepL.drop n t
theorem RepL.take : ∀ {vs : List V} {ds : List D} (n : Nat), RepL T S H vs ds → RepL T S H (vs.take n) (ds.take n)
  | _, _, 0, _ => .nil
  | _, _, _ + 1, .nil => .nil
  | _, _, n + 1, .cons r t => .cons r (RepL.take n t)
theorem RepF.lookup {f : Str} {d : D} : ∀ {fs : List (Str × V)} {ds : List (Str × D)}, RepF T S H fs ds → ds.lookup f = some d → ∃ v, fs.lookup f = some v ∧ Rep T S H v d
  | _, _, .nil, e => by simp at e
  | _, _, .cons (k := k) r t, e => by
    rw [List.lookup_cons] at e ⊢
    cases hb : f == k with
    | true => rw [hb] at e; cases e; exact ⟨_, rfl, r⟩
    | false => rw [hb] at e; exact RepF.lookup t e
theorem RepF.lookupN {f : Str} : ∀ {fs : List (Str × V)} {ds : List (Str × D)}, RepF T S H fs ds → ds.lookup f = none → fs.lookup f = none
  | _, _, .nil, _ => rfl
  | _, _, .cons (k := k) r t, e => by
    rw [List.lookup_cons] at e ⊢
    cases hb : f == k with
    | true => rw [hb] at e; cases e
    | false => rw [hb] at e; exact RepF.lookupN t e

/-! ### new objects -/
theorem ext_new {a : Addr} {o : HO} (ok : Ok T S H) (hn : H a = none) : Ext S H S (upd H a o) :=
  ⟨fun b u e _ _ => ⟨by rw [upd_ne (ne_of_none e hn)]; exact e, rfl⟩, fun _ _ h => h, fun b ps e => ⟨ps, by rw [upd_ne (ne_of_none e hn)]; exact e⟩⟩
theorem tabs_keep {ts : List (Addr × Str)} {H H' : Hp} (t : LamX.Tabs ts H) (k : ∀ b o, H b = some o → (∀ xs, o ≠ .lst xs) → (∀ C dx fs, o ≠ .ins C dx fs) → (∀ kvs, o ≠ .dK kvs) → H' b = some o) : LamX.Tabs ts H' := fun p hp => by
  obtain ⟨ps, h1, h2, h3⟩ := t p hp
  refine ⟨ps, k _ _ h1 (fun _ z => by cases z) (fun _ _ _ z => by cases z) (fun _ z => by cases z), h2, fun pos cv hc => ?_⟩
  obtain ⟨c, e1, e2⟩ := h3 pos cv hc
  exact ⟨c, e1, k _ _ e2 (fun _ z => by unfold LamX.CodeO at z; cases z) (fun _ _ _ z => by unfold LamX.CodeO at z; cases z) (fun _ z => by unfold LamX.CodeO at z; cases z)⟩
/-- a new object laid -/
theorem Ok.laid (ok : Ok T S H) {a : Addr} {o : HO} (hn : H a = none) : Ok T S (upd H a o) := by
  have x := ext_new (o := o) ok hn
  refine ⟨fun b n e => ?_, fun b k e => ?_, tabs_keep ok.tabs fun b u e _ _ _ => by rw [upd_ne (ne_of_none e hn)]; exact e⟩
  · have nb : b ≠ a := fun z => by rw [z, ok.new hn] at e; cases e
    exact T.st n S S H _ b (ok.vol b n e) (fun c u h h1 h2 => x.to0.keep c u h h1 h2) (Nat.le_refl _) (upd_ne nb)
  · have nb : b ≠ a := fun z => by rw [z, ok.new hn] at e; cases e
    rw [upd_ne nb]
    exact ok.chg b k e
/-- a new list becomes a frame's own -/
def own (S : VS) (a : Addr) : VS := ⟨fun b => if b = a then some .own else S b, S.n⟩
def frozen (S : VS) (a : Addr) : VS := ⟨fun b => if b = a then none else S b, S.n⟩
theorem own_same {S : VS} {a : Addr} : own S a a = some .own := by unfold own; exact if_pos rfl
theorem own_ne {S : VS} {a b : Addr} (h : b ≠ a) : own S a b = S b := by unfold own; exact if_neg h
theorem frozen_same {S : VS} {a : Addr} : frozen S a a = none := by unfold frozen; exact if_pos rfl
theorem frozen_ne {S : VS} {a b : Addr} (h : b ≠ a) : frozen S a b = S b := by unfold frozen; exact if_neg h
/-- a new list, the frame's own -/
theorem own_new {p : Addr} {xs : List V} (ok : Ok T S H) (hp : H p = none) : Ok T (own S p) (upd H p (.lst xs)) ∧ Ext S H (own S p) (upd H p (.lst xs)) := by
  have ne : ∀ b o, H b = some o → b ≠ p := fun b o e => ne_of_none e hp
  have x : Ext S H (own S p) (upd H p (.lst xs)) := ⟨fun b o e _ _ => ⟨by rw [upd_ne (ne b o e)]; exact e, own_ne (ne b o e)⟩, fun b n e => by
    have nb : b ≠ p := fun z => by rw [z, ok.new hp] at e; cases e
    rw [own_ne nb]; exact e, fun b ps e => ⟨ps, by rw [upd_ne (ne b _ e)]; exact e⟩⟩
  refine ⟨⟨fun b n e => ?_, fun b k e => ?_, tabs_keep ok.tabs fun b u e _ _ _ => by rw [upd_ne (ne b u e)]; exact e⟩, x⟩
  · have nb : b ≠ p := fun z => by rw [z, own_same] at e; cases e
    rw [own_ne nb] at e
    exact T.st n S _ H _ b (ok.vol b n e) (fun c u h h1 h2 => x.to0.keep c u h h1 h2) (Nat.le_refl _) (upd_ne nb)
  · by_cases hb : b = p
    · rw [hb]; exact .inl ⟨xs, upd_same⟩
    · rw [own_ne hb] at e
      rw [upd_ne hb]
      exact ok.chg b k e
/-- an own list is frozen -/
theorem freeze {p : Addr} (ok : Ok T S H) (hp : S p = some .own) : Ok T (frozen S p) H ∧ Ext0 S H (frozen S p) H := by
  have x : Ext0 S H (frozen S p) H := ⟨fun b o e _ h => by
    by_cases hb : b = p
    · rw [hb]; exact ⟨by rw [← hb]; exact e, frozen_same⟩
    · exact ⟨e, (frozen_ne hb).trans h⟩, fun b n e => by
    have nb : b ≠ p := fun z => by rw [z, hp] at e; cases e
    rw [frozen_ne nb]; exact e⟩
  refine ⟨⟨fun b n e => ?_, fun b k e => ?_, ok.tabs⟩, x⟩
  · have nb : b ≠ p := fun z => by rw [z, frozen_same] at e; cases e
    rw [frozen_ne nb] at e
    exact T.st n S _ H _ b (ok.vol b n e) (fun c u h h1 h2 => x.keep c u h h1 h2) (Nat.le_refl _) rfl
  · have nb : b ≠ p := fun z => by rw [z, frozen_same] at e; cases e
    rw [frozen_ne nb] at e
    exact ok.chg b k e
theorem freeze_ext {S1 : VS} {H1 : Hp} {p : Addr} (x : Ext S1 H1 S H) (h1 : H1 p = none) (ok1 : Ok T S1 H1) : Ext S1 H1 (frozen S p) H := by
  refine ⟨fun b o e n m => ?_, fun b n e => ?_, x.tb⟩
  · have nb : b ≠ p := ne_of_none e h1
    obtain ⟨k1, k2⟩ := x.keep b o e n m
    exact ⟨k1, (frozen_ne nb).trans k2⟩
  · have nb : b ≠ p := fun z => by rw [z, ok1.new h1] at e; cases e
    rw [frozen_ne nb]; exact x.vk b n e
/-- an own list changes -/
theorem own_upd {p : Addr} {xs ys : List V} (ok : Ok T S H) (hp : S p = some .own) (hH : H p = some (.lst xs)) : Ok T S (upd H p (.lst ys)) ∧ Ext0 S H S (upd H p (.lst ys)) := by
  have x : Ext0 S H S (upd H p (.lst ys)) := ⟨fun b o e _ h => by
    have nb : b ≠ p := fun z => by rw [z, hp] at h; cases h
    exact ⟨by rw [upd_ne nb]; exact e, h⟩, fun b n e => e⟩
  refine ⟨⟨fun b n e => ?_, fun b k e => ?_, tabs_keep ok.tabs fun b u e h1 _ _ => ?_⟩, x⟩
  · have nb : b ≠ p := fun z => by rw [z, hp] at e; cases e
    exact T.st n S _ H _ b (ok.vol b n e) (fun c u h h1 h2 => x.keep c u h h1 h2) (Nat.le_refl _) (upd_ne nb)
  · by_cases hb : b = p
    · rw [hb]; exact .inl ⟨ys, upd_same⟩
    · rw [upd_ne hb]; exact ok.chg b k e
  · have nb : b ≠ p := fun z => by rw [z, hH] at e; exact h1 xs (Option.some.inj e).symm
    rw [upd_ne nb]; exact e
theorem own_upd_ext {S1 : VS} {H1 : Hp} {p : Addr} {ys : List V} (x : Ext S1 H1 S H) (h1 : H1 p = none) : Ext S1 H1 S (upd H p (.lst ys)) := by
  refine ⟨fun b o e n m => ?_, x.vk, fun b ps e => ?_⟩
  · obtain ⟨k1, k2⟩ := x.keep b o e n m
    exact ⟨by rw [upd_ne (ne_of_none e h1)]; exact k1, k2⟩
  · obtain ⟨qs, k⟩ := x.tb b ps e
    exact ⟨qs, by rw [upd_ne (ne_of_none e h1)]; exact k⟩
theorem Ext.none {S1 : VS} {H1 : Hp} {p : Addr} (ok1 : Ok T S1 H1) (ok : Ok T S H) (x : Ext S1 H1 S H) (h : H p = none) : H1 p = none := by
  cases e : H1 p with
  | none => rfl
  | some o =>
    by_cases ht : ∃ ps, o = .tbl ps
    · obtain ⟨ps, rfl⟩ := ht
      obtain ⟨qs, k⟩ := x.tb p ps e
      rw [h] at k; cases k
    · cases hs : S1 p with
      | none =>
        have k := (x.keep p o e (fun ps z => ht ⟨ps, z⟩) fun n z => by rw [hs] at z; cases z).1
        rw [h] at k; cases k
      | some kd =>
        cases kd with
        | own =>
          have k := (x.keep p o e (fun ps z => ht ⟨ps, z⟩) fun n z => by rw [hs] at z; cases z).1
          rw [h] at k; cases k
        | vk n =>
          have k := x.vk p n hs
          rcases ok.chg p _ k with ⟨_, z⟩ | ⟨_, _, _, z⟩ | ⟨_, z⟩ <;> (rw [h] at z; cases z)
/-! ### locks -/
theorem Lk.other {b : Addr} {o : HO} (x : Lk H H') (h : H b = some o) (h1 : ∀ kvs, o ≠ .dK kvs := by intro _ z; cases z) (h2 : ∀ u kvs, o ≠ .frz u (.dK kvs) := by intro _ _ z; cases z) : H' b = some o := by
  obtain ⟨a, kvs, u', hr, hu, rfl⟩ := x
  have nb : b ≠ a := fun z => by
    rw [z] at h
    rcases hr with q | ⟨w, q⟩
    · exact h1 kvs (Option.some.inj (h.symm.trans q))
    · exact h2 w kvs (Option.some.inj (h.symm.trans q))
  rw [upd_ne nb]; exact h
theorem Lk.rd {b : Addr} {kvs : List (Key × V)} (x : Lk H H') (h : Rd H b (.dK kvs)) : Rd H' b (.dK kvs) := by
  obtain ⟨a, kvs', u', hr, hu, rfl⟩ := x
  by_cases hb : b = a
  · subst hb
    have e : kvs' = kvs := by
      rcases hr with q | ⟨w, q⟩ <;> rcases h with q' | ⟨w', q'⟩ <;> (rw [q] at q'; first | (cases q'; done) | (cases q'; rfl))
    subst e
    rcases hu with rfl | ⟨o, rfl⟩
    · exact .inl upd_same
    · exact .inr ⟨o, upd_same⟩
  · rcases h with q | ⟨w, q⟩
    · exact .inl (by rw [upd_ne hb]; exact q)
    · exact .inr ⟨w, by rw [upd_ne hb]; exact q⟩
theorem Lk.sqT {K : PySem.W.Frag} {a : Addr} {xs : List V} (x : Lk H H') (h : SqT K H a xs) : SqT K H' a xs := by
  rcases h with (h | ⟨o, h⟩) | h
  · exact .inl (.inl (x.other h))
  · exact .inl (.inr ⟨o, x.other h⟩)
  · exact .inr h
mutual
theorem Rep.lk (x : Lk H H') : ∀ {v : V} {d : D}, Rep T S H v d → Rep T S H' v d
  | _, _, .non => .non
  | _, _, .bl b => .bl b
  | _, _, .int i => .int i
  | _, _, .str s => .str s
  | _, _, .tup h r => .tup (x.sqT h) (RepL.lk x r)
  | _, _, .lst h e r => .lst (x.other h) e (RepL.lk x r)
  | _, _, .dic h e r => .dic (x.rd h) e (RepK.lk x r)
  | _, _, .ins h e r => .ins (x.other h) e (RepF.lk x r)
  | _, _, .exc h g r => .exc (x.other h ExcO_dK fun _ _ z => by unfold ExcO at z; cases z) (x.other g) (RepF.lk x r)
  | _, _, .cls c => .cls c
  | _, _, .ty n => .ty n
  | _, _, .vol h => .vol h
  | _, _, .opq p st lk => .opq (lk _ _ _ x p) st lk
  | _, _, .scr h => .scr (h.elim (fun ⟨o, e⟩ => .inl ⟨o, x.other e⟩) .inr)
theorem RepL.lk (x : Lk H H') : ∀ {vs : List V} {ds : List D}, RepL T S H vs ds → RepL T S H' vs ds
  | _, _, .nil => .nil
  | _, _, .cons r t => .cons (Rep.lk x r) (RepL.lk x t)
theorem RepK.lk (x : Lk H H') : ∀ {vs : List (Key × V)} {ds : List (Key × D)}, RepK T S H vs ds → RepK T S H' vs ds
  | _, _, .nil => .nil
  | _, _, .cons r t => .cons (Rep.lk x r) (RepK.lk x t)
theorem RepF.lk (x : Lk H H') : ∀ {vs : List (Str × V)} {ds : List (Str × D)}, RepF T S H vs ds → RepF T S H' vs ds
  | _, _, .nil => .nil
  | _, _, .cons r t => .cons (Rep.lk x r) (RepF.lk x t)
end
end
end PyD

/-! PyD: environments, readings over data, expressions. -/
namespace PyD
open PySem PySem.Spec PyProof.Rows L2

/-- a def's name: not set (or not spoken of), a value, a list of the frame's own, an instance in the making -/
inductive Slot where | no | val (d : D) | own (ds : List D) | obj (c : Addr × Nat) (fs : List (Str × D))
abbrev EnvD := List Slot
abbrev EP := Nat → List (Str × D) → Pr
abbrev WE := EnvD → (D → Pr) → EP → Pr
abbrev WA := EnvD → (List D → Pr) → EP → Pr
abbrev WT := EnvD → (Bool → Pr) → EP → Pr

theorem set_back {ρ : EnvD} {i j : Nat} {x s : Slot} (hs : s ≠ x) (e : (ρ.set i x)[j]? = some s) : j ≠ i ∧ ρ[j]? = some s := by
  by_cases hm : i = j
  · subst hm
    by_cases hl : i < ρ.length
    · rw [List.getElem?_set_self hl] at e
      exact absurd (Option.some.inj e).symm hs
    · rw [List.getElem?_eq_none (by simpa using hl)] at e; cases e
  · rw [List.getElem?_set_ne hm] at e
    exact ⟨fun z => hm z.symm, e⟩
structure EnvRel (T : Tb) (H0 : Hp) (S : VS) (H : Hp) (σ : St) (ρ : EnvD) : Prop where
  len : σ.length = ρ.length
  val : ∀ (i : Nat) (d : D), ρ[i]? = some (.val d) → ∃ v, σ[i]? = some (some v) ∧ Rep T S H v d
  own : ∀ (i : Nat) (ds : List D), ρ[i]? = some (.own ds) → ∃ (a : Addr) (xs : List V), σ[i]? = some (some (.ref a)) ∧ H a = some (.lst xs) ∧ S a = some .own ∧ RepL T S H xs ds ∧ H0 a = none
  dis : ∀ (i j : Nat) (ds es : List D) (a : Addr), ρ[i]? = some (.own ds) → ρ[j]? = some (.own es) → σ[i]? = some (some (.ref a)) → σ[j]? = some (some (.ref a)) → i = j
  obj : ∀ (i : Nat) (c : Addr × Nat) (fs : List (Str × D)), ρ[i]? = some (.obj c fs) → ∃ (a dx : Addr) (vs : List (Str × V)), σ[i]? = some (some (.ref a)) ∧ H a = some (.ins (T.cA c.2) dx vs) ∧ S a = some .own ∧ RepF T S H vs fs ∧ H0 a = none ∧ c.1 = a
  odis : ∀ (i j : Nat) (c c' : Addr × Nat) (fs fs' : List (Str × D)), ρ[i]? = some (.obj c fs) → ρ[j]? = some (.obj c' fs') → i = j
section
variable {T : Tb} {S S' : VS} {H H' H0 : Hp} {σ : St} {ρ : EnvD}
theorem EnvRel.ext (ok : Ok T S H) (x : Ext S H S' H') (r : EnvRel T H0 S H σ ρ) : EnvRel T H0 S' H' σ ρ where
  len := r.len
  val := fun i d e => let ⟨v, h, q⟩ := r.val i d e; ⟨v, h, q.ext ok x.to0⟩
  own := fun i ds e => by
    obtain ⟨a, xs, h1, h2, h3, h4, h5⟩ := r.own i ds e
    obtain ⟨k1, k2⟩ := x.keep a _ h2 (fun _ z => by cases z) fun n z => by rw [h3] at z; cases z
    exact ⟨a, xs, h1, k1, k2.trans h3, h4.ext ok x.to0, h5⟩
  dis := r.dis
  obj := fun i c fs e => by
    obtain ⟨a, dx, vs, h1, h2, h3, h4, h5⟩ := r.obj i c fs e
    obtain ⟨k1, k2⟩ := x.keep a _ h2 (fun _ z => by cases z) fun n z => by rw [h3] at z; cases z
    exact ⟨a, dx, vs, h1, k1, k2.trans h3, h4.ext ok x.to0, h5⟩
  odis := r.odis
theorem EnvRel.lk (x : Lk H H') (r : EnvRel T H0 S H σ ρ) : EnvRel T H0 S H' σ ρ where
  len := r.len
  val := fun i d e => let ⟨v, h, q⟩ := r.val i d e; ⟨v, h, q.lk x⟩
  own := fun i ds e => by
    obtain ⟨a, xs, h1, h2, h3, h4, h5⟩ := r.own i ds e
    exact ⟨a, xs, h1, x.other h2, h3, h4.lk x, h5⟩
  dis := r.dis
  obj := fun i c fs e => by
    obtain ⟨a, dx, vs, h1, h2, h3, h4, h5⟩ := r.obj i c fs e
    exact ⟨a, dx, vs, h1, x.other h2, h3, h4.lk x, h5⟩
  odis := r.odis
end

/-- what is wanted of an exception that leaves -/
def ExW (T : Tb) (W : WX) (σ : St) (S : VS) (H : Hp) (ep : EP) : Prop := ∀ (c : Nat) (ds : List (Str × D)) (S' : VS) (H' : Hp) (d : Addr) (fs : List (Str × V)),
  ep c ds S'.n → Ok T S' H' → Ext S H S' H' → H' d = some (.xd fs) → RepF T S' H' fs ds → W (.ref (T.cA c)) (some d) σ H'
theorem ExW.ext {T : Tb} {W : WX} {σ : St} {S S1 : VS} {H H1 : Hp} {ep : EP} (e : ExW T W σ S H ep) (x : Ext S H S1 H1) : ExW T W σ S1 H1 ep := fun c ds S' H' d fs h ok y => e c ds S' H' d fs h ok (x.trans y)
def QW (T : Tb) (S : VS) (H : Hp) (post : D → Pr) (Q : VK) : Prop := ∀ (d : D) (S' : VS) (H' : Hp) (v : V), post d S'.n → Ok T S' H' → Ext S H S' H' → Rep T S' H' v d → Q v H'
def QL (T : Tb) (S : VS) (H : Hp) (post : List D → Pr) (Q : List V → Hp → Prop) : Prop := ∀ (ds : List D) (S' : VS) (H' : Hp) (vs : List V), post ds S'.n → Ok T S' H' → Ext S H S' H' → RepL T S' H' vs ds → Q vs H'
def QT (T : Tb) (S : VS) (H : Hp) (post : Bool → Pr) (Q : Bool → Hp → Prop) : Prop := ∀ (b : Bool) (S' : VS) (H' : Hp), post b S'.n → Ok T S' H' → Ext S H S' H' → Q b H'

def ImpE (T : Tb) (W : WX) (t : TE) (w : WE) : Prop := ∀ (ρ : EnvD) (σ : St) (S : VS) (H H0 : Hp) (post : D → Pr) (ep : EP) (Q : VK), Ok T S H → EnvRel T H0 S H σ ρ → ExW T W σ S H ep → QW T S H post Q → w ρ post ep S.n → t σ H Q
def ImpA (T : Tb) (W : WX) (t : TA) (w : WA) : Prop := ∀ (ρ : EnvD) (σ : St) (S : VS) (H H0 : Hp) (post : List D → Pr) (ep : EP) (Q : List V → Hp → Prop), Ok T S H → EnvRel T H0 S H σ ρ → ExW T W σ S H ep → QL T S H post Q → w ρ post ep S.n → t σ H Q
def ImpT (T : Tb) (W : WX) (t : TT) (w : WT) : Prop := ∀ (ρ : EnvD) (σ : St) (S : VS) (H H0 : Hp) (post : Bool → Pr) (ep : EP) (Q : Bool → Hp → Prop), Ok T S H → EnvRel T H0 S H σ ρ → ExW T W σ S H ep → QT T S H post Q → w ρ post ep S.n → t σ H Q
structure DE (T : Tb) (X : Cx) (W : WX) (e : Expr) (t : TE) (w : WE) : Prop where
  pe : PE X e t
  im : ImpE T W t w
structure DA (T : Tb) (X : Cx) (W : WX) (e : List Expr) (t : TA) (w : WA) : Prop where
  pa : PA X e t
  im : ImpA T W t w
structure DT (T : Tb) (X : Cx) (W : WX) (e : Expr) (t : TT) (w : WT) : Prop where
  pt : PT X e t
  im : ImpT T W t w
structure DW (T : Tb) (X : Cx) (W : WX) (e : Expr) (t : TT) (w : WT) : Prop where
  pw : PW X e t
  im : ImpT T W t w

/-! ### the readings over data -/
def wVar (i : Nat) : WE := fun ρ post _ => match ρ.getD i .no with
  | .val d => post d
  | _ => fun _ => False
def wC (d : D) : WE := fun _ post _ => post d
def wNil : WA := fun _ post _ => post []
def wCons (a : WE) (r : WA) : WA := fun ρ post ep => a ρ (fun d => r ρ (fun ds => post (d :: ds)) ep) ep
def wOp (f : D → D → (D → Prop) → Prop) (a b : WE) : WE := fun ρ post ep => a ρ (fun x => b ρ (fun y n => f x y fun d => post d n) ep) ep
def wUn (f : D → (D → Prop) → Prop) (a : WE) : WE := fun ρ post ep => a ρ (fun x n => f x fun d => post d n) ep
def wTup (r : WA) : WE := fun ρ post ep => r ρ (fun ds n => ds.length ≤ sizeLine ∧ post (.tup ds) n) ep
def wLst (r : WA) : WE := fun ρ post ep => r ρ (fun ds n => ds.length ≤ sizeLine ∧ post (.lst ds) n) ep
/-- the truth of a value -/
def truD : D → (Bool → Prop) → Prop
  | .non, p => p false
  | .bl b, p => p b
  | .int i, p => p (i != 0)
  | .str x, p => x.length ≤ sizeLine ∧ p ((x.length : Int) != 0)
  | .tup ds, p => p (!ds.isEmpty)
  | .lst ds, p => p (!ds.isEmpty)
  | _, _ => False
def wTru (a : WE) : WT := fun ρ post ep => a ρ (fun d n => truD d fun b => post b n) ep
def wTest (a : WE) : WT := fun ρ post ep => a ρ (fun d => match d with
  | .bl b => post b
  | _ => fun _ => False) ep
def wAndT (a b : WT) : WT := fun ρ post ep => a ρ (fun c => if c = true then b ρ post ep else post false) ep
def wOrT (a b : WT) : WT := fun ρ post ep => a ρ (fun c => if c = true then post true else b ρ post ep) ep
def wNotT (a : WT) : WT := fun ρ post ep => a ρ (fun c => post (!c)) ep
def wIfE (c : WT) (a b : WE) : WE := fun ρ post ep => c ρ (fun k => if k = true then a ρ post ep else b ρ post ep) ep
def wOfT (a : WT) : WE := fun ρ post ep => a ρ (fun b => post (.bl b)) ep

section
variable {T : Tb} {X : Cx} {W : WX} {a b c : Expr} {ta tb tc : TE} {wa wb wc : WE} {pos : Pos}
theorem getD_val {ρ : EnvD} {i n : Nat} {P : D → Pr} (h : (match ρ.getD i .no with | .val d => P d | _ => fun _ => False) n) : ∃ d, ρ[i]? = some (.val d) ∧ P d n := by
  rw [List.getD_eq_getElem?_getD] at h
  cases e : ρ[i]? with
  | none => rw [e] at h; exact h.elim
  | some s =>
    rw [e] at h
    cases s with
    | val d => exact ⟨d, rfl, h⟩
    | no => exact h.elim
    | own ds => exact h.elim
    | obj _ _ => exact h.elim
theorem im_var {i : Nat} : ImpE T W (tVar i) (wVar i) := fun ρ σ S H H0 post ep Q ok er ex q h => by
  obtain ⟨d, e, p⟩ := getD_val h
  obtain ⟨v, e2, r⟩ := er.val i d e
  exact ⟨v, e2, q d S H v p ok .refl r⟩
theorem de_var (i : Nat) {x : Str} (h : PE X (.Name x pos) (tVar i)) : DE T X W (.Name x pos) (tVar i) (wVar i) := ⟨h, im_var⟩
theorem im_c {v : V} {d : D} (r : ∀ S H, Rep T S H v d) : ImpE T W (tC v) (wC d) := fun ρ σ S H H0 post ep Q ok er ex q h => q d S H v h ok .refl (r S H)
theorem de_int {i : Int} {j} : DE T X W (.Constant (.int i) j pos) (tC (.int i)) (wC (.int i)) := ⟨pe_int, im_c fun _ _ => .int i⟩
theorem de_bl {i : Bool} {j} : DE T X W (.Constant (.bool i) j pos) (tC (.bl i)) (wC (.bl i)) := ⟨pe_bl, im_c fun _ _ => .bl i⟩
theorem de_non {j} : DE T X W (.Constant .none j pos) (tC .non) (wC .non) := ⟨pe_non, im_c fun _ _ => .non⟩
theorem de_str {x : Str} {j} : DE T X W (.Constant (.str x) j pos) (tC (.str x)) (wC (.str x)) := ⟨pe_str, im_c fun _ _ => .str x⟩

/-! ### lists of arguments -/
variable {e : Expr} {es : List Expr} {t : TE} {ts : TA} {w : WE} {ws : WA}
theorem da_nil : DA T X W [] tNil wNil := ⟨pa_nil, fun ρ σ S H H0 post ep Q ok er ex q h => q [] S H [] h ok .refl .nil⟩
theorem da_cons (h1 : DE T X W e t w) (h2 : DA T X W es ts ws) (hs : starEach (e :: es) X.env = (false, eval e X.env) :: starEach es X.env := by rfl) : DA T X W (e :: es) (tCons t ts) (wCons w ws) :=
  ⟨pa_cons h1.pe h2.pa hs, fun ρ σ S H H0 post ep Q ok er ex q h => by
    refine h1.im ρ σ S H H0 _ ep _ ok er ex (fun d S1 H1 v p ok1 x1 r1 => ?_) h
    refine h2.im ρ σ S1 H1 H0 _ ep _ ok1 (er.ext ok x1) (ex.ext x1) (fun ds S2 H2 vs p2 ok2 x2 r2 => ?_) p
    exact q (d :: ds) S2 H2 (v :: vs) p2 ok2 (x1.trans x2) (.cons (r1.ext ok1 x2.to0) r2)⟩
theorem RepL.new {S : VS} {H : Hp} {p : Addr} {o : HO} {vs : List V} {ds : List D} (ok : Ok T S H) (hp : H p = none) (r : RepL T S H vs ds) : RepL T S (upd H p o) vs ds := r.ext ok (ext_new ok hp).to0
theorem Rep.new {S : VS} {H : Hp} {p : Addr} {o : HO} {v : V} {d : D} (ok : Ok T S H) (hp : H p = none) (r : Rep T S H v d) : Rep T S (upd H p o) v d := r.ext ok (ext_new ok hp).to0
/-- a new tuple, a new list -/
theorem new_tup {S : VS} {H : Hp} {post : D → Pr} {Q : VK} {xs : List V} {ds : List D} (ok : Ok T S H) (q : QW T S H post Q) (r : RepL T S H xs ds) (h : post (.tup ds) S.n) : ∀ p, H p = none → Q (.ref p) (upd H p (.tup xs)) := fun p hp =>
  q _ S _ _ h (ok.laid hp) (ext_new ok hp) (.tup (SqT.of upd_same) (r.new ok hp))
theorem new_lst {S : VS} {H : Hp} {post : D → Pr} {Q : VK} {xs : List V} {ds : List D} (ok : Ok T S H) (q : QW T S H post Q) (r : RepL T S H xs ds) (h : post (.lst ds) S.n) : ∀ p, H p = none → Q (.ref p) (upd H p (.lst xs)) := fun p hp =>
  q _ S _ _ h (ok.laid hp) (ext_new ok hp) (.lst upd_same (ok.new hp) (r.new ok hp))
theorem QW.ext {S S1 : VS} {H H1 : Hp} {post : D → Pr} {Q : VK} (q : QW T S H post Q) (x : Ext S H S1 H1) : QW T S1 H1 post Q := fun d S' H' v p ok y r => q d S' H' v p ok (x.trans y) r
theorem de_tup {k} (h : DA T X W es ts ws) : DE T X W (.Tuple es k pos) (tTup ts) (wTup ws) :=
  ⟨pe_tup h.pa, fun ρ σ S H H0 post ep Q ok er ex q hw => h.im ρ σ S H H0 _ ep _ ok er ex (fun ds S1 H1 vs p ok1 x1 r1 => ⟨by rw [r1.length]; exact p.1, new_tup ok1 (q.ext x1) r1 p.2⟩) hw⟩
theorem de_lst (h : DA T X W es ts ws) : DE T X W (.List es pos) (tLst ts) (wLst ws) :=
  ⟨pe_lst h.pa, fun ρ σ S H H0 post ep Q ok er ex q hw => h.im ρ σ S H H0 _ ep _ ok er ex (fun ds S1 H1 vs p ok1 x1 r1 => ⟨by rw [r1.length]; exact p.1, new_lst ok1 (q.ext x1) r1 p.2⟩) hw⟩

/-! ### operators -/
/-- r does what f says -/
def OpD (T : Tb) (r : R2) (f : D → D → (D → Prop) → Prop) : Prop := ∀ (S : VS) (H : Hp) (x y : V) (dx dy : D) (post : D → Pr) (Q : VK), Ok T S H → Rep T S H x dx → Rep T S H y dy → QW T S H post Q → f dx dy (fun d => post d S.n) → r x y H Q
theorem im_op {r : R2} {f : D → D → (D → Prop) → Prop} (h : OpD T r f) (h1 : ImpE T W ta wa) (h2 : ImpE T W tb wb) : ImpE T W (tOp r ta tb) (wOp f wa wb) := fun ρ σ S H H0 post ep Q ok er ex q hw => by
  refine h1 ρ σ S H H0 _ ep _ ok er ex (fun d S1 H1 v p ok1 x1 r1 => ?_) hw
  refine h2 ρ σ S1 H1 H0 _ ep _ ok1 (er.ext ok x1) (ex.ext x1) (fun d2 S2 H2 v2 p2 ok2 x2 r2 => ?_) p
  exact h S2 H2 v v2 d d2 post Q ok2 (r1.ext ok1 x2.to0) r2 (q.ext (x1.trans x2)) p2
theorem de_op {op : Operator} {r : R2} {f : D → D → (D → Prop) → Prop} (ho : OpR X (binaryOp op) r) (h : OpD T r f) (h1 : DE T X W a ta wa) (h2 : DE T X W b tb wb) : DE T X W (.BinOp a op b pos) (tOp r ta tb) (wOp f wa wb) :=
  ⟨pe_op ho h1.pe h2.pe, im_op h h1.im h2.im⟩
theorem de_cmp {op : CmpOp} {r : R2} {f : D → D → (D → Prop) → Prop} (ho : OpR X (compareOp op) r) (h : OpD T r f) (h1 : DE T X W a ta wa) (h2 : DE T X W b tb wb) (hm : behindInMarks op b = false) : DE T X W (.Compare a [op] [b] pos) (tOp r ta tb) (wOp f wa wb) :=
  ⟨pe_cmpR ho h1.pe h2.pe hm, im_op h h1.im h2.im⟩
theorem im_test {t : TE} {w : WE} (h : ImpE T W t w) : ImpT T W (tTest t) (wTest w) := fun ρ σ S H H0 post ep Q ok er ex q hw => by
  refine h ρ σ S H H0 _ ep _ ok er ex (fun d S1 H1 v p ok1 x1 r1 => ?_) hw
  cases r1 with
  | bl b => exact ⟨b, rfl, q b S1 H1 p ok1 x1⟩
  | _ => exact False.elim p
theorem dt_cmp {op : CmpOp} {r : R2} {f : D → D → (D → Prop) → Prop} (ho : OpR X (compareOp op) r) (h : OpD T r f) (h1 : DE T X W a ta wa) (h2 : DE T X W b tb wb) (hm : behindInMarks op b = false) : DT T X W (.Compare a [op] [b] pos) (tTest (tOp r ta tb)) (wTest (wOp f wa wb)) :=
  ⟨pt_cmpR ho h1.pe h2.pe hm, im_test (im_op h h1.im h2.im)⟩
theorem OpD.or {r r' : R2} {f f' : D → D → (D → Prop) → Prop} (h : OpD T r f) (h' : OpD T r' f') : OpD T (fun x y H Q => r x y H Q ∨ r' x y H Q) (fun x y p => f x y p ∨ f' x y p) := fun S H x y dx dy post Q ok r1 r2 q hw => hw.elim (fun z => .inl (h S H x y dx dy post Q ok r1 r2 q z)) fun z => .inr (h' S H x y dx dy post Q ok r1 r2 q z)
theorem im_un {r : V → Hp → VK → Prop} {f : D → (D → Prop) → Prop} (h : ∀ (S : VS) (H : Hp) (x : V) (dx : D) (post : D → Pr) (Q : VK), Ok T S H → Rep T S H x dx → QW T S H post Q → f dx (fun d => post d S.n) → r x H Q) (h1 : ImpE T W ta wa) : ImpE T W (tUn r ta) (wUn f wa) := fun ρ σ S H H0 post ep Q ok er ex q hw =>
  h1 ρ σ S H H0 _ ep _ ok er ex (fun d S1 H1 v p ok1 x1 r1 => h S1 H1 v d post Q ok1 r1 (q.ext x1) p) hw
end

/-! ### which operator does what, over data -/
def i2 (f : Int → Int → (D → Prop) → Prop) : D → D → (D → Prop) → Prop := fun x y p => match x, y with
  | .int i, .int j => f i j p
  | _, _ => False
def addD : D → D → (D → Prop) → Prop := fun x y p => match x, y with
  | .int i, .int j => p (.int (i + j))
  | .int i, .bl k => p (.int (i + b2i k))
  | .str a, .str b => a.length + b.length ≤ sizeLine ∧ p (.str (a ++ b))
  | .lst a, .lst b => a.length + b.length ≤ sizeLine ∧ p (.lst (a ++ b))
  | .tup a, .tup b => a ≠ [] ∧ a.length + b.length ≤ sizeLine ∧ p (.tup (a ++ b))
  | _, _ => False
def subD : D → D → (D → Prop) → Prop := i2 fun i j p => p (.int (i - j))
/-- a product: of two factors together below a million bits -/
def mulD : D → D → (D → Prop) → Prop := fun x y p => match x, y with
  | .int i, .int j => (CMulW i j ∨ CMul i j) ∧ p (.int (i * j))
  | .lst a, .int k => -(2 ^ 63) ≤ k ∧ k < 2 ^ 63 ∧ a.length * k.toNat ≤ sizeLine ∧ p (.lst (List.replicate k.toNat a).flatten)
  | _, _ => False
def divD : D → D → (D → Prop) → Prop := i2 fun i j p => (j ≠ 0 ∧ j.natAbs.log2 < 9000) ∧ p (.int (i.fdiv j))
def modD : D → D → (D → Prop) → Prop := i2 fun i j p => j ≠ 0 ∧ p (.int (i.fmod j))
def powD : D → D → (D → Prop) → Prop := i2 fun i j p => CPow i j ∧ p (.int (i ^ j.toNat))
def ltD : D → D → (D → Prop) → Prop := i2 fun i j p => p (.bl (decide (i < j)))
def leD : D → D → (D → Prop) → Prop := i2 fun i j p => p (.bl (decide (i ≤ j)))
def gtD : D → D → (D → Prop) → Prop := i2 fun i j p => p (.bl (decide (j < i)))
def geD : D → D → (D → Prop) → Prop := i2 fun i j p => p (.bl (decide (j ≤ i)))
mutual
def toPy : D → Option PyData
  | .non => some .none
  | .bl b => some (.bool b)
  | .int i => some (.int i)
  | .str x => some (.str x)
  | .tup l => (toPyL l).map .tuple
  | .lst l => (toPyL l).map .list
  | _ => none
def toPyL : List D → Option (List PyData)
  | [] => some []
  | d :: ds => match toPy d, toPyL ds with
    | some x, some xs => some (x :: xs)
    | _, _ => none
end
def eqD : D → D → (D → Prop) → Prop := fun x y p => ∃ a b, toPy x = some a ∧ toPy y = some b ∧ SeqAt.shaped a = true ∧ SeqAt.shaped b = true ∧ p (.bl (PyData.eqv a b))
def neD : D → D → (D → Prop) → Prop := fun x y p => ∃ a b, toPy x = some a ∧ toPy y = some b ∧ SeqAt.shaped a = true ∧ SeqAt.shaped b = true ∧ p (.bl (!PyData.eqv a b))
def isND : D → D → (D → Prop) → Prop := fun x y p => match y with
  | .non => match x with | .opq _ => False | .non => p (.bl true) | _ => p (.bl false)
  | _ => False
def isNotND : D → D → (D → Prop) → Prop := fun x y p => match y with
  | .non => match x with | .opq _ => False | .non => p (.bl false) | _ => p (.bl true)
  | _ => False
/-- an item -/
def ixD : D → D → (D → Prop) → Prop := fun x y p => match x, y with
  | .lst l, .int i => ∃ d, atI l i = some d ∧ p d
  | .tup l, .int i => ∃ d, atI l i = some d ∧ p d
  | .str z, .int i => z.length ≤ sizeLine ∧ ∃ c, atI z.cps.toList i = some c ∧ p (.str ⟨#[c]⟩)
  | _, _ => False

section
variable {T : Tb} {X : Cx} {S : VS} {H : Hp}
mutual
theorem Rep.py : ∀ {v : V} {d : D} {p : PyData}, Rep T S H v d → toPy d = some p → Dp T.K H v p
  | _, _, _, .non, e => by cases e; exact .non
  | _, _, _, .bl b, e => by cases e; exact .bl b
  | _, _, _, .int i, e => by cases e; exact .int i
  | _, _, _, .str x, e => by cases e; exact .str x
  | _, _, p, .tup (ds := ds) h r, e => by
    have e' : (toPyL ds).map PyData.tuple = some p := e
    cases q : toPyL ds with
    | none => rw [q] at e'; cases e'
    | some l => rw [q] at e'; cases e'; exact .tup h (RepL.py r q)
  | _, _, p, .lst (ds := ds) h _ r, e => by
    have e' : (toPyL ds).map PyData.list = some p := e
    cases q : toPyL ds with
    | none => rw [q] at e'; cases e'
    | some l => rw [q] at e'; cases e'; exact .lst (SqL.of h) (RepL.py r q)
  | _, _, _, .dic _ _ _, e => by cases e
  | _, _, _, .ins _ _ _, e => by cases e
  | _, _, _, .exc _ _ _, e => by cases e
  | _, _, _, .cls _, e => by cases e
  | _, _, _, .ty _, e => by cases e
  | _, _, _, .vol _, e => by cases e
  | _, _, _, .opq _ _ _, e => by cases e
  | _, _, _, .scr _, e => by cases e
theorem RepL.py : ∀ {vs : List V} {ds : List D} {p : List PyData}, RepL T S H vs ds → toPyL ds = some p → DpAll T.K H vs p
  | _, _, _, .nil, e => by cases e; exact .nil
  | _, _, p, .cons (d := d) (ds := ds) r t, e => by
    have e' : (match toPy d, toPyL ds with | some x, some xs => some (x :: xs) | _, _ => none) = some p := e
    cases q1 : toPy d with
    | none => rw [q1] at e'; cases e'
    | some x =>
      cases q2 : toPyL ds with
      | none => rw [q1, q2] at e'; cases e'
      | some xs => rw [q1, q2] at e'; cases e'; exact .cons (Rep.py r q1) (RepL.py t q2)
end
theorem Rep.ints {x : V} {i : Int} (r : Rep T S H x (.int i)) : x = .int i := by cases r; rfl
theorem op_fdivX : OpR X (binaryOp .FloorDiv) (rI (fun _ j => j ≠ 0 ∧ j.natAbs.log2 < 9000) fun i j => .int (i.fdiv j)) := opI fun i j _ _ _ _ _ hc q => floordiv_int hc.1 q (.inl (PyProof.noPylong_of_log2 hc.2))
theorem op_mulX : OpR X (binaryOp .Mult) (rI (fun i j => CMulW i j ∨ CMul i j) fun i j => .int (i * j)) := opI fun _ _ _ _ _ _ _ hc q => mul_int q (hc.elim (fun h => h.ok) fun h => h.ok)
abbrev rAdds (K : PySem.W.Frag) : R2 := fun x y H Q => (rI0 fun i j => .int (i + j)) x y H Q ∨ ((fun x y H Q => ∃ i k, x = .int i ∧ y = .bl k ∧ Q (.int (i + b2i k)) H) x y H Q ∨
  ((fun x y H Q => ∃ i j, x = .str i ∧ y = .str j ∧ i.length + j.length ≤ sizeLine ∧ Q (.str (i ++ j)) H) x y H Q ∨ (rCat x y H Q ∨ rCatT K x y H Q)))
theorem op_adds : OpR X (binaryOp .Add) (rAdds X.K) := op_add.or (op_add_ib.or (op_add_str.or (op_cat.or op_catT)))
theorem d_add : OpD T (rAdds T.K) addD := fun S H x y dx dy post Q ok r1 r2 q hw => by
  cases r1 with
  | int i => cases r2 with
    | int j => exact .inl ⟨i, j, rfl, rfl, q _ S H _ hw ok .refl (.int _)⟩
    | bl k => exact .inr (.inl ⟨i, k, rfl, rfl, q _ S H _ hw ok .refl (.int _)⟩)
    | _ => exact False.elim hw
  | str i => cases r2 with
    | str j => exact .inr (.inr (.inl ⟨i, j, rfl, rfl, hw.1, q _ S H _ hw.2 ok .refl (.str _)⟩))
    | _ => exact False.elim hw
  | lst h1 e1 l1 => cases r2 with
    | lst h2 e2 l2 => exact .inr (.inr (.inr (.inl ⟨_, _, _, _, rfl, rfl, h1, h2, by rw [l1.length, l2.length]; exact hw.1, new_lst ok q (l1.append l2) hw.2⟩)))
    | _ => exact False.elim hw
  | tup h1 l1 => cases r2 with
    | @tup b ys es h2 l2 =>
      obtain ⟨w1, w2, w3⟩ := hw
      refine .inr (.inr (.inr (.inr ⟨_, _, _, _, rfl, rfl, h1, h2, fun z => w1 ?_, by rw [l1.length, l2.length]; exact w2, fun z => ?_, fun _ => new_tup ok q (l1.append l2) w3⟩)))
      · subst z; cases l1; rfl
      · subst z
        cases l2
        rw [List.append_nil] at w3
        exact q _ S H _ w3 ok .refl (.tup h1 l1)
    | _ => exact False.elim hw
  | _ => exact False.elim hw
theorem d_i2 {C : Int → Int → Prop} {g : Int → Int → Int} : OpD T (rI C fun i j => .int (g i j)) (i2 fun i j p => C i j ∧ p (.int (g i j))) := fun S H x y dx dy post Q ok r1 r2 q hw => by
  cases r1 with
  | int i => cases r2 with
    | int j => exact ⟨i, j, rfl, rfl, hw.1, q _ S H _ hw.2 ok .refl (.int _)⟩
    | _ => exact False.elim hw
  | _ => exact False.elim hw
theorem d_sub : OpD T (rI0 fun i j => .int (i - j)) subD := fun S H x y dx dy post Q ok r1 r2 q hw => by
  cases r1 with
  | int i => cases r2 with
    | int j => exact ⟨i, j, rfl, rfl, q _ S H _ hw ok .refl (.int _)⟩
    | _ => exact False.elim hw
  | _ => exact False.elim hw
theorem d_b2 {g : Int → Int → Bool} : OpD T (rI0 fun i j => .bl (g i j)) (i2 fun i j p => p (.bl (g i j))) := fun S H x y dx dy post Q ok r1 r2 q hw => by
  cases r1 with
  | int i => cases r2 with
    | int j => exact ⟨i, j, rfl, rfl, q _ S H _ hw ok .refl (.bl _)⟩
    | _ => exact False.elim hw
  | _ => exact False.elim hw
theorem RepL.flat {xs : List V} {ds : List D} (h : RepL T S H xs ds) : ∀ k : Nat, RepL T S H (List.replicate k xs).flatten (List.replicate k ds).flatten
  | 0 => .nil
  | k + 1 => by
    rw [List.replicate_succ, List.replicate_succ, List.flatten_cons, List.flatten_cons]
    exact h.append (RepL.flat h k)
abbrev rMuls : R2 := fun x y H Q => rI (fun i j => CMulW i j ∨ CMul i j) (fun i j => .int (i * j)) x y H Q ∨ rRep x y H Q
theorem op_muls : OpR X (binaryOp .Mult) rMuls := op_mulX.or op_rep
theorem d_mul : OpD T rMuls mulD := fun S H x y dx dy post Q ok r1 r2 q hw => by
  cases r1 with
  | int i => cases r2 with
    | int j => exact .inl ⟨i, j, rfl, rfl, hw.1, q _ S H _ hw.2 ok .refl (.int _)⟩
    | _ => exact False.elim hw
  | lst h1 e1 l1 => cases r2 with
    | int k =>
      obtain ⟨w1, w2, w3, w4⟩ := hw
      exact .inr ⟨_, _, _, rfl, rfl, h1, w1, w2, by rw [l1.length]; exact w3, new_lst ok q (l1.flat _) w4⟩
    | _ => exact False.elim hw
  | _ => exact False.elim hw
theorem d_div : OpD T (rI (fun _ j => j ≠ 0 ∧ j.natAbs.log2 < 9000) fun i j => .int (i.fdiv j)) divD := d_i2
theorem d_mod : OpD T (rI (fun _ j => j ≠ 0) fun i j => .int (i.fmod j)) modD := d_i2
theorem d_pow : OpD T (rI CPow fun i j => .int (i ^ j.toNat)) powD := d_i2
theorem d_eq : OpD T (rEqD T.K) eqD := fun S H x y dx dy post Q ok r1 r2 q hw => by
  obtain ⟨a, b, h1, h2, h3, h4, h5⟩ := hw
  exact ⟨a, b, r1.py h1, r2.py h2, h3, h4, q _ S H _ h5 ok .refl (.bl _)⟩
theorem d_ne : OpD T (rNeD T.K) neD := fun S H x y dx dy post Q ok r1 r2 q hw => by
  obtain ⟨a, b, h1, h2, h3, h4, h5⟩ := hw
  exact ⟨a, b, r1.py h1, r2.py h2, h3, h4, q _ S H _ h5 ok .refl (.bl _)⟩
theorem d_isN : OpD T (fun x y H Q => y = .non ∧ Q (.bl (decide (x = .non))) H) isND := fun S H x y dx dy post Q ok r1 r2 q hw => by
  cases r2 with
  | non =>
    refine ⟨rfl, ?_⟩
    cases r1 <;> first | exact q _ S H _ hw ok .refl (.bl _) | exact False.elim hw
  | _ => exact False.elim hw
theorem d_isNotN : OpD T (fun x y H Q => y = .non ∧ Q (.bl (!decide (x = .non))) H) isNotND := fun S H x y dx dy post Q ok r1 r2 q hw => by
  cases r2 with
  | non =>
    refine ⟨rfl, ?_⟩
    cases r1 <;> first | exact q _ S H _ hw ok .refl (.bl _) | exact False.elim hw
  | _ => exact False.elim hw
theorem atI_rep {xs : List V} {ds : List D} {i : Int} {d : D} (r : RepL T S H xs ds) (h : atI ds i = some d) : ∃ v, atI xs i = some v ∧ Rep T S H v d := by
  unfold atI at h ⊢
  rw [r.length]
  cases e : ixN ds.length i with
  | none => rw [e] at h; cases h
  | some j =>
    rw [e] at h
    exact r.getD h
end
end PyD

/-! PyD: statements, loops over data, defs and their calls. -/
namespace PyD
open PySem PySem.Spec PyProof.Rows L2

/-! ### fresh lists -/
abbrev WF := EnvD → (List D → Pr) → EP → Pr
def QF (T : Tb) (S : VS) (H : Hp) (post : List D → Pr) (Q : VK) : Prop := ∀ (ds : List D) (S' : VS) (H' : Hp) (xs : List V) (p : Addr), post ds S'.n → Ok T S' H' → Ext S H S' H' → H p = none → H' p = some (.lst xs) → S' p = some .own → RepL T S' H' xs ds → Q (.ref p) H'
def ImpF (T : Tb) (W : WX) (t : TE) (w : WF) : Prop := ∀ (ρ : EnvD) (σ : St) (S : VS) (H H0 : Hp) (post : List D → Pr) (ep : EP) (Q : VK), Ok T S H → EnvRel T H0 S H σ ρ → ExW T W σ S H ep → QF T S H post Q → w ρ post ep S.n → t σ H Q
structure DF (T : Tb) (X : Cx) (W : WX) (e : Expr) (t : TE) (w : WF) : Prop where
  pe : PE X e t
  im : ImpF T W t w
def wOfF (w : WF) : WE := fun ρ post ep => w ρ (fun ds => post (.lst ds)) ep
section
variable {T : Tb} {X : Cx} {W : WX} {e : Expr} {es : List Expr} {t : TE} {ts : TA} {w : WE} {ws : WA} {pos : Pos}
theorem QF.of {S : VS} {H : Hp} {post : D → Pr} {Q : VK} (ok : Ok T S H) (q : QW T S H post Q) : QF T S H (fun ds => post (.lst ds)) Q := fun ds S' H' xs p hp ok' x h1 h2 h3 r => by
  obtain ⟨okf, xf⟩ := freeze ok' h3
  exact q _ (frozen S' p) H' _ hp okf (freeze_ext x h1 ok) (.lst h2 frozen_same (r.ext ok' xf))
theorem de_ofF {w : WF} (h : DF T X W e t w) : DE T X W e t (wOfF w) := ⟨h.pe, fun ρ σ S H H0 post ep Q ok er ex q hw => h.im ρ σ S H H0 _ ep Q ok er ex (QF.of ok q) hw⟩
/-- a new list laid: the frame's own -/
theorem newF {S : VS} {H : Hp} {post : List D → Pr} {Q : VK} {xs : List V} {ds : List D} (ok : Ok T S H) (q : QF T S H post Q) (r : RepL T S H xs ds) (h : post ds S.n) : ∀ p, H p = none → Q (.ref p) (upd H p (.lst xs)) := fun p hp => by
  obtain ⟨o, x⟩ := own_new (xs := xs) ok hp
  exact q ds (own S p) _ xs p h o x hp upd_same own_same (r.ext ok x.to0)
theorem QF.ext {S S1 : VS} {H H1 : Hp} {post : List D → Pr} {Q : VK} (ok : Ok T S H) (ok1 : Ok T S1 H1) (q : QF T S H post Q) (x : Ext S H S1 H1) : QF T S1 H1 post Q := fun ds S' H' xs p a b c d e f g => q ds S' H' xs p a b (x.trans c) (x.none ok ok1 d) e f g
def wLstF (r : WA) : WF := fun ρ post ep => r ρ (fun ds n => ds.length ≤ sizeLine ∧ post ds n) ep
theorem df_lst (h : DA T X W es ts ws) : DF T X W (.List es pos) (tLst ts) (wLstF ws) :=
  ⟨pe_lst h.pa, fun ρ σ S H H0 post ep Q ok er ex q hw => h.im ρ σ S H H0 _ ep _ ok er ex (fun ds S1 H1 vs p ok1 x1 r1 => ⟨by rw [r1.length]; exact p.1, newF ok1 (q.ext ok ok1 x1) r1 p.2⟩) hw⟩
end

/-! ### statements -/
structure KS where
  nx : EnvD → Pr
  rt : EnvD → D → Pr
  rf : List D → Pr
  ex : EP
  bk : EnvD → Pr := fun _ _ => False
  ct : EnvD → Pr := fun _ _ => False
abbrev WS := EnvD → KS → Pr
structure Stt (T : Tb) (S0 : VS) (H0 : Hp) (S1 : VS) (H1 : Hp) (S : VS) (H : Hp) (σ : St) (ρ : EnvD) : Prop where
  ok : Ok T S H
  b : Ext S0 H0 S H
  x : Ext0 S1 H1 S H
  er : EnvRel T H0 S H σ ρ
structure KD (T : Tb) (W : WX) (S0 : VS) (H0 : Hp) (S1 : VS) (H1 : Hp) (K : KS) (D : Ends) : Prop where
  nx : ∀ ρ σ S H, K.nx ρ S.n → Stt T S0 H0 S1 H1 S H σ ρ → D.nx σ H
  bk : ∀ ρ σ S H, K.bk ρ S.n → Stt T S0 H0 S1 H1 S H σ ρ → D.bk σ H
  ct : ∀ ρ σ S H, K.ct ρ S.n → Stt T S0 H0 S1 H1 S H σ ρ → D.ct σ H
  rt : ∀ ρ σ d v S H, K.rt ρ d S.n → Ok T S H → Ext S0 H0 S H → EnvRel T H0 S H σ ρ → Rep T S H v d → D.rt v H
  rf : QF T S0 H0 K.rf D.rt
  ex : ∀ σ, ExW T W σ S0 H0 K.ex
theorem Stt.after {T : Tb} {S0 S1 S2 S : VS} {H0 H1 H2 H : Hp} {σ : St} {ρ : EnvD} (a : Ext0 S1 H1 S2 H2) (s : Stt T S0 H0 S2 H2 S H σ ρ) : Stt T S0 H0 S1 H1 S H σ ρ := ⟨s.ok, s.b, a.trans s.x, s.er⟩
theorem KD.after {T : Tb} {W : WX} {S0 S1 S2 : VS} {H0 H1 H2 : Hp} {K : KS} {D : Ends} (k : KD T W S0 H0 S1 H1 K D) (a : Ext0 S1 H1 S2 H2) : KD T W S0 H0 S2 H2 K D :=
  ⟨fun ρ σ S H h s => k.nx ρ σ S H h (s.after a), fun ρ σ S H h s => k.bk ρ σ S H h (s.after a), fun ρ σ S H h s => k.ct ρ σ S H h (s.after a), k.rt, k.rf, k.ex⟩
def ImpS (T : Tb) (W : WX) (t : TS) (w : WS) : Prop := ∀ (ρ : EnvD) (σ : St) (S : VS) (H : Hp) (S0 : VS) (H0 : Hp) (K : KS) (D : Ends), Ok T S0 H0 → Ok T S H → Ext S0 H0 S H → EnvRel T H0 S H σ ρ → KD T W S0 H0 S H K D → w ρ K S.n → t D σ H
structure DS (T : Tb) (X : Cx) (W : WX) (st : Stmt) (t : TS) (w : WS) : Prop where
  ps : PS X st t
  im : ImpS T W t w
structure DSs (T : Tb) (X : Cx) (W : WX) (st : List Stmt) (t : TS) (w : WS) : Prop where
  pss : PSs X st t
  im : ImpS T W t w
def wNext : WS := fun ρ K => K.nx ρ
def wSeq (a b : WS) : WS := fun ρ K => a ρ { K with nx := fun ρ' => b ρ' K }
def wSet (i : Nat) (e : WE) : WS := fun ρ K => e ρ (fun d => K.nx (ρ.set i (.val d))) K.ex
def wSetF (i : Nat) (e : WF) : WS := fun ρ K => e ρ (fun ds => K.nx (ρ.set i (.own ds))) K.ex
def wExpr (e : WE) : WS := fun ρ K => e ρ (fun _ => K.nx ρ) K.ex
def wRet (e : WE) : WS := fun ρ K => e ρ (K.rt ρ) K.ex
def wRetF (e : WF) : WS := fun ρ K => e ρ K.rf K.ex
def wRetN : WS := fun ρ K => K.rt ρ .non
def wRetO (i : Nat) : WS := fun ρ K => match ρ.getD i .no with
  | .own ds => K.rf ds
  | _ => fun _ => False
def wIf (c : WT) (a b : WS) : WS := fun ρ K => c ρ (fun k => if k = true then a ρ K else b ρ K) K.ex
def wBreak : WS := fun ρ K => K.bk ρ
def wCont : WS := fun ρ K => K.ct ρ
/-- a frame's own list is read from now on only -/
def wFreeze (i : Nat) (a : WS) : WS := fun ρ K => match ρ.getD i .no with
  | .own ds => a (ρ.set i (.val (.lst ds))) K
  | _ => fun _ => False

section
variable {T : Tb} {X : Cx} {W : WX} {st : Stmt} {sts : List Stmt} {t u : TS} {w wb : WS} {e : Expr} {te : TE} {we : WE} {wf : WF} {pos : Pos}
theorem ExW.of {S0 S : VS} {H0 H : Hp} {σ : St} {ep : EP} (e : ∀ σ, ExW T W σ S0 H0 ep) (x : Ext S0 H0 S H) : ExW T W σ S H ep := (e σ).ext x
theorem dss_nil : DSs T X W [] tNext wNext := ⟨pss_nil, fun ρ σ S H S0 H0 K D ok0 ok b er k h => k.nx ρ σ S H h ⟨ok, b, .refl, er⟩⟩
theorem im_seq (h1 : ImpS T W t w) (h2 : ImpS T W u wb) : ImpS T W (tSeq t u) (wSeq w wb) := fun ρ σ S H S0 H0 K D ok0 ok b er k h =>
  h1 ρ σ S H S0 H0 { K with nx := fun ρ' => wb ρ' K } { D with nx := u D } ok0 ok b er ⟨fun ρ' σ' S' H' p s => h2 ρ' σ' S' H' S0 H0 K D ok0 s.ok s.b s.er (k.after s.x) p, k.bk, k.ct, k.rt, k.rf, k.ex⟩ h
theorem dss_cons (h1 : DS T X W st t w) (h2 : DSs T X W sts u wb) : DSs T X W (st :: sts) (tSeq t u) (wSeq w wb) := ⟨pss_cons h1.ps h2.pss, im_seq h1.im h2.im⟩
theorem dss_one (h1 : DS T X W st t w) : DSs T X W [st] t w := ⟨pss_one h1.ps, h1.im⟩
theorem EnvRel.setVal {H0 : Hp} {S : VS} {H : Hp} {σ : St} {ρ : EnvD} {i : Nat} {v : V} {d : D} (er : EnvRel T H0 S H σ ρ) (r : Rep T S H v d) : EnvRel T H0 S H (σ.set i (some v)) (ρ.set i (.val d)) := by
  have hl := er.len
  refine ⟨by simpa using hl, fun j d' e => ?_, fun j ds e => ?_, fun j k ds es a e1 e2 e3 e4 => ?_, fun j c fs e => ?_, fun j k c c' fs fs' e1 e2 => ?_⟩
  · by_cases hj : j = i
    · subst hj
      by_cases hlt : j < ρ.length
      · rw [List.getElem?_set_self hlt] at e
        cases e
        exact ⟨v, List.getElem?_set_self (by rw [hl]; exact hlt), r⟩
      · rw [List.getElem?_eq_none (by simpa using hlt)] at e; cases e
    · rw [List.getElem?_set_ne (Ne.symm hj)] at e ⊢
      exact er.val j d' e
  · by_cases hj : j = i
    · subst hj
      by_cases hlt : j < ρ.length
      · rw [List.getElem?_set_self hlt] at e; cases e
      · rw [List.getElem?_eq_none (by simpa using hlt)] at e; cases e
    · rw [List.getElem?_set_ne (Ne.symm hj)] at e ⊢
      exact er.own j ds e
  · have n1 : j ≠ i := fun z => by
      subst z
      by_cases hlt : j < ρ.length
      · rw [List.getElem?_set_self hlt] at e1; cases e1
      · rw [List.getElem?_eq_none (by simpa using hlt)] at e1; cases e1
    have n2 : k ≠ i := fun z => by
      subst z
      by_cases hlt : k < ρ.length
      · rw [List.getElem?_set_self hlt] at e2; cases e2
      · rw [List.getElem?_eq_none (by simpa using hlt)] at e2; cases e2
    rw [List.getElem?_set_ne (Ne.symm n1)] at e1 e3
    rw [List.getElem?_set_ne (Ne.symm n2)] at e2 e4
    exact er.dis j k ds es a e1 e2 e3 e4
  · obtain ⟨n, z⟩ := set_back (by simp) e
    rw [List.getElem?_set_ne (Ne.symm n)]
    exact er.obj j c fs z
  · exact er.odis j k c c' fs fs' (set_back (by simp) e1).2 (set_back (by simp) e2).2
theorem EnvRel.setOwn {H0 : Hp} {S : VS} {H : Hp} {σ : St} {ρ : EnvD} {i : Nat} {p : Addr} {xs : List V} {ds : List D} (er : EnvRel T H0 S H σ ρ) (h1 : H p = some (.lst xs)) (h2 : S p = some .own) (r : RepL T S H xs ds) (h0 : H0 p = none)
    (fr : ∀ (j : Nat) (es : List D), ρ[j]? = some (.own es) → σ[j]? ≠ some (some (.ref p))) : EnvRel T H0 S H (σ.set i (some (.ref p))) (ρ.set i (.own ds)) := by
  have hl := er.len
  have cut : ∀ {α : Type} {l : List α} {j : Nat} {x y : α}, (l.set i x)[j]? = some y → (j = i ∧ j < l.length ∧ y = x) ∨ (j ≠ i ∧ l[j]? = some y) := fun {α l j x y} e => by
    by_cases hj : j = i
    · subst hj
      by_cases hlt : j < l.length
      · rw [List.getElem?_set_self hlt] at e
        exact .inl ⟨rfl, hlt, (Option.some.inj e).symm⟩
      · rw [List.getElem?_eq_none (by simpa using hlt)] at e; cases e
    · rw [List.getElem?_set_ne (Ne.symm hj)] at e
      exact .inr ⟨hj, e⟩
  refine ⟨by simpa using hl, fun j d' e => ?_, fun j es e => ?_, fun j k ds' es' a e1 e2 e3 e4 => ?_, fun j c fs e => ?_, fun j k c c' fs fs' e1 e2 => ?_⟩
  · rcases cut e with ⟨_, _, z⟩ | ⟨n, z⟩
    · cases z
    · rw [List.getElem?_set_ne (Ne.symm n)]
      exact er.val j d' z
  · rcases cut e with ⟨n, hlt, z⟩ | ⟨n, z⟩
    · cases z
      subst n
      exact ⟨p, xs, List.getElem?_set_self (by rw [hl]; exact hlt), h1, h2, r, h0⟩
    · rw [List.getElem?_set_ne (Ne.symm n)]
      exact er.own j es z
  · rcases cut e1 with ⟨n1, _, _⟩ | ⟨n1, z1⟩
    · rcases cut e2 with ⟨n2, _, _⟩ | ⟨n2, z2⟩
      · rw [n1, n2]
      · rcases cut e3 with ⟨_, _, y⟩ | ⟨y, _⟩
        · rcases cut e4 with ⟨y2, _, _⟩ | ⟨_, y2⟩
          · exact absurd y2 n2
          · cases y
            exact absurd y2 (fr k _ z2)
        · exact absurd n1 y
    · rcases cut e2 with ⟨n2, _, _⟩ | ⟨n2, z2⟩
      · rcases cut e4 with ⟨_, _, y⟩ | ⟨y, _⟩
        · rcases cut e3 with ⟨y2, _, _⟩ | ⟨_, y2⟩
          · exact absurd y2 n1
          · cases y
            exact absurd y2 (fr j _ z1)
        · exact absurd n2 y
      · rw [List.getElem?_set_ne (Ne.symm n1)] at e3
        rw [List.getElem?_set_ne (Ne.symm n2)] at e4
        exact er.dis j k ds' es' a z1 z2 e3 e4
  · obtain ⟨n, z⟩ := set_back (by simp) e
    rw [List.getElem?_set_ne (Ne.symm n)]
    exact er.obj j c fs z
  · exact er.odis j k c c' fs fs' (set_back (by simp) e1).2 (set_back (by simp) e2).2
/-- name = e -/
theorem im_set {i : Nat} (h : ImpE T W te we) : ImpS T W (tAsg te (gName i)) (wSet i we) := fun ρ σ S H S0 H0 K D ok0 ok b er k hw =>
  h ρ σ S H H0 _ _ _ ok er (ExW.of k.ex b) (fun d S' H' v p ok' x r => k.nx _ _ S' H' p ⟨ok', b.trans x, x.to0, (er.ext ok x).setVal r⟩) hw
theorem ds_set {i : Nat} {st : Stmt} (hp : PS X st (tAsg te (gName i))) (h : ImpE T W te we) : DS T X W st (tAsg te (gName i)) (wSet i we) := ⟨hp, im_set h⟩
theorem im_setF {i : Nat} (h : ImpF T W te wf) : ImpS T W (tAsg te (gName i)) (wSetF i wf) := fun ρ σ S H S0 H0 K D ok0 ok b er k hw =>
  h ρ σ S H H0 _ _ _ ok er (ExW.of k.ex b) (fun ds S' H' xs p hp ok' x h1 h2 h3 r => k.nx _ _ S' H' hp ⟨ok', b.trans x, x.to0, (er.ext ok x).setOwn h2 h3 r (b.none ok0 ok h1) fun j es ej z => by
    obtain ⟨a, ys, k1, k2, _⟩ := er.own j es ej
    rw [k1] at z
    cases z
    rw [h1] at k2; cases k2⟩) hw
theorem ds_setF {i : Nat} {st : Stmt} (hp : PS X st (tAsg te (gName i))) (h : ImpF T W te wf) : DS T X W st (tAsg te (gName i)) (wSetF i wf) := ⟨hp, im_setF h⟩
theorem im_expr (h : ImpE T W te we) : ImpS T W (tDrop te) (wExpr we) := fun ρ σ S H S0 H0 K D ok0 ok b er k hw =>
  h ρ σ S H H0 _ _ _ ok er (ExW.of k.ex b) (fun d S' H' v p ok' x r => k.nx _ _ S' H' p ⟨ok', b.trans x, x.to0, er.ext ok x⟩) hw
theorem ds_expr (h : DE T X W e te we) (hs : swapsWith e none pos.line X.env = pure false := by rfl) : DS T X W (.Expr e pos) (tDrop te) (wExpr we) := ⟨ps_expr h.pe hs, im_expr h.im⟩
theorem im_ret (h : ImpE T W te we) : ImpS T W (tRet te) (wRet we) := fun ρ σ S H S0 H0 K D ok0 ok b er k hw =>
  h ρ σ S H H0 _ _ _ ok er (ExW.of k.ex b) (fun d S' H' v p ok' x r => k.rt ρ σ d v S' H' p ok' (b.trans x) (er.ext ok x) r) hw
theorem ds_ret (h : DE T X W e te we) : DS T X W (.Return (some e) pos) (tRet te) (wRet we) := ⟨ps_ret h.pe, im_ret h.im⟩
theorem im_retF (h : ImpF T W te wf) : ImpS T W (tRet te) (wRetF wf) := fun ρ σ S H S0 H0 K D ok0 ok b er k hw =>
  h ρ σ S H H0 _ _ _ ok er (ExW.of k.ex b) (k.rf.ext ok0 ok b) hw
theorem ds_retF (h : DF T X W e te wf) : DS T X W (.Return (some e) pos) (tRet te) (wRetF wf) := ⟨ps_ret h.pe, im_retF h.im⟩
theorem ds_retN : DS T X W (.Return none pos) tRetN wRetN := ⟨ps_retN, fun ρ σ S H S0 H0 K D ok0 ok b er k hw => k.rt ρ σ .non .non S H hw ok b er .non⟩
theorem getD_own {ρ : EnvD} {i n : Nat} {P : List D → Pr} (h : (match ρ.getD i .no with | .own d => P d | _ => fun _ => False) n) : ∃ d, ρ[i]? = some (.own d) ∧ P d n := by
  rw [List.getD_eq_getElem?_getD] at h
  cases e : ρ[i]? with
  | none => rw [e] at h; exact h.elim
  | some s =>
    rw [e] at h
    cases s with
    | own d => exact ⟨d, rfl, h⟩
    | obj _ _ => exact h.elim
    | no => exact h.elim
    | val ds => exact h.elim
/-- return x, x the frame's own -/
theorem im_retO {i : Nat} : ImpS T W (tRet (tVar i)) (wRetO i) := fun ρ σ S H S0 H0 K D ok0 ok b er k hw => by
  obtain ⟨ds, e, p⟩ := getD_own hw
  obtain ⟨a, xs, h1, h2, h3, h4, h5⟩ := er.own i ds e
  exact ⟨.ref a, h1, k.rf ds S H xs a p ok b h5 h2 h3 h4⟩
theorem ds_retO {x : Str} {p : Pos} {i : Nat} (h : PE X (.Name x p) (tVar i)) : DS T X W (.Return (some (.Name x p)) pos) (tRet (tVar i)) (wRetO i) := ⟨ps_ret h, im_retO⟩
theorem im_if {tc : TT} {wc : WT} (hc : ImpT T W tc wc) (h1 : ImpS T W t w) (h2 : ImpS T W u wb) : ImpS T W (tIfS tc t u) (wIf wc w wb) := fun ρ σ S H S0 H0 K D ok0 ok b er k hw =>
  hc ρ σ S H H0 _ _ _ ok er (ExW.of k.ex b) (fun c S' H' p ok' x => by
    cases c with
    | true => exact h1 ρ σ S' H' S0 H0 K D ok0 ok' (b.trans x) (er.ext ok x) (k.after x.to0) p
    | false => exact h2 ρ σ S' H' S0 H0 K D ok0 ok' (b.trans x) (er.ext ok x) (k.after x.to0) p) hw
theorem ds_if {c : Expr} {sa sb : List Stmt} {tc : TT} {wc : WT} (hc : DT T X W c tc wc) (h1 : DSs T X W sa t w) (h2 : DSs T X W sb u wb) : DS T X W (.If c sa sb pos) (tIfS tc t u) (wIf wc w wb) :=
  ⟨ps_if hc.pt h1.pss h2.pss, im_if hc.im h1.im h2.im⟩
theorem ds_break : DS T X W (.Break pos) tBreak wBreak := ⟨ps_break, fun ρ σ S H S0 H0 K D ok0 ok b er k hw => k.bk ρ σ S H hw ⟨ok, b, .refl, er⟩⟩
theorem ds_cont : DS T X W (.Continue pos) tCont wCont := ⟨ps_continue, fun ρ σ S H S0 H0 K D ok0 ok b er k hw => k.ct ρ σ S H hw ⟨ok, b, .refl, er⟩⟩
theorem ds_pass : DS T X W (.Pass pos) tNext wNext := ⟨ps_pass, fun ρ σ S H S0 H0 K D ok0 ok b er k hw => k.nx ρ σ S H hw ⟨ok, b, .refl, er⟩⟩
/-- code that the proof never comes to -/
def wNever : WS := fun _ _ _ => False
theorem ds_never : DS T X W st tNever wNever := ⟨ps_never, fun _ _ _ _ _ _ _ _ _ _ _ _ _ h => h⟩
end

/-! ### a, b = x, y by plain local names -/
def wPar (i j : Nat) (a : WA) : WS := fun ρ K => a ρ (fun ds => match ds with
  | [x, y] => K.nx ((ρ.set i (.val x)).set j (.val y))
  | _ => fun _ => False) K.ex
theorem im_par {T : Tb} {W : WX} {i j : Nat} {ta : TA} {wa : WA} (h : ImpA T W ta wa) : ImpS T W (tPar i j ta) (wPar i j wa) := fun ρ σ S H S0 H0 K D ok0 ok b er k hw =>
  h ρ σ S H H0 _ _ _ ok er (ExW.of k.ex b) (fun ds S' H' vs p ok' x r => by
    match ds, r, p with
    | [d1, d2], .cons r1 (.cons r2 .nil), p => exact ⟨_, _, rfl, k.nx _ _ S' H' p ⟨ok', b.trans x, x.to0, ((er.ext ok x).setVal r1).setVal r2⟩⟩) hw
end PyD

/-! PyD: targets, what is walked, for, while, list comprehensions. -/
namespace PyD
open PySem PySem.Spec PyProof.Rows L2

/-! ### targets -/
abbrev WG := D → EnvD → (EnvD → Pr) → Pr
abbrev WGs := List D → EnvD → (EnvD → Pr) → Pr
def gN (i : Nat) : WG := fun d ρ k => k (ρ.set i (.val d))
def gsNil : WGs := fun ds ρ k => match ds with
  | [] => k ρ
  | _ => fun _ => False
def gsCons (g : WG) (r : WGs) : WGs := fun ds ρ k => match ds with
  | d :: ds => g d ρ (fun ρ' => r ds ρ' k)
  | [] => fun _ => False
def gT (n : Nat) (g : WGs) : WG := fun d ρ k => match d with
  | .tup ds => fun m => ds.length = n ∧ g ds ρ k m
  | _ => fun _ => False
def ImpG (T : Tb) (g : TG) (w : WG) : Prop := ∀ (v : V) (d : D) (ρ : EnvD) (σ : St) (S : VS) (H H0 : Hp) (k : EnvD → Pr) (Q : St → Hp → Prop), Ok T S H → EnvRel T H0 S H σ ρ → Rep T S H v d → (∀ ρ' σ', k ρ' S.n → EnvRel T H0 S H σ' ρ' → Q σ' H) → w d ρ k S.n → g v σ H Q
def ImpGs (T : Tb) (g : TGs) (w : WGs) : Prop := ∀ (vs : List V) (ds : List D) (ρ : EnvD) (σ : St) (S : VS) (H H0 : Hp) (k : EnvD → Pr) (Q : St → Hp → Prop), Ok T S H → EnvRel T H0 S H σ ρ → RepL T S H vs ds → (∀ ρ' σ', k ρ' S.n → EnvRel T H0 S H σ' ρ' → Q σ' H) → w ds ρ k S.n → g vs σ H Q
/-- the slots that a target stores -/
theorem wipe_at (σ : St) : ∀ (vs : List Nat) (j : Nat), (wipe σ vs)[j]? = if j ∈ vs then (σ[j]?).map (fun _ => none) else σ[j]?
  | [], j => by simp [wipe]
  | v :: vs, j => by
    unfold wipe
    by_cases h : j = v
    · subst h
      rw [if_pos List.mem_cons_self]
      by_cases hl : j < (wipe σ vs).length
      · rw [List.getElem?_set_self hl]
        rw [wipe_length] at hl
        rw [List.getElem?_eq_getElem hl]
        rfl
      · rw [List.getElem?_eq_none (by simpa using hl)]
        rw [wipe_length] at hl
        rw [List.getElem?_eq_none (by simpa using hl)]
        rfl
    · rw [List.getElem?_set_ne (Ne.symm h), wipe_at σ vs j]
      by_cases hm : j ∈ vs
      · rw [if_pos hm, if_pos (List.mem_cons_of_mem _ hm)]
      · rw [if_neg hm, if_neg (fun z => (List.mem_cons.mp z).elim h hm)]
theorem wipe_set {σ : St} {vs : List Nat} {i : Nat} {x : Option V} (h : i ∈ vs) : wipe (σ.set i x) vs = wipe σ vs := by
  apply List.ext_getElem?
  intro j
  rw [wipe_at, wipe_at]
  by_cases hj : j ∈ vs
  · rw [if_pos hj, if_pos hj]
    by_cases e : i = j
    · subst e
      by_cases hl : i < σ.length
      · rw [List.getElem?_set_self hl, List.getElem?_eq_getElem hl]; rfl
      · rw [List.getElem?_eq_none (by simpa using hl), List.getElem?_eq_none (by simpa using hl)]
    · rw [List.getElem?_set_ne e]
  · rw [if_neg hj, if_neg hj, List.getElem?_set_ne (fun z => hj (by rw [← z]; exact h))]
theorem wipe_wipe (σ : St) (vs : List Nat) : wipe (wipe σ vs) vs = wipe σ vs := by
  apply List.ext_getElem?
  intro j
  rw [wipe_at, wipe_at]
  by_cases hj : j ∈ vs
  · rw [if_pos hj, if_pos hj]
    cases σ[j]? <;> rfl
  · rw [if_neg hj, if_neg hj]
def GV (vs : List Nat) (g : TG) : Prop := ∀ (v : V) (σ : St) (H : Hp) (Q : St → Hp → Prop), g v σ H Q → g v σ H (fun σ' H' => wipe σ' vs = wipe σ vs ∧ Q σ' H')
def GVs (vs : List Nat) (g : TGs) : Prop := ∀ (v : List V) (σ : St) (H : Hp) (Q : St → Hp → Prop), g v σ H Q → g v σ H (fun σ' H' => wipe σ' vs = wipe σ vs ∧ Q σ' H')
structure DG (T : Tb) (X : Cx) (e : Expr) (g : TG) (w : WG) : Prop where
  pg : PG X e g
  im : ImpG T g w
structure DGs (T : Tb) (X : Cx) (e : List Expr) (g : TGs) (w : WGs) : Prop where
  pg : PGs X e g
  im : ImpGs T g w
section
variable {T : Tb} {X : Cx} {e : Expr} {es : List Expr} {g : TG} {gs : TGs} {w : WG} {ws : WGs} {pos : Pos} {vs : List Nat}
theorem im_gN {i : Nat} : ImpG T (gName i) (gN i) := fun v d ρ σ S H H0 k Q ok er r q h => q _ _ h (er.setVal r)
theorem gv_name {i : Nat} (h : i ∈ vs) : GV vs (gName i) := fun v σ H Q q => ⟨wipe_set h, q⟩
theorem im_gsNil : ImpGs T gNil gsNil := fun vs ds ρ σ S H H0 k Q ok er r q h => by
  cases r with
  | nil => exact ⟨rfl, q ρ σ h er⟩
  | cons _ _ => exact False.elim h
theorem im_gsCons (h1 : ImpG T g w) (h2 : ImpGs T gs ws) : ImpGs T (gCons g gs) (gsCons w ws) := fun vs ds ρ σ S H H0 k Q ok er r q h => by
  cases r with
  | nil => exact False.elim h
  | cons r1 r2 => exact ⟨_, _, rfl, h1 _ _ ρ σ S H H0 _ _ ok er r1 (fun ρ' σ' p er' => h2 _ _ ρ' σ' S H H0 k Q ok er' r2 q p) h⟩
theorem im_gT {n : Nat} (h1 : ImpGs T gs ws) : ImpG T (gTup T.K n gs) (gT n ws) := fun v d ρ σ S H H0 k Q ok er r q h => by
  cases r with
  | tup ht r1 => exact ⟨_, _, rfl, ht, by rw [r1.length]; exact h.1, h1 _ _ ρ σ S H H0 k Q ok er r1 q h.2⟩
  | _ => exact False.elim h
theorem gvs_nil : GVs vs gNil := fun v σ H Q q => ⟨q.1, rfl, q.2⟩
def GMono (g : TG) : Prop := ∀ (v : V) (σ : St) (H : Hp) (Q Q' : St → Hp → Prop), (∀ σ' H', Q σ' H' → Q' σ' H') → g v σ H Q → g v σ H Q'
theorem gm_name {i : Nat} : GMono (gName i) := fun v σ H Q Q' h q => h _ _ q
theorem gvs_cons (m : GMono g) (h1 : GV vs g) (h2 : GVs vs gs) : GVs vs (gCons g gs) := fun v σ H Q q => by
  obtain ⟨x, r, e, q⟩ := q
  refine ⟨x, r, e, m _ _ _ _ _ (fun σ' H' z => ?_) (h1 _ _ _ _ q)⟩
  obtain ⟨e1, z⟩ := z
  have y := h2 _ _ _ _ z
  rw [e1] at y
  exact y
theorem gv_tup {K : PySem.W.Frag} {n : Nat} (h : GVs vs gs) : GV vs (gTup K n gs) := fun v σ H Q q => by
  obtain ⟨a, xs, e, h1, h2, q⟩ := q
  exact ⟨a, xs, e, h1, h2, h _ _ _ _ q⟩
end

/-! ### what is walked -/
abbrev WI := EnvD → (List D → Pr) → EP → Pr
def ItD (T : Tb) (S1 : VS) (H1 : Hp) (J : It) (ds : List D) : Prop := ∀ (S : VS) (H : Hp), Ok T S H → Ext0 S1 H1 S H →
  (∀ (i : Nat) (d : D), ds[i]? = some d → J.go i H ∧ ∀ x H', J.yld i H x H' → ∃ S', S'.n = S.n ∧ Ok T S' H' ∧ Ext S H S' H' ∧ Rep T S' H' x d) ∧ J.stop ds.length H
def ImpI (T : Tb) (W : WX) (t : TI) (w : WI) : Prop := ∀ (ρ : EnvD) (σ : St) (S : VS) (H H0 : Hp) (post : List D → Pr) (ep : EP) (R : It → Hp → Prop), Ok T S H → EnvRel T H0 S H σ ρ → ExW T W σ S H ep →
  (∀ ds S' H' J, post ds S'.n → Ok T S' H' → Ext S H S' H' → ItD T S' H' J ds → R J H') → w ρ post ep S.n → t σ H R
structure DI (T : Tb) (X : Cx) (W : WX) (tg e : Expr) (t : TI) (w : WI) : Prop where
  pi : PI X tg e t
  im : ImpI T W t w
/-- the items of a list, of a tuple -/
def wItL (a : WE) : WI := fun ρ post ep => a ρ (fun d => match d with
  | .lst ds => post ds
  | _ => fun _ => False) ep
def wItT (a : WE) : WI := fun ρ post ep => a ρ (fun d => match d with
  | .tup ds => post ds
  | _ => fun _ => False) ep
def intsD (lo : Int) (n : Nat) : List D := (List.range n).map fun (i : Nat) => .int (lo + (i : Int))
def wItR1 (a : WE) : WI := fun ρ post ep => a ρ (fun d => match d with
  | .int j => fun n => (-(2 ^ 62) ≤ j ∧ j < 2 ^ 62) ∧ post (intsD 0 j.toNat) n
  | _ => fun _ => False) ep
def wItR2 (a b : WE) : WI := fun ρ post ep => a ρ (fun x => b ρ (fun y => match x, y with
  | .int i, .int j => fun n => (-(2 ^ 62) ≤ i ∧ i < 2 ^ 62 ∧ -(2 ^ 62) ≤ j ∧ j < 2 ^ 62) ∧ post (intsD i (j - i).toNat) n
  | _, _ => fun _ => False) ep) ep
section
variable {T : Tb} {X : Cx} {W : WX} {tg e a b : Expr} {te ta tb : TE} {we wa wb : WE}
theorem itd_list {S : VS} {H : Hp} {p : Addr} {xs : List V} {ds : List D} (ok : Ok T S H) (h : H p = some (.lst xs)) (hs : S p = none) (r : RepL T S H xs ds) : ItD T S H (Itl T.K p) ds := fun S' H' ok' x => by
  obtain ⟨k, ks⟩ := x.keep p _ h (fun _ z => by cases z) hs
  have r' := r.ext ok x
  refine ⟨fun i d e => ?_, ⟨xs, SqL.of k, by rw [r.length]; exact Nat.le_refl _⟩⟩
  obtain ⟨v, e1, rv⟩ := r'.getD e
  refine ⟨⟨xs, v, SqL.of k, e1⟩, fun y H2 hy => ?_⟩
  obtain ⟨rfl, hy⟩ := hy
  have e2 := hy xs (SqL.of k)
  rw [e1] at e2
  cases e2
  exact ⟨S', rfl, ok', .refl, rv⟩
theorem itd_tup {S : VS} {H : Hp} {p : Addr} {xs : List V} {ds : List D} (ok : Ok T S H) (h : SqT T.K H p xs) (r : RepL T S H xs ds) : ItD T S H (Itt T.K p) ds := fun S' H' ok' x => by
  have k := ok.sqT x h
  have r' := r.ext ok x
  refine ⟨fun i d e => ?_, ⟨xs, k, by rw [r.length]; exact Nat.le_refl _⟩⟩
  obtain ⟨v, e1, rv⟩ := r'.getD e
  refine ⟨⟨xs, v, k, e1⟩, fun y H2 hy => ?_⟩
  obtain ⟨rfl, hy⟩ := hy
  have e2 := hy xs k
  rw [e1] at e2
  cases e2
  exact ⟨S', rfl, ok', .refl, rv⟩
theorem itd_range {S : VS} {H : Hp} {lo : Int} {n : Nat} : ItD T S H (Itr lo n) (intsD lo n) := fun S' H' ok' x => by
  refine ⟨fun i d e => ?_, ?_⟩
  · unfold intsD at e
    rw [List.getElem?_map] at e
    by_cases hi : i < n
    · rw [List.getElem?_range hi] at e
      cases e
      refine ⟨hi, fun y H2 hy => ?_⟩
      obtain ⟨rfl, rfl⟩ := hy
      exact ⟨S', rfl, ok', .refl, .int _⟩
    · rw [List.getElem?_eq_none (by simpa using hi)] at e
      cases e
  · show n ≤ (intsD lo n).length
    unfold intsD
    simp
theorem im_itL (h : ImpE T W te we) : ImpI T W (iList T.K te) (wItL we) := fun ρ σ S H H0 post ep R ok er ex q hw =>
  h ρ σ S H H0 _ ep _ ok er ex (fun d S' H' v p ok' x r => by
    cases r with
    | lst h1 h2 r1 => exact ⟨_, rfl, ⟨_, SqL.of h1⟩, q _ S' H' _ p ok' x (itd_list ok' h1 h2 r1)⟩
    | _ => exact False.elim p) hw
theorem im_itT (h : ImpE T W te we) : ImpI T W (iTup T.K te) (wItT we) := fun ρ σ S H H0 post ep R ok er ex q hw =>
  h ρ σ S H H0 _ ep _ ok er ex (fun d S' H' v p ok' x r => by
    cases r with
    | tup h1 r1 => exact ⟨_, rfl, ⟨_, h1⟩, q _ S' H' _ p ok' x (itd_tup ok' h1 r1)⟩
    | _ => exact False.elim p) hw
theorem im_itR1 (h : ImpE T W te we) : ImpI T W (iRng1 (tCons te tNil)) (wItR1 we) := fun ρ σ S H H0 post ep R ok er ex q hw =>
  h ρ σ S H H0 _ ep _ ok er ex (fun d S' H' v p ok' x r => by
    cases r with
    | int j => exact ⟨j, rfl, p.1.1, p.1.2, q _ S' H' _ p.2 ok' x itd_range⟩
    | _ => exact False.elim p) hw
theorem im_itR2 (h1 : ImpE T W ta wa) (h2 : ImpE T W tb wb) : ImpI T W (iRng2 (tCons ta (tCons tb tNil))) (wItR2 wa wb) := fun ρ σ S H H0 post ep R ok er ex q hw =>
  h1 ρ σ S H H0 _ ep _ ok er ex (fun d S' H' v p ok' x r => h2 ρ σ S' H' H0 _ ep _ ok' (er.ext ok x) (ex.ext x) (fun d2 S2 H2 v2 p2 ok2 x2 r2 => by
    cases r with
    | int i => cases r2 with
      | int j => exact ⟨i, j, rfl, p2.1, q _ S2 H2 _ p2.2 ok2 (x.trans x2) itd_range⟩
      | _ => exact False.elim p2
    | _ => exact False.elim p2) p) hw
end

/-! ### for -/
def wLoop (g : WG) (body : WS) (K : KS) : List D → EnvD → Pr
  | [], ρ => K.nx ρ
  | d :: ds, ρ => g d ρ (fun ρ1 => body ρ1 { K with nx := wLoop g body K ds, ct := wLoop g body K ds, bk := K.nx })
def wFor (it : WI) (g : WG) (body : WS) : WS := fun ρ K => it ρ (fun ds => wLoop g body K ds ρ) K.ex
def wWh (c : WT) (body : WS) (K : KS) : Nat → EnvD → Pr
  | 0, _ => fun _ => False
  | n + 1, ρ => c ρ (fun b => if b = true then body ρ { K with nx := wWh c body K n, ct := wWh c body K n, bk := K.nx } else K.nx ρ) K.ex
def wWhile (c : WT) (body : WS) : WS := fun ρ K k => ∃ n, wWh c body K n ρ k
section
variable {T : Tb} {X : Cx} {W : WX} {tg iter c : Expr} {body : List Stmt} {ti : TI} {wi : WI} {g : TG} {wg : WG} {tb : TS} {wb : WS} {tc : TT} {wc : WT} {pos : Pos}
theorem im_for (hi : ImpI T W ti wi) (hg : ImpG T g wg) (hb : ImpS T W tb wb) : ImpS T W (tFor ti g tb) (wFor wi wg wb) := fun ρ σ S H S0 H0 K D ok0 ok b er k hw =>
  hi ρ σ S H H0 _ _ _ ok er (ExW.of k.ex b) (fun ds S1 H1 J p ok1 x1 it => by
    refine ⟨fun i m σ' H' => m + i = ds.length ∧ ∃ ρ' S', wLoop wg wb K (ds.drop i) ρ' S'.n ∧ Stt T S0 H0 S1 H1 S' H' σ' ρ', ⟨ds.length, by simp, ρ, S1, by simpa using p, ⟨ok1, b.trans x1, .refl, er.ext ok x1⟩⟩, ?_⟩
    rintro i m σ' H' ⟨hm, ρ', S', hl, st⟩
    obtain ⟨hgo, hstop⟩ := it S' H' st.ok st.x
    by_cases hi : i < ds.length
    · have e : ds[i]? = some ds[i] := List.getElem?_eq_getElem hi
      obtain ⟨go, yl⟩ := hgo i _ e
      refine .inr ⟨go, fun σ2 H2 => m - 1 + (i + 1) = ds.length ∧ ∃ ρ2 S2, wLoop wg wb K (ds.drop (i + 1)) ρ2 S2.n ∧ Stt T S0 H0 S1 H1 S2 H2 σ2 ρ2, fun σ2 H2 z => ⟨m - 1, by omega, z⟩, fun x H2 hy => ?_⟩
      obtain ⟨S2, en2, ok2, x2, rx⟩ := yl x H2 hy
      rw [List.drop_eq_getElem_cons hi, ← en2] at hl
      refine hg x _ ρ' σ' S2 H2 H0 _ _ ok2 (st.er.ext st.ok x2) rx (fun ρ3 σ3 h3 er3 => ?_) hl
      refine hb ρ3 σ3 S2 H2 S0 H0 { K with nx := wLoop wg wb K (ds.drop (i + 1)), ct := wLoop wg wb K (ds.drop (i + 1)), bk := K.nx } _ ok0 ok2 (st.b.trans x2) er3 ⟨fun ρ4 σ4 S4 H4 p4 s4 => ⟨by omega, ρ4, S4, p4, s4.after (st.x.trans x2.to0)⟩, fun ρ4 σ4 S4 H4 p4 s4 => ?_, fun ρ4 σ4 S4 H4 p4 s4 => ⟨by omega, ρ4, S4, p4, s4.after (st.x.trans x2.to0)⟩, k.rt, k.rf, k.ex⟩ h3
      exact k.nx ρ4 σ4 S4 H4 p4 (s4.after ((x1.to0.trans st.x).trans x2.to0))
    · have ei : i = ds.length := by omega
      refine .inl ⟨ei ▸ hstop, ?_⟩
      rw [List.drop_eq_nil_of_le (by omega)] at hl
      exact k.nx ρ' σ' S' H' hl (st.after x1.to0)) hw
theorem ds_for (hp : PassesOwn (model X.prog X.w) X.A X.env X.xe) (hc : X.calm = true) (hi : DI T X W tg iter ti wi) (hg : DG T X tg g wg) (hb : DSs T X W body tb wb)
    (hs : ∀ x, foldedSetIterable iter X.env x = pure x := by intro _; rfl) : DS T X W (.For tg iter body [] pos) (tFor ti g tb) (wFor wi wg wb) := ⟨ps_for hp hc hi.pi hg.pg hb.pss hs, im_for hi.im hg.im hb.im⟩
theorem im_while (hc : ImpT T W tc wc) (hb : ImpS T W tb wb) : ImpS T W (tWhile tc tb) (wWhile wc wb) := fun ρ σ S H S0 H0 K D ok0 ok b er k hw => by
  obtain ⟨n, hn⟩ := hw
  refine ⟨fun m σ' H' => ∃ ρ' S', wWh wc wb K m ρ' S'.n ∧ Stt T S0 H0 S H S' H' σ' ρ', ⟨n, ρ, S, hn, ⟨ok, b, .refl, er⟩⟩, ?_⟩
  rintro m σ' H' ⟨ρ', S', hl, st⟩
  cases m with
  | zero => exact hl.elim
  | succ m =>
    refine hc ρ' σ' S' H' H0 _ _ _ st.ok st.er (ExW.of k.ex st.b) (fun c S2 H2 p ok2 x2 => ?_) hl
    cases c with
    | true =>
      refine ⟨fun σ3 H3 => ∃ ρ3 S3, wWh wc wb K m ρ3 S3.n ∧ Stt T S0 H0 S H S3 H3 σ3 ρ3, fun σ3 H3 z => ⟨m, Nat.lt_succ_self m, z⟩, ?_⟩
      refine hb ρ' σ' S2 H2 S0 H0 { K with nx := wWh wc wb K m, ct := wWh wc wb K m, bk := K.nx } _ ok0 ok2 (st.b.trans x2) (st.er.ext st.ok x2) ⟨fun ρ4 σ4 S4 H4 p4 s4 => ⟨ρ4, S4, p4, s4.after (st.x.trans x2.to0)⟩, fun ρ4 σ4 S4 H4 p4 s4 => ?_, fun ρ4 σ4 S4 H4 p4 s4 => ⟨ρ4, S4, p4, s4.after (st.x.trans x2.to0)⟩, k.rt, k.rf, k.ex⟩ p
      exact k.nx ρ4 σ4 S4 H4 p4 (s4.after (st.x.trans x2.to0))
    | false => exact k.nx ρ' σ' S2 H2 p ⟨ok2, st.b.trans x2, st.x.trans x2.to0, st.er.ext st.ok x2⟩
theorem ds_while (hp : PassesOwn (model X.prog X.w) X.A X.env X.xe) (hc : DT T X W c tc wc) (hb : DSs T X W body tb wb) : DS T X W (.While c body [] pos) (tWhile tc tb) (wWhile wc wb) := ⟨ps_while hp hc.pt hb.pss, im_while hc.im hb.im⟩
end

/-! ### list comprehensions -/
def wipeD (ρ : EnvD) : List Nat → EnvD
  | [] => ρ
  | v :: vs => (wipeD ρ vs).set v .no
abbrev ep0 : EP := fun _ _ _ => False
abbrev W0 : WX := fun _ _ _ _ => False
def wLc (g : WG) (tt : WT) (te : WE) (ρ : EnvD) (post : List D → Pr) : List D → List D → Pr
  | [], acc => post acc
  | d :: ds, acc => g d ρ (fun ρ1 => tt ρ1 (fun b => if b = true then te ρ1 (fun y n => acc.length < sizeLine ∧ wLc g tt te ρ post ds (acc ++ [y]) n) ep0 else wLc g tt te ρ post ds acc) ep0)
def wComp (it : WI) (g : WG) (tt : WT) (te : WE) (vs : List Nat) : WF := fun ρ post ep => it ρ (fun ds => wLc g tt te (wipeD ρ vs) post ds []) ep
def wYes : WT := fun _ post _ => post true
theorem im_yes {T : Tb} {W : WX} : ImpT T W tYes wYes := fun ρ σ S H H0 post ep Q ok er ex q h => q true S H h ok .refl
theorem wipeD_len (ρ : EnvD) : ∀ vs : List Nat, (wipeD ρ vs).length = ρ.length
  | [] => rfl
  | v :: vs => by unfold wipeD; rw [List.length_set, wipeD_len ρ vs]
theorem wipeD_at (ρ : EnvD) {j : Nat} {s : Slot} (hs : s ≠ .no) : ∀ vs : List Nat, (wipeD ρ vs)[j]? = some s → ρ[j]? = some s ∧ j ∉ vs
  | [], h => ⟨h, by simp⟩
  | v :: vs, h => by
    unfold wipeD at h
    by_cases hj : v = j
    · subst hj
      by_cases hl : v < (wipeD ρ vs).length
      · rw [List.getElem?_set_self hl] at h
        exact absurd (Option.some.inj h).symm hs
      · rw [List.getElem?_eq_none (by simpa using hl)] at h; cases h
    · rw [List.getElem?_set_ne hj] at h
      obtain ⟨h1, h2⟩ := wipeD_at ρ hs vs h
      exact ⟨h1, fun z => (List.mem_cons.mp z).elim (fun e => hj e.symm) h2⟩
section
variable {T : Tb} {X : Cx} {W : WX} {ti : TI} {wi : WI} {g : TG} {wg : WG} {tt : TT} {wt : WT} {te : TE} {we : WE} {vs : List Nat}
theorem EnvRel.wipe {H0 : Hp} {S : VS} {H : Hp} {σ : St} {ρ : EnvD} (er : EnvRel T H0 S H σ ρ) (vs : List Nat) : EnvRel T H0 S H (L2.wipe σ vs) (wipeD ρ vs) := by
  have at_ : ∀ j, j ∉ vs → (L2.wipe σ vs)[j]? = σ[j]? := fun j h => by rw [wipe_at, if_neg h]
  refine ⟨by rw [wipe_length, wipeD_len]; exact er.len, fun i d e => ?_, fun i ds e => ?_, fun i j ds es a e1 e2 e3 e4 => ?_, fun i c fs e => ?_, fun i j c c' fs fs' e1 e2 => ?_⟩
  · obtain ⟨h1, h2⟩ := wipeD_at ρ (by simp) vs e
    rw [at_ i h2]
    exact er.val i d h1
  · obtain ⟨h1, h2⟩ := wipeD_at ρ (by simp) vs e
    rw [at_ i h2]
    exact er.own i ds h1
  · obtain ⟨h1, h2⟩ := wipeD_at ρ (by simp) vs e1
    obtain ⟨h3, h4⟩ := wipeD_at ρ (by simp) vs e2
    rw [at_ i h2] at e3
    rw [at_ j h4] at e4
    exact er.dis i j ds es a h1 h3 e3 e4
  · obtain ⟨h1, h2⟩ := wipeD_at ρ (by simp) vs e
    rw [at_ i h2]
    exact er.obj i c fs h1
  · exact er.odis i j c c' fs fs' (wipeD_at ρ (by simp) vs e1).1 (wipeD_at ρ (by simp) vs e2).1
theorem ex0 {σ : St} {S : VS} {H : Hp} : ExW T W0 σ S H ep0 := fun _ _ _ _ _ _ h => h.elim
theorem im_comp (hi : ImpI T W ti wi) (hg : ImpG T g wg) (hv : GV vs g) (ht : ImpT T W0 tt wt) (he : ImpE T W0 te we) : ImpF T W (tLc ti g tt te vs) (wComp wi wg wt we vs) := fun ρ σ S H H0 post ep Q ok er ex q hw =>
  hi ρ σ S H H0 _ _ _ ok er ex (fun ds S1 H1 J p ok1 x1 it D hD => by
    obtain ⟨okD, xD⟩ := own_new (xs := []) ok1 hD
    have er1 := er.ext ok x1
    refine ⟨fun i m H' => m + i = ds.length ∧ ∃ acc xs S', wLc wg wt we (wipeD ρ vs) post (ds.drop i) acc S'.n ∧ Ok T S' H' ∧ Ext S1 H1 S' H' ∧ H' D = some (.lst xs) ∧ S' D = some .own ∧ RepL T S' H' xs acc,
      ⟨ds.length, by simp, [], [], own S1 D, (by simpa using p : wLc wg wt we (wipeD ρ vs) post (ds.drop 0) [] S1.n), okD, xD, upd_same, own_same, .nil⟩, ?_⟩
    rintro i m H' ⟨hm, acc, xs, S', hl, ok', x', hH, hS, rx⟩
    obtain ⟨hgo, hstop⟩ := it S' H' ok' x'.to0
    by_cases hi : i < ds.length
    · have e : ds[i]? = some ds[i] := List.getElem?_eq_getElem hi
      obtain ⟨go, yl⟩ := hgo i _ e
      refine .inr ⟨go, fun H2 => m - 1 + (i + 1) = ds.length ∧ ∃ acc xs S2, wLc wg wt we (wipeD ρ vs) post (ds.drop (i + 1)) acc S2.n ∧ Ok T S2 H2 ∧ Ext S1 H1 S2 H2 ∧ H2 D = some (.lst xs) ∧ S2 D = some .own ∧ RepL T S2 H2 xs acc,
        fun H2 z => ⟨m - 1, by omega, z⟩, fun x H2 hy => ?_⟩
      obtain ⟨S2, en2, ok2, x2, rv⟩ := yl x H2 hy
      rw [List.drop_eq_getElem_cons hi, ← en2] at hl
      have keepD : ∀ {S3 : VS} {H3 : Hp}, Ext S' H' S3 H3 → H3 D = some (.lst xs) ∧ S3 D = some .own := fun {S3 H3} x => by
        obtain ⟨k1, k2⟩ := x.keep D _ hH (fun _ z => by cases z) fun n z => by rw [hS] at z; cases z
        exact ⟨k1, k2.trans hS⟩
      have er2 : EnvRel T H0 S2 H2 (L2.wipe σ vs) (wipeD ρ vs) := ((er1.ext ok1 x').ext ok' x2).wipe vs
      have key : g x (L2.wipe σ vs) H2 fun σ2 H2 => tt σ2 H2 fun b H3 => if b = true then te σ2 H3 fun y H4 => ∃ acc, H4 D = some (.lst acc) ∧ acc.length < sizeLine ∧ (m - 1 + (i + 1) = ds.length ∧ ∃ acc' xs S2, wLc wg wt we (wipeD ρ vs) post (ds.drop (i + 1)) acc' S2.n ∧ Ok T S2 (upd H4 D (.lst (acc ++ [y]))) ∧ Ext S1 H1 S2 (upd H4 D (.lst (acc ++ [y]))) ∧ (upd H4 D (.lst (acc ++ [y]))) D = some (.lst xs) ∧ S2 D = some .own ∧ RepL T S2 (upd H4 D (.lst (acc ++ [y]))) xs acc')
          else (m - 1 + (i + 1) = ds.length ∧ ∃ acc xs S2, wLc wg wt we (wipeD ρ vs) post (ds.drop (i + 1)) acc S2.n ∧ Ok T S2 H3 ∧ Ext S1 H1 S2 H3 ∧ H3 D = some (.lst xs) ∧ S2 D = some .own ∧ RepL T S2 H3 xs acc) := by
        refine hg x _ _ _ S2 H2 H0 _ _ ok2 er2 rv (fun ρ3 σ3 h3 er3 => ?_) hl
        refine ht ρ3 σ3 S2 H2 H0 _ ep0 _ ok2 er3 ex0 (fun b S3 H3 p3 ok3 x3 => ?_) h3
        have x13 := (x'.trans x2).trans x3
        obtain ⟨k1, k2⟩ := keepD (x2.trans x3)
        cases b with
        | false => exact ⟨by omega, acc, xs, S3, p3, ok3, x13, k1, k2, rx.ext ok' (x2.trans x3).to0⟩
        | true =>
          refine he ρ3 σ3 S3 H3 H0 _ ep0 _ ok3 (er3.ext ok2 x3) ex0 (fun y S4 H4 v p4 ok4 x4 r4 => ?_) p3
          obtain ⟨k3, k4⟩ := keepD ((x2.trans x3).trans x4)
          obtain ⟨o5, x5⟩ := own_upd (ys := xs ++ [v]) ok4 k4 k3
          refine ⟨xs, k3, by rw [rx.length]; exact p4.1, by omega, acc ++ [y], xs ++ [v], S4, p4.2, o5, own_upd_ext (x13.trans x4) hD, upd_same, k4, ?_⟩
          exact ((rx.ext ok' ((x2.trans x3).trans x4).to0).append (.cons r4 .nil)).ext ok4 x5
      have z := hv _ _ _ _ key
      rw [wipe_wipe] at z
      exact z
    · have ei : i = ds.length := by omega
      refine .inl ⟨ei ▸ hstop, ?_⟩
      rw [List.drop_eq_nil_of_le (by omega)] at hl
      exact q acc S' H' xs D hl ok' (x1.trans x') (x1.none ok ok1 hD) hH hS rx) hw
theorem df_lc {elt tg iter : Expr} {ifs : List Expr} {scope : Scope} {own : List (Str × Nat)} {pos : Pos} (hc : X.calm = true) (hN : X.N.Nodup) (hi : DI T X W tg iter ti wi) (ok : BlkOk X.N X.env.scope scope own)
    (hg : ∀ (s : Shared) (H : Hp) (C : Addr) (cl : List (Str × Addr)) (fp : List Addr), PG (X.blk s H scope (compEnvC scope cl C X.env) fp) tg g) (ht : ∀ (s : Shared) (H : Hp) (C : Addr) (cl : List (Str × Addr)) (fp : List Addr), PTs (X.blk s H scope (compEnvC scope cl C X.env) fp) ifs tt)
    (he : ∀ (s : Shared) (H : Hp) (C : Addr) (cl : List (Str × Addr)) (fp : List Addr), DE T (X.blk s H scope (compEnvC scope cl C X.env) fp) W0 elt te we) (ig : ImpG T g wg) (hv : GV (own.map (·.2)) g) (it : ImpT T W0 tt wt) (ie : ImpE T W0 te we) (hs : ∀ x, foldedSetIterable iter X.env x = pure x := by intro _; rfl) :
    DF T X W (.ListComp elt [⟨tg, iter, ifs, 0⟩] scope pos) (tLc ti g tt te (own.map (·.2))) (wComp wi wg wt we (own.map (·.2))) :=
  ⟨pe_lc hc hN hi.pi ok hg ht (fun s H C cl fp => (he s H C cl fp).pe) hs, im_comp hi.im ig hv it ie⟩
end
end PyD

/-! PyD: defs (with what runs around told: no text is being made), their calls, tests, built-ins by name. -/
namespace PyD
open PySem PySem.Spec PyProof.Rows L2

/-! ### defs -/
structure FnG (P : Program) (w : World) (K : PySem.W.Frag) (mg : Str → Option Value) (base : Heap) (k : Nat) (f : Addr) (fd : FuncData) (ps : List Str) (sp : Sp) : Prop where
  len : ∀ vs H Q E, sp vs H Q E → vs.length = ps.length
  run : ∀ (A : Around) (outer : List Env) (s : Shared) (H : Hp) (args : Args) (us : List Value) (vs : List V) (Q : VK) (E : XK), Room k A → A.guards = some [] → Env0 P w K mg base A outer s H →
    BindsTo s fd args (ps.zip us) → Vals vs us → sp vs H Q E → codeAny (model P w) A (.call (.ref f) args) (CR (L2.CX P w) outer P w H s Q E) s
theorem FnG.mono {P : Program} {w : World} {K : PySem.W.Frag} {mg : Str → Option Value} {base : Heap} {j k : Nat} {f : Addr} {fd : FuncData} {ps : List Str} {sp : Sp} (F : FnG P w K mg base j f fd ps sp) (h : j ≤ k) : FnG P w K mg base k f fd ps sp :=
  ⟨F.len, fun A outer s H args us vs Q E hr hg => F.run A outer s H args us vs Q E (hr.mono h) hg⟩
def ExE (T : Tb) (S : VS) (H : Hp) (ep : EP) (E : XK) : Prop := ∀ (c : Nat) (ds : List (Str × D)) (S' : VS) (H' : Hp) (d : Addr) (fs : List (Str × V)), ep c ds S'.n → Ok T S' H' → Ext S H S' H' → H' d = some (.xd fs) → RepF T S' H' fs ds → E (.ref (T.cA c)) (some d) H'
abbrev WD := List D → (D → Pr) → EP → Pr
abbrev WDF := List D → (List D → Pr) → EP → Pr
def spV (T : Tb) (w : WD) : Sp := fun vs H Q E => ∃ (S : VS) (ds : List D) (post : D → Pr) (ep : EP), Ok T S H ∧ RepL T S H vs ds ∧ QW T S H post Q ∧ ExE T S H ep E ∧ w ds post ep S.n
def spF (T : Tb) (w : WDF) : Sp := fun vs H Q E => ∃ (S : VS) (ds : List D) (post : List D → Pr) (ep : EP), Ok T S H ∧ RepL T S H vs ds ∧ QF T S H post Q ∧ ExE T S H ep E ∧ w ds post ep S.n
def envOf (n : Nat) (ds : List D) : EnvD := ds.map .val ++ List.replicate (n - ds.length) .no
/-- what a def does to its arguments, by its body's reading -/
def wDef (m n : Nat) (w : WS) : WD := fun ds post ep k => ds.length = m ∧ w (envOf n ds) { nx := fun _ => post .non, rt := fun _ => post, rf := fun l => post (.lst l), ex := ep } k
def wDefF (m n : Nat) (w : WS) : WDF := fun ds post ep k => ds.length = m ∧ w (envOf n ds) { nx := fun _ _ => False, rt := fun _ _ _ => False, rf := post, ex := ep } k
section
variable {T : Tb}
theorem env_at {n : Nat} {vs : List V} {ds : List D} {S : VS} {H : Hp} (r : RepL T S H vs ds) (i : Nat) (s : Slot) (hs : s ≠ .no) (h : (envOf n ds)[i]? = some s) : ∃ d v, s = .val d ∧ (vs.map some ++ List.replicate (n - vs.length) none)[i]? = some (some v) ∧ Rep T S H v d := by
  unfold envOf at h
  by_cases hi : i < ds.length
  · rw [List.getElem?_append_left (by simpa using hi), List.getElem?_map, List.getElem?_eq_getElem hi] at h
    cases h
    obtain ⟨v, e, rv⟩ := r.getD (List.getElem?_eq_getElem hi)
    have hv : i < vs.length := by rw [r.length]; exact hi
    refine ⟨_, v, rfl, ?_, rv⟩
    rw [List.getElem?_append_left (by simpa using hv), List.getElem?_map, e]
    rfl
  · rw [List.getElem?_append_right (by simpa using Nat.le_of_not_lt hi), List.getElem?_replicate] at h
    split at h
    · exact absurd (Option.some.inj h).symm hs
    · cases h
theorem env_start {N : List Str} {vs : List V} {ds : List D} {S : VS} {H H0 : Hp} (hn : vs.length ≤ N.length) (r : RepL T S H vs ds) : EnvRel T H0 S H (L2.start N vs) (envOf N.length ds) := by
  have hl := r.length
  refine ⟨?_, fun i d e => ?_, fun i ds' e => ?_, fun i j ds' es a e1 e2 e3 e4 => ?_, fun i c fs e => ?_, fun i j c c' fs fs' e1 e2 => ?_⟩
  · unfold L2.start envOf
    simp only [List.length_append, List.length_map, List.length_replicate]
    omega
  · obtain ⟨d', v, e1, e2, rv⟩ := env_at r i _ (by simp) e
    cases e1
    exact ⟨v, e2, rv⟩
  · obtain ⟨d', v, e1, _⟩ := env_at r i _ (by simp) e
    cases e1
  · obtain ⟨d', v, z, _⟩ := env_at r i _ (by simp) e1
    cases z
  · obtain ⟨d', v, z, _⟩ := env_at r i _ (by simp) e
    cases z
  · obtain ⟨d', v, z, _⟩ := env_at r i _ (by simp) e1
    cases z
variable {P : Program} {w : World} {K : PySem.W.Frag} {mg : Str → Option Value} {base : Heap} {x qual : Str} {params : Arguments} {body : List Stmt} {scope : Scope} {dvs : List V} {kws : List (Str × V)} {f : Addr} {fd : FuncData} {N ps : List Str} {k : Nat} {wb : WS}
/-- what a body's derivation gives -/
def BodyD (T : Tb) (P : Program) (w : World) (K : PySem.W.Frag) (mg : Str → Option Value) (base : Heap) (N : List Str) (qual : Str) (scope : Scope) (f : Addr) (k : Nat) (body : List Stmt) (wb : WS) : Prop :=
  ∀ (cdv : Value) (A : Around) (outer : List Env) (s : Shared) (H : Hp) (E : XK), Room k (A.deeper (envOfC qual scope s.heap.objs.size f cdv)) → (A.deeper (envOfC qual scope s.heap.objs.size f cdv)).guards = some [] →
    ∃ t, DSs T (cxOf (L2.CX P w) P w K mg base N qual scope f cdv A outer s H E) (fun cls d _ H' => E cls d H') body t wb
theorem fnV (F : FunD K x qual params body scope dvs kws f fd) (S : FnScope N ps scope) (hb : BodyD T P w K mg base N qual scope f k body wb) : FnG P w K mg base (k + 1) f fd ps (spV T (wDef ps.length N.length wb)) := by
  have hpl : ps.length ≤ N.length := by have := congrArg List.length S.pre; rw [List.length_take] at this; omega
  refine ⟨fun vs H Q E ⟨_, _, _, _, _, rd, _, _, h⟩ => rd.length.trans h.1, fun A outer s H args us vs Q E hr hg e0 hbd r h => ?_⟩
  obtain ⟨oc, od, dV, kV, doc, pm, an, cdv, ct, osl, rfl, lk, hcd, _, _⟩ := F.ex
  obtain ⟨S0, ds, post, ep, ok, rd, q, ex, hw0, hw⟩ := h
  have hl : vs.length = ps.length := rd.length.trans hw0
  refine LamX.run_ofS lk hcd S hr e0 hbd r hl fun hr' => ?_
  obtain ⟨t, dt⟩ := hb cdv A outer s H E hr' hg
  refine ⟨t, dt.pss, dt.im _ _ S0 H S0 H { nx := fun _ => post .non, rt := fun _ => post, rf := fun l => post (.lst l), ex := ep } _ ok ok .refl (env_start (by omega) rd) ⟨fun ρ σ S' H' p st => q .non S' H' .non p st.ok st.b .non, fun _ _ _ _ p => p.elim, fun _ _ _ _ p => p.elim, fun ρ σ d v S' H' p ok' x _ r' => q d S' H' v p ok' x r', QF.of ok q, fun σ' c ds S' H' d fs p ok' x h1 h2 => ex c ds S' H' d fs p ok' x h1 h2⟩ hw⟩
theorem fnF (F : FunD K x qual params body scope dvs kws f fd) (S : FnScope N ps scope) (hb : BodyD T P w K mg base N qual scope f k body wb) : FnG P w K mg base (k + 1) f fd ps (spF T (wDefF ps.length N.length wb)) := by
  have hpl : ps.length ≤ N.length := by have := congrArg List.length S.pre; rw [List.length_take] at this; omega
  refine ⟨fun vs H Q E ⟨_, _, _, _, _, rd, _, _, h⟩ => rd.length.trans h.1, fun A outer s H args us vs Q E hr hg e0 hbd r h => ?_⟩
  obtain ⟨oc, od, dV, kV, doc, pm, an, cdv, ct, osl, rfl, lk, hcd, _, _⟩ := F.ex
  obtain ⟨S0, ds, post, ep, ok, rd, q, ex, hw0, hw⟩ := h
  have hl : vs.length = ps.length := rd.length.trans hw0
  refine LamX.run_ofS lk hcd S hr e0 hbd r hl fun hr' => ?_
  obtain ⟨t, dt⟩ := hb cdv A outer s H E hr' hg
  refine ⟨t, dt.pss, dt.im _ _ S0 H S0 H { nx := fun _ _ => False, rt := fun _ _ _ => False, rf := post, ex := ep } _ ok ok .refl (env_start (by omega) rd) ⟨fun ρ σ S' H' p st => p.elim, fun _ _ _ _ p => p.elim, fun _ _ _ _ p => p.elim, fun ρ σ d v S' H' p => p.elim, q, fun σ' c ds S' H' d fs p ok' x h1 h2 => ex c ds S' H' d fs p ok' x h1 h2⟩ hw⟩
end

/-! ### calls -/
/-- what is wanted, whatever the names hold -/
def EW (W : WX) (σ : St) : XK := fun cls d H => W cls d σ H
abbrev PassA (X : Cx) (W : WX) : Prop := ∀ σ, PassesAt (L2.CX X.prog X.w) X σ (EW W σ)
def wCall (w : WD) (dfl : List D) (a : WA) : WE := fun ρ post ep => a ρ (fun ds => w (ds ++ dfl) post ep) ep
def wCallF (w : WDF) (dfl : List D) (a : WA) : WF := fun ρ post ep => a ρ (fun ds => w (ds ++ dfl) post ep) ep
/-- positional and keywords' values put in order -/
def wCallK (w : WD) (g : List D → List D → List D) (a b : WA) : WE := fun ρ post ep => a ρ (fun ds => b ρ (fun es => w (g ds es) post ep) ep) ep
section
variable {T : Tb} {X : Cx} {W : WX} {k : Nat} {f C : Addr} {fd : FuncData} {ps ks : List Str} {sp : Sp} {dvs : List V} {ds : List Value} {x m : Str} {p pos apos : Pos} {e o : Expr} {es : List Expr} {ta : TE} {t tk2 : TA} {wa wk : WA} {kws : List Keyword} {n : Nat}
theorem passE (tk : Takes X W) : PassA X W := fun σ => passAt tk σ
theorem run_fnG {pins : List (Addr × Obj)} {σ : St} {H : Hp} {s : Shared} {Q : VK} {us : List Value} {vs : List V} {E : XK} (F : FnG X.prog X.w X.K X.mg X.base k f fd ps sp) (hr : Room k X.A) (hg : X.A.guards = some []) (hb : L2.Binds X.K fd ps ds) (hd : Vals dvs ds) (hx : PassesAt (L2.CX X.prog X.w) X σ E)
    (I : Inv X pins σ H s) (r : Vals vs us) (h : sp (vs ++ dvs) H Q E) : wpAny (model X.prog X.w) X.A (call (.ref f) us) (L2.EP X pins σ Q) X.xe s := by
  have r2 : Vals (vs ++ dvs) (us ++ ds) := r.append hd
  have hl : (us ++ ds).length = ps.length := by rw [← r2.length]; exact F.len _ _ _ _ h
  have run := F.run X.A X.stack s H ⟨us, []⟩ (us ++ ds) (vs ++ dvs) Q E hr hg I.env0 (hb s us I.kIn hl) r2 h
  refine wpAny_call (codeAny_mono run fun r s' hq => ?_)
  match r, hq with
  | .error e, hq => exact hx pins H s e s' I hq
  | .ok (.ret u), hq => exact I.after hq
  | .ok .next, hq => exact False.elim hq
  | .ok .brk, hq => exact False.elim hq
  | .ok .cont, hq => exact False.elim hq
theorem pe_callG {E : St → XK} (F : FnG X.prog X.w X.K X.mg X.base k f fd ps sp) (hr : Room k X.A) (hgd : X.A.guards = some []) (hg : Gl X x) (hm : X.mg x = some (.ref f)) (hk : PySem.W.keepIn X.K (.ref f) = true) (hb : L2.Binds X.K fd ps ds) (hd : Vals dvs ds) (hx : ∀ σ, PassesAt (L2.CX X.prog X.w) X σ (E σ))
    (ha : PA X (e :: es) t) (hdb : (x == ("__debug__" : Str)) = false := by decide) (he : starEach (e :: es) X.env = (false, eval e X.env) :: starEach es X.env := by rfl) (hpl : (backTo pos (starEach es X.env)).any (·.1) = false := by rfl) :
    PE X (.Call (.Name x p) (e :: es) [] pos) (tCallSD sp dvs E t) := ⟨fun pins s σ H Q I h =>
  wpAny_Call_Name_kw (ld_glob I hg hm (PySem.W.callWith_K (h₀ := X.base) I.ok.mod.kin hk (thn (ha.run pos pins s σ H _ I h) fun us s1 ⟨vs, H1, I1, r, q⟩ => ⟨I1.kIn, run_fnG F hr hgd hb hd (hx σ) I1 r q⟩) he hpl) hdb)⟩
theorem pe_callG0 {E : St → XK} (F : FnG X.prog X.w X.K X.mg X.base k f fd ps sp) (hr : Room k X.A) (hgd : X.A.guards = some []) (hg : Gl X x) (hm : X.mg x = some (.ref f)) (hk : PySem.W.keepIn X.K (.ref f) = true) (hb : L2.Binds X.K fd ps ds) (hd : Vals dvs ds) (hx : ∀ σ, PassesAt (L2.CX X.prog X.w) X σ (E σ))
    (hdb : (x == ("__debug__" : Str)) = false := by decide) : PE X (.Call (.Name x p) [] [] pos) (tCallSD sp dvs E tNil) := ⟨fun pins s σ H Q I h =>
  wpAny_Call_Name_kw (ld_glob I hg hm (PySem.W.callWith_K0 I.kIn hk (run_fnG (us := []) F hr hgd hb hd (hx σ) I .nil h)) hdb)⟩
theorem im_call {w : WD} {dfl : List D} (ha : ImpA T W t wa) (hd : ∀ S H, RepL T S H dvs dfl) : ImpE T W (tCallSD (spV T w) dvs (EW W) t) (wCall w dfl wa) := fun ρ σ S H H0 post ep Q ok er ex q hw =>
  ha ρ σ S H H0 _ ep _ ok er ex (fun l S' H' vs p ok' x r => ⟨S', l ++ dfl, post, ep, ok', r.append (hd S' H'), q.ext x, fun c ds S2 H2 d fs h1 h2 h3 h4 h5 => ex c ds S2 H2 d fs h1 h2 (x.trans h3) h4 h5, p⟩) hw
theorem im_callF {w : WDF} {dfl : List D} (ha : ImpA T W t wa) (hd : ∀ S H, RepL T S H dvs dfl) : ImpF T W (tCallSD (spF T w) dvs (EW W) t) (wCallF w dfl wa) := fun ρ σ S H H0 post ep Q ok er ex q hw =>
  ha ρ σ S H H0 _ ep _ ok er ex (fun l S' H' vs p ok' x r => ⟨S', l ++ dfl, post, ep, ok', r.append (hd S' H'), q.ext ok ok' x, fun c ds S2 H2 d fs h1 h2 h3 h4 h5 => ex c ds S2 H2 d fs h1 h2 (x.trans h3) h4 h5, p⟩) hw
theorem im_nilA : ImpA T W tNil wNil := fun ρ σ S H H0 post ep Q ok er ex q h => q [] S H [] h ok .refl .nil
end
end PyD

/-! PyD: tests, and/or/not, conditional values, chains. -/
namespace PyD
open PySem PySem.Spec PyProof.Rows L2
section
variable {T : Tb} {X : Cx} {W : WX} {a b c : Expr} {ta tb tc : TE} {wa wb wc : WE} {tA tB : TT} {wA wB : WT} {pos : Pos} {rest : List Expr}
theorem truV_of {S : VS} {H : Hp} {x : V} {d : D} {p : Bool → Prop} (r : Rep T S H x d) (h : truD d p) : ∃ k, TruV T.K x H k ∧ p k := by
  cases r with
  | non => exact ⟨false, rfl, h⟩
  | bl b => exact ⟨b, rfl, h⟩
  | int i => exact ⟨_, rfl, h⟩
  | str x => exact ⟨_, ⟨h.1, rfl⟩, h.2⟩
  | tup h1 r1 =>
    have e : ∀ {xs : List V} {ds : List D}, RepL T S H xs ds → xs.isEmpty = ds.isEmpty := fun q => by cases q <;> rfl
    exact ⟨_, .inr (.inl ⟨_, h1, rfl⟩), by rw [e r1]; exact h⟩
  | lst h1 h2 r1 =>
    have e : ∀ {xs : List V} {ds : List D}, RepL T S H xs ds → xs.isEmpty = ds.isEmpty := fun q => by cases q <;> rfl
    exact ⟨_, .inl ⟨_, SqL.of h1, rfl⟩, by rw [e r1]; exact h⟩
  | _ => exact False.elim h
theorem im_tru (h : ImpE T W ta wa) : ImpT T W (fun σ H Q => ta σ H fun x H' => ∃ k, TruV T.K x H' k ∧ Q k H') (wTru wa) := fun ρ σ S H H0 post ep Q ok er ex q hw =>
  h ρ σ S H H0 _ ep _ ok er ex (fun d S1 H1 v p ok1 x1 r1 => by
    obtain ⟨k, h1, h2⟩ := truV_of r1 p
    exact ⟨k, h1, q k S1 H1 h2 ok1 x1⟩) hw
theorem dt_tru (hK : X.K = T.K) (h : DE T X W a ta wa) (he : ∀ whole, isTrue a X.env whole = (do let v ← whole; standAt a.pos; holding [v] (truthy v)) := by intro _; rfl) : DT T X W a (fun σ H Q => ta σ H fun x H' => ∃ k, TruV X.K x H' k ∧ Q k H') (wTru wa) :=
  ⟨pt_truth h.pe he, by rw [hK]; exact im_tru h.im⟩
theorem dt_val (h : DE T X W a ta wa) (he : ∀ whole, isTrue a X.env whole = (do let v ← whole; standAt a.pos; holding [v] (truthy v)) := by intro _; rfl) : DT T X W a (L2.tB ta) (wTest wa) := ⟨pt_val h.pe he, im_test h.im⟩
theorem im_not (h : ImpT T W tA wA) : ImpT T W (tNot tA) (wNotT wA) := fun ρ σ S H H0 post ep Q ok er ex q hw =>
  h ρ σ S H H0 _ ep _ ok er ex (fun d S1 H1 p ok1 x1 => q (!d) S1 H1 p ok1 x1) hw
theorem dt_not (h : DT T X W a tA wA) : DT T X W (.UnaryOp .Not a pos) (tNot tA) (wNotT wA) := ⟨pt_not h.pt, im_not h.im⟩
theorem im_and (h1 : ImpT T W tA wA) (h2 : ImpT T W tB wB) : ImpT T W (tAnd tA tB) (wAndT wA wB) := fun ρ σ S H H0 post ep Q ok er ex q hw =>
  h1 ρ σ S H H0 _ ep _ ok er ex (fun d S1 H1 p ok1 x1 => by
    cases d with
    | true => exact h2 ρ σ S1 H1 H0 _ ep _ ok1 (er.ext ok x1) (ex.ext x1) (fun e S2 H2 p2 ok2 x2 => q e S2 H2 p2 ok2 (x1.trans x2)) p
    | false => exact q false S1 H1 p ok1 x1) hw
theorem im_or (h1 : ImpT T W tA wA) (h2 : ImpT T W tB wB) : ImpT T W (tOr tA tB) (wOrT wA wB) := fun ρ σ S H H0 post ep Q ok er ex q hw =>
  h1 ρ σ S H H0 _ ep _ ok er ex (fun d S1 H1 p ok1 x1 => by
    cases d with
    | false => exact h2 ρ σ S1 H1 H0 _ ep _ ok1 (er.ext ok x1) (ex.ext x1) (fun e S2 H2 p2 ok2 x2 => q e S2 H2 p2 ok2 (x1.trans x2)) p
    | true => exact q true S1 H1 p ok1 x1) hw
theorem dw_and1 (h : DT T X W a tA wA) : DW T X W (.BoolOp .And [a] pos) tA wA := ⟨pw_and1 h.pt, h.im⟩
theorem dw_or1 (h : DT T X W a tA wA) : DW T X W (.BoolOp .Or [a] pos) tA wA := ⟨pw_or1 h.pt, h.im⟩
theorem dw_and (h1 : DT T X W a tA wA) (h2 : DW T X W (.BoolOp .And (b :: rest) pos) tB wB) : DW T X W (.BoolOp .And (a :: b :: rest) pos) (tAnd tA tB) (wAndT wA wB) := ⟨pw_and h1.pt h2.pw, im_and h1.im h2.im⟩
theorem dw_or (h1 : DT T X W a tA wA) (h2 : DW T X W (.BoolOp .Or (b :: rest) pos) tB wB) : DW T X W (.BoolOp .Or (a :: b :: rest) pos) (tOr tA tB) (wOrT wA wB) := ⟨pw_or h1.pt h2.pw, im_or h1.im h2.im⟩
theorem dt_w (h : DW T X W a tA wA) : DT T X W a tA wA := ⟨h.pw.pt, h.im⟩
theorem im_ifE (h0 : ImpT T W tA wA) (h1 : ImpE T W ta wa) (h2 : ImpE T W tb wb) : ImpE T W (tIf tA ta tb) (wIfE wA wa wb) := fun ρ σ S H H0 post ep Q ok er ex q hw =>
  h0 ρ σ S H H0 _ ep _ ok er ex (fun d S1 H1 p ok1 x1 => by
    cases d with
    | true => exact h1 ρ σ S1 H1 H0 _ ep _ ok1 (er.ext ok x1) (ex.ext x1) (q.ext x1) p
    | false => exact h2 ρ σ S1 H1 H0 _ ep _ ok1 (er.ext ok x1) (ex.ext x1) (q.ext x1) p) hw
theorem de_ifE (h0 : DT T X W c tA wA) (h1 : DE T X W a ta wa) (h2 : DE T X W b tb wb) : DE T X W (.IfExp c a b pos) (tIf tA ta tb) (wIfE wA wa wb) := ⟨pe_ifExp h0.pt h1.pe h2.pe, im_ifE h0.im h1.im h2.im⟩
/-- a < b < c -/
def wChain (f g : D → D → (D → Prop) → Prop) (a b c : WE) : WT := fun ρ post ep => a ρ (fun x => b ρ (fun y n => f x y (fun d => match d with
  | .bl k => if k = true then c ρ (fun z m => g y z fun e => match e with
    | .bl l => post l m
    | _ => False) ep n else post false n
  | _ => False)) ep) ep
theorem im_chain {r r' : R2} {f g : D → D → (D → Prop) → Prop} (hf : OpD T r f) (hg : OpD T r' g) (h1 : ImpE T W ta wa) (h2 : ImpE T W tb wb) (h3 : ImpE T W tc wc) : ImpT T W (tTest (tChain r r' ta tb tc)) (wChain f g wa wb wc) := fun ρ σ S H H0 post ep Q ok er ex q hw =>
  h1 ρ σ S H H0 _ ep _ ok er ex (fun x S1 H1 v p ok1 x1 r1 => h2 ρ σ S1 H1 H0 _ ep _ ok1 (er.ext ok x1) (ex.ext x1) (fun y S2 H2 v2 p2 ok2 x2 r2 => by
    refine hf S2 H2 v v2 x y (fun d n => match d with
      | .bl k => if k = true then wc ρ (fun z m => g y z fun e => match e with
        | .bl l => post l m
        | _ => False) ep n else post false n
      | _ => False) _ ok2 (r1.ext ok1 x2.to0) r2 (fun d S3 H3 v3 p3 ok3 x3 r3 => ?_) p2
    cases r3 with
    | bl k =>
      refine ⟨k, rfl, ?_⟩
      cases k with
      | true =>
        refine h3 ρ σ S3 H3 H0 _ ep _ ok3 (((er.ext ok x1).ext ok1 x2).ext ok2 x3) (((ex.ext x1).ext x2).ext x3) (fun z S4 H4 v4 p4 ok4 x4 r4 => ?_) p3
        refine hg S4 H4 v2 v4 y z (fun e m => match e with
          | .bl l => post l m
          | _ => False) _ ok4 (r2.ext ok2 (x3.trans x4).to0) r4 (fun e S5 H5 v5 p5 ok5 x5 r5 => ?_) p4
        cases r5 with
        | bl l => exact ⟨l, rfl, q l S5 H5 p5 ok5 ((((x1.trans x2).trans x3).trans x4).trans x5)⟩
        | _ => exact False.elim p5
      | false => exact ⟨false, rfl, q false S3 H3 p3 ok3 ((x1.trans x2).trans x3)⟩
    | _ => exact False.elim p3) p) hw
theorem dt_chain {op op' : CmpOp} {r r' : R2} {f g : D → D → (D → Prop) → Prop} (ho : OpR X (compareOp op) r) (ho' : OpR X (compareOp op') r') (hf : OpD T r f) (hg : OpD T r' g) (h1 : DE T X W a ta wa) (h2 : DE T X W b tb wb) (h3 : DE T X W c tc wc)
    (hm : lastMarks [op, op'] [b, c] = false := by with_unfolding_all rfl) : DT T X W (.Compare a [op, op'] [b, c] pos) (tTest (tChain r r' ta tb tc)) (wChain f g wa wb wc) :=
  ⟨pt_chain ho ho' h1.pe h2.pe h3.pe hm, im_chain hf hg h1.im h2.im h3.im⟩
/-- a test as a value: not a -/
theorem im_notV (h : ImpE T W ta wa) : ImpE T W (L2.tNotT T.K ta) (wOfT (wNotT (wTru wa))) := fun ρ σ S H H0 post ep Q ok er ex q hw =>
  h ρ σ S H H0 _ ep _ ok er ex (fun d S1 H1 v p ok1 x1 r1 => by
    obtain ⟨k, h1, h2⟩ := truV_of r1 p
    exact ⟨k, h1, q (.bl (!k)) S1 H1 _ h2 ok1 x1 (.bl _)⟩) hw
theorem de_not (hK : X.K = T.K) (h : DE T X W a ta wa) : DE T X W (.UnaryOp .Not a pos) (L2.tNotT X.K ta) (wOfT (wNotT (wTru wa))) := ⟨pe_notT h.pe, by rw [hK]; exact im_notV h.im⟩
/-- a and b, a or b as values -/
def wAndV (a b : WE) : WE := fun ρ post ep => a ρ (fun d n => truD d fun k => if k = true then b ρ post ep n else post d n) ep
def wOrV (a b : WE) : WE := fun ρ post ep => a ρ (fun d n => truD d fun k => if k = true then post d n else b ρ post ep n) ep
theorem im_andV (h1 : ImpE T W ta wa) (h2 : ImpE T W tb wb) : ImpE T W (L2.tAndT T.K ta tb) (wAndV wa wb) := fun ρ σ S H H0 post ep Q ok er ex q hw =>
  h1 ρ σ S H H0 _ ep _ ok er ex (fun d S1 H1 v p ok1 x1 r1 => by
    obtain ⟨k, e1, e2⟩ := truV_of r1 p
    refine ⟨k, e1, ?_⟩
    cases k with
    | true => exact h2 ρ σ S1 H1 H0 _ ep _ ok1 (er.ext ok x1) (ex.ext x1) (q.ext x1) e2
    | false => exact q d S1 H1 v e2 ok1 x1 r1) hw
theorem im_orV (h1 : ImpE T W ta wa) (h2 : ImpE T W tb wb) : ImpE T W (L2.tOrT T.K ta tb) (wOrV wa wb) := fun ρ σ S H H0 post ep Q ok er ex q hw =>
  h1 ρ σ S H H0 _ ep _ ok er ex (fun d S1 H1 v p ok1 x1 r1 => by
    obtain ⟨k, e1, e2⟩ := truV_of r1 p
    refine ⟨k, e1, ?_⟩
    cases k with
    | false => exact h2 ρ σ S1 H1 H0 _ ep _ ok1 (er.ext ok x1) (ex.ext x1) (q.ext x1) e2
    | true => exact q d S1 H1 v e2 ok1 x1 r1) hw
theorem de_and (hK : X.K = T.K) (h1 : DE T X W a ta wa) (h2 : DE T X W (.BoolOp .And (b :: rest) pos) tb wb) : DE T X W (.BoolOp .And (a :: b :: rest) pos) (L2.tAndT X.K ta tb) (wAndV wa wb) := ⟨pe_andT h1.pe h2.pe, by rw [hK]; exact im_andV h1.im h2.im⟩
theorem de_or (hK : X.K = T.K) (h1 : DE T X W a ta wa) (h2 : DE T X W (.BoolOp .Or (b :: rest) pos) tb wb) : DE T X W (.BoolOp .Or (a :: b :: rest) pos) (L2.tOrT X.K ta tb) (wOrV wa wb) := ⟨pe_orT h1.pe h2.pe, by rw [hK]; exact im_orV h1.im h2.im⟩
theorem de_one {op} (h : DE T X W a ta wa) : DE T X W (.BoolOp op [a] pos) ta wa := ⟨pe_one h.pe, h.im⟩
end
end PyD

/-! PyD: built-ins by name, isinstance, subscripts, slices, methods of lists. -/
namespace PyD
open PySem PySem.Spec PyProof.Rows L2

/-! ### built-ins by name -/
abbrev FA := List D → (D → Prop) → Prop
def OpA (T : Tb) (r : List V → Hp → VK → Prop) (f : FA) : Prop := ∀ (S : VS) (H : Hp) (vs : List V) (ds : List D) (post : D → Pr) (Q : VK), Ok T S H → RepL T S H vs ds → QW T S H post Q → f ds (fun d => post d S.n) → r vs H Q
def wCB (f : FA) (a : WA) : WE := fun ρ post ep => a ρ (fun ds n => f ds fun d => post d n) ep
section
variable {T : Tb} {X : Cx} {W : WX} {t : TA} {wa : WA} {r r' : List V → Hp → VK → Prop} {f f' : FA}
theorem im_cb (h : OpA T r f) (h1 : ImpA T W t wa) : ImpE T W (tCB r t) (wCB f wa) := fun ρ σ S H H0 post ep Q ok er ex q hw =>
  h1 ρ σ S H H0 _ ep _ ok er ex (fun ds S1 H1 vs p ok1 x1 r1 => h S1 H1 vs ds post Q ok1 r1 (q.ext x1) p) hw
theorem crOr {g : Value} (h : CallR X g r) (h' : CallR X g r') : CallR X g (fun xs H Q => r xs H Q ∨ r' xs H Q) := fun pins s σ H xs us Q I rv q => q.elim (h pins s σ H xs us Q I rv) (h' pins s σ H xs us Q I rv)
theorem OpA.or (h : OpA T r f) (h' : OpA T r' f') : OpA T (fun xs H Q => r xs H Q ∨ r' xs H Q) (fun ds p => f ds p ∨ f' ds p) := fun S H vs ds post Q ok rv q hw => hw.elim (fun z => .inl (h S H vs ds post Q ok rv q z)) fun z => .inr (h' S H vs ds post Q ok rv q z)
def lenD : FA := fun ds p => match ds with
  | [.str z] => z.length ≤ sizeLine ∧ p (.int z.length)
  | [.tup l] => p (.int l.length)
  | [.lst l] => p (.int l.length)
  | _ => False
theorem d_len : OpA T (fun xs H Q => ∃ x n, xs = [x] ∧ LenV T.K x H n ∧ Q (.int n) H) lenD := fun S H vs ds post Q ok rv q hw => by
  cases rv with
  | nil => exact hw.elim
  | cons r1 r2 =>
    cases r2 with
    | cons _ _ => cases r1 <;> exact False.elim hw
    | nil =>
      cases r1 with
      | str z => exact ⟨_, _, rfl, ⟨hw.1, rfl⟩, q _ S H _ hw.2 ok .refl (.int _)⟩
      | tup h1 l1 => exact ⟨_, _, rfl, .inr ⟨_, h1, rfl⟩, q _ S H _ hw ok .refl (by rw [l1.length]; exact .int _)⟩
      | lst h1 h2 l1 => exact ⟨_, _, rfl, .inl ⟨_, SqL.of h1, rfl⟩, q _ S H _ hw ok .refl (by rw [l1.length]; exact .int _)⟩
      | _ => exact False.elim hw
def absD : FA := fun ds p => match ds with
  | [.int i] => p (.int (if i < 0 then -i else i))
  | _ => False
theorem d_abs : OpA T (fun xs H Q => ∃ i, xs = [.int i] ∧ Q (.int (if i < 0 then -i else i)) H) absD := fun S H vs ds post Q ok rv q hw => by
  cases rv with
  | nil => exact hw.elim
  | cons r1 r2 =>
    cases r2 with
    | cons _ _ => cases r1 <;> exact False.elim hw
    | nil =>
      cases r1 with
      | int i => exact ⟨i, rfl, q _ S H _ hw ok .refl (.int _)⟩
      | _ => exact False.elim hw
def intD : FA := fun ds p => match ds with
  | [.int i] => p (.int i)
  | [.bl k] => p (.int (if k then 1 else 0))
  | _ => False
theorem d_int : OpA T (fun xs H Q => (∃ i, xs = [.int i] ∧ Q (.int i) H) ∨ ∃ k, xs = [.bl k] ∧ Q (.int (if k then 1 else 0)) H) intD := fun S H vs ds post Q ok rv q hw => by
  cases rv with
  | nil => exact hw.elim
  | cons r1 r2 =>
    cases r2 with
    | cons _ _ => cases r1 <;> exact False.elim hw
    | nil =>
      cases r1 with
      | int i => exact .inl ⟨i, rfl, q _ S H _ hw ok .refl (.int _)⟩
      | bl k => exact .inr ⟨k, rfl, q _ S H _ hw ok .refl (.int _)⟩
      | _ => exact False.elim hw
def gcdD : FA := fun ds p => match ds with
  | [.int a, .int b] => p (.int ((Nat.gcd a.natAbs b.natAbs : Nat) : Int))
  | _ => False
theorem RepL.one {S : VS} {H : Hp} {vs : List V} {d : D} (h : RepL T S H vs [d]) : ∃ x, vs = [x] ∧ Rep T S H x d := by
  cases h with
  | cons r1 r2 => cases r2; exact ⟨_, rfl, r1⟩
theorem RepL.two {S : VS} {H : Hp} {vs : List V} {d e : D} (h : RepL T S H vs [d, e]) : ∃ x y, vs = [x, y] ∧ Rep T S H x d ∧ Rep T S H y e := by
  cases h with
  | cons r1 r2 =>
    obtain ⟨y, rfl, r3⟩ := r2.one
    exact ⟨_, y, rfl, r1, r3⟩
theorem d_gcd : OpA T rGcd gcdD := fun S H vs ds post Q ok rv q hw => by
  unfold gcdD at hw
  split at hw
  · obtain ⟨x, y, rfl, r1, r2⟩ := rv.two
    cases r1
    cases r2
    exact ⟨_, _, rfl, q _ S H _ hw ok .refl (.int _)⟩
  · exact hw.elim
def max2D : FA := fun ds p => match ds with
  | [.int i, .int j] => p (.int (if j > i then j else i))
  | _ => False
def min2D : FA := fun ds p => match ds with
  | [.int i, .int j] => p (.int (if j < i then j else i))
  | _ => False
theorem d_max2 : OpA T (fun xs H Q => ∃ i j, xs = [.int i, .int j] ∧ Q (.int (if j > i then j else i)) H) max2D := fun S H vs ds post Q ok rv q hw => by
  unfold max2D at hw
  split at hw
  · obtain ⟨x, y, rfl, r1, r2⟩ := rv.two
    cases r1
    cases r2
    exact ⟨_, _, rfl, q _ S H _ hw ok .refl (.int _)⟩
  · exact hw.elim
theorem d_min2 : OpA T (fun xs H Q => ∃ i j, xs = [.int i, .int j] ∧ Q (.int (if j < i then j else i)) H) min2D := fun S H vs ds post Q ok rv q hw => by
  unfold min2D at hw
  split at hw
  · obtain ⟨x, y, rfl, r1, r2⟩ := rv.two
    cases r1
    cases r2
    exact ⟨_, _, rfl, q _ S H _ hw ok .refl (.int _)⟩
  · exact hw.elim
/-- the ints of a list of ints -/
def ints? : List D → Option (List Int)
  | [] => some []
  | .int i :: ds => (ints? ds).map (i :: ·)
  | _ :: _ => none
theorem RepL.ints {S : VS} {H : Hp} : ∀ {vs : List V} {ds : List D} {ns : List Int}, RepL T S H vs ds → ints? ds = some ns → vs = ns.map V.int
  | _, _, _, .nil, e => by cases e; rfl
  | _, _, ns, .cons (d := d) r t, e => by
    cases r with
    | int i =>
      unfold ints? at e
      cases h : ints? _ with
      | none => rw [h] at e; cases e
      | some ms => rw [h] at e; cases e; rw [List.map_cons, RepL.ints t h]
    | _ => cases e
def bools? : List D → Option (List Bool)
  | [] => some []
  | .bl i :: ds => (bools? ds).map (i :: ·)
  | _ :: _ => none
theorem RepL.bools {S : VS} {H : Hp} : ∀ {vs : List V} {ds : List D} {ns : List Bool}, RepL T S H vs ds → bools? ds = some ns → vs = ns.map V.bl
  | _, _, _, .nil, e => by cases e; rfl
  | _, _, ns, .cons (d := d) r t, e => by
    cases r with
    | bl i =>
      unfold bools? at e
      cases h : bools? _ with
      | none => rw [h] at e; cases e
      | some ms => rw [h] at e; cases e; rw [List.map_cons, RepL.bools t h]
    | _ => cases e
def onL {α : Type} (g : List D → Option (List α)) (k : List α → (D → Prop) → Prop) : FA := fun ds p => match ds with
  | [.lst l] => ∃ ns, g l = some ns ∧ k ns p
  | _ => False
theorem d_onI {r : List V → Hp → VK → Prop} {k : List Int → (D → Prop) → Prop} (hr : ∀ (S : VS) (H : Hp) (a : Addr) (ns : List Int) (post : D → Pr) (Q : VK), Ok T S H → H a = some (.lst (ns.map V.int)) → QW T S H post Q → k ns (fun d => post d S.n) → r [.ref a] H Q) : OpA T r (onL ints? k) := fun S H vs ds post Q ok rv q hw => by
  unfold onL at hw
  split at hw
  · obtain ⟨x, rfl, r1⟩ := rv.one
    obtain ⟨ns, h1, h2⟩ := hw
    cases r1 with
    | lst h3 h4 l1 => exact hr S H _ ns post Q ok (by rw [h3, l1.ints h1]) q h2
  · exact hw.elim
theorem d_onB {r : List V → Hp → VK → Prop} {k : List Bool → (D → Prop) → Prop} (hr : ∀ (S : VS) (H : Hp) (a : Addr) (ns : List Bool) (post : D → Pr) (Q : VK), Ok T S H → H a = some (.lst (ns.map V.bl)) → QW T S H post Q → k ns (fun d => post d S.n) → r [.ref a] H Q) : OpA T r (onL bools? k) := fun S H vs ds post Q ok rv q hw => by
  unfold onL at hw
  split at hw
  · obtain ⟨x, rfl, r1⟩ := rv.one
    obtain ⟨ns, h1, h2⟩ := hw
    cases r1 with
    | lst h3 h4 l1 => exact hr S H _ ns post Q ok (by rw [h3, l1.bools h1]) q h2
  · exact hw.elim
def sumD : FA := onL ints? fun ns p => p (.int ns.sum)
theorem d_sum : OpA T (rSum T.K) sumD := d_onI fun S H a ns post Q ok h q hw => ⟨a, ns, rfl, SqL.of h, q _ S H _ hw ok .refl (.int _)⟩
def maxD : FA := onL ints? fun ns p => 0 < ns.length ∧ ∀ m, m ∈ ns → (∀ y, y ∈ ns → y ≤ m) → p (.int m)
theorem d_max : OpA T (rMax T.K) maxD := d_onI fun S H a ns post Q ok h q hw => ⟨a, ns, rfl, SqL.of h, hw.1, fun m h1 h2 => q _ S H _ (hw.2 m h1 h2) ok .refl (.int _)⟩
def minD : FA := onL ints? fun ns p => 0 < ns.length ∧ ∀ m, m ∈ ns → (∀ y, y ∈ ns → m ≤ y) → p (.int m)
theorem d_min : OpA T (rMin T.K) minD := d_onI fun S H a ns post Q ok h q hw => ⟨a, ns, rfl, SqL.of h, hw.1, fun m h1 h2 => q _ S H _ (hw.2 m h1 h2) ok .refl (.int _)⟩
def anyD : FA := onL bools? fun ns p => p (.bl (ns.any id))
theorem d_any : OpA T (rAny T.K) anyD := d_onB fun S H a ns post Q ok h q hw => ⟨a, ns, rfl, SqL.of h, q _ S H _ hw ok .refl (.bl _)⟩
def allD : FA := onL bools? fun ns p => p (.bl (ns.all id))
theorem d_all : OpA T (rAll T.K) allD := d_onB fun S H a ns post Q ok h q hw => ⟨a, ns, rfl, SqL.of h, q _ S H _ hw ok .refl (.bl _)⟩
def listD : FA := fun ds p => match ds with
  | [.lst l] => p (.lst l)
  | [.tup l] => p (.lst l)
  | _ => False
theorem d_list : OpA T (fun xs H Q => ∃ p ys, xs = [.ref p] ∧ (SqL T.K H p ys ∨ SqT T.K H p ys) ∧ ∀ l, H l = none → Q (.ref l) (upd H l (.lst ys))) listD := fun S H vs ds post Q ok rv q hw => by
  unfold listD at hw
  split at hw
  · obtain ⟨x, rfl, r1⟩ := rv.one
    cases r1 with
    | lst h3 h4 l1 => exact ⟨_, _, rfl, .inl (SqL.of h3), new_lst ok q l1 hw⟩
  · obtain ⟨x, rfl, r1⟩ := rv.one
    cases r1 with
    | tup h3 l1 => exact ⟨_, _, rfl, .inr h3, new_lst ok q l1 hw⟩
  · exact hw.elim
def tupD : FA := fun ds p => match ds with
  | [.lst l] => p (.tup l)
  | [.tup l] => p (.tup l)
  | _ => False
theorem d_tup : OpA T (fun xs H Q => ∃ p ys, xs = [.ref p] ∧ ((SqL T.K H p ys ∧ ∀ l, H l = none → Q (.ref l) (upd H l (.tup ys))) ∨ (SqT T.K H p ys ∧ Q (.ref p) H))) tupD := fun S H vs ds post Q ok rv q hw => by
  unfold tupD at hw
  split at hw
  · obtain ⟨x, rfl, r1⟩ := rv.one
    cases r1 with
    | lst h3 h4 l1 => exact ⟨_, _, rfl, .inl ⟨SqL.of h3, new_tup ok q l1 hw⟩⟩
  · obtain ⟨x, rfl, r1⟩ := rv.one
    cases r1 with
    | tup h3 l1 => exact ⟨_, _, rfl, .inr ⟨h3, q _ S H _ hw ok .refl (.tup h3 l1)⟩⟩
  · exact hw.elim
end

/-! ### isinstance -/
def tyName : D → Option String
  | .non => some "NoneType"
  | .bl _ => some "bool"
  | .int _ => some "int"
  | .str _ => some "str"
  | .tup _ => some "tuple"
  | .lst _ => some "list"
  | .dic _ => some "dict"
  | _ => none
/-- isinstance(x, T) of plain data, T a built-in type -/
def isiD : FA := fun ds p => match ds with
  | [x, .ty n] => ∃ m b, tyName x = some m ∧ kitB m n = some b ∧ p (.bl b)
  | _ => False
section
variable {T : Tb} {S : VS} {H : Hp}
theorem Rep.tyX {x : V} {d : D} {m : String} (r : Rep T S H x d) (h : tyName d = some m) : TyX T.K H x (.type m) := by
  cases r with
  | non => cases h; exact .base .non
  | bl b => cases h; exact .base (.bl b)
  | int b => cases h; exact .base (.int b)
  | str b => cases h; exact .base (.str b)
  | tup h1 _ =>
    cases h
    rcases h1 with (h1 | ⟨o, h1⟩) | h1
    · exact .base (.tup h1)
    · exact .fTuple h1
    · obtain ⟨o, its, n, e, c, _⟩ := h1
      exact .kTuple e c
  | lst h1 _ _ => cases h; exact .base (.lst h1)
  | dic h1 _ _ =>
    cases h
    rcases h1 with h1 | ⟨o, h1⟩
    · exact .base (.dK h1)
    · exact .fDict h1
  | _ => cases h
theorem d_isi : OpA T (rIsi T.K) isiD := fun S H vs ds post Q ok rv q hw => by
  unfold isiD at hw
  split at hw
  · obtain ⟨x, y, rfl, r1, r2⟩ := rv.two
    obtain ⟨m, b, h1, h2, h3⟩ := hw
    cases r2
    exact ⟨x, _, _, _, b, rfl, .ty _, r1.tyX h1, kit_ty h2, q _ S H _ h3 ok .refl (.bl _)⟩
  · exact hw.elim
end

/-! ### subscripts, slices -/
theorem rep_ints {T : Tb} {S : VS} {H : Hp} : ∀ l : List Int, RepL T S H (l.map V.int) (l.map D.int)
  | [] => .nil
  | i :: l => .cons (.int i) (rep_ints l)
def cutD (xs : List D) (lo hi : Option Int) : List D := (xs.drop (HT.sIx xs.length 0 lo)).take (HT.sIx xs.length xs.length hi - HT.sIx xs.length 0 lo)
abbrev WO := EnvD → (Option Int → Pr) → EP → Pr
def wNoP : WO := fun _ post _ => post none
def wP (e : WE) : WO := fun ρ post ep => e ρ (fun d => match d with
  | .int i => post (some i)
  | _ => fun _ => False) ep
def ImpO (T : Tb) (W : WX) (t : TO) (w : WO) : Prop := ∀ (ρ : EnvD) (σ : St) (S : VS) (H H0 : Hp) (post : Option Int → Pr) (ep : EP) (Q : Option Int → Hp → Prop), Ok T S H → EnvRel T H0 S H σ ρ → ExW T W σ S H ep →
  (∀ o S' H', post o S'.n → Ok T S' H' → Ext S H S' H' → Q o H') → w ρ post ep S.n → t σ H Q
/-- a slice of a list, of a tuple (not the whole of it) -/
def slD : D → Option Int → Option Int → (D → Prop) → Prop := fun x lo hi p => match x with
  | .lst l => p (.lst (cutD l lo hi))
  | .tup l => ¬ (HT.sIx l.length 0 lo = 0 ∧ HT.sIx l.length l.length hi = l.length) ∧ p (.tup (cutD l lo hi))
  | .scr l => p (.lst (cutD (l.map D.int) lo hi))
  | _ => False
def wSl (a : WE) (lo hi : WO) : WE := fun ρ post ep => a ρ (fun x => lo ρ (fun l => hi ρ (fun h n => slD x l h fun d => post d n) ep) ep) ep
section
variable {T : Tb} {X : Cx} {W : WX} {a b e : Expr} {ta tb te : TE} {wa wb we : WE} {lo hi : Option Expr} {tl th : TO} {wl wh : WO} {pos p2 : Pos}
theorem d_ix : OpD T (rIx T.K) ixD := fun S H x y dx dy post Q ok r1 r2 q hw => by
  unfold ixD at hw
  split at hw
  · cases r1 with
    | lst h1 h2 l1 =>
      cases r2
      obtain ⟨d, h3, h4⟩ := hw
      obtain ⟨v, e1, rv⟩ := atI_rep l1 h3
      exact .inl ⟨_, _, _, v, rfl, rfl, SqL.of h1, e1, q d S H v h4 ok .refl rv⟩
  · cases r1 with
    | tup h1 l1 =>
      cases r2
      obtain ⟨d, h3, h4⟩ := hw
      obtain ⟨v, e1, rv⟩ := atI_rep l1 h3
      exact .inr (.inl ⟨_, _, _, v, rfl, rfl, h1, e1, q d S H v h4 ok .refl rv⟩)
  · cases r1
    cases r2
    obtain ⟨h1, c, h3, h4⟩ := hw
    exact .inr (.inr ⟨_, _, c, rfl, rfl, h1, h3, q _ S H _ h4 ok .refl (.str _)⟩)
  · exact hw.elim
theorem de_ix (hK : X.K = T.K) (h1 : DE T X W a ta wa) (h2 : DE T X W b tb wb) (hs : PlainIx b := by exact fun _ _ => rfl) : DE T X W (.Subscript a b pos) (tOp (rIx X.K) ta tb) (wOp ixD wa wb) :=
  ⟨pe_ix ix_seq h1.pe h2.pe hs, by rw [hK]; exact im_op d_ix h1.im h2.im⟩
structure DO (T : Tb) (X : Cx) (W : WX) (e : Option Expr) (t : TO) (w : WO) : Prop where
  po : PO X e t
  im : ImpO T W t w
theorem do_none : DO T X W none tNoPart wNoP := ⟨po_none, fun ρ σ S H H0 post ep Q ok er ex q h => q none S H h ok .refl⟩
theorem do_some (h : DE T X W e te we) : DO T X W (some e) (tPart te) (wP we) := ⟨po_some h.pe, fun ρ σ S H H0 post ep Q ok er ex q hw =>
  h.im ρ σ S H H0 _ ep _ ok er ex (fun d S1 H1 v p ok1 x1 r1 => by
    cases r1 with
    | int i => exact ⟨i, rfl, q _ S1 H1 p ok1 x1⟩
    | _ => exact False.elim p) hw⟩
theorem cut_rep {S : VS} {H : Hp} {xs : List V} {ds : List D} (r : RepL T S H xs ds) (lo hi : Option Int) : RepL T S H (cutV xs lo hi) (cutD ds lo hi) := by
  unfold cutV cutD
  rw [r.length]
  exact (r.drop _).take _
theorem im_sl (h1 : ImpE T W ta wa) (h2 : ImpO T W tl wl) (h3 : ImpO T W th wh) : ImpE T W (tSl (fun x lo hi H Q => rSlL T.K x lo hi H Q ∨ rSlT T.K x lo hi H Q) ta tl th) (wSl wa wl wh) := fun ρ σ S H H0 post ep Q ok er ex q hw =>
  h1 ρ σ S H H0 _ ep _ ok er ex (fun d S1 H1 v p ok1 x1 r1 => h2 ρ σ S1 H1 H0 _ ep _ ok1 (er.ext ok x1) (ex.ext x1) (fun l S2 H2 p2 ok2 x2 => h3 ρ σ S2 H2 H0 _ ep _ ok2 ((er.ext ok x1).ext ok1 x2) ((ex.ext x1).ext x2) (fun h S3 H3 p3 ok3 x3 => by
    have r := r1.ext ok1 (x2.trans x3).to0
    have q3 := q.ext ((x1.trans x2).trans x3)
    unfold slD at p3
    split at p3
    · cases r with
      | lst k1 k2 l1 => exact .inl ⟨_, _, rfl, SqL.of k1, new_lst ok3 q3 (cut_rep l1 l h) p3⟩
    · cases r with
      | tup k1 l1 => exact .inr ⟨_, _, rfl, k1, by rw [l1.length]; exact p3.1, new_tup ok3 q3 (cut_rep l1 l h) p3.2⟩
    · cases r with
      | scr k1 => exact .inl ⟨_, _, rfl, k1.sq, new_lst ok3 q3 (cut_rep (rep_ints _) l h) p3⟩
    · exact p3.elim) p2) p) hw
theorem de_sl (hK : X.K = T.K) (h1 : DE T X W a ta wa) (h2 : DO T X W lo tl wl) (h3 : DO T X W hi th wh) : DE T X W (.Subscript a (.Slice lo hi none p2) pos) (tSl (fun x lo hi H Q => rSlL X.K x lo hi H Q ∨ rSlT X.K x lo hi H Q) ta tl th) (wSl wa wl wh) :=
  ⟨pe_slice (sl_list.or sl_tup) h1.pe h2.po h3.po, by rw [hK]; exact im_sl h1.im h2.im h3.im⟩
end

/-! ### the frame's own lists -/
/-- reading own list i first -/
def onO {α : Type} (ρ : EnvD) (i : Nat) (k : List D → Nat → Prop) : Pr := match ρ.getD i .no with
  | .own ds => k ds
  | _ => fun _ => False
theorem onO_of {ρ : EnvD} {i n : Nat} {k : List D → Nat → Prop} (h : onO (α := Unit) ρ i k n) : ∃ ds, ρ[i]? = some (.own ds) ∧ k ds n := getD_own h
abbrev onW := @onO Unit
/-- what a value that reads an own list asks -/
def wOwnE (i : Nat) (k : List D → (D → Prop) → Prop) : WE := fun ρ post _ => onW ρ i fun ds n => k ds fun d => post d n
/-- an item of an own list -/
def wIxO (i : Nat) (b : WE) : WE := fun ρ post ep => onW ρ i fun ds => b ρ (fun y => match y with
  | .int j => fun n => ∃ d, atI ds j = some d ∧ post d n
  | _ => fun _ => False) ep
def wTruO (i : Nat) : WT := fun ρ post _ => onW ρ i fun ds => post (!ds.isEmpty)
/-- a slice of an own list -/
def wSlO (i : Nat) (lo hi : WO) : WE := fun ρ post ep => onW ρ i fun ds => lo ρ (fun l => hi ρ (fun h => post (.lst (cutD ds l h))) ep) ep
/-- x.append(e) -/
def wApp (i : Nat) (e : WE) : WS := fun ρ K => onW ρ i fun ds => e ρ (fun d n => ds.length < sizeLine ∧ K.nx (ρ.set i (.own (ds ++ [d]))) n) K.ex
/-- x[j] = e -/
def wPut (i : Nat) (b e : WE) : WS := fun ρ K => e ρ (fun d => onW ρ i fun ds => b ρ (fun y => match y with
  | .int j => fun n => ∃ k, ixN ds.length j = some k ∧ K.nx (ρ.set i (.own (ds.set k d))) n
  | _ => fun _ => False) K.ex) K.ex
/-- x.pop() as a statement, as a value -/
def wPop (i : Nat) : WS := fun ρ K => onW ρ i fun ds n => ds ≠ [] ∧ K.nx (ρ.set i (.own ds.dropLast)) n
def wSetPop (j i : Nat) : WS := fun ρ K => onW ρ i fun ds n => ∃ d, ds[ds.length - 1]? = some d ∧ K.nx ((ρ.set i (.own ds.dropLast)).set j (.val d)) n
section
variable {T : Tb} {X : Cx} {W : WX} {a b e : Expr} {ta tb te : TE} {wa wb we : WE} {pos : Pos} {st : Stmt} {sts : List Stmt} {t : TS} {w : WS} {tl th : TO} {wl wh : WO} {lo hi : Option Expr} {p2 : Pos}
theorem im_ixO {i : Nat} (h : ImpE T W tb wb) : ImpE T W (tOp (rIx T.K) (tVar i) tb) (wIxO i wb) := fun ρ σ S H H0 post ep Q ok er ex q hw => by
  obtain ⟨ds, e1, hw⟩ := onO_of hw
  obtain ⟨p, xs, k1, k2, k3, k4, k5⟩ := er.own i ds e1
  refine ⟨.ref p, k1, h ρ σ S H H0 _ ep _ ok er ex (fun y S2 H2 v2 p2 ok2 x2 r2 => ?_) hw⟩
  cases r2 with
  | int j =>
    obtain ⟨d, e2, p3⟩ := p2
    obtain ⟨k6, k7⟩ := x2.keep p _ k2 (fun _ z => by cases z) fun n z => by rw [k3] at z; cases z
    obtain ⟨v', e3, rv⟩ := atI_rep (k4.ext ok x2.to0) e2
    exact .inl ⟨_, _, _, v', rfl, rfl, SqL.of k6, e3, q d S2 H2 v' p3 ok2 x2 rv⟩
  | _ => exact False.elim p2
theorem de_ixO (hK : X.K = T.K) {i : Nat} {x : Str} {p : Pos} (h1 : PE X (.Name x p) (tVar i)) (h2 : DE T X W b tb wb) (hs : PlainIx b := by exact fun _ _ => rfl) : DE T X W (.Subscript (.Name x p) b pos) (tOp (rIx X.K) (tVar i) tb) (wIxO i wb) :=
  ⟨pe_ix ix_seq h1 h2.pe hs, by rw [hK]; exact im_ixO h2.im⟩
theorem im_slO {i : Nat} (h2 : ImpO T W tl wl) (h3 : ImpO T W th wh) : ImpE T W (tSl (fun x lo hi H Q => rSlL T.K x lo hi H Q ∨ rSlT T.K x lo hi H Q) (tVar i) tl th) (wSlO i wl wh) := fun ρ σ S H H0 post ep Q ok er ex q hw => by
  obtain ⟨ds, e1, hw⟩ := onO_of hw
  obtain ⟨p, xs, k1, k2, k3, k4, k5⟩ := er.own i ds e1
  refine ⟨.ref p, k1, h2 ρ σ S H H0 _ ep _ ok er ex (fun l S2 H2 p2 ok2 x2 => h3 ρ σ S2 H2 H0 _ ep _ ok2 (er.ext ok x2) (ex.ext x2) (fun h S3 H3 p3 ok3 x3 => ?_) p2) hw⟩
  have x := x2.trans x3
  obtain ⟨k6, k7⟩ := x.keep p _ k2 (fun _ z => by cases z) fun n z => by rw [k3] at z; cases z
  exact .inl ⟨_, _, rfl, SqL.of k6, new_lst ok3 (q.ext x) (cut_rep (k4.ext ok x.to0) l h) p3⟩
theorem de_slO (hK : X.K = T.K) {i : Nat} {x : Str} {p : Pos} (h1 : PE X (.Name x p) (tVar i)) (h2 : DO T X W lo tl wl) (h3 : DO T X W hi th wh) : DE T X W (.Subscript (.Name x p) (.Slice lo hi none p2) pos) (tSl (fun x lo hi H Q => rSlL X.K x lo hi H Q ∨ rSlT X.K x lo hi H Q) (tVar i) tl th) (wSlO i wl wh) :=
  ⟨pe_slice (sl_list.or sl_tup) h1 h2.po h3.po, by rw [hK]; exact im_slO h2.im h3.im⟩
theorem im_truO {i : Nat} : ImpT T W (fun σ H Q => tVar i σ H fun x H' => ∃ k, TruV T.K x H' k ∧ Q k H') (wTruO i) := fun ρ σ S H H0 post ep Q ok er ex q hw => by
  obtain ⟨ds, e1, hw⟩ := onO_of hw
  obtain ⟨p, xs, k1, k2, k3, k4, k5⟩ := er.own i ds e1
  have e : xs.isEmpty = ds.isEmpty := by cases k4 <;> rfl
  exact ⟨.ref p, k1, _, .inl ⟨_, SqL.of k2, rfl⟩, by rw [e]; exact q _ S H hw ok .refl⟩
theorem dt_truO (hK : X.K = T.K) {i : Nat} {x : Str} {p : Pos} (h1 : PE X (.Name x p) (tVar i)) : DT T X W (.Name x p) (fun σ H Q => tVar i σ H fun x H' => ∃ k, TruV X.K x H' k ∧ Q k H') (wTruO i) :=
  ⟨pt_truth h1 (by intro _; rfl), by rw [hK]; exact im_truO⟩
/-- a built-in's answer of own list i -/
theorem im_cbO {r : List V → Hp → VK → Prop} {f : FA} {i : Nat} (h : ∀ (S : VS) (H : Hp) (a : Addr) (xs : List V) (ds : List D) (post : D → Pr) (Q : VK), Ok T S H → H a = some (.lst xs) → RepL T S H xs ds → QW T S H post Q → f [.lst ds] (fun d => post d S.n) → r [.ref a] H Q) :
    ImpE T W (tCB r (tCons (tVar i) tNil)) (wOwnE i fun ds => f [.lst ds]) := fun ρ σ S H H0 post ep Q ok er ex q hw => by
  obtain ⟨ds, e1, hw⟩ := onO_of hw
  obtain ⟨p, xs, k1, k2, k3, k4, k5⟩ := er.own i ds e1
  exact ⟨.ref p, k1, h S H p xs ds post Q ok k2 k4 q hw⟩
theorem im_lenO {i : Nat} : ImpE T W (tCB (fun xs H Q => ∃ x n, xs = [x] ∧ LenV T.K x H n ∧ Q (.int n) H) (tCons (tVar i) tNil)) (wOwnE i fun ds => lenD [.lst ds]) :=
  im_cbO fun S H a xs ds post Q ok h l1 q hw => ⟨_, _, rfl, .inl ⟨_, SqL.of h, rfl⟩, q _ S H _ hw ok .refl (by rw [l1.length]; exact .int _)⟩
theorem im_sumO {i : Nat} : ImpE T W (tCB (rSum T.K) (tCons (tVar i) tNil)) (wOwnE i fun ds => sumD [.lst ds]) :=
  im_cbO fun S H a xs ds post Q ok h l1 q hw => by
    obtain ⟨ns, e, hw⟩ := hw
    exact ⟨a, ns, rfl, SqL.of (by rw [h, l1.ints e]), q _ S H _ hw ok .refl (.int _)⟩
theorem im_listO {i : Nat} : ImpE T W (tCB (fun xs H Q => ∃ p ys, xs = [.ref p] ∧ (SqL T.K H p ys ∨ SqT T.K H p ys) ∧ ∀ l, H l = none → Q (.ref l) (upd H l (.lst ys))) (tCons (tVar i) tNil)) (wOwnE i fun ds => listD [.lst ds]) :=
  im_cbO fun S H a xs ds post Q ok h l1 q hw => ⟨_, _, rfl, .inl (SqL.of h), new_lst ok q l1 hw⟩
theorem im_tupO {i : Nat} : ImpE T W (tCB (fun xs H Q => ∃ p ys, xs = [.ref p] ∧ ((SqL T.K H p ys ∧ ∀ l, H l = none → Q (.ref l) (upd H l (.tup ys))) ∨ (SqT T.K H p ys ∧ Q (.ref p) H))) (tCons (tVar i) tNil)) (wOwnE i fun ds => tupD [.lst ds]) :=
  im_cbO fun S H a xs ds post Q ok h l1 q hw => ⟨_, _, rfl, .inl ⟨SqL.of h, new_tup ok q l1 hw⟩⟩
/-- an own list changes: the environment -/
theorem EnvRel.upd {H0 : Hp} {S : VS} {H : Hp} {σ : St} {ρ : EnvD} {i : Nat} {p : Addr} {xs ys : List V} {ds es : List D} (ok : Ok T S H) (er : EnvRel T H0 S H σ ρ) (e1 : ρ[i]? = some (.own ds)) (k1 : σ[i]? = some (some (.ref p))) (k2 : H p = some (.lst xs)) (k3 : S p = some .own)
    (r : RepL T S H ys es) (h0 : H0 p = none) : Ok T S (upd H p (.lst ys)) ∧ Ext0 S H S (upd H p (.lst ys)) ∧ EnvRel T H0 S (upd H p (.lst ys)) σ (ρ.set i (.own es)) := by
  obtain ⟨o5, x5⟩ := own_upd (ys := ys) ok k3 k2
  refine ⟨o5, x5, ⟨by rw [List.length_set]; exact er.len, fun j d e => ?_, fun j ds' e => ?_, fun j k ds' es' a q1 q2 q3 q4 => ?_, fun j c fs e => ?_, fun j k c c' fs fs' q1 q2 => ?_⟩⟩
  · by_cases hj : i = j
    · subst hj
      by_cases hl : i < ρ.length
      · rw [List.getElem?_set_self hl] at e; cases e
      · rw [List.getElem?_eq_none (by simpa using hl)] at e; cases e
    · rw [List.getElem?_set_ne hj] at e
      obtain ⟨v, h1, h2⟩ := er.val j d e
      exact ⟨v, h1, h2.ext ok x5⟩
  · by_cases hj : i = j
    · subst hj
      by_cases hl : i < ρ.length
      · rw [List.getElem?_set_self hl] at e
        cases e
        exact ⟨p, ys, k1, upd_same, k3, r.ext ok x5, h0⟩
      · rw [List.getElem?_eq_none (by simpa using hl)] at e; cases e
    · rw [List.getElem?_set_ne hj] at e
      obtain ⟨a, zs, h1, h2, h3, h4, h5⟩ := er.own j ds' e
      have na : a ≠ p := fun z => hj (er.dis i j ds ds' p e1 e k1 (by rw [← z]; exact h1))
      exact ⟨a, zs, h1, by rw [upd_ne na]; exact h2, h3, h4.ext ok x5, h5⟩
  · have back : ∀ {m : Nat} {fs : List D}, (ρ.set i (.own es))[m]? = some (.own fs) → ∃ gs, ρ[m]? = some (.own gs) := fun {m fs} e => by
      by_cases hj : i = m
      · subst hj; exact ⟨ds, e1⟩
      · rw [List.getElem?_set_ne hj] at e; exact ⟨fs, e⟩
    obtain ⟨_, z1⟩ := back q1
    obtain ⟨_, z2⟩ := back q2
    exact er.dis j k _ _ a z1 z2 q3 q4
  · obtain ⟨n, z⟩ := set_back (by simp) e
    obtain ⟨a, dx, vs, h1, h2, h3, h4, h5⟩ := er.obj j c fs z
    have na : a ≠ p := fun z => by rw [z, k2] at h2; cases h2
    exact ⟨a, dx, vs, h1, by rw [upd_ne na]; exact h2, h3, h4.ext ok x5, h5⟩
  · exact er.odis j k c c' fs fs' (set_back (by simp) q1).2 (set_back (by simp) q2).2
theorem Stt.upd {S0 S1 S : VS} {H0 H1 H : Hp} {σ : St} {ρ : EnvD} {i : Nat} {p : Addr} {xs ys : List V} {ds es : List D} (s : Stt T S0 H0 S1 H1 S H σ ρ) (e1 : ρ[i]? = some (.own ds)) (k1 : σ[i]? = some (some (.ref p))) (k2 : H p = some (.lst xs)) (k3 : S p = some .own)
    (r : RepL T S H ys es) (h0 : H0 p = none) : Stt T S0 H0 S1 H1 S (L2.upd H p (.lst ys)) σ (ρ.set i (.own es)) := by
  obtain ⟨a, b, c⟩ := EnvRel.upd s.ok s.er e1 k1 k2 k3 r h0
  exact ⟨a, own_upd_ext s.b h0, s.x.trans b, c⟩
end

/-! ### statements that change an own list -/
section
variable {T : Tb} {X : Cx} {W : WX} {a b e : Expr} {ta tb te : TE} {wa wb we : WE} {pos : Pos} {st : Stmt} {sts : List Stmt} {t : TS} {w : WS}
theorem mtr_append : MtR X "list.append" rAppend := mt_append
theorem mtr_pop : MtR X "list.pop" rPop := mt_pop
theorem im_app {i : Nat} (h : ImpE T W te we) : ImpS T W (tDrop (tBM T.K "list" rAppend (tVar i) (tCons te tNil))) (wApp i we) := fun ρ σ S H S0 H0 K D ok0 ok b er k hw => by
  obtain ⟨ds, e1, hw⟩ := onO_of hw
  obtain ⟨p, xs, k1, k2, k3, k4, k5⟩ := er.own i ds e1
  refine ⟨.ref p, k1, .inl ⟨rfl, _, SqL.of k2⟩, h ρ σ S H H0 _ _ _ ok er (ExW.of k.ex b) (fun d S2 H2 v p2 ok2 x2 r2 => ?_) hw⟩
  obtain ⟨k6, k7⟩ := x2.keep p _ k2 (fun _ z => by cases z) fun n z => by rw [k3] at z; cases z
  have l2 := k4.ext ok x2.to0
  exact ⟨p, xs, v, rfl, rfl, k6, by rw [l2.length]; exact p2.1, k.nx _ _ S2 _ p2.2 (Stt.upd ⟨ok2, b.trans x2, x2.to0, er.ext ok x2⟩ e1 k1 k6 (k7.trans k3) (l2.append (.cons r2 .nil)) k5)⟩
theorem ds_app (hK : X.K = T.K) {i : Nat} {x : Str} {p apos cpos : Pos} (h1 : PE X (.Name x p) (tVar i)) (h2 : DE T X W e te we)
    (hbase : attributeBase (.Name x p) "append" X.env (eval (.Name x p) X.env) = eval (.Name x p) X.env := by rfl)
    (hfew : ((backTo cpos (starEach [e] X.env)).all (fun x => !x.1) && (backToKw cpos (keywordEach [] X.env)).all (fun x => x.1.isSome) && decide (([e] : List Expr).length + ([] : List Keyword).length + (if ([] : List Keyword).isEmpty then 0 else 1) < 30)) = true := by rfl)
    (hline : (apos.endLine == cpos.line) = true := by rfl) (hs : starEach [e] X.env = (false, eval e X.env) :: starEach [] X.env := by rfl) (hplain : (backTo cpos (starEach [] X.env)).any (·.1) = false := by rfl)
    (hs2 : swapsWith (.Call (.Attribute (.Name x p) "append" apos) [e] [] cpos) none pos.line X.env = pure false := by rfl) :
    DS T X W (.Expr (.Call (.Attribute (.Name x p) "append" apos) [e] [] cpos) pos) (tDrop (tBM X.K "list" rAppend (tVar i) (tCons te tNil))) (wApp i we) :=
  ⟨ps_expr (pe_bm PySem.F.plainAttrs_list PySem.F.slot_list_append PySem.F.type_list_append mtr_append h1 (pa_cons h2.pe pa_nil hs) hbase hfew hline hs hplain) hs2, by rw [hK]; exact im_app h2.im⟩
theorem RepL.dropLast {S : VS} {H : Hp} : ∀ {vs : List V} {ds : List D}, RepL T S H vs ds → RepL T S H vs.dropLast ds.dropLast
  | _, _, .nil => .nil
  | _, _, .cons _ .nil => .nil
  | _, _, .cons r (.cons r2 t) => .cons r (RepL.dropLast (.cons r2 t))
theorem im_pop {i : Nat} : ImpS T W (tDrop (tBM0 T.K "list" rPop (tVar i))) (wPop i) := fun ρ σ S H S0 H0 K D ok0 ok b er k hw => by
  obtain ⟨ds, e1, hw⟩ := onO_of hw
  obtain ⟨p, xs, k1, k2, k3, k4, k5⟩ := er.own i ds e1
  have hd : ∃ y, xs[xs.length - 1]? = some y := by
    have hx : 0 < xs.length := by rw [k4.length]; exact List.length_pos_iff.mpr hw.1
    exact ⟨_, List.getElem?_eq_getElem (by omega)⟩
  obtain ⟨y, hy⟩ := hd
  exact ⟨.ref p, k1, .inl ⟨rfl, _, SqL.of k2⟩, p, xs, y, rfl, rfl, k2, hy, k.nx _ _ S _ hw.2 (Stt.upd ⟨ok, b, .refl, er⟩ e1 k1 k2 k3 k4.dropLast k5)⟩
theorem ds_pop (hK : X.K = T.K) {i : Nat} {x : Str} {p apos cpos : Pos} (h1 : PE X (.Name x p) (tVar i))
    (hbase : attributeBase (.Name x p) "pop" X.env (eval (.Name x p) X.env) = eval (.Name x p) X.env := by rfl) (hline : (apos.endLine == cpos.line) = true := by rfl)
    (hs2 : swapsWith (.Call (.Attribute (.Name x p) "pop" apos) [] [] cpos) none pos.line X.env = pure false := by rfl) :
    DS T X W (.Expr (.Call (.Attribute (.Name x p) "pop" apos) [] [] cpos) pos) (tDrop (tBM0 X.K "list" rPop (tVar i))) (wPop i) :=
  ⟨ps_expr (pe_bm0 PySem.F.plainAttrs_list PySem.F.slot_list_pop PySem.F.type_list_pop mtr_pop h1 hbase hline) hs2, by rw [hK]; exact im_pop⟩
theorem im_put {i : Nat} (hb : ImpE T W tb wb) (h : ImpE T W te we) : ImpS T W (tAsg te (gSub (tVar i) tb rSetL)) (wPut i wb we) := fun ρ σ S H S0 H0 K D ok0 ok b er k hw =>
  h ρ σ S H H0 _ _ _ ok er (ExW.of k.ex b) (fun d S1 H1 v p1 ok1 x1 r1 => by
    obtain ⟨ds, e1, p1⟩ := onO_of p1
    have er1 := er.ext ok x1
    obtain ⟨p, xs, k1, k2, k3, k4, k5⟩ := er1.own i ds e1
    refine ⟨.ref p, k1, hb ρ σ S1 H1 H0 _ _ _ ok1 er1 (ExW.of k.ex (b.trans x1)) (fun y S2 H2 v2 p2 ok2 x2 r2 => ?_) p1⟩
    cases r2 with
    | int j =>
      obtain ⟨m, hm, p3⟩ := p2
      obtain ⟨k6, k7⟩ := x2.keep p _ k2 (fun _ z => by cases z) fun n z => by rw [k3] at z; cases z
      have l2 := k4.ext ok1 x2.to0
      exact ⟨p, xs, j, m, rfl, rfl, k6, by rw [l2.length]; exact hm, k.nx _ _ S2 _ p3 (Stt.upd ⟨ok2, b.trans (x1.trans x2), (x1.trans x2).to0, er1.ext ok1 x2⟩ e1 k1 k6 (k7.trans k3) (l2.set (r1.ext ok1 x2.to0) m) k5)⟩
    | _ => exact False.elim p2) hw
theorem ds_put {i : Nat} {x : Str} {p p2 : Pos} (h1 : PE X (.Name x p) (tVar i)) (hb : DE T X W b tb wb) (h : DE T X W e te we)
    (hs : swapsWithSole [.Subscript (.Name x p) b p2] e pos.line X.env = pure false := by rfl) (hw : swappedStores [.Subscript (.Name x p) b p2] e X.env = pure none := by rfl)
    (ha : ∀ v, assign (.Subscript (.Name x p) b p2) X.env v = (do
      let ov ← holding [v] (eval (.Name x p) X.env)
      let iv ← holding [v, ov] (eval b X.env)
      standAt p2
      holding [v, ov, iv] (setItem ov iv v)
      release [v, ov, iv] []) := by intro _; rfl) (hq : (assignEach [.Subscript (.Name x p) b p2] X.env).map (·.2) = [assign (.Subscript (.Name x p) b p2) X.env] := by rfl) :
    DS T X W (.Assign [.Subscript (.Name x p) b p2] e pos) (tAsg te (gSub (tVar i) tb rSetL)) (wPut i wb we) := ⟨ps_asg h.pe (pg_sub h1 hb.pe set_list ha) hs hw hq, im_put hb.im h.im⟩
/-- x op= e, plain values -/
def wAug (i : Nat) (f : D → D → (D → Prop) → Prop) (e : WE) : WS := fun ρ K => wVar i ρ (fun x => e ρ (fun y n => f x y fun d => K.nx (ρ.set i (.val d)) n) K.ex) K.ex
theorem im_aug {i : Nat} {r : R2} {f : D → D → (D → Prop) → Prop} (hr : OpD T r f) (h : ImpE T W te we) : ImpS T W (tAug i te r) (wAug i f we) := fun ρ σ S H S0 H0 K D ok0 ok b er k hw => by
  obtain ⟨d, e1, hw⟩ := getD_val hw
  obtain ⟨v, e2, r1⟩ := er.val i d e1
  refine ⟨v, e2, h ρ σ S H H0 _ _ _ ok er (ExW.of k.ex b) (fun y S1 H1 v2 p1 ok1 x1 r2 => ?_) hw⟩
  exact hr S1 H1 v v2 d y (fun d n => K.nx (ρ.set i (.val d)) n) _ ok1 (r1.ext ok x1.to0) r2 (fun z S2 H2 v3 p2 ok2 x2 r3 => k.nx _ _ S2 H2 p2 ⟨ok2, b.trans (x1.trans x2), (x1.trans x2).to0, ((er.ext ok x1).ext ok1 x2).setVal r3⟩) p1
theorem ds_aug {i : Nat} {x : Str} {op : Operator} {r : R2} {f : D → D → (D → Prop) → Prop} {pos' : Pos} (hN : X.N.Nodup) (hi : X.N[i]? = some x) (hx : Loc X.env.scope x) (ho : OpR X (inplaceOp op) r) (hr : OpD T r f) (h : DE T X W e te we)
    (hf : X.fn x = true ∨ X.env.scope.names.lookup x = some .local := by first | exact .inl rfl | exact .inr rfl | assumption) : DS T X W (.AugAssign (.Name x pos') op e pos) (tAug i te r) (wAug i f we) :=
  ⟨ps_aug hN hi hx h.pe ho hf, im_aug hr h.im⟩
/-- an own list is read only from here on -/
theorem im_freeze {i : Nat} (h : ImpS T W t w) : ImpS T W t (wFreeze i w) := fun ρ σ S H S0 H0 K En ok0 ok b er k hw => by
  obtain ⟨ds, e1, hw⟩ := getD_own hw
  obtain ⟨p, xs, k1, k2, k3, k4, k5⟩ := er.own i ds e1
  obtain ⟨okf, xf⟩ := freeze ok k3
  refine h (ρ.set i (.val (.lst ds))) σ (frozen S p) H S0 H0 K En ok0 okf (freeze_ext b k5 ok0) ⟨by rw [List.length_set]; exact er.len, fun j d e => ?_, fun j ds' e => ?_, fun j k ds' es' a q1 q2 q3 q4 => ?_, fun j c fs e => ?_, fun j k c c' fs fs' q1 q2 => ?_⟩ (k.after xf) hw
  · by_cases hj : i = j
    · subst hj
      by_cases hl : i < ρ.length
      · rw [List.getElem?_set_self hl] at e
        cases e
        exact ⟨_, k1, .lst k2 frozen_same (k4.ext ok xf)⟩
      · rw [List.getElem?_eq_none (by simpa using hl)] at e; cases e
    · rw [List.getElem?_set_ne hj] at e
      obtain ⟨v, h1, h2⟩ := er.val j d e
      exact ⟨v, h1, h2.ext ok xf⟩
  · have nj : i ≠ j := fun hj => by
      subst hj
      by_cases hl : i < ρ.length
      · rw [List.getElem?_set_self hl] at e; cases e
      · rw [List.getElem?_eq_none (by simpa using hl)] at e; cases e
    rw [List.getElem?_set_ne nj] at e
    obtain ⟨a, zs, h1, h2, h3, h4, h5⟩ := er.own j ds' e
    have na : a ≠ p := fun z => nj (er.dis i j ds ds' p e1 e k1 (by rw [← z]; exact h1))
    exact ⟨a, zs, h1, h2, (frozen_ne na).trans h3, h4.ext ok xf, h5⟩
  · have back : ∀ {m : Nat} {fs : List D}, (ρ.set i (.val (.lst ds)))[m]? = some (.own fs) → ρ[m]? = some (.own fs) := fun {m fs} e => by
      by_cases hj : i = m
      · subst hj
        by_cases hl : i < ρ.length
        · rw [List.getElem?_set_self hl] at e; cases e
        · rw [List.getElem?_eq_none (by simpa using hl)] at e; cases e
      · rw [List.getElem?_set_ne hj] at e; exact e
    exact er.dis j k _ _ a (back q1) (back q2) q3 q4
  · obtain ⟨n, z⟩ := set_back (by simp) e
    obtain ⟨a, dx, vs, h1, h2, h3, h4, h5⟩ := er.obj j c fs z
    have na : a ≠ p := fun z => by rw [z, k2] at h2; cases h2
    exact ⟨a, dx, vs, h1, h2, (frozen_ne na).trans h3, h4.ext ok xf, h5⟩
  · exact er.odis j k c c' fs fs' (set_back (by simp) q1).2 (set_back (by simp) q2).2
theorem dss_freeze {i : Nat} (h : DSs T X W sts t w) : DSs T X W sts t (wFreeze i w) := ⟨h.pss, im_freeze h.im⟩
theorem ds_freeze {i : Nat} (h : DS T X W st t w) : DS T X W st t (wFreeze i w) := ⟨h.ps, im_freeze h.im⟩
end
end PyD

/-! PyD: own errors whose __init__ hands its words to super and keeps them. -/
namespace PyD
namespace Er
open PySem PySem.W PySem.Calls PyProof.Rows PySem.PX
abbrev veB : List Value := [.type "ValueError", .type "Exception", .type "BaseException", .type "object"]
/-- what is told of the class at C, its __init__ at fI, its class cell, its code, all for words as_ -/
structure Cl (prog : Program) (K : Frag) (C fI : Addr) (as_ : List Str) : Prop where
  ini : excInitIn K C veB "ValueError.__new__" = true
  cls : ∃ cd, clsIn K C = some cd ∧ refsVE cd.mro = true ∧ cd.hasDict = true ∧ alongIn K "__init__" ((cd.mro.dropWhile (· != .ref C)).drop 1) = some (some (.builtin "ValueError.__init__"))
  sa : findIn K (.ref C) "__setattr__" = some (some (.builtin "object.__setattr__"))
  ga : findIn K (.ref C) "__getattribute__" = some (some (.builtin "BaseException.__getattribute__"))
  gg : findIn K (.ref C) "__getattr__" = some none
  no : ∀ a ∈ as_, findIn K (.ref C) a = some none
  iC : findIn K (.ref C) "__init__" = some (some (.ref fI))
  tF : typeIn K (.ref fI) = some (.type "function")
  kp : keepIn K (.ref C) = true
  ex : subIn K (.ref C) (.type "BaseException") = some true
  ve : subIn K (.ref C) (.type "ValueError") = some true
  ty : typeIn K (.ref C) = some (.type "type")
  hd : hasDictIn K C = true
  me : mroIn K C (.ref C) = some true
  tp : nsIn K cStatics "thirdparty.any" = some none
  sup : nsIn K mainGlobals "super" = some none
  nsup : (prog.main.scope.names.lookup ("super" : Str)).isSome = false
/-- the text of __init__(self, a) -/
def iA (p0 : Pos) : List (Str × Pos) → Arguments := fun as_ => { posonlyargs := [], args := { arg := "self", annotation := none, pos := p0 } :: as_.map fun a => { arg := a.1, annotation := none, pos := a.2 }, vararg := none, kwonlyargs := [], kw_defaults := [], kwarg := none, defaults := [] }
/-- how the words are handed over -/
inductive Form : List Str → List Value → List Value → List (Str × Value) → Prop where
  | pos (as_ : List Str) (us : List Value) : Form as_ us us []
  | kw1 (a : Str) (v : Value) : Form [a] [v] [] [(a, v)]
  | kw2 (a b : Str) (v u : Value) : Form [a, b] [v, u] [] [(a, v), (b, u)]
  | kwr (a b : Str) (v u : Value) : Form [a, b] [v, u] [] [(b, u), (a, v)]
/-- the function object of __init__, its cell and its code -/
structure Fn (prog : Program) (K : Frag) (C fI : Addr) (as_ : List Str) (qual : Str) (params : Arguments) (body : List Stmt) (scope : Scope) : Prop where
  ex : ∃ (oc : Value) (od : Option Addr) (doc pm : Value) (an : Option Addr) (ccd cc : Addr) (ct : Value) (osl : Array (Option Value)) (o1 o2 : Obj) (vs : Array Value) (file : Str) (tf : Tok),
    K.lookup fI = some ⟨oc, od, .func (ksFn "__init__" qual params body scope .none .none doc pm an (.ref ccd) ct cc), osl⟩ ∧ codeIn K (.ref ccd) qual = true ∧ K.lookup ccd = some o1 ∧ o1.data = .fields vs ∧ vs[2]? = some (.str file tf) ∧
      ((prog.main.file : Str) == file) = true ∧ K.lookup cc = some o2 ∧ o2.data = .cell (some (.ref C)) ∧
      ∀ (s : Shared) (x : Addr) (us ps : List Value) (kw : List (Str × Value)), us.length = as_.length → Form as_ us ps kw → BindsTo s (ksFn "__init__" qual params body scope .none .none doc pm an (.ref ccd) ct cc) ⟨.ref x :: ps, kw⟩ (("self", .ref x) :: as_.zip us)
/-! #### an own error made with keywords, too: __new__ drops them -/
section
variable {M : Model} {A : Around} {E : Value → Shared → Prop} {h : Heap} {g : Array GenState} {d : Drawn} {t : Nat} {os : OsState}
variable {n1 n2 : Str} {C N : Addr} {bs bm bmB : List Value} {hdct : Bool} {sn : List Str} {sub : List Value} {ab : Bool} {col : Option Bool} {dd : Option Addr} {k0 k1 k2 k3 k5 : Option Value} {B nI iI : String} {kw : List (Str × Value)}
theorem check_newK (F : ExcBaseFacts B nI iI bmB) (hT : ∀ Y : String, bm.contains (.type Y) = bmB.contains (.type Y)) {vs : List Value} {Q : Unit → Shared → Prop}
    (hC : h.get? C = some (excClassObj n1 n2 C N bs bm hdct sn sub ab col dd k0 k1 k2 k3 k5 nI)) (hq : Q () ⟨h, g, d, t, os⟩) : wpAny M A (checkBuiltinCall nI ⟨.ref C :: vs, kw⟩) Q E ⟨h, g, d, t, os⟩ := by
  have hb : (Value.ref C :: bm).contains (.type B) = true := by rw [List.contains_cons, hT, F.hasB, Bool.or_true]
  have hn := F.noStar
  simp only [checkBuiltinCall, F.newKind, F.newSplit, F.newRow]
  repeat (first | refine wpAny_loadPart_at hC ?_ | (refine wpAny_isSubtype_exc hC ?_; rw [hb]) | refine wpAny_staticBase_exc hC ?_ | refine wpAny_madeBy_exc hC ?_ | simp only [bne_self_eq_false, Bool.false_eq_true, if_false] | wp_step)
  exact hq
end
section
variable {prog : Program} {w : World} {A : Around} {E : Value → Shared → Prop} {R : Result → Shared → Prop} {h : Heap} {g : Array GenState} {d : Drawn} {t : Nat} {os : OsState}
variable {n1 n2 : Str} {C N : Addr} {bs bm bmB : List Value} {hdct : Bool} {sn : List Str} {sub : List Value} {ab : Bool} {col : Option Bool} {dd : Option Addr} {k0 k1 k2 k3 k5 : Option Value} {B nI iI : String} {kw : List (Str × Value)}
theorem newK (F : ExcBaseFacts B nI iI bmB) (hT : ∀ Y : String, bm.contains (.type Y) = bmB.contains (.type Y)) {vs : List Value}
    (hC : h.get? C = some (excClassObj n1 n2 C N bs bm hdct sn sub ab col dd k0 k1 k2 k3 k5 nI))
    (hq : R (.ok (.ret (.ref (h.objs.size + 1)))) ⟨(h.push { cls := .type "tuple", data := .seq vs.toArray }).push
      { cls := .ref C, data := .fields #[.ref h.objs.size, .none, .none, .none, .bool false, .none] }, g, d, t, os⟩) (hz : vs.length ≤ sizeLine) :
    codeAny (model prog w) A (.builtin nI ⟨.ref C :: vs, kw⟩) R ⟨h, g, d, t, os⟩ := by
  have he := F.ends
  have b1 : (Value.ref C :: bm).contains (.type B) = true := by rw [List.contains_cons, hT, F.hasB, Bool.or_true]
  have b2 : (Value.ref C :: bm).contains (.type "AttributeError") = false := by rw [List.contains_cons, hT, F.noAttr]; rfl
  have b3 : (Value.ref C :: bm).contains (.type "NameError") = false := by rw [List.contains_cons, hT, F.noName]; rfl
  refine codeAny_builtinAt F.entry ?_
  unfold Builtin.«BaseException.__new__»
  refine PySem.wpAt_bind ?_
  show PySem.wpAt _ _ _ (stack >>= _) _ _ _
  refine PySem.wpAt_bind (PySem.wpAt_stack fun p below => PySem.wpAt_of_wpAny ?_)
  wp_walk
  refine PySem.wpAt_of_wpAny ?_
  rw [F.owner]
  repeat (first | with_reducible refine wpAny_madeHere_exc F.canon hC ?_ | with_reducible refine wpAny_loadPart_at hC ?_ | (with_reducible refine wpAny_isSubtype_exc hC ?_; first | rw [b1] | rw [b2] | rw [b3]) | wp_step)
  show R _ _
  rw [Heap.size_push]
  exact hq
theorem type_callK (F : ExcBaseFacts B nI iI bmB) (hT : ∀ Y : String, bm.contains (.type Y) = bmB.contains (.type Y)) {vs : List Value} {fI : Addr} {Q : Fin → Shared → Prop}
    (hC : h.get? C = some (excClassObj n1 n2 C N bs bm hdct sn sub ab col dd k0 k1 k2 k3 k5 nI))
    (hi : W.Looks (model prog w) h (typeLookup (.ref C) "__init__") (some (.ref fI))) (hb : ∀ self, W.Looks (model prog w) h (bindSpecial (.ref fI) self) (.ref fI, [self])) (hz : vs.length ≤ sizeLine)
    (hq : codeAny (model prog w) A (.call (.ref fI) ⟨.ref (h.objs.size + 1) :: vs, kw⟩)
      (fun r s' => match r with | .ok (.ret v) => v = .none ∧ Q (.done (.ret (.ref (h.objs.size + 1)))) s' | .ok _ => False | .error e => E e s')
      ⟨(h.push (W.kdv_tup vs)).push (excO C h.objs.size), g, d, t, os⟩) :
    wpAny (model prog w) A (Builtin.«type.__call__» ⟨.ref C :: vs, kw⟩) Q E ⟨h, g, d, t, os⟩ := by
  repeat (first | with_reducible refine wpAny_loadPart_at hC ?_ | with_reducible refine wpAny_madeBy_exc hC ?_ | wp_step)
  refine codeAny_call_builtin_code (Code.quiet_builtin _ F.quiet) (check_newK F hT hC ?_)
  refine newK F hT hC ?_ hz
  show wpAny _ _ _ _ _ _
  have kp : ∀ b o, h.get? b = some o → ((h.push (W.kdv_tup vs)).push (excO C h.objs.size)).get? b = some o := fun b o e => Heap.get?_push_of_some _ (Heap.get?_push_of_some _ e)
  have hC2 := kp _ _ hC
  have hg : ((h.push (W.kdv_tup vs)).push (excO C h.objs.size)).get? (h.objs.size + 1) = some (excO C h.objs.size) := by heap_get
  have hcc : (Value.ref C :: bm).contains (.ref C) = true := by simp
  have i1 := hi.keeps kp
  have b1 := (hb (.ref (h.objs.size + 1))).keeps kp
  unfold isInstance
  repeat (first | with_reducible refine wpAny_loadPart_at hg ?_ | (with_reducible refine wpAny_isSubtype_exc hC2 ?_; rw [hcc]) | wp_step)
  show wpAny _ _ (typeLookup (.ref C) _) _ _ _
  refine i1.at ?_
  refine wpAny_holding (wpAny_bind (b1.at ?_))
  refine wpAny_bind (wpAny_call (codeAny_mono hq fun r s' z => ?_))
  rcases r with e | (v | _ | _ | _) <;> first | exact z | exact z.elim | skip
  obtain ⟨rfl, z⟩ := z
  first
    | exact wpAny_pure (wpAny_pure z)
    | (wp_walk; exact z)
theorem call_ownK (F : ExcBaseFacts B nI iI bmB) (hT : ∀ Y : String, bm.contains (.type Y) = bmB.contains (.type Y)) {vs : List Value} {fI : Addr}
    (hC : h.get? C = some (excClassObj n1 n2 C N bs bm hdct sn sub ab col dd k0 k1 k2 k3 k5 nI))
    (hi : W.Looks (model prog w) h (typeLookup (.ref C) "__init__") (some (.ref fI))) (hb : ∀ self, W.Looks (model prog w) h (bindSpecial (.ref fI) self) (.ref fI, [self])) (hz : vs.length ≤ sizeLine)
    (hq : codeAny (model prog w) (A.under (.builtin "type.__call__" ⟨.ref C :: vs, kw⟩)) (.call (.ref fI) ⟨.ref (h.objs.size + 1) :: vs, kw⟩) (W.InitBack (h.objs.size + 1) R)
      ⟨(h.push (W.kdv_tup vs)).push (excO C h.objs.size), g, d, t, os⟩) :
    codeAny (model prog w) A (.call (.ref C) ⟨vs, kw⟩) R ⟨h, g, d, t, os⟩ := by
  have q1 := tc_lookup
  have q2 := tc_bind (.ref C)
  have hTy : (⟨h, g, d, t, os⟩ : Shared).TypeIs (.ref C) "type" := ⟨_, hC, rfl⟩
  refine codeAny_of_tree ?_
  show wpAny _ _ (callAny (.ref C) _) _ _ _
  repeat (any_goals (first | assumption | with_reducible refine wpAny_loadPart_at hC ?_ | wp_step))
  refine ⟨rfl, ?_⟩
  refine codeAny_call_builtin_at (Code.quiet_builtin _ (by decide +kernel)) entry_typeCall (wpAny_check_type_call_sub hC (type_callK F hT hC hi hb hz ?_))
  refine codeAny_mono hq fun r s' z => ?_
  rcases r with e | (v | _ | _ | _) <;> exact z
end
section
variable {prog : Program} {w : World} {A : Around} {E : Value → Shared → Prop} {R : Result → Shared → Prop} {s : Shared} {K : Frag} {C fI : Addr} {h : Heap} {g : Array GenState} {d : Drawn} {t : Nat} {os : OsState}
/-- ValueError.__init__ bound to the object at e, called -/
theorem ve_call {nm q : Str} {N : Addr} {bs bm : List Value} {hdct : Bool} {sn : List Str} {sub : List Value} {ab : Bool} {col : Option Bool} {dd : Option Addr} {k0 k1 k2 k3 k5 : Option Value} {u e t0 : Addr} {rest : List Value} {Q : Value → Shared → Prop}
    (hC : h.get? C = some (excClassObj nm q C N bs bm hdct sn sub ab col dd k0 k1 k2 k3 k5 "ValueError.__new__")) (he : h.get? e = some (excO C t0)) (hu : h.get? u = some (kxs_mw "ValueError.__init__" e)) (hz : rest.length ≤ sizeLine)
    (hq : ∀ h' t1, (∀ b o, b ≠ e → h.get? b = some o → h'.get? b = some o) → h'.get? e = some (excO C t1) → Q .none ⟨h', g, d, t, os⟩) :
    wpAny (model prog w) A (call (.ref u) rest) Q E ⟨h, g, d, t, os⟩ := by
  refine wpAny_call (codeAny_of_tree ?_)
  show wpAny _ A.in1 (callAny (.ref u) ⟨rest, []⟩) _ _ _
  simp only [callAny]
  refine wpAny_bind (wpAny_load hu ?_)
  simp only [kxs_mw, show (Value.type "method-wrapper" == Value.type "method" || Value.type "method-wrapper" == Value.type "builtin_function_or_method" || Value.type "method-wrapper" == Value.type "method-wrapper") = true by decide, if_true]
  refine KFB.if_so (by decide) ?_
  refine wpAny_bind (check_bound_init PySem.F.excBase_ValueError.toExcCallFacts hC he rfl ?_)
  refine wpAny_bind (wpAny_pure (wpAny_pure ?_))
  refine ⟨plainId_quiet PySem.F.excBase_ValueError.init.plain _, codeAny_builtin PySem.F.excBase_ValueError.initEntry ?_⟩
  exact exc_init_tree (cls := .ref C) (t0 := t0) (dv := none) (c2 := .none) (c3 := .none) (b4 := .bool false) he hz fun h' k e' _ => hq h' h.objs.size k e'

/-- super().__init__(..) in the frame at L of the function at fI, self the object at x -/
theorem sup_call {qual : Str} {params : Arguments} {body : List Stmt} {scope : Scope} {as_ : List Str} {m mb mg : Str → Option Value} {x t0 L : Addr} {p0 p1 p2 p4 p5 pa : Pos} {ex : Expr} {args : List Expr} {vals : List Value} {Q : Flow → Shared → Prop}
    {oc : Value} {od : Option Addr} {doc pm : Value} {an : Option Addr} {ccd cc : Addr} {ct : Value} {osl : Array (Option Value)} {o1 o2 : Obj} {vs : Array Value} {file : Str} {tf : Tok} {ps : List Arg}
    (T : Cl prog K C fI as_) (hpar : params = { posonlyargs := [], args := { arg := "self", annotation := none, pos := pa } :: ps, vararg := none, kwonlyargs := [], kw_defaults := [], kwarg := none, defaults := [] })
    (lk : K.lookup fI = some ⟨oc, od, .func (ksFn "__init__" qual params body scope .none .none doc pm an (.ref ccd) ct cc), osl⟩) (lc : K.lookup ccd = some o1) (lv : o1.data = .fields vs) (l2 : vs[2]? = some (.str file tf)) (lf : ((prog.main.file : Str) == file) = true)
    (le : K.lookup cc = some o2) (ld : o2.data = .cell (some (.ref C)))
    (X : K.In h) (gl : h.Ns mainGlobals mg) (gs : mg "super" = none) (bl : h.Ns builtinsNs mb) (bs : mb "super" = some (.type "super")) (hL : h.Ns L m) (hs : m "self" = some (.ref x)) (hx : h.get? x = some (excO C t0)) (hz : vals.length ≤ sizeLine)
    (hks : scope.names.lookup ("super" : Str) = some .globalImplicit) (hkc : scope.names.lookup ("__class__" : Str) = some .free) (hka : scope.names.lookup ("self" : Str) = some .local) (hk : scope.kind = .function)
    (hargs : ∀ h' t', h'.Ns L m → wpAny (model prog w) A (spliced (backTo p4 (starEach (ex :: args) (ksEnv qual scope L fI (.ref ccd) cc)))) (fun us s' => us = vals ∧ s' = ⟨h', g, d, t', os⟩) E ⟨h', g, d, t', os⟩)
    (hst : starEach (ex :: args) (ksEnv qual scope L fI (.ref ccd) cc) = (false, eval ex (ksEnv qual scope L fI (.ref ccd) cc)) :: starEach args (ksEnv qual scope L fI (.ref ccd) cc)) (hpl : (backTo p4 (starEach args (ksEnv qual scope L fI (.ref ccd) cc))).any (·.1) = false)
    {pl : Sem Bool} (he : eval (.Call (.Attribute (.Call (.Name "super" p0) [] [] p1) "__init__" p2) (ex :: args) [] p4) (ksEnv qual scope L fI (.ref ccd) cc) = (do
      let ov ← attributeBase (.Call (.Name "super" p0) [] [] p1) "__init__" (ksEnv qual scope L fI (.ref ccd) cc) (eval (.Call (.Name "super" p0) [] [] p1) (ksEnv qual scope L fI (.ref ccd) cc))
      standAt p2.atName
      let (f, first) ← holding [ov] (getMethod ov "__init__" pl)
      callWith p4 f first (backTo p4 (starEach (ex :: args) (ksEnv qual scope L fI (.ref ccd) cc))) []))
    (hsw : swapsWith (.Call (.Attribute (.Call (.Name "super" p0) [] [] p1) "__init__" p2) (ex :: args) [] p4) none p5.line (ksEnv qual scope L fI (.ref ccd) cc) = pure false) (hin : interactive (ksEnv qual scope L fI (.ref ccd) cc) = false)
    (hq : ∀ h' tk t1, (∀ b o, b ≠ x → h.get? b = some o → h'.get? b = some o) → h'.get? x = some (excO C t1) → Q .next ⟨h', g, d, tk, os⟩) :
    _root_.PySem.wpAt (model prog w) A (.func body (ksEnv qual scope L fI (.ref ccd) cc)) (exec (.Expr (.Call (.Attribute (.Call (.Name "super" p0) [] [] p1) "__init__" p2) (ex :: args) [] p4) p5) (ksEnv qual scope L fI (.ref ccd) cc)) Q E ⟨h, g, d, t, os⟩ := by
  obtain ⟨cd, hcd, hmro, hdct, hal⟩ := T.cls
  obtain ⟨nm, N', qn, bs', bm, hdct', sn, sub, ab, col, dd, k0, k1, k2, k3, k5, hC, hT⟩ := excInit_of X T.ini
  have hD : h.get? C = some (excClassObj nm qn C N' bs' bm hdct' sn sub ab col dd k0 k1 k2 k3 k5 "ValueError.__new__") := hC
  have I : InstAt h x (excO C t0) C none := ⟨hx, rfl, rfl, trivial⟩
  refine ks_wpAt_Expr_any (ks_wpAt_MethodCall (pl := pl) ?_ he) hin hsw
  refine ks_wpAt_super_base (env := ksEnv qual scope L fI (.ref ccd) cc) hks hkc (by decide) rfl (X _ _ lk) rfl (ar := { arg := "self", annotation := none, pos := pa }) (by rw [hpar] <;> rfl) rfl (X _ _ lc) lv l2 lf T.nsup ?_
  refine ks_loadName_global hk hks (loadGlobal_builtin (env := ksEnv qual scope L fI (.ref ccd) cc) gl gs bl bs ⟨rfl, ?_⟩)
  refine wpAny_loadName_free hk hkc rfl ⟨_, X _ _ le, ld⟩ ?_
  refine wpAny_loadName_local hk hka hL hs ?_
  refine ks_wpAny_isType_cls hD rfl ⟨rfl, ?_⟩
  refine ks_wpAny_call_super hD rfl hx rfl (fun c e => by cases e) (looks_mroIn X T.me) (fun h2 e2 k2 => ?_)
  have X2 := X.keeps k2
  have I2 : InstAt h2 x (excO C t0) C none := ⟨k2 _ _ hx, rfl, rfl, trivial⟩
  have hmr : Looks (model prog w) h2 (mroOf (.ref C)) cd.mro := fun A Q E s k q => wpAny_bind ((looks_clsIn X2 hcd) A _ E s k (wpAny_pure q))
  have hI : Looks (model prog w) h2 (isInstance (.ref x) (.type "ValueError")) true := I2.type.andThen (looks_subIn X2 T.ve)
  refine kxs_getMethod kxs_ValueError e2 (looks_opaque X2 T.tp) hmr rfl X2 hal hI (ks_ne X2 I2 hcd) (by decide) ?_
  have hL2 := hL.keeps k2
  have k3 : ∀ b o, h2.get? b = some o → (h2.push (kxs_mw "ValueError.__init__" x)).get? b = some o := fun b o e => Heap.get?_push_of_some _ e
  have hu : (h2.push (kxs_mw "ValueError.__init__" x)).get? h2.objs.size = some (kxs_mw "ValueError.__init__" x) := Heap.get?_push_at rfl rfl
  have hA := hargs (h2.push (kxs_mw "ValueError.__init__" x)) (t + 1) (hL2.keeps k3)
  show wpAny _ _ (callWith p4 (.ref h2.objs.size) [] (backTo p4 (starEach (ex :: args) (ksEnv qual scope L fI (.ref ccd) cc))) []) _ _ _
  rw [hst] at hA ⊢
  refine kxs_callWith (i := "ValueError.__init__") (x := x) (by show (false || (backTo p4 (starEach args (ksEnv qual scope L fI (.ref ccd) cc))).any (·.1)) = false; rw [hpl] <;> rfl) ?_
  refine evalArgs_plain (wpAny_mono hA (fun us s' hus => ?_) fun _ _ z => z)
  obtain ⟨rfl, rfl⟩ := hus
  refine ⟨hu, ?_⟩
  refine ve_call (k3 _ _ (k2 _ _ hD)) (k3 _ _ (k2 _ _ hx)) hu hz (fun h' t1 k4 e4 => ?_)
  exact hq h' _ t1 (fun b o hb e => k4 b o hb (k3 _ _ (k2 _ _ e))) e4
end
theorem he_of {o : Expr} {name : Str} {apos pos : Pos} {e : Expr} {args : List Expr} {env : Env} (hl : (apos.endLine == pos.line) = true) (hst : starEach (e :: args) env = (false, eval e env) :: starEach args env) (hf : methodCallForm (args.length + 1) (backTo pos (starEach (e :: args) env)) [] = true) :
    eval (.Call (.Attribute o name apos) (e :: args) [] pos) env = (do
      let ov ← attributeBase o name env (eval o env)
      standAt apos.atName
      let (f, first) ← holding [ov] (getMethod ov name (L2.plainOf o env))
      callWith pos f first (backTo pos (starEach (e :: args) env)) []) := by
  rw [arm_eval_Call]
  congr 1
  funext ov
  congr 1
  funext _
  exact L2.mcall_line (n := args.length + 1) hf hl
/-- what __init__ leaves of a fresh error at x: its own dict says m -/
structure End (h h' : Heap) (x C dx t1 : Addr) (m : Str → Option Value) : Prop where
  keep : ∀ b o, b ≠ x → h.get? b = some o → h'.get? b = some o
  obj : h'.get? x = some { cls := .ref C, dict := some dx, data := .fields #[.ref t1, .none, .none, .none, .bool false, .none] }
  dbig : h.objs.size ≤ dx
  dne : dx ≠ x
  ns : h'.Ns1 dx m
/-- a text of __init__ with one word a, two words a b -/
inductive Body : List Str → List Arg → List Stmt → Prop where
  | one (a : Str) {pa p0 p1 p2 p3 p4 p5 q1 q2 q3 q4 : Pos} (hl : (p2.endLine == p4.line) = true) : Body [a] [{ arg := a, annotation := none, pos := pa }]
      [.Expr (.Call (.Attribute (.Call (.Name "super" p0) [] [] p1) "__init__" p2) [.Name a p3] [] p4) p5, .Assign [.Attribute (.Name "self" q1) a q2] (.Name a q3) q4]
  | two (a b : Str) {pa pb p0 p1 p2 p3 p3' p4 p5 q1 q2 q3 q4 r1 r2 r3 r4 : Pos} (hl : (p2.endLine == p4.line) = true) : Body [a, b] [{ arg := a, annotation := none, pos := pa }, { arg := b, annotation := none, pos := pb }]
      [.Expr (.Call (.Attribute (.Call (.Name "super" p0) [] [] p1) "__init__" p2) [.Name a p3, .Name b p3'] [] p4) p5, .Assign [.Attribute (.Name "self" q1) a q2] (.Name a q3) q4, .Assign [.Attribute (.Name "self" r1) b r2] (.Name b r3) r4]
/-- the names of such an __init__ -/
structure Sc (scope : Scope) (as_ : List Str) : Prop where
  sup : scope.names.lookup ("super" : Str) = some .globalImplicit
  cl : scope.names.lookup ("__class__" : Str) = some .free
  self : scope.names.lookup ("self" : Str) = some .local
  loc : ∀ a ∈ as_, scope.names.lookup a = some .local
  k : scope.kind = .function
  co : scope.isCoroutine = false
  gn : scope.isGenerator = false
  cell : ∀ x ∈ scope.names, x.2 ≠ .cell
  dis : (("self" : Str) :: as_).Nodup
  dbg : ∀ a ∈ as_, (a == ("__debug__" : Str)) = false
def mapOf : List Str → List Value → Str → Option Value
  | a :: as_, v :: vs => fun y => if y = a then some v else mapOf as_ vs y
  | _, _ => fun _ => none
section
variable {prog : Program} {w : World} {A : Around} {E : Value → Shared → Prop} {R : Result → Shared → Prop} {s : Shared} {K : Frag} {C fI : Addr} {qual : Str} {scope : Scope} {mg mb : Str → Option Value} {x t0 pa : Addr}
theorem ld {M : Model} {name : Str} {L a : Addr} {cd : Value} {cc : Addr} {m : Str → Option Value} {y : Str} {pos : Pos} {v : Value} {Q : Value → Shared → Prop} (hn : s.heap.Ns L m) (hv : m y = some v) (h : Q v s)
    (hk : scope.kind = .function) (hl : scope.names.lookup y = some .local) (hd : (y == ("__debug__" : Str)) = false) :
    wpAny M A (eval (.Name y pos) (ksEnv name scope L a cd cc)) Q E s := wpAny_Name (wpAny_loadName_local hk hl hn hv h) hd
theorem two_lookup {a b : Str} {u v z : Value} (n1 : a ≠ b) (n2 : a ≠ "self") (n3 : b ≠ "self") : [(b, v), (a, u), (("self" : Str), z)].lookup ("self" : Str) = some z ∧ [(b, v), (a, u), (("self" : Str), z)].lookup a = some u ∧ [(b, v), (a, u), (("self" : Str), z)].lookup b = some v := by
  have e1 : (("self" : Str) == b) = false := beq_false_of_ne (Ne.symm n3)
  have e2 : (("self" : Str) == a) = false := beq_false_of_ne (Ne.symm n2)
  have e3 : (a == b) = false := beq_false_of_ne n1
  simp [List.lookup, e1, e2, e3]
theorem one_lookup {a : Str} {u z : Value} (n2 : a ≠ "self") : [(a, u), (("self" : Str), z)].lookup ("self" : Str) = some z ∧ [(a, u), (("self" : Str), z)].lookup a = some u := by
  have e2 : (("self" : Str) == a) = false := beq_false_of_ne (Ne.symm n2)
  simp [List.lookup, e2]
/-- self.a = a, the first one -/
theorem put1 {K : Frag} {as_ : List Str} (T : Cl prog K C fI as_) {L ccd cc : Addr} {m : Str → Option Value} {a : Str} {v : Value} {q1 q2 q3 q4 : Pos} {rest : List Stmt} {Q : Flow → Shared → Prop} (S : Sc scope as_) (ha : a ∈ as_) (X : K.In s.heap) (hn : s.heap.Ns L m) (hs : m "self" = some (.ref x)) (hv : m a = some v)
    (hx : s.heap.get? x = some (excO C t0)) (hsw : swapsWith (.Name a q3) (some (.Attribute (.Name "self" q1) a q2)) q4.line (ksEnv qual scope L fI (.ref ccd) cc) = pure false)
    (hq : ∀ h' tk dx, (∀ b o, b ≠ x → s.heap.get? b = some o → h'.get? b = some o) → s.heap.objs.size ≤ dx → dx ≠ x → h'.get? x = some { cls := .ref C, dict := some dx, data := .fields #[.ref t0, .none, .none, .none, .bool false, .none] } → h'.Ns1 dx (fun y => if y = a then some v else none) →
      wpAny (model prog w) A (execs rest (ksEnv qual scope L fI (.ref ccd) cc)) Q E { s with heap := h', toks := tk }) :
    wpAny (model prog w) A (execs (.Assign [.Attribute (.Name "self" q1) a q2] (.Name a q3) q4 :: rest) (ksEnv qual scope L fI (.ref ccd) cc)) Q E s := by
  obtain ⟨cd, hcd, hmro, hdct, _⟩ := T.cls
  refine wpAny_execs_cons (plainObj_wpAny_Assign_Attribute ?_ hsw)
  refine ld hn hv (ld hn hs ?_ S.k S.self (by decide)) S.k (S.loc a ha) (S.dbg a ha)
  refine set_plain X (ox := excO C t0) (od := none) ⟨hx, rfl, rfl, trivial⟩ T.sa ?_
  exact PX.exc_osa X hx hcd hmro hdct (T.no a ha) (fun h₃ tk₃ dx k₃ dn dne hx₃ hn₃ => hq h₃ tk₃ dx k₃ dn dne hx₃ hn₃)
/-- .. a further one -/
theorem put2 {K : Frag} {as_ : List Str} (T : Cl prog K C fI as_) {L ccd cc dx : Addr} {fv : Array Value} {m m0 : Str → Option Value} {a : Str} {v : Value} {q1 q2 q3 q4 : Pos} {nl : List Str} {rest : List Stmt} {Q : Flow → Shared → Prop} (S : Sc scope as_) (ha : a ∈ as_) (X : K.In s.heap) (hn : s.heap.Ns L m) (hs : m "self" = some (.ref x)) (hv : m a = some v)
    (hx : s.heap.get? x = some { cls := .ref C, dict := some dx, data := .fields fv }) (hns : s.heap.Ns1 dx m0) (hw : Within m0 nl) (hz : nl.length ≤ 1000) (hsw : swapsWith (.Name a q3) (some (.Attribute (.Name "self" q1) a q2)) q4.line (ksEnv qual scope L fI (.ref ccd) cc) = pure false)
    (hq : ∀ h' tk, (∀ b o, b ≠ dx → s.heap.get? b = some o → h'.get? b = some o) → h'.Ns1 dx (fun y => if y = a then some v else m0 y) →
      wpAny (model prog w) A (execs rest (ksEnv qual scope L fI (.ref ccd) cc)) Q E { s with heap := h', toks := tk }) :
    wpAny (model prog w) A (execs (.Assign [.Attribute (.Name "self" q1) a q2] (.Name a q3) q4 :: rest) (ksEnv qual scope L fI (.ref ccd) cc)) Q E s := by
  obtain ⟨cd, hcd, hmro, hdct, _⟩ := T.cls
  obtain ⟨oD, esD, epD, hoD, hdD, _⟩ := hns.count hw
  refine wpAny_execs_cons (plainObj_wpAny_Assign_Attribute ?_ hsw)
  refine ld hn hv (ld hn hs ?_ S.k S.self (by decide)) S.k (S.loc a ha) (S.dbg a ha)
  refine set_plain X (ox := { cls := .ref C, dict := some dx, data := .fields fv }) (od := some oD) ⟨hx, rfl, rfl, hoD⟩ T.sa ?_
  exact PX.osa_old X hx hns hw hz hcd hmro hdct (T.no a ha) (fun h₃ tk₃ k₃ hn₃ => hq h₃ tk₃ k₃ hn₃)
theorem kept_but {h h' : Heap} (X : K.In h) (hx : K.lookup x = none) (k : ∀ b o, b ≠ x → h.get? b = some o → h'.get? b = some o) : K.In h' := fun a o e =>
  k a o (fun z => by rw [z, hx] at e; cases e) (X a o e)
theorem ns_of {h h' : Heap} {L y : Addr} {m : Str → Option Value} (hn : h.Ns L m) (hne : L ≠ y) (k : ∀ b o, b ≠ y → h.get? b = some o → h'.get? b = some o) : h'.Ns L m := by
  obtain ⟨oL, es, ep, hL, r⟩ := hn
  exact ⟨oL, es, ep, k _ _ hne hL, r⟩
theorem quiet {name : Str} {L a cc : Addr} {cd : Value} (h : scope.kind = .function) : interactive (ksEnv name scope L a cd cc) = false := by
  unfold interactive
  show (scope.kind == .module && _) = false
  rw [h] <;> rfl
/-- __init__ of a fresh error of the class at C -/
theorem init_ {as_ : List Str} {params : Arguments} {body : List Stmt} {ps : List Arg} {p9 : Pos} (T : Cl prog K C fI as_) (F : Fn prog K C fI as_ qual params body scope) (hpar : params = { posonlyargs := [], args := { arg := "self", annotation := none, pos := p9 } :: ps, vararg := none, kwonlyargs := [], kw_defaults := [], kwarg := none, defaults := [] })
    (B : Body as_ ps body) (S : Sc scope as_) {us pv : List Value} {kw : List (Str × Value)} (hus : us.length = as_.length) (hfm : Form as_ us pv kw) (X : K.In s.heap) (hlim : s.heap.NoLimit) (gl : s.heap.Ns mainGlobals mg) (gs : mg "super" = none) (bl : s.heap.Ns builtinsNs mb) (bs : mb "super" = some (.type "super")) (hx : s.heap.get? x = some (excO C t0)) (hnx : K.lookup x = none) (hroom : A.depth < recursionLimit)
    (hq : ∀ h' tk dx t1, End s.heap h' x C dx t1 (mapOf as_ us) → R (.ok (.ret .none)) { s with heap := h', toks := tk }) :
    codeAny (model prog w) A (.call (.ref fI) ⟨.ref x :: pv, kw⟩) R s := by
  obtain ⟨oc, od, doc, pm, an, ccd, cc, ct, osl, o1, o2, vs, file, tf, lk, hcd, lc, lv, l2, lf, le, ld', hb⟩ := F.ex
  cases B with
  | one a hl =>
    match us, hus with
    | [v], _ =>
    have n2 : a ≠ "self" := fun e => by
      have z := S.dis
      rw [e] at z
      simp at z
    have hda := S.dbg a List.mem_cons_self
    have hla := S.loc a List.mem_cons_self
    have hz : [v].length ≤ sizeLine := by rw [sizeLine_eq]; exact (by decide : 1 ≤ 16777216)
    refine ks_codeAny_call_defAt (fd := ksFn "__init__" qual params _ scope .none .none doc pm an (.ref ccd) ct cc) (binds := [("self", .ref x), (a, v)]) hroom (X _ _ lk) rfl hlim (codeRec_of X hcd) rfl (hb s x [v] pv kw rfl hfm) S.cell
      (fun z hz => by
        rcases List.mem_cons.mp hz with rfl | hz
        · exact S.self
        · rcases List.mem_cons.mp hz with rfl | hz
          · exact hla
          · cases hz) (fun h₁ hn k => ?_) S.co S.gn S.k
    obtain ⟨e1, e2⟩ := one_lookup (u := v) (z := .ref x) n2
    have hxL : s.heap.objs.size ≠ x := Nat.ne_of_gt (Heap.lt_size hx)
    have X₁ := X.keeps k
    refine ks_wpAt_execs_cons (sup_call (vals := [v]) T hpar lk lc lv l2 lf le ld' X₁ (gl.keeps k) gs (bl.keeps k) bs hn e1 (k _ _ hx) hz S.sup S.cl S.self S.k (fun h' t' hn' => ?_) rfl rfl (he_of hl rfl rfl) rfl (quiet S.k) (fun h2 tk t1 k2 hx2 => ?_))
    · exact spliced_cons (ld hn' e2 (spliced_nil ⟨rfl, rfl⟩) S.k hla hda)
    · refine wpAt_of_wpAny ?_
      have hn2 := ns_of hn hxL k2
      refine put1 T S List.mem_cons_self (kept_but X₁ hnx k2) hn2 e1 e2 hx2 rfl (fun h3 tk3 dx k3 dn dne hx3 hn3 => ?_)
      refine wpAny_execs_nil (hq h3 tk3 dx t1 ⟨fun b o hb e => k3 b o hb (k2 b o hb (k b o e)), hx3, ?_, dne, hn3⟩)
      have z1 : s.heap.objs.size < h₁.objs.size := hn.lt
      have z2 : s.heap.objs.size < h2.objs.size := hn2.lt
      exact Nat.le_of_lt (Nat.lt_of_lt_of_le z2 dn)
  | two a b hl =>
    match us, hus with
    | [v, u], _ =>
    have n1 : a ≠ b := fun e => by
      have z := S.dis
      rw [e] at z
      simp at z
    have n2 : a ≠ "self" := fun e => by
      have z := S.dis
      rw [e] at z
      simp at z
    have n3 : b ≠ "self" := fun e => by
      have z := S.dis
      rw [e] at z
      simp at z
    have ma : a ∈ [a, b] := List.mem_cons_self
    have mb' : b ∈ [a, b] := List.mem_cons_of_mem _ List.mem_cons_self
    have hz : [v, u].length ≤ sizeLine := by rw [sizeLine_eq]; exact (by decide : 2 ≤ 16777216)
    refine ks_codeAny_call_defAt (fd := ksFn "__init__" qual params _ scope .none .none doc pm an (.ref ccd) ct cc) (binds := [("self", .ref x), (a, v), (b, u)]) hroom (X _ _ lk) rfl hlim (codeRec_of X hcd) rfl (hb s x [v, u] pv kw rfl hfm) S.cell
      (fun z hz => by
        rcases List.mem_cons.mp hz with rfl | hz
        · exact S.self
        · rcases List.mem_cons.mp hz with rfl | hz
          · exact S.loc a ma
          · rcases List.mem_cons.mp hz with rfl | hz
            · exact S.loc b mb'
            · cases hz) (fun h₁ hn k => ?_) S.co S.gn S.k
    obtain ⟨e1, e2, e3⟩ := two_lookup (u := v) (v := u) (z := .ref x) n1 n2 n3
    have hxL : s.heap.objs.size ≠ x := Nat.ne_of_gt (Heap.lt_size hx)
    have X₁ := X.keeps k
    refine ks_wpAt_execs_cons (sup_call (vals := [v, u]) T hpar lk lc lv l2 lf le ld' X₁ (gl.keeps k) gs (bl.keeps k) bs hn e1 (k _ _ hx) hz S.sup S.cl S.self S.k (fun h' t' hn' => ?_) rfl rfl (he_of hl rfl rfl) rfl (quiet S.k) (fun h2 tk t1 k2 hx2 => ?_))
    · exact spliced_cons (ld hn' e2 (spliced_cons (ld hn' e3 (spliced_nil ⟨rfl, rfl⟩) S.k (S.loc b mb') (S.dbg b mb'))) S.k (S.loc a ma) (S.dbg a ma))
    · refine wpAt_of_wpAny ?_
      have hn2 := ns_of hn hxL k2
      refine put1 T S ma (kept_but X₁ hnx k2) hn2 e1 e2 hx2 rfl (fun h3 tk3 dx k3 dn dne hx3 hn3 => ?_)
      have hn3' := ns_of hn2 hxL k3
      have z2 : s.heap.objs.size < h2.objs.size := hn2.lt
      have dL : dx ≠ s.heap.objs.size := Nat.ne_of_gt (Nat.lt_of_lt_of_le z2 dn)
      refine put2 T (nl := [a]) S mb' (kept_but (kept_but X₁ hnx k2) hnx k3) hn3' e1 e3 hx3 hn3 (Within.cons a v Within.nil) (Nat.le_of_ble_eq_true rfl) rfl (fun h4 tk4 k4 hn4 => ?_)
      refine wpAny_execs_nil (hq h4 tk4 dx t1 ⟨fun c o hc e => ?_, k4 _ _ (Ne.symm dne) hx3, Nat.le_of_lt (Nat.lt_of_lt_of_le z2 dn), dne, ?_⟩)
      · have e' := k2 c o hc (k c o e)
        exact k4 c o (Nat.ne_of_lt (Nat.lt_of_lt_of_le (Heap.lt_size e') dn)) (k3 c o hc e')
      · refine (?_ : h4.Ns1 dx (mapOf [a, b] [v, u]))
        have : (fun y => if y = b then some u else (fun y => if y = a then some v else none) y) = mapOf [a, b] [v, u] := by
          funext y
          unfold mapOf mapOf mapOf
          by_cases h1 : y = a
          · subst h1
            simp [n1]
          · simp [h1]
        rw [← this]
        exact hn4
/-- a made error -/
structure Made (h h' : Heap) (e C dx : Addr) (m : Str → Option Value) : Prop where
  keep : ∀ b o, h.get? b = some o → h'.get? b = some o
  new : h.objs.size ≤ e
  obj : ∃ oe vs, h'.get? e = some oe ∧ oe.cls = .ref C ∧ oe.dict = some dx ∧ oe.data = .fields vs ∧ vs[1]? = some .none
  dbig : h.objs.size ≤ dx
  dne : dx ≠ e
  ns : h'.Ns1 dx m
theorem made {as_ : List Str} {params : Arguments} {body : List Stmt} {ps : List Arg} {p9 : Pos} (T : Cl prog K C fI as_) (F : Fn prog K C fI as_ qual params body scope) (hpar : params = { posonlyargs := [], args := { arg := "self", annotation := none, pos := p9 } :: ps, vararg := none, kwonlyargs := [], kw_defaults := [], kwarg := none, defaults := [] })
    (B : Body as_ ps body) (S : Sc scope as_) {us pv : List Value} {kw : List (Str × Value)} (hus : us.length = as_.length) (hfm : Form as_ us pv kw) (X : K.In s.heap) (hlim : s.heap.NoLimit) (gl : s.heap.Ns mainGlobals mg) (gs : mg "super" = none) (bl : s.heap.Ns builtinsNs mb) (bs : mb "super" = some (.type "super")) (hroom : A.depth + 1 < recursionLimit)
    (hq : ∀ h' tk e dx, Made s.heap h' e C dx (mapOf as_ us) → R (.ok (.ret (.ref e))) { s with heap := h', toks := tk }) :
    codeAny (model prog w) A (.call (.ref C) ⟨pv, kw⟩) R s := by
  obtain ⟨nm, N', qn, bs', bm, hdct', sn, sub, ab, col, dd, k0, k1, k2, k3, k5, hC, hT⟩ := excInit_of X T.ini
  have hz : pv.length ≤ sizeLine := by
    cases hfm with
    | pos => rw [hus]; cases B <;> (rw [sizeLine_eq]; exact Nat.le_of_ble_eq_true rfl)
    | _ => exact Nat.zero_le _
  obtain ⟨hp, g, dr, tk, os⟩ := s
  have k : ∀ b o, hp.get? b = some o → ((hp.push (kdv_tup pv)).push (excO C hp.objs.size)).get? b = some o := fun b o e => Heap.get?_push_of_some _ (Heap.get?_push_of_some _ e)
  have hget : ((hp.push (kdv_tup pv)).push (excO C hp.objs.size)).get? (hp.objs.size + 1) = some (excO C hp.objs.size) := by heap_get
  have hnx : K.lookup (hp.objs.size + 1) = none := by
    cases e : K.lookup (hp.objs.size + 1) with
    | none => rfl
    | some o =>
      have z : hp.get? (hp.objs.size + 1) = some o := X _ _ e
      exact absurd (Nat.lt_of_succ_lt (Heap.lt_size z)) (Nat.lt_irrefl _)
  refine call_ownK PySem.F.excBase_ValueError hT hC (looks_findIn X T.iC) (fun self => bind_fn X self T.tF) hz ?_
  refine init_ (s := ⟨(hp.push (kdv_tup pv)).push (excO C hp.objs.size), g, dr, tk, os⟩) T F hpar B S hus hfm (X.keeps k) (hlim.keeps k) (gl.keeps k) gs (bl.keeps k) bs hget hnx ?_ fun h' tk' dx t1 M => ?_
  · show A.depth + 1 < recursionLimit
    exact hroom
  · have old : ∀ b o, hp.get? b = some o → h'.get? b = some o := fun b o e => M.keep b o (Nat.ne_of_lt (Nat.lt_succ_of_lt (Heap.lt_size e))) (k b o e)
    have z : hp.objs.size + 1 + 1 ≤ dx := by
      have q := M.dbig
      simpa only [Heap.size_push] using q
    exact ⟨rfl, hq h' tk' (hp.objs.size + 1) dx ⟨old, Nat.le_succ _, ⟨_, _, M.obj, rfl, rfl, rfl, rfl⟩, Nat.le_trans (Nat.le_trans (Nat.le_succ _) (Nat.le_succ _)) z, M.dne, M.ns⟩⟩
end
end Er

/-! ### raise C(..) -/
open PySem PySem.Spec PyProof.Rows L2
/-- all that is told of an own error's class -/
structure ErrT (prog : Program) (K : PySem.W.Frag) (C : Addr) (as_ : List Str) : Prop where
  ex : ∃ (fI : Addr) (qual : Str) (params : Arguments) (body : List Stmt) (scope : Scope) (ps : List Arg) (p9 : Pos), Er.Cl prog K C fI as_ ∧ Er.Fn prog K C fI as_ qual params body scope ∧
    params = { posonlyargs := [], args := { arg := "self", annotation := none, pos := p9 } :: ps, vararg := none, kwonlyargs := [], kw_defaults := [], kwarg := none, defaults := [] } ∧ Er.Body as_ ps body ∧ Er.Sc scope as_
def tMkE (C : Addr) (as_ : List Str) (ta : TA) : St → Hp → XK → Prop := fun σ H Q => ta σ H fun vs H1 => vs.length = as_.length ∧ ∀ d, H1 d = none → Q (.ref C) (some d) (upd H1 d (.xd (as_.zip vs)))
theorem relO_zip : ∀ {as_ : List Str} {vs : List V} {us : List Value}, Vals vs us → vs.length = as_.length → ∀ f : Str, RelO (List.lookup f (as_.zip vs)) (Er.mapOf as_ us f)
  | [], _, _, _, _, f => by trivial
  | a :: as_, v :: vs, u :: us, .cons r t, hl, f => by
    show RelO (List.lookup f ((a, v) :: as_.zip vs)) (if f = a then some u else Er.mapOf as_ us f)
    by_cases h : f = a
    · subst h
      rw [if_pos rfl, List.lookup_cons_self]
      exact r
    · have e : (f == a) = false := beq_false_of_ne h
      rw [if_neg h, List.lookup_cons, e]
      exact relO_zip t (by simpa using hl) f
  | _ :: _, [], _, _, hl, _ => by simp at hl
section
variable {X : Cx} {C : Addr} {as_ : List Str} {a : Expr} {es : List Expr} {ta : TA} {x : Str} {p pos : Pos} {k : Nat}
theorem pmkE (T : ErrT X.prog X.K C as_) (hr : Room k X.A) (ha : PA X (a :: es) ta) (hg : Gl X x) (hm : X.mg x = some (.ref C)) (hsup : X.mg "super" = none) (hdb : (x == ("__debug__" : Str)) = false := by decide)
    (he : starEach (a :: es) X.env = (false, eval a X.env) :: starEach es X.env := by rfl) (hpl : (backTo pos (starEach es X.env)).any (·.1) = false := by rfl) (hk1 : 1 ≤ k := by decide) :
    PMk X (.Call (.Name x p) (a :: es) [] pos) (tMkE C as_ ta) := by
  obtain ⟨fI, qual, params, body, scope, ps, p9, TC, TF, hpar, B, S⟩ := T.ex
  intro pins s σ H Q I h
  refine wpAny_Call_Name_kw (ld_glob I hg hm ?_ hdb)
  refine PySem.W.callWith_K (h₀ := X.base) I.ok.mod.kin TC.kp (thn (ha.run pos pins s σ H _ I h) fun us s1 hh => ?_) he hpl
  obtain ⟨vs, H1, I1, r1, hl, q1⟩ := hh
  refine ⟨I1.kIn, ?_⟩
  show wpAny _ _ (call (.ref C) us) _ _ _
  have hlim := I1.nolimit
  obtain ⟨mb, hb1, hb2⟩ := I1.mod.blt
  have hgl := I1.mod.glob.keeps I1.bk
  have hbl := hb1.keeps I1.bk
  obtain ⟨hp, g, dr, tk, os⟩ := s1
  refine wpAny_call (Er.made TC TF hpar B S (by rw [← r1.length]; exact hl) (.pos _ _) I1.kIn hlim hgl hsup hbl ((hb2 _ (by decide)).trans Boot.super) (by have := hr.dp; omega) fun h' tk' e d M => ?_)
  show MkP X pins σ Q (.ref e) ⟨h', g, dr, tk', os⟩
  obtain ⟨oe, fv, hoe, hc, hd, hdat, h1⟩ := M.obj
  obtain ⟨G', g1, g2⟩ := restrict h' fun b => decide (b ≠ e)
  have gk : ∀ b, b ≠ e → G'.get? b = h'.get? b := fun b hb => g1 b (decide_eq_true hb)
  have ge : G'.get? e = none := g2 e (by simp)
  have old : ∀ b o, hp.get? b = some o → G'.get? b = some o := fun b o q => (gk b (Nat.ne_of_lt (Nat.lt_of_lt_of_le (Heap.lt_size q) M.new))).trans (M.keep b o q)
  have ob : ObjOk X.prog X.w (upd H1 d (.xd (as_.zip vs))) G' d (.xd (as_.zip vs)) :=
    ⟨_, M.ns.at (fun o q => (gk d M.dne).trans q), fun f => relO_zip r1 hl f⟩
  have J : Inv X pins σ (upd H1 d (.xd (as_.zip vs))) ⟨G', g, dr, tk', os⟩ := I1.laid (t' := tk') old M.dbig ob
  refine ⟨e, oe, fv, ⟨G', g, dr, tk', os⟩, _, .ref C, some d, rfl, J, fun b o q => ?_, ge, hoe, ⟨hc, hd⟩, hdat, h1, ?_, rfl, I1.bare, raises_own TC.ex TC.ty, q1 d (I1.hok.fresh M.dbig)⟩
  · by_cases hb : b = e
    · have q' : G'.get? b = some o := q
      rw [hb, ge] at q'; cases q'
    · exact (gk b hb).symm.trans q
  · rw [upd_ne (Ne.symm M.dne)]
    exact I1.hok.fresh M.new
end
/-- raise the c-th class with these words -/
def wRaise (c : Nat) (as_ : List Str) (a : WA) : WS := fun ρ K => a ρ (fun ds n => ds.length = as_.length ∧ K.ex c (as_.zip ds) n) K.ex
section
variable {T : Tb} {X : Cx} {W : WX} {as_ : List Str} {a : Expr} {es : List Expr} {ta : TA} {wa : WA} {x : Str} {p pos pos2 : Pos} {k c : Nat}
theorem RepF.zip {S : VS} {H : Hp} : ∀ {as_ : List Str} {vs : List V} {ds : List D}, RepL T S H vs ds → RepF T S H (as_.zip vs) (as_.zip ds)
  | [], _, _, _ => .nil
  | _ :: _, _, _, .nil => .nil
  | _ :: _, _, _, .cons r t => .cons r (RepF.zip t)
theorem im_raise (h : ImpA T W ta wa) : ImpS T W (fun _ σ H => tMkE (T.cA c) as_ ta σ H fun cls d H' => W cls d σ H') (wRaise c as_ wa) := fun ρ σ S H S0 H0 K En ok0 ok b er k hw =>
  h ρ σ S H H0 _ _ _ ok er (ExW.of k.ex b) (fun ds S1 H1 vs p1 ok1 x1 r1 => by
    refine ⟨by rw [r1.length]; exact p1.1, fun d hd => ?_⟩
    exact k.ex σ c (as_.zip ds) S1 _ d (as_.zip vs) p1.2 (ok1.laid hd) ((b.trans x1).trans (ext_new ok1 hd)) upd_same (RepF.zip (r1.new ok1 hd))) hw
theorem ds_raise (hc : X.calm = true) (T' : ErrT X.prog X.K (T.cA c) as_) (hr : Room k X.A) (tk : Takes X W) (ha : DA T X W (a :: es) ta wa) (hg : Gl X x) (hm : X.mg x = some (.ref (T.cA c))) (hsup : X.mg "super" = none) (hdb : (x == ("__debug__" : Str)) = false := by decide)
    (he : starEach (a :: es) X.env = (false, eval a X.env) :: starEach es X.env := by rfl) (hpl : (backTo pos (starEach es X.env)).any (·.1) = false := by rfl) (hk1 : 1 ≤ k := by decide) :
    DS T X W (.Raise (some (.Call (.Name x p) (a :: es) [] pos)) none pos2) (fun _ σ H => tMkE (T.cA c) as_ ta σ H fun cls d H' => W cls d σ H') (wRaise c as_ wa) := ⟨ps_raise hc tk (pmkE T' hr ha.pa hg hm hsup hdb he hpl hk1), im_raise ha.im⟩
end
end PyD

/-! PyD: try .. except C as n: m = n, the error kept. -/
namespace PyD
open PySem PySem.Spec PyProof.Rows L2
theorem ExcO_ok {P : Program} {w : World} {H : Hp} {h : Heap} {a dd : Addr} {cls : Value} {oe : Obj} {vs : Array Value} (e : h.get? a = some oe) (hz : Zc cls (some dd) oe) (hd : oe.data = .fields vs) : ObjOk P w H h a (ExcO cls dd a) := by
  refine ⟨⟨oe, vs, e, hz.1, hz.2, hd⟩, ⟨oe, e⟩, fun h1 h2 ⟨o, us, e1, c1, c2, c3⟩ k => ⟨o, us, k _ e1, c1, c2, c3⟩⟩
section
variable {X : Cx} {pins : List (Addr × Obj)} {σ : L2.St} {H : Hp} {s : Shared}
/-- the error at a is tracked from here on -/
theorem heldIn (I : Inv X pins σ H s) {a dd : Addr} {cls : Value} {oe : Obj} {vs : Array Value} (ea : s.heap.get? a = some oe) (hz : Zc cls (some dd) oe) (hd : oe.data = .fields vs) (na : H a = none) (n0 : X.s_0.heap.get? a = none) (nl : a ≠ X.env.locals) (npin : ∀ p ∈ X.pn ++ pins, p.1 ≠ a) (nce : ∀ x c, X.env.cells.lookup x = some c → c ≠ a) :
    Inv (X.suite a (X.pn ++ pins)) [] σ (upd H a (ExcO cls dd a)) s := by
  have nb : ∀ b u, X.s_0.heap.get? b = some u → b ≠ a := fun b u e z => by rw [z, n0] at e; cases e
  have hk : HOk X.prog X.w (upd H a (ExcO cls dd a)) s.heap := fun b u e => by
    by_cases hb : b = a
    · subst hb
      rw [upd_same] at e
      cases e
      exact ExcO_ok ea hz hd
    · rw [upd_ne hb] at e
      exact (I.hok b u e).stay (fun _ _ _ q => q) (fun c q => by rw [upd_ne (ne_of_none q na)]; exact q) fun c xs q => by rw [upd_ne (ne_of_none q na)]; exact q
  refine ⟨I.ok.suite _ _, I.os, I.bare, ⟨I.base.keep, I.base.slot, fun b u e n hx => ?_, I.base.there, fun b xs e => ?_, fun b u v e => ?_, fun b ps e => ?_⟩, I.loc, I.cell, ?_, fun y c e => ?_, fun p hp => ?_, hk, I.len⟩
  · rw [upd_ne (nb b u e)]
    exact I.base.free b u e n hx
  · rw [upd_ne (ne_of_none (I.base.tups b xs e) na)]
    exact I.base.tups b xs e
  · rw [upd_ne (ne_of_none (I.base.frzs b u v e) na)]
    exact I.base.frzs b u v e
  · obtain ⟨more, q⟩ := I.base.tbls b ps e
    exact ⟨more, by rw [upd_ne (ne_of_none q na)]; exact q⟩
  · show upd H a (ExcO cls dd a) X.env.locals = none
    rw [upd_ne (Ne.symm nl)]
    exact I.free
  · rw [upd_ne (nce y c e)]
    exact I.freeC y c e
  · have hp' : p ∈ X.pn ++ pins := by rw [List.append_nil] at hp; exact hp
    obtain ⟨p1, p2, p3, p4, p5⟩ := I.pin p hp'
    exact ⟨p1, by rw [upd_ne (npin p hp')]; exact p2, p3, p4, p5⟩
theorem unheld {a : Addr} {pn' : List (Addr × Obj)} (I : Inv (X.suite a (X.pn ++ pins)) pn' σ H s) (ok : X.Ok) : Inv X pins σ H s :=
  ⟨ok, I.os, I.bare, I.base, I.loc, I.cell, I.free, I.freeC, fun p hp => I.pin p (List.mem_append_left _ hp), I.hok, I.len⟩
end
/-- what the clause wishes -/
def wKp (K : PySem.W.Frag) (c : Value) (i : Nat) (ts : TS) (Wout : WX) (En : Ends) : WX := fun cls d σ H =>
  ∃ b, PySem.W.exmOne K cls c = some b ∧ (b = true → ∃ dd, d = some dd ∧ ∀ a, H a = none → ts { nx := fun σ' H' => En.nx (σ'.set i none) H', rt := En.rt, bk := fun σ' H' => En.bk (σ'.set i none) H', ct := fun σ' H' => En.ct (σ'.set i none) H' } (σ.set i (some (.ref a))) (upd H a (ExcO cls dd a))) ∧
    (b = false → Wout cls d σ H)
section
variable {X : Cx} {x n : Str} {c : Value} {i : Nat} {body suite : List Stmt} {b₀ : Stmt} {np pos pos' : Pos} {tb : WX → TS} {ts : TS} {Wout : WX}
theorem ps_try_keep (hs : X.stack = X.env :: X.outer) (hf : X.env.frame = some X.env.locals) (hN : X.N.Nodup) (hi : X.N[i]? = some n) (hln : X.env.kindOf n = some .local) (hc : Names X x c) (hx0 : X.ex = []) (tk : Takes X Wout)
    (hb : ∀ (W : WX) (pn : List (Addr × Obj)) (xe : Value → Shared → Prop), Takes (X.tr pn xe) W → PassesOwn (model X.prog X.w) X.A X.env xe → PSs (X.tr pn xe) body (tb W))
    (hsu : ∀ (a : Addr) (pn : List (Addr × Obj)), PSs (X.suite a pn) (b₀ :: suite) ts) :
    PS X (.Try body [.ExceptHandler (some (.Name x np)) (some n) (b₀ :: suite) pos'] [] [] pos) (fun En σ H => tb (wKp X.K c i ts Wout En) En σ H) := by
  refine ⟨fun pins s σ H En I h => ?_⟩
  have okX := I.ok
  have frm : X.A.frames = some (X.env :: X.outer) := by rw [okX.frames, hs]
  refine wpAny_Try_except (wpAny_mono ((hb (wKp X.K c i ts Wout En) (X.pn ++ pins) (fun e s₁ => wpAny (model X.prog X.w) X.A (noteFrame e X.env) (fun _ s₂ => wpAny (model X.prog X.w) X.A (setFlight e none) (fun _ s₃ =>
    wpAny (model X.prog X.w) X.A (handleBy e X.env [.ExceptHandler (some (.Name x np)) (some n) (b₀ :: suite) pos']) (SP X pins En) X.xe s₃) X.xe s₂) X.xe s₁) (fun u s' air => ?_) PassesOwn.looking).run [] s σ H En (I.toTry _) h) (fun f s1 hsp => ?_) (fun e s1 he => he))
  · obtain ⟨a, B, sI, pins', σ', H', cls, d, rfl, J0, nb, up, sky, na, os, ag, b, hb1, hyes, hno⟩ := air
    have J : Inv X pins σ' H' sI := J0.ofTry okX
    show wpAny (model X.prog X.w) X.A (noteFrame (.ref a) X.env) _ _ _
    refine Sky.land Zc.steady frm hf (show Sky B (X.env :: X.outer) a (Zc cls d) X.env.locals s'.heap by rw [← hs]; exact sky) fun h3 fl3 up3 => ?_
    have J3 : Inv X pins σ' H' { s' with heap := h3 } := J.landed nb fl3.1 (up.trans up3) os ag
    obtain ⟨oe3, vs3, he3, hz3, hd3⟩ := fl3.there
    have nfr : a ∉ frs (X.env :: X.outer) := fun hm => by
      obtain ⟨_, o', e', hnf⟩ := fl3.2.2.1.mem hm
      rw [he3] at e'
      cases e'
      exact hnf _ hd3
    have nL : a ≠ X.env.locals := fun z => nfr (List.mem_filterMap.mpr ⟨X.env, List.mem_cons_self, by rw [hf, z]⟩)
    have nF : a ∉ X.fs := fun hm => by
      obtain ⟨e, he, q⟩ := List.mem_filterMap.mp hm
      exact nfr (List.mem_filterMap.mpr ⟨e, List.mem_cons_of_mem _ he, q⟩)
    have n0 : X.s_0.heap.get? a = none := by
      cases e : X.s_0.heap.get? a with
      | none => rfl
      | some u =>
        obtain ⟨u', q⟩ := J.base.there a u e (by rw [hx0]; simp)
        have z := nb a u' q (by rw [hs]; exact nfr)
        rw [fl3.2.1] at z
        cases z
    have S3 := J3.suite he3 hd3 na nL nF
    refine wpAny_handleBy_cons (codeAny_handlers_test ?_) (by intro q; cases q)
    have LT : PySem.W.Looks (model X.prog X.w) h3 (typeOf (.ref a)) cls := fun A Q E s k q => wpAny_typeOf_ref (k _ _ he3) (by rw [hz3.1]; exact q)
    have LM := PySem.W.exm_one (M := model X.prog X.w) (J3.kIn) LT hb1
    have tst : ∀ {Q : Value → Shared → Prop} {E : Value → Shared → Prop}, Q c { s' with heap := h3 } → wpAny (model X.prog X.w) (X.A.mark (some (.ref a))) (eval (.Name x np) X.env) Q E { s' with heap := h3 } := fun {Q E} q => by
      obtain ⟨hg, hdbg, hm | ⟨hm, hv, hnn⟩⟩ := hc
      · exact ld_glob (X := X.suite a ((a, oe3) :: (X.pn ++ pins))) S3 hg hm q hdbg
      · exact ld_blt (X := X.suite a ((a, oe3) :: (X.pn ++ pins))) S3 hg hm hv q hnn hdbg
    refine tst (LM.here ?_)
    cases b with
    | true =>
      obtain ⟨dd, rfl, hy⟩ := hyes rfl
      refine codeAny_handlers_suite_as (HandSPX.lands_againZ fl3 fun h4 fl4 up4 => ?_)
      have J4 : Inv X pins σ' H' { s' with heap := h4 } := J.landed nb fl4.1 ((up.trans up3).trans up4) os ag
      obtain ⟨oe4, vs4, he4, hz4, hd4⟩ := fl4.there
      have npin : ∀ p ∈ X.pn ++ pins, p.1 ≠ a := fun p hp z => by
        obtain ⟨p1, _, _, p4, _⟩ := J.pin p hp
        have q := nb p.1 p.2 p1 (by rw [hs, z]; exact nfr)
        rw [z, fl4.2.1] at q
        cases q
      have nce : ∀ y c, X.env.cells.lookup y = some c → c ≠ a := fun y c e z => by
        obtain ⟨v, oc, q1, q2⟩ := J4.cell y c e
        rw [z] at q1
        have q3 := q1.symm.trans he4
        cases q3
        rw [hd4] at q2
        cases q2
      have S4 := heldIn J4 he4 hz4 hd4 na n0 nL npin nce
      refine store_ok (X := X.suite a (X.pn ++ pins)) (v := .ref a) S4 hN hi (.inl hln) rfl (fun s5 S5 => ?_) (.inr hln)
      refine wpAny_mono ((hsu a (X.pn ++ pins)).run [] s5 _ _ _ S5 (hy a na)) (fun f s6 hsp => ?_) (fun _ _ z => False.elim z)
      have end_ : ∀ {σ6 : L2.St} {H6 : Hp} {Q : Shared → Prop}, Inv (X.suite a (X.pn ++ pins)) [] σ6 H6 s6 → (∀ s7, Inv X pins (σ6.set i none) H6 s7 → Q s7) →
          wpAny (model X.prog X.w) X.A (do bindName X.env n .none; unbindBehindTheSuite X.env n pos') (fun _ s7 => Q s7) X.xe s6 := fun {σ6 H6 Q} S6 hq => gone_ok (unheld S6 okX) hN hi hln hq
      match f, hsp with
      | .next, ⟨σ6, H6, S6, q6⟩ => exact end_ S6 fun s7 J7 => ⟨_, _, J7, q6⟩
      | .brk, ⟨σ6, H6, S6, q6⟩ => exact end_ S6 fun s7 J7 => ⟨_, _, J7, q6⟩
      | .cont, ⟨σ6, H6, S6, q6⟩ => exact end_ S6 fun s7 J7 => ⟨_, _, J7, q6⟩
      | .ret u, ⟨v6, σ6, H6, S6, r6, q6⟩ => exact end_ S6 fun s7 J7 => ⟨_, _, _, J7, r6, q6⟩
    | false =>
      show wpAny _ X.A (handleBy (.ref a) X.env []) _ _ _
      refine wpAny_handleBy_nil ?_
      obtain ⟨k1, k2, k3, oe, vs, tb0, oT, ts', he, hz, hd, h1, hr⟩ := id fl3
      unfold PySem.passOn
      refine wpAny_bind (wpAny_field he hd h1 ?_)
      rw [if_neg (show ¬ ((Value.ref tb0 == Value.none) = true) from by simp)]
      have fin : wpAny (model X.prog X.w) X.A (setFlight (.ref a) X.env.frame) (fun _ s4 => wpAny (model X.prog X.w) X.A (throw (.ref a) : Sem Flow) (SP X pins En) X.xe s4) X.xe { s' with heap := h3 } := by
        rw [hf]
        exact HandSPX.setFlight_upZ fl3 fun h4 hh4 up4 => wpAny_throw (tk _ _ ⟨a, B, sI, pins, σ', H', cls, d, rfl, J, nb, (up.trans up3).trans up4, .inr (.inr (by rw [hs]; exact hh4)), na, os, ag, hno rfl⟩)
      first
        | exact wpAny_bind (wpAny_pure (wpAny_bind fin))
        | exact wpAny_bind fin
  · match f, hsp with
    | .next, ⟨σ', H', J', q⟩ => exact wpAny_execs_nil ⟨σ', H', J'.ofTry okX, q⟩
    | .brk, ⟨σ', H', J', q⟩ => exact ⟨σ', H', J'.ofTry okX, q⟩
    | .cont, ⟨σ', H', J', q⟩ => exact ⟨σ', H', J'.ofTry okX, q⟩
    | .ret u, ⟨v, σ', H', J', r, q⟩ => exact ⟨v, σ', H', J'.ofTry okX, r, q⟩
end
end PyD

/-! PyD: a kept error: isinstance, its words; the try statement over data. -/
namespace PyD
namespace Er
open PySem PySem.Spec PySem.W PySem.Calls PyProof.Rows
/-- a class of errors whose instances are asked after -/
structure Ask (K : Frag) (C : Addr) : Prop where
  ga : findIn K (.ref C) "__getattribute__" = some (some (.builtin "BaseException.__getattribute__"))
  gg : findIn K (.ref C) "__getattr__" = some none
  ex : subIn K (.ref C) (.type "BaseException") = some true
  hd : hasDictIn K C = true
  ca : findIn K (.ref C) "__class__" = some (some (.builtin "object.__class__"))
  cg : specialIn K (.builtin "object.__class__") "__get__" = some (some (.builtin "getset_descriptor.__get__"))
  ct : takesIn K (.builtin "object.__class__") = some true
  ob : mroIn K C (.type "object") = some true
section
variable {prog : Program} {w : World} {A : Around} {E : Value → Shared → Prop} {s : Shared} {K : Frag} {x C : Addr} {ox od : Obj}
theorem found_cls (T : Ask K C) : findObj K C (some od) "__class__" = some (.bind (.builtin "getset_descriptor.__get__") (.builtin "object.__class__")) := by
  obtain ⟨cd, hc, _⟩ := any_some T.hd
  unfold findObj
  simp [hc, T.ca, T.cg, T.ct]
theorem cls_of {Q : Option Value → Shared → Prop} (T : Ask K C) (X : K.In s.heap) (I : InstAt s.heap x ox C (some od)) (h : Q (some (.ref C)) { s with toks := s.toks + 1 }) : wpAny (model prog w) A (getAttr? (.ref x) "__class__") Q E s := by
  obtain ⟨hp, g, d, t, os⟩ := s
  have M0 := I.type (M := model prog w); have M1 := looks_findIn (M := model prog w) X T.ga; have M2 := looks_findIn (M := model prog w) X T.gg; have M3 := looks_find (M := model prog w) X I (found_cls (od := od) T)
  have sb : Looks (model prog w) hp (isInstance (.ref x) (.type "BaseException")) true := M0.andThen (looks_subIn X T.ex)
  have k0 : (false && onTheHeap (Value.builtin "BaseException.__getattribute__")) = false := rfl
  have k2 : (Value.builtin "BaseException.__getattribute__" == Value.builtin "object.__getattribute__") = false := by decide +kernel
  have k1 : (onTheHeap (Value.ref C) && Value.builtin "BaseException.__getattribute__" == Value.builtin "object.__getattribute__") = false := by rw [k2]; rfl
  unfold getAttr? getAttrBy? getAttrBy
  refine wpAny_bind (wpAny_mkText (wpAny_bind (wpAny_attempt (wpAny_holding (wpAny_bind (M0.at (wpAny_bind (M1.at ?_))))))))
  show wpAny _ _ (if (onTheHeap (Value.ref C) && Value.builtin "BaseException.__getattribute__" == Value.builtin "object.__getattribute__") = true then _ else _) _ _ _
  rw [k1, if_neg Bool.false_ne_true]; unfold getAttrByItsOwn hookBefore
  refine wpAny_bind ?_
  rw [if_pos (show onTheHeap (Value.ref C) = true from rfl)]
  refine M2.at (wpAny_bind (wpAny_attempt (wpAny_holding ?_)))
  unfold callGetattribute; rw [k0, if_neg Bool.false_ne_true]
  unfold boundAndCalled; rw [PySem.F.excAttr_ValueError.ga.bind (.ref x)]
  refine wpAny_bind (wpAny_pure ?_)
  show wpAny _ _ (call (.builtin "BaseException.__getattribute__") [.ref x, .str "__class__" t]) _ _ _
  refine wpAny_call (codeAny_call_builtin PySem.F.excAttr_ValueError.ga.plain PySem.F.entry_bexc_ga (@check_slot (model prog w) _ _ ⟨hp, g, d, t + 1, os⟩ "BaseException.__getattribute__" "BaseException" "__getattribute__" (.ref x) [.str "__class__" t] [] _ (by decide +kernel) (by decide +kernel) sb (PySem.F.args_bexc_ga (.ref x) (.str "__class__" t)) ?_))
  unfold Builtin.«object.__getattribute__»
  refine wpAny_bind (wpAny_of_eq (a := ((Value.ref x : Value), [Value.str "__class__" t])) (by first | rfl | (simp only [slotArgs]; rfl)) (wpAny_bind (wpAny_pure (wpAny_bind (M0.at (wpAny_bind (M3.at ?_)))))))
  show wpAny _ _ (holding [Value.builtin "object.__class__"] (call (.builtin "getset_descriptor.__get__") [.builtin "object.__class__", .ref x, .ref C]) >>= ret) _ _ _
  refine wpAny_bind (wpAny_holding (wpAny_call (class_get (s := ⟨hp, g, d, t + 1, os⟩) (ox := ox) (od := some od) X I T.ob (wpAny_pure ?_))))
  show wpAny _ _ (handedOut (.ref C)) _ _ _
  rw [handedOut_of (v := .ref C) rfl]
  first
    | exact wpAny_pure (wpAny_pure h)
    | exact wpAny_pure h
    | exact wpAny_pure (wpAny_bind (wpAny_pure (wpAny_pure h)))
theorem kitx (T : Ask K C) : KitX K (.ref x) (.ref C) (fun h => ∃ ox od, InstAt h x ox C (some od)) where
  ty := fun _ _ _ ⟨_, _, I⟩ => I.type
  it := fun _ _ X _ => by
    obtain ⟨cd, hc, _⟩ := any_some T.hd
    unfold clsIn at hc
    split at hc
    · rename_i c' d' cd' sl' ho
      intro A' Q' E' s' k q; unfold isType loadHead
      exact wpAny_bind (wpAny_loadPart (k _ _ (X _ _ ho)) (wpAny_pure q))
    · cases hc
  ne := fun h tp dd its n sl X htp => by
    obtain ⟨cd, hc, _⟩ := any_some T.hd
    refine Bool.eq_false_iff.mpr fun q => ?_
    have e : C = tp := Value.ref.inj (beq_iff_eq.mp q)
    subst e
    unfold clsIn at hc
    split at hc
    · rename_i c' d' cd' sl' ho
      cases (X _ _ ho).symm.trans htp
    · cases hc
  ca := fun X ⟨_, _, I⟩ k => cls_of T X I k
end
end Er

open PySem PySem.Spec PyProof.Rows L2
/-- isinstance(e, c), e a kept error of the class at C -/
def rIsX (K : PySem.W.Frag) (C : Addr) : List V → Hp → VK → Prop := fun xs H Q => ∃ (a d : Addr) (fs : List (Str × V)) (c : V) (u : Value) (b : Bool), xs = [.ref a, c] ∧ H a = some (ExcO (.ref C) d a) ∧ H d = some (.xd fs) ∧ ClsV c u ∧ PySem.W.kitOne K (.ref C) u = some b ∧ Q (.bl b) H
/-- isinstance(e, (c, ..)) -/
def rIsXT (K : PySem.W.Frag) (C : Addr) : List V → Hp → VK → Prop := fun xs H Q => ∃ (a d : Addr) (fs : List (Str × V)) (tp : Addr) (cs : List V) (us : List Value) (b : Bool), xs = [.ref a, .ref tp] ∧ H a = some (ExcO (.ref C) d a) ∧ H d = some (.xd fs) ∧ SqT K H tp cs ∧ Paired ClsV cs us ∧ PySem.W.kitAny K (.ref C) us = some b ∧ Q (.bl b) H
/-- isinstance(x, (c, ..)), any tuple -/
def rIsiS (K : PySem.W.Frag) : List V → Hp → VK → Prop := fun xs H Q => ∃ (x : V) (tp : Addr) (cs : List V) (t : Value) (us : List Value) (b : Bool), xs = [x, .ref tp] ∧ SqT K H tp cs ∧ Paired ClsV cs us ∧ TyX K H x t ∧ PySem.W.kitAny K t us = some b ∧ Q (.bl b) H
theorem exc_inst {X : Cx} {pins : List (Addr × Obj)} {σ : L2.St} {H : Hp} {s : Shared} {a d C : Addr} {fs : List (Str × V)} (I : Inv X pins σ H s) (h1 : H a = some (ExcO (.ref C) d a)) (h2 : H d = some (.xd fs)) :
    ∃ ox od mA, PySem.W.InstAt s.heap a ox C (some od) ∧ s.heap.Ns1 d mA ∧ s.heap.get? d = some od ∧ ∀ f, RelO (fs.lookup f) (mA f) := by
  obtain ⟨⟨oe, vs, e, c1, c2, c3⟩, _⟩ := (show ObjOk X.prog X.w H s.heap a (ExcO (.ref C) d a) from I.hok a _ h1)
  obtain ⟨mA, hns, hr⟩ := (show ObjOk X.prog X.w H s.heap d (.xd fs) from I.hok d _ h2)
  obtain ⟨od, ho, hl⟩ := lookIn_ns hns
  exact ⟨oe, od, mA, ⟨e, c1, by unfold PySem.W.notCls; rw [c3] <;> rfl, by rw [c2]; exact ho⟩, hns, ho, hr⟩
theorem call_isX {X : Cx} {C : Addr} (T : Er.Ask X.K C) : CallR X (.builtin "isinstance") (rIsX X.K C) := by
  intro pins s σ H xs us Q I r h
  obtain ⟨a, d, fs, c, u, b, rfl, h1, h2, k, e, q⟩ := h
  obtain ⟨u1, u2, rfl, r1, r2⟩ := vals2 r
  cases (show u1 = Value.ref a from r1)
  have e2 := k.eq r2
  subst e2
  obtain ⟨ox, od, mA, J, _⟩ := exc_inst I h1 h2
  exact PySem.W.kia_one (Er.kitx T) I.kIn ⟨ox, od, J⟩ e (fun z => nomatch z) fun tk => ⟨.bl b, H, I.tok tk, rfl, q⟩
theorem call_isXT {X : Cx} {C : Addr} (T : Er.Ask X.K C) : CallR X (.builtin "isinstance") (rIsXT X.K C) := by
  intro pins s σ H xs us Q I r h
  obtain ⟨a, d, fs, tp, cs, ws, b, rfl, h1, h2, hT, k, e, q⟩ := h
  obtain ⟨u1, u2, rfl, r1, r2⟩ := vals2 r
  cases (show u1 = Value.ref a from r1)
  cases (show u2 = Value.ref tp from r2)
  obtain ⟨ox, od, mA, J, _⟩ := exc_inst I h1 h2
  obtain ⟨its, rv, ⟨o, k1, k2, n, k3⟩, _⟩ := I.tuple hT
  have e3 := ClsV.all k rv
  subst e3
  obtain ⟨oc, od', dt, sl⟩ := o
  simp only at k2 k3
  subst k2 k3
  exact PySem.W.kia_tup (Er.kitx T) I.kIn ⟨ox, od, J⟩ k1 e (fun z => nomatch z) fun tk => ⟨.bl b, H, I.tok tk, rfl, q⟩
theorem call_isiS {X : Cx} : CallR X (.builtin "isinstance") (rIsiS X.K) := by
  intro pins s σ H xs us Q I r h
  obtain ⟨x, tp, cs, t, ws, b, rfl, hT, k, ty, e, q⟩ := h
  obtain ⟨u1, u2, rfl, r1, r2⟩ := vals2 r
  cases (show u2 = Value.ref tp from r2)
  obtain ⟨P, Z, p, hx⟩ := kit_of I r1 ty
  obtain ⟨its, rv, ⟨o, k1, k2, n, k3⟩, _⟩ := I.tuple hT
  have e3 := ClsV.all k rv
  subst e3
  obtain ⟨oc, od', dt, sl⟩ := o
  simp only at k2 k3
  subst k2 k3
  exact PySem.W.kia_tup Z I.kIn p k1 e hx fun tk => ⟨.bl b, H, I.tok tk, rfl, q⟩
/-- e.f, e a kept error -/
def tXfld (T : Tb) (f : Str) (te : TE) : TE := fun σ H Q => te σ H fun x H1 => ∃ (a d : Addr) (c : Nat) (fs : List (Str × V)) (v : V), x = .ref a ∧ H1 a = some (ExcO (.ref (T.cA c)) d a) ∧ H1 d = some (.xd fs) ∧ fs.lookup f = some v ∧
  (Er.Ask T.K (T.cA c) ∧ PySem.W.findIn T.K (.ref (T.cA c)) f = some none) ∧ Q v H1
theorem pe_xfld {X : Cx} {T : Tb} {f : Str} {e : Expr} {te : TE} {pos : Pos} (hK : X.K = T.K) (he : PE X e te) (hb : attributeBase e f X.env (eval e X.env) = eval e X.env := by rfl) : PE X (.Attribute e f pos) (tXfld T f te) := by
  refine ⟨fun pins s σ H Q I h => ?_⟩
  refine attr_of hb (thn (he.run pins s σ H _ I h) fun u s1 ⟨x, H1, I1, rx, a, d, c, fs, v, ex, h1, h2, l, ⟨T1, hn⟩, q⟩ => ?_)
  subst ex
  obtain rfl : u = Value.ref a := rx
  rw [← hK] at T1 hn
  obtain ⟨ox, od, mA, J, hns, ho, hr⟩ := exc_inst I1 h1 h2
  obtain ⟨od', ho', hl⟩ := lookIn_ns hns
  have eo : od' = od := Option.some.inj (ho'.symm.trans ho)
  subst eo
  obtain ⟨u, hu, ru⟩ := RelO.some_of (v := v) (o := mA f) (by rw [← l]; exact hr f)
  exact HandSPX.exc_get I1.kIn J T1.ga T1.gg T1.ex (PySem.W.findObj_own T1.hd hn rfl (by rw [hl, hu])) (handed_of ru) ⟨v, H1, I1.tok _, ru, q⟩

/-! ### over data -/
/-- what is told of the first n classes, all of errors: which is a kind of which -/
structure ErrTab (T : Tb) (n : Nat) (sub : Nat → Nat → Bool) : Prop where
  ask : ∀ c, c < n → Er.Ask T.K (T.cA c)
  kit : ∀ c d, c < n → d < n → PySem.W.kitOne T.K (.ref (T.cA c)) (.ref (T.cA d)) = some (sub c d)
def clss? : List D → Option (List Nat)
  | [] => some []
  | .cls i :: ds => (clss? ds).map (i :: ·)
  | _ :: _ => none
def tys? : List D → Option (List String)
  | [] => some []
  | .ty i :: ds => (tys? ds).map (i :: ·)
  | _ :: _ => none
def kitBs (m : String) : List String → Option Bool
  | [] => some false
  | n :: ns => match kitB m n with
    | some true => some true
    | some false => kitBs m ns
    | none => none
def isiTD : FA := fun ds p => match ds with
  | [x, .tup l] => ∃ m ns b, tyName x = some m ∧ tys? l = some ns ∧ kitBs m ns = some b ∧ p (.bl b)
  | _ => False
def isiXD (n : Nat) (sub : Nat → Nat → Bool) : FA := fun ds p => match ds with
  | [.exc c _, .cls d] => c < n ∧ d < n ∧ p (.bl (sub c d))
  | [.exc c _, .tup l] => ∃ cs, clss? l = some cs ∧ c < n ∧ (∀ d ∈ cs, d < n) ∧ p (.bl (cs.any (sub c)))
  | _ => False
section
variable {T : Tb} {X : Cx} {S : VS} {H : Hp} {n : Nat} {sub : Nat → Nat → Bool}
theorem RepL.clss : ∀ {vs : List V} {ds : List D} {cs : List Nat}, RepL T S H vs ds → clss? ds = some cs → Paired ClsV vs (cs.map fun c => Value.ref (T.cA c))
  | _, _, _, .nil, e => by cases e; exact .nil
  | _, _, cs, .cons (d := d) r t, e => by
    cases r with
    | cls i =>
      unfold clss? at e
      cases h : clss? _ with
      | none => rw [h] at e; cases e
      | some ms => rw [h] at e; cases e; exact .cons (.own _) (RepL.clss t h)
    | _ => cases e
theorem RepL.tys : ∀ {vs : List V} {ds : List D} {cs : List String}, RepL T S H vs ds → tys? ds = some cs → Paired ClsV vs (cs.map Value.type)
  | _, _, _, .nil, e => by cases e; exact .nil
  | _, _, cs, .cons (d := d) r t, e => by
    cases r with
    | ty i =>
      unfold tys? at e
      cases h : tys? _ with
      | none => rw [h] at e; cases e
      | some ms => rw [h] at e; cases e; exact .cons (.ty _) (RepL.tys t h)
    | _ => cases e
theorem kitBs_ok {K : PySem.W.Frag} {m : String} : ∀ {ns : List String} {b : Bool}, kitBs m ns = some b → PySem.W.kitAny K (.type m) (ns.map Value.type) = some b
  | [], b, h => by cases h; rfl
  | n :: ns, b, h => by
    unfold kitBs at h
    cases e : kitB m n with
    | none => rw [e] at h; cases h
    | some k =>
      rw [e] at h
      cases k with
      | true => cases h; exact kitAny_cons (kit_ty e) (fun z => by cases z) fun _ => rfl
      | false => exact kitAny_cons (kit_ty e) (fun _ => kitBs_ok h) fun z => by cases z
theorem kit_any (E : ErrTab T n sub) {c : Nat} (hc : c < n) : ∀ {cs : List Nat}, (∀ d ∈ cs, d < n) → PySem.W.kitAny T.K (.ref (T.cA c)) (cs.map fun d => Value.ref (T.cA d)) = some (cs.any (sub c))
  | [], _ => rfl
  | d :: cs, h => by
    have k := E.kit c d hc (h d List.mem_cons_self)
    rw [List.any_cons]
    cases e : sub c d with
    | true => exact kitAny_cons (k.trans (congrArg some e)) (fun z => by cases z) fun _ => rfl
    | false => exact kitAny_cons (k.trans (congrArg some e)) (fun _ => kit_any E hc fun x hx => h x (List.mem_cons_of_mem _ hx)) fun z => by cases z
theorem d_isiT : OpA T (rIsiS T.K) isiTD := fun S H vs ds post Q ok rv q hw => by
  unfold isiTD at hw
  split at hw
  · obtain ⟨x, y, rfl, r1, r2⟩ := rv.two
    obtain ⟨m, ns, b, h1, h2, h3, h4⟩ := hw
    cases r2 with
    | tup ht l2 => exact ⟨x, _, _, _, _, b, rfl, ht, l2.tys h2, r1.tyX h1, kitBs_ok h3, q _ S H _ h4 ok .refl (.bl _)⟩
  · exact hw.elim
theorem d_isiX (E : ErrTab T n sub) : OpA T (fun xs H Q => ∃ c, c < n ∧ (rIsX T.K (T.cA c) xs H Q ∨ rIsXT T.K (T.cA c) xs H Q)) (isiXD n sub) := fun S H vs ds post Q ok rv q hw => by
  unfold isiXD at hw
  split at hw
  · obtain ⟨x, y, rfl, r1, r2⟩ := rv.two
    obtain ⟨h1, h2, h3⟩ := hw
    cases r1 with
    | exc e1 e2 f =>
      cases r2
      exact ⟨_, h1, .inl ⟨_, _, _, _, _, _, rfl, e1, e2, .own _, E.kit _ _ h1 h2, q _ S H _ h3 ok .refl (.bl _)⟩⟩
  · obtain ⟨x, y, rfl, r1, r2⟩ := rv.two
    obtain ⟨cs, h0, h1, h2, h3⟩ := hw
    cases r1 with
    | exc e1 e2 f =>
      cases r2 with
      | tup ht l2 => exact ⟨_, h1, .inr ⟨_, _, _, _, _, _, _, rfl, e1, e2, ht, l2.clss h0, kit_any E h1 h2, q _ S H _ h3 ok .refl (.bl _)⟩⟩
  · exact hw.elim
theorem call_isX_all (hK : X.K = T.K) (E : ErrTab T n sub) : CallR X (.builtin "isinstance") (fun xs H Q => ∃ c, c < n ∧ (rIsX T.K (T.cA c) xs H Q ∨ rIsXT T.K (T.cA c) xs H Q)) := by
  intro pins s σ H xs us Q I r ⟨c, hc, h⟩
  have A : Er.Ask X.K (T.cA c) := by rw [hK]; exact E.ask c hc
  rcases h with h | h
  · exact call_isX A pins s σ H xs us Q I r (by rw [hK]; exact h)
  · exact call_isXT A pins s σ H xs us Q I r (by rw [hK]; exact h)
/-- a kept error's word -/
def excF (n : Nat) (f : Str) (no : Nat → Bool) : D → (D → Prop) → Prop := fun x p => match x with
  | .exc c fs => c < n ∧ no c = true ∧ ∃ d, fs.lookup f = some d ∧ p d
  | _ => False
theorem im_xfld {W : WX} {te : TE} {we : WE} {f : Str} {no : Nat → Bool} (E : ErrTab T n sub) (hno : ∀ c, c < n → no c = true → PySem.W.findIn T.K (.ref (T.cA c)) f = some none) (h : ImpE T W te we) : ImpE T W (tXfld T f te) (wUn (excF n f no) we) := fun ρ σ S H H0 post ep Q ok er ex q hw =>
  h ρ σ S H H0 _ ep _ ok er ex (fun x S1 H1 v p ok1 x1 r1 => by
    unfold excF at p
    split at p
    · obtain ⟨h1, h2, d, h3, h4⟩ := p
      cases r1 with
      | exc e1 e2 rf =>
        obtain ⟨v, l, rv⟩ := rf.lookup h3
        exact ⟨_, _, _, _, v, rfl, e1, e2, l, ⟨E.ask _ h1, hno _ h1 h2⟩, q d S1 H1 v h4 ok1 x1 rv⟩
    · exact p.elim) hw
theorem de_xfld {W : WX} {e : Expr} {te : TE} {we : WE} {f : Str} {no : Nat → Bool} {pos : Pos} (hK : X.K = T.K) (E : ErrTab T n sub) (hno : ∀ c, c < n → no c = true → PySem.W.findIn T.K (.ref (T.cA c)) f = some none) (h : DE T X W e te we) (hb : attributeBase e f X.env (eval e X.env) = eval e X.env := by rfl) :
    DE T X W (.Attribute e f pos) (tXfld T f te) (wUn (excF n f no) we) := ⟨pe_xfld hK h.pe hb, im_xfld E hno h.im⟩
end

/-! ### try: m = e, except C as n: k = n -/
def wTry (j k i : Nat) (ct : Nat → Option Bool) (e : WE) : WS := fun ρ K => e ρ (fun d => K.nx (ρ.set j (.val d))) (fun c ds n => i < ρ.length ∧ ∃ b, ct c = some b ∧ if b = true then K.nx ((ρ.set k (.val (.exc c ds))).set i .no) n else K.ex c ds n)
theorem EnvRel.unset {T : Tb} {H0 : Hp} {S : VS} {H : Hp} {σ : L2.St} {ρ : EnvD} (er : EnvRel T H0 S H σ ρ) (i : Nat) : EnvRel T H0 S H (σ.set i none) (ρ.set i .no) := by
  have back : ∀ {m : Nat} {s : Slot}, s ≠ .no → (ρ.set i .no)[m]? = some s → m ≠ i ∧ ρ[m]? = some s := fun {m s} hs e => by
    by_cases hm : i = m
    · subst hm
      by_cases hl : i < ρ.length
      · rw [List.getElem?_set_self hl] at e
        exact absurd (Option.some.inj e).symm hs
      · rw [List.getElem?_eq_none (by simpa using hl)] at e; cases e
    · rw [List.getElem?_set_ne hm] at e
      exact ⟨fun z => hm z.symm, e⟩
  refine ⟨by simpa using er.len, fun j d e => ?_, fun j ds e => ?_, fun j k ds es a e1 e2 e3 e4 => ?_, fun j c fs e => ?_, fun j k c c' fs fs' e1 e2 => ?_⟩
  · obtain ⟨h1, h2⟩ := back (by simp) e
    rw [List.getElem?_set_ne (Ne.symm h1)]
    exact er.val j d h2
  · obtain ⟨h1, h2⟩ := back (by simp) e
    rw [List.getElem?_set_ne (Ne.symm h1)]
    exact er.own j ds h2
  · obtain ⟨h1, h2⟩ := back (by simp) e1
    obtain ⟨h3, h4⟩ := back (by simp) e2
    rw [List.getElem?_set_ne (Ne.symm h1)] at e3
    rw [List.getElem?_set_ne (Ne.symm h3)] at e4
    exact er.dis j k ds es a h2 h4 e3 e4
  · obtain ⟨n, z⟩ := set_back (by simp) e
    rw [List.getElem?_set_ne (Ne.symm n)]
    exact er.obj j c fs z
  · exact er.odis j k c c' fs fs' (set_back (by simp) e1).2 (set_back (by simp) e2).2
theorem im_try {T : Tb} {K : PySem.W.Frag} {W : WX} {cv : Value} {i j k : Nat} {ct : Nat → Option Bool} {te : WX → TE} {we : WE} (hki : k ≠ i) (hct : ∀ c b, ct c = some b → PySem.W.exmOne K (.ref (T.cA c)) cv = some b) (h : ∀ W, ImpE T W (te W) we) :
    ImpS T W (fun En σ H => tAsg (te (wKp K cv i (tAsg (tVar i) (gName k)) W En)) (gName j) En σ H) (wTry j k i ct we) := fun ρ σ S H S0 H0 KK En ok0 ok b er kd hw => by
  refine h (wKp K cv i (tAsg (tVar i) (gName k)) W En) ρ σ S H H0 _ _ _ ok er (fun c ds S1 H1 d fs p ok1 x1 hd rf => ?_) (fun d S1 H1 v p ok1 x1 r => kd.nx _ _ S1 H1 p ⟨ok1, b.trans x1, x1.to0, (er.ext ok x1).setVal r⟩) hw
  obtain ⟨hl, b', h1, h2⟩ := p
  refine ⟨b', hct c b' h1, fun e => ?_, fun e => ?_⟩
  · subst e
    rw [if_pos rfl] at h2
    refine ⟨d, rfl, fun a ha => ⟨.ref a, List.getElem?_set_self (by rw [er.len]; exact hl), ?_⟩⟩
    have ok2 := ok1.laid (o := ExcO (.ref (T.cA c)) d a) ha
    have x2 := ext_new (o := ExcO (.ref (T.cA c)) d a) ok1 ha
    have da : d ≠ a := ne_of_none hd ha
    have rv : Rep T S1 (upd H1 a (ExcO (.ref (T.cA c)) d a)) (.ref a) (.exc c ds) := .exc upd_same (by rw [upd_ne da]; exact hd) (rf.ext ok1 x2.to0)
    have er2 := (((er.ext ok x1).ext ok1 x2).setVal (i := k) rv).unset i
    have es : ((σ.set i (some (.ref a))).set k (some (.ref a))).set i none = (σ.set k (some (.ref a))).set i none := by
      apply List.ext_getElem?
      intro m
      by_cases hm : i = m
      · subst hm
        by_cases hl2 : i < σ.length
        · rw [List.getElem?_set_self (by simpa using hl2), List.getElem?_set_self (by simpa using hl2)]
        · rw [List.getElem?_eq_none (by simpa using hl2), List.getElem?_eq_none (by simpa using hl2)]
      · rw [List.getElem?_set_ne hm, List.getElem?_set_ne hm]
        by_cases hm2 : k = m
        · subst hm2
          by_cases hl2 : k < σ.length
          · rw [List.getElem?_set_self (by simpa using hl2), List.getElem?_set_self (by simpa using hl2)]
          · rw [List.getElem?_eq_none (by simpa using hl2), List.getElem?_eq_none (by simpa using hl2)]
        · rw [List.getElem?_set_ne hm2, List.getElem?_set_ne hm, List.getElem?_set_ne hm2]
    show En.nx (((σ.set i (some (.ref a))).set k (some (.ref a))).set i none) (upd H1 a (ExcO (.ref (T.cA c)) d a))
    rw [es]
    exact kd.nx _ _ S1 _ h2 ⟨ok2, b.trans (x1.trans x2), (x1.trans x2).to0, er2⟩
  · subst e
    rw [if_neg Bool.false_ne_true] at h2
    exact kd.ex σ c ds S1 H1 d fs h2 ok1 (b.trans x1) hd rf
section
variable {T : Tb} {X : Cx} {x n m k' : Str} {cv : Value} {i j k : Nat} {np pos pos' q1 q2 q3 q4 q5 : Pos} {e : Expr} {te : WX → TE} {we : WE} {W : WX} {ct : Nat → Option Bool}
theorem ds_try (hs : X.stack = X.env :: X.outer) (hf : X.env.frame = some X.env.locals) (hN : X.N.Nodup) (hi : X.N[i]? = some n) (hln : X.env.kindOf n = some .local) (hc : Names X x cv) (hx0 : X.ex = []) (tk : Takes X W)
    (hj : X.N[j]? = some m) (hlm : Loc X.env.scope m) (hk : X.N[k]? = some k') (hlk : Loc X.env.scope k') (hki : k ≠ i) (hct : ∀ c b, ct c = some b → PySem.W.exmOne X.K (.ref (T.cA c)) cv = some b)
    (fm : X.fn m = true ∨ X.env.scope.names.lookup m = some .local) (fk : X.fn k' = true ∨ X.env.scope.names.lookup k' = some .local) (hdb : (n == ("__debug__" : Str)) = false) (hcd : (n == ("__classdict__" : Str)) = false) (hvn : Vis X.env.scope n)
    (hsw : swapsWith e (some (.Name m q1)) q2.line X.env = pure false) (hsw2 : swapsWith (.Name n q3) (some (.Name k' q4)) q5.line X.env = pure false)
    (hb : ∀ (W : WX) (pn : List (Addr × Obj)) (xe : Value → Shared → Prop), Takes (X.tr pn xe) W → PE (X.tr pn xe) e (te W)) (him : ∀ W, ImpE T W (te W) we) :
    DS T X W (.Try [.Assign [.Name m q1] e q2] [.ExceptHandler (some (.Name x np)) (some n) [.Assign [.Name k' q4] (.Name n q3) q5] pos'] [] [] pos) (fun En σ H => tAsg (te (wKp X.K cv i (tAsg (tVar i) (gName k)) W En)) (gName j) En σ H) (wTry j k i ct we) :=
  ⟨ps_try_keep (tb := fun W => tAsg (te W) (gName j)) (ts := tAsg (tVar i) (gName k)) hs hf hN hi hln hc hx0 tk (fun W pn xe tk' _ => pss_one (ps_set hN hj hlm (hb W pn xe tk') hsw fm)) (fun a pn => pss_one (ps_set hN hk hlk (pe_var hi hvn hdb hcd) hsw2 fk)),
   im_try hki hct him⟩
end
end PyD

/-! PyD: f(lambda: e), f(lambda a=0: e): a def that calls what it got. -/
namespace PyD
namespace La
open PySem PySem.Spec PySem.W PySem.Calls PyProof.Rows
/-- a lambda's function object, of these defaults -/
abbrev fnL (qual : Str) (params : Arguments) (body : Expr) (scope : Scope) (cl : List (Str × Addr)) (dV pm cdv ct : Value) : FuncData :=
  { name := "<lambda>", qualname := qual, params, body := .expr body, scope, globals := mainGlobals, closure := cl, defaults := dV, kwdefaults := .none, doc := .none, pyModule := pm, annotations := none, code := cdv, closureTuple := ct, builtins := builtinsNs }
abbrev obL (qual : Str) (params : Arguments) (body : Expr) (scope : Scope) (cl : List (Str × Addr)) (dV pm cdv ct : Value) : Obj := { cls := .type "function", data := .func (fnL qual params body scope cl dV pm cdv ct) }
section
variable {M : Model} {A : Around} {E : Value → Shared → Prop} {s : Shared} {qual : Str} {params : Arguments} {body : Expr} {scope : Scope} {env : Env} {c P : Addr} {ps : Array Value} {pos : Pos} {fl : Nat} {mg : Str → Option Value}
  {clos : List (Str × Addr)} {Q : Value → Shared → Prop} {dV : Value}
/-- the end of its making: its code object is new -/
theorem tail_new (hcl : closureFor scope env = pure clos) (hge : env.globals = mainGlobals) (hg : s.heap.Ns mainGlobals mg) (hcode : env.code = .ref c) (C : CodeHd s.heap c P) (hP : s.heap.get? P = some (tabObj ps)) (ht : TriplesOk ps.toList)
    (hnf : codeAmong pos ps.toList = none) (hgP : mainGlobals ≠ P) (hb : s.heap.BuiltinsAt mg P)
    (h : ∀ c' ctv h' tk, Heap.ExtBut P s.heap h' → s.heap.objs.size ≤ c' → c' < h'.objs.size → h'.CodeRec (.ref c') qual → h'.get? P = some (tabObj (ps ++ #[rawInt pos.line, rawInt pos.col, .ref c'])) →
      Q (.ref h'.objs.size) { s with heap := h'.push (obL qual params body scope clos dV ((mg "__name__").getD .none) (.ref c') ctv), toks := tk }) :
    wpAny M A (makeTail "<lambda>" qual params (.expr body) scope env dV .none none pos fl) Q E s := by
  obtain ⟨bm, ob, b1, b2, _, b3, b4, b5, b6, b7⟩ := hb
  unfold makeTail; rw [hcl, hge]
  refine wpAny_bind (wpAny_pure ?_)
  cases clos with
  | nil =>
    simp only [List.isEmpty_nil, if_true]
    refine wpAny_bind (wpAny_pure (wpAny_bind (wpAny_functionCodeX hcode (C.code hP ht) (C.tab hP) hnf fun c' h' tk hx hge' hlt _ hrec htb _ => ?_)))
    have hg' := hg.extBut hx hgP
    exact wpAny_bind (wpAny_builtinsFor hg' b1 b2 (hx _ _ b3 b4) b5 b6 b7 (wpAny_bind (wpAny_nsGet hg' (wpAny_bind (wpAny_pure (wpAny_newObj_type (h c' .none h' tk hx hge' hlt hrec htb.2) (by size_fits)))))))
  | cons q r =>
    simp only [List.isEmpty_cons, Bool.false_eq_true, if_false]
    have up : ∀ {oT : Obj} b o, s.heap.get? b = some o → (s.heap.push oT).get? b = some o := fun {oT} b o e => Heap.get?_push_of_some _ e
    refine wpAny_bind (wpAny_newTextTuple (wpAny_bind (wpAny_functionCodeX hcode ((C.keeps up).code (up _ _ hP) ht) ((C.keeps up).tab (up _ _ hP)) hnf fun c' h' tk hx hge' hlt _ hrec htb _ => ?_)))
    have hg' := (hg.push _).extBut hx hgP
    have hx' : Heap.ExtBut P s.heap h' := fun b o hb' e => hx b o hb' (up _ _ e)
    have hsz : s.heap.objs.size ≤ c' := Nat.le_trans (by rw [Heap.size_push]; omega) hge'
    exact wpAny_bind (wpAny_builtinsFor hg' b1 b2 (hx' _ _ b3 b4) b5 b6 b7 (wpAny_bind (wpAny_nsGet hg' (wpAny_bind (wpAny_pure (wpAny_newObj_type (h c' _ h' tk hx' hsz hlt hrec htb.2) (by size_fits)))))))
/-- .. its code object stands in the table -/
theorem tail_hit {cv : Value} (hcl : closureFor scope env = pure clos) (hge : env.globals = mainGlobals) (hg : s.heap.Ns mainGlobals mg) (hcode : env.code = .ref c) (C : CodeHd s.heap c P) (hP : s.heap.get? P = some (tabObj ps)) (ht : TriplesOk ps.toList)
    (hf : codeAmong pos ps.toList = some cv) (hb : s.heap.BuiltinsAt mg P)
    (h : ∀ (ctv : Value) (h' : Heap) (tk : Tok), (∀ b o, s.heap.get? b = some o → h'.get? b = some o) → s.heap.objs.size ≤ h'.objs.size → Q (.ref h'.objs.size) { s with heap := h'.push (obL qual params body scope clos dV ((mg "__name__").getD .none) cv ctv), toks := tk }) :
    wpAny M A (makeTail "<lambda>" qual params (.expr body) scope env dV .none none pos fl) Q E s := by
  obtain ⟨bm, ob, b1, b2, _, b3, b4, b5, b6, b7⟩ := hb
  unfold makeTail; rw [hcl, hge]
  refine wpAny_bind (wpAny_pure ?_)
  cases clos with
  | nil =>
    simp only [List.isEmpty_nil, if_true]
    refine wpAny_bind (wpAny_pure (wpAny_bind (wpAny_functionCode_hit hcode (C.code hP ht) hf (wpAny_bind ?_))))
    exact wpAny_builtinsFor hg b1 b2 b4 b5 b6 b7 (wpAny_bind (wpAny_nsGet hg (wpAny_bind (wpAny_pure (wpAny_newObj_type (h .none s.heap s.toks (fun _ _ e => e) (Nat.le_refl _)) (by size_fits))))))
  | cons q r =>
    simp only [List.isEmpty_cons, Bool.false_eq_true, if_false]
    have up : ∀ {oT : Obj} b o, s.heap.get? b = some o → (s.heap.push oT).get? b = some o := fun {oT} b o e => Heap.get?_push_of_some _ e
    have hsz : ∀ oT : Obj, s.heap.objs.size ≤ (s.heap.push oT).objs.size := fun oT => by rw [Heap.size_push]; omega
    refine wpAny_bind (wpAny_newTextTuple (wpAny_bind (wpAny_functionCode_hit hcode ((C.keeps up).code (up _ _ hP) ht) hf (wpAny_bind ?_))))
    exact wpAny_builtinsFor (hg.push _) b1 b2 (up _ _ b4) b5 b6 b7 (wpAny_bind (wpAny_nsGet (hg.push _) (wpAny_bind (wpAny_pure (wpAny_newObj_type (h _ _ s.toks up (hsz _)) (by size_fits))))))
end
end La
open PySem PySem.Spec PyProof.Rows L2
/-- the tuple of a lambda's defaults -/
def DfT (h : Heap) (dV : Value) : Option Int → Prop
  | none => dV = .none
  | some i => ∃ (d : Addr) (tk : Tok), dV = .ref d ∧ h.get? d = some { cls := .type "tuple", data := .seq #[.int i tk] }
theorem DfT.keeps {h h' : Heap} {dV : Value} {o : Option Int} (x : DfT h dV o) (k : ∀ b u, h.get? b = some u → h'.get? b = some u) : DfT h' dV o := by
  cases o with
  | none => exact x
  | some i =>
    obtain ⟨d, tk, e, q⟩ := x
    exact ⟨d, tk, e, k _ _ q⟩
/-- the written defaults: none, or one int -/
def Dfl (params : Arguments) (env : Env) : Option Int → Prop
  | none => defaultsOf params env = ([], [])
  | some i => ∃ (j : Nat) (p : Pos), defaultsOf params env = ([eval (.Constant (.int i) j p) env], [])
/-- the heap behind a lambda's making: the same, or its code object is told of in the table at P -/
def Step (H H1 : Hp) (P c' : Addr) (q : Str) : Prop := (H1 = H ∧ H c' = some (LamX.CodeO c' q)) ∨ ∃ ps more, H P = some (.tbl ps) ∧ H c' = none ∧ H1 = upd (upd H P (.tbl (ps ++ more))) c' (LamX.CodeO c' q)
section
variable {X : Cx} {pins : List (Addr × Obj)} {σ : L2.St} {H : Hp} {s : Shared}
theorem lam_make3 {tabs : List (Addr × Str)} {c P : Addr} {params : Arguments} {body : Expr} {scope : Scope} {pos : Pos} {E : Value → Shared → Prop} {Q : Value → Shared → Prop} {o : Option Int} (I : Inv X pins σ H s) (TB : LamX.TabB X.base X.mg c P) (hcode : X.env.code = .ref c)
    (hm : (P, X.env.qual ++ "<lambda>") ∈ tabs) (hu : ∀ p ∈ tabs, p.1 = P → p.2 = X.env.qual ++ "<lambda>") (hT : LamX.Tabs tabs H) (hdef : Dfl params X.env o) (hfree : ∀ y ∈ scope.names, y.2 = .free → ∃ c, X.env.cells.lookup y.1 = some c)
    (h : ∀ (f c' : Addr) (dV pm ctv : Value) (H1 : Hp) (s' : Shared), Inv X pins σ H1 s' → Step H H1 P c' (X.env.qual ++ "<lambda>") → LamX.Tabs tabs H1 →
      s'.heap.get? f = some (La.obL (X.env.qual ++ "<lambda>") params body scope (cloFrom X.env.cells scope.names []) dV pm (.ref c') ctv) → H1 f = none → f ∉ frs X.stack → H1 c' = some (LamX.CodeO c' (X.env.qual ++ "<lambda>")) → DfT s'.heap dV o → (∀ d, dV = .ref d → H1 d = none ∧ d ∉ frs X.stack) → Q (.ref f) s') :
    wpAny (model X.prog X.w) X.A (eval (.Lambda params body scope pos) X.env) Q E s := by
  rw [arm_eval_Lambda]
  have nofr : ∀ {s : Shared} {H : Hp}, Inv X pins σ H s → ∀ f, s.heap.objs.size ≤ f → f ∉ frs X.stack := fun {s H} I f hf z => by
    rcases List.mem_cons.mp (I.stkSub _ z) with e | e
    · have h1 := I.lt
      rw [← e] at h1
      exact Nat.lt_irrefl _ (Nat.lt_of_lt_of_le h1 hf)
    · exact I.nofs hf e
  -- behind the defaults
  have tail : ∀ (s : Shared) (dV : Value), Inv X pins σ H s → DfT s.heap dV o → (∀ d, dV = .ref d → d < s.heap.objs.size ∧ H d = none ∧ d ∉ frs X.stack) → wpAny (model X.prog X.w) X.A (makeTail "<lambda>" (X.env.qual ++ "<lambda>") params (.expr body) scope X.env dV .none none pos pos.line) Q E s := fun s dV I hdf hd => by
    obtain ⟨ps, hP, ht, ha⟩ := hT _ hm
    have bP : s.heap.BuiltinsAt X.mg P := TB.bm.keeps I.bk
    have hP' : s.heap.get? P = some { cls := .none, data := .fields ps } := I.hok P _ hP
    cases hc : codeAmong pos ps.toList with
    | none =>
      refine La.tail_new (mg := X.mg) (c := c) (P := P) (ps := ps) (closure_ok hfree) I.ok.glob (I.mod.glob.keeps I.bk) hcode (TB.code.keeps I.bk) hP' ht hc TB.gP bP fun c' ctv h' tk hx hge hlt hrec htb => ?_
      obtain ⟨c2, oc, vs, t, e2, hoc, hdd, hv⟩ := hrec
      cases e2
      have hsz : s.heap.objs.size ≤ h'.objs.size := Nat.le_trans hge (Nat.le_of_lt hlt)
      have nC : H c' = none := I.hok.fresh hge
      have kp : ∀ b u, b ≠ P → s.heap.get? b = some u → (h'.push (La.obL (X.env.qual ++ "<lambda>") params body scope (cloFrom X.env.cells scope.names []) dV ((X.mg "__name__").getD .none) (.ref c') ctv)).get? b = some u := fun b u hb e => Heap.get?_push_of_some _ (hx b u hb e)
      have I1 := LamX.inv_table (t' := tk) (more := #[rawInt pos.line, rawInt pos.col, .ref c']) (q := X.env.qual ++ "<lambda>") I hP kp (Heap.get?_push_of_some _ htb) hge ⟨oc, vs, t, Heap.get?_push_of_some _ hoc, hdd, hv⟩
      have at_ : ∀ b, b ≠ P → b ≠ c' → upd (upd H P (.tbl (ps ++ #[rawInt pos.line, rawInt pos.col, .ref c']))) c' (LamX.CodeO c' (X.env.qual ++ "<lambda>")) b = H b := fun b h1 h2 => by rw [upd_ne h2, upd_ne h1]
      have kE : ∀ b u, H b = some u → (∀ qs, u ≠ .tbl qs) → upd (upd H P (.tbl (ps ++ #[rawInt pos.line, rawInt pos.col, .ref c']))) c' (LamX.CodeO c' (X.env.qual ++ "<lambda>")) b = some u := fun b u e n =>
        (at_ b (fun z => n ps (Option.some.inj (e.symm.trans (by rw [z]; exact hP)))) (ne_of_none e nC)).trans e
      have eL : (ps ++ #[rawInt pos.line, rawInt pos.col, .ref c']).toList = ps.toList ++ [rawInt pos.line, rawInt pos.col, .ref c'] := by simp
      have n1 : h'.objs.size ≠ c' := Nat.ne_of_gt hlt
      have n2 : h'.objs.size ≠ P := Nat.ne_of_gt (Nat.lt_of_lt_of_le (Heap.lt_size hP') hsz)
      refine h h'.objs.size c' dV ((X.mg "__name__").getD .none) ctv _ _ I1 (.inr ⟨ps, _, hP, nC, rfl⟩) (fun p hp => ?_) (Heap.get?_push_size _ rfl) (by rw [at_ _ n2 n1]; exact I.hok.fresh hsz) (nofr I _ hsz) upd_same ?_ (fun d e => ?_)
      · by_cases hb : p.1 = P
        · rw [hu p hp hb, hb]
          refine ⟨_, by rw [upd_ne (ne_of_none hP nC), upd_same], by rw [eL]; exact PySem.TriplesOk_snoc _ _ _ _ ht, fun p' cv hcv => ?_⟩
          rw [eL] at hcv
          rcases LamX.among_app _ ht hcv with z | z
          · obtain ⟨c0, e1, e2⟩ := ha p' cv z
            exact ⟨c0, e1, kE _ _ e2 LamX.codeO_ne⟩
          · exact ⟨c', z, upd_same⟩
        · obtain ⟨ps', a1, a2, a3⟩ := hT p hp
          refine ⟨ps', by rw [at_ _ hb (ne_of_none a1 nC)]; exact a1, a2, fun p' cv hcv => ?_⟩
          obtain ⟨c0, e1, e2⟩ := a3 p' cv hcv
          exact ⟨c0, e1, kE _ _ e2 LamX.codeO_ne⟩
      · cases o with
        | none => exact hdf
        | some i =>
          obtain ⟨d, tk', e, q⟩ := hdf
          have hdP : d ≠ P := fun z => by
            rw [z, hP'] at q
            cases q
          exact ⟨d, tk', e, kp d _ hdP q⟩
      · obtain ⟨q1, q2, q3⟩ := hd d e
        have hdP : d ≠ P := fun z => by
          rw [z, hP] at q2
          cases q2
        exact ⟨by rw [at_ d hdP (Nat.ne_of_lt (Nat.lt_of_lt_of_le q1 hge))]; exact q2, q3⟩
    | some cv =>
      obtain ⟨c', e, hco⟩ := ha pos cv hc
      subst e
      refine La.tail_hit (mg := X.mg) (c := c) (P := P) (ps := ps) (closure_ok hfree) I.ok.glob (I.mod.glob.keeps I.bk) hcode (TB.code.keeps I.bk) hP' ht hc bP fun ctv h' tk hx hsz => ?_
      have kp : ∀ b u, s.heap.get? b = some u → (h'.push (La.obL (X.env.qual ++ "<lambda>") params body scope (cloFrom X.env.cells scope.names []) dV ((X.mg "__name__").getD .none) (.ref c') ctv)).get? b = some u := fun b u e => Heap.get?_push_of_some _ (hx b u e)
      have I1 : Inv X pins σ H { s with heap := h'.push (La.obL (X.env.qual ++ "<lambda>") params body scope (cloFrom X.env.cells scope.names []) dV ((X.mg "__name__").getD .none) (.ref c') ctv), toks := tk } := I.kept kp
      exact h h'.objs.size c' dV ((X.mg "__name__").getD .none) ctv H _ I1 (.inl ⟨rfl, hco⟩) hT (Heap.get?_push_size _ rfl) (I.hok.fresh hsz) (nofr I _ hsz) hco (hdf.keeps kp) (fun d e => (hd d e).2)
  cases o with
  | none =>
    rw [show defaultsOf params X.env = ([], []) from hdef]
    show wpAny (model X.prog X.w) X.A (do let dv ← evalAll []; let kdv ← holding dv (evalAllOpt []); makeFunction "<lambda>" (X.env.qual ++ "<lambda>") params (.expr body) scope X.env dv kdv [] pos pos.line) Q E s
    refine wpAny_bind (wpAny_pure (wpAny_bind (wpAny_holding (wpAny_pure ?_))))
    rw [makeFunction_eq]
    simp only [List.zip_nil_right, List.filterMap_nil, List.isEmpty_nil, if_true, pure_bind]
    exact tail s .none I rfl fun d e => by cases e
  | some i =>
    obtain ⟨j, p, hdef⟩ := hdef
    rw [hdef]
    show wpAny (model X.prog X.w) X.A (do let dv ← evalAll [eval (.Constant (.int i) j p) X.env]; let kdv ← holding dv (evalAllOpt []); makeFunction "<lambda>" (X.env.qual ++ "<lambda>") params (.expr body) scope X.env dv kdv [] pos pos.line) Q E s
    refine wpAny_bind (?_ : wpAny (model X.prog X.w) X.A (do let v ← eval (.Constant (.int i) j p) X.env; return v :: (← holding [v] (evalAll []))) _ _ _)
    refine wpAny_bind (wpAny_Constant_int ?_)
    refine wpAny_bind (wpAny_holding (wpAny_pure (wpAny_pure ?_)))
    refine wpAny_bind (wpAny_holding (wpAny_pure ?_))
    rw [makeFunction_eq]
    simp only [List.zip_nil_right, List.filterMap_nil, List.isEmpty_nil, List.isEmpty_cons, Bool.false_eq_true, if_false, if_true, pure_bind]
    refine wpAny_bind (wpAny_newTextTuple ?_)
    have up : ∀ b u, s.heap.get? b = some u → (s.heap.push { cls := .type "tuple", data := .seq [Value.int i s.toks].toArray }).get? b = some u := fun b u e => Heap.get?_push_of_some _ e
    refine tail _ (.ref s.heap.objs.size) (I.kept (t' := s.toks + 1) up) ⟨_, s.toks, rfl, Heap.get?_push_size _ rfl⟩ (fun d e => ?_)
    cases e
    exact ⟨by rw [Heap.size_push]; exact Nat.lt_succ_self _, I.hok.fresh (Nat.le_refl _), nofr I _ (Nat.le_refl _)⟩
end

/-- the lambda's names: captured ones, globals, parameters that the def has not -/
structure LamP (sc scope : Scope) (N : List Str) : Prop where
  kind : scope.kind = .function
  co : scope.isCoroutine = false
  gen : scope.isGenerator = false
  own : ∀ y ∈ scope.names, y.2 ≠ .cell ∧ (y.2 = .local → y.1 ∉ N)
  free : ∀ y ∈ scope.names, y.2 = .free → sc.names.lookup y.1 = some .cell ∨ sc.names.lookup y.1 = some .free
def lamPB (sc scope : Scope) (N : List Str) : Bool :=
  decide (scope.kind = .function) && !scope.isCoroutine && !scope.isGenerator && scope.names.all fun y => !decide (y.2 = .cell) && (!decide (y.2 = .local) || !decide (y.1 ∈ N)) && (!decide (y.2 = .free) || decide (sc.names.lookup y.1 = some .cell) || decide (sc.names.lookup y.1 = some .free))
theorem lamP_by {sc scope : Scope} {N : List Str} (h : lamPB sc scope N = true) : LamP sc scope N := by
  unfold lamPB at h
  simp only [Bool.and_eq_true, Bool.or_eq_true, Bool.not_eq_true', decide_eq_true_eq, decide_eq_false_iff_not, List.all_eq_true] at h
  obtain ⟨⟨⟨h1, h2⟩, h3⟩, h4⟩ := h
  refine ⟨h1, h2, h3, fun y hy => ⟨(h4 y hy).1.1, fun e => (h4 y hy).1.2.elim (fun z => absurd e z) id⟩, fun y hy e => ?_⟩
  rcases (h4 y hy).2 with (z | z) | z
  · exact absurd e z
  · exact .inl z
  · exact .inr z
/-- what a call without arguments binds -/
def LBind (params : Arguments) (body : Expr) (scope : Scope) : Option Int → Prop
  | none => ∀ (q : Str) (cl : List (Str × Addr)) (pm cv ctv : Value), bindArgs (La.fnL q params body scope cl .none pm cv ctv) ⟨[], []⟩ = pure []
  | some _ => ∃ y, scope.names.lookup y = some .local ∧ ∀ (q : Str) (cl : List (Str × Addr)) (d : Addr) (pm cv ctv : Value), ∃ k, bindArgs (La.fnL q params body scope cl (.ref d) pm cv ctv) ⟨[], []⟩ = seqItems? (.ref d) >>= k ∧ ∀ u, k (some #[u]) = pure [(y, u)]
section
variable {X : Cx} {pins : List (Addr × Obj)} {σ : L2.St} {H HZ : Hp} {s s1 : Shared}
theorem LamP.has {scope : Scope} (L : LamP X.env.scope scope X.N) (ok : X.Ok) : ∀ y ∈ scope.names, y.2 = .free → ∃ c, X.env.cells.lookup y.1 = some c := fun y hy e => (L.free y hy e).elim (fun k => ok.has _ (.inl k)) fun k => ok.has _ (.inr k)
theorem lam_start3 {A : Around} {outer : List Env} {E : XK} {scope : Scope} {f c' : Addr} {h₁ : Heap} {tk : Nat} {m0 : Str → Option Value} (I : Inv X pins σ H s) (L : LamP X.env.scope scope X.N) (e0 : Env0 X.prog X.w X.K X.mg X.base A outer s1 HZ) (hd : A.handled = none)
    (un : Un (frs X.stack) [] H HZ s.heap s1.heap) (hns : h₁.Ns s1.heap.objs.size m0) (kp : ∀ b o, s1.heap.get? b = some o → h₁.get? b = some o) :
    Inv (LamX.lamCx X A outer s1 HZ E scope f c') [] σ HZ { s1 with heap := h₁, toks := tk } := by
  have hfree := L.has I.ok
  -- a cell of the lambda is the maker's
  have cm : ∀ {y c}, (cloFrom X.env.cells scope.names []).lookup y = some c → X.env.cells.lookup y = some c := fun {y c} e => by
    rcases cloFrom_mem (PySem.mem_of_lookup e) with hm | ⟨q1, q2⟩
    · cases hm
    · obtain ⟨c1, hc⟩ := hfree _ q1 rfl
      have hc : X.env.cells.lookup y = some c1 := hc
      have ec : c = c1 := by rw [q2, hc] <;> rfl
      exact ec ▸ hc
  have look : ∀ {y}, scope.names.lookup y = some .free → ∃ c, (cloFrom X.env.cells scope.names []).lookup y = some c := fun {y} hl => mem_lookup (cloFrom_has (cells := X.env.cells) (acc := []) (PySem.mem_of_lookup hl))
  have cellK : ∀ {c : Addr} {v : Option Value}, H c = none → s.heap.IsCell c v → h₁.IsCell c v := fun {c v} n ⟨o, ho, hd⟩ => by
    obtain ⟨sl, q⟩ := un.any ho n (by simp); exact ⟨_, kp _ _ q, hd⟩
  have noA : ∀ b : Addr, b ∉ (LamX.lamCx X A outer s1 HZ E scope f c').ex := fun b z => (by cases (show b ∈ ([] : List Addr) from z))
  have ok : (LamX.lamCx X A outer s1 HZ E scope f c').Ok := ⟨e0.mod, L.kind, rfl, rfl, Nat.le_refl _, fun y z c e1 e2 => I.ok.inj y z c (cm e1) (cm e2), fun y hy => by
      rcases (show scope.names.lookup y = some .cell ∨ scope.names.lookup y = some .free from hy) with hy | hy
      · exact absurd rfl (L.own _ (PySem.mem_of_lookup hy)).1
      · exact look hy, fun y c z _ => (by cases (show false = true from z)), fun _ => hd, Around.frames_deeper e0.frames, .inr ⟨rfl, rfl⟩, fun b z => absurd z (noA b), e0.bs, e0.bsz, fun b _ _ => noA b, fun b z => absurd z (noA b), e0.funs, e0.frf⟩
  refine ⟨ok, rfl, e0.bare, Un.kept kp, ⟨_, hns, fun i y v e1 e2 e3 => ?_⟩, fun y c e => ?_, e0.hok.fresh (Nat.le_refl _), fun y c e => ?_, fun q hq => (by cases (show q ∈ ([] : List (Addr × Obj)) ++ [] from hq)), e0.hok.kept kp, I.len⟩
  · rcases (show Vis scope y from e3) with k | k | k
    · exact absurd (List.mem_of_getElem? e1) ((L.own _ (PySem.mem_of_lookup k)).2 rfl)
    · exact absurd rfl (L.own _ (PySem.mem_of_lookup k)).1
    · obtain ⟨m, hn, hl⟩ := I.loc
      obtain ⟨w', r, q⟩ := hl i y v e1 e2 ((L.free _ (PySem.mem_of_lookup k) rfl).elim (fun k => .inr (.inl k)) (fun k => .inr (.inr k)))
      obtain ⟨c2, h2⟩ := look k
      refine ⟨w', r, .inr ⟨.inr k, c2, h2, ?_⟩⟩
      rcases q with ⟨k', _⟩ | ⟨_, c3, e', z⟩
      · have k' : X.env.scope.names.lookup y = some .local := k'
        rcases L.free _ (PySem.mem_of_lookup k) rfl with k2 | k2 <;> rw [show X.env.scope.names.lookup y = _ from k2] at k' <;> cases k'
      · rw [cm h2] at e'
        cases e'
        exact cellK (I.freeC y _ (cm h2)) z
  · obtain ⟨w', z⟩ := I.cell y c (cm e); exact ⟨w', cellK (I.freeC y c (cm e)) z⟩
  · obtain ⟨v, o, ho, hd⟩ := I.cell y c (cm e); exact un.free c o ho (I.freeC y c (cm e)) (by simp)
end

/-! ### a reading as a state's wish -/
/-- what holds where the reading w asks for it -/
def tSem (T : Tb) (W : WX) (w : WE) : TE := fun σ H Q => ∃ (ρ : EnvD) (S : VS) (H0 : Hp) (post : D → Pr) (ep : EP), Ok T S H ∧ EnvRel T H0 S H σ ρ ∧ ExW T W σ S H ep ∧ QW T S H post Q ∧ w ρ post ep S.n
theorem im_sem {T : Tb} {W : WX} {w : WE} : ImpE T W (tSem T W w) w := fun ρ σ S H H0 post ep Q ok er ex q hw => ⟨ρ, S, H0, post, ep, ok, er, ex, q, hw⟩
/-- own lists put aside -/
def noOwn : EnvD → EnvD := List.map fun
  | .own _ => .no
  | .obj _ _ => .no
  | s => s
theorem EnvRel.noOwn {T : Tb} {H0 H1 : Hp} {S : VS} {H : Hp} {σ : L2.St} {ρ : EnvD} (er : EnvRel T H0 S H σ ρ) : EnvRel T H1 S H σ (noOwn ρ) := by
  have val : ∀ {i : Nat} {s : Slot}, (PyD.noOwn ρ)[i]? = some s → s = .no ∨ ρ[i]? = some s ∧ (∀ ds, s ≠ .own ds) ∧ ∀ c fs, s ≠ .obj c fs := fun {i s} e => by
    unfold PyD.noOwn at e
    rw [List.getElem?_map] at e
    cases q : ρ[i]? with
    | none => rw [q] at e; cases e
    | some u =>
      rw [q] at e
      cases u with
      | no => cases e; exact .inl rfl
      | val d => cases e; exact .inr ⟨rfl, (fun ds z => by cases z), fun c fs z => by cases z⟩
      | own ds => cases e; exact .inl rfl
      | obj c fs => cases e; exact .inl rfl
  refine ⟨by unfold PyD.noOwn; rw [List.length_map]; exact er.len, fun i d e => ?_, fun i ds e => ?_, fun i j ds es a e1 e2 e3 e4 => ?_, fun i c fs e => ?_, fun i j c c' fs fs' e1 e2 => ?_⟩
  · rcases val e with z | ⟨z, _⟩
    · cases z
    · exact er.val i d z
  · rcases val e with z | ⟨_, z, _⟩
    · cases z
    · exact absurd rfl (z ds)
  · rcases val e1 with z | ⟨_, z, _⟩
    · cases z
    · exact absurd rfl (z ds)
  · rcases val e with z | ⟨_, _, z⟩
    · cases z
    · exact absurd rfl (z c fs)
  · rcases val e1 with z | ⟨_, _, z⟩
    · cases z
    · exact absurd rfl (z c fs)
theorem EnvRel.ext0 {T : Tb} {H0 : Hp} {S S' : VS} {H H' : Hp} {σ : L2.St} {ρ : EnvD} (ok : Ok T S H) (x : Ext0 S H S' H') (no : (∀ (i : Nat) (ds : List D), ρ[i]? ≠ some (Slot.own ds)) ∧ ∀ (i : Nat) (c : Addr × Nat) (fs : List (Str × D)), ρ[i]? ≠ some (Slot.obj c fs)) (er : EnvRel T H0 S H σ ρ) : EnvRel T H0 S' H' σ ρ :=
  ⟨er.len, fun i d e => let ⟨v, h, q⟩ := er.val i d e; ⟨v, h, q.ext ok x⟩, fun i ds e => absurd e (no.1 i ds), er.dis, fun i c fs e => absurd e (no.2 i c fs), er.odis⟩
theorem noOwn_no {ρ : EnvD} : (∀ (i : Nat) (ds : List D), (noOwn ρ)[i]? ≠ some (Slot.own ds)) ∧ ∀ (i : Nat) (c : Addr × Nat) (fs : List (Str × D)), (noOwn ρ)[i]? ≠ some (Slot.obj c fs) := by
  constructor
  · intro i ds e
    unfold noOwn at e
    rw [List.getElem?_map] at e
    cases q : ρ[i]? with
    | none => rw [q] at e; cases e
    | some u => rw [q] at e; cases u <;> cases e
  · intro i c fs e
    unfold noOwn at e
    rw [List.getElem?_map] at e
    cases q : ρ[i]? with
    | none => rw [q] at e; cases e
    | some u => rw [q] at e; cases u <;> cases e
/-- the call of what slot i holds: its reading k -/
def wAsk (i : Nat) (P : VS → Hp → V → Prop) (k : (D → Pr) → EP → Pr) : WE := fun ρ post ep n => ρ[i]? = some (.val (.opq P)) ∧ k post ep n
/-- f(lambda: e): wb reads the def's body -/
def wHear (N : Nat) (wb : (VS → Hp → V → Prop) → ((D → Pr) → EP → Pr) → WS) (we : WE) : WE := fun ρ post ep n => ∀ P, wDef 1 N (wb P (we (noOwn ρ))) [.opq P] post ep n

theorem step_ext {T : Tb} {S : VS} {H H1 : Hp} {P c' : Addr} {q : Str} (ok : Ok T S H) (st : Step H H1 P c' q) (t1 : LamX.Tabs T.tabs H1) : Ok T S H1 ∧ Ext S H S H1 := by
  rcases st with ⟨rfl, _⟩ | ⟨ps, more, hP, nC, rfl⟩
  · exact ⟨ok, .refl⟩
  · have nSP : S P = none := ok.free hP
    have keep : ∀ b u, H b = some u → (∀ qs, u ≠ .tbl qs) → upd (upd H P (.tbl (ps ++ more))) c' (LamX.CodeO c' q) b = some u := fun b u e n => by
      rw [upd_ne (ne_of_none e nC), upd_ne (fun z => n ps (Option.some.inj (e.symm.trans (by rw [z]; exact hP))))]
      exact e
    have x : Ext S H S (upd (upd H P (.tbl (ps ++ more))) c' (LamX.CodeO c' q)) := ⟨fun b u e n _ => ⟨keep b u e n, rfl⟩, fun _ _ h => h, fun b qs e => by
      by_cases hb : b = P
      · subst hb
        exact ⟨ps ++ more, by rw [upd_ne (ne_of_none hP nC), upd_same]⟩
      · exact ⟨qs, by rw [upd_ne (ne_of_none e nC), upd_ne hb]; exact e⟩⟩
    refine ⟨⟨fun b n e => ?_, fun b kd e => ?_, t1⟩, x⟩
    · have hv := ok.vol b n e
      have hb : ∃ u, H b = some u ∧ ∀ qs, u ≠ .tbl qs := by
        rcases ok.chg b _ e with ⟨xs, z⟩ | ⟨C, dx, fs, z⟩ | ⟨kvs, z⟩
        · exact ⟨_, z, fun qs z => by cases z⟩
        · exact ⟨_, z, fun qs z => by cases z⟩
        · exact ⟨_, z, fun qs z => by cases z⟩
      obtain ⟨u, e1, e2⟩ := hb
      exact T.st n S S H _ b hv (fun c u h h1 h2 => x.to0.keep c u h h1 h2) (Nat.le_refl _) ((keep b u e1 e2).trans e1.symm)
    · rcases ok.chg b kd e with ⟨xs, z⟩ | ⟨C, dx, fs, z⟩ | ⟨kvs, z⟩
      · exact .inl ⟨xs, keep b _ z fun qs z => by cases z⟩
      · exact .inr (.inl ⟨C, dx, fs, keep b _ z fun qs z => by cases z⟩)
      · exact .inr (.inr ⟨kvs, keep b _ z fun qs z => by cases z⟩)
section
variable {X : Cx} {T : Tb} {W : WX}
/-- a lambda handed to a def that calls it -/
theorem pe_hear {x a : Str} {g c P : Addr} {k : Nat} {pg : Arguments} {bg : List Stmt} {sg : Scope} {fdg : FuncData} {Ng : List Str} {params : Arguments} {body : Expr} {scope : Scope} {p lpos pos : Pos} {o : Option Int} {wb : (VS → Hp → V → Prop) → ((D → Pr) → EP → Pr) → WS} {we : WE}
    (hg : Gl X x) (hm : X.mg x = some (.ref g)) (F : FunD X.K x x pg bg sg [] [] g fdg) (hb : L2.Binds X.K fdg [a] []) (Sg : FnScope Ng [a] sg) (hNg : Ng[0]? = some a) (hva : Vis sg a)
    (TB : LamX.TabB X.base X.mg c P) (hcode : X.env.code = .ref c) (hmT : (P, X.env.qual ++ "<lambda>") ∈ T.tabs) (hu : ∀ p ∈ T.tabs, p.1 = P → p.2 = X.env.qual ++ "<lambda>") (hr : Room (k + 2) X.A) (hgd : X.A.guards = some []) (tk : Takes X W)
    (L : LamP X.env.scope scope X.N) (hdef : Dfl params X.env o) (hbind : LBind params body scope o)
    (hbody : ∀ (A : Around) (outer : List Env) (s : Shared) (H : Hp) (E : XK) (f c' : Addr), Room k (A.deeper (LamX.lamEnv X scope s.heap.objs.size f c')) → (A.deeper (LamX.lamEnv X scope s.heap.objs.size f c')).guards = some [] → ∃ tb, DE T (LamX.lamCx X A outer s H E scope f c') (fun cls d _ H => E cls d H) body tb we)
    (hG : ∀ (pA : VS → Hp → V → Prop) (kk : (D → Pr) → EP → Pr) (cdv : Value) (s : Shared) (H : Hp) (E : XK), Room (k + 1) (X.A.deeper (envOfC x sg s.heap.objs.size g cdv)) → (X.A.deeper (envOfC x sg s.heap.objs.size g cdv)).guards = some [] →
      (∀ (WZ : WX) (pn : List (Addr × Obj)) (xe : Value → Shared → Prop), Takes ((cxOf (L2.CX X.prog X.w) X.prog X.w X.K X.mg X.base Ng x sg g cdv X.A X.stack s H E).tr pn xe) WZ → ∀ p1 p2 : Pos, PE ((cxOf (L2.CX X.prog X.w) X.prog X.w X.K X.mg X.base Ng x sg g cdv X.A X.stack s H E).tr pn xe) (.Call (.Name a p1) [] [] p2) (tSem T WZ (wAsk 0 pA kk))) →
      ∃ t, DSs T (cxOf (L2.CX X.prog X.w) X.prog X.w X.K X.mg X.base Ng x sg g cdv X.A X.stack s H E) (fun cls d _ H' => E cls d H') bg t (wb pA kk))
    (hdb : (x == ("__debug__" : Str)) = false := by decide) (hd : (a == ("__debug__" : Str)) = false := by decide) (hcd : (a == ("__classdict__" : Str)) = false := by decide) :
    PE X (.Call (.Name x p) [.Lambda params body scope lpos] [] pos) (tSem T W (wHear Ng.length wb we)) := by
  refine ⟨fun pins s σ H Q I h => ?_⟩
  obtain ⟨ρ, S, H0, post, ep, ok, er, ex, q, hw⟩ := h
  obtain ⟨oc, od, dVg, kVg, doc, pmg, an, cdv, ctg, osl, rfl, lk, hcg, _, _⟩ := F.ex
  refine wpAny_Call_Name_kw (ld_glob I hg hm (PySem.W.callWith_K (h₀ := X.base) I.ok.mod.kin F.kp ?_ (by rfl) (by rfl)) hdb)
  show wpAny _ _ (spliced ((false, eval (.Lambda params body scope lpos) X.env) :: backTo pos (starEach [] X.env))) _ _ s
  refine Calls.spliced_cons (lam_make3 I TB hcode hmT hu ok.tabs hdef (L.has I.ok) fun f c' dV pm' ctv H1 s' I1 st t1 hf hfn hfr hco hdf hdn => Calls.spliced_nil ⟨I1.kIn, ?_⟩)
  obtain ⟨ok1, x1⟩ := step_ext ok st t1
  have er1 := er.ext ok x1
  let pA : VS → Hp → V → Prop := fun S H v => v = .ref f ∧ H c' = some (LamX.CodeO c' (X.env.qual ++ "<lambda>")) ∧ EnvRel T H0 S H σ (noOwn ρ)
  have rep : Rep T S H1 (.ref f) (.opq pA) := .opq ⟨rfl, hco, er1.noOwn⟩ (fun S1 H1 S2 H2 okk xx ⟨e1, e2, e3⟩ =>
    ⟨e1, (xx.keep c' _ e2 LamX.codeO_ne (okk.free e2 (fun _ z => by unfold LamX.CodeO at z; cases z) (fun _ _ _ z => by unfold LamX.CodeO at z; cases z) fun _ z => by unfold LamX.CodeO at z; cases z)).1, e3.ext0 okk xx noOwn_no⟩) fun S1 H1 H2 x ⟨e1, e2, e3⟩ => ⟨e1, x.other e2 (fun _ z => by unfold LamX.CodeO at z; cases z) (fun _ _ z => by unfold LamX.CodeO at z; cases z), e3.lk x⟩
  have rc : codeAny (model X.prog X.w) X.A (.call (.ref g) ⟨[.ref f], []⟩) (CR (L2.CX X.prog X.w) X.stack X.prog X.w H1 s' Q (EW W σ)) s' := by
    refine LamX.run_ofS (N := Ng) (ps := [a]) (us := [.ref f]) (vs := [.ref f]) lk hcg Sg hr I1.env0 (hb s' [.ref f] I1.kIn rfl) (.cons rfl .nil) rfl fun hr' => ?_
    obtain ⟨t, dt⟩ := hG pA (we (noOwn ρ)) cdv s' H1 (EW W σ) hr' hgd fun WZ pn xe tkZ p1 p2 => by
      refine ⟨fun pinsZ sZ σZ HZ QZ IZ hz => ?_⟩
      obtain ⟨ρZ, SZ, H0Z, postZ, epZ, okZ, erZ, exZ, qZ, hz1, hz2⟩ := hz
      obtain ⟨v, ev, rv⟩ := erZ.val 0 _ hz1
      cases rv with
      | opq pz _ =>
        obtain ⟨rfl, hcZ, erC⟩ := pz
        refine wpAny_Call_Name_kw (thn ((pe_var (pos := p1) (i := 0) hNg hva hd hcd).run pinsZ sZ σZ HZ (fun v H1 => v = .ref f ∧ H1 = HZ) IZ ⟨.ref f, ev, rfl, rfl⟩) fun u s2 ⟨v2, H2, I2, r2, q2⟩ => ?_)
        obtain ⟨rfl, rfl⟩ := q2
        obtain rfl : u = Value.ref f := r2
        have kpo : ∀ b ob, s'.heap.get? b = some ob → H1 b = none → b ∉ frs X.stack → s2.heap.get? b = some ob := fun b ob e n hb => I2.base.keep b ob e n hb (fun z => nomatch (show b ∈ ([] : List Addr) from z))
        have of2 := kpo f _ hf hfn hfr
        refine PySem.W.callWith_F0 ⟨_, _, _, _, of2⟩ ?_
        have un : Un (frs X.stack) [] H1 H2 s'.heap s2.heap := I2.base
        obtain ⟨⟨oc', vs', t', hoc, hdc, hvc⟩, _, _⟩ := I2.hok c' _ hcZ
        have rb : codeAny (model X.prog X.w) (X.A.deeper (envOfC x sg s'.heap.objs.size g cdv)) (.call (.ref f) ⟨[], []⟩) (CR (L2.CX X.prog X.w) (envOfC x sg s'.heap.objs.size g cdv :: X.stack) X.prog X.w H2 s2 QZ (EW WZ σZ)) s2 := by
          refine PySem.W.kla_callFunE hr'.depth of2 rfl L.co L.gen rfl ⟨c', oc', vs', t', rfl, hoc, hdc, hvc⟩ ?_
          -- with the bound names
          have go : ∀ (bs : List (Str × Value)), (∀ y ∈ bs, scope.names.lookup y.1 = some .local) → wpAny (model X.prog X.w) (X.A.deeper (envOfC x sg s'.heap.objs.size g cdv)).in1 (newFunctionEnv scope mainGlobals (cloFrom X.env.cells scope.names []) bs (X.env.qual ++ "<lambda>" ++ ".<locals>.") (some f) (.ref c') none builtinsNs)
              (fun env s₂ => s₂.heap.NoLimit ∧ codeAny (model X.prog X.w) (X.A.deeper (envOfC x sg s'.heap.objs.size g cdv)) (.expr body env) (CR (L2.CX X.prog X.w) (envOfC x sg s'.heap.objs.size g cdv :: X.stack) X.prog X.w H2 s2 QZ (EW WZ σZ)) s₂) (fun e sE => CR (L2.CX X.prog X.w) (envOfC x sg s'.heap.objs.size g cdv :: X.stack) X.prog X.w H2 s2 QZ (EW WZ σZ) (.error e) sE) s2 := fun bs hbs => by
            refine wpAny_newFunctionEnv (fun y hy => (L.own y hy).1) hbs (fun h₁ hns hsb => ⟨I2.nolimit.fresh _ hsb, ?_⟩) L.kind
            show codeAny _ _ (.expr body (LamX.lamEnv X scope s2.heap.objs.size f c')) _ _
            have kp : ∀ b o, s2.heap.get? b = some o → h₁.get? b = some o := fun b o e => hsb.extBut b o (Nat.ne_of_lt (Heap.lt_size e)) (Heap.get?_push_of_some _ e)
            have J := lam_start3 (tk := s2.toks + bs.length) (E := EW WZ σZ) (scope := scope) (f := f) (c' := c') I1 L I2.env0 hr'.hd un hns kp
            obtain ⟨tb, db⟩ := hbody _ _ s2 H2 (EW WZ σZ) f c' (hr'.deeper _) hgd
            refine PySem.W.kla_codeExpr (wpAny_mono (db.pe.run [] _ _ H2 QZ J (db.im (noOwn ρ) σ SZ H2 H0 postZ epZ QZ okZ erC (fun c ds S' H' d fs k1 k2 k3 k4 k5 => exZ c ds S' H' d fs k1 k2 k3 k4 k5) qZ hz2)) (fun v s' hq => ?_) fun e s' hq => hq)
            obtain ⟨w', H', J', rv, q⟩ := hq
            exact ⟨w', H', J'.os, J'.bare, J'.base, J'.hok, rv, q⟩
          cases o with
          | none =>
            cases (show dV = .none from hdf)
            rw [hbind]
            refine wpAny_pure ?_
            exact go [] fun y hy => by cases hy
          | some i =>
            obtain ⟨d, tk', rfl, e⟩ := hdf
            obtain ⟨n1, n2⟩ := hdn d rfl
            obtain ⟨y, hy, hk⟩ := hbind
            obtain ⟨kk, e1, e2⟩ := hk (X.env.qual ++ "<lambda>") (cloFrom X.env.cells scope.names []) d pm' (.ref c') ctv
            rw [e1]
            refine wpAny_bind (wpAny_seqItems (kpo d _ e n1 n2) rfl ?_)
            rw [e2]
            refine wpAny_pure ?_
            exact go [(y, .int i tk')] fun z hz => by
              rcases List.mem_cons.mp hz with rfl | hz
              · exact hy
              · cases hz
        refine wpAny_call (codeAny_mono rb fun r s' hq => ?_)
        match r, hq with
        | .error e, hq => exact passE tkZ σZ pinsZ H2 s2 e s' I2 hq
        | .ok (.ret u), hq => exact I2.after hq
        | .ok .next, hq => exact False.elim hq
        | .ok .brk, hq => exact False.elim hq
        | .ok .cont, hq => exact False.elim hq
    obtain ⟨hw0, hw1⟩ := hw pA
    have hlen : ([V.ref f] : List V).length ≤ Ng.length := by
      have := congrArg List.length Sg.pre
      rw [List.length_take] at this
      simp at this ⊢
      omega
    refine ⟨t, dt.pss, dt.im _ _ S H1 S H1 { nx := fun _ => post .non, rt := fun _ => post, rf := fun l => post (.lst l), ex := ep } _ ok1 ok1 .refl (env_start hlen (.cons rep .nil)) ⟨fun ρ σ S' H' p st => (q.ext x1) .non S' H' .non p st.ok st.b .non, fun _ _ _ _ p => p.elim, fun _ _ _ _ p => p.elim, fun ρ σ d v S' H' p ok' x _ r' => (q.ext x1) d S' H' v p ok' x r', QF.of ok1 (q.ext x1), fun σ' c ds S' H' d fs p ok' x h1 h2 => ex c ds S' H' d fs p ok' (x1.trans x) h1 h2⟩ hw1⟩
  refine wpAny_call (codeAny_mono rc fun r s2 hq => ?_)
  match r, hq with
  | .error e, hq => exact passE tk σ pins H1 s' e s2 I1 hq
  | .ok (.ret u), hq => exact I1.after hq
  | .ok .next, hq => exact False.elim hq
  | .ok .brk, hq => exact False.elim hq
  | .ok .cont, hq => exact False.elim hq
end
end PyD

/-! PyD: repr, index, count, calls by keywords, names of classes and types. -/
namespace PyD
open PySem PySem.Spec PyProof.Rows L2
/-! ### names -/
section
variable {T : Tb} {X : Cx} {W : WX} {x : Str} {pos : Pos}
theorem de_cls {c : Nat} (hg : Gl X x) (hm : X.mg x = some (.ref (T.cA c))) (hd : (x == ("__debug__" : Str)) = false := by decide) : DE T X W (.Name x pos) (tC (.ref (T.cA c))) (wC (.cls c)) := ⟨pe_glob hg hm rfl hd, im_c fun _ _ => .cls c⟩
theorem de_ty {n : String} (hg : Gl X x) (hm : X.mg x = none) (hv : bootBuiltins x = some (.type n)) (hn : x ≠ "__name__" := by decide) (hd : (x == ("__debug__" : Str)) = false := by decide) : DE T X W (.Name x pos) (tC (.ty n)) (wC (.ty n)) := ⟨pe_bltn hg hm hv rfl hn hd, im_c fun _ _ => .ty n⟩
end
/-! ### repr -/
mutual
theorem toPy_dict : ∀ {d : D} {p : PyData}, toPy d = some p → p.hasDict = false
  | .non, _, e => by cases e; rfl
  | .bl _, _, e => by cases e; rfl
  | .int _, _, e => by cases e; rfl
  | .str _, _, e => by cases e; rfl
  | .tup l, p, e => by
    have e' : (toPyL l).map PyData.tuple = some p := e
    cases q : toPyL l with
    | none => rw [q] at e'; cases e'
    | some ps => rw [q] at e'; cases e'; show PyData.hasDictAll ps = false; exact toPyL_dict q
  | .lst l, p, e => by
    have e' : (toPyL l).map PyData.list = some p := e
    cases q : toPyL l with
    | none => rw [q] at e'; cases e'
    | some ps => rw [q] at e'; cases e'; show PyData.hasDictAll ps = false; exact toPyL_dict q
  | .dic _, _, e => by cases e
  | .ins _ _, _, e => by cases e
  | .exc _ _, _, e => by cases e
  | .cls _, _, e => by cases e
  | .ty _, _, e => by cases e
  | .vol _, _, e => by cases e
  | .opq _, _, e => by cases e
  | .scr _, _, e => by cases e
theorem toPyL_dict : ∀ {l : List D} {ps : List PyData}, toPyL l = some ps → PyData.hasDictAll ps = false
  | [], _, e => by cases e; rfl
  | d :: ds, ps, e => by
    have e' : (match toPy d, toPyL ds with | some x, some xs => some (x :: xs) | _, _ => none) = some ps := e
    cases q1 : toPy d with
    | none => rw [q1] at e'; cases e'
    | some x =>
      cases q2 : toPyL ds with
      | none => rw [q1, q2] at e'; cases e'
      | some xs =>
        rw [q1, q2] at e'
        cases e'
        show (PyData.hasDict x || PyData.hasDictAll xs) = false
        rw [toPy_dict q1, toPyL_dict q2] <;> rfl
end
def rRepr (K : PySem.W.Frag) : List V → Hp → VK → Prop := fun xs H Q => ∃ x p, xs = [x] ∧ Dp K H x p ∧ p.hasDict = false ∧ p.showable = true ∧ p.shown.length ≤ sizeLine ∧ p.depth ≤ 60 ∧ Q (.str p.shown) H
section
variable {T : Tb} {X : Cx} {k : Nat}
theorem call_repr (hg : X.A.guards = some []) (hr : Room k X.A) : CallR X (.builtin "repr") (rRepr X.K) := by
  intro pins s σ H xs us Q I r h
  obtain ⟨x, p, rfl, hp, hd, hs, hz, hdp, q⟩ := h
  obtain ⟨u, rfl, rx⟩ := vals1 r
  cases hp with
  | non => cases rx; exact PySem.P.repr_of_none ⟨.str _, H, I.tok _, ⟨_, rfl⟩, q⟩
  | bl b => cases rx; exact PySem.P.repr_of_bool ⟨.str _, H, I.tok _, ⟨_, rfl⟩, by cases b <;> exact q⟩
  | int i => obtain ⟨t, rfl⟩ := rx; exact PySem.P.repr_of_int (of_decide_eq_true hs) ⟨.str _, H, I.tok _, ⟨_, rfl⟩, q⟩
  | str y => obtain ⟨t, rfl⟩ := rx; exact PySem.P.repr_of_str ⟨.str _, H, I.tok _, ⟨_, rfl⟩, q⟩ hz
  | lst h1 h2 =>
    cases rx
    obtain ⟨as, rd⟩ := Dp.reads I _ _ _ (.lst h1 h2) rfl
    exact repr_of_reads' rd hs (fun z => by rw [hd] at z; cases z) hg (by have := hr.un; omega) (fun _ _ e => e) (fun h' u tk hk => ⟨.str _, H, I.kept hk, ⟨u, rfl⟩, q⟩) hz
  | tup h1 h2 =>
    cases rx
    obtain ⟨as, rd⟩ := Dp.reads I _ _ _ (.tup h1 h2) rfl
    exact repr_of_reads' rd hs (fun z => by rw [hd] at z; cases z) hg (by have := hr.un; omega) (fun _ _ e => e) (fun h' u tk hk => ⟨.str _, H, I.kept hk, ⟨u, rfl⟩, q⟩) hz
def reprD : FA := fun ds p => match ds with
  | [x] => ∃ y, toPy x = some y ∧ y.showable = true ∧ y.shown.length ≤ sizeLine ∧ y.depth ≤ 60 ∧ p (.str y.shown)
  | _ => False
theorem d_repr : OpA T (rRepr T.K) reprD := fun S H vs ds post Q ok rv q hw => by
  unfold reprD at hw
  split at hw
  · obtain ⟨x, rfl, r1⟩ := rv.one
    obtain ⟨y, h1, h2, h3, h4, h5⟩ := hw
    exact ⟨x, y, rfl, r1.py h1, toPy_dict h1, h2, h3, h4, q _ S H _ h5 ok .refl (.str _)⟩
  · exact hw.elim
end

/-! ### methods of plain values -/
abbrev FM := D → List D → (D → Prop) → Prop
def OpM (T : Tb) (r : V → List V → Hp → VK → Prop) (f : FM) : Prop := ∀ (S : VS) (H : Hp) (x : V) (dx : D) (vs : List V) (ds : List D) (post : D → Pr) (Q : VK), Ok T S H → Rep T S H x dx → RepL T S H vs ds → QW T S H post Q → f dx ds (fun d => post d S.n) → r x vs H Q
def tyD (m : String) : D → Bool
  | .str _ => m == "str"
  | .int _ => m == "int"
  | .lst _ => m == "list"
  | _ => false
def wMt (m : String) (f : FM) (a : WE) (r : WA) : WE := fun ρ post ep => a ρ (fun x k => tyD m x = true ∧ r ρ (fun ds n => f x ds fun d => post d n) ep k) ep
section
variable {T : Tb} {X : Cx} {W : WX} {m : String}
theorem Rep.tyV {S : VS} {H : Hp} {x : V} {d : D} (r : Rep T S H x d) (h : tyD m d = true) : tyV T.K m x H := by
  cases r with
  | str z => exact eq_of_beq h
  | int z => exact eq_of_beq h
  | lst h1 _ _ => exact .inl ⟨eq_of_beq h, _, SqL.of h1⟩
  | _ => cases h
theorem im_mt {r : V → List V → Hp → VK → Prop} {f : FM} {to : TE} {t : TA} {wo : WE} {wa : WA} (h : OpM T r f) (h1 : ImpE T W to wo) (h2 : ImpA T W t wa) : ImpE T W (tBM T.K m r to t) (wMt m f wo wa) := fun ρ σ S H H0 post ep Q ok er ex q hw =>
  h1 ρ σ S H H0 _ ep _ ok er ex (fun x S1 H1 v p ok1 x1 r1 => ⟨r1.tyV p.1, h2 ρ σ S1 H1 H0 _ ep _ ok1 (er.ext ok x1) (ex.ext x1) (fun ds S2 H2 vs p2 ok2 x2 r2 => h S2 H2 v x vs ds post Q ok2 (r1.ext ok1 x2.to0) r2 (q.ext (x1.trans x2)) p2) p.2⟩) hw
theorem im_mt0 {r : V → List V → Hp → VK → Prop} {f : FM} {to : TE} {wo : WE} (h : OpM T r f) (h1 : ImpE T W to wo) : ImpE T W (tBM0 T.K m r to) (wMt m f wo wNil) := fun ρ σ S H H0 post ep Q ok er ex q hw =>
  h1 ρ σ S H H0 _ ep _ ok er ex (fun x S1 H1 v p ok1 x1 r1 => ⟨r1.tyV p.1, h S1 H1 v x [] [] post Q ok1 r1 .nil (q.ext x1) p.2⟩) hw
def indexD : FM := fun x ds p => match ds with
  | [y] => ∃ a b c j z, toPy x = some (.list a) ∧ toPy y = some b ∧ SeqAt.shaped (.list a) = true ∧ SeqAt.shaped b = true ∧ a[j]? = some z ∧ PyData.eqv z b = true ∧ (∀ (m : Nat) (z' : PyData), m < j → a[m]? = some z' → PyData.eqv z' b = false) ∧ c = (j : Int) ∧ p (.int c)
  | _ => False
theorem d_index : OpM T (rIndexD T.K) indexD := fun S H x dx vs ds post Q ok r1 rv q hw => by
  unfold indexD at hw
  split at hw
  · obtain ⟨y, rfl, r2⟩ := rv.one
    obtain ⟨a, b, c, j, z, h1, h2, h3, h4, h5, h6, h7, rfl, h8⟩ := hw
    have e1 := r1.py h1
    cases e1 with
    | lst hs ha => exact ⟨_, y, b, a, j, z, rfl, rfl, .lst hs ha, r2.py h2, h3, h4, h5, h6, h7, q _ S H _ h8 ok .refl (.int _)⟩
  · exact hw.elim
/-- x.count(y), x a list of data -/
def rCntD (K : PySem.W.Frag) : V → List V → Hp → VK → Prop := fun x xs H Q => ∃ (a : Addr) (y : V) (ds : List PyData) (d : PyData), x = .ref a ∧ xs = [y] ∧ Dp K H (.ref a) (.list ds) ∧ Dp K H y d ∧ PyData.plainAll ds = true ∧ d.plain = true ∧ d.depth ≤ 60 ∧ Q (.int ((ds.countP fun y => PyData.eqv y d : Nat) : Int)) H
theorem mt_countD {k : Nat} (hr : Room k X.A) : MtR X "list.count" (rCntD X.K) := by
  intro pins s σ H x xs v us Q I rx rxs h
  obtain ⟨a, y, ds, d, rfl, rfl, h1, h2, h3, h4, h5, q⟩ := h
  cases rx
  obtain ⟨u, rfl, ru⟩ := rxs.one
  obtain ⟨as, r1⟩ := Dp.reads I _ _ _ h1 rfl
  obtain ⟨bs, r2⟩ := Dp.reads I _ _ _ h2 ru
  cases r1 with
  | list ho hc hd hr' => exact SeqAt.count_list_data ⟨_, ho, hc, _, hd⟩ hr' r2 h3 h4 (by have := hr.un; have := Nat.min_le_right (PyData.depthAll ds) d.depth; omega) ⟨.int _, H, I.tok _, ⟨_, rfl⟩, q⟩
def countD : FM := fun x ds p => match ds with
  | [y] => ∃ a b, toPy x = some (.list a) ∧ toPy y = some b ∧ PyData.plainAll a = true ∧ b.plain = true ∧ b.depth ≤ 60 ∧ p (.int ((a.countP fun y => PyData.eqv y b : Nat) : Int))
  | _ => False
theorem d_count : OpM T (rCntD T.K) countD := fun S H x dx vs ds post Q ok r1 rv q hw => by
  unfold countD at hw
  split at hw
  · obtain ⟨y, rfl, r2⟩ := rv.one
    obtain ⟨a, b, h1, h2, h3, h4, h5, h6⟩ := hw
    have e1 := r1.py h1
    cases e1 with
    | lst hs ha => exact ⟨_, y, a, b, rfl, rfl, .lst hs ha, r2.py h2, h3, h4, h5, q _ S H _ h6 ok .refl (.int _)⟩
  · exact hw.elim
end

/-! ### calls with keywords -/
def tCallKN (n m : Nat) (sp : Sp) (gV : List V → List V → List V) (E : St → XK) (t tk : TA) : TE := fun σ H Q => t σ H fun vs H1 => tk σ H1 fun zs H2 => vs.length = n ∧ zs.length = m ∧ sp (gV vs zs) H2 Q (E σ)
section
variable {T : Tb} {X : Cx} {W : WX} {k n : Nat} {f : Addr} {fd : FuncData} {ps ks : List Str} {sp : Sp} {E : St → XK} {x : Str} {p pos : Pos} {e : Expr} {es : List Expr} {kws : List Keyword} {t tk2 : TA} {g : List Value → List Value → List Value} {gV : List V → List V → List V}
theorem run_fnK {pins : List (Addr × Obj)} {σ : L2.St} {H : Hp} {s : Shared} {Q : VK} {us ws : List Value} {vs zs : List V} {E : XK} (F : FnG X.prog X.w X.K X.mg X.base k f fd ps sp) (hr : Room k X.A) (hgd : X.A.guards = some []) (hb : KBn X.K fd ps n ks g gV) (hx : PassesAt (L2.CX X.prog X.w) X σ E)
    (I : Inv X pins σ H s) (r : Vals vs us) (rz : Vals zs ws) (l1 : vs.length = n) (l2 : zs.length = ks.length) (h : sp (gV vs zs) H Q E) : wpAny (model X.prog X.w) X.A (call (.ref f) us (ks.zip ws)) (L2.EP X pins σ Q) X.xe s := by
  have run := F.run X.A X.stack s H ⟨us, ks.zip ws⟩ (g us ws) (gV vs zs) Q E hr hgd I.env0 (hb.to s us ws I.kIn (r.length.symm.trans l1) (rz.length.symm.trans l2)) (hb.rel r rz) h
  refine wpAny_call (codeAny_mono run fun r s' hq => ?_)
  match r, hq with
  | .error e, hq => exact hx pins H s e s' I hq
  | .ok (.ret u), hq => exact I.after hq
  | .ok .next, hq => exact False.elim hq
  | .ok .brk, hq => exact False.elim hq
  | .ok .cont, hq => exact False.elim hq
theorem pe_callKN (F : FnG X.prog X.w X.K X.mg X.base k f fd ps sp) (hr : Room k X.A) (hgd : X.A.guards = some []) (hg : Gl X x) (hm : X.mg x = some (.ref f)) (hk : PySem.W.keepIn X.K (.ref f) = true) (hb : KBn X.K fd ps n ks g gV) (hx : ∀ σ, PassesAt (L2.CX X.prog X.w) X σ (E σ))
    (ha : PA X (e :: es) t) (hkw : PK X kws tk2) (hall : (backToKw pos (keywordEach kws X.env)).all (·.1.isSome) = true := by rfl) (hks : (backToKw pos (keywordEach kws X.env)).filterMap (·.1) = ks := by rfl)
    (hdb : (x == ("__debug__" : Str)) = false := by decide) (he : starEach (e :: es) X.env = (false, eval e X.env) :: starEach es X.env := by rfl)
    (hpl : ((backTo pos (starEach (e :: es) X.env)).any (·.1) || (backToKw pos (keywordEach kws X.env)).any (·.1.isNone)) = false := by rfl) :
    PE X (.Call (.Name x p) (e :: es) kws pos) (tCallKN n ks.length sp gV E t tk2) := by
  refine ⟨fun pins s σ H Q I h => wpAny_Call_Name_kw (ld_glob I hg hm (PySem.W.callWith_KW (h₀ := X.base) I.ok.mod.kin hk hall (thn (ha.run pos pins s σ H _ I h) fun us s1 ⟨vs, H1, I1, r, q⟩ => ?_) hpl he) hdb)⟩
  refine thn (hkw.run pos pins s1 σ H1 _ I1 q) fun ws s2 ⟨zs, H2, I2, rz, l1, l2, q2⟩ => ⟨I2.kIn, ?_⟩
  rw [hks]; exact run_fnK F hr hgd hb (hx σ) I2 r rz l1 l2 q2
/-- keywords alone -/
theorem pe_callKN0 (F : FnG X.prog X.w X.K X.mg X.base k f fd ps sp) (hr : Room k X.A) (hgd : X.A.guards = some []) (hg : Gl X x) (hm : X.mg x = some (.ref f)) (hk : PySem.W.keepIn X.K (.ref f) = true) (hb : KBn X.K fd ps 0 ks g gV) (hx : ∀ σ, PassesAt (L2.CX X.prog X.w) X σ (E σ))
    (hkw : PK X kws tk2) (hall : (backToKw pos (keywordEach kws X.env)).all (·.1.isSome) = true := by rfl) (hks : (backToKw pos (keywordEach kws X.env)).filterMap (·.1) = ks := by rfl)
    (hdb : (x == ("__debug__" : Str)) = false := by decide) (hpl : (backToKw pos (keywordEach kws X.env)).any (·.1.isNone) = false := by rfl) :
    PE X (.Call (.Name x p) [] kws pos) (tCallKN 0 ks.length sp gV E tNil tk2) := by
  refine ⟨fun pins s σ H Q I h => wpAny_Call_Name_kw (ld_glob I hg hm (PySem.W.callWith_KW0 (h₀ := X.base) I.ok.mod.kin hk hall (thn (hkw.run pos pins s σ H _ I h) fun ws s2 ⟨zs, H2, I2, rz, l1, l2, q2⟩ => ⟨I2.kIn, ?_⟩) hpl) hdb)⟩
  rw [hks]; exact run_fnK (us := []) (vs := []) F hr hgd hb (hx σ) I2 .nil rz l1 l2 q2
structure DK (T : Tb) (X : Cx) (W : WX) (e : List Keyword) (t : TA) (w : WA) : Prop where
  pk : PK X e t
  im : ImpA T W t w
theorem dk_nil : DK T X W [] tNil wNil := ⟨pk_nil, im_nilA⟩
theorem im_consA {t : TE} {ts : TA} {w : WE} {ws : WA} (h1 : ImpE T W t w) (h2 : ImpA T W ts ws) : ImpA T W (tCons t ts) (wCons w ws) := fun ρ σ S H H0 post ep Q ok er ex q h => by
  refine h1 ρ σ S H H0 _ ep _ ok er ex (fun d S1 H1 v p ok1 x1 r1 => ?_) h
  exact h2 ρ σ S1 H1 H0 _ ep _ ok1 (er.ext ok x1) (ex.ext x1) (fun ds S2 H2 vs p2 ok2 x2 r2 => q (d :: ds) S2 H2 (v :: vs) p2 ok2 (x1.trans x2) (.cons (r1.ext ok1 x2.to0) r2)) p
theorem dk_cons {te : TE} {we : WE} {ts : TA} {ws : WA} {nm : Option Str} {kpos : Pos} (h1 : DE T X W e te we) (h2 : DK T X W kws ts ws) : DK T X W (⟨nm, e, kpos⟩ :: kws) (tCons te ts) (wCons we ws) := ⟨pk_cons h1.pe h2.pk, im_consA h1.im h2.im⟩
/-- a reading's promise by keywords: gD puts the values in order -/
def wCallKN (n m : Nat) (w : WD) (gD : List D → List D → List D) (a b : WA) : WE := fun ρ post ep => a ρ (fun ds => b ρ (fun es k => ds.length = n ∧ es.length = m ∧ w (gD ds es) post ep k) ep) ep
theorem im_callKN {m : Nat} {w : WD} {gD : List D → List D → List D} {wa wk : WA} (hg : ∀ {S : VS} {H : Hp} {vs zs : List V} {ds es : List D}, RepL T S H vs ds → RepL T S H zs es → RepL T S H (gV vs zs) (gD ds es)) (ha : ImpA T W t wa) (hk : ImpA T W tk2 wk) : ImpE T W (tCallKN n m (spV T w) gV (EW W) t tk2) (wCallKN n m w gD wa wk) := fun ρ σ S H H0 post ep Q ok er ex q hw =>
  ha ρ σ S H H0 _ ep _ ok er ex (fun l S1 H1 vs p1 ok1 x1 r1 => hk ρ σ S1 H1 H0 _ ep _ ok1 (er.ext ok x1) (ex.ext x1) (fun l2 S2 H2 zs p2 ok2 x2 r2 => ⟨by rw [r1.length]; exact p2.1, by rw [r2.length]; exact p2.2.1, S2, gD l l2, post, ep, ok2, hg (r1.ext ok1 x2.to0) r2, q.ext (x1.trans x2), fun c ds S3 H3 d fs h1 h2 h3 h4 h5 => ex c ds S3 H3 d fs h1 h2 ((x1.trans x2).trans h3) h4 h5, p2.2.2⟩) p1) hw
end
end PyD

/-! PyD: the pen (cells, a place, a rest): a volatile thing. -/
namespace PyD
open PySem PySem.Spec PyProof.Rows L2
def penMost : Int := 4194304
def PenOk (n : Nat) (S : VS) (H : Hp) (a : Addr) : Prop := ∃ (L : Addr) (cells : List Int) (at_ rest : Int), H a = some (.lst [.ref L, .int at_, .int rest]) ∧ H L = some (.lst (cells.map V.int)) ∧ S L = none ∧ cells.length = n ∧ 0 ≤ at_ ∧ at_ + S.n ≤ penMost
/-- kind n: a pen of n cells -/
def penVol (n : Nat) (S : VS) (H : Hp) (a : Addr) : Prop := n ≤ 63 ∧ PenOk n S H a
def mkTb (K : PySem.W.Frag) (cA : Nat → Addr) (tabs : List (Addr × Str)) : Tb where
  K := K
  cA := cA
  vol := penVol
  tabs := tabs
  lk := fun n S H H' a x ⟨e, L, cells, at_, rest, h1, h2, h3, h4, h5, h6⟩ => ⟨e, L, cells, at_, rest, x.other h1, x.other h2, h3, h4, h5, h6⟩
  st := fun n S S' H H' a ⟨e, L, cells, at_, rest, h1, h2, h3, h4, h5, h6⟩ keep hn ha => by
    obtain ⟨k1, k2⟩ := keep L _ h2 (fun _ z => by cases z) h3
    exact ⟨e, L, cells, at_, rest, by rw [ha]; exact h1, k1, k2, h4, h5, by omega⟩
/-- a pen's part c -/
def wPen (i c : Nat) : WE := fun ρ post _ n => ∃ L, ρ[i]? = some (.val (.vol L)) ∧ match c with
  | 0 => ∀ cells : List Int, cells.length = L → L ≤ 63 → post (.lst (cells.map D.int)) n
  | 1 => ∀ a : Int, 0 ≤ a → a + n ≤ penMost → post (.int a) n
  | 2 => ∀ r : Int, post (.int r) n
  | _ => False
/-- pen[1] = e: a draw is used up -/
def wPenAt (i : Nat) (e : WE) : WS := fun ρ K => e ρ (fun d k => (∃ L, ρ[i]? = some (.val (.vol L))) ∧ ∃ (v : Int) (k' : Nat), d = .int v ∧ k = k' + 1 ∧ 0 ≤ v ∧ v + k' ≤ penMost ∧ K.nx ρ k') K.ex
/-- pen[2] = e -/
def wPenRest (i : Nat) (e : WE) : WS := fun ρ K => e ρ (fun d k => (∃ L, ρ[i]? = some (.val (.vol L))) ∧ ∃ v : Int, d = .int v ∧ K.nx ρ k) K.ex
/-- an own list becomes a pen -/
def wInk (i : Nat) (a : WS) : WS := fun ρ K k => ∃ (cells : List Int) (at_ rest : Int), ρ[i]? = some (.own [.lst (cells.map D.int), .int at_, .int rest]) ∧ cells.length ≤ 63 ∧ 0 ≤ at_ ∧ at_ + k ≤ penMost ∧ a (ρ.set i (.val (.vol cells.length))) K k
section
variable {T : Tb} {X : Cx} {W : WX} {i : Nat}
theorem ints_rep {S : VS} {H : Hp} : ∀ {l : List Int} {vs : List V}, RepL T S H vs (l.map D.int) → vs = l.map V.int
  | [], _, h => by cases h; rfl
  | i :: l, _, h => by
    cases h with
    | cons r t => cases r; rw [ints_rep t]; rfl
theorem im_pen {K : PySem.W.Frag} {cA : Nat → Addr} {tabs : List (Addr × Str)} {c : Nat} : ImpE (mkTb K cA tabs) W (tOp (rIx K) (tVar i) (tC (.int (c : Int)))) (wPen i c) := fun ρ σ S H H0 post ep Q ok er ex q hw => by
  obtain ⟨N, e1, hw⟩ := hw
  obtain ⟨v, e2, r⟩ := er.val i _ e1
  cases r with
  | vol hs =>
    obtain ⟨h63, L, cells, at_, rest, h1, h2, h3, h4, h5, h6⟩ := ok.vol _ N hs
    refine ⟨_, e2, ?_⟩
    have go : ∀ (u : V) (d : D), atI ([.ref L, .int at_, .int rest] : List V) (c : Int) = some u → Rep (mkTb K cA tabs) S H u d → post d S.n → rIx K (V.ref _) (.int (c : Int)) H Q := fun u d e r p => .inl ⟨_, _, _, u, rfl, rfl, SqL.of h1, e, q d S H u p ok .refl r⟩
    match c, hw with
    | 0, hw => exact go _ _ rfl (.lst h2 h3 (rep_ints cells)) (hw cells h4 h63)
    | 1, hw => exact go _ _ rfl (.int _) (hw at_ h5 h6)
    | 2, hw => exact go _ _ rfl (.int _) (hw rest)
theorem de_pen {K : PySem.W.Frag} {cA : Nat → Addr} {tabs : List (Addr × Str)} {c : Nat} {x : Str} {p p2 pos : Pos} {j : Nat} (hK : X.K = K) (h1 : PE X (.Name x p) (tVar i)) : DE (mkTb K cA tabs) X W (.Subscript (.Name x p) (.Constant (.int (c : Int)) j p2) pos) (tOp (rIx X.K) (tVar i) (tC (.int (c : Int)))) (wPen i c) :=
  ⟨pe_ix ix_seq h1 pe_int (fun _ _ => rfl), by rw [hK]; exact im_pen⟩
/-- the pen at p is written -/
theorem pen_upd {S : VS} {H : Hp} {K : PySem.W.Frag} {cA : Nat → Addr} {tabs : List (Addr × Str)} {p L : Addr} {cells : List Int} {at_ rest a2 r2 : Int} {k' N : Nat} (ok : Ok (mkTb K cA tabs) S H) (h63 : N ≤ 63) (hs : S p = some (.vk N)) (h1 : H p = some (.lst [.ref L, .int at_, .int rest])) (h2 : H L = some (.lst (cells.map V.int))) (h3 : S L = none) (h4 : cells.length = N)
    (hk : k' ≤ S.n) (h5 : 0 ≤ a2) (h6 : a2 + k' ≤ penMost) : Ok (mkTb K cA tabs) ⟨S.f, k'⟩ (upd H p (.lst [.ref L, .int a2, .int r2])) ∧ Ext S H ⟨S.f, k'⟩ (upd H p (.lst [.ref L, .int a2, .int r2])) := by
  have x : Ext S H ⟨S.f, k'⟩ (upd H p (.lst [.ref L, .int a2, .int r2])) := ⟨fun b o e n m => by
    have nb : b ≠ p := fun z => m N (by rw [z]; exact hs)
    exact ⟨by rw [upd_ne nb]; exact e, rfl⟩, fun b n e => e, fun b ps e => ⟨ps, by
    have nb : b ≠ p := fun z => by rw [z, h1] at e; cases e
    rw [upd_ne nb]; exact e⟩⟩
  refine ⟨⟨fun b n e => ?_, fun b kd e => ?_, tabs_keep ok.tabs fun b o e n _ _ => ?_⟩, x⟩
  · by_cases hb : b = p
    · have e2 : S b = some (.vk n) := e
      rw [hb, hs] at e2
      cases e2
      rw [hb]
      have nL : L ≠ p := fun z => by rw [z, hs] at h3; cases h3
      exact ⟨h63, L, cells, a2, r2, upd_same, by rw [upd_ne nL]; exact h2, h3, h4, h5, h6⟩
    · exact (mkTb K cA tabs).st n S _ H _ b (ok.vol b n e) (fun c u h k1 k2 => x.to0.keep c u h k1 k2) hk (upd_ne hb)
  · by_cases hb : b = p
    · rw [hb]; exact .inl ⟨_, upd_same⟩
    · rw [upd_ne hb]; exact ok.chg b kd e
  · have nb : b ≠ p := fun z => n _ (Option.some.inj (e.symm.trans (by rw [z]; exact h1)))
    rw [upd_ne nb]; exact e
theorem im_penAt {K : PySem.W.Frag} {cA : Nat → Addr} {tabs : List (Addr × Str)} {te : TE} {we : WE} (h : ImpE (mkTb K cA tabs) W te we) : ImpS (mkTb K cA tabs) W (tAsg te (gSub (tVar i) (tC (.int 1)) rSetL)) (wPenAt i we) := fun ρ σ S H S0 H0 KK En ok0 ok b er k hw =>
  h ρ σ S H H0 _ _ _ ok er (ExW.of k.ex b) (fun d S1 H1 v p1 ok1 x1 r1 => by
    obtain ⟨⟨N, e1⟩, a2, k', rfl, hk, h5, h6, hn⟩ := p1
    have er1 := er.ext ok x1
    obtain ⟨u, e2, ru⟩ := er1.val i _ e1
    cases r1
    cases ru with
    | vol hs =>
      obtain ⟨h63, L, cells, at_, rest, q1, q2, q3, q4, q5, q6⟩ := ok1.vol _ N hs
      refine ⟨_, e2, _, _, 1, 1, rfl, rfl, q1, rfl, ?_⟩
      obtain ⟨o2, x2⟩ := pen_upd (r2 := rest) ok1 h63 hs q1 q2 q3 q4 (by omega) h5 h6
      exact k.nx ρ _ ⟨S1.f, k'⟩ _ hn ⟨o2, b.trans (x1.trans x2), (x1.trans x2).to0, er1.ext ok1 x2⟩) hw
theorem im_penRest {K : PySem.W.Frag} {cA : Nat → Addr} {tabs : List (Addr × Str)} {te : TE} {we : WE} (h : ImpE (mkTb K cA tabs) W te we) : ImpS (mkTb K cA tabs) W (tAsg te (gSub (tVar i) (tC (.int 2)) rSetL)) (wPenRest i we) := fun ρ σ S H S0 H0 KK En ok0 ok b er k hw =>
  h ρ σ S H H0 _ _ _ ok er (ExW.of k.ex b) (fun d S1 H1 v p1 ok1 x1 r1 => by
    obtain ⟨⟨N, e1⟩, a2, rfl, hn⟩ := p1
    have er1 := er.ext ok x1
    obtain ⟨u, e2, ru⟩ := er1.val i _ e1
    cases r1
    cases ru with
    | vol hs =>
      obtain ⟨h63, L, cells, at_, rest, q1, q2, q3, q4, q5, q6⟩ := ok1.vol _ N hs
      refine ⟨_, e2, _, _, 2, 2, rfl, rfl, q1, rfl, ?_⟩
      obtain ⟨o2, x2⟩ := pen_upd (a2 := at_) (r2 := a2) ok1 h63 hs q1 q2 q3 q4 (Nat.le_refl _) q5 q6
      exact k.nx ρ _ ⟨S1.f, S1.n⟩ _ hn ⟨o2, b.trans (x1.trans x2), (x1.trans x2).to0, er1.ext ok1 x2⟩) hw
section
variable {K : PySem.W.Frag} {cA : Nat → Addr} {tabs : List (Addr × Str)} {te : TE} {we : WE} {e : Expr} {x : Str} {p p2 p3 pos : Pos} {j : Nat}
theorem ds_penAt (h1 : PE X (.Name x p) (tVar i)) (h : DE (mkTb K cA tabs) X W e te we)
    (hs : swapsWithSole [.Subscript (.Name x p) (.Constant (.int 1) j p2) p3] e pos.line X.env = pure false := by rfl) (hw : swappedStores [.Subscript (.Name x p) (.Constant (.int 1) j p2) p3] e X.env = pure none := by rfl)
    (hq : (assignEach [.Subscript (.Name x p) (.Constant (.int 1) j p2) p3] X.env).map (·.2) = [assign (.Subscript (.Name x p) (.Constant (.int 1) j p2) p3) X.env] := by rfl) :
    DS (mkTb K cA tabs) X W (.Assign [.Subscript (.Name x p) (.Constant (.int 1) j p2) p3] e pos) (tAsg te (gSub (tVar i) (tC (.int 1)) rSetL)) (wPenAt i we) := ⟨ps_asg h.pe (pg_sub h1 pe_int set_list (by intro _; rfl)) hs hw hq, im_penAt h.im⟩
theorem ds_penRest (h1 : PE X (.Name x p) (tVar i)) (h : DE (mkTb K cA tabs) X W e te we)
    (hs : swapsWithSole [.Subscript (.Name x p) (.Constant (.int 2) j p2) p3] e pos.line X.env = pure false := by rfl) (hw : swappedStores [.Subscript (.Name x p) (.Constant (.int 2) j p2) p3] e X.env = pure none := by rfl)
    (hq : (assignEach [.Subscript (.Name x p) (.Constant (.int 2) j p2) p3] X.env).map (·.2) = [assign (.Subscript (.Name x p) (.Constant (.int 2) j p2) p3) X.env] := by rfl) :
    DS (mkTb K cA tabs) X W (.Assign [.Subscript (.Name x p) (.Constant (.int 2) j p2) p3] e pos) (tAsg te (gSub (tVar i) (tC (.int 2)) rSetL)) (wPenRest i we) := ⟨ps_asg h.pe (pg_sub h1 pe_int set_list (by intro _; rfl)) hs hw hq, im_penRest h.im⟩
theorem im_ink {t : TS} {w : WS} (h : ImpS (mkTb K cA tabs) W t w) : ImpS (mkTb K cA tabs) W t (wInk i w) := fun ρ σ S H S0 H0 KK En ok0 ok b er k hw => by
  obtain ⟨cells, at_, rest, e1, hc, h5, h6, hw⟩ := hw
  obtain ⟨p, xs, k1, k2, k3, k4, k5⟩ := er.own i _ e1
  obtain ⟨v1, v2, v3, exs, r1, r2, r3⟩ : ∃ v1 v2 v3, xs = [v1, v2, v3] ∧ Rep (mkTb K cA tabs) S H v1 (.lst (cells.map D.int)) ∧ Rep (mkTb K cA tabs) S H v2 (.int at_) ∧ Rep (mkTb K cA tabs) S H v3 (.int rest) := by
    cases k4 with
    | cons r t =>
      obtain ⟨u1, u2, e2, r2, r3⟩ := t.two
      exact ⟨_, u1, u2, by rw [e2], r, r2, r3⟩
  rw [exs] at k2
  cases r2
  cases r3
  cases r1 with
  | @lst L _ _ q1 q2 q3 =>
    rw [ints_rep q3] at q1
    let S' : VS := ⟨fun b => if b = p then some (.vk cells.length) else S b, S.n⟩
    have at_p : S' p = some (.vk cells.length) := if_pos rfl
    have off : ∀ {b}, b ≠ p → S' b = S b := fun h => if_neg h
    have nL : L ≠ p := fun z => by rw [z, k3] at q2; cases q2
    have x : Ext0 S H S' H := ⟨fun c o e _ n => by
      have nc : c ≠ p := fun z => by rw [z, k3] at n; cases n
      exact ⟨e, (off nc).trans n⟩, fun c n e => by
      have nc : c ≠ p := fun z => by rw [z, k3] at e; cases e
      exact (off nc).trans e⟩
    have ok' : Ok (mkTb K cA tabs) S' H := ⟨fun c n e => by
      by_cases hb : c = p
      · rw [hb, at_p] at e
        cases e
        rw [hb]
        exact ⟨hc, L, cells, at_, rest, k2, q1, (off nL).trans q2, rfl, h5, h6⟩
      · rw [off hb] at e
        exact (mkTb K cA tabs).st n S _ H _ c (ok.vol c n e) (fun c u h k1 k2 => x.keep c u h k1 k2) (Nat.le_refl _) rfl, fun c kd e => by
      by_cases hb : c = p
      · rw [hb]; exact .inl ⟨_, k2⟩
      · rw [off hb] at e; exact ok.chg c kd e, ok.tabs⟩
    have b' : Ext S0 H0 S' H := ⟨fun c o e n m => by
      have nc : c ≠ p := ne_of_none e k5
      obtain ⟨j1, j2⟩ := b.keep c o e n m
      exact ⟨j1, (off nc).trans j2⟩, fun c n e => by
      have nc : c ≠ p := fun z => by rw [z, ok0.new k5] at e; cases e
      exact (off nc).trans (b.vk c n e), b.tb⟩
    refine h (ρ.set i (.val (.vol cells.length))) σ S' H S0 H0 KK En ok0 ok' b' ⟨by rw [List.length_set]; exact er.len, fun j d e => ?_, fun j ds' e => ?_, fun j k ds' es' a q1 q2 q3 q4 => ?_, fun j c fs e => ?_, fun j k c c' fs fs' q1 q2 => ?_⟩ (k.after x) hw
    · by_cases hj : i = j
      · subst hj
        by_cases hl : i < ρ.length
        · rw [List.getElem?_set_self hl] at e
          cases e
          exact ⟨_, k1, .vol at_p⟩
        · rw [List.getElem?_eq_none (by simpa using hl)] at e; cases e
      · rw [List.getElem?_set_ne hj] at e
        obtain ⟨v, j1, j2⟩ := er.val j d e
        exact ⟨v, j1, j2.ext ok x⟩
    · have nj : i ≠ j := fun hj => by
        subst hj
        by_cases hl : i < ρ.length
        · rw [List.getElem?_set_self hl] at e; cases e
        · rw [List.getElem?_eq_none (by simpa using hl)] at e; cases e
      rw [List.getElem?_set_ne nj] at e
      obtain ⟨a, zs, j1, j2, j3, j4, j5⟩ := er.own j ds' e
      have na : a ≠ p := fun z => nj (er.dis i j _ ds' p e1 e k1 (by rw [← z]; exact j1))
      exact ⟨a, zs, j1, j2, (off na).trans j3, j4.ext ok x, j5⟩
    · have back : ∀ {m : Nat} {fs : List D}, (ρ.set i (.val (.vol cells.length)))[m]? = some (.own fs) → ρ[m]? = some (.own fs) := fun {m fs} e => by
        by_cases hj : i = m
        · subst hj
          by_cases hl : i < ρ.length
          · rw [List.getElem?_set_self hl] at e; cases e
          · rw [List.getElem?_eq_none (by simpa using hl)] at e; cases e
        · rw [List.getElem?_set_ne hj] at e; exact e
      exact er.dis j k _ _ a (back q1) (back q2) q3 q4
    · obtain ⟨n, z⟩ := set_back (by simp) e
      obtain ⟨a, dx, vs, j1, j2, j3, j4, j5⟩ := er.obj j c fs z
      have na : a ≠ p := fun z => by rw [z, k2] at j2; cases j2
      exact ⟨a, dx, vs, j1, j2, (off na).trans j3, j4.ext ok x, j5⟩
    · exact er.odis j k c c' fs fs' (set_back (by simp) q1).2 (set_back (by simp) q2).2
theorem dss_ink {sts : List Stmt} {t : TS} {w : WS} (h : DSs (mkTb K cA tabs) X W sts t w) : DSs (mkTb K cA tabs) X W sts t (wInk i w) := ⟨h.pss, im_ink h.im⟩
end
end
end PyD

/-! PyD: a law's end; what the head tells. -/
namespace PyD
open PySem PySem.Spec PyProof.Rows L2
theorem callerG : callerA.guards = some [] := rfl
/-- what is tracked at the start: the script (if it is not in K), the tables -/
def H00 (K : PySem.W.Frag) (a : Addr) (vs : List Value) (ns : List Int) (tb : List Addr) : Hp := fun b => if b ∈ tb then some (.tbl #[]) else if b = a ∧ K.lookup a = none then some (.frz { cls := .type "list", data := .seq vs.toArray } (.lst (ns.map V.int))) else none
section
variable {K : PySem.W.Frag} {a : Addr} {vs : List Value} {ns : List Int} {tb : List Addr}
theorem h00_tb {b : Addr} (h : b ∈ tb) : H00 K a vs ns tb b = some (.tbl #[]) := if_pos h
theorem h00_a (h : a ∉ tb) (hk : K.lookup a = none) : H00 K a vs ns tb a = some (.frz { cls := .type "list", data := .seq vs.toArray } (.lst (ns.map V.int))) := (if_neg h).trans (if_pos ⟨rfl, hk⟩)
theorem h00_cases {b : Addr} {u : HO} (h : H00 K a vs ns tb b = some u) : (b ∈ tb ∧ u = .tbl #[]) ∨ (b = a ∧ K.lookup a = none ∧ u = .frz { cls := .type "list", data := .seq vs.toArray } (.lst (ns.map V.int))) := by
  unfold H00 at h
  split at h
  · rename_i hb; exact .inl ⟨hb, (Option.some.inj h).symm⟩
  · split at h
    · rename_i hb; exact .inr ⟨hb.1, hb.2, (Option.some.inj h).symm⟩
    · cases h
end
/-- the law's call -/
theorem law_callG {P : Program} {w : World} {K : PySem.W.Frag} {mg mb : Str → Option Value} {k : Nat} {fa a : Addr} {cs : List (Addr × Addr)} {fd : FuncData} {x : Str} {sp : Sp} {s₁ : Shared} {vs : List Value} {ns : List Int}
    (KX : K.In s₁.heap) (hns : s₁.heap.Ns mainGlobals mg) (hb : s₁.heap.Ns builtinsNs mb) (hbb : ∀ x : Str, x ≠ "__name__" → mb x = bootBuiltins x) (hlim : s₁.heap.NoLimit) (hg : s₁.gens = #[])
    (hT : ∀ p ∈ cs, s₁.heap.get? p.2 = some { cls := .none, data := .fields #[] }) (nT : ∀ p ∈ cs, K.lookup p.2 = none) (C : ∀ p ∈ cs, PySem.W.CodeHd s₁.heap p.1 p.2)
    (hbm : ∃ (bm : Addr) (ob : Obj), mg "__builtins__" = some (.ref bm) ∧ bm ≠ builtinsNs ∧ s₁.heap.get? bm = some ob ∧ ob.cls = .type "module" ∧ ob.dict = some builtinsNs ∧ ob.data = .plain)
    (ha : s₁.heap.get? a = some { cls := .type "list", data := .seq vs.toArray }) (hi : IntsAre vs ns) (hl : ns.length ≤ sizeLine) (hr : Room k callerA)
    (F : ∀ base : Heap, K.In base → base.Ns mainGlobals mg → (∀ p ∈ cs, LamX.TabB base mg p.1 p.2) → FnG P w K mg base k fa fd [x] sp) (hbind : ∀ (s : Shared) (u : Value), BindsTo s fd ⟨[u], []⟩ [(x, u)])
    (hsp : ∀ H : Hp, (∀ p ∈ cs, H p.2 = some (.tbl #[])) → ScrO K H a (ns.map V.int) → sp [.ref a] H (fun v _ => v = .bl true) fun _ _ _ => False) :
    codeAny (model P w) callerA (.call (.ref fa) ⟨[.ref a], []⟩) (fun r s' => r = .ok (.ret (.bool true)) ∧ OldK s₁.heap s'.heap ∧ s'.os = s₁.os ∧ AllBare s'.gens) s₁ := by
  have rv := vals_ints hi; have lenV := hi.length
  let tb := cs.map (·.2)
  have isT : ∀ b ∈ tb, s₁.heap.get? b = some { cls := .none, data := .fields #[] } ∧ K.lookup b = none := fun b hb => by
    obtain ⟨p, hp, e⟩ := List.mem_map.mp hb
    exact e ▸ ⟨hT p hp, nT p hp⟩
  have aT : a ∉ tb := fun z => by
    have q := (isT a z).1
    rw [ha] at q
    cases (show Data.seq vs.toArray _ = Data.fields #[] from congrArg Obj.data (Option.some.inj q))
  have memT : ∀ p ∈ cs, p.2 ∈ tb := fun p hp => List.mem_map.mpr ⟨p, hp, rfl⟩
  let H := H00 K a vs ns tb
  have hH : ∀ p ∈ cs, H p.2 = some (.tbl #[]) := fun p hp => h00_tb (memT p hp)
  have hok : HOk P w H s₁.heap := fun b u e => by
    rcases h00_cases e with ⟨q, rfl⟩ | ⟨rfl, _, rfl⟩
    · exact (isT b q).1
    · exact ⟨ha, by rw [List.length_map]; exact hl, vs, _, rv, ha⟩
  have scr : ScrO K H a (ns.map V.int) := by
    cases hk : K.lookup a with
    | none => exact .inl ⟨_, h00_a aT hk⟩
    | some o =>
      have e := KX a o hk
      rw [ha] at e; cases e
      exact .inr ⟨_, vs.toArray, _, hk, rfl, rfl, rfl, by rw [List.size_toArray, lenV]; exact hl, by simpa using rv⟩
  -- an object that is no list, no empty table is untracked, and stands in the base
  have noH : ∀ {b : Addr} {o : Obj}, s₁.heap.get? b = some o → (∀ vs n, o.data ≠ .seq vs n) → o.data ≠ .fields #[] → H b = none := fun {b o} e h1 h2 => by
    cases q : H b with
    | none => rfl
    | some u =>
      rcases h00_cases q with ⟨z, _⟩ | ⟨rfl, _, _⟩
      · rw [(isT b z).1] at e; cases e
        exact absurd rfl h2
      · rw [ha] at e; cases e
        exact absurd rfl (h1 _ _)
  have inB : ∀ {b : Addr} {o : Obj}, s₁.heap.get? b = some o → H b = none → (hidT s₁.heap H).get? b = some o := fun e n => hidT_get e n
  have nsB : ∀ {b : Addr} {m : Str → Option Value}, s₁.heap.Ns b m → (hidT s₁.heap H).Ns b m := fun {b m} ⟨o, es, ep, e, d, r⟩ => ⟨o, es, ep, inB e (noH e (fun _ _ z => by rw [d] at z; cases z) fun z => by rw [d] at z; cases z), d, r⟩
  have hKb : K.In (hidT s₁.heap H) := fun b o e => inB (KX b o e) (by
    cases q : H b with
    | none => rfl
    | some u =>
      rcases h00_cases q with ⟨z, _⟩ | ⟨rfl, z, _⟩
      · rw [(isT b z).2] at e; cases e
      · rw [z] at e; cases e)
  have TB : ∀ p ∈ cs, LamX.TabB (hidT s₁.heap H) mg p.1 p.2 := fun p hp => by
    have hTp := hT p hp
    obtain ⟨oG, esG, epG, eG, dG, _⟩ := id hns
    refine ⟨?_, ?_, fun z => by rw [z, hTp] at eG; cases eG; cases dG⟩
    · obtain ⟨o, us, file, tf, flags, tg, inF, text, tt, e1, r1, r2, r3, r4, r5, r6, r7, r8, hne⟩ := C p hp
      exact ⟨o, us, file, tf, flags, tg, inF, text, tt, inB e1 (noH e1 (fun _ _ z => by rw [r2] at z; cases z) fun z => by rw [r2] at z; cases z; simp at r3), r1, r2, r3, r4, r5, r6, r7, r8, hne⟩
    · obtain ⟨bm, ob, b1, b2, b3, b4, b5, b6⟩ := hbm
      exact ⟨bm, ob, b1, b2, (fun q => by rw [q, eG] at b3; cases b3; rw [dG] at b6; cases b6), (fun q => by rw [q, hTp] at b3; cases b3; cases b6), inB b3 (noH b3 (fun _ _ z => by rw [b6] at z; cases z) fun z => by rw [b6] at z; cases z), b4, b5, b6⟩
  have e0 : Env0 P w K mg (hidT s₁.heap H) callerA [] s₁ H := ⟨rfl, ⟨hKb, nsB hns, ⟨mb, nsB hb, hbb⟩, let ⟨mc, h1, h2⟩ := hlim; ⟨mc, nsB h1, h2⟩⟩, fun b o e => of_hidT e, Nat.le_of_eq (hidT_size _ _), trivial, (fun b hb => by cases (show b ∈ ([] : List Addr) from hb)), hok, .of_eq hg⟩
  refine codeAny_mono ((F _ hKb (nsB hns) TB).run callerA [] s₁ H ⟨[.ref a], []⟩ [.ref a] [.ref a] _ _ hr callerG e0 (hbind s₁ (.ref a)) (.cons rfl .nil) (hsp H hH scr)) fun r s' h => ?_
  match r, h with
  | .error e, h =>
    obtain ⟨_, _, _, _, _, _, _, _, _, _, _, _, z⟩ := h
    exact z.elim
  | .ok .next, h => exact False.elim h
  | .ok .brk, h => exact False.elim h
  | .ok .cont, h => exact False.elim h
  | .ok (.ret u), ⟨v, H', os, bare, un, hok', r', q⟩ =>
    cases (show v = .bl true from q)
    obtain rfl : u = Value.bool true := r'
    have key : ∀ b o, b ∉ tb → s₁.heap.get? b = some o → s'.heap.get? b = some o := fun b o nb e => by
      cases q : H b with
      | none => exact un.keep b o e q (fun z => by cases (show b ∈ ([] : List Addr) from z)) (by simp)
      | some u =>
        rcases h00_cases q with ⟨z, _⟩ | ⟨rfl, _, rfl⟩
        · exact absurd z nb
        · obtain ⟨k1, _⟩ := hok b _ q
          obtain ⟨k2, _⟩ := hok' b _ (un.frzs b _ _ q)
          rw [e] at k1; cases k1
          exact k2
    have grown : ∀ p ∈ cs, ∃ more : Array Value, s'.heap.get? p.2 = some { cls := .none, data := .fields more } := fun p hp => by
      obtain ⟨more, z⟩ := un.tbls p.2 #[] (hH p hp)
      exact ⟨_, hok' p.2 _ z⟩
    refine ⟨rfl, ⟨fun b o e => ?_, fun b o e => ?_⟩, os, bare⟩
    · by_cases hb : b ∈ tb
      · obtain ⟨p, hp, ep⟩ := List.mem_map.mp hb
        obtain ⟨more, hm⟩ := grown p hp
        rw [← ep, hT p hp] at e; cases e
        rw [← ep]
        exact .inr (.inl ⟨((C p hp).tab (hT p hp)).isCodeTable, rfl, #[], more, rfl, by rw [Array.empty_append]; exact hm⟩)
      · exact .inl (key b o hb e)
    · by_cases hb : b ∈ tb
      · obtain ⟨p, hp, ep⟩ := List.mem_map.mp hb
        obtain ⟨more, hm⟩ := grown p hp
        exact ⟨_, ep ▸ hm⟩
      · exact ⟨o, key b o hb e⟩
/-- a law whose promise is told at the head's heap -/
theorem walk_G {l : PySem.W.OpenLaw} {n k : Nat} {q : Program} {loose : List Str} {XP : (Str → Option Value) → Heap → Prop} {YP : World → Heap → Prop} {d : DefRec} {x : Str}
    (hn : l.most = some n) (hn2 : n ≤ sizeLine) (hdf : d.params.defaults = []) (hr : Room k callerA)
    (F : ∀ (w : World) (mg : Str → Option Value) (fa : Addr) (h : Heap), YP w h → h.Ns mainGlobals mg → mg d.name = some (.ref fa) → ∃ (K : PySem.W.Frag) (fd : FuncData) (cs : List (Addr × Addr)) (sp : Sp), K.In h ∧ (∀ p ∈ cs, h.get? p.2 = some { cls := .none, data := .fields #[] }) ∧ (∀ p ∈ cs, K.lookup p.2 = none) ∧ (∀ p ∈ cs, PySem.W.CodeHd h p.1 p.2) ∧
      (∀ (s : Shared) (u : Value), BindsTo s fd ⟨[u], []⟩ [(x, u)]) ∧ (∀ (H : Hp) (a : Addr) (ns : List Int), ns.length ≤ n → (∀ p ∈ cs, H p.2 = some (.tbl #[])) → ScrO K H a (ns.map V.int) → sp [.ref a] H (fun v _ => v = .bl true) fun _ _ _ => False) ∧
      ∀ base : Heap, K.In base → base.Ns mainGlobals mg → (∀ p ∈ cs, LamX.TabB base mg p.1 p.2) → FnG l.prog w K mg base k fa fd [x] sp) :
    PySem.W.WalkO q loose XP YP l.row.toRowW d [] (fun f vs => PySem.call f vs) := by
  refine Att.attach_callB hn hdf fun w s₀ s₁ mg mb fa o pm cd doc a vs ns G Y ho hd hcd hmg hobj hints hlen hbits hg => ?_
  obtain ⟨K, fd, cs, sp, KX, hT, nT, C, hb, hsp, hF⟩ := F w mg fa _ Y G.T.g hmg
  exact law_callG KX G.T.g G.T.b G.T.builtins G.T.nolimit hg hT nT C G.T.bmain hobj hints (Nat.le_trans hlen hn2) hr hF hb fun H h1 h2 => hsp H a ns hlen h1 h2
end PyD

/-! PyD: what the head tells of defs, tables and classes of errors. -/
namespace PyD
open PySem PySem.Spec PyProof.Rows L2
open PySem.W (Frag findIn specialIn takesIn typeIn subIn mroIn hasDictIn kitOne exmOne clsIn alongIn excInitIn keepIn nsIn codeIn)
/-- addresses that are looked at: reached in n steps from the module's names and from what is known of all classes -/
def asP (g : Addr → Option Obj) : Nat → List Addr
  | 0 => [mainGlobals, cStatics]
  | n + 1 => He.growD g (asP g n)
/-- .. and the modules' dict -/
def asQ (g : Addr → Option Obj) (n : Nat) : List Addr := asP g n ++ [sysModules]
/-- the def of __init__ in a class's body -/
def initOf : Stmt → Stmt
  | .ClassDef _ _ _ body _ _ _ _ _ _ _ => body.getD 0 (.Pass ⟨0, 0, 0, 0⟩)
  | s => s
/-- a class of errors with an own __init__: its name, its words, its class's place in the text -/
structure ErrD where
  name : Str
  as_ : List Str
  st : Stmt
abbrev InW : Type := Option (Str × Str × Arguments × FuncBody × Scope × Addr × Value × Value × Addr)
def iAd (K : Frag) (C : Addr) : Addr := He.ma K C "__init__"
def inW (K : Frag) (C : Addr) : InW := match K.lookup (iAd K C) with
  | some ⟨_, _, .func fd, _⟩ => some (fd.name, fd.qualname, fd.params, fd.body, fd.scope, fd.globals, fd.defaults, fd.kwdefaults, fd.builtins)
  | _ => none
def ErrD.val (d : ErrD) : InW := some ("__init__", d.name ++ ".__init__", defArgs (initOf d.st), .stmts (defBody (initOf d.st)), defScope (initOf d.st), mainGlobals, .none, .none, builtinsNs)
def askB (K : Frag) (C : Addr) : Bool := He.eqO (findIn K (.ref C) "__getattribute__") (some (some (.builtin "BaseException.__getattribute__"))) && (He.eqO (findIn K (.ref C) "__getattr__") (some none) && (decide (subIn K (.ref C) (.type "BaseException") = some true) && (hasDictIn K C &&
  (He.eqO (findIn K (.ref C) "__class__") (some (some (.builtin "object.__class__"))) && (He.eqO (specialIn K (.builtin "object.__class__") "__get__") (some (some (.builtin "getset_descriptor.__get__"))) && (decide (takesIn K (.builtin "object.__class__") = some true) && decide (mroIn K C (.type "object") = some true)))))))
theorem askB_ok {K : Frag} {C : Addr} (h : askB K C = true) : Er.Ask K C := by
  obtain ⟨h1, h⟩ := He.ba h
  obtain ⟨h2, h⟩ := He.ba h
  obtain ⟨h3, h⟩ := He.ba h
  obtain ⟨h4, h⟩ := He.ba h
  obtain ⟨h5, h⟩ := He.ba h
  obtain ⟨h6, h⟩ := He.ba h
  obtain ⟨h7, h8⟩ := He.ba h
  exact ⟨He.eqO_ok h1, He.eqO_ok h2, of_decide_eq_true h3, h4, He.eqO_ok h5, He.eqO_ok h6, of_decide_eq_true h7, of_decide_eq_true h8⟩
def clsB (K : Frag) (C : Addr) : Bool := match clsIn K C with
  | some cd => PX.refsVE cd.mro && (cd.hasDict && He.eqO (alongIn K "__init__" ((cd.mro.dropWhile (· != .ref C)).drop 1)) (some (some (.builtin "ValueError.__init__"))))
  | none => false
def fileB (prog : Program) (K : Frag) (ccd : Addr) : Bool := match K.lookup ccd with
  | some ⟨_, _, .fields vs, _⟩ => (match (vs[2]? : Option Value) with
    | some (.str file _) => (prog.main.file : Str) == file
    | _ => false)
  | _ => false
def cellB (K : Frag) (cc C : Addr) : Bool := match K.lookup cc with
  | some ⟨_, _, .cell (some (.ref D)), _⟩ => decide (D = C)
  | _ => false
def codeB (prog : Program) (K : Frag) (C : Addr) (q : Str) : Value → List (Str × Addr) → Bool
  | .ref ccd, [(n, cc)] => codeIn K (.ref ccd) q && (decide (n = ("__class__" : Str)) && (fileB prog K ccd && cellB K cc C))
  | _, _ => false
def fnB (prog : Program) (K : Frag) (C : Addr) : Bool := match K.lookup (iAd K C) with
  | some ⟨_, _, .func fd, _⟩ => codeB prog K C fd.qualname fd.code fd.closure
  | _ => false
theorem fileB_ok {prog : Program} {K : Frag} {ccd : Addr} (h : fileB prog K ccd = true) : ∃ (o : Obj) (vs : Array Value) (file : Str) (tf : Tok), K.lookup ccd = some o ∧ o.data = .fields vs ∧ vs[2]? = some (.str file tf) ∧ ((prog.main.file : Str) == file) = true := by
  unfold fileB at h
  split at h
  · rename_i c d vs s q
    split at h
    · rename_i file tk q2
      exact ⟨_, vs, file, tk, q, rfl, q2, h⟩
    · cases h
  · cases h
theorem cellB_ok {K : Frag} {cc C : Addr} (h : cellB K cc C = true) : ∃ o : Obj, K.lookup cc = some o ∧ o.data = .cell (some (.ref C)) := by
  unfold cellB at h
  split at h
  · rename_i c d D s q
    exact ⟨_, q, by rw [of_decide_eq_true h]⟩
  · cases h
theorem codeB_ok {prog : Program} {K : Frag} {C : Addr} {q : Str} {cv : Value} {cl : List (Str × Addr)} (h : codeB prog K C q cv cl = true) : ∃ ccd cc, cv = .ref ccd ∧ cl = [(("__class__" : Str), cc)] ∧ codeIn K (.ref ccd) q = true ∧ fileB prog K ccd = true ∧ cellB K cc C = true := by
  unfold codeB at h
  split at h
  · rename_i ccd n cc
    obtain ⟨k1, h2⟩ := He.ba h
    obtain ⟨k2, h2⟩ := He.ba h2
    obtain ⟨k3, k4⟩ := He.ba h2
    exact ⟨ccd, cc, rfl, by rw [of_decide_eq_true k2], k1, k3, k4⟩
  · cases h
def errB (prog : Program) (K : Frag) (C : Addr) (as_ : List Str) : Bool := excInitIn K C Er.veB "ValueError.__new__" && (clsB K C && (He.eqO (findIn K (.ref C) "__setattr__") (some (some (.builtin "object.__setattr__"))) && (askB K C && ((as_.all fun a => He.eqO (findIn K (.ref C) a) (some none)) &&
  (He.eqO (findIn K (.ref C) "__init__") (some (some (.ref (iAd K C)))) && (decide (typeIn K (.ref (iAd K C)) = some (.type "function")) && (keepIn K (.ref C) && (decide (subIn K (.ref C) (.type "ValueError") = some true) && (decide (typeIn K (.ref C) = some (.type "type")) &&
  (decide (mroIn K C (.ref C) = some true) && (He.eqO (nsIn K cStatics "thirdparty.any") (some none) && (He.eqO (nsIn K mainGlobals "super") (some none) && (!(prog.main.scope.names.lookup ("super" : Str)).isSome && fnB prog K C)))))))))))))
section
variable {prog : Program} {K : Frag} {C : Addr} {as_ : List Str}
theorem clsB_ok (h : clsB K C = true) : ∃ cd, clsIn K C = some cd ∧ PX.refsVE cd.mro = true ∧ cd.hasDict = true ∧ alongIn K "__init__" ((cd.mro.dropWhile (· != .ref C)).drop 1) = some (some (.builtin "ValueError.__init__")) := by
  unfold clsB at h
  cases e : clsIn K C with
  | none => rw [e] at h; cases h
  | some cd =>
    rw [e] at h
    obtain ⟨h1, h⟩ := He.ba h
    obtain ⟨h2, h3⟩ := He.ba h
    exact ⟨cd, rfl, h1, h2, He.eqO_ok h3⟩
theorem fnB_ok {d : ErrD} (h : fnB prog K C = true) (e : inW K C = d.val) (hb : ∀ (doc pm : Value) (an : Option Addr) (cdv ct : Value) (cc x : Addr) (us ps : List Value) (kw : List (Str × Value)), us.length = as_.length → Er.Form as_ us ps kw →
    bindArgs (PySem.W.ksFn "__init__" (d.name ++ ".__init__") (defArgs (initOf d.st)) (defBody (initOf d.st)) (defScope (initOf d.st)) .none .none doc pm an cdv ct cc) ⟨.ref x :: ps, kw⟩ = pure ((("self" : Str), Value.ref x) :: as_.zip us)) :
    Er.Fn prog K C (iAd K C) as_ (d.name ++ ".__init__") (defArgs (initOf d.st)) (defBody (initOf d.st)) (defScope (initOf d.st)) := by
  unfold fnB at h
  unfold inW at e
  cases q : K.lookup (iAd K C) with
  | none => rw [q] at h; cases h
  | some o =>
    obtain ⟨oc, od, dt, osl⟩ := o
    rw [q] at h e
    cases dt with
    | func fd =>
      obtain ⟨n1, n2, n3, n4, n5, n6, n7, n8, n9, n10, n11, n12, n13, n14, n15⟩ := fd
      have e2 : (some (n1, n2, n3, n4, n5, n6, n8, n9, n15) : InW) = d.val := e
      unfold ErrD.val at e2
      simp only [Option.some.injEq, Prod.mk.injEq] at e2
      obtain ⟨e1, e2, e3, e4, e5, e6, e8, e9, e15⟩ := e2
      subst e1 e2 e3 e4 e5 e6 e8 e9 e15
      obtain ⟨ccd, cc, rfl, rfl, k1, k3, k4⟩ := codeB_ok (show codeB prog K C (d.name ++ ".__init__") n13 n7 = true from h)
      obtain ⟨o1, vs, file, tk, q1, q2, q3, q4⟩ := fileB_ok k3
      obtain ⟨o2, q5, q6⟩ := cellB_ok k4
      exact ⟨oc, od, n10, n11, n12, ccd, cc, n14, osl, o1, o2, vs, file, tk, q, k1, q1, q2, q3, q4, q5, q6, fun s x us ps kw hu hf => .of_eq (hb _ _ _ _ _ _ x us ps kw hu hf)⟩
    | _ => cases h
theorem errB_ok {d : ErrD} {ps : List Arg} {p9 : Pos} (h : errB prog K C as_ = true) (e : inW K C = d.val) (hpar : defArgs (initOf d.st) = { posonlyargs := [], args := { arg := "self", annotation := none, pos := p9 } :: ps, vararg := none, kwonlyargs := [], kw_defaults := [], kwarg := none, defaults := [] })
    (B : Er.Body as_ ps (defBody (initOf d.st))) (S : Er.Sc (defScope (initOf d.st)) as_) (hb : ∀ (doc pm : Value) (an : Option Addr) (cdv ct : Value) (cc x : Addr) (us ps : List Value) (kw : List (Str × Value)), us.length = as_.length → Er.Form as_ us ps kw →
    bindArgs (PySem.W.ksFn "__init__" (d.name ++ ".__init__") (defArgs (initOf d.st)) (defBody (initOf d.st)) (defScope (initOf d.st)) .none .none doc pm an cdv ct cc) ⟨.ref x :: ps, kw⟩ = pure ((("self" : Str), Value.ref x) :: as_.zip us)) : ErrT prog K C as_ := by
  obtain ⟨h1, h⟩ := He.ba h
  obtain ⟨h2, h⟩ := He.ba h
  obtain ⟨h3, h⟩ := He.ba h
  obtain ⟨h4, h⟩ := He.ba h
  obtain ⟨h5, h⟩ := He.ba h
  obtain ⟨h6, h⟩ := He.ba h
  obtain ⟨h7, h⟩ := He.ba h
  obtain ⟨h8, h⟩ := He.ba h
  obtain ⟨h9, h⟩ := He.ba h
  obtain ⟨h10, h⟩ := He.ba h
  obtain ⟨h11, h⟩ := He.ba h
  obtain ⟨h12, h⟩ := He.ba h
  obtain ⟨h13, h⟩ := He.ba h
  obtain ⟨h14, h15⟩ := He.ba h
  have A := askB_ok h4
  refine ⟨iAd K C, _, _, _, _, ps, p9, { ini := h1, cls := clsB_ok h2, sa := He.eqO_ok h3, ga := A.ga, gg := A.gg, no := fun a ha => He.eqO_ok (List.all_eq_true.mp h5 a ha), iC := He.eqO_ok h6, tF := of_decide_eq_true h7, kp := h8, ex := A.ex, ve := of_decide_eq_true h9, ty := of_decide_eq_true h10, hd := A.hd, me := of_decide_eq_true h11, tp := He.eqO_ok h12, sup := He.eqO_ok h13, nsup := by simpa using h14 }, fnB_ok h15 e hb, hpar, B, S⟩
end

/-! ### the Hook -/
/-- what is told of classes: names of all (the first one is the base), those with an own __init__, words -/
structure ClsD where
  all : List Str := []
  errs : List ErrD := []
  words : List Str := []
  sub : Nat → Nat → Bool := fun _ _ => false
  imps : List (Str × String) := []
  own : List Str := []
  okX : Frag → Bool := fun _ => true
def ClsD.cA (c : ClsD) (K : Frag) (i : Nat) : Addr := He.ga K ((c.all ++ c.own).getD i "")
def ClsD.okA (c : ClsD) (prog : Program) (K : Frag) : Bool := ((List.range c.all.length).all fun i => askB K (c.cA K i) && (He.eqO (nsIn K mainGlobals ((c.all ++ c.own).getD i "")) (some (some (.ref (c.cA K i)))) && (decide (exmOne K (.ref (c.cA K i)) (.ref (c.cA K 0)) = some true) && ((c.words.all fun f => He.eqO (findIn K (.ref (c.cA K i)) f) (some none)) &&
  (List.range c.all.length).all fun j => decide (kitOne K (.ref (c.cA K i)) (.ref (c.cA K j)) = some (c.sub i j)))))) && ((c.errs.all fun e => errB prog K (He.ga K e.name) e.as_) && c.imps.all fun p => He.eqO (nsIn K mainGlobals p.1) (some (some (.builtin p.2))))
def ClsD.ok (c : ClsD) (prog : Program) (K : Frag) : Bool := c.okA prog K && c.okX K
abbrev AlP : Type := He.AlD × List InW × Bool
def obsP (prog : Program) (n : Nat) (fa : List He.Fa) (fn : List He.DefD) (tf : List He.Defn) (c : ClsD) (g : Addr → Option Obj) : AlP :=
  let K := He.frT g (asQ g n)
  (He.obsD fa fn K, c.errs.map fun e => inW K (He.ga K e.name), c.ok prog K && He.tabsB g tf K)
def valP (fn : List He.DefD) (c : ClsD) : AlP := (He.valD fn, c.errs.map ErrD.val, true)
structure SaysP (prog : Program) (fa : List He.Fa) (fn : List He.DefD) (tf : List He.Defn) (c : ClsD) (h : Heap) (K : Frag) : Prop where
  d : He.SaysD fa fn K
  e : c.errs.map (fun e => inW K (He.ga K e.name)) = c.errs.map ErrD.val
  k : c.okA prog K = true
  x : c.okX K = true
  hd : ∀ p ∈ tf, PySem.W.codeHdIn K (He.cT K p).1 (He.cT K p).2 = true
  out : ∀ p ∈ tf, K.lookup (He.cT K p).2 = none
  empty : ∀ p ∈ tf, h.get? (He.cT K p).2 = some { cls := .none, data := .fields #[] }
theorem saysP_of {prog : Program} {n : Nat} {fa : List He.Fa} {fn : List He.DefD} {tf : List He.Defn} {c : ClsD} {h : Heap} (e : obsP prog n fa fn tf c h.get? = valP fn c) : SaysP prog fa fn tf c h (He.frT h.get? (asQ h.get? n)) := by
  have e1 : He.obsD fa fn (He.frT h.get? (asQ h.get? n)) = He.valD fn := congrArg (fun z : AlP => z.1) e
  have e2 := congrArg (fun z : AlP => z.2.1) e
  have e3 : (c.ok prog (He.frT h.get? (asQ h.get? n)) && He.tabsB h.get? tf (He.frT h.get? (asQ h.get? n))) = true := congrArg (fun z : AlP => z.2.2) e
  obtain ⟨h1, h2⟩ := He.ba e3
  have one : ∀ p ∈ tf, PySem.W.codeHdIn (He.frT h.get? (asQ h.get? n)) (He.cT (He.frT h.get? (asQ h.get? n)) p).1 (He.cT (He.frT h.get? (asQ h.get? n)) p).2 = true ∧ ∃ o, h.get? (He.cT (He.frT h.get? (asQ h.get? n)) p).2 = some o ∧ He.emptyTab o = true := fun p hp => by
    obtain ⟨k3, k4⟩ := He.ba (List.all_eq_true.mp h2 p hp)
    refine ⟨k3, ?_⟩
    cases q : h.get? (He.cT (He.frT h.get? (asQ h.get? n)) p).2 with
    | none => rw [q] at k4; cases k4
    | some o => rw [q] at k4; exact ⟨o, rfl, k4⟩
  obtain ⟨h3, h4⟩ := He.ba h1
  exact ⟨e1, e2, h3, h4, fun p hp => (one p hp).1, fun p hp => let ⟨_, o, q, z⟩ := one p hp; He.frT_none q z, fun p hp => let ⟨_, o, q, z⟩ := one p hp; q.trans (congrArg some (He.emptyTab_eq z))⟩
def hookP (prog : Program) (n : Nat) (fa : List He.Fa) (fn : List He.DefD) (tf : List He.Defn) (c : ClsD) : PySem.W.Hook where
  α := AlP
  obs := fun s => obsP prog n fa fn tf c s.heap.get?
  val := fun _ => valP fn c
  says := fun _ h => ∃ K : Frag, K.In h ∧ SaysP prog fa fn tf c h K
  of := fun _ _ e => ⟨_, He.frT_in, saysP_of e⟩
  keeps := fun _ _ _ ⟨K, hK, c⟩ k => ⟨K, PySem.W.Frag.In.keeps hK k, ⟨c.d, c.e, c.k, c.x, c.hd, c.out, fun p hp => k _ _ (c.empty p hp)⟩⟩
theorem obsP_eq {prog : Program} {n : Nat} {fa : List He.Fa} {fn : List He.DefD} {tf : List He.Defn} {c : ClsD} {g : Addr → Option Obj} {s : Shared} (h : ∀ a, g a = s.heap.get? a) : obsP prog n fa fn tf c g = (hookP prog n fa fn tf c).obs s := by
  have e : g = s.heap.get? := funext h
  rw [e] <;> rfl
section
variable {prog : Program} {fa : List He.Fa} {fn : List He.DefD} {tf : List He.Defn} {c : ClsD} {h : Heap} {K : Frag}
theorem SaysP.one (z : SaysP prog fa fn tf c h K) {i : Nat} (hi : i < c.all.length) : askB K (c.cA K i) = true ∧ nsIn K mainGlobals ((c.all ++ c.own).getD i "") = some (some (.ref (c.cA K i))) ∧ exmOne K (.ref (c.cA K i)) (.ref (c.cA K 0)) = some true ∧ (∀ f ∈ c.words, findIn K (.ref (c.cA K i)) f = some none) ∧ ∀ j, j < c.all.length → kitOne K (.ref (c.cA K i)) (.ref (c.cA K j)) = some (c.sub i j) := by
  obtain ⟨h1, _⟩ := He.ba z.k
  obtain ⟨k1, k⟩ := He.ba (List.all_eq_true.mp h1 i (List.mem_range.mpr hi))
  obtain ⟨k2, k⟩ := He.ba k
  obtain ⟨k3, k⟩ := He.ba k
  obtain ⟨k4, k5⟩ := He.ba k
  exact ⟨k1, He.eqO_ok k2, of_decide_eq_true k3, fun f hf => He.eqO_ok (List.all_eq_true.mp k4 f hf), fun j hj => of_decide_eq_true (List.all_eq_true.mp k5 j (List.mem_range.mpr hj))⟩
theorem SaysP.err (z : SaysP prog fa fn tf c h K) (i : Nat) {d : ErrD} (hd : c.errs[i]? = some d := by rfl) : errB prog K (He.ga K d.name) d.as_ = true ∧ inW K (He.ga K d.name) = d.val := by
  obtain ⟨_, h2⟩ := He.ba z.k
  obtain ⟨h2, _⟩ := He.ba h2
  have hm := List.mem_of_getElem? hd
  refine ⟨List.all_eq_true.mp h2 d hm, ?_⟩
  have e := congrArg (fun l : List InW => l[i]?) z.e
  simp only [List.getElem?_map, hd, Option.map_some, Option.some.injEq] at e
  exact e
theorem SaysP.imp (z : SaysP prog fa fn tf c h K) (X : K.In h) {mg : Str → Option Value} (G : h.Ns mainGlobals mg) (i : Nat) {p : Str × String} (hd : c.imps[i]? = some p := by rfl) : mg p.1 = some (.builtin p.2) := by
  obtain ⟨_, h2⟩ := He.ba z.k
  obtain ⟨_, h2⟩ := He.ba h2
  exact PySem.W.mg_of X G (He.eqO_ok (List.all_eq_true.mp h2 p (List.mem_of_getElem? hd)))
theorem SaysP.exm (z : SaysP prog fa fn tf c h K) (i : Nat) (b : Bool) (h : (if i < c.all.length then some true else none) = some b) : exmOne K (.ref (c.cA K i)) (.ref (c.cA K 0)) = some b := by
  by_cases hi : i < c.all.length
  · rw [if_pos hi] at h; cases h; exact (z.one hi).2.2.1
  · rw [if_neg hi] at h; cases h
/-- the code object of a def whose table is told -/
theorem code_ref {x : Str} {params : Arguments} {body : List Stmt} {scope : Scope} {fd : FuncData} (F : FunD K x x params body scope [] [] (He.ga K x) fd) : fd.code = .ref (He.cT K (x, none)).1 := by
  obtain ⟨oc, od, dV, kV, doc, pm, an, cdv, ct, osl, rfl, lk, hcd, _, _⟩ := F.ex
  obtain ⟨cc, e⟩ := He.codeIn_ref hcd
  have := He.codeOf_eq (p := (x, none)) (c := cc) lk e
  show cdv = .ref (He.codeOf K (x, none))
  rw [this]; exact e
/-- the table of the classes of errors, for any T with K and these addresses -/
theorem SaysP.errTab (z : SaysP prog fa fn tf c h K) {tabs : List (Addr × Str)} : ErrTab (mkTb K (c.cA K) tabs) c.all.length c.sub := ⟨fun i hi => askB_ok (z.one hi).1, fun i j hi hj => (z.one hi).2.2.2.2 j hj⟩
end
end PyD

/-! PyD: what the printed derivations use. -/
namespace PyD
open PySem PySem.Spec PyProof.Rows L2
theorem pe_seal {T : Tb} {X : Cx} {W : WX} {e : Expr} {t : TE} {w : WE} (h : DE T X W e t w) : DE T X W e (tSem T W w) w := ⟨⟨fun pins s σ H Q I ⟨ρ, S, H0, post, ep, ok, er, ex, q, hw⟩ => h.pe.run pins s σ H Q I (h.im ρ σ S H H0 post ep Q ok er ex q hw)⟩, im_sem⟩
/-- fresh lists: the same -/
def tSemF (T : Tb) (W : WX) (w : WF) : TE := fun σ H Q => ∃ (ρ : EnvD) (S : VS) (H0 : Hp) (post : List D → Pr) (ep : EP), Ok T S H ∧ EnvRel T H0 S H σ ρ ∧ ExW T W σ S H ep ∧ QF T S H post Q ∧ w ρ post ep S.n
theorem pf_seal {T : Tb} {X : Cx} {W : WX} {e : Expr} {t : TE} {w : WF} (h : DF T X W e t w) : DF T X W e (tSemF T W w) w := ⟨⟨fun pins s σ H Q I ⟨ρ, S, H0, post, ep, ok, er, ex, q, hw⟩ => h.pe.run pins s σ H Q I (h.im ρ σ S H H0 post ep Q ok er ex q hw)⟩, fun ρ σ S H H0 post ep Q ok er ex q hw => ⟨ρ, S, H0, post, ep, ok, er, ex, q, hw⟩⟩
/-- a def that may be called -/
structure Cal (P : Program) (w : World) (K : PySem.W.Frag) (mg : Str → Option Value) (base : Heap) (k : Nat) (x : Str) (ps : List Str) (sp : Sp) : Prop where
  ex : ∃ (a : Addr) (fd : FuncData), mg x = some (.ref a) ∧ PySem.W.keepIn K (.ref a) = true ∧ FnG P w K mg base k a fd ps sp ∧ L2.Binds K fd ps []
/-- .. by keywords too -/
structure CalK (P : Program) (w : World) (K : PySem.W.Frag) (mg : Str → Option Value) (base : Heap) (k : Nat) (x : Str) (ps : List Str) (sp : Sp) (n : Nat) (ks : List Str) (g : List Value → List Value → List Value) (gV : List V → List V → List V) : Prop where
  ex : ∃ (a : Addr) (fd : FuncData), mg x = some (.ref a) ∧ PySem.W.keepIn K (.ref a) = true ∧ FnG P w K mg base k a fd ps sp ∧ KBn K fd ps n ks g gV
section
variable {T : Tb} {X : Cx} {W : WX} {k : Nat} {x : Str} {p pos : Pos} {ps : List Str}
theorem g_var {i : Nat} (hN : X.N[i]? = some x) (hv : Vis X.env.scope x := by first | exact Or.inl rfl | exact Or.inr (Or.inl rfl) | exact Or.inr (Or.inr rfl)) (hd : (x == ("__debug__" : Str)) = false := by rfl) (hcd : (x == ("__classdict__" : Str)) = false := by rfl) : DE T X W (.Name x pos) (tVar i) (wVar i) := ⟨pe_var hN hv hd hcd, im_var⟩
theorem p_var {i : Nat} (hN : X.N[i]? = some x) (hv : Vis X.env.scope x := by first | exact Or.inl rfl | exact Or.inr (Or.inl rfl) | exact Or.inr (Or.inr rfl)) (hd : (x == ("__debug__" : Str)) = false := by rfl) (hcd : (x == ("__classdict__" : Str)) = false := by rfl) : PE X (.Name x pos) (tVar i) := pe_var hN hv hd hcd
theorem g_call {e : Expr} {es : List Expr} {ta : TA} {wa : WA} {w : WD} (C : Cal X.prog X.w X.K X.mg X.base k x ps (spV T w)) (hr : Room k X.A) (hgd : X.A.guards = some []) (tk : Takes X W) (ha : DA T X W (e :: es) ta wa) (hg : Gl X x := by rfl) (hdb : (x == ("__debug__" : Str)) = false := by rfl)
    (he : starEach (e :: es) X.env = (false, eval e X.env) :: starEach es X.env := by rfl) (hpl : (backTo pos (starEach es X.env)).any (·.1) = false := by rfl) : DE T X W (.Call (.Name x p) (e :: es) [] pos) (tSem T W (wCall w [] wa)) (wCall w [] wa) := by
  obtain ⟨a, fd, hm, hk, F, hb⟩ := C.ex
  exact pe_seal ⟨pe_callG (dvs := []) (ds := []) F hr hgd hg hm hk hb .nil (passE tk) ha.pa hdb he hpl, im_call ha.im fun _ _ => .nil⟩
theorem g_callF {e : Expr} {es : List Expr} {ta : TA} {wa : WA} {w : WDF} (C : Cal X.prog X.w X.K X.mg X.base k x ps (spF T w)) (hr : Room k X.A) (hgd : X.A.guards = some []) (tk : Takes X W) (ha : DA T X W (e :: es) ta wa) (hg : Gl X x := by rfl) (hdb : (x == ("__debug__" : Str)) = false := by rfl)
    (he : starEach (e :: es) X.env = (false, eval e X.env) :: starEach es X.env := by rfl) (hpl : (backTo pos (starEach es X.env)).any (·.1) = false := by rfl) : DF T X W (.Call (.Name x p) (e :: es) [] pos) (tSemF T W (wCallF w [] wa)) (wCallF w [] wa) := by
  obtain ⟨a, fd, hm, hk, F, hb⟩ := C.ex
  exact pf_seal ⟨pe_callG (dvs := []) (ds := []) F hr hgd hg hm hk hb .nil (passE tk) ha.pa hdb he hpl, im_callF ha.im fun _ _ => .nil⟩
theorem g_callK0 {kws : List Keyword} {ks : List Str} {tk2 : TA} {wk : WA} {w : WD} {g : List Value → List Value → List Value} {gV : List V → List V → List V} {gD : List D → List D → List D} (C : CalK X.prog X.w X.K X.mg X.base k x ps (spV T w) 0 ks g gV) (hr : Room k X.A) (hgd : X.A.guards = some []) (tk : Takes X W)
    (hgr : ∀ {S : VS} {H : Hp} {vs zs : List V} {ds es : List D}, RepL T S H vs ds → RepL T S H zs es → RepL T S H (gV vs zs) (gD ds es)) (hkw : DK T X W kws tk2 wk) (hall : (backToKw pos (keywordEach kws X.env)).all (·.1.isSome) = true := by rfl) (hks : (backToKw pos (keywordEach kws X.env)).filterMap (·.1) = ks := by rfl)
    (hg : Gl X x := by rfl) (hdb : (x == ("__debug__" : Str)) = false := by rfl) (hpl : (backToKw pos (keywordEach kws X.env)).any (·.1.isNone) = false := by rfl) :
    DE T X W (.Call (.Name x p) [] kws pos) (tSem T W (wCallKN 0 ks.length w gD wNil wk)) (wCallKN 0 ks.length w gD wNil wk) := by
  obtain ⟨a, fd, hm, hk, F, hb⟩ := C.ex
  exact pe_seal ⟨pe_callKN0 F hr hgd hg hm hk hb (passE tk) hkw.pk hall hks hdb hpl, im_callKN hgr im_nilA hkw.im⟩
/-- a built-in function by its name -/
theorem g_blt {id : String} {e : Expr} {es : List Expr} {ta : TA} {wa : WA} {r : List V → Hp → VK → Prop} {f : FA} (hc : CallR X (.builtin id) r) (h : OpA T r f) (hm : X.mg x = none) (ha : DA T X W (e :: es) ta wa) (hv : bootBuiltins x = some (.builtin id)) (hg : Gl X x := by rfl) (hn : x ≠ "__name__" := by decide) (hdb : (x == ("__debug__" : Str)) = false := by rfl)
    (he : starEach (e :: es) X.env = (false, eval e X.env) :: starEach es X.env := by rfl) (hpl : (backTo pos (starEach es X.env)).any (·.1) = false := by rfl) : DE T X W (.Call (.Name x p) (e :: es) [] pos) (tCB r ta) (wCB f wa) := ⟨pe_callB hc hg hm hv ha.pa hn hdb he hpl, im_cb h ha.im⟩
theorem g_bty {n : String} {e : Expr} {es : List Expr} {ta : TA} {wa : WA} {r : List V → Hp → VK → Prop} {f : FA} (hc : CallR X (.type n) r) (h : OpA T r f) (hm : X.mg x = none) (ha : DA T X W (e :: es) ta wa) (hv : bootBuiltins x = some (.type n)) (hg : Gl X x := by rfl) (hn : x ≠ "__name__" := by decide) (hdb : (x == ("__debug__" : Str)) = false := by rfl)
    (he : starEach (e :: es) X.env = (false, eval e X.env) :: starEach es X.env := by rfl) (hpl : (backTo pos (starEach es X.env)).any (·.1) = false := by rfl) : DE T X W (.Call (.Name x p) (e :: es) [] pos) (tCB r ta) (wCB f wa) := ⟨pe_callTy hc hg hm hv ha.pa hn hdb he hpl, im_cb h ha.im⟩
/-- an imported built-in function -/
theorem g_imp {id : String} {e : Expr} {es : List Expr} {ta : TA} {wa : WA} {r : List V → Hp → VK → Prop} {f : FA} (hc : CallR X (.builtin id) r) (h : OpA T r f) (hm : X.mg x = some (.builtin id)) (ha : DA T X W (e :: es) ta wa) (hg : Gl X x := by rfl) (hdb : (x == ("__debug__" : Str)) = false := by rfl)
    (he : starEach (e :: es) X.env = (false, eval e X.env) :: starEach es X.env := by rfl) (hpl : (backTo pos (starEach es X.env)).any (·.1) = false := by rfl) : DE T X W (.Call (.Name x p) (e :: es) [] pos) (tCB r ta) (wCB f wa) := ⟨pe_callBfun hc hg hm ha.pa hdb he hpl, im_cb h ha.im⟩
/-- x = e -/
theorem g_set {i : Nat} {e : Expr} {te : TE} {we : WE} {pos' : Pos} (hN : X.N.Nodup) (hi : X.N[i]? = some x) (he : DE T X W e te we) (hx : Loc X.env.scope x := by first | exact Or.inl rfl | exact Or.inr rfl) (hs : swapsWith e (some (.Name x pos')) pos.line X.env = pure false := by rfl) (hf : X.fn x = true ∨ X.env.scope.names.lookup x = some .local := by first | exact .inl rfl | exact .inr rfl) :
    DS T X W (.Assign [.Name x pos'] e pos) (tAsg te (gName i)) (wSet i we) := ⟨ps_set hN hi hx he.pe hs hf, im_set he.im⟩
theorem g_setF {i : Nat} {e : Expr} {te : TE} {we : WF} {pos' : Pos} (hN : X.N.Nodup) (hi : X.N[i]? = some x) (he : DF T X W e te we) (hx : Loc X.env.scope x := by first | exact Or.inl rfl | exact Or.inr rfl) (hs : swapsWith e (some (.Name x pos')) pos.line X.env = pure false := by rfl) (hf : X.fn x = true ∨ X.env.scope.names.lookup x = some .local := by first | exact .inl rfl | exact .inr rfl) :
    DS T X W (.Assign [.Name x pos'] e pos) (tAsg te (gName i)) (wSetF i we) := ⟨ps_set hN hi hx he.pe hs hf, im_setF he.im⟩
end
/-! ### ranges, lists, tuples walked -/
section
variable {T : Tb} {X : Cx} {W : WX} {tg e a b : Expr} {te ta tb : TE} {we wa wb : WE} {p pos : Pos}
theorem di_r1 (hm : X.mg "range" = none) (h : DE T X W a ta wa) (hg : Gl X "range" := by rfl) (h1 : starEach (a :: []) X.env = (false, eval a X.env) :: starEach [] X.env := by rfl) (hs : starEach [a] X.env = [(false, eval a X.env)] := by rfl) : DI T X W tg (.Call (.Name "range" p) [a] [] pos) (iRng1 (tCons ta tNil)) (wItR1 wa) := ⟨pi_range1 hg hm (pa_cons h.pe pa_nil h1) hs, im_itR1 h.im⟩
theorem di_r2 (hm : X.mg "range" = none) (h : DE T X W a ta wa) (h' : DE T X W b tb wb) (hg : Gl X "range" := by rfl) (h1 : starEach (a :: [b]) X.env = (false, eval a X.env) :: starEach [b] X.env := by rfl) (h2 : starEach (b :: []) X.env = (false, eval b X.env) :: starEach [] X.env := by rfl)
    (hs : starEach [a, b] X.env = [(false, eval a X.env), (false, eval b X.env)] := by rfl) (hs2 : starEach [b] X.env = [(false, eval b X.env)] := by rfl) : DI T X W tg (.Call (.Name "range" p) [a, b] [] pos) (iRng2 (tCons ta (tCons tb tNil))) (wItR2 wa wb) := ⟨pi_range2 hg hm (pa_cons h.pe (pa_cons h'.pe pa_nil h2) h1) hs hs2, im_itR2 h.im h'.im⟩
theorem di_l (hK : X.K = T.K) (h : DE T X W e te we) : DI T X W tg e (iList X.K te) (wItL we) := ⟨pi_list h.pe, by rw [hK]; exact im_itL h.im⟩
theorem di_t (hK : X.K = T.K) (h : DE T X W e te we) : DI T X W tg e (iTup X.K te) (wItT we) := ⟨pi_tup h.pe, by rw [hK]; exact im_itT h.im⟩
theorem g_par {i j : Nat} {x y : Str} {ts : TA} {ws : WA} {px py pt : Pos} {kt k2 pt2} (hc : X.calm = true) (hN : X.N.Nodup) (hi : X.N[i]? = some x) (hj : X.N[j]? = some y) (ha : DA T X W [a, b] ts ws) (hij : i ≠ j := by decide)
    (hx : X.env.scope.names.lookup x = some .local := by rfl) (hy : X.env.scope.names.lookup y = some .local := by rfl)
    (hw : swappedStores [.Tuple [.Name x px, .Name y py] kt pt] (.Tuple [a, b] k2 pt2) X.env = pure (some [x, y]) := by rfl)
    (hs : swapsWithSole [.Tuple [.Name x px, .Name y py] kt pt] (.Tuple [a, b] k2 pt2) pos.line X.env = pure false := by rfl) :
    DS T X W (.Assign [.Tuple [.Name x px, .Name y py] kt pt] (.Tuple [a, b] k2 pt2) pos) (tPar i j ts) (wPar i j ws) := ⟨ps_par hc hN hi hj hij hx hy ha.pa hw hs, im_par ha.im⟩
theorem g_for {iter : Expr} {body : List Stmt} {ti : TI} {wi : WI} {g : TG} {wg : WG} {tb : TS} {wb : WS} (hp : PassesOwn (model X.prog X.w) X.A X.env X.xe) (hi : DI T X W tg iter ti wi) (hg : DG T X tg g wg) (hb : DSs T X W body tb wb) (hc : X.calm = true := by rfl)
    (hs : ∀ x, foldedSetIterable iter X.env x = pure x := by intro _; rfl) : DS T X W (.For tg iter body [] pos) (tFor ti g tb) (wFor wi wg wb) := ds_for hp hc hi hg hb hs
theorem dg_n {i : Nat} {x : Str} (hN : X.N.Nodup) (hi : X.N[i]? = some x) (hx : Loc X.env.scope x := by first | exact Or.inl rfl | exact Or.inr rfl) (hf : X.fn x = true ∨ X.env.scope.names.lookup x = some .local := by first | exact .inl rfl | exact .inr rfl) : DG T X (.Name x pos) (gName i) (gN i) := ⟨pg_name hN hi hx hf, im_gN⟩
end
theorem bo_isinstance : bootBuiltins "isinstance" = some (.builtin "isinstance") := by decide +kernel
theorem bo_len : bootBuiltins "len" = some (.builtin "len") := by decide +kernel
theorem bo_abs : bootBuiltins "abs" = some (.builtin "abs") := by decide +kernel
theorem bo_repr : bootBuiltins "repr" = some (.builtin "repr") := by decide +kernel
theorem bo_min : bootBuiltins "min" = some (.builtin "min") := by decide +kernel
theorem bo_max : bootBuiltins "max" = some (.builtin "max") := by decide +kernel
theorem bo_sum : bootBuiltins "sum" = some (.builtin "sum") := by decide +kernel
theorem bo_any : bootBuiltins "any" = some (.builtin "any") := by decide +kernel
theorem bo_all : bootBuiltins "all" = some (.builtin "all") := by decide +kernel
theorem bo_sorted : bootBuiltins "sorted" = some (.builtin "sorted") := by decide +kernel
theorem bo_int : bootBuiltins "int" = some (.type "int") := by decide +kernel
theorem bo_bool : bootBuiltins "bool" = some (.type "bool") := by decide +kernel
theorem bo_str : bootBuiltins "str" = some (.type "str") := by decide +kernel
theorem bo_list : bootBuiltins "list" = some (.type "list") := by decide +kernel
theorem bo_tuple : bootBuiltins "tuple" = some (.type "tuple") := by decide +kernel
theorem bo_dict : bootBuiltins "dict" = some (.type "dict") := by decide +kernel

theorem d_lt {T : Tb} : OpD T (rI0 fun i j => .bl (decide (i < j))) ltD := d_b2
theorem d_le {T : Tb} : OpD T (rI0 fun i j => .bl (decide (i ≤ j))) leD := d_b2
theorem d_gt {T : Tb} : OpD T (rI0 fun i j => .bl (decide (j < i))) gtD := d_b2
theorem d_ge {T : Tb} : OpD T (rI0 fun i j => .bl (decide (j ≤ i))) geD := d_b2
/-- the items in another order -/
def permL {α : Type} (perm : List Nat) (d : α) (l : List α) : List α := perm.map fun p => l.getD p d
theorem RepL.perm {T : Tb} {S : VS} {H : Hp} {vs : List V} {ds : List D} (r : RepL T S H vs ds) : ∀ perm : List Nat, RepL T S H (permL perm .non vs) (permL perm .non ds)
  | [] => .nil
  | p :: ps => by
    refine .cons ?_ (RepL.perm r ps)
    show Rep T S H (vs.getD p .non) (ds.getD p .non)
    rw [List.getD_eq_getElem?_getD, List.getD_eq_getElem?_getD]
    cases e : ds[p]? with
    | none =>
      have e2 : vs[p]? = none := by
        rw [List.getElem?_eq_none_iff] at e ⊢
        rw [r.length]; exact e
      rw [e2]; exact .non
    | some d =>
      obtain ⟨v, e2, rv⟩ := r.getD e
      rw [e2]; exact rv
theorem vals_perm {vs : List V} {us : List Value} (r : Vals vs us) : ∀ perm : List Nat, Vals (permL perm .non vs) (permL perm .none us)
  | [] => .nil
  | p :: ps => by
    refine .cons ?_ (vals_perm r ps)
    show L2.RelV (vs.getD p .non) (us.getD p .none)
    rw [List.getD_eq_getElem?_getD, List.getD_eq_getElem?_getD]
    cases e : vs[p]? with
    | none =>
      have e2 : us[p]? = none := by
        rw [List.getElem?_eq_none_iff] at e ⊢
        rw [← r.length]; exact e
      rw [e2]; rfl
    | some d =>
      obtain ⟨v, e2, rv⟩ := r.get e
      rw [e2]; exact rv
/-- keywords alone, all of them -/
theorem kbn_of {K : PySem.W.Frag} {x qual : Str} {params : Arguments} {body : List Stmt} {scope : Scope} {f : Addr} {fd : FuncData} {ps ks : List Str} {perm : List Nat} (F : FunD K x qual params body scope [] [] f fd)
    (h : ∀ (kV doc pm : Value) (an : Option Addr) (cdv ct : Value) (ws : List Value), ws.length = ks.length → bindArgs (PySem.W.fnOf x qual params body scope .none kV doc pm an cdv ct) ⟨[], ks.zip ws⟩ = pure (ps.zip (permL perm .none ws))) :
    KBn K fd ps 0 ks (fun _ ws => permL perm .none ws) (fun _ zs => permL perm .non zs) := by
  obtain ⟨oc, od, dV, kV, doc, pm, an, cdv, ct, osl, rfl, lk, hcd, hD, hK⟩ := F.ex
  rcases hD with ⟨_, rfl⟩ | ⟨e, _⟩
  · refine ⟨fun s us ws _ h1 h2 => ?_, fun _ r => vals_perm r perm⟩
    cases List.eq_nil_of_length_eq_zero h1
    exact .of_eq (h _ _ _ _ _ _ ws h2)
  · exact absurd rfl e
section
variable {T : Tb} {X : Cx} {W : WX}
theorem g_mt {m : String} {id : String} {name : Str} {r : V → List V → Hp → VK → Prop} {f : FM} {o : Expr} {to : TE} {wo : WE} {e : Expr} {es : List Expr} {t : TA} {wa : WA} {apos cpos : Pos} (pa : PlainAttrs m) (slot : PySem.Slot m name id) (hty : typeOf (.builtin id) = pure (.type "method_descriptor")) (hm : MtR X id r) (h : OpM T r f) (hK : X.K = T.K)
    (ho : DE T X W o to wo) (ha : DA T X W (e :: es) t wa) (hbase : attributeBase o name X.env (eval o X.env) = eval o X.env := by rfl)
    (hfew : ((backTo cpos (starEach (e :: es) X.env)).all (fun x => !x.1) && (backToKw cpos (keywordEach [] X.env)).all (fun x => x.1.isSome) && decide ((e :: es).length + ([] : List Keyword).length + (if ([] : List Keyword).isEmpty then 0 else 1) < 30)) = true := by rfl)
    (hline : (apos.endLine == cpos.line) = true := by rfl) (hs : starEach (e :: es) X.env = (false, eval e X.env) :: starEach es X.env := by rfl) (hplain : (backTo cpos (starEach es X.env)).any (·.1) = false := by rfl) :
    DE T X W (.Call (.Attribute o name apos) (e :: es) [] cpos) (tBM X.K m r to t) (wMt m f wo wa) := ⟨pe_bm pa slot hty hm ho.pe ha.pa hbase hfew hline hs hplain, by rw [hK]; exact im_mt h ho.im ha.im⟩
/-- [e for x in xs] -/
theorem g_lc {elt tg iter : Expr} {scope : Scope} {own : List (Str × Nat)} {pos : Pos} {ti : TI} {wi : WI} {g : TG} {wg : WG} {te : TE} {we : WE} (hc : X.calm = true) (hN : X.N.Nodup) (hi : DI T X W tg iter ti wi) (ok : BlkOk X.N X.env.scope scope own)
    (hg : ∀ (s : Shared) (H : Hp) (C : Addr) (cl : List (Str × Addr)) (fp : List Addr), DG T (X.blk s H scope (compEnvC scope cl C X.env) fp) tg g wg) (he : ∀ (s : Shared) (H : Hp) (C : Addr) (cl : List (Str × Addr)) (fp : List Addr), DE T (X.blk s H scope (compEnvC scope cl C X.env) fp) W0 elt te we) (hv : GV (own.map (·.2)) g)
    (hs : ∀ x, foldedSetIterable iter X.env x = pure x := by intro _; rfl) : DF T X W (.ListComp elt [⟨tg, iter, [], 0⟩] scope pos) (tLc ti g tYes te (own.map (·.2))) (wComp wi wg wYes we (own.map (·.2))) :=
  df_lc hc hN hi ok (fun s H C cl fp => (hg s H C cl fp).pg) (fun _ _ _ _ _ => pts_nil) he (hg X.s_0 X.H_0 0 [] []).im hv im_yes (he X.s_0 X.H_0 0 [] []).im hs
/-- .. if t -/
theorem g_lcI {elt tg iter c : Expr} {scope : Scope} {own : List (Str × Nat)} {pos : Pos} {ti : TI} {wi : WI} {g : TG} {wg : WG} {te : TE} {we : WE} {tc : TT} {wc : WT} (hc : X.calm = true) (hN : X.N.Nodup) (hi : DI T X W tg iter ti wi) (ok : BlkOk X.N X.env.scope scope own)
    (hg : ∀ (s : Shared) (H : Hp) (C : Addr) (cl : List (Str × Addr)) (fp : List Addr), DG T (X.blk s H scope (compEnvC scope cl C X.env) fp) tg g wg) (hi2 : ∀ (s : Shared) (H : Hp) (C : Addr) (cl : List (Str × Addr)) (fp : List Addr), DT T (X.blk s H scope (compEnvC scope cl C X.env) fp) W0 c tc wc)
    (he : ∀ (s : Shared) (H : Hp) (C : Addr) (cl : List (Str × Addr)) (fp : List Addr), DE T (X.blk s H scope (compEnvC scope cl C X.env) fp) W0 elt te we) (hv : GV (own.map (·.2)) g)
    (hs : ∀ x, foldedSetIterable iter X.env x = pure x := by intro _; rfl) : DF T X W (.ListComp elt [⟨tg, iter, [c], 0⟩] scope pos) (tLc ti g tc te (own.map (·.2))) (wComp wi wg wc we (own.map (·.2))) :=
  df_lc hc hN hi ok (fun s H C cl fp => (hg s H C cl fp).pg) (fun s H C cl fp => pts_one (hi2 s H C cl fp).pt) he (hg X.s_0 X.H_0 0 [] []).im hv (hi2 X.s_0 X.H_0 0 [] []).im (he X.s_0 X.H_0 0 [] []).im hs
/-- f(lambda: e) -/
theorem g_hear {x a : Str} {g c P : Addr} {k : Nat} {pg : Arguments} {bg : List Stmt} {sg : Scope} {Ng : List Str} {params : Arguments} {body : Expr} {scope : Scope} {p lpos pos : Pos} {o : Option Int} {wb : (VS → Hp → V → Prop) → ((D → Pr) → EP → Pr) → WS} {we : WE} {q : Str}
    (hm : X.mg x = some (.ref g)) (hF : ∃ fdg, FunD X.K x x pg bg sg [] [] g fdg) (Sg : FnScope Ng [a] sg)
    (hbn : ∀ (kV doc pm : Value) (an : Option Addr) (cdv ct : Value) (us : List Value), us.length = ([a] : List Str).length → bindArgs (PySem.W.fnOf x x pg bg sg .none kV doc pm an cdv ct) ⟨us, []⟩ = pure (([a] : List Str).zip us))
    (TB : LamX.TabB X.base X.mg c P) (hcode : X.env.code = .ref c) (hq : X.env.qual ++ "<lambda>" = q) (htabs : T.tabs = [(P, q)]) (hr : Room (k + 2) X.A) (hgd : X.A.guards = some []) (tk : Takes X W)
    (L : LamP X.env.scope scope X.N) (hdef : Dfl params X.env o) (hbind : LBind params body scope o)
    (hbody : ∀ (A : Around) (outer : List Env) (s : Shared) (H : Hp) (E : XK) (f c' : Addr), Room k (A.deeper (LamX.lamEnv X scope s.heap.objs.size f c')) → (A.deeper (LamX.lamEnv X scope s.heap.objs.size f c')).guards = some [] → ∃ tb, DE T (LamX.lamCx X A outer s H E scope f c') (fun cls d _ H => E cls d H) body tb we)
    (hG : ∀ (pA : VS → Hp → V → Prop) (kk : (D → Pr) → EP → Pr) (cdv : Value) (s : Shared) (H : Hp) (E : XK), Room (k + 1) (X.A.deeper (envOfC x sg s.heap.objs.size g cdv)) → (X.A.deeper (envOfC x sg s.heap.objs.size g cdv)).guards = some [] →
      (∀ (WZ : WX) (pn : List (Addr × Obj)) (xe : Value → Shared → Prop), Takes ((cxOf (L2.CX X.prog X.w) X.prog X.w X.K X.mg X.base Ng x sg g cdv X.A X.stack s H E).tr pn xe) WZ → ∀ p1 p2 : Pos, PE ((cxOf (L2.CX X.prog X.w) X.prog X.w X.K X.mg X.base Ng x sg g cdv X.A X.stack s H E).tr pn xe) (.Call (.Name a p1) [] [] p2) (tSem T WZ (wAsk 0 pA kk))) →
      ∃ t, DSs T (cxOf (L2.CX X.prog X.w) X.prog X.w X.K X.mg X.base Ng x sg g cdv X.A X.stack s H E) (fun cls d _ H' => E cls d H') bg t (wb pA kk))
    (hNg : Ng[0]? = some a := by rfl) (hva : Vis sg a := by first | exact Or.inl rfl | exact Or.inr (Or.inl rfl)) (hg : Gl X x := by rfl)
    (hdb : (x == ("__debug__" : Str)) = false := by decide) (hd : (a == ("__debug__" : Str)) = false := by decide) (hcd : (a == ("__classdict__" : Str)) = false := by decide) :
    DE T X W (.Call (.Name x p) [.Lambda params body scope lpos] [] pos) (tSem T W (wHear Ng.length wb we)) (wHear Ng.length wb we) := by
  obtain ⟨fdg, F⟩ := hF
  exact ⟨pe_hear hg hm F (FunD.bindsN (ps := [a]) F hbn) Sg hNg hva TB hcode (by rw [htabs, hq]; exact List.mem_cons_self) (fun p hp _ => by rw [htabs] at hp; rcases List.mem_cons.mp hp with rfl | hp; exact hq.symm; cases hp) hr hgd tk L hdef hbind hbody hG hdb hd hcd, im_sem⟩
end
/-- a def whose code object is told -/
theorem fnVC {T : Tb} {P : Program} {w : World} {K : PySem.W.Frag} {mg : Str → Option Value} {base : Heap} {x qual : Str} {params : Arguments} {body : List Stmt} {scope : Scope} {f : Addr} {fd : FuncData} {N ps : List Str} {k : Nat} {wb : WS} (F : FunD K x qual params body scope [] [] f fd) (S : FnScope N ps scope)
    (hb : ∀ (A : Around) (outer : List Env) (s : Shared) (H : Hp) (E : XK), Room k (A.deeper (envOfC qual scope s.heap.objs.size f fd.code)) → (A.deeper (envOfC qual scope s.heap.objs.size f fd.code)).guards = some [] → ∃ t, DSs T (cxOf (L2.CX P w) P w K mg base N qual scope f fd.code A outer s H E) (fun cls d _ H' => E cls d H') body t wb) :
    FnG P w K mg base (k + 1) f fd ps (spV T (wDef ps.length N.length wb)) := by
  have hpl : ps.length ≤ N.length := by have := congrArg List.length S.pre; rw [List.length_take] at this; omega
  refine ⟨fun vs H Q E ⟨_, _, _, _, _, rd, _, _, h⟩ => rd.length.trans h.1, fun A outer s H args us vs Q E hr hg e0 hbd r h => ?_⟩
  obtain ⟨oc, od, dV, kV, doc, pm, an, cdv, ct, osl, rfl, lk, hcd, _, _⟩ := F.ex
  obtain ⟨S0, ds, post, ep, ok, rd, q, ex, hw0, hw⟩ := h
  have hl : vs.length = ps.length := rd.length.trans hw0
  refine LamX.run_ofS lk hcd S hr e0 hbd r hl fun hr' => ?_
  obtain ⟨t, dt⟩ := hb A outer s H E hr' hg
  refine ⟨t, dt.pss, dt.im _ _ S0 H S0 H { nx := fun _ => post .non, rt := fun _ => post, rf := fun l => post (.lst l), ex := ep } _ ok ok .refl (env_start (by omega) rd) ⟨fun ρ σ S' H' p st => q .non S' H' .non p st.ok st.b .non, fun _ _ _ _ p => p.elim, fun _ _ _ _ p => p.elim, fun ρ σ d v S' H' p ok' x _ r' => q d S' H' v p ok' x r', QF.of ok q, fun σ' c ds S' H' d fs p ok' x h1 h2 => ex c ds S' H' d fs p ok' x h1 h2⟩ hw⟩

def negD : D → (D → Prop) → Prop := fun x p => match x with
  | .int i => p (.int (-i))
  | _ => False
theorem de_neg {T : Tb} {X : Cx} {W : WX} {a : Expr} {ta : TE} {wa : WE} {pos : Pos} (h : DE T X W a ta wa) : DE T X W (.UnaryOp .USub a pos) (tUn (rU fun i => .int (-i)) ta) (wUn negD wa) := ⟨pe_un un_neg h.pe, im_un (fun S H x dx post Q ok r q hw => by
  cases r with
  | int i => exact ⟨i, rfl, q _ S H _ hw ok .refl (.int _)⟩
  | _ => exact False.elim hw) h.im⟩

theorem room65 {k : Nat} {A : Around} (r : Room k A) : A.units + 65 < cLine := by have := r.un; omega
/-- target = e, any target -/
def wAsg (e : WE) (g : WG) : WS := fun ρ K => e ρ (fun d => g d ρ K.nx) K.ex
theorem im_asg {T : Tb} {W : WX} {te : TE} {we : WE} {g : TG} {wg : WG} (h : ImpE T W te we) (hg : ImpG T g wg) : ImpS T W (tAsg te g) (wAsg we wg) := fun ρ σ S H S0 H0 K D ok0 ok b er k hw =>
  h ρ σ S H H0 _ _ _ ok er (ExW.of k.ex b) (fun d S' H' v p ok' x r => hg v d ρ σ S' H' H0 _ _ ok' (er.ext ok x) r (fun ρ' σ' p' er' => k.nx ρ' σ' S' H' p' ⟨ok', b.trans x, x.to0, er'⟩) p) hw
section
variable {T : Tb} {X : Cx} {W : WX} {tg e : Expr} {te : TE} {we : WE} {g : TG} {wg : WG} {pos : Pos} {es : List Expr} {gs : TGs} {ws : WGs}
theorem g_asg (h : DE T X W e te we) (hg : DG T X tg g wg) (hs : swapsWithSole [tg] e pos.line X.env = pure false := by rfl) (hw : swappedStores [tg] e X.env = pure none := by rfl) (h1 : (assignEach [tg] X.env).map (·.2) = [assign tg X.env] := by rfl) :
    DS T X W (.Assign [tg] e pos) (tAsg te g) (wAsg we wg) := ⟨ps_asg h.pe hg.pg hs hw h1, im_asg h.im hg.im⟩
theorem dg_nil : DGs T X [] gNil gsNil := ⟨pgs_nil, im_gsNil⟩
theorem dg_cons (h1 : DG T X e g wg) (h2 : DGs T X es gs ws) (hs : (assignEach (e :: es) X.env).map (·.2) = assign e X.env :: (assignEach es X.env).map (·.2) := by rfl) : DGs T X (e :: es) (gCons g gs) (gsCons wg ws) := ⟨pgs_cons h1.pg h2.pg hs, im_gsCons h1.im h2.im⟩
theorem dg_tup {n k : Nat} (hK : X.K = T.K) (h : DGs T X es gs ws) (hc : X.calm = true := by rfl) (hn : (assignEach es X.env).length = n := by rfl) (hst : (assignEach es X.env).findIdx? (·.1) = none := by rfl) : DG T X (.Tuple es k pos) (gTup X.K n gs) (gT n ws) := ⟨pg_tup hc h.pg hn hst, by rw [hK]; exact im_gT h.im⟩
end
end PyD

/-! PyD: enumerate, zip. -/
namespace PyD
open PySem PySem.Spec PyProof.Rows L2
def enumD (ds : List D) : List D := ds.mapIdx fun i d => .tup [.int (i : Nat), d]
def zipD (ds es : List D) : List D := List.zipWith (fun a b => .tup [a, b]) ds es
section
variable {T : Tb} {X : Cx} {W : WX} {e e2 : Expr} {ta : TA} {wa : WA}
theorem pair_new {S : VS} {H : Hp} {x y : V} {d e : D} (ok : Ok T S H) (r : Rep T S H x d) (r2 : Rep T S H y e) {p : Addr} (hp : H p = none) : ∃ S' : VS, S'.n = S.n ∧ Ok T S' (upd H p (.tup [x, y])) ∧ Ext S H S' (upd H p (.tup [x, y])) ∧ Rep T S' (upd H p (.tup [x, y])) (.ref p) (.tup [d, e]) :=
  new_tup (Q := fun v H' => ∃ S' : VS, S'.n = S.n ∧ Ok T S' H' ∧ Ext S H S' H' ∧ Rep T S' H' v (.tup [d, e])) (post := fun z n => z = .tup [d, e] ∧ n = S.n) ok (fun z S' H' v p ok' x' r' => ⟨S', p.2, ok', x', by rw [← p.1]; exact r'⟩) (.cons r (.cons r2 .nil)) ⟨rfl, rfl⟩ p hp
theorem itd_enum {S : VS} {H : Hp} {p : Addr} {xs : List V} {ds : List D} (ok : Ok T S H) (h : H p = some (.lst xs)) (hs : S p = none) (r : RepL T S H xs ds) : ItD T S H (Ite T.K p) (enumD ds) := fun S' H' ok' x => by
  obtain ⟨k, ks⟩ := x.keep p _ h (fun _ z => by cases z) hs
  have r' := r.ext ok x
  refine ⟨fun i d e => ?_, ⟨xs, SqL.of k, by unfold enumD; rw [List.length_mapIdx, r.length]; exact Nat.le_refl _⟩⟩
  unfold enumD at e
  rw [List.getElem?_mapIdx] at e
  cases q : ds[i]? with
  | none => rw [q] at e; cases e
  | some d0 =>
    rw [q] at e
    cases e
    obtain ⟨v, e1, rv⟩ := r'.getD q
    refine ⟨⟨xs, v, SqL.of k, e1⟩, fun y H2 hy => ?_⟩
    obtain ⟨t, z, rfl, hn, rfl, hy⟩ := hy
    have e2 := hy xs (SqL.of k)
    rw [e1] at e2
    cases e2
    exact pair_new ok' (.int _) rv hn
def wItE (a : WA) : WI := fun ρ post ep => a ρ (fun ds => match ds with
  | [.lst l] => post (enumD l)
  | _ => fun _ => False) ep
theorem im_itE (h : ImpA T W ta wa) : ImpI T W (iEnum T.K ta) (wItE wa) := fun ρ σ S H H0 post ep R ok er ex q hw =>
  h ρ σ S H H0 _ ep _ ok er ex (fun l S' H' vs p ok' x r => by
    split at p
    · obtain ⟨y, rfl, r1⟩ := r.one
      cases r1 with
      | lst h1 h2 r1 => exact ⟨_, _, rfl, SqL.of h1, q _ S' H' _ p ok' x (itd_enum ok' h1 h2 r1)⟩
    · exact p.elim) hw
theorem itd_zipL {S : VS} {H : Hp} {p p2 : Addr} {xs ys : List V} {ds es : List D} (ok : Ok T S H) (h : H p = some (.lst xs)) (hs : S p = none) (r : RepL T S H xs ds) (h2 : H p2 = some (.lst ys)) (hs2 : S p2 = none) (r2 : RepL T S H ys es) : ItD T S H (Itz T.K p p2) (zipD ds es) := fun S' H' ok' x => by
  obtain ⟨k, ks⟩ := x.keep p _ h (fun _ z => by cases z) hs
  obtain ⟨k2, ks2⟩ := x.keep p2 _ h2 (fun _ z => by cases z) hs2
  have r' := r.ext ok x
  have r2' := r2.ext ok x
  refine ⟨fun i d e => ?_, ⟨xs, ys, SqL.of k, SqL.of k2, by unfold zipD; rw [List.length_zipWith, ← r.length, ← r2.length]; omega⟩⟩
  unfold zipD at e
  rw [List.getElem?_zipWith] at e
  cases q : ds[i]? with
  | none => rw [q] at e; cases e
  | some d0 =>
    cases q2 : es[i]? with
    | none => rw [q, q2] at e; cases e
    | some e0 =>
      rw [q, q2] at e
      cases e
      obtain ⟨v, e1, rv⟩ := r'.getD q
      obtain ⟨v2, e2, rv2⟩ := r2'.getD q2
      refine ⟨⟨xs, ys, v, v2, SqL.of k, SqL.of k2, e1, e2⟩, fun y H2 hy => ?_⟩
      obtain ⟨t, z, z2, rfl, hn, rfl, hy, hy2⟩ := hy
      have q3 := hy xs (SqL.of k)
      have q4 := hy2 ys (SqL.of k2)
      rw [e1] at q3
      rw [e2] at q4
      cases q3
      cases q4
      exact pair_new ok' rv rv2 hn
theorem itd_zipT {S : VS} {H : Hp} {p p2 : Addr} {xs ys : List V} {ds es : List D} (ok : Ok T S H) (h : SqT T.K H p xs) (r : RepL T S H xs ds) (h2 : SqT T.K H p2 ys) (r2 : RepL T S H ys es) : ItD T S H (RZ.ItzT T.K p p2) (zipD ds es) := fun S' H' ok' x => by
  have k := ok.sqT x h
  have k2 := ok.sqT x h2
  have r' := r.ext ok x
  have r2' := r2.ext ok x
  refine ⟨fun i d e => ?_, ⟨xs, ys, k, k2, by unfold zipD; rw [List.length_zipWith, ← r.length, ← r2.length]; omega⟩⟩
  unfold zipD at e
  rw [List.getElem?_zipWith] at e
  cases q : ds[i]? with
  | none => rw [q] at e; cases e
  | some d0 =>
    cases q2 : es[i]? with
    | none => rw [q, q2] at e; cases e
    | some e0 =>
      rw [q, q2] at e
      cases e
      obtain ⟨v, e1, rv⟩ := r'.getD q
      obtain ⟨v2, e2, rv2⟩ := r2'.getD q2
      refine ⟨⟨xs, ys, v, v2, k, k2, e1, e2⟩, fun y H2 hy => ?_⟩
      obtain ⟨t, z, z2, rfl, hn, rfl, hy, hy2⟩ := hy
      have q3 := hy xs k
      have q4 := hy2 ys k2
      rw [e1] at q3
      rw [e2] at q4
      cases q3
      cases q4
      exact pair_new ok' rv rv2 hn
def wItZ (a : WA) : WI := fun ρ post ep => a ρ (fun ds => match ds with
  | [.lst l, .lst m] => post (zipD l m)
  | [.tup l, .tup m] => post (zipD l m)
  | _ => fun _ => False) ep
theorem im_itZ (h : ImpA T W ta wa) : ImpI T W (RZ.iZipA T.K ta) (wItZ wa) := fun ρ σ S H H0 post ep R ok er ex q hw =>
  h ρ σ S H H0 _ ep _ ok er ex (fun l S' H' vs p ok' x r => by
    split at p
    · obtain ⟨y, z, rfl, r1, r2⟩ := r.two
      cases r1 with
      | lst h1 h2 r1 => cases r2 with
        | lst h3 h4 r2 => exact ⟨_, _, _, _, rfl, .inl ⟨SqL.of h1, SqL.of h3, q _ S' H' _ p ok' x (itd_zipL ok' h1 h2 r1 h3 h4 r2)⟩⟩
    · obtain ⟨y, z, rfl, r1, r2⟩ := r.two
      cases r1 with
      | tup h1 r1 => cases r2 with
        | tup h3 r2 => exact ⟨_, _, _, _, rfl, .inr ⟨h1, h3, q _ S' H' _ p ok' x (itd_zipT ok' h1 r1 h3 r2)⟩⟩
    · exact p.elim) hw
end
section
variable {T : Tb} {X : Cx} {W : WX} {e e2 : Expr} {ta tb tc : TE} {wa wb wc : WE} {t1 : TA} {w1 : WA} {p pos tpos : Pos} {elts : List Expr} {kk : Nat} {x : Str}
theorem di_enum (hK : X.K = T.K) (hm : X.mg "enumerate" = none) (h : DE T X W e ta wa) (hg : Gl X "enumerate" := by rfl) (h1 : starEach (e :: []) X.env = (false, eval e X.env) :: starEach [] X.env := by rfl) (hs : starEach [e] X.env = [(false, eval e X.env)] := by rfl) :
    DI T X W (.Tuple elts kk tpos) (.Call (.Name "enumerate" p) [e] [] pos) (iEnum X.K (tCons ta tNil)) (wItE (wCons wa wNil)) := ⟨pi_enum hg hm (pa_cons h.pe pa_nil h1) hs, by rw [hK]; exact im_itE (im_consA h.im im_nilA)⟩
theorem di_zip (hK : X.K = T.K) (hm : X.mg "zip" = none) (h : DE T X W e ta wa) (h2 : DE T X W e2 tb wb) (hg : Gl X "zip" := by rfl) (h1 : starEach (e :: [e2]) X.env = (false, eval e X.env) :: starEach [e2] X.env := by rfl) (h3 : starEach (e2 :: []) X.env = (false, eval e2 X.env) :: starEach [] X.env := by rfl)
    (hpl : (backTo pos (starEach [e2] X.env)).any (·.1) = false := by rfl) :
    DI T X W (.Tuple elts kk tpos) (.Call (.Name "zip" p) [e, e2] [] pos) (RZ.iZipA X.K (tCons ta (tCons tb tNil))) (wItZ (wCons wa (wCons wb wNil))) := ⟨RZ.pi_zipA hg hm (pa_cons h.pe (pa_cons h2.pe pa_nil h3) h1) h1 hpl, by rw [hK]; exact im_itZ (im_consA h.im (im_consA h2.im im_nilA))⟩
/-- a module's constant int -/
theorem de_gint {i : Int} (hm : ∃ t, X.mg x = some (.int i t)) (hg : Gl X x := by rfl) (hd : (x == ("__debug__" : Str)) = false := by decide) : DE T X W (.Name x pos) (tC (.int i)) (wC (.int i)) := by
  obtain ⟨t, hm⟩ := hm
  exact ⟨pe_glob hg hm ⟨t, rfl⟩ hd, im_c fun _ _ => .int i⟩
end
/-! ### a list or a tuple walked -/
def iAny (K : PySem.W.Frag) (te : TE) : TI := fun σ H R => te σ H fun v H1 => (∃ a, v = .ref a ∧ (∃ xs, SqL K H1 a xs) ∧ R (Itl K a) H1) ∨ ∃ a, v = .ref a ∧ (∃ xs, SqT K H1 a xs) ∧ R (Itt K a) H1
section
variable {T : Tb} {X : Cx} {W : WX} {tg l : Expr} {tl : TE} {wl : WE}
theorem pi_any (hl : PE X l tl) : PI X tg l (iAny X.K tl) := by
  refine ⟨fun pins s σ H R I h => ?_⟩
  refine thn (hl.run pins s σ H _ I h) fun v sA ⟨x, HA, IA, rA, qA⟩ => ?_
  rcases qA with ⟨a, e, ⟨xs, hq⟩, q⟩ | ⟨a, e, ⟨xs, hq⟩, q⟩
  · subst e
    cases rA
    obtain ⟨vsA, rv, p, hz⟩ := IA.list hq
    refine wpAny_pyIter_list p.isList ?_
    refine ⟨sA.heap.objs.size, [sA.heap.objs.size], _, _, HA, rfl, IA.kept (t' := sA.toks) fun b o e => Heap.get?_push_of_some _ e, turn_list a _, ⟨_, Heap.get?_push_size _ rfl, rfl, rfl⟩, fun bA hA => ?_, q⟩
    have eA : bA = sA.heap.objs.size := by simpa using hA
    subst eA
    exact IA.fpOk (Nat.le_refl _) (IA.hok.fresh (Nat.le_refl _))
  · subst e
    cases rA
    obtain ⟨vsA, rv, p, hz⟩ := IA.tuple hq
    refine wpAny_pyIter_tuple (show sA.heap.IsTuple a vsA.toArray from p) ?_
    refine ⟨sA.heap.objs.size, [sA.heap.objs.size], _, _, HA, rfl, IA.kept (t' := sA.toks) fun b o e => Heap.get?_push_of_some _ e, turn_tuple a _, ⟨_, Heap.get?_push_size _ rfl, rfl, rfl⟩, fun bA hA => ?_, q⟩
    have eA : bA = sA.heap.objs.size := by simpa using hA
    subst eA
    exact IA.fpOk (Nat.le_refl _) (IA.hok.fresh (Nat.le_refl _))
def wItA (a : WE) : WI := fun ρ post ep => a ρ (fun d => match d with
  | .lst ds => post ds
  | .tup ds => post ds
  | _ => fun _ => False) ep
theorem im_itA (h : ImpE T W tl wl) : ImpI T W (iAny T.K tl) (wItA wl) := fun ρ σ S H H0 post ep R ok er ex q hw =>
  h ρ σ S H H0 _ ep _ ok er ex (fun d S' H' v p ok' x r => by
    cases r with
    | lst h1 h2 r1 => exact .inl ⟨_, rfl, ⟨_, SqL.of h1⟩, q _ S' H' _ p ok' x (itd_list ok' h1 h2 r1)⟩
    | tup h1 r1 => exact .inr ⟨_, rfl, ⟨_, h1⟩, q _ S' H' _ p ok' x (itd_tup ok' h1 r1)⟩
    | _ => exact False.elim p) hw
theorem di_any (hK : X.K = T.K) (h : DE T X W l tl wl) : DI T X W tg l (iAny X.K tl) (wItA wl) := ⟨pi_any h.pe, by rw [hK]; exact im_itA h.im⟩
end
/-! ### a < b < c as a value -/
def wChainV (f g : D → D → (D → Prop) → Prop) (a b c : WE) : WE := fun ρ post ep => a ρ (fun x => b ρ (fun y n => f x y (fun d => match d with
  | .bl k => if k = true then c ρ (fun z m => g y z fun e => post e m) ep n else post (.bl false) n
  | _ => False)) ep) ep
section
variable {T : Tb} {X : Cx} {W : WX} {a b c : Expr} {ta tb tc : TE} {wa wb wc : WE} {pos : Pos}
theorem im_chainV {r r' : R2} {f g : D → D → (D → Prop) → Prop} (hf : OpD T r f) (hg : OpD T r' g) (h1 : ImpE T W ta wa) (h2 : ImpE T W tb wb) (h3 : ImpE T W tc wc) : ImpE T W (tChain r r' ta tb tc) (wChainV f g wa wb wc) := fun ρ σ S H H0 post ep Q ok er ex q hw =>
  h1 ρ σ S H H0 _ ep _ ok er ex (fun x S1 H1 v p ok1 x1 r1 => h2 ρ σ S1 H1 H0 _ ep _ ok1 (er.ext ok x1) (ex.ext x1) (fun y S2 H2 v2 p2 ok2 x2 r2 => by
    refine hf S2 H2 v v2 x y (fun d n => match d with
      | .bl k => if k = true then wc ρ (fun z m => g y z fun e => post e m) ep n else post (.bl false) n
      | _ => False) _ ok2 (r1.ext ok1 x2.to0) r2 (fun d S3 H3 v3 p3 ok3 x3 r3 => ?_) p2
    cases r3 with
    | bl k =>
      refine ⟨k, rfl, ?_⟩
      cases k with
      | true =>
        refine h3 ρ σ S3 H3 H0 _ ep _ ok3 (((er.ext ok x1).ext ok1 x2).ext ok2 x3) (((ex.ext x1).ext x2).ext x3) (fun z S4 H4 v4 p4 ok4 x4 r4 => ?_) p3
        exact hg S4 H4 v2 v4 y z post _ ok4 (r2.ext ok2 (x3.trans x4).to0) r4 (q.ext (((x1.trans x2).trans x3).trans x4)) p4
      | false => exact q _ S3 H3 _ p3 ok3 ((x1.trans x2).trans x3) (.bl _)
    | _ => exact False.elim p3) p) hw
theorem de_chain {op op' : CmpOp} {r r' : R2} {f g : D → D → (D → Prop) → Prop} (ho : OpR X (compareOp op) r) (ho' : OpR X (compareOp op') r') (hf : OpD T r f) (hg : OpD T r' g) (h1 : DE T X W a ta wa) (h2 : DE T X W b tb wb) (h3 : DE T X W c tc wc)
    (hm : lastMarks [op, op'] [b, c] = false := by with_unfolding_all rfl) : DE T X W (.Compare a [op, op'] [b, c] pos) (tChain r r' ta tb tc) (wChainV f g wa wb wc) :=
  ⟨pe_chain ho ho' h1.pe h2.pe h3.pe hm, im_chainV hf hg h1.im h2.im h3.im⟩
end
end PyD

/-! PyD: the draws from a pen. -/
namespace PyD
open PySem PySem.Spec PyProof.Rows L2
/-- no rest: the cell mixed -/
def wDrawB : WS := wSeq (wSet 5 (wOp modD (wCB intD (wCons (wOp powD (wOp addD (wOp addD (wOp modD (wCB intD (wCons (wVar 4) wNil)) (wC (.int 2147483549))) (wOp mulD (wC (.int 84653)) (wVar 3))) (wC (.int 2203))) (wC (.int 5))) wNil)) (wC (.int 2147483563))))
  (wSeq (wSet 5 (wOp modD (wCB intD (wCons (wOp powD (wOp addD (wOp addD (wOp mulD (wVar 5) (wOp addD (wOp mulD (wC (.int 2)) (wVar 3)) (wC (.int 2203)))) (wOp mulD (wOp mulD (wC (.int 57793)) (wVar 3)) (wVar 3))) (wC (.int 84653))) (wC (.int 3))) wNil)) (wC (.int 2147483587))))
  (wRet (wOp modD (wCB intD (wCons (wOp divD (wVar 5) (wC (.int 64))) wNil)) (wVar 1))))
/-- the cell is known -/
def wDrawA : WS := wSeq (wIf (wAndT (wTest (wOp ltD (wVar 3) (wCB lenD (wCons (wPen 0 0) wNil)))) (wTest (wOp geD (wCB absD (wCons (wVar 4) wNil)) (wOp powD (wC (.int 10)) (wC (.int 18)))))) (wSeq (wSet 2 (wOp addD (wOp mulD (wC (.int 2)) (wOp subD (wCB absD (wCons (wVar 4) wNil)) (wOp powD (wC (.int 10)) (wC (.int 18))))) (wCB intD (wCons (wOp ltD (wVar 4) (wC (.int 0))) wNil))))
  (wSeq (wPenRest 0 (wOp divD (wCB intD (wCons (wVar 2) wNil)) (wVar 1)))
  (wRet (wOp modD (wCB intD (wCons (wVar 2) wNil)) (wVar 1))))) wNext) wDrawB
def wDraw : WS := (wSeq (wIf (wTest (wOp gtD (wPen 0 2) (wC (.int 0)))) (wSeq (wSet 2 (wCB intD (wCons (wPen 0 2) wNil)))
  (wSeq (wPenRest 0 (wOp divD (wVar 2) (wVar 1)))
  (wRet (wOp modD (wCB intD (wCons (wVar 2) wNil)) (wVar 1))))) wNext)
  (wSeq (wSet 3 (wPen 0 1))
  (wSeq (wPenAt 0 (wOp addD (wVar 3) (wC (.int 1))))
  (wSeq (wSet 4 (wOp addD (wOp mulD (wC (.int 57793)) (wVar 3)) (wC (.int 31013))))
  (wSeq (wIf (wTest (wOp neD (wPen 0 0) (wLst wNil))) (wSet 4 (wOp ixD (wPen 0 0) (wOp modD (wCB intD (wCons (wVar 3) wNil)) (wCB lenD (wCons (wPen 0 0) wNil))))) wNext)
  wDrawA)))))
theorem fmod_in {i m : Int} (h : 1 ≤ m) : 0 ≤ i.fmod m ∧ i.fmod m < m := by
  rw [Int.fmod_eq_emod_of_nonneg _ (by omega)]
  exact ⟨Int.emod_nonneg _ (by omega), Int.emod_lt_of_pos _ (by omega)⟩
theorem toPyL_ints : ∀ l : List Int, toPyL (l.map D.int) = some (l.map PyData.int)
  | [] => rfl
  | i :: l => by
    show (match toPy (.int i), toPyL (l.map D.int) with | some x, some xs => some (x :: xs) | _, _ => none) = _
    rw [toPyL_ints l]; rfl
theorem toPy_lst {l : List D} {ps : List PyData} (h : toPyL l = some ps) : toPy (.lst l) = some (.list ps) := by
  show (toPyL l).map PyData.list = _
  rw [h]; rfl
theorem toPy_tup {l : List D} {ps : List PyData} (h : toPyL l = some ps) : toPy (.tup l) = some (.tuple ps) := by
  show (toPyL l).map PyData.tuple = _
  rw [h]; rfl
theorem toPyL_cons {d : D} {l : List D} {p : PyData} {ps : List PyData} (h : toPy d = some p) (h2 : toPyL l = some ps) : toPyL (d :: l) = some (p :: ps) := by
  show (match toPy d, toPyL l with | some x, some xs => some (x :: xs) | _, _ => none) = _
  rw [h, h2]
theorem atI_some {l : List Int} {i : Int} (h0 : 0 ≤ i) (h1 : i < l.length) : ∃ x, atI (l.map D.int) i = some (.int x) := by
  obtain ⟨j, rfl⟩ := Int.eq_ofNat_of_zero_le h0
  have hj : j < l.length := by omega
  exact ⟨l[j], atI_nat (by rw [List.getElem?_map, List.getElem?_eq_getElem hj]; rfl)⟩
theorem depthInts : ∀ l : List Int, PyData.depthAll (l.map PyData.int) ≤ 1
  | [] => by simp [PyData.depthAll]
  | i :: l => by
    have := depthInts l
    simp only [List.map_cons, PyData.depthAll, PyData.depth]; omega
theorem canInts : ∀ l : List Int, PyData.canLayAll0 (l.map PyData.int) = true
  | [] => by simp [PyData.canLayAll0]
  | i :: l => by
    have := canInts l
    simp only [List.map_cons, PyData.canLayAll0, PyData.canLay0, this, Bool.and_self]
theorem shaped_ints (l : List Int) : SeqAt.shaped (.list (l.map PyData.int)) = true := by
  unfold SeqAt.shaped
  simp only [PyData.canLay0, PyData.depth, canInts]
  have := depthInts l
  simp; omega
theorem ne_nil_ints {l : List Int} {p : D → Prop} (hp : p (.bl (!l.isEmpty))) : neD (.lst (l.map D.int)) (.lst []) p := by
  refine ⟨_, _, toPy_lst (toPyL_ints l), rfl, shaped_ints l, by decide, ?_⟩
  cases l with
  | nil => simpa [PyData.eqv, PyData.eqvAll] using hp
  | cons a l => simpa [PyData.eqv, PyData.eqvAll] using hp
theorem draw_ok {L : Nat} {m : Int} {post : D → Pr} {ep : EP} {n : Nat} (h1 : 1 ≤ m) (hm : m.natAbs.log2 < 9000) (hn : 1 ≤ n) (h : ∀ (j : Int) (n' : Nat), 0 ≤ j → j < m → n ≤ n' + 1 → post (.int j) n') : wDef 2 6 wDraw [.vol L, .int m] post ep n := by
  have pm : ∀ (i : Int) (n' : Nat), n ≤ n' + 1 → m ≠ 0 ∧ post (.int (i.fmod m)) n' := fun i n' hn' => ⟨by omega, h _ _ (fmod_in h1).1 (fmod_in h1).2 hn'⟩
  have pd : m ≠ 0 ∧ m.natAbs.log2 < 9000 := ⟨by omega, hm⟩
  refine ⟨rfl, L, rfl, fun r => ?_⟩
  show (if decide (0 < r) = true then _ else _ : Pr) n
  split
  · refine ⟨L, rfl, fun r => ?_⟩
    exact ⟨pd, ⟨L, rfl⟩, _, rfl, pm _ _ (by omega)⟩
  refine ⟨L, rfl, fun a a0 an => ?_⟩
  match n, hn, h, pm, an with
  | n + 1, hn, h, pm, an =>
  have am : a < 4194304 := by unfold penMost at an; omega
  refine ⟨⟨L, rfl⟩, _, n, rfl, rfl, by omega, by omega, ?_⟩
  refine ⟨.inr (.inl ⟨by omega, by omega⟩), L, rfl, fun cells hc h63 => ⟨by decide, ne_nil_ints ?_⟩⟩
  -- the rest, whatever the cell is
  have rest : ∀ c : Int, wDrawA [.val (.vol L), .val (.int m), .no, .val (.int a), .val (.int c), .no] { nx := fun _ => post .non, rt := fun _ => post, rf := fun l => post (.lst l), ex := ep } n := fun c => by
    have fin : wDrawB [.val (.vol L), .val (.int m), .no, .val (.int a), .val (.int c), .no] { nx := fun _ => post .non, rt := fun _ => post, rf := fun l => post (.lst l), ex := ep } n := by
      have b1 := fmod_in (i := c) (m := 2147483549) (by omega)
      refine ⟨by omega, .inr (.inl ⟨by omega, by omega⟩), ⟨by omega, by omega, by omega⟩, by omega, ?_⟩
      have b2 := fmod_in (i := (c.fmod 2147483549 + 84653 * a + 2203) ^ Int.toNat 5) (m := 2147483563) (by omega)
      generalize ((c.fmod 2147483549 + 84653 * a + 2203) ^ Int.toNat 5).fmod 2147483563 = d at b2 ⊢
      have a2 : 0 ≤ 57793 * a * a ∧ 57793 * a * a ≤ 57793 * 4194304 * 4194304 := ⟨Int.mul_nonneg (by omega) a0, Int.mul_le_mul (by omega) (by omega) a0 (by omega)⟩
      have d2 : 0 ≤ d * (2 * a + 2203) ∧ d * (2 * a + 2203) ≤ 2147483563 * (2 * 4194304 + 2203) := ⟨Int.mul_nonneg b2.1 (by omega), Int.mul_le_mul (by omega) (by omega) (by omega) (by omega)⟩
      refine ⟨.inr (.inl ⟨by omega, by omega⟩), .inr (.inl ⟨by omega, by omega⟩), .inr (.inl ⟨by omega, by omega⟩), .inr (.inr ⟨by omega, by omega⟩), ⟨by omega, by omega, by omega⟩, by omega, ⟨by omega, by decide⟩, pm _ _ (by omega)⟩
    refine ⟨L, rfl, fun cells2 hc2 _ => ?_⟩
    show (if decide (a < ((cells2.map D.int).length : Int)) = true then _ else _ : Pr) n
    split
    · show CPow 10 18 ∧ _
      refine ⟨⟨by omega, by omega, by decide⟩, ?_⟩
      show (if decide (_ ≤ (if c < 0 then -c else c)) = true then _ else _ : Pr) n
      generalize (if c < 0 then -c else c) = e
      split
      · refine ⟨⟨by omega, by omega, by decide⟩, .inr (.inl ⟨by omega, by omega⟩), ?_⟩
        exact ⟨pd, ⟨L, rfl⟩, _, rfl, pm _ _ (by omega)⟩
      · exact fin
    · exact fin
  show (if (!cells.isEmpty) = true then _ else _ : Pr) n
  split
  · rename_i hne
    refine ⟨L, rfl, fun cells2 hc2 _ => ⟨L, rfl, fun cells3 hc3 _ => ?_⟩⟩
    have e3 : (cells3.map D.int).length = L := by rw [List.length_map]; exact hc3
    have lp : 1 ≤ (L : Int) := by
      cases cells with
      | nil => exact absurd hne (by decide)
      | cons x xs => rw [← hc, List.length_cons]; omega
    show (((cells3.map D.int).length : Nat) : Int) ≠ 0 ∧ _
    rw [e3]
    refine ⟨by omega, ?_⟩
    obtain ⟨y, ey⟩ := atI_some (l := cells2) (fmod_in (i := a) lp).1 (by rw [hc2]; exact (fmod_in lp).2)
    exact ⟨_, ey, rest y⟩
  · exact rest _
/-- some[draw(pen, len(some))] -/
def wPick : WS := (wRet (wOp ixD (wVar 1) (wCall (wDef 2 6 wDraw) [] (wCons (wVar 0) (wCons (wCB lenD (wCons (wVar 1) wNil)) wNil)))))
theorem pick_ok {L : Nat} {ds : List D} {post : D → Pr} {ep : EP} {n : Nat} (h0 : 1 ≤ ds.length) (h1 : ds.length < 2 ^ 24) (hn : 1 ≤ n) (h : ∀ d ∈ ds, ∀ n' : Nat, n ≤ n' + 1 → post d n') : wDef 2 2 wPick [.vol L, .lst ds] post ep n := by
  have hb : ((ds.length : Nat) : Int).natAbs.log2 < 9000 := by
    rw [Int.natAbs_natCast]
    exact Nat.lt_trans ((Nat.log2_lt (by omega)).mpr h1) (by decide)
  refine ⟨rfl, draw_ok (by omega) hb hn fun j n' j0 j1 hn' => ?_⟩
  obtain ⟨k, rfl⟩ := Int.eq_ofNat_of_zero_le j0
  have hk : k < ds.length := by omega
  exact ⟨ds[k], atI_nat (List.getElem?_eq_getElem hk), h _ (List.getElem_mem hk) n' hn'⟩
/-- [[int(cell) for cell in script[:63]], 0, 0] -/
def wPenL : WS := (wRetF (wLstF (wCons (wOfF (wComp (wItA (wSl (wVar 0) wNoP (wP (wC (.int 63))))) (gN 1) wYes (wCB intD (wCons (wVar 1) wNil)) [1])) (wCons (wC (.int 0)) (wCons (wC (.int 0)) wNil)))))
theorem lc_ints {ρ : EnvD} {post : List D → Pr} {n : Nat} (hρ : 1 < ρ.length) : ∀ (l acc : List Int), acc.length + l.length ≤ 63 → post ((acc ++ l).map D.int) n → wLc (gN 1) wYes (wCB intD (wCons (wVar 1) wNil)) ρ post (l.map D.int) (acc.map D.int) n
  | [], acc, _, h => by rw [List.append_nil] at h; exact h
  | i :: l, acc, hl, h => by
    have e : (ρ.set 1 (.val (.int i))).getD 1 .no = .val (.int i) := by
      rw [List.getD_eq_getElem?_getD, List.getElem?_set_self hρ]; rfl
    show (match (ρ.set 1 (Slot.val (.int i))).getD 1 .no with
      | .val d => fun n => intD [d] fun y => (acc.map D.int).length < sizeLine ∧ wLc (gN 1) wYes (wCB intD (wCons (wVar 1) wNil)) ρ post (l.map D.int) (acc.map D.int ++ [y]) n
      | _ => fun _ => False) n
    rw [e]
    have hl' : acc.length + (l.length + 1) ≤ 63 := hl
    refine ⟨by rw [List.length_map]; exact Nat.lt_of_le_of_lt (show acc.length ≤ 63 by omega) (by decide), ?_⟩
    have := lc_ints (post := post) (n := n) hρ l (acc ++ [i]) (by rw [List.length_append]; simp; omega) (by rw [List.append_assoc]; exact h)
    rw [List.map_append] at this
    exact this
theorem pen_ok {ns : List Int} {post : List D → Pr} {ep : EP} {n : Nat} (h : ∀ cells : List Int, cells.length ≤ 63 → post [.lst (cells.map D.int), .int 0, .int 0] n) : wDefF 1 2 wPenL [.scr ns] post ep n := by
  have e : cutD (ns.map D.int) none (some 63) = (ns.take 63).map D.int := by
    unfold cutD
    rw [List.length_map, HT.sIx_none]
    rw [show (some (63 : Int)) = some ((63 : Nat) : Int) from rfl, HT.sIx_nat, List.drop_zero, Nat.sub_zero, List.map_take, ← List.take_take]
    rw [show List.take ns.length (ns.map D.int) = ns.map D.int from List.take_of_length_le (by rw [List.length_map]; exact Nat.le_refl _)]
  refine ⟨rfl, ?_⟩
  show wLc (gN 1) wYes (wCB intD (wCons (wVar 1) wNil)) (wipeD (envOf 2 [.scr ns]) [1]) _ (cutD (ns.map D.int) none (some 63)) [] n
  rw [e]
  have hl : (ns.take 63).length ≤ 63 := by rw [List.length_take]; omega
  refine lc_ints (ρ := wipeD (envOf 2 [.scr ns]) [1]) (show 1 < 2 by decide) (ns.take 63) [] (by simp; omega) ?_
  exact ⟨show 3 ≤ sizeLine by decide, h _ hl⟩
end PyD

/-! PyD: what repr writes is text that == may see; its length. -/
namespace PyD
open PySem PySem.Spec PyProof.Rows L2
open PySem.PyData (strOk)
theorem ok_iff {x : Str} : strOk x = true ↔ ∀ c ∈ x.cps.toList, c < 0x110000 := by
  unfold PySem.PyData.strOk
  rw [Array.all_eq_true_iff_forall_mem]
  constructor
  · intro h c hc
    have := h c (Array.mem_toList_iff.mp hc)
    simpa using this
  · intro h c hc
    have := h c (Array.mem_toList_iff.mpr hc)
    simpa using this
theorem ok_app {x y : Str} (hx : strOk x = true) (hy : strOk y = true) : strOk (x ++ y) = true := by
  rw [ok_iff] at hx hy ⊢
  intro c hc
  have e : (x ++ y).cps.toList = x.cps.toList ++ y.cps.toList := by
    show (x.cps ++ y.cps).toList = _
    rw [Array.toList_append]
  rw [e, List.mem_append] at hc
  exact hc.elim (hx c) (hy c)
theorem ok_lit (s : String) : strOk (Str.ofString s) = true := by
  rw [ok_iff, signs_ofString]
  intro c hc
  obtain ⟨ch, _, rfl⟩ := List.mem_map.mp hc
  have : ch.toNat.isValidChar := ch.valid
  unfold Nat.isValidChar at this
  omega
theorem ok_join {sep : Str} (hs : strOk sep = true) : ∀ {ts : List Str}, (∀ t ∈ ts, strOk t = true) → strOk (Str.join sep ts) = true
  | [], _ => by rw [join_nil]; exact ok_lit ""
  | [x], h => by rw [join_one]; exact h x List.mem_cons_self
  | x :: y :: r, h => by
    have := ok_join hs (ts := y :: r) fun t ht => h t (List.mem_cons_of_mem _ ht)
    exact ok_app (ok_app (h x List.mem_cons_self) hs) this
theorem ok_from : ∀ {ts : List Str} {k : Nat} {acc : Str}, strOk acc = true → (∀ t ∈ ts, strOk t = true) → strOk (textFrom k acc ts) = true
  | [], _, _, ha, _ => ha
  | t :: r, k, acc, ha, h => ok_from (ts := r) (k := k + 1) (ok_app (ok_app ha (ok_lit _)) (h t List.mem_cons_self)) fun u hu => h u (List.mem_cons_of_mem _ hu)
theorem ok_tupT {ts : List Str} (h : ∀ t ∈ ts, strOk t = true) : strOk (tupleText ts) = true := ok_app (ok_app (ok_lit _) (ok_join (ok_lit _) h)) (ok_lit _)
theorem ok_lstT {ts : List Str} (h : ∀ t ∈ ts, strOk t = true) : strOk (listText ts) = true := ok_app (ok_from (ok_lit _) h) (ok_lit _)
theorem ok_int (i : Int) : strOk (PyData.int i).shown = true := by
  rw [PyData.shown_int]; exact ok_lit _
theorem len_int {i : Int} {k : Nat} (hk : 0 < k) (h : i.natAbs < 10 ^ k) : (PyData.shown (.int i)).length ≤ k + 1 := by
  have e := int_text_length_le10 hk h
  show (Str.ofString (toString i)).length ≤ k + 1
  rw [PySem.ofString_length]; exact e
/-- repr((i, j)) = repr((i, j)) -/
theorem repr2 {i j : Int} (hi : i.natAbs < 10 ^ 40) (hj : j.natAbs < 10 ^ 40) : (PyData.tuple [.int i, .int j]).showable = true ∧ (PyData.tuple [.int i, .int j]).shown.length ≤ sizeLine ∧ (PyData.tuple [.int i, .int j]).depth ≤ 60 ∧ strOk (PyData.tuple [.int i, .int j]).shown = true := by
  have lg : ∀ {z : Int}, z.natAbs < 10 ^ 40 → z.natAbs.log2 < 1920 := fun {z} h => by
    by_cases h0 : z.natAbs = 0
    · rw [h0]; decide
    · exact Nat.lt_trans ((Nat.log2_lt h0).mpr (Nat.lt_trans h (show 10 ^ 40 < 2 ^ 133 by decide))) (by decide)
  refine ⟨?_, ?_, ?_, ?_⟩
  · simp only [PyData.showable, PyData.showableAll, Bool.and_true, Bool.and_eq_true, decide_eq_true_eq]
    exact ⟨lg hi, lg hj⟩
  · have h := PyData.shown_le 41 (by decide) (.tuple [.int i, .int j]) (by
      simp only [PyData.leavesShort, PyData.leavesShortAll, Bool.and_true, Bool.and_eq_true, decide_eq_true_eq]
      exact ⟨len_int (by decide) hi, len_int (by decide) hj⟩)
    simp only [PyData.weight, PyData.weightAll] at h
    have e1 := lg hi
    have e2 := lg hj
    have e3 : ∀ z : Int, (if (z == 0) = true then 0 else z.natAbs.log2 + 1) ≤ z.natAbs.log2 + 1 := fun z => by split <;> omega
    have e4 := e3 i
    have e5 := e3 j
    have e6 : sizeLine = 16777216 := by decide
    rw [e6]
    omega
  · simp only [PyData.depth, PyData.depthAll]; decide
  · rw [PyData.shown_tuple, PyData.shownAll_cons, PyData.shownAll_cons, PyData.shownAll_nil]
    refine ok_tupT fun t ht => ?_
    simp only [List.mem_cons, List.not_mem_nil, or_false] at ht
    rcases ht with rfl | rfl
    · exact ok_int i
    · exact ok_int j
theorem shaped_str {x : Str} (h : strOk x = true) : SeqAt.shaped (.str x) = true := by
  unfold SeqAt.shaped
  simp only [PyData.canLay0, PyData.depth, h]; rfl
end PyD
namespace PyD
open PySem PySem.Spec PyProof.Rows L2
/-- the promise at the law's start -/
theorem start_ok {K : PySem.W.Frag} {cA : Nat → Addr} {tabs : List (Addr × Str)} {w : WD} {H : Hp} {a : Addr} {ns : List Int} (ht : ∀ p ∈ tabs, H p.1 = some (.tbl #[])) (hs : ScrO K H a (ns.map V.int)) (h : w [.scr ns] (fun d _ => d = .bl true) (fun _ _ _ => False) 1000) :
    spV (mkTb K cA tabs) w [.ref a] H (fun v _ => v = .bl true) fun _ _ _ => False := by
  refine ⟨⟨fun _ => none, 1000⟩, [.scr ns], fun d _ => d = .bl true, fun _ _ _ => False, ⟨fun _ _ e => (nomatch e), fun _ _ e => (nomatch e), fun p hp => LamX.TabS.nil (ht p hp)⟩, .cons (.scr hs) .nil, fun d S' H' v p _ _ r => ?_, fun _ _ _ _ _ _ p => p.elim, h⟩
  have p : d = .bl true := p
  subst p
  cases r
  rfl
end PyD

/-! PyD: own plain classes: making instances, fields, isinstance, own ==, own truth. -/
namespace PyD
open PySem PySem.Spec PyProof.Rows L2

/-! ### promises by positional values -/
structure FnP (P : Program) (w : World) (K : PySem.W.Frag) (mg : Str → Option Value) (base : Heap) (k : Nat) (f : Addr) (sp : Sp) : Prop where
  run : ∀ (A : Around) (outer : List Env) (s : Shared) (H : Hp) (us : List Value) (vs : List V) (Q : VK) (E : XK), Room k A → A.guards = some [] → Env0 P w K mg base A outer s H → Vals vs us → sp vs H Q E →
    codeAny (model P w) A (.call (.ref f) ⟨us, []⟩) (CR (L2.CX P w) outer P w H s Q E) s
section
variable {P : Program} {w : World} {K : PySem.W.Frag} {mg : Str → Option Value} {base : Heap} {j k : Nat} {f : Addr} {fd : FuncData} {ps : List Str} {sp : Sp}
theorem FnP.mono (F : FnP P w K mg base j f sp) (h : j ≤ k) : FnP P w K mg base k f sp := ⟨fun A outer s H us vs Q E hr => F.run A outer s H us vs Q E (hr.mono h)⟩
theorem FnG.toP (F : FnG P w K mg base k f fd ps sp) (hb : L2.Binds K fd ps []) : FnP P w K mg base k f sp := ⟨fun A outer s H us vs Q E hr hg e0 r h => by
  have KX : K.In s.heap := e0.mod.kin.keeps fun b o e => (e0.bs b o e).1
  have hl : us.length = ps.length := r.length.symm.trans (F.len _ _ _ _ h)
  have hb' := hb s us KX (by simpa using hl)
  exact F.run A outer s H ⟨us, []⟩ us vs Q E hr hg e0 (by simpa using hb') r h⟩
end
theorem run_fnP {X : Cx} {pins : List (Addr × Obj)} {σ : L2.St} {k : Nat} {f : Addr} {sp : Sp} {H : Hp} {s : Shared} {Q : VK} {us : List Value} {vs : List V} {E : XK} (F : FnP X.prog X.w X.K X.mg X.base k f sp) (hr : Room k X.A) (hg : X.A.guards = some []) (hx : PassesAt (L2.CX X.prog X.w) X σ E)
    (I : Inv X pins σ H s) (r : Vals vs us) (h : sp vs H Q E) : wpAny (model X.prog X.w) X.A (call (.ref f) us) (L2.EP X pins σ Q) X.xe s := by
  refine wpAny_call (codeAny_mono (F.run X.A X.stack s H us vs Q E hr hg I.env0 r h) fun r s' hq => ?_)
  match r, hq with
  | .error e, hq => exact hx pins H s e s' I hq
  | .ok (.ret u), hq => exact I.after hq
  | .ok .next, hq => exact False.elim hq
  | .ok .brk, hq => exact False.elim hq
  | .ok .cont, hq => exact False.elim hq

/-! ### an instance in the making -/
abbrev WIn := Addr → List D → (List (Str × D) → Pr) → EP → Pr
def envO (n : Nat) (a : Addr) (c : Nat) (ds : List D) : EnvD := .obj (a, c) [] :: envOf (n - 1) ds
def objK (a : Addr) (c : Nat) (post : List (Str × D) → Pr) : Slot → Pr
  | .obj p fs => fun n => p = (a, c) ∧ post fs n
  | _ => fun _ => False
def wInit (c m n : Nat) (w : WS) : WIn := fun a ds post ep k => ds.length = m ∧ w (envO n a c ds) { nx := fun ρ => objK a c post (ρ.getD 0 .no), rt := fun _ _ _ => False, rf := fun _ _ => False, ex := ep } k
/-- def __init__(self, a, .., *v) -/
def wStar (m : Nat) (w : WIn) : WIn := fun a ds post ep k => m ≤ ds.length ∧ ds.length ≤ sizeLine ∧ w a (ds.take m ++ [.tup (ds.drop m)]) post ep k
def QI (T : Tb) (c : Nat) (a : Addr) (S : VS) (H : Hp) (post : List (Str × D) → Pr) (Q : VK) : Prop := ∀ (fs : List (Str × D)) (S' : VS) (H' : Hp) (dx : Addr) (vs : List (Str × V)), post fs S'.n → Ok T S' H' → Ext S H S' H' → H' a = some (.ins (T.cA c) dx vs) → S' a = some .own → RepF T S' H' vs fs → Q .non H'
def spI (T : Tb) (c : Nat) (w : WIn) : Sp := fun vs H Q E => ∃ (S : VS) (H0 : Hp) (a dx : Addr) (ws : List V) (ds : List D) (post : List (Str × D) → Pr) (ep : EP), vs = .ref a :: ws ∧ H0 a = none ∧ H0 dx = none ∧ dx ≠ a ∧ H = upd (upd H0 dx (.own a)) a (.ins (T.cA c) dx []) ∧
  Ok T S H0 ∧ RepL T S H0 ws ds ∧ QI T c a S H0 post Q ∧ ExE T S H0 ep E ∧ w a ds post ep S.n
section
variable {T : Tb} {S : VS} {H : Hp}
theorem own_newI {p C dx : Addr} {fs : List (Str × V)} (ok : Ok T S H) (hp : H p = none) : Ok T (own S p) (upd H p (.ins C dx fs)) ∧ Ext S H (own S p) (upd H p (.ins C dx fs)) := by
  have ne : ∀ b o, H b = some o → b ≠ p := fun b o e => ne_of_none e hp
  have x : Ext S H (own S p) (upd H p (.ins C dx fs)) := ⟨fun b o e _ _ => ⟨by rw [upd_ne (ne b o e)]; exact e, own_ne (ne b o e)⟩, fun b n e => by
    have nb : b ≠ p := fun z => by rw [z, ok.new hp] at e; cases e
    rw [own_ne nb]; exact e, fun b ps e => ⟨ps, by rw [upd_ne (ne b _ e)]; exact e⟩⟩
  refine ⟨⟨fun b n e => ?_, fun b k e => ?_, tabs_keep ok.tabs fun b u e _ _ _ => by rw [upd_ne (ne b u e)]; exact e⟩, x⟩
  · have nb : b ≠ p := fun z => by rw [z, own_same] at e; cases e
    rw [own_ne nb] at e
    exact T.st n S _ H _ b (ok.vol b n e) (fun c u h h1 h2 => x.to0.keep c u h h1 h2) (Nat.le_refl _) (upd_ne nb)
  · by_cases hb : b = p
    · rw [hb]; exact .inr (.inl ⟨C, dx, fs, upd_same⟩)
    · rw [own_ne hb] at e
      rw [upd_ne hb]
      exact ok.chg b k e
/-- the instance's fields change -/
theorem own_updI {p C dx dx' : Addr} {fs gs : List (Str × V)} (ok : Ok T S H) (hp : S p = some .own) (hH : H p = some (.ins C dx fs)) : Ok T S (upd H p (.ins C dx' gs)) ∧ Ext0 S H S (upd H p (.ins C dx' gs)) := by
  have x : Ext0 S H S (upd H p (.ins C dx' gs)) := ⟨fun b o e _ h => by
    have nb : b ≠ p := fun z => by rw [z, hp] at h; cases h
    exact ⟨by rw [upd_ne nb]; exact e, h⟩, fun b n e => e⟩
  refine ⟨⟨fun b n e => ?_, fun b k e => ?_, tabs_keep ok.tabs fun b u e _ h2 _ => ?_⟩, x⟩
  · have nb : b ≠ p := fun z => by rw [z, hp] at e; cases e
    exact T.st n S _ H _ b (ok.vol b n e) (fun c u h h1 h2 => x.keep c u h h1 h2) (Nat.le_refl _) (upd_ne nb)
  · by_cases hb : b = p
    · rw [hb]; exact .inr (.inl ⟨C, dx', gs, upd_same⟩)
    · rw [upd_ne hb]; exact ok.chg b k e
  · have nb : b ≠ p := fun z => by rw [z, hH] at e; exact h2 C dx fs (Option.some.inj e).symm
    rw [upd_ne nb]; exact e
theorem own_updI_ext {S1 : VS} {H1 : Hp} {p C dx' : Addr} {gs : List (Str × V)} (x : Ext S1 H1 S H) (h1 : H1 p = none) : Ext S1 H1 S (upd H p (.ins C dx' gs)) := by
  refine ⟨fun b o e n m => ?_, x.vk, fun b ps e => ?_⟩
  · obtain ⟨k1, k2⟩ := x.keep b o e n m
    exact ⟨by rw [upd_ne (ne_of_none e h1)]; exact k1, k2⟩
  · obtain ⟨qs, k⟩ := x.tb b ps e
    exact ⟨qs, by rw [upd_ne (ne_of_none e h1)]; exact k⟩
theorem obj_new {a dx C : Addr} (ok : Ok T S H) (ha : H a = none) (hd : H dx = none) (hn : dx ≠ a) : Ok T (own S a) (upd (upd H dx (.own a)) a (.ins C dx [])) ∧ Ext S H (own S a) (upd (upd H dx (.own a)) a (.ins C dx [])) := by
  have o1 := ok.laid (o := .own a) hd
  have x1 := ext_new (o := .own a) ok hd
  have ha1 : upd H dx (.own a) a = none := by rw [upd_ne (Ne.symm hn)]; exact ha
  obtain ⟨o2, x2⟩ := own_newI (C := C) (dx := dx) (fs := []) o1 ha1
  exact ⟨o2, x1.trans x2⟩
end
section
variable {T : Tb} {P : Program} {w : World} {K : PySem.W.Frag} {mg : Str → Option Value} {base : Heap} {x qual : Str} {params : Arguments} {body : List Stmt} {scope : Scope} {dvs : List V} {kws : List (Str × V)} {f : Addr} {fd : FuncData} {N ps : List Str} {k c : Nat} {wb : WS} {sf : Str}
theorem envO_rel {a dx : Addr} {ws : List V} {ds : List D} {S : VS} {H H0 : Hp} (hn : ws.length + 1 ≤ N.length) (h0 : H0 a = none) (hH : H a = some (.ins (T.cA c) dx [])) (hS : S a = some .own) (r : RepL T S H ws ds) : EnvRel T H0 S H (L2.start N (.ref a :: ws)) (envO N.length a c ds) := by
  have es : L2.start N (.ref a :: ws) = some (.ref a) :: (ws.map some ++ List.replicate (N.length - 1 - ws.length) none) := by
    unfold L2.start
    rw [List.length_cons, List.map_cons, List.cons_append, Nat.sub_sub, Nat.add_comm 1]
  rw [es]
  have at_ : ∀ (i : Nat) (s : Slot), s ≠ .no → (envO N.length a c ds)[i]? = some s → (i = 0 ∧ s = .obj (a, c) []) ∨ ∃ j d v, i = j + 1 ∧ s = .val d ∧ (ws.map some ++ List.replicate (N.length - 1 - ws.length) none)[j]? = some (some v) ∧ Rep T S H v d := fun i s hs e => by
    cases i with
    | zero => cases e; exact .inl ⟨rfl, rfl⟩
    | succ j =>
      obtain ⟨d, v, e1, e2, e3⟩ := env_at r j s hs (show (envOf (N.length - 1) ds)[j]? = some s from e)
      exact .inr ⟨j, d, v, rfl, e1, e2, e3⟩
  refine ⟨?_, fun i d e => ?_, fun i ds' e => ?_, fun i j ds' es a e1 e2 e3 e4 => ?_, fun i c' fs e => ?_, fun i j c' c'' fs fs' e1 e2 => ?_⟩
  · unfold envO envOf
    have := r.length
    simp only [List.length_append, List.length_map, List.length_replicate, List.length_cons]
    omega
  · rcases at_ i _ (by simp) e with ⟨_, z⟩ | ⟨j, d', v, rfl, z, e2, e3⟩
    · cases z
    · cases z; exact ⟨v, e2, e3⟩
  · rcases at_ i _ (by simp) e with ⟨_, z⟩ | ⟨j, d', v, rfl, z, e2, e3⟩ <;> cases z
  · rcases at_ i _ (by simp) e1 with ⟨_, z⟩ | ⟨j, d', v, _, z, _⟩ <;> cases z
  · rcases at_ i _ (by simp) e with ⟨rfl, z⟩ | ⟨j, d', v, rfl, z, e2, e3⟩
    · cases z; exact ⟨a, dx, [], rfl, hH, hS, .nil, h0, rfl⟩
    · cases z
  · rcases at_ i _ (by simp) e1 with ⟨rfl, _⟩ | ⟨_, _, _, _, z, _⟩
    · rcases at_ j _ (by simp) e2 with ⟨rfl, _⟩ | ⟨_, _, _, _, z, _⟩
      · rfl
      · cases z
    · cases z
theorem init_im {t : TS} {W : WX} {m : Nat} {a dx : Addr} {ws : List V} {ds : List D} {S : VS} {H0 : Hp} {post : List (Str × D) → Pr} {ep : EP} {Q : VK} (im : ImpS T W t wb) (hW : ∀ σ, ExW T W σ S H0 ep) (ha : H0 a = none) (hd : H0 dx = none) (hn : dx ≠ a) (ok : Ok T S H0) {H : Hp} {S1 : VS} (e1 : H a = some (.ins (T.cA c) dx [])) (e2 : S1 a = some .own) (o1 : Ok T S1 H) (x1 : Ext S H0 S1 H) (en : S1.n = S.n) (r : RepL T S1 H ws ds) (q : QI T c a S H0 post Q) (hl : ws.length + 1 ≤ N.length)
    (h : wInit c m N.length wb a ds post ep S.n) : t { nx := fun _ H' => Q .non H', rt := Q } (L2.start N (.ref a :: ws)) H := by
  refine im (envO N.length a c ds) _ S1 H S H0 { nx := fun ρ => objK a c post (ρ.getD 0 .no), rt := fun _ _ _ => False, rf := fun _ _ => False, ex := ep } _ ok o1 x1 (envO_rel hl ha e1 e2 r) ⟨fun ρ σ S' H' p st => ?_, fun _ _ _ _ p => p.elim, fun _ _ _ _ p => p.elim, fun _ _ _ _ _ _ p => p.elim, fun _ _ _ _ _ p => p.elim, hW⟩ (by rw [en]; exact h.2)
  have p' : objK a c post (ρ.getD 0 .no) S'.n := p
  rw [List.getD_eq_getElem?_getD] at p'
  cases e : ρ[0]? with
  | none => rw [e] at p'; exact p'.elim
  | some s =>
    rw [e] at p'
    cases s with
    | obj b fs =>
      obtain ⟨rfl, p2⟩ := p'
      obtain ⟨a', dx', vs, k1, k2, k3, k4, k5, k6⟩ := st.er.obj 0 _ fs e
      cases k6
      exact q fs S' H' dx' vs p2 st.ok st.b k2 k3 k4
    | val _ => exact p'.elim
    | own _ => exact p'.elim
    | no => exact p'.elim
/-- def __init__(self, ..) -/
theorem fnI (F : FunD K x qual params body scope dvs kws f fd) (S : FnScope N (sf :: ps) scope) (hb : BodyD T P w K mg base N qual scope f k body wb) : FnG P w K mg base (k + 1) f fd (sf :: ps) (spI T c (wInit c ps.length N.length wb)) := by
  have hpl : ps.length + 1 ≤ N.length := by have := congrArg List.length S.pre; rw [List.length_take] at this; simp at this; omega
  refine ⟨fun vs H Q E ⟨_, _, _, _, _, _, _, _, e, _, _, _, _, _, rd, _, _, h⟩ => by rw [e, List.length_cons, rd.length, h.1, List.length_cons], fun A outer s H args us vs Q E hr hg e0 hbd r h => ?_⟩
  obtain ⟨oc, od, dV, kV, doc, pm, an, cdv, ct, osl, rfl, lk, hcd, _, _⟩ := F.ex
  obtain ⟨S0, H0, a, dx, ws, ds, post, ep, rfl, ha, hd, hn, rfl, ok, rd, q, ex, hw⟩ := h
  have hl : (V.ref a :: ws).length = (sf :: ps).length := by rw [List.length_cons, List.length_cons, rd.length, hw.1]
  obtain ⟨o1, x1⟩ := obj_new (C := T.cA c) ok ha hd hn
  refine LamX.run_ofS lk hcd S hr e0 hbd r hl fun hr' => ?_
  obtain ⟨t, dt⟩ := hb cdv A outer s _ E hr' hg
  refine ⟨t, dt.pss, init_im dt.im (fun σ c ds S' H' d fs p ok' x h1 h2 => ex c ds S' H' d fs p ok' x h1 h2) ha hd hn ok upd_same own_same o1 x1 rfl (rd.ext ok x1.to0) q (by rw [rd.length, hw.1]; exact hpl) hw⟩
/-- def __init__(self, .., *v) -/
theorem fnIS {pv : Str} (F : FunD K x qual params body scope [] [] f fd) (S : FnScope N (sf :: ps ++ [pv]) scope)
    (hbind : ∀ (kV doc pm : Value) (an : Option Addr) (cdv ct : Value) (us rest : List Value), us.length = (sf :: ps).length → bindArgs (PySem.W.fnOf x qual params body scope .none kV doc pm an cdv ct) ⟨us ++ rest, []⟩ = (newTuple rest >>= fun t => pure ((sf :: ps).zip us ++ [(pv, t)])))
    (hb : BodyD T P w K mg base N qual scope f k body wb) : FnP P w K mg base (k + 1) f (spI T c (wStar ps.length (wInit c (ps.length + 1) N.length wb))) := by
  have hpl : ps.length + 1 + 1 ≤ N.length := by have := congrArg List.length S.pre; rw [List.length_take] at this; simp at this; omega
  refine ⟨fun A outer s H us vs Q E hr hg e0 r h => ?_⟩
  obtain ⟨oc, od, dV, kV, doc, pm, an, cdv, ct, osl, rfl, lk, hcd, hD, _⟩ := F.ex
  have hV : dV = .none := hD.elim (fun z => z.2) fun z => absurd rfl z.1
  subst hV
  obtain ⟨S0, H0, a, dx, ws, ds, post, ep, rfl, ha, hd, hn, rfl, ok, rd, q, ex, hm, hz, hw⟩ := h
  obtain ⟨o1, x1⟩ := obj_new (C := T.cA c) ok ha hd hn
  have hws : ws.length = ds.length := rd.length
  have r' : Vals ((V.ref a :: ws.take ps.length) ++ ws.drop ps.length) us := by rw [List.cons_append, List.take_append_drop]; exact r
  obtain ⟨u1, u2, eu, r1, r2⟩ := StX.vals_split r'
  subst eu
  have hl1 : u1.length = (sf :: ps).length := by rw [← r1.length, List.length_cons, List.length_cons, List.length_take]; omega
  have hl2 : u2.length ≤ sizeLine := by rw [← r2.length, List.length_drop]; omega
  have hfr := e0.hok.fresh (Nat.le_refl s.heap.objs.size)
  refine StX.run_bnd lk hcd S hr e0 (G := fun xs H2 => ∃ p, upd (upd H0 dx (.own a)) a (.ins (T.cA c) dx []) p = none ∧ xs = (V.ref a :: ws.take ps.length) ++ [V.ref p] ∧ H2 = upd (upd (upd H0 dx (.own a)) a (.ins (T.cA c) dx [])) p (.tup (ws.drop ps.length))) (fun A' Ex Q' h => ?_) fun s2 H2 xs ⟨p, hp, ex', eH⟩ hr' => ?_
  · rw [hbind kV doc pm an cdv ct u1 u2 hl1]
    refine wpAny_bind (wpAny_newTuple (wpAny_pure ?_) hl2)
    have hz2 : (ws.drop ps.length).length ≤ sizeLine := by rw [r2.length]; exact hl2
    have new : ObjOk P w (upd (upd (upd H0 dx (.own a)) a (.ins (T.cA c) dx [])) s.heap.objs.size (.tup (ws.drop ps.length))) (s.heap.push ({ cls := .type "tuple", data := .seq u2.toArray } : Obj)) s.heap.objs.size (.tup (ws.drop ps.length)) := ⟨hz2, u2, r2, ⟨_, Heap.get?_push_size _ rfl, rfl, _, rfl⟩⟩
    have un := StX.un_laid (fs := frs outer) (s := s) (o := ({ cls := .type "tuple", data := .seq u2.toArray } : Obj)) (u := .tup (ws.drop ps.length)) hfr
    have z := h _ _ ((V.ref a :: ws.take ps.length) ++ [V.ref s.heap.objs.size]) (u1 ++ [Value.ref s.heap.objs.size]) (StX.env0_laid e0 new) un rfl (fun e s' => StX.cxUp outer s _ _ _ E e s' un (fun b o q => Heap.get?_push_of_some _ q) rfl) (r1.append (.cons rfl .nil))
      (by rw [List.length_append, List.length_append, r1.length, hl1] <;> rfl) ⟨_, hfr, rfl, rfl⟩
    rw [List.zip_append hl1.symm] at z
    exact z
  · subst ex' eH
    obtain ⟨t, dt⟩ := hb cdv A outer s2 (upd (upd (upd H0 dx (.own a)) a (.ins (T.cA c) dx [])) p (.tup (ws.drop ps.length))) E hr' hg
    have o2 := o1.laid (o := .tup (ws.drop ps.length)) hp
    have x2 := ext_new (o := .tup (ws.drop ps.length)) o1 hp
    have pa : a ≠ p := fun z => by rw [← z, upd_same] at hp; cases hp
    have rt := ((rd.take ps.length).ext ok (x1.trans x2).to0).append (.cons (.tup (SqT.of (show upd _ p (.tup (ws.drop ps.length)) p = some _ from upd_same)) ((rd.drop ps.length).ext ok (x1.trans x2).to0)) .nil : RepL T (own S0 a) (upd (upd (upd H0 dx (.own a)) a (.ins (T.cA c) dx [])) p (.tup (ws.drop ps.length))) [V.ref p] [.tup (ds.drop ps.length)])
    refine ⟨t, dt.pss, init_im dt.im (fun σ c ds S' H' d fs p ok' x h1 h2 => ex c ds S' H' d fs p ok' x h1 h2) ha hd hn ok (by rw [upd_ne pa]; exact upd_same) own_same o2 (x1.trans x2) rfl rt q (by
      show (ws.take ps.length ++ [V.ref p]).length + 1 ≤ N.length
      rw [List.length_append, List.length_take]; simp only [List.length_cons, List.length_nil]; omega) hw⟩
end

/-! ### self.f = e -/
def putD (f : Str) (v : D) : List (Str × D) → List (Str × D)
  | [] => [(f, v)]
  | (g, u) :: r => if g = f then (g, v) :: r else (g, u) :: putD f v r
/-- name i's own f = e -/
def wFset (i : Nat) (f : Str) (no : Nat → Bool) (e : WE) : WS := fun ρ K => e ρ (fun d n => ∃ p fs, ρ[i]? = some (.obj p fs) ∧ no p.2 = true ∧ fs.length < 1000 ∧ K.nx (ρ.set i (.obj p (putD f d fs))) n) K.ex
section
variable {T : Tb} {X : Cx} {W : WX}
theorem RepF.put {S : VS} {H : Hp} {f : Str} {v : V} {d : D} (r : Rep T S H v d) : ∀ {fs : List (Str × V)} {ds : List (Str × D)}, RepF T S H fs ds → RepF T S H (putF f v fs) (putD f d ds)
  | _, _, .nil => .cons r .nil
  | (g, u) :: fs, (_, u') :: ds, .cons ru t => by
    show RepF T S H (if g = f then (g, v) :: fs else (g, u) :: putF f v fs) (if g = f then (g, d) :: ds else (g, u') :: putD f d ds)
    split
    · exact .cons r t
    · exact .cons ru (RepF.put r t)
theorem RepF.length {S : VS} {H : Hp} : ∀ {fs : List (Str × V)} {ds : List (Str × D)}, RepF T S H fs ds → fs.length = ds.length
  | _, _, .nil => rfl
  | _, _, .cons _ t => congrArg Nat.succ (RepF.length t)
theorem EnvRel.putObj {H0 : Hp} {S : VS} {H : Hp} {σ : L2.St} {ρ : EnvD} {i : Nat} {p : Addr × Nat} {a dx dx' : Addr} {vs us : List (Str × V)} {fs gs : List (Str × D)} (ok : Ok T S H) (er : EnvRel T H0 S H σ ρ) (e : ρ[i]? = some (.obj p fs)) (e1 : σ[i]? = some (some (.ref a))) (e2 : H a = some (.ins (T.cA p.2) dx vs)) (e3 : S a = some .own) (e5 : H0 a = none) (e6 : p.1 = a) (r : RepF T S H us gs) :
    EnvRel T H0 S (L2.upd H a (.ins (T.cA p.2) dx' us)) σ (ρ.set i (.obj p gs)) := by
  obtain ⟨o2, x⟩ := own_updI (dx' := dx') (gs := us) ok e3 e2
  have hlt : i < ρ.length := by
    rcases Nat.lt_or_ge i ρ.length with h | h
    · exact h
    · rw [List.getElem?_eq_none h] at e; cases e
  refine ⟨by rw [List.length_set]; exact er.len, fun j d e' => ?_, fun j ds e' => ?_, fun j k ds es b q1 q2 q3 q4 => ?_, fun j c fs' e' => ?_, fun j k c c' fs1 fs2 q1 q2 => ?_⟩
  · obtain ⟨n, z⟩ := set_back (by simp) e'
    obtain ⟨v, k1, k2⟩ := er.val j d z
    exact ⟨v, k1, k2.ext ok x⟩
  · obtain ⟨n, z⟩ := set_back (by simp) e'
    obtain ⟨b, xs, k1, k2, k3, k4, k5⟩ := er.own j ds z
    have nb : b ≠ a := fun z => by rw [z, e2] at k2; cases k2
    exact ⟨b, xs, k1, by rw [upd_ne nb]; exact k2, k3, k4.ext ok x, k5⟩
  · exact er.dis j k ds es b (set_back (by simp) q1).2 (set_back (by simp) q2).2 q3 q4
  · by_cases hj : i = j
    · subst hj
      rw [List.getElem?_set_self hlt] at e'
      cases e'
      exact ⟨a, dx', us, e1, upd_same, e3, r.ext ok x, e5, e6⟩
    · rw [List.getElem?_set_ne hj] at e'
      exact absurd (er.odis i j p c fs fs' e e') hj
  · by_cases h1 : i = j
    · by_cases h2 : i = k
      · rw [← h1, ← h2]
      · subst h1
        rw [List.getElem?_set_ne h2] at q2
        exact er.odis i k p c' fs fs2 e q2
    · rw [List.getElem?_set_ne h1] at q1
      by_cases h2 : i = k
      · subst h2
        exact er.odis j i c p fs1 fs q1 e
      · rw [List.getElem?_set_ne h2] at q2
        exact er.odis j k c c' fs1 fs2 q1 q2
/-- what is told of the own plain classes -/
structure InsT (K : PySem.W.Frag) (C : Addr) : Prop where
  cl : Cls K C
  ca : PySem.W.findIn K (.ref C) "__class__" = some (some (.builtin "object.__class__"))
  cg : PySem.W.specialIn K (.builtin "object.__class__") "__get__" = some (some (.builtin "getset_descriptor.__get__"))
  ct : PySem.W.takesIn K (.builtin "object.__class__") = some true
  cm : PySem.W.mroIn K C (.type "object") = some true
theorem im_fset {i : Nat} {f : Str} {no : Nat → Bool} {te : TE} {we : WE} (hno : ∀ c, no c = true → InsT T.K (T.cA c) ∧ NoAttr T.K (T.cA c) f) (h : ImpE T W te we) : ImpS T W (sFld T.K (tVar i) te f) (wFset i f no we) := fun ρ σ S H S0 H0 K En ok0 ok b er k hw =>
  h ρ σ S H H0 _ _ _ ok er (ExW.of k.ex b) (fun d S1 H1 v p1 ok1 x1 r1 => by
    obtain ⟨p, fs, e, hn, hl, hx⟩ := p1
    have er1 := er.ext ok x1
    obtain ⟨a, dx, vs, e1, e2, e3, e4, e5, e6⟩ := er1.obj i p fs e
    obtain ⟨h1, h2⟩ := hno _ hn
    refine ⟨_, e1, a, _, dx, vs, rfl, e2, h1.cl, h2, by rw [e4.length]; exact hl, ?_⟩
    have b1 := b.trans x1
    obtain ⟨o2, x2⟩ := own_updI (dx' := dx) (gs := putF f v vs) ok1 e3 e2
    exact k.nx _ σ S1 _ hx ⟨o2, own_updI_ext b1 e5, x1.to0.trans x2, er1.putObj ok1 e e1 e2 e3 e5 e6 (e4.put r1)⟩) hw
theorem ds_fset {i : Nat} {f x : Str} {no : Nat → Bool} {e : Expr} {te : TE} {we : WE} {p pos pos' : Pos} (hK : X.K = T.K) (hno : ∀ c, no c = true → InsT T.K (T.cA c) ∧ NoAttr T.K (T.cA c) f) (hx : PE X (.Name x p) (tVar i)) (h : DE T X W e te we) (hs : swapsWith e (some (.Attribute (.Name x p) f pos')) pos.line X.env = pure false := by rfl) :
    DS T X W (.Assign [.Attribute (.Name x p) f pos'] e pos) (sFld X.K (tVar i) te f) (wFset i f no we) := ⟨ps_fld hx h.pe hs, by rw [hK]; exact im_fset hno h.im⟩

/-! ### e.f -/
/-- a field: of a kept error, of an instance -/
def attrD (f : Str) (nE nO : Nat) : D → (D → Prop) → Prop := fun x p => match x with
  | .exc c fs => c < nE ∧ ∃ d, fs.lookup f = some d ∧ p d
  | .ins c fs => nE ≤ c ∧ c < nO ∧ ∃ d, fs.lookup f = some d ∧ p d
  | _ => False
/-- what is told of classes: errors below nE, plain ones from there on below nO -/
structure ClsT (T : Tb) (nE nO : Nat) (words : List Str) : Prop where
  ask : ∀ c, c < nE → Er.Ask T.K (T.cA c)
  ins : ∀ c, nE ≤ c → c < nO → InsT T.K (T.cA c)
  no : ∀ c, c < nO → ∀ f ∈ words, PySem.W.findIn T.K (.ref (T.cA c)) f = some none
  inj : ∀ c d, c < nO → d < nO → T.cA c = T.cA d → c = d
theorem pe_alt {e : Expr} {t t' : TE} (h : PE X e t) (h' : PE X e t') : PE X e (fun σ H Q => t σ H Q ∨ t' σ H Q) := ⟨fun pins s σ H Q I z => z.elim (h.run pins s σ H Q I) (h'.run pins s σ H Q I)⟩
theorem pe_imp {e : Expr} {t t' : TE} (h : PE X e t) (i : ∀ σ H Q, t' σ H Q → t σ H Q) : PE X e t' := ⟨fun pins s σ H Q I z => h.run pins s σ H Q I (i _ _ _ z)⟩
/-- the two readings behind one expression -/
def tAttr (T : Tb) (f : Str) (ta : TE) : TE := fun σ H Q => ta σ H fun x H1 =>
  (∃ (a d : Addr) (c : Nat) (fs : List (Str × V)) (v : V), x = .ref a ∧ H1 a = some (ExcO (.ref (T.cA c)) d a) ∧ H1 d = some (.xd fs) ∧ fs.lookup f = some v ∧ (Er.Ask T.K (T.cA c) ∧ PySem.W.findIn T.K (.ref (T.cA c)) f = some none) ∧ Q v H1) ∨
  (∃ a C dx fs v, x = .ref a ∧ H1 a = some (.ins C dx fs) ∧ Cls T.K C ∧ NoAttr T.K C f ∧ fs.lookup f = some v ∧ Q v H1)
theorem pe_attr {f : Str} {e : Expr} {te : TE} {pos : Pos} (hK : X.K = T.K) (he : PE X e te) (hb : attributeBase e f X.env (eval e X.env) = eval e X.env := by rfl) : PE X (.Attribute e f pos) (tAttr T f te) := by
  refine ⟨fun pins s σ H Q I h => ?_⟩
  refine attr_of hb (thn (he.run pins s σ H _ I h) fun u s1 ⟨x, H1, I1, rx, z⟩ => ?_)
  rcases z with ⟨a, d, c, fs, v, ex, h1, h2, l, ⟨T1, hn⟩, q⟩ | ⟨a, C, dx, fs, v, ex, ea, c, n, l, q⟩
  · subst ex
    obtain rfl : u = Value.ref a := rx
    rw [← hK] at T1 hn
    obtain ⟨ox, od, mA, J, hns, ho, hr⟩ := exc_inst I1 h1 h2
    obtain ⟨od', ho', hl⟩ := lookIn_ns hns
    have eo : od' = od := Option.some.inj (ho'.symm.trans ho)
    subst eo
    obtain ⟨u, hu, ru⟩ := RelO.some_of (v := v) (o := mA f) (by rw [← l]; exact hr f)
    exact HandSPX.exc_get I1.kIn J T1.ga T1.gg T1.ex (PySem.W.findObj_own T1.hd hn rfl (by rw [hl, hu])) (handed_of ru) ⟨v, H1, I1.tok _, ru, q⟩
  · subst ex
    obtain rfl : u = Value.ref a := rx
    rw [← hK] at c n
    exact getattr_ok I1 ea c n l fun u' s2 I2 ru => ⟨v, H1, I2, ru, q⟩
theorem de_attr {f : Str} {nE nO : Nat} {words : List Str} {e : Expr} {te : TE} {we : WE} {pos : Pos} (hK : X.K = T.K) (Z : ClsT T nE nO words) (hf : f ∈ words) (hnE : nE ≤ nO) (h : DE T X W e te we) (hb : attributeBase e f X.env (eval e X.env) = eval e X.env := by rfl) :
    DE T X W (.Attribute e f pos) (tAttr T f te) (wUn (attrD f nE nO) we) := ⟨pe_attr hK h.pe hb, fun ρ σ S H H0 post ep Q ok er ex q hw =>
  h.im ρ σ S H H0 _ ep _ ok er ex (fun d S1 H1 v p ok1 x1 r1 => by
    cases r1 with
    | exc h1 h2 r2 =>
      obtain ⟨hc, d, hl, p⟩ := p
      obtain ⟨v, e1, rv⟩ := r2.lookup hl
      exact .inl ⟨_, _, _, _, v, rfl, h1, h2, e1, ⟨Z.ask _ hc, Z.no _ (Nat.lt_of_lt_of_le hc hnE) f hf⟩, q d S1 H1 v p ok1 x1 rv⟩
    | ins h1 h2 r2 =>
      obtain ⟨hc, hc2, d, hl, p⟩ := p
      obtain ⟨v, e1, rv⟩ := r2.lookup hl
      exact .inr ⟨_, _, _, _, v, rfl, h1, (Z.ins _ hc hc2).cl, Z.no _ hc2 f hf, e1, q d S1 H1 v p ok1 x1 rv⟩
    | _ => exact False.elim p) hw⟩
end
end PyD

/-! PyD: own plain classes: calls of classes, isinstance, own ==, own !=, own truth. -/
namespace PyD
namespace Ow
open PySem PySem.Spec PySem.W PySem.Calls PyProof.Rows
section
variable {prog : Program} {w : World} {A : Around} {E : Value → Shared → Prop} {s : Shared} {K : Frag} {x C f : Addr} {ox : Obj} {od : Option Obj}
/-- bool(x) by an own __bool__ -/
theorem bool_own {Q : Value → Shared → Prop} (X : K.In s.heap) (I : InstAt s.heap x ox C od) (hs : findIn K (.ref C) "__bool__" = some (some (.ref f))) (hf : isFn K (.ref f) = true)
    (h : wpAny (model prog w) A.in1.in1 (call (.ref f) [.ref x]) (fun r s₁ => ∃ b, r = Value.bool b ∧ Q r s₁) E s) : wpAny (model prog w) A (call (.type "bool") [.ref x]) Q E s := by
  refine callType_codes (T := "bool") (Bi := Builtin.«object.__init__») (Q₁ := fun r s₁ => ∃ b, r = Value.bool b ∧ Q r s₁) PySem.F.called_bool (PySem.F.typeCall_bool_1 _) PySem.F.entry_object_init ?_ ?_
  · refine codeAny_of_tree ?_
    show wpAny _ A.in1.in1 (do checkBuiltinCall "bool.__new__" ⟨[.type "bool", .ref x], []⟩; again (.builtin "bool.__new__" ⟨[.type "bool", .ref x], []⟩)) _ _ s
    refine wpAny_bind (wpAny_of_eq (PySem.F.newCall_bool_1 _) (wpAny_pure ⟨plainId_quiet (by decide +kernel) _, codeAny_builtin PySem.F.entry_bool_new ?_⟩))
    rw [Around.under_plainId (by decide +kernel) _]
    have f1 := PySem.F.conv_sub_bool
    have tr : ∀ {R : Bool → Shared → Prop}, (∀ b s₁, Q (.bool b) s₁ → R b s₁) → wpAny (model prog w) A.in1.in1 (truthy (.ref x)) R E s := fun {R} hR => by
      unfold truthy
      refine wpAny_bind (special_fn X I hs (beq_iff_eq.mp hf) (wpAny_mono h (fun r s' hr => ?_) fun _ _ y => y))
      obtain ⟨b, rfl, hq⟩ := hr
      exact wpAny_pure (hR b s' hq)
    unfold Builtin.«bool.__new__»
    refine wpAny_bind (wpAny_of_eq (a := true) rfl ?_)
    refine PySem.W.KFB.if_not rfl ?_
    refine wpAny_bind (wpAny_of_eq (a := true) f1 ?_)
    refine PySem.W.KFB.if_not rfl ?_
    refine wpAny_bind (wpAny_of_eq (a := [Value.ref x]) rfl ?_)
    refine wpAny_bind (tr fun b s₁ hq => ?_)
    exact wpAny_pure ⟨b, rfl, hq⟩
  · rintro obj s₁ ⟨b, rfl, hq⟩
    exact ⟨PySem.typeIs_bool _ _, PySem.F.args_object_init_2 _ _, object_init_meets PySem.F.called_bool.init.lookup PySem.F.called_bool.made (by decide) prog w A.in1 _ s₁ ⟨PySem.typeIs_bool _ _, rfl, hq⟩⟩
/-- x != v by an own __eq__ -/
theorem ne_own {v : Value} {Q : Option Value → Shared → Prop} (X : K.In s.heap) (I : InstAt s.heap x ox C od) (hn : findIn K (.ref C) "__ne__" = some (some (.builtin "object.__ne__"))) (ho : mroIn K C (.type "object") = some true) (he : findIn K (.ref C) "__eq__" = some (some (.ref f))) (hf : isFn K (.ref f) = true) (hu : A.units + 1 < cLine)
    (h : wpAny (model prog w) A.in1 (call (.ref f) [.ref x, v]) (fun r s' => ∃ b, r = .bool b ∧ Q (some (.bool (!b))) s') E s) : wpAny (model prog w) A (tryCompare (.ref x) "__ne__" v) Q E s := by
  have sb : Looks (model prog w) s.heap (isInstance (.ref x) (.type "object")) true := I.type.andThen (looks_mroIn X ho)
  have slot := PySem.F.slot_object_ne
  have sl : PySem.Slot "object" "__ne__" "object.__ne__" := slot
  have body : wpAny (model prog w) A (call (.builtin "object.__ne__") [.ref x, v]) (fun r s' => ∃ b, r = .bool (!b) ∧ Q (some (.bool (!b))) s') E s := by
    refine wpAny_call (codeAny_call_builtin sl.plain PySem.F.entry_object_ne (@check_slot (model prog w) _ _ s "object.__ne__" "object" "__ne__" (.ref x) [v] [] _ (by decide +kernel) (by decide +kernel) sb (PySem.F.args_object_ne_2 _ _) ?_))
    unfold Builtin.«object.__ne__»
    refine wpAny_bind (wpAny_of_eq (a := (Value.ref x, [v])) rfl ?_)
    refine wpAny_bind (wpAny_cRoomFor hu ?_)
    refine wpAny_bind (ifBound_K X I he hf (wpAny_mono h (fun r s' hr => ?_) fun _ _ z => z))
    obtain ⟨b, rfl, hq⟩ := hr
    refine wpAny_bind (wpAny_pure ?_)
    first
      | exact wpAny_pure ⟨(by intro z; cases z), b, rfl, hq⟩
      | exact wpAny_pure ⟨b, rfl, hq⟩
      | trace_state
  have fin : wpAny (model prog w) A (call (.builtin "object.__ne__") ([.ref x] ++ [v]) >>= fun v => pure (some v)) (fun r s' => wpAny (model prog w) A (match r with | some .notImplemented | none => pure none | some v => pure (some v)) Q E s') E s := by
    refine wpAny_bind (wpAny_mono body (fun r s' hr => ?_) fun _ _ z => z)
    obtain ⟨b, rfl, hq⟩ := hr
    exact wpAny_pure (wpAny_pure hq)
  unfold tryCompare
  simp only [callSpecialIfBound?, bindSpecialIfBound?]
  refine wpAny_bind (wpAny_holding (wpAny_bind (wpAny_bind (wpAny_bind (I.type.here ((looks_findIn X hn).here ?_))))))
  refine wpAny_bind (wpAny_askSetting (wpAny_ite ?_))
  rw [sl.bind (.ref x)]
  split
  · exact wpAny_bind (wpAny_pure (wpAny_pure (by exact fin)))
  · exact wpAny_tryCatch (wpAny_bind (wpAny_pure (wpAny_pure (by exact fin))))
end
end Ow

open PySem PySem.Spec PyProof.Rows L2
/-! ### C(e, ..) -/
def wMake (c : Nat) (w : WIn) (a : WA) : WE := fun ρ post ep => a ρ (fun ds n => ∀ b : Addr, w b ds (fun fs => post (.ins c fs)) ep n) ep
def tMakeP (C : Addr) (sp : Sp) (E : L2.St → XK) (t : TA) : TE := fun σ H Q => t σ H fun vs H1 => ∀ x dx, H1 x = none → H1 dx = none → dx ≠ x →
  sp (V.ref x :: vs) (upd (upd H1 dx (.own x)) x (.ins C dx [])) (fun v H2 => v = .non ∧ Q (.ref x) H2) (E σ)
section
variable {T : Tb} {X : Cx} {W : WX} {k c : Nat} {f C : Addr} {sp : Sp} {x : Str} {p pos : Pos} {e : Expr} {es : List Expr} {t : TA} {wa : WA} {wi : WIn}
theorem run_makeP {pins : List (Addr × Obj)} {σ : L2.St} {H : Hp} {s : Shared} {Q : VK} {us : List Value} {vs : List V} {E : XK} (M : Mk X.K C f) (F : FnP X.prog X.w X.K X.mg X.base k f sp) (hr : Room (k + 1) X.A) (hgd : X.A.guards = some []) (hx : PassesAt (L2.CX X.prog X.w) X σ E) (I : Inv X pins σ H s) (r : Vals vs us)
    (h : ∀ x dx, H x = none → H dx = none → dx ≠ x → sp (V.ref x :: vs) (upd (upd H dx (.own x)) x (.ins C dx [])) (fun v H2 => v = .non ∧ Q (.ref x) H2) E) :
    wpAny (model X.prog X.w) X.A (call (.ref C) us) (L2.EP X pins σ Q) X.xe s := by
  have z := h (s.heap.objs.size + 1) s.heap.objs.size (I.hok.fresh (Nat.le_succ _)) (I.hok.fresh (Nat.le_refl _)) (Nat.ne_of_lt (Nat.lt_succ_self _))
  have J := Inv.made (C := C) I
  have r1 : Vals (V.ref (s.heap.objs.size + 1) :: vs) (Value.ref (s.heap.objs.size + 1) :: us) := .cons rfl r
  refine wpAny_call (make_map (f := f) I.kIn M.makes M.init (beq_iff_eq.mp M.fn) (codeAny_mono (F.run _ X.stack _ _ (Value.ref (s.heap.objs.size + 1) :: us) _ _ E (hr.make C us []) hgd (J.env0.make C us []) r1 z) fun r s' q1 => ?_))
  match r, q1 with
  | .error e, q1 => exact hx pins _ _ e s' J q1
  | .ok (.ret u), q1 =>
    obtain ⟨v, H', I3, rv, ev, q3⟩ := J.after q1
    subst ev
    exact ⟨rv, ⟨V.ref (s.heap.objs.size + 1), H', I3, rfl, q3⟩⟩
  | .ok .next, q1 => exact False.elim q1
  | .ok .brk, q1 => exact False.elim q1
  | .ok .cont, q1 => exact False.elim q1
theorem pe_makeP {E : L2.St → XK} (M : Mk X.K C f) (F : FnP X.prog X.w X.K X.mg X.base k f sp) (hr : Room (k + 1) X.A) (hgd : X.A.guards = some []) (hg : Gl X x) (hm : X.mg x = some (.ref C)) (hx : ∀ σ, PassesAt (L2.CX X.prog X.w) X σ (E σ)) (ha : PA X (e :: es) t) (hdb : (x == ("__debug__" : Str)) = false := by decide)
    (he : starEach (e :: es) X.env = (false, eval e X.env) :: starEach es X.env := by rfl) (hpl : (backTo pos (starEach es X.env)).any (·.1) = false := by rfl) : PE X (.Call (.Name x p) (e :: es) [] pos) (tMakeP C sp E t) :=
  ⟨fun pins s σ H Q I h => wpAny_Call_Name_kw (ld_glob I hg hm (PySem.W.callWith_K (h₀ := X.base) I.ok.mod.kin M.kp (thn (ha.run pos pins s σ H _ I h) fun us s1 ⟨vs, H1, I1, r, q⟩ => ⟨I1.kIn, run_makeP M F hr hgd (hx σ) I1 r q⟩) he hpl) hdb)⟩
theorem im_make (ha : ImpA T W t wa) : ImpE T W (tMakeP (T.cA c) (spI T c wi) (EW W) t) (wMake c wi wa) := fun ρ σ S H H0 post ep Q ok er ex q hw =>
  ha ρ σ S H H0 _ ep _ ok er ex (fun ds S1 H1 vs p ok1 x1 r1 => fun x dx hx hd hn =>
    ⟨S1, H1, x, dx, vs, ds, fun fs => post (.ins c fs), ep, rfl, hx, hd, hn, rfl, ok1, r1, fun fs S' H' dx' vs' p' ok' x' e1 e2 r' => by
      obtain ⟨okf, xf⟩ := freeze ok' e2
      exact ⟨rfl, q (.ins c fs) (frozen S' x) H' (.ref x) p' okf (x1.trans (freeze_ext x' hx ok1)) (.ins e1 frozen_same (r'.ext ok' xf))⟩,
      fun c ds S2 H2 d fs h1 h2 h3 h4 h5 => ex c ds S2 H2 d fs h1 h2 (x1.trans h3) h4 h5, p x⟩) hw
/-- what is told of making instances of the class x -/
structure Mak (T : Tb) (P : Program) (w : World) (K : PySem.W.Frag) (mg : Str → Option Value) (base : Heap) (k : Nat) (x : Str) (c : Nat) (wi : WIn) : Prop where
  ex : ∃ f : Addr, mg x = some (.ref (T.cA c)) ∧ Mk K (T.cA c) f ∧ FnP P w K mg base k f (spI T c wi)
theorem g_make (C : Mak T X.prog X.w X.K X.mg X.base k x c wi) (hr : Room (k + 1) X.A) (hgd : X.A.guards = some []) (tk : Takes X W) (ha : DA T X W (e :: es) t wa) (hg : Gl X x := by rfl) (hdb : (x == ("__debug__" : Str)) = false := by rfl)
    (he : starEach (e :: es) X.env = (false, eval e X.env) :: starEach es X.env := by rfl) (hpl : (backTo pos (starEach es X.env)).any (·.1) = false := by rfl) : DE T X W (.Call (.Name x p) (e :: es) [] pos) (tSem T W (wMake c wi wa)) (wMake c wi wa) := by
  obtain ⟨f, hm, M, F⟩ := C.ex
  exact pe_seal ⟨pe_makeP M F hr hgd hg hm (passE tk) ha.pa hdb he hpl, im_make ha.im⟩
end

/-! ### isinstance, all kinds -/
inductive TyN where | b (m : String) | c (i : Nat)
def TyN.v (T : Tb) : TyN → Value
  | .b m => .type m
  | .c i => .ref (T.cA i)
def tyN (nE nO : Nat) : D → Option TyN
  | .exc c _ => if c < nE then some (.c c) else none
  | .ins c _ => if nE ≤ c ∧ c < nO then some (.c c) else none
  | d => (tyName d).map .b
def HasTy (K : PySem.W.Frag) (H : Hp) (x : V) (t : Value) : Prop := TyX K H x t ∨ ∃ (a d C : Addr) (fs : List (Str × V)), x = .ref a ∧ H a = some (ExcO (.ref C) d a) ∧ H d = some (.xd fs) ∧ Er.Ask K C ∧ t = .ref C
def rIsG (K : PySem.W.Frag) : List V → Hp → VK → Prop := fun xs H Q =>
  (∃ (x c : V) (t u : Value) (b : Bool), xs = [x, c] ∧ ClsV c u ∧ HasTy K H x t ∧ PySem.W.kitOne K t u = some b ∧ Q (.bl b) H) ∨
  ∃ (x : V) (tp : Addr) (cs : List V) (t : Value) (us : List Value) (b : Bool), xs = [x, .ref tp] ∧ SqT K H tp cs ∧ Paired ClsV cs us ∧ HasTy K H x t ∧ PySem.W.kitAny K t us = some b ∧ Q (.bl b) H
theorem call_isG {X : Cx} : CallR X (.builtin "isinstance") (rIsG X.K) := by
  intro pins s σ H xs us Q I r h
  rcases h with ⟨x, c, t, u, b, rfl, k, ty, e, q⟩ | ⟨x, tp, cs, t, ws, b, rfl, hT, k, ty, e, q⟩
  · rcases ty with ty | ⟨a, d, C, fs, rfl, h1, h2, A, rfl⟩
    · exact call_isi pins s σ H _ us Q I r ⟨x, c, t, u, b, rfl, k, ty, e, q⟩
    · exact call_isX A pins s σ H _ us Q I r ⟨a, d, fs, c, u, b, rfl, h1, h2, k, e, q⟩
  · rcases ty with ty | ⟨a, d, C, fs, rfl, h1, h2, A, rfl⟩
    · exact call_isiS pins s σ H _ us Q I r ⟨x, tp, cs, t, ws, b, rfl, hT, k, ty, e, q⟩
    · exact call_isXT A pins s σ H _ us Q I r ⟨a, d, fs, tp, cs, ws, b, rfl, h1, h2, hT, k, e, q⟩
def tyNL : List D → Option (List TyN)
  | [] => some []
  | .cls i :: ds => (tyNL ds).map (.c i :: ·)
  | .ty m :: ds => (tyNL ds).map (.b m :: ·)
  | _ :: _ => none
def isaL (tab : TyN → TyN → Option Bool) (t : TyN) : List TyN → Option Bool
  | [] => some false
  | u :: us => match tab t u with
    | some true => some true
    | some false => isaL tab t us
    | none => none
def isaD (tab : TyN → TyN → Option Bool) (nE nO : Nat) : FA := fun ds p => match ds with
  | [x, .cls d] => ∃ t b, tyN nE nO x = some t ∧ tab t (.c d) = some b ∧ p (.bl b)
  | [x, .ty m] => ∃ t b, tyN nE nO x = some t ∧ tab t (.b m) = some b ∧ p (.bl b)
  | [x, .tup l] => ∃ t us b, tyN nE nO x = some t ∧ tyNL l = some us ∧ isaL tab t us = some b ∧ p (.bl b)
  | _ => False
/-- what isinstance answers -/
def IsT (T : Tb) (tab : TyN → TyN → Option Bool) : Prop := ∀ x y b, tab x y = some b → PySem.W.kitOne T.K (x.v T) (y.v T) = some b
section
variable {T : Tb} {S : VS} {H : Hp} {nE nO : Nat} {words : List Str} {tab : TyN → TyN → Option Bool}
theorem Rep.hasTy (Z : ClsT T nE nO words) {x : V} {d : D} {t : TyN} (r : Rep T S H x d) (h : tyN nE nO d = some t) : HasTy T.K H x (t.v T) := by
  have base : ∀ {d' : D}, Rep T S H x d' → (tyName d').map TyN.b = some t → HasTy T.K H x (t.v T) := fun {d'} r' h' => by
    cases e : tyName d' with
    | none => rw [e] at h'; cases h'
    | some m => rw [e] at h'; cases h'; exact .inl (r'.tyX e)
  cases r with
  | @exc c _ _ _ _ h1 h2 r2 =>
    have h' : (if c < nE then some (TyN.c c) else none) = some t := h
    split at h'
    · rename_i hc
      cases h'
      exact .inr ⟨_, _, _, _, rfl, h1, h2, Z.ask _ hc, rfl⟩
    · cases h'
  | @ins c _ _ _ _ h1 h2 r2 =>
    have h' : (if nE ≤ c ∧ c < nO then some (TyN.c c) else none) = some t := h
    split at h'
    · rename_i hc
      cases h'
      have I := Z.ins _ hc.1 hc.2
      exact .inl (.base (.ins h1 I.cl I.ca I.cg I.ct I.cm))
    · cases h'
  | non => exact base .non h
  | bl b => exact base (.bl b) h
  | int b => exact base (.int b) h
  | str b => exact base (.str b) h
  | tup a b => exact base (.tup a b) h
  | lst a b c => exact base (.lst a b c) h
  | dic a b c => exact base (.dic a b c) h
  | _ => cases h
theorem RepL.tyNL : ∀ {vs : List V} {ds : List D} {us : List TyN}, RepL T S H vs ds → PyD.tyNL ds = some us → Paired ClsV vs (us.map fun u => u.v T)
  | _, _, _, .nil, e => by cases e; exact .nil
  | _, _, us, .cons (d := d) r t, e => by
    cases r with
    | cls i =>
      unfold PyD.tyNL at e
      cases h : PyD.tyNL _ with
      | none => rw [h] at e; cases e
      | some ms => rw [h] at e; cases e; exact .cons (.own _) (RepL.tyNL t h)
    | ty i =>
      unfold PyD.tyNL at e
      cases h : PyD.tyNL _ with
      | none => rw [h] at e; cases e
      | some ms => rw [h] at e; cases e; exact .cons (.ty _) (RepL.tyNL t h)
    | _ => cases e
theorem isaL_ok (hT : IsT T tab) {t : TyN} : ∀ {us : List TyN} {b : Bool}, isaL tab t us = some b → PySem.W.kitAny T.K (t.v T) (us.map fun u => u.v T) = some b
  | [], b, h => by cases h; rfl
  | u :: us, b, h => by
    unfold isaL at h
    cases e : tab t u with
    | none => rw [e] at h; cases h
    | some k =>
      rw [e] at h
      have e1 := hT _ _ _ e
      cases k with
      | true =>
        cases h
        exact kitAny_cons e1 (fun z => nomatch z) fun _ => rfl
      | false => exact kitAny_cons e1 (fun _ => isaL_ok hT h) fun z => nomatch z
theorem d_isa (Z : ClsT T nE nO words) (hT : IsT T tab) : OpA T (rIsG T.K) (isaD tab nE nO) := fun S H vs ds post Q ok rv q hw => by
  unfold isaD at hw
  split at hw
  · obtain ⟨x, y, rfl, r1, r2⟩ := rv.two
    obtain ⟨t, b, h1, h2, h3⟩ := hw
    cases r2
    exact .inl ⟨x, _, _, _, b, rfl, .own _, r1.hasTy Z h1, hT _ _ _ h2, q _ S H _ h3 ok .refl (.bl _)⟩
  · obtain ⟨x, y, rfl, r1, r2⟩ := rv.two
    obtain ⟨t, b, h1, h2, h3⟩ := hw
    cases r2
    exact .inl ⟨x, _, _, _, b, rfl, .ty _, r1.hasTy Z h1, hT _ _ _ h2, q _ S H _ h3 ok .refl (.bl _)⟩
  · obtain ⟨x, y, rfl, r1, r2⟩ := rv.two
    obtain ⟨t, us, b, h1, h2, h3, h4⟩ := hw
    cases r2 with
    | tup h5 l5 => exact .inr ⟨x, _, _, _, _, b, rfl, h5, l5.tyNL h2, r1.hasTy Z h1, isaL_ok hT h3, q _ S H _ h4 ok .refl (.bl _)⟩
  · exact hw.elim
end

/-! ### own ==, !=, bool() -/
/-- what is told of an own == (of all classes that have it), an own truth -/
structure EqT (T : Tb) (K : PySem.W.Frag) (g : Addr) (has : Nat → Bool) : Prop where
  fn : PySem.W.isFn K (.ref g) = true
  at_ : ∀ c, has c = true → PySem.W.findIn K (.ref (T.cA c)) "__eq__" = some (some (.ref g))
  ne : ∀ c, has c = true → PySem.W.findIn K (.ref (T.cA c)) "__ne__" = some (some (.builtin "object.__ne__"))
/-- x == y, x an instance with an own == -/
def rEqO (T : Tb) (g : Addr) (has : Nat → Bool) (sp : Sp) : R2 := fun x y H Q => ∃ (a : Addr) (c : Nat) (dx : Addr) (fs : List (Str × V)) (t : Value), has c = true ∧ x = .ref a ∧ H a = some (.ins (T.cA c) dx fs) ∧ HasTy T.K H y t ∧ PySem.W.notFirst T.K (T.cA c) t = true ∧
  sp [x, y] H (fun v H' => (∃ b, v = .bl b) ∧ Q v H') fun _ _ _ => False
/-- x != y, both instances with an own ==: of one class, or the second below the first -/
def rNeO (T : Tb) (has : Nat → Bool) (sp : Sp) : R2 := fun x y H Q => ∃ (a b : Addr) (c d : Nat) (dx dy : Addr) (fs gs : List (Str × V)), has c = true ∧ has d = true ∧ x = .ref a ∧ y = .ref b ∧ H a = some (.ins (T.cA c) dx fs) ∧ H b = some (.ins (T.cA d) dy gs) ∧
  ((T.cA d = T.cA c ∧ sp [x, y] H (fun v H' => ∃ b, v = .bl b ∧ Q (.bl (!b)) H') fun _ _ _ => False) ∨ (T.cA d ≠ T.cA c ∧ PySem.W.subIn T.K (.ref (T.cA d)) (.ref (T.cA c)) = some true ∧ sp [y, x] H (fun v H' => ∃ b, v = .bl b ∧ Q (.bl (!b)) H') fun _ _ _ => False))
def rBoolO (T : Tb) (g : Nat → Addr) (has : Nat → Bool) (sp : Nat → Sp) : List V → Hp → VK → Prop := fun xs H Q => ∃ (a : Addr) (c : Nat) (dx : Addr) (fs : List (Str × V)), has c = true ∧ xs = [.ref a] ∧ H a = some (.ins (T.cA c) dx fs) ∧ sp c [.ref a] H (fun v H' => (∃ b, v = .bl b) ∧ Q v H') fun _ _ _ => False
theorem passes0 {X : Cx} {σ : L2.St} : PassesAt (L2.CX X.prog X.w) X σ (fun _ _ _ => False) := fun pins H s e s' I z => by
  obtain ⟨_, _, _, _, _, _, _, _, _, _, _, _, z⟩ := z
  exact z.elim
theorem hasTy_looks {X : Cx} {pins : List (Addr × Obj)} {σ : L2.St} {H : Hp} {s : Shared} {y : V} {u t : Value} (I : Inv X pins σ H s) (ry : RelV y u) (h : HasTy X.K H y t) {M : Model} : PySem.W.Looks M s.heap (typeOf u) t := by
  rcases h with h | ⟨a, d, C, fs, rfl, h1, h2, A, rfl⟩
  · obtain ⟨P, Z, p, _⟩ := kit_of I ry h
    exact Z.ty _ _ I.kIn p
  · cases (show u = Value.ref a from ry)
    obtain ⟨ox, od, mA, J, _⟩ := exc_inst I h1 h2
    exact J.type
section
variable {T : Tb} {X : Cx} {k : Nat} {g : Addr} {has : Nat → Bool} {sp : Sp}
theorem op_eqO (hK : X.K = T.K) (Z : EqT T X.K g has) (F : FnP X.prog X.w X.K X.mg X.base k g sp) (hr : Room k X.A) (hgd : X.A.guards = some []) : OpR X (compareOp .Eq) (rEqO T g has sp) := by
  intro pins s σ H x y v u Q I rx ry h
  obtain ⟨a, c, dx, fs, t, hc, rfl, ha, ty, hn, q⟩ := h
  cases (show v = Value.ref a from rx)
  obtain ⟨mA, O, _⟩ := ins_get I.hok ha
  obtain ⟨od, J, _⟩ := O.look
  obtain ⟨m, hF⟩ := I.fr
  rw [← hK] at ty hn
  show wpAny (model X.prog X.w) X.A (richCompare .Eq (.ref a) u) (L2.EP X pins σ Q) X.xe s
  refine PySem.W.cmp_K (op := .Eq) (tb := t) hr.units0 hF I.ok.mod.kin J (hasTy_looks I ry ty) hn (Z.at_ c hc) Z.fn ?_
  refine wpAny_mono (run_fnP (us := [.ref a, u]) (vs := [.ref a, y]) F hr hgd passes0 I (.cons rfl (.cons ry .nil)) q) (fun w s' z => ?_) fun _ _ x => x
  obtain ⟨z', H', I', rz, ⟨b, eb⟩, qz⟩ := z
  exact SlX.cmpback rz ⟨z', H', I', rz, qz⟩
theorem op_neO (hK : X.K = T.K) (hI : ∀ c, has c = true → InsT T.K (T.cA c)) (Z : EqT T X.K g has) (F : FnP X.prog X.w X.K X.mg X.base k g sp) (hr : Room (k + 1) X.A) (hgd : X.A.guards = some []) : OpR X (compareOp .NotEq) (rNeO T has sp) := by
  intro pins s σ H x y v u Q I rx ry h
  obtain ⟨a, b, c, d, dx, dy, fs, gs, hc, hd, rfl, rfl, ha, hb, q⟩ := h
  cases (show v = Value.ref a from rx)
  cases (show u = Value.ref b from ry)
  obtain ⟨mA, O, _⟩ := ins_get I.hok ha
  obtain ⟨od, J, _⟩ := O.look
  obtain ⟨mB, O2, _⟩ := ins_get I.hok hb
  obtain ⟨od2, J2, _⟩ := O2.look
  have hu : X.A.units + 1 < cLine := by have := hr.un; omega
  have go : ∀ {e f : Addr} {E F' : Addr} {oe : Obj} {ode : Option Obj} {c' : Nat}, PySem.W.InstAt s.heap e oe (T.cA c') ode → has c' = true → sp [.ref e, .ref f] H (fun v H' => ∃ b, v = .bl b ∧ Q (.bl (!b)) H') (fun _ _ _ => False) →
      wpAny (model X.prog X.w) X.A (tryCompare (.ref e) "__ne__" (.ref f)) (fun r s' => ∃ v, r = some v ∧ L2.EP X pins σ Q v s') X.xe s := fun {e f E F' oe ode c'} J hc q => by
    refine Ow.ne_own I.kIn J (Z.ne c' hc) (by rw [hK]; exact (hI c' hc).cm) (Z.at_ c' hc) Z.fn hu ?_
    refine wpAny_call (codeAny_mono (F.run X.A.in1 X.stack s H [.ref e, .ref f] [.ref e, .ref f] _ _ hr.in1 hgd I.env0.in1 (.cons rfl (.cons rfl .nil)) q) fun r s' hq => ?_)
    match r, hq with
    | .error e, hq => exact passes0 pins H s e s' I hq
    | .ok (.ret u), hq =>
      obtain ⟨z, H', I', rz, b, rfl, qz⟩ := I.after hq
      cases (show u = Value.bool b from rz)
      exact ⟨b, rfl, _, rfl, .bl (!b), H', I', rfl, qz⟩
    | .ok .next, hq => exact False.elim hq
    | .ok .brk, hq => exact False.elim hq
    | .ok .cont, hq => exact False.elim hq
  show wpAny (model X.prog X.w) X.A (richCompare .NotEq (.ref a) (.ref b)) (L2.EP X pins σ Q) X.xe s
  unfold richCompare
  simp only [oneThing_ref]
  refine wpAny_holding (wpAny_bind (wpAny_cRoomFor hr.units0 ?_))
  rw [cmpInfo_NotEq]
  dsimp only
  refine wpAny_bind (J.type.here (wpAny_bind (J2.type.here ?_)))
  rcases q with ⟨e1, q⟩ | ⟨e1, e2, q⟩
  · rw [show (Value.ref (T.cA c) != Value.ref (T.cA d)) = false by rw [e1]; simp]
    simp only [Bool.false_eq_true, if_false]
    refine wpAny_bind (wpAny_pure ?_)
    simp only [Bool.false_eq_true, if_false]
    refine wpAny_bind (wpAny_mono (go (E := a) (F' := a) J hc q) (fun r s' z => ?_) fun _ _ e => e)
    obtain ⟨v, rfl, hq⟩ := z
    exact wpAny_pure hq
  · rw [show (Value.ref (T.cA c) != Value.ref (T.cA d)) = true by simpa using (Ne.symm e1)]
    simp only [if_true]
    rw [← hK] at e2
    refine wpAny_bind ((PySem.W.looks_subIn I.kIn e2).here ?_)
    simp only [if_true]
    refine wpAny_bind (wpAny_mono (go (E := a) (F' := a) J2 hd q) (fun r s' z => ?_) fun _ _ e => e)
    obtain ⟨v, rfl, hq⟩ := z
    first
      | exact wpAny_pure hq
      | exact wpAny_bind (wpAny_rule (wpAny_pure hq))
theorem call_boolO {gs : Nat → Addr} {sps : Nat → Sp} (fn : ∀ c, has c = true → PySem.W.isFn X.K (.ref (gs c)) = true) (at_ : ∀ c, has c = true → PySem.W.findIn X.K (.ref (T.cA c)) "__bool__" = some (some (.ref (gs c)))) (F : ∀ c, has c = true → FnP X.prog X.w X.K X.mg X.base k (gs c) (sps c)) (hr : Room (k + 2) X.A) (hgd : X.A.guards = some []) :
    CallR X (.type "bool") (rBoolO T gs has sps) := by
  intro pins s σ H xs us Q I r h
  obtain ⟨a, c, dx, fs, hc, rfl, ha, q⟩ := h
  obtain ⟨u, rfl, ru⟩ := vals1 r
  cases (show u = Value.ref a from ru)
  obtain ⟨mA, O, _⟩ := ins_get I.hok ha
  obtain ⟨od, J, _⟩ := O.look
  have hr2 : Room k X.A.in1.in1 := (show Room (k + 1) X.A.in1 from Room.in1 hr).in1
  refine Ow.bool_own I.kIn J (at_ c hc) (fn c hc) ?_
  refine wpAny_call (codeAny_mono ((F c hc).run X.A.in1.in1 X.stack s H [.ref a] [.ref a] _ _ hr2 hgd I.env0.in1.in1 (.cons rfl .nil) q) fun r s' hq => ?_)
  match r, hq with
  | .error e, hq => exact passes0 pins H s e s' I hq
  | .ok (.ret u), hq =>
    obtain ⟨z, H', I', rz, ⟨b, rfl⟩, qz⟩ := I.after hq
    cases (show u = Value.bool b from rz)
    exact ⟨b, rfl, .bl b, H', I', rfl, qz⟩
  | .ok .next, hq => exact False.elim hq
  | .ok .brk, hq => exact False.elim hq
  | .ok .cont, hq => exact False.elim hq
end

/-! ### the same over data -/
def firstB (tab : TyN → TyN → Option Bool) (c : Nat) (t : TyN) : Bool := match t with
  | .c i => i == c || tab t (.c c) == some false
  | .b _ => tab t (.c c) == some false
def eqGD (weq : WD) (has : Nat → Bool) (tab : TyN → TyN → Option Bool) (nE nO : Nat) (x y : D) (post : D → Pr) : Pr := fun n => match x with
  | .ins c _ => has c = true ∧ (∃ t, tyN nE nO y = some t ∧ firstB tab c t = true) ∧ weq [x, y] (fun r m => (∃ b, r = .bl b) ∧ post r m) (fun _ _ _ => False) n
  | _ => eqD x y fun d => post d n
def wEqG (weq : WD) (has : Nat → Bool) (tab : TyN → TyN → Option Bool) (nE nO : Nat) (a b : WE) : WE := fun ρ post ep => a ρ (fun x => b ρ (fun y => eqGD weq has tab nE nO x y post) ep) ep
def neGD (weq : WD) (has : Nat → Bool) (tab : TyN → TyN → Option Bool) (nO : Nat) (x y : D) (post : D → Pr) : Pr := fun n => match x, y with
  | .ins c _, .ins d _ => has c = true ∧ has d = true ∧ c < nO ∧ d < nO ∧ (if d = c then weq [x, y] (fun r m => ∃ b, r = .bl b ∧ post (.bl (!b)) m) (fun _ _ _ => False) n else tab (.c d) (.c c) = some true ∧ weq [y, x] (fun r m => ∃ b, r = .bl b ∧ post (.bl (!b)) m) (fun _ _ _ => False) n)
  | _, _ => neD x y fun d => post d n
def wNeG (weq : WD) (has : Nat → Bool) (tab : TyN → TyN → Option Bool) (nO : Nat) (a b : WE) : WE := fun ρ post ep => a ρ (fun x => b ρ (fun y => neGD weq has tab nO x y post) ep) ep
def boolGD (wb : Nat → WD) (has : Nat → Bool) (x : D) (post : D → Pr) : Pr := fun n => match x with
  | .bl b => post (.bl b) n
  | .int i => post (.bl (i != 0)) n
  | .ins c _ => has c = true ∧ wb c [x] (fun r m => (∃ b, r = .bl b) ∧ post r m) (fun _ _ _ => False) n
  | _ => False
def wBoolG (wb : Nat → WD) (has : Nat → Bool) (a : WE) : WE := fun ρ post ep => a ρ (fun x => boolGD wb has x post) ep
def isBD : D → D → (D → Prop) → Prop := fun x y p => match x, y with
  | .bl a, .bl b => p (.bl (decide (a = b)))
  | _, _ => False
def isNotBD : D → D → (D → Prop) → Prop := fun x y p => match x, y with
  | .bl a, .bl b => p (.bl (!decide (a = b)))
  | _, _ => False
section
variable {T : Tb} {X : Cx} {W : WX} {k nE nO : Nat} {g : Addr} {has : Nat → Bool} {words : List Str} {tab : TyN → TyN → Option Bool} {weq : WD} {wb : Nat → WD} {a b : Expr} {ta tb : TE} {wa we : WE} {pos : Pos}
theorem d_isB : OpD T rIsB isBD := fun S H x y dx dy post Q ok r1 r2 q hw => by
  cases r1 with
  | bl a => cases r2 with
    | bl b => exact ⟨a, b, rfl, rfl, q _ S H _ hw ok .refl (.bl _)⟩
    | _ => exact False.elim hw
  | _ => exact False.elim hw
theorem d_isNotB : OpD T rNotB isNotBD := fun S H x y dx dy post Q ok r1 r2 q hw => by
  cases r1 with
  | bl a => cases r2 with
    | bl b => exact ⟨a, b, rfl, rfl, q _ S H _ hw ok .refl (.bl _)⟩
    | _ => exact False.elim hw
  | _ => exact False.elim hw
theorem kit_sub {K : PySem.W.Frag} {C : Addr} {t : Value} {r : Bool} (h : PySem.W.kitOne K t (.ref C) = some r) (hne : (t == Value.ref C) = false) : PySem.W.subIn K t (.ref C) = some r := by
  unfold PySem.W.kitOne at h
  rw [hne] at h
  simp only [Bool.false_eq_true, if_false] at h
  unfold PySem.W.kitCls at h
  simp only at h
  split at h
  · exact h
  · cases h
theorem first_ok (hT : IsT T tab) {c : Nat} {t : TyN} (h : firstB tab c t = true) : PySem.W.notFirst T.K (T.cA c) (t.v T) = true := by
  unfold PySem.W.notFirst
  have by_tab : tab t (.c c) = some false → (t.v T == Value.ref (T.cA c) || PySem.W.subIn T.K (t.v T) (.ref (T.cA c)) == some false) = true := fun e => by
    have e1 := hT _ _ _ e
    cases q : (t.v T == Value.ref (T.cA c)) with
    | true => rfl
    | false => rw [kit_sub e1 q]; rfl
  cases t with
  | b m => exact by_tab (eq_of_beq h)
  | c i =>
    rcases Bool.or_eq_true_iff.mp h with e | e
    · have := eq_of_beq e
      subst this
      show ((Value.ref (T.cA i) == Value.ref (T.cA i)) || _) = true
      rw [beq_self_eq_true]; rfl
    · exact by_tab (eq_of_beq e)
theorem im_eqG (Z : ClsT T nE nO words) (hT : IsT T tab) (h1 : ImpE T W ta wa) (h2 : ImpE T W tb we) : ImpE T W (tOp (fun x y H Q => rEqD T.K x y H Q ∨ rEqO T g has (spV T weq) x y H Q) ta tb) (wEqG weq has tab nE nO wa we) := fun ρ σ S H H0 post ep Q ok er ex q hw => by
  refine h1 ρ σ S H H0 _ ep _ ok er ex (fun d S1 H1 v p ok1 x1 r1 => ?_) hw
  refine h2 ρ σ S1 H1 H0 _ ep _ ok1 (er.ext ok x1) (ex.ext x1) (fun d2 S2 H2 v2 p2 ok2 x2 r2 => ?_) p
  have r1' := r1.ext ok1 x2.to0
  have q' := q.ext (x1.trans x2)
  unfold eqGD at p2
  split at p2
  · obtain ⟨hc, ⟨t, e1, e2⟩, hw2⟩ := p2
    cases r1' with
    | ins h3 h4 h5 =>
      refine .inr ⟨_, _, _, _, t.v T, hc, rfl, h3, r2.hasTy Z e1, first_ok hT e2, S2, _, _, _, ok2, .cons (.ins h3 h4 h5) (.cons r2 .nil), fun d' S' H' v' p' ok' x' r' => ?_, fun _ _ _ _ _ _ z => z.elim, hw2⟩
      obtain ⟨⟨b, rfl⟩, p''⟩ := p'
      cases r'
      exact ⟨⟨b, rfl⟩, q' _ S' H' _ p'' ok' x' (.bl b)⟩
  · exact .inl (d_eq S2 H2 v v2 d d2 post Q ok2 r1' r2 q' p2)
theorem im_neG (Z : ClsT T nE nO words) (hT : IsT T tab) (h1 : ImpE T W ta wa) (h2 : ImpE T W tb we) : ImpE T W (tOp (fun x y H Q => rNeD T.K x y H Q ∨ rNeO T has (spV T weq) x y H Q) ta tb) (wNeG weq has tab nO wa we) := fun ρ σ S H H0 post ep Q ok er ex q hw => by
  refine h1 ρ σ S H H0 _ ep _ ok er ex (fun d S1 H1 v p ok1 x1 r1 => ?_) hw
  refine h2 ρ σ S1 H1 H0 _ ep _ ok1 (er.ext ok x1) (ex.ext x1) (fun d2 S2 H2 v2 p2 ok2 x2 r2 => ?_) p
  have r1' := r1.ext ok1 x2.to0
  have q' := q.ext (x1.trans x2)
  unfold neGD at p2
  split at p2
  · rename_i c fs c2 gs
    obtain ⟨hc, hd, l1, l2, hw2⟩ := p2
    have fin : QW T S2 H2 (fun r m => ∃ b, r = D.bl b ∧ post (.bl (!b)) m) (fun v H' => ∃ b, v = V.bl b ∧ Q (.bl (!b)) H') := fun d' S' H' v' p' ok' x' r' => by
      obtain ⟨b, rfl, p''⟩ := p'
      cases r'
      exact ⟨b, rfl, q' _ S' H' _ p'' ok' x' (.bl _)⟩
    cases r1' with
    | ins h3 h4 h5 =>
      cases r2 with
      | ins h6 h7 h8 =>
        refine .inr ⟨_, _, c, c2, _, _, _, _, hc, hd, rfl, rfl, h3, h6, ?_⟩
        split at hw2
        · rename_i e
          exact .inl ⟨by rw [e], S2, _, _, _, ok2, .cons (.ins h3 h4 h5) (.cons (.ins h6 h7 h8) .nil), fin, fun _ _ _ _ _ _ z => z.elim, hw2⟩
        · rename_i e
          have hne : T.cA c2 ≠ T.cA c := fun z => e (Z.inj c2 c l2 l1 z)
          exact .inr ⟨hne, kit_sub (hT _ _ _ hw2.1) (by simpa using hne), S2, _, _, _, ok2, .cons (.ins h6 h7 h8) (.cons (.ins h3 h4 h5) .nil), fin, fun _ _ _ _ _ _ z => z.elim, hw2.2⟩
  · exact .inl (d_ne S2 H2 v v2 d d2 post Q ok2 r1' r2 q' p2)
/-- all that is told of an own == -/
structure EqOk (T : Tb) (P : Program) (w : World) (K : PySem.W.Frag) (mg : Str → Option Value) (base : Heap) (k : Nat) (has : Nat → Bool) (weq : WD) : Prop where
  ex : ∃ g : Addr, EqT T K g has ∧ FnP P w K mg base k g (spV T weq)
theorem de_eqG (hK : X.K = T.K) (Z : ClsT T nE nO words) (hT : IsT T tab) (Q : EqOk T X.prog X.w X.K X.mg X.base k has weq) (hr : Room k X.A) (hgd : X.A.guards = some []) (h1 : DE T X W a ta wa) (h2 : DE T X W b tb we) : DE T X W (.Compare a [.Eq] [b] pos) (tSem T W (wEqG weq has tab nE nO wa we)) (wEqG weq has tab nE nO wa we) := by
  obtain ⟨g, Q, F⟩ := Q.ex
  refine pe_seal ⟨pe_cmpR ((op_eqD hr.units).or (op_eqO hK Q F hr hgd)) h1.pe h2.pe (nomark _), ?_⟩
  rw [hK]
  exact im_eqG Z hT h1.im h2.im
theorem de_neG (hK : X.K = T.K) (Z : ClsT T nE nO words) (hT : IsT T tab) (Q : EqOk T X.prog X.w X.K X.mg X.base k has weq) (hI : ∀ c, has c = true → nE ≤ c ∧ c < nO) (hr : Room (k + 1) X.A) (hgd : X.A.guards = some []) (h1 : DE T X W a ta wa) (h2 : DE T X W b tb we) : DE T X W (.Compare a [.NotEq] [b] pos) (tSem T W (wNeG weq has tab nO wa we)) (wNeG weq has tab nO wa we) := by
  obtain ⟨g, Q, F⟩ := Q.ex
  refine pe_seal ⟨pe_cmpR ((op_neD hr.units).or (op_neO hK (fun c hc => Z.ins c (hI c hc).1 (hI c hc).2) Q F hr hgd)) h1.pe h2.pe (nomark _), ?_⟩
  rw [hK]
  exact im_neG Z hT h1.im h2.im
/-- all that is told of own truths -/
structure BoOk (T : Tb) (P : Program) (w : World) (K : PySem.W.Frag) (mg : Str → Option Value) (base : Heap) (k : Nat) (has : Nat → Bool) (wb : Nat → WD) : Prop where
  ex : ∃ gs : Nat → Addr, (∀ c, has c = true → PySem.W.isFn K (.ref (gs c)) = true) ∧ (∀ c, has c = true → PySem.W.findIn K (.ref (T.cA c)) "__bool__" = some (some (.ref (gs c)))) ∧ ∀ c, has c = true → FnP P w K mg base k (gs c) (spV T (wb c))
theorem g_bool {x : Str} {p : Pos} (B : BoOk T X.prog X.w X.K X.mg X.base k has wb) (hr : Room (k + 2) X.A) (hgd : X.A.guards = some []) (hm : X.mg x = none) (hv : bootBuiltins x = some (.type "bool")) (h : DE T X W a ta wa) (hg : Gl X x := by rfl) (hn : x ≠ "__name__" := by decide) (hdb : (x == ("__debug__" : Str)) = false := by rfl)
    (he : starEach (a :: []) X.env = (false, eval a X.env) :: starEach [] X.env := by rfl) (hpl : (backTo pos (starEach [] X.env)).any (·.1) = false := by rfl) : DE T X W (.Call (.Name x p) [a] [] pos) (tSem T W (wBoolG wb has wa)) (wBoolG wb has wa) := by
  obtain ⟨gs, h1, h2, h3⟩ := B.ex
  refine pe_seal ⟨pe_callTy (crOr call_bool1 (call_boolO h1 h2 h3 hr hgd)) hg hm hv (pa_cons h.pe pa_nil he) hn hdb he hpl, ?_⟩
  refine fun ρ σ S H H0 post ep Q ok er ex q hw => h.im ρ σ S H H0 _ ep _ ok er ex (fun d S1 H1 v p1 ok1 x1 r1 => ?_) hw
  have q' := q.ext x1
  unfold boolGD at p1
  split at p1
  · cases r1
    exact .inl (.inr ⟨_, rfl, q' _ S1 H1 _ p1 ok1 .refl (.bl _)⟩)
  · cases r1
    exact .inl (.inl ⟨_, rfl, q' _ S1 H1 _ p1 ok1 .refl (.bl _)⟩)
  · obtain ⟨hc, hw2⟩ := p1
    cases r1 with
    | ins h3 h4 h5 =>
      refine .inr ⟨_, _, _, _, hc, rfl, h3, S1, _, _, _, ok1, .cons (.ins h3 h4 h5) .nil, fun d' S' H' v' p' ok' x' r' => ?_, fun _ _ _ _ _ _ z => z.elim, hw2⟩
      obtain ⟨⟨b, rfl⟩, p''⟩ := p'
      cases r'
      exact ⟨⟨b, rfl⟩, q' _ S' H' _ p'' ok' x' (.bl b)⟩
  · exact p1.elim
end
end PyD

/-! PyD: errors made as values, by place and by name. -/
namespace PyD
open PySem PySem.Spec PyProof.Rows L2
def tMkV (C : Addr) (as_ : List Str) (ta : TA) : TE := fun σ H Q => ta σ H fun vs H1 => vs.length = as_.length ∧ ∀ d a, H1 d = none → H1 a = none → a ≠ d → Q (.ref a) (upd (upd H1 d (.xd (as_.zip vs))) a (ExcO (.ref C) d a))
def wMkV (c : Nat) (as_ : List Str) (a : WA) : WE := fun ρ post ep => a ρ (fun ds n => ds.length = as_.length ∧ post (.exc c (as_.zip ds)) n) ep
section
variable {X : Cx} {C : Addr} {as_ : List Str} {a : Expr} {es : List Expr} {ta : TA} {x : Str} {p pos : Pos} {k : Nat}
theorem run_mkV {pins : List (Addr × Obj)} {σ : L2.St} {H : Hp} {s : Shared} {Q : VK} {us pv : List Value} {kw : List (Str × Value)} {vs : List V} (T : ErrT X.prog X.K C as_) (hr : Room k X.A) (hsup : X.mg "super" = none) (I : Inv X pins σ H s) (r : Vals vs us) (hl : vs.length = as_.length) (hf : Er.Form as_ us pv kw)
    (q : ∀ d a, H d = none → H a = none → a ≠ d → Q (.ref a) (upd (upd H d (.xd (as_.zip vs))) a (ExcO (.ref C) d a))) (hk1 : 1 ≤ k) : wpAny (model X.prog X.w) X.A (call (.ref C) pv kw) (L2.EP X pins σ Q) X.xe s := by
  obtain ⟨fI, qual, params, body, scope, ps, p9, TC, TF, hpar, B, S⟩ := T.ex
  have hlim := I.nolimit
  obtain ⟨mb, hb1, hb2⟩ := I.mod.blt
  have hgl := I.mod.glob.keeps I.bk
  have hbl := hb1.keeps I.bk
  obtain ⟨hp, g, dr, tk, os⟩ := s
  refine wpAny_call (Er.made TC TF hpar B S (by rw [← r.length]; exact hl) hf I.kIn hlim hgl hsup hbl ((hb2 _ (by decide)).trans Boot.super) (by have := hr.dp; omega) fun h' tk' e d M => ?_)
  show L2.EP X pins σ Q (.ref e) ⟨h', g, dr, tk', os⟩
  obtain ⟨oe, fv, hoe, hc, hd, hdat, h1⟩ := M.obj
  obtain ⟨G', g1, g2⟩ := restrict h' fun b => decide (b ≠ e)
  have gk : ∀ b, b ≠ e → G'.get? b = h'.get? b := fun b hb => g1 b (decide_eq_true hb)
  have ge : G'.get? e = none := g2 e (by simp)
  have old : ∀ b o, hp.get? b = some o → G'.get? b = some o := fun b o q => (gk b (Nat.ne_of_lt (Nat.lt_of_lt_of_le (Heap.lt_size q) M.new))).trans (M.keep b o q)
  have ob : ObjOk X.prog X.w (upd H d (.xd (as_.zip vs))) G' d (.xd (as_.zip vs)) :=
    ⟨_, M.ns.at (fun o q => (gk d M.dne).trans q), fun f => relO_zip r hl f⟩
  have J : Inv X pins σ (upd H d (.xd (as_.zip vs))) ⟨G', g, dr, tk', os⟩ := I.laid (t' := tk') old M.dbig ob
  have fe : H e = none := I.hok.fresh M.new
  have fd : H d = none := I.hok.fresh M.dbig
  have ne1 : upd H d (.xd (as_.zip vs)) e = none := by rw [upd_ne (Ne.symm M.dne)]; exact fe
  have J2 := J.laidN (h' := h') (t' := tk') (fun b o q => by
    by_cases hb : b = e
    · have q' : G'.get? b = some o := q
      rw [hb, ge] at q'; cases q'
    · exact (gk b hb).symm.trans q) ge ne1 (ExcO_ok (cls := .ref C) (dd := d) hoe ⟨hc, hd⟩ hdat)
  exact ⟨.ref e, _, J2, rfl, q d e fd fe (Ne.symm M.dne)⟩
theorem pe_mkV (T : ErrT X.prog X.K C as_) (hkp : PySem.W.keepIn X.K (.ref C) = true) (hr : Room k X.A) (ha : PA X (a :: es) ta) (hg : Gl X x) (hm : X.mg x = some (.ref C)) (hsup : X.mg "super" = none) (hdb : (x == ("__debug__" : Str)) = false := by decide)
    (he : starEach (a :: es) X.env = (false, eval a X.env) :: starEach es X.env := by rfl) (hpl : (backTo pos (starEach es X.env)).any (·.1) = false := by rfl) (hk1 : 1 ≤ k := by decide) :
    PE X (.Call (.Name x p) (a :: es) [] pos) (tMkV C as_ ta) := ⟨fun pins s σ H Q I h =>
  wpAny_Call_Name_kw (ld_glob I hg hm (PySem.W.callWith_K (h₀ := X.base) I.ok.mod.kin hkp (thn (ha.run pos pins s σ H _ I h) fun us s1 ⟨vs, H1, I1, r1, hl, q1⟩ => ⟨I1.kIn, run_mkV T hr hsup I1 r1 hl (.pos _ _) q1 hk1⟩) he hpl) hdb)⟩
/-- by keywords: gV puts the words in order -/
def tMkK (C : Addr) (as_ : List Str) (gV : List V → List V) (n : Nat) (ta : TA) : TE := fun σ H Q => ta σ H fun zs H1 => zs.length = n ∧ ∀ d a, H1 d = none → H1 a = none → a ≠ d → Q (.ref a) (upd (upd H1 d (.xd (as_.zip (gV zs)))) a (ExcO (.ref C) d a))
theorem pe_mkK {kws : List Keyword} {ks : List Str} {gV : List V → List V} {g : List Value → List Value} (T : ErrT X.prog X.K C as_) (hkp : PySem.W.keepIn X.K (.ref C) = true) (hr : Room k X.A) (hkw : PK X kws ta) (hf : ∀ ws : List Value, ws.length = ks.length → Er.Form as_ (g ws) [] (ks.zip ws)) (hgl : ∀ zs : List V, zs.length = ks.length → (gV zs).length = as_.length) (hgv : ∀ {zs : List V} {ws : List Value}, Vals zs ws → Vals (gV zs) (g ws))
    (hg : Gl X x) (hm : X.mg x = some (.ref C)) (hsup : X.mg "super" = none) (hdb : (x == ("__debug__" : Str)) = false := by decide) (hall : (backToKw pos (keywordEach kws X.env)).all (·.1.isSome) = true := by rfl) (hks : (backToKw pos (keywordEach kws X.env)).filterMap (·.1) = ks := by rfl) (hpl : (backToKw pos (keywordEach kws X.env)).any (·.1.isNone) = false := by rfl) (hk1 : 1 ≤ k := by decide) :
    PE X (.Call (.Name x p) [] kws pos) (tMkK C as_ gV ks.length ta) := ⟨fun pins s σ H Q I h =>
  wpAny_Call_Name_kw (ld_glob I hg hm (PySem.W.callWith_KW0 (h₀ := X.base) I.ok.mod.kin hkp hall (thn (hkw.run pos pins s σ H _ I h) fun ws s1 ⟨zs, H1, I1, r1, hl, q1⟩ => ⟨I1.kIn, by
    rw [hks]
    exact run_mkV T hr hsup I1 (hgv r1) (hgl zs hl) (hf ws (r1.length.symm.trans hl)) q1 hk1⟩) hpl) hdb)⟩
end
section
variable {T : Tb} {X : Cx} {W : WX} {as_ : List Str} {a : Expr} {es : List Expr} {ta : TA} {wa : WA} {x : Str} {p pos : Pos} {k c : Nat}
/-- a new error kept -/
theorem new_exc {S : VS} {H : Hp} {post : D → Pr} {Q : VK} {c : Nat} {fs : List (Str × V)} {ds : List (Str × D)} (ok : Ok T S H) (q : QW T S H post Q) (r : RepF T S H fs ds) (h : post (.exc c ds) S.n) : ∀ d a, H d = none → H a = none → a ≠ d → Q (.ref a) (upd (upd H d (.xd fs)) a (ExcO (.ref (T.cA c)) d a)) := fun d a hd ha hn => by
  have o1 := ok.laid (o := .xd fs) hd
  have x1 := ext_new (o := .xd fs) ok hd
  have h1 : upd H d (.xd fs) a = none := by rw [upd_ne hn]; exact ha
  have o2 := o1.laid (o := ExcO (.ref (T.cA c)) d a) h1
  have x2 := ext_new (o := ExcO (.ref (T.cA c)) d a) o1 h1
  exact q _ S _ _ h o2 (x1.trans x2) (.exc upd_same (by rw [upd_ne (Ne.symm hn)]; exact upd_same) (r.ext ok (x1.trans x2).to0))
theorem im_mkV (h : ImpA T W ta wa) : ImpE T W (tMkV (T.cA c) as_ ta) (wMkV c as_ wa) := fun ρ σ S H H0 post ep Q ok er ex q hw =>
  h ρ σ S H H0 _ ep _ ok er ex (fun ds S1 H1 vs p ok1 x1 r1 => ⟨by rw [r1.length]; exact p.1, new_exc ok1 (q.ext x1) (RepF.zip r1) p.2⟩) hw
theorem g_mkV (T' : ErrT X.prog X.K (T.cA c) as_) (hkp : PySem.W.keepIn X.K (.ref (T.cA c)) = true) (hr : Room k X.A) (ha : DA T X W (a :: es) ta wa) (hm : X.mg x = some (.ref (T.cA c))) (hsup : X.mg "super" = none) (hg : Gl X x := by rfl) (hdb : (x == ("__debug__" : Str)) = false := by rfl)
    (he : starEach (a :: es) X.env = (false, eval a X.env) :: starEach es X.env := by rfl) (hpl : (backTo pos (starEach es X.env)).any (·.1) = false := by rfl) (hk1 : 1 ≤ k := by decide) :
    DE T X W (.Call (.Name x p) (a :: es) [] pos) (tMkV (T.cA c) as_ ta) (wMkV c as_ wa) := ⟨pe_mkV T' hkp hr ha.pa hg hm hsup hdb he hpl hk1, im_mkV ha.im⟩
/-- by keywords: perm tells which keyword stands for which word -/
def wMkK (c : Nat) (as_ : List Str) (perm : List Nat) (n : Nat) (a : WA) : WE := fun ρ post ep => a ρ (fun ds k => ds.length = n ∧ post (.exc c (as_.zip (permL perm .non ds))) k) ep
theorem g_mkK {kws : List Keyword} {ks : List Str} {perm : List Nat} (T' : ErrT X.prog X.K (T.cA c) as_) (hkp : PySem.W.keepIn X.K (.ref (T.cA c)) = true) (hr : Room k X.A) (hkw : DK T X W kws ta wa) (hf : ∀ ws : List Value, ws.length = ks.length → Er.Form as_ (permL perm .none ws) [] (ks.zip ws)) (hpm : perm.length = as_.length)
    (hm : X.mg x = some (.ref (T.cA c))) (hsup : X.mg "super" = none) (hg : Gl X x := by rfl) (hdb : (x == ("__debug__" : Str)) = false := by rfl) (hall : (backToKw pos (keywordEach kws X.env)).all (·.1.isSome) = true := by rfl) (hks : (backToKw pos (keywordEach kws X.env)).filterMap (·.1) = ks := by rfl) (hpl : (backToKw pos (keywordEach kws X.env)).any (·.1.isNone) = false := by rfl) (hk1 : 1 ≤ k := by decide) :
    DE T X W (.Call (.Name x p) [] kws pos) (tMkK (T.cA c) as_ (permL perm .non) ks.length ta) (wMkK c as_ perm ks.length wa) :=
  ⟨pe_mkK T' hkp hr hkw.pk hf (fun zs _ => by unfold permL; rw [List.length_map]; exact hpm) (fun r => vals_perm r perm) hg hm hsup hdb hall hks hpl hk1, fun ρ σ S H H0 post ep Q ok er ex q hw =>
  hkw.im ρ σ S H H0 _ ep _ ok er ex (fun ds S1 H1 vs p ok1 x1 r1 => ⟨by rw [r1.length]; exact p.1, new_exc ok1 (q.ext x1) (RepF.zip (r1.perm perm)) p.2⟩) hw⟩
end
end PyD

/-! PyD: dicts with ints and texts as keys: displays, comprehensions, dict(pairs), items, keys, d[k]. -/
namespace PyD
open PySem PySem.Spec PyProof.Rows L2
def keyD : Key → D
  | .inl i => .int i
  | .inr x => .str x
def keyOf : D → Option Key
  | .int i => some (.inl i)
  | .str x => some (.inr x)
  | _ => none
def valKD (kvs : List (Key × D)) (k : Key) : Option D := (kvs.find? fun kv => decide (kv.1 = k)).map (·.2)
def putKD (kvs : List (Key × D)) (k : Key) (v : D) : List (Key × D) := if (kvs.any fun kv => decide (kv.1 = k)) = true then kvs.map (fun kv => if kv.1 = k then (kv.1, v) else kv) else kvs ++ [(k, v)]
def mergeKD (kvs more : List (Key × D)) : List (Key × D) := more.foldl (fun acc kv => putKD acc kv.1 kv.2) kvs
section
variable {T : Tb} {S : VS} {H : Hp}
theorem rep_key (k : Key) : Rep T S H (kV k) (keyD k) := by
  cases k with
  | inl i => exact .int i
  | inr x => exact .str x
theorem Rep.key {v : V} {d : D} {k : Key} (r : Rep T S H v d) (h : keyOf d = some k) : v = kV k := by
  cases r with
  | int i => cases h; rfl
  | str x => cases h; rfl
  | _ => cases h
theorem RepK.length : ∀ {kvs : List (Key × V)} {ds : List (Key × D)}, RepK T S H kvs ds → kvs.length = ds.length
  | _, _, .nil => rfl
  | _, _, .cons _ t => congrArg Nat.succ (RepK.length t)
theorem RepK.get : ∀ {kvs : List (Key × V)} {ds : List (Key × D)} {i : Nat} {p : Key × D}, RepK T S H kvs ds → ds[i]? = some p → ∃ v, kvs[i]? = some (p.1, v) ∧ Rep T S H v p.2
  | _, _, _, _, .nil, e => by simp at e
  | _, _, 0, _, .cons r _, e => by simp at e; subst e; exact ⟨_, rfl, r⟩
  | _, _, i + 1, p, .cons _ t, e => by
    obtain ⟨v, h1, h2⟩ := RepK.get (i := i) (p := p) t (by simpa using e)
    exact ⟨v, by simpa using h1, h2⟩
theorem RepK.append : ∀ {kvs ls : List (Key × V)} {ds es : List (Key × D)}, RepK T S H kvs ds → RepK T S H ls es → RepK T S H (kvs ++ ls) (ds ++ es)
  | _, _, _, _, .nil, s => s
  | _, _, _, _, .cons r t, s => .cons r (RepK.append t s)
theorem RepK.any {k : Key} : ∀ {kvs : List (Key × V)} {ds : List (Key × D)}, RepK T S H kvs ds → (kvs.any fun kv => decide (kv.1 = k)) = ds.any fun kv => decide (kv.1 = k)
  | _, _, .nil => rfl
  | _, _, .cons _ t => by rw [List.any_cons, List.any_cons, RepK.any t]
theorem RepK.map {k : Key} {v : V} {d : D} (r : Rep T S H v d) : ∀ {kvs : List (Key × V)} {ds : List (Key × D)}, RepK T S H kvs ds → RepK T S H (kvs.map fun kv => if kv.1 = k then (kv.1, v) else kv) (ds.map fun kv => if kv.1 = k then (kv.1, d) else kv)
  | _, _, .nil => .nil
  | _, _, .cons (k := k') ru t => by
    rw [List.map_cons, List.map_cons]
    by_cases h : k' = k
    · rw [if_pos h, if_pos h]; exact .cons r (RepK.map r t)
    · rw [if_neg h, if_neg h]; exact .cons ru (RepK.map r t)
theorem RepK.put {k : Key} {v : V} {d : D} (r : Rep T S H v d) {kvs : List (Key × V)} {ds : List (Key × D)} (q : RepK T S H kvs ds) : RepK T S H (putK kvs k v) (putKD ds k d) := by
  unfold putK putKD
  rw [q.any]
  split
  · exact q.map r
  · exact q.append (.cons r .nil)
theorem RepK.merge : ∀ {more : List (Key × V)} {es : List (Key × D)} {kvs : List (Key × V)} {ds : List (Key × D)}, RepK T S H more es → RepK T S H kvs ds → RepK T S H (mergeK kvs more) (mergeKD ds es)
  | _, _, _, _, .nil, q => q
  | _, _, _, _, .cons (k := k) r t, q => by
    have h := RepK.merge t (q.put (k := k) r)
    exact h
theorem RepK.val {k : Key} {d : D} : ∀ {kvs : List (Key × V)} {ds : List (Key × D)}, RepK T S H kvs ds → valKD ds k = some d → ∃ v, valV kvs k = some v ∧ Rep T S H v d
  | _, _, .nil, e => by cases e
  | _, _, .cons (k := k') (v := v) (vs := vs) (d := d') (ds := ds') r t, e => by
    by_cases h : k' = k
    · have e1 : valKD ((k', d') :: ds') k = some d' := by unfold valKD; simp [List.find?_cons, h]
      rw [e1] at e
      cases e
      exact ⟨v, valV_pos h, r⟩
    · have e1 : valKD ((k', d') :: ds') k = valKD ds' k := by unfold valKD; simp [List.find?_cons, h]
      rw [e1] at e
      obtain ⟨w, h1, h2⟩ := RepK.val t e
      exact ⟨w, (valV_neg h).trans h1, h2⟩
theorem own_newD {p : Addr} {kvs : List (Key × V)} (ok : Ok T S H) (hp : H p = none) : Ok T (own S p) (upd H p (.dK kvs)) ∧ Ext S H (own S p) (upd H p (.dK kvs)) := by
  have ne : ∀ b o, H b = some o → b ≠ p := fun b o e => ne_of_none e hp
  have x : Ext S H (own S p) (upd H p (.dK kvs)) := ⟨fun b o e _ _ => ⟨by rw [upd_ne (ne b o e)]; exact e, own_ne (ne b o e)⟩, fun b n e => by
    have nb : b ≠ p := fun z => by rw [z, ok.new hp] at e; cases e
    rw [own_ne nb]; exact e, fun b ps e => ⟨ps, by rw [upd_ne (ne b _ e)]; exact e⟩⟩
  refine ⟨⟨fun b n e => ?_, fun b k e => ?_, tabs_keep ok.tabs fun b u e _ _ _ => by rw [upd_ne (ne b u e)]; exact e⟩, x⟩
  · have nb : b ≠ p := fun z => by rw [z, own_same] at e; cases e
    rw [own_ne nb] at e
    exact T.st n S _ H _ b (ok.vol b n e) (fun c u h h1 h2 => x.to0.keep c u h h1 h2) (Nat.le_refl _) (upd_ne nb)
  · by_cases hb : b = p
    · rw [hb]; exact .inr (.inr ⟨kvs, upd_same⟩)
    · rw [own_ne hb] at e
      rw [upd_ne hb]
      exact ok.chg b k e
theorem own_updD {p : Addr} {kvs ls : List (Key × V)} (ok : Ok T S H) (hp : S p = some .own) (hH : H p = some (.dK kvs)) : Ok T S (upd H p (.dK ls)) ∧ Ext0 S H S (upd H p (.dK ls)) := by
  have x : Ext0 S H S (upd H p (.dK ls)) := ⟨fun b o e _ h => by
    have nb : b ≠ p := fun z => by rw [z, hp] at h; cases h
    exact ⟨by rw [upd_ne nb]; exact e, h⟩, fun b n e => e⟩
  refine ⟨⟨fun b n e => ?_, fun b k e => ?_, tabs_keep ok.tabs fun b u e _ _ h3 => ?_⟩, x⟩
  · have nb : b ≠ p := fun z => by rw [z, hp] at e; cases e
    exact T.st n S _ H _ b (ok.vol b n e) (fun c u h h1 h2 => x.keep c u h h1 h2) (Nat.le_refl _) (upd_ne nb)
  · by_cases hb : b = p
    · rw [hb]; exact .inr (.inr ⟨ls, upd_same⟩)
    · rw [upd_ne hb]; exact ok.chg b k e
  · have nb : b ≠ p := fun z => by rw [z, hH] at e; exact h3 kvs (Option.some.inj e).symm
    rw [upd_ne nb]; exact e
theorem own_updD_ext {S1 : VS} {H1 : Hp} {p : Addr} {ls : List (Key × V)} (x : Ext S1 H1 S H) (h1 : H1 p = none) : Ext S1 H1 S (upd H p (.dK ls)) := by
  refine ⟨fun b o e n m => ?_, x.vk, fun b ps e => ?_⟩
  · obtain ⟨k1, k2⟩ := x.keep b o e n m
    exact ⟨by rw [upd_ne (ne_of_none e h1)]; exact k1, k2⟩
  · obtain ⟨qs, k⟩ := x.tb b ps e
    exact ⟨qs, by rw [upd_ne (ne_of_none e h1)]; exact k⟩
/-- a new dict -/
theorem new_dic {post : D → Pr} {Q : VK} {kvs : List (Key × V)} {ds : List (Key × D)} (ok : Ok T S H) (q : QW T S H post Q) (r : RepK T S H kvs ds) (h : post (.dic ds) S.n) : ∀ p, H p = none → Q (.ref p) (upd H p (.dK kvs)) := fun p hp =>
  q _ S _ _ h (ok.laid hp) (ext_new ok hp) (.dic (.inl upd_same) (ok.new hp) (r.ext ok (ext_new ok hp).to0))
/-- a frame's own dict becomes a value -/
theorem QW.ofD {S1 : VS} {H1 : Hp} {post : D → Pr} {Q : VK} {p : Addr} {kvs : List (Key × V)} {ds : List (Key × D)} (ok : Ok T S H) (q : QW T S H post Q) (hp : H p = none) (ok1 : Ok T S1 H1) (x : Ext S H S1 H1) (h2 : H1 p = some (.dK kvs)) (h3 : S1 p = some .own) (r : RepK T S1 H1 kvs ds) (h : post (.dic ds) S1.n) : Q (.ref p) H1 := by
  obtain ⟨okf, xf⟩ := freeze ok1 h3
  exact q _ (frozen S1 p) H1 _ h okf (freeze_ext x hp ok) (.dic (.inl h2) frozen_same (r.ext ok1 xf))
end

/-! ### d[k] -/
def ixDD : D → D → (D → Prop) → Prop := fun x y p => match x with
  | .dic ds => ∃ k d, keyOf y = some k ∧ valKD ds k = some d ∧ p d
  | _ => ixD x y p
def rIxK : R2 := fun x y H Q => ∃ a v, x = .ref a ∧ DGet H a y (some v) ∧ Q v H
section
variable {T : Tb} {X : Cx} {W : WX} {a b : Expr} {ta tb : TE} {wa wb : WE} {pos : Pos}
theorem ix_dict (hu : X.A.units + 1 < cLine) : IxR X rIxK := by
  intro value slice pins s σ H x y v u Q I rx ry h hs
  obtain ⟨a, z, rfl, g, q⟩ := h
  cases (show v = Value.ref a from rx)
  have hT := dict_typeIs I g
  unfold subscriptTail
  refine wpAny_bind ?_
  rw [getitemInPython_of_ne hT.not_modules]
  refine wpAny_bind (wpAny_specialOf hT PySem.F.slot_dict_getitem.lookup ?_)
  have h₂ : wpAny (model X.prog X.w) X.A (getItem (.ref a) u) (L2.EP X pins σ Q) X.xe s := d_getItem hu I g ry fun w' s3 I3 rw' => ⟨z, H, I3, rw', q⟩
  have fin : wpAny (model X.prog X.w) X.A (subscripted slice false (.ref a) u) (fun r s₃ => wpAny (model X.prog X.w) X.A (letTemporaryGo value (.ref a) r >>= fun _ => pure r) (L2.EP X pins σ Q) X.xe s₃) X.xe s := by
    rw [hs]
    exact wpAny_operating (wpAny_mono h₂ (fun r s₃ h₃ => wpAny_bind (wpAny_letTemporaryGo (wpAny_pure h₃))) fun _ _ x => x)
  first
    | exact wpAny_pure (wpAny_bind fin)
    | exact wpAny_bind (wpAny_pure (wpAny_bind fin))
    | exact wpAny_bind fin
theorem d_ixDD : OpD T (fun x y H Q => rIx T.K x y H Q ∨ rIxK x y H Q) ixDD := fun S H x y dx dy post Q ok r1 r2 q hw => by
  unfold ixDD at hw
  split at hw
  · obtain ⟨k, d, h1, h2, h3⟩ := hw
    cases r1 with
    | dic h4 h5 h6 =>
      obtain ⟨v, e1, rv⟩ := h6.val h2
      have ey := r2.key h1
      subst ey
      exact .inr ⟨_, v, rfl, .inl ⟨_, k, h4, rfl, e1.symm⟩, q d S H v h3 ok .refl rv⟩
  · exact .inl (d_ix S H x y _ dy post Q ok r1 r2 q hw)
theorem de_ixD (hK : X.K = T.K) (hu : X.A.units + 1 < cLine) (h1 : DE T X W a ta wa) (h2 : DE T X W b tb wb) (hs : PlainIx b := by exact fun _ _ => rfl) : DE T X W (.Subscript a b pos) (tOp (fun x y H Q => rIx X.K x y H Q ∨ rIxK x y H Q) ta tb) (wOp ixDD wa wb) :=
  ⟨pe_ix (ix_seq.or (ix_dict hu)) h1.pe h2.pe hs, by rw [hK]; exact im_op d_ixDD h1.im h2.im⟩
end

/-! ### dict(pairs) -/
def pairsOf : List D → Option (List (Key × D))
  | [] => some []
  | .tup [k, d] :: ds => match keyOf k, pairsOf ds with
    | some k, some r => some ((k, d) :: r)
    | _, _ => none
  | _ :: _ => none
def dictPD : FA := fun ds p => match ds with
  | [.lst l] => ∃ kvs, pairsOf l = some kvs ∧ p (.dic (mergeKD [] kvs))
  | _ => False
section
variable {T : Tb} {S : VS} {H : Hp}
theorem RepL.pairs : ∀ {vs : List V} {l : List D} {ds : List (Key × D)}, RepL T S H vs l → pairsOf l = some ds → ∃ (ps : List Addr) (kvs : List (Key × V)), vs = ps.map V.ref ∧ Paired (fun p kv => SqT T.K H p [kV kv.1, kv.2]) ps kvs ∧ RepK T S H kvs ds
  | _, _, _, .nil, e => by cases e; exact ⟨[], [], rfl, .nil, .nil⟩
  | _, _, ds, .cons (d := d) (ds := l) r t, e => by
    unfold pairsOf at e
    split at e
    · rename_i heq; cases heq
    · rename_i k d' l' heq
      cases heq
      split at e
      · rename_i k' ds' e1 e2
        cases e
        obtain ⟨ps, kvs, rfl, hp, hr⟩ := RepL.pairs t e2
        cases r with
        | @tup a xs _ h1 h2 =>
          obtain ⟨x, y, rfl, r1, r2⟩ := h2.two
          have ey := r1.key e1
          subst ey
          exact ⟨a :: ps, (k', y) :: kvs, rfl, .cons h1 hp, .cons r2 hr⟩
      · cases e
    · cases e
theorem d_dictP : OpA T (fun xs H Q => ∃ (a : Addr) (ps : List Addr) (kvs : List (Key × V)), xs = [.ref a] ∧ SqL T.K H a (ps.map V.ref) ∧ Paired (fun p kv => SqT T.K H p [kV kv.1, kv.2]) ps kvs ∧ ∀ p, H p = none → Q (.ref p) (upd H p (.dK (mergeK [] kvs)))) dictPD := fun S H vs ds post Q ok rv q hw => by
  unfold dictPD at hw
  split at hw
  · obtain ⟨x, rfl, r1⟩ := rv.one
    obtain ⟨kvs, h1, h2⟩ := hw
    cases r1 with
    | lst h3 h4 l1 =>
      obtain ⟨ps, ks, rfl, hp, hr⟩ := l1.pairs h1
      exact ⟨_, ps, ks, rfl, SqL.of h3, hp, new_dic ok q (hr.merge .nil) h2⟩
  · exact hw.elim
end

/-! ### displays -/
def wPairs : List (WE × WE) → EnvD → (List (Key × D) → Pr) → EP → Pr
  | [], _, post, _ => post []
  | (a, b) :: r, ρ, post, ep => a ρ (fun x => b ρ (fun y => wPairs r ρ (fun kvs n => ∃ k, keyOf x = some k ∧ post ((k, y) :: kvs) n) ep) ep) ep
def wDisp (ps : List (WE × WE)) : WE := fun ρ post ep => wPairs ps ρ (fun kvs n => kvs.length ≤ 15 ∧ post (.dic (mergeKD [] kvs)) n) ep
def ImpPs (T : Tb) (W : WX) (ts : List (TE × TE)) (ws : List (WE × WE)) : Prop := ∀ (ρ : EnvD) (σ : L2.St) (S : VS) (H H0 : Hp) (post : List (Key × D) → Pr) (ep : EP) (Q : List (V × V) → Hp → Prop), Ok T S H → EnvRel T H0 S H σ ρ → ExW T W σ S H ep →
  (∀ (ds : List (Key × D)) (S' : VS) (H' : Hp) (kvs : List (Key × V)), post ds S'.n → Ok T S' H' → Ext S H S' H' → RepK T S' H' kvs ds → Q (kvs.map fun kv => (kV kv.1, kv.2)) H') → wPairs ws ρ post ep S.n → tPairs ts σ H Q
structure DPs (T : Tb) (X : Cx) (W : WX) (pos : Pos) (ks : List (Option Expr)) (vs : List Expr) (ts : List (TE × TE)) (ws : List (WE × WE)) : Prop where
  pp : PPs X pos ks vs ts
  im : ImpPs T W ts ws
section
variable {T : Tb} {X : Cx} {W : WX} {pos : Pos}
theorem dps_nil : DPs T X W pos [] [] [] [] := ⟨pps_nil, fun ρ σ S H H0 post ep Q ok er ex q h => q [] S H [] h ok .refl .nil⟩
theorem dps_cons {k v : Expr} {ks : List (Option Expr)} {vs : List Expr} {tk tv : TE} {wk wv : WE} {ts : List (TE × TE)} {ws : List (WE × WE)} (h1 : DE T X W k tk wk) (h2 : DE T X W v tv wv) (h3 : DPs T X W pos ks vs ts ws) : DPs T X W pos (some k :: ks) (v :: vs) ((tk, tv) :: ts) ((wk, wv) :: ws) :=
  ⟨pps_cons h1.pe h2.pe h3.pp, fun ρ σ S H H0 post ep Q ok er ex q hw =>
    h1.im ρ σ S H H0 _ ep _ ok er ex (fun x S1 H1 v1 p1 ok1 x1 r1 => h2.im ρ σ S1 H1 H0 _ ep _ ok1 (er.ext ok x1) (ex.ext x1) (fun y S2 H2 v2 p2 ok2 x2 r2 =>
      h3.im ρ σ S2 H2 H0 _ ep _ ok2 ((er.ext ok x1).ext ok1 x2) ((ex.ext x1).ext x2) (fun ds S3 H3 kvs p3 ok3 x3 r3 => by
        obtain ⟨k, e, p⟩ := p3
        have ek := (r1.ext ok1 (x2.trans x3).to0).key e
        have z := q ((k, y) :: ds) S3 H3 ((k, v2) :: kvs) p ok3 ((x1.trans x2).trans x3) (.cons (r2.ext ok2 x3.to0) r3)
        rw [ek]
        exact z) p2) p1) hw⟩
theorem de_disp {ks : List (Option Expr)} {vs : List Expr} {ts : List (TE × TE)} {ws : List (WE × WE)} (h : DPs T X W pos ks vs ts ws) (hall : ks.all (·.isSome) = true := by rfl) (hl : ks.length = vs.length := by rfl) (h0 : ks ≠ [] := by exact fun z => nomatch z) (h15 : ks.length ≤ 15 := by decide) : DE T X W (.Dict ks vs pos) (tDisp ts) (wDisp ws) :=
  ⟨pe_disp h.pp hall hl h0 h15, fun ρ σ S H H0 post ep Q ok er ex q hw p hp => by
    obtain ⟨o1, x1⟩ := own_newD (kvs := []) ok hp
    refine h.im ρ σ (own S p) _ H0 _ ep _ o1 (er.ext ok x1) (ex.ext x1) (fun ds S2 H2 kvs p2 ok2 x2 r2 => ?_) hw
    obtain ⟨k1, k2⟩ := x2.keep p _ upd_same (fun _ z => by cases z) fun n z => by rw [own_same] at z; cases z
    have k2' : S2 p = some .own := k2.trans own_same
    obtain ⟨o3, x3⟩ := own_updD (ls := mergeK [] kvs) ok2 k2' k1
    refine ⟨k1, kvs, rfl, by rw [r2.length]; exact p2.1, ?_⟩
    exact QW.ofD ok q hp o3 (own_updD_ext (x1.trans x2) hp) upd_same k2' ((r2.merge .nil).ext ok2 x3) p2.2⟩
end

/-! ### comprehensions over a dict that a name holds: it is locked meanwhile -/
def pairD (p : Key × D) : D := .tup [keyD p.1, p.2]
section
variable {T : Tb} {X : Cx} {W : WX} {S : VS} {H : Hp}
theorem itd_items {a : Addr} {o : Obj} {kvs : List (Key × V)} {ds : List (Key × D)} (ok : Ok T S H) (h : H a = some (.frz o (.dK kvs))) (r : RepK T S H kvs ds) : ItD T S H (Iti a o kvs) (ds.map pairD) := fun S' H' ok' x => by
  have hS : S a = none := ok.free h
  obtain ⟨k1, k2⟩ := x.keep a _ h (fun _ z => by cases z) hS
  have r' := r.ext ok x
  refine ⟨fun i d e => ?_, ⟨k1, by rw [List.length_map, ← r.length]; exact Nat.le_refl _⟩⟩
  rw [List.getElem?_map] at e
  cases q : ds[i]? with
  | none => rw [q] at e; cases e
  | some p =>
    rw [q] at e
    cases e
    obtain ⟨v, h1, h2⟩ := r'.get q
    have hlt : i < kvs.length := by
      rcases Nat.lt_or_ge i kvs.length with z | z
      · exact z
      · rw [List.getElem?_eq_none z] at h1; cases h1
    refine ⟨⟨k1, hlt⟩, fun y H2 hy => ?_⟩
    obtain ⟨t, k, v', e1, rfl, ht, rfl⟩ := hy
    rw [h1] at e1
    cases e1
    exact ⟨S', rfl, ok'.laid ht, ext_new ok' ht, .tup (SqT.of upd_same) (.cons ((rep_key _).ext ok' (ext_new ok' ht).to0) (.cons (h2.ext ok' (ext_new ok' ht).to0) .nil))⟩
theorem itd_keys {a : Addr} {o : Obj} {kvs : List (Key × V)} {ds : List (Key × D)} (ok : Ok T S H) (h : H a = some (.frz o (.dK kvs))) (r : RepK T S H kvs ds) : ItD T S H (Itk a o kvs) (ds.map fun p => keyD p.1) := fun S' H' ok' x => by
  have hS : S a = none := ok.free h
  obtain ⟨k1, k2⟩ := x.keep a _ h (fun _ z => by cases z) hS
  refine ⟨fun i d e => ?_, ⟨k1, by rw [List.length_map, ← r.length]; exact Nat.le_refl _⟩⟩
  rw [List.getElem?_map] at e
  cases q : ds[i]? with
  | none => rw [q] at e; cases e
  | some p =>
    rw [q] at e
    cases e
    obtain ⟨v, h1, h2⟩ := r.get q
    have hlt : i < kvs.length := by
      rcases Nat.lt_or_ge i kvs.length with z | z
      · exact z
      · rw [List.getElem?_eq_none z] at h1; cases h1
    refine ⟨⟨k1, hlt⟩, fun y H2 hy => ?_⟩
    obtain ⟨rfl, k, v', e1, rfl⟩ := hy
    rw [h1] at e1
    cases e1
    exact ⟨S', rfl, ok', .refl, rep_key _⟩
/-- a locked state -/
structure Lkd (T : Tb) (S : VS) (H : Hp) (a : Addr) (kvs : List (Key × V)) (ds : List (Key × D)) (o : Obj) (Hl : Hp) : Prop where
  ok : Ok T S Hl
  at_ : Hl a = some (.frz o (.dK kvs))
  no : S a = none
  r : RepK T S Hl kvs ds
  lk : Lk H Hl
theorem lkd_of {a : Addr} {kvs : List (Key × V)} {ds : List (Key × D)} (ok : Ok T S H) (h : Rd H a (.dK kvs)) (hS : S a = none) (r : RepK T S H kvs ds) (o : Obj) : Lkd T S H a kvs ds o (upd H a (.frz o (.dK kvs))) := by
  have lk : Lk H (upd H a (.frz o (.dK kvs))) := ⟨a, kvs, _, h, .inr ⟨o, rfl⟩, rfl⟩
  refine ⟨⟨fun b n e => T.lk n S H _ b lk (ok.vol b n e), fun b k e => ?_, ?_⟩, upd_same, hS, r.lk lk, lk⟩
  · have nb : b ≠ a := fun z => by rw [z, hS] at e; cases e
    rw [upd_ne nb]
    exact ok.chg b k e
  · refine fun p hp => ?_
    obtain ⟨ps, h1, h2, h3⟩ := ok.tabs p hp
    refine ⟨ps, lk.other h1, h2, fun pos cv hc => ?_⟩
    obtain ⟨c, e1, e2⟩ := h3 pos cv hc
    exact ⟨c, e1, lk.other e2 (fun _ z => by unfold LamX.CodeO at z; cases z) fun _ _ z => by unfold LamX.CodeO at z; cases z⟩
/-- back to the state before the lock -/
theorem Lkd.back {a : Addr} {kvs : List (Key × V)} {ds : List (Key × D)} {o : Obj} {Hl : Hp} {S' : VS} {H' : Hp} (L : Lkd T S H a kvs ds o Hl) (hH : H a = some (.dK kvs)) (eq : Hl = upd H a (.frz o (.dK kvs))) (ok' : Ok T S' H') (x : Ext S Hl S' H') :
    H' a = some (.frz o (.dK kvs)) ∧ Lk H' (upd H' a (.dK kvs)) ∧ Ok T S' (upd H' a (.dK kvs)) ∧ Ext S H S' (upd H' a (.dK kvs)) := by
  obtain ⟨k1, k2⟩ := x.keep a _ L.at_ (fun _ z => by cases z) fun n z => by rw [L.no] at z; cases z
  have kS : S' a = none := k2.trans L.no
  have lk : Lk H' (upd H' a (.dK kvs)) := ⟨a, kvs, _, .inr ⟨o, k1⟩, .inl rfl, rfl⟩
  refine ⟨k1, lk, ⟨fun b n e => T.lk n S' H' _ b lk (ok'.vol b n e), fun b k e => ?_, fun p hp => ?_⟩, fun b u e n m => ?_, x.vk, fun b ps e => ?_⟩
  · have nb : b ≠ a := fun z => by rw [z, kS] at e; cases e
    rw [upd_ne nb]
    exact ok'.chg b k e
  · obtain ⟨ps, h1, h2, h3⟩ := ok'.tabs p hp
    refine ⟨ps, lk.other h1, h2, fun pos cv hc => ?_⟩
    obtain ⟨c, e1, e2⟩ := h3 pos cv hc
    exact ⟨c, e1, lk.other e2 (fun _ z => by unfold LamX.CodeO at z; cases z) fun _ _ z => by unfold LamX.CodeO at z; cases z⟩
  · by_cases hb : b = a
    · subst hb
      rw [hH] at e
      cases e
      exact ⟨upd_same, k2⟩
    · rw [upd_ne hb]
      exact x.keep b u (by rw [eq, upd_ne hb]; exact e) n m
  · have nb : b ≠ a := fun z => by rw [z, hH] at e; cases e
    obtain ⟨qs, k⟩ := x.tb b ps (by rw [eq, upd_ne nb]; exact e)
    exact ⟨qs, by rw [upd_ne nb]; exact k⟩
/-- the loop of a list comprehension, the things walked being told -/
theorem lc_core {H0 : Hp} {σ : L2.St} {ρ : EnvD} {J : It} {ds : List D} {g : TG} {wg : WG} {tt : TT} {wt : WT} {te : TE} {we : WE} {vs : List Nat} {post : List D → Pr} {Qf : Addr → Hp → Prop} (hg : ImpG T g wg) (hv : GV vs g) (ht : ImpT T W0 tt wt) (he : ImpE T W0 te we) (ok : Ok T S H) (er : EnvRel T H0 S H σ ρ) (it : ItD T S H J ds)
    (hw : wLc wg wt we (wipeD ρ vs) post ds [] S.n) {D : Addr} (hD : H D = none) (q : ∀ acc S' H' xs, post acc S'.n → Ok T S' H' → Ext S H S' H' → H' D = some (.lst xs) → S' D = some .own → RepL T S' H' xs acc → Qf D H') :
    ∃ W : Nat → Nat → Hp → Prop, (∃ m, W 0 m (upd H D (.lst []))) ∧ ∀ i m H', W i m H' → (J.stop i H' ∧ Qf D H') ∨ (J.go i H' ∧ ∃ Nx : Hp → Prop, (∀ H2, Nx H2 → ∃ m', m' < m ∧ W (i + 1) m' H2) ∧ ∀ x H2, J.yld i H' x H2 → g x (L2.wipe σ vs) H2 fun σ2 H2 => L2.wipe σ2 vs = L2.wipe σ vs ∧ tt σ2 H2 fun b H3 =>
      if b = true then te σ2 H3 fun y H4 => ∃ acc, H4 D = some (.lst acc) ∧ acc.length < sizeLine ∧ Nx (upd H4 D (.lst (acc ++ [y]))) else Nx H3) := by
  have er1 := er
  obtain ⟨okD, xD⟩ := own_new (xs := []) ok hD
  refine ⟨fun i m H' => m + i = ds.length ∧ ∃ acc xs S', wLc wg wt we (wipeD ρ vs) post (ds.drop i) acc S'.n ∧ Ok T S' H' ∧ Ext S H S' H' ∧ H' D = some (.lst xs) ∧ S' D = some .own ∧ RepL T S' H' xs acc,
      ⟨ds.length, by simp, [], [], own S D, (by simpa using hw : wLc wg wt we (wipeD ρ vs) post (ds.drop 0) [] S.n), okD, xD, upd_same, own_same, .nil⟩, ?_⟩
  rintro i m H' ⟨hm, acc, xs, S', hl, ok', x', hH, hS, rx⟩
  obtain ⟨hgo, hstop⟩ := it S' H' ok' x'.to0
  by_cases hi : i < ds.length
  · have e : ds[i]? = some ds[i] := List.getElem?_eq_getElem hi
    obtain ⟨go, yl⟩ := hgo i _ e
    refine .inr ⟨go, fun H2 => m - 1 + (i + 1) = ds.length ∧ ∃ acc xs S2, wLc wg wt we (wipeD ρ vs) post (ds.drop (i + 1)) acc S2.n ∧ Ok T S2 H2 ∧ Ext S H S2 H2 ∧ H2 D = some (.lst xs) ∧ S2 D = some .own ∧ RepL T S2 H2 xs acc,
      fun H2 z => ⟨m - 1, by omega, z⟩, fun x H2 hy => ?_⟩
    obtain ⟨S2, en2, ok2, x2, rv⟩ := yl x H2 hy
    rw [List.drop_eq_getElem_cons hi, ← en2] at hl
    have keepD : ∀ {S3 : VS} {H3 : Hp}, Ext S' H' S3 H3 → H3 D = some (.lst xs) ∧ S3 D = some .own := fun {S3 H3} x => by
      obtain ⟨k1, k2⟩ := x.keep D _ hH (fun _ z => by cases z) fun n z => by rw [hS] at z; cases z
      exact ⟨k1, k2.trans hS⟩
    have er2 : EnvRel T H0 S2 H2 (L2.wipe σ vs) (wipeD ρ vs) := ((er1.ext ok x').ext ok' x2).wipe vs
    have key : g x (L2.wipe σ vs) H2 fun σ2 H2 => tt σ2 H2 fun b H3 => if b = true then te σ2 H3 fun y H4 => ∃ acc, H4 D = some (.lst acc) ∧ acc.length < sizeLine ∧ (m - 1 + (i + 1) = ds.length ∧ ∃ acc' xs S2, wLc wg wt we (wipeD ρ vs) post (ds.drop (i + 1)) acc' S2.n ∧ Ok T S2 (upd H4 D (.lst (acc ++ [y]))) ∧ Ext S H S2 (upd H4 D (.lst (acc ++ [y]))) ∧ (upd H4 D (.lst (acc ++ [y]))) D = some (.lst xs) ∧ S2 D = some .own ∧ RepL T S2 (upd H4 D (.lst (acc ++ [y]))) xs acc')
        else (m - 1 + (i + 1) = ds.length ∧ ∃ acc xs S2, wLc wg wt we (wipeD ρ vs) post (ds.drop (i + 1)) acc S2.n ∧ Ok T S2 H3 ∧ Ext S H S2 H3 ∧ H3 D = some (.lst xs) ∧ S2 D = some .own ∧ RepL T S2 H3 xs acc) := by
      refine hg x _ _ _ S2 H2 H0 _ _ ok2 er2 rv (fun ρ3 σ3 h3 er3 => ?_) hl
      refine ht ρ3 σ3 S2 H2 H0 _ ep0 _ ok2 er3 ex0 (fun b S3 H3 p3 ok3 x3 => ?_) h3
      have x13 := (x'.trans x2).trans x3
      obtain ⟨k1, k2⟩ := keepD (x2.trans x3)
      cases b with
      | false => exact ⟨by omega, acc, xs, S3, p3, ok3, x13, k1, k2, rx.ext ok' (x2.trans x3).to0⟩
      | true =>
        refine he ρ3 σ3 S3 H3 H0 _ ep0 _ ok3 (er3.ext ok2 x3) ex0 (fun y S4 H4 v p4 ok4 x4 r4 => ?_) p3
        obtain ⟨k3, k4⟩ := keepD ((x2.trans x3).trans x4)
        obtain ⟨o5, x5⟩ := own_upd (ys := xs ++ [v]) ok4 k4 k3
        refine ⟨xs, k3, by rw [rx.length]; exact p4.1, by omega, acc ++ [y], xs ++ [v], S4, p4.2, o5, own_upd_ext (x13.trans x4) hD, upd_same, k4, ?_⟩
        exact ((rx.ext ok' ((x2.trans x3).trans x4).to0).append (.cons r4 .nil)).ext ok4 x5
    have z := hv _ _ _ _ key
    rw [wipe_wipe] at z
    exact z
  · have ei : i = ds.length := by omega
    refine .inl ⟨ei ▸ hstop, ?_⟩
    rw [List.drop_eq_nil_of_le (by omega)] at hl
    exact q acc S' H' xs hl ok' x' hH hS rx
def wDcL (g : WG) (tk tv : WE) (ρ : EnvD) (post : List (Key × D) → Pr) : List D → List (Key × D) → Pr
  | [], acc => post acc
  | d :: ds, acc => g d ρ (fun ρ1 => tk ρ1 (fun y => tv ρ1 (fun z n => ∃ k, keyOf y = some k ∧ acc.length < sizeLine ∧ wDcL g tk tv ρ post ds (putKD acc k z) n) ep0) ep0)
/-- the loop of a dict comprehension -/
theorem dc_loop {H0 : Hp} {σ : L2.St} {ρ : EnvD} {J : It} {ds : List D} {g : TG} {wg : WG} {tk tv : TE} {wk wv : WE} {vs : List Nat} {post : List (Key × D) → Pr} {Qf : Addr → Hp → Prop} (hg : ImpG T g wg) (hv : GV vs g) (hk : ImpE T W0 tk wk) (he : ImpE T W0 tv wv) (ok : Ok T S H) (er : EnvRel T H0 S H σ ρ) (it : ItD T S H J ds)
    (hw : wDcL wg wk wv (wipeD ρ vs) post ds [] S.n) {D : Addr} (hD : H D = none) (q : ∀ acc S' H' xs, post acc S'.n → Ok T S' H' → Ext S H S' H' → H' D = some (.dK xs) → S' D = some .own → RepK T S' H' xs acc → Qf D H') :
    ∃ W : Nat → Nat → Hp → Prop, (∃ m, W 0 m (upd H D (.dK []))) ∧ ∀ i m H', W i m H' → (J.stop i H' ∧ Qf D H') ∨ (J.go i H' ∧ ∃ Nx : Hp → Prop, (∀ H2, Nx H2 → ∃ m', m' < m ∧ W (i + 1) m' H2) ∧ ∀ x H2, J.yld i H' x H2 → g x (L2.wipe σ vs) H2 fun σ2 H2 => L2.wipe σ2 vs = L2.wipe σ vs ∧ tYes σ2 H2 fun b H3 =>
      if b = true then tk σ2 H3 fun y H4 => tv σ2 H4 fun z H5 => ∃ kvs k, y = kV k ∧ H5 D = some (.dK kvs) ∧ kvs.length < sizeLine ∧ Nx (upd H5 D (.dK (putK kvs k z))) else Nx H3) := by
  obtain ⟨okD, xD⟩ := own_newD (kvs := []) ok hD
  refine ⟨fun i m H' => m + i = ds.length ∧ ∃ acc xs S', wDcL wg wk wv (wipeD ρ vs) post (ds.drop i) acc S'.n ∧ Ok T S' H' ∧ Ext S H S' H' ∧ H' D = some (.dK xs) ∧ S' D = some .own ∧ RepK T S' H' xs acc,
      ⟨ds.length, by simp, [], [], own S D, (by simpa using hw : wDcL wg wk wv (wipeD ρ vs) post (ds.drop 0) [] S.n), okD, xD, upd_same, own_same, .nil⟩, ?_⟩
  rintro i m H' ⟨hm, acc, xs, S', hl, ok', x', hH, hS, rx⟩
  obtain ⟨hgo, hstop⟩ := it S' H' ok' x'.to0
  by_cases hi : i < ds.length
  · have e : ds[i]? = some ds[i] := List.getElem?_eq_getElem hi
    obtain ⟨go, yl⟩ := hgo i _ e
    refine .inr ⟨go, fun H2 => m - 1 + (i + 1) = ds.length ∧ ∃ acc xs S2, wDcL wg wk wv (wipeD ρ vs) post (ds.drop (i + 1)) acc S2.n ∧ Ok T S2 H2 ∧ Ext S H S2 H2 ∧ H2 D = some (.dK xs) ∧ S2 D = some .own ∧ RepK T S2 H2 xs acc,
      fun H2 z => ⟨m - 1, by omega, z⟩, fun x H2 hy => ?_⟩
    obtain ⟨S2, en2, ok2, x2, rv⟩ := yl x H2 hy
    rw [List.drop_eq_getElem_cons hi, ← en2] at hl
    have keepD : ∀ {S3 : VS} {H3 : Hp}, Ext S' H' S3 H3 → H3 D = some (.dK xs) ∧ S3 D = some .own := fun {S3 H3} x => by
      obtain ⟨k1, k2⟩ := x.keep D _ hH (fun _ z => by cases z) fun n z => by rw [hS] at z; cases z
      exact ⟨k1, k2.trans hS⟩
    have er2 : EnvRel T H0 S2 H2 (L2.wipe σ vs) (wipeD ρ vs) := ((er.ext ok x').ext ok' x2).wipe vs
    have key : g x (L2.wipe σ vs) H2 fun σ2 H2 => tYes σ2 H2 fun b H3 => if b = true then tk σ2 H3 fun y H4 => tv σ2 H4 fun z H5 => ∃ kvs k, y = kV k ∧ H5 D = some (.dK kvs) ∧ kvs.length < sizeLine ∧ (m - 1 + (i + 1) = ds.length ∧ ∃ acc xs S2, wDcL wg wk wv (wipeD ρ vs) post (ds.drop (i + 1)) acc S2.n ∧ Ok T S2 (upd H5 D (.dK (putK kvs k z))) ∧ Ext S H S2 (upd H5 D (.dK (putK kvs k z))) ∧ (upd H5 D (.dK (putK kvs k z))) D = some (.dK xs) ∧ S2 D = some .own ∧ RepK T S2 (upd H5 D (.dK (putK kvs k z))) xs acc)
        else (m - 1 + (i + 1) = ds.length ∧ ∃ acc xs S2, wDcL wg wk wv (wipeD ρ vs) post (ds.drop (i + 1)) acc S2.n ∧ Ok T S2 H3 ∧ Ext S H S2 H3 ∧ H3 D = some (.dK xs) ∧ S2 D = some .own ∧ RepK T S2 H3 xs acc) := by
      refine hg x _ _ _ S2 H2 H0 _ _ ok2 er2 rv (fun ρ3 σ3 h3 er3 => ?_) hl
      unfold tYes
      simp only [↓reduceIte]
      refine hk ρ3 σ3 S2 H2 H0 _ ep0 _ ok2 er3 ex0 (fun y S3 H3 vy p3 ok3 x3 r3 => ?_) h3
      refine he ρ3 σ3 S3 H3 H0 _ ep0 _ ok3 (er3.ext ok2 x3) ex0 (fun z S4 H4 vz p4 ok4 x4 r4 => ?_) p3
      obtain ⟨k, ek, hlen, p5⟩ := p4
      obtain ⟨k3, k4⟩ := keepD ((x2.trans x3).trans x4)
      have ey := r3.key ek
      obtain ⟨o5, x5⟩ := own_updD (ls := putK xs k vz) ok4 k4 k3
      refine ⟨xs, k, ey, k3, by rw [rx.length]; exact hlen, by omega, putKD acc k z, putK xs k vz, S4, p5, o5, own_updD_ext (((x'.trans x2).trans x3).trans x4) hD, upd_same, k4, ?_⟩
      exact ((rx.ext ok' ((x2.trans x3).trans x4).to0).put r4).ext ok4 x5
    have z := hv _ _ _ _ key
    rw [wipe_wipe] at z
    exact z
  · have ei : i = ds.length := by omega
    refine .inl ⟨ei ▸ hstop, ?_⟩
    rw [List.drop_eq_nil_of_le (by omega)] at hl
    exact q acc S' H' xs hl ok' x' hH hS rx
def wLcKeys (i : Nat) (g : WG) (tt : WT) (te : WE) (vs : List Nat) : WF := fun ρ post ep n => ∃ ds, ρ[i]? = some (.val (.dic ds)) ∧ wLc g tt te (wipeD ρ vs) post (ds.map fun p => keyD p.1) [] n
def wDcItems (i : Nat) (g : WG) (tk tv : WE) (vs : List Nat) : WE := fun ρ post ep n => ∃ ds, ρ[i]? = some (.val (.dic ds)) ∧ wDcL g tk tv (wipeD ρ vs) (fun kvs => post (.dic kvs)) (ds.map pairD) [] n
theorem im_lcKeys {i : Nat} {g : TG} {wg : WG} {tt : TT} {wt : WT} {te : TE} {we : WE} {vs : List Nat} (hg : ImpG T g wg) (hv : GV vs g) (ht : ImpT T W0 tt wt) (he : ImpE T W0 te we) :
    ImpF T W (fun σ H Q => tLockE (tLc (iKeys (tVar i)) g tt te vs) σ H Q ∨ tLc (iKeys (tVar i)) g tt te vs σ H Q) (wLcKeys i wg wt we vs) := fun ρ σ S H H0 post ep Q ok er ex q hw => by
  obtain ⟨ds, e, hw⟩ := hw
  obtain ⟨v, e1, r⟩ := er.val i _ e
  cases r with
  | @dic a kvs _ h1 h2 h3 =>
    rcases h1 with h1 | ⟨o, h1⟩
    · refine .inl ⟨a, .dK kvs, h1, True.intro, fun od => ?_⟩
      have L := lkd_of ok (.inl h1) h2 h3 od
      refine ⟨.ref a, e1, a, od, rfl, .inl ⟨kvs, L.at_, fun D hD => ?_⟩⟩
      refine lc_core (Qf := fun D H' => H' a = some (.frz od (.dK kvs)) ∧ Q (.ref D) (upd H' a (.dK kvs))) hg hv ht he L.ok (er.lk L.lk) (itd_keys L.ok L.at_ L.r) hw hD fun acc S' H' xs p ok' x' k1 k2 rx => ?_
      obtain ⟨b1, b2, b3, b4⟩ := L.back h1 rfl ok' x'
      have nD : D ≠ a := fun z => by rw [z, upd_same] at hD; cases hD
      refine ⟨b1, q acc S' _ xs D p b3 b4 (by rw [upd_ne nD] at hD; exact hD) (by rw [upd_ne nD]; exact k1) k2 (rx.lk b2)⟩
    · refine .inr ⟨.ref a, e1, a, o, rfl, .inl ⟨kvs, h1, fun D hD => ?_⟩⟩
      exact lc_core (Qf := fun D H' => Q (.ref D) H') hg hv ht he ok er (itd_keys ok h1 h3) hw hD fun acc S' H' xs p ok' x' k1 k2 rx => q acc S' H' xs D p ok' x' hD k1 k2 rx
theorem im_dcItems {i : Nat} {g : TG} {wg : WG} {tk tv : TE} {wk wv : WE} {vs : List Nat} (hg : ImpG T g wg) (hv : GV vs g) (hk : ImpE T W0 tk wk) (he : ImpE T W0 tv wv) :
    ImpE T W (fun σ H Q => tLockE (tDc (iItems (tVar i)) g tYes tk tv vs) σ H Q ∨ tDc (iItems (tVar i)) g tYes tk tv vs σ H Q) (wDcItems i wg wk wv vs) := fun ρ σ S H H0 post ep Q ok er ex q hw => by
  obtain ⟨ds, e, hw⟩ := hw
  obtain ⟨v, e1, r⟩ := er.val i _ e
  cases r with
  | @dic a kvs _ h1 h2 h3 =>
    rcases h1 with h1 | ⟨o, h1⟩
    · refine .inl ⟨a, .dK kvs, h1, True.intro, fun od => ?_⟩
      have L := lkd_of ok (.inl h1) h2 h3 od
      refine ⟨.ref a, e1, a, od, kvs, rfl, L.at_, fun D hD => ?_⟩
      refine dc_loop (Qf := fun D H' => H' a = some (.frz od (.dK kvs)) ∧ Q (.ref D) (upd H' a (.dK kvs))) hg hv hk he L.ok (er.lk L.lk) (itd_items L.ok L.at_ L.r) hw hD fun acc S' H' xs p ok' x' k1 k2 rx => ?_
      obtain ⟨b1, b2, b3, b4⟩ := L.back h1 rfl ok' x'
      have nD : D ≠ a := fun z => by rw [z, upd_same] at hD; cases hD
      exact ⟨b1, QW.ofD ok q (by rw [upd_ne nD] at hD; exact hD) b3 b4 (by rw [upd_ne nD]; exact k1) k2 (rx.lk b2) p⟩
    · refine .inr ⟨.ref a, e1, a, o, kvs, rfl, h1, fun D hD => ?_⟩
      exact dc_loop (Qf := fun D H' => Q (.ref D) H') hg hv hk he ok er (itd_items ok h1 h3) hw hD fun acc S' H' xs p ok' x' k1 k2 rx => QW.ofD ok q hD ok' x' k1 k2 rx p
theorem df_lcKeys {i : Nat} {x : Str} {px : Pos} {elt tg : Expr} {ifs : List Expr} {scope : Scope} {own : List (Str × Nat)} {pos : Pos} {g : TG} {wg : WG} {tt : TT} {wt : WT} {te : TE} {we : WE} (hc : X.calm = true) (hN : X.N.Nodup) (hx : PE X (.Name x px) (tVar i)) (ok : BlkOk X.N X.env.scope scope own)
    (hg : ∀ (s : Shared) (H : Hp) (C : Addr) (cl : List (Str × Addr)) (fp : List Addr), PG (X.blk s H scope (compEnvC scope cl C X.env) fp) tg g) (ht : ∀ (s : Shared) (H : Hp) (C : Addr) (cl : List (Str × Addr)) (fp : List Addr), PTs (X.blk s H scope (compEnvC scope cl C X.env) fp) ifs tt)
    (he : ∀ (s : Shared) (H : Hp) (C : Addr) (cl : List (Str × Addr)) (fp : List Addr), DE T (X.blk s H scope (compEnvC scope cl C X.env) fp) W0 elt te we) (ig : ImpG T g wg) (hv : GV (own.map (·.2)) g) (it : ImpT T W0 tt wt) (ie : ImpE T W0 te we) (hs : ∀ y, foldedSetIterable (.Name x px) X.env y = pure y := by intro _; rfl) :
    DF T X W (.ListComp elt [⟨tg, .Name x px, ifs, 0⟩] scope pos) (fun σ H Q => tLockE (tLc (iKeys (tVar i)) g tt te (own.map (·.2))) σ H Q ∨ tLc (iKeys (tVar i)) g tt te (own.map (·.2)) σ H Q) (wLcKeys i wg wt we (own.map (·.2))) := by
  have h := pe_lc (pos := pos) hc hN (pi_keys (tg := tg) hx) ok hg ht (fun s H C cl fp => (he s H C cl fp).pe) hs
  exact ⟨pe_alt (pe_lock h) h, im_lcKeys ig hv it ie⟩
theorem de_dcItems {i : Nat} {x : Str} {px apos cpos : Pos} {kx vx : Expr} {elts : List Expr} {kk : Nat} {tpos : Pos} {scope : Scope} {own : List (Str × Nat)} {pos : Pos} {g : TG} {wg : WG} {tk tv : TE} {wk wv : WE} (hc : X.calm = true) (hN : X.N.Nodup) (hx : PE X (.Name x px) (tVar i)) (ok : BlkOk X.N X.env.scope scope own)
    (hg : ∀ (s : Shared) (H : Hp) (C : Addr) (cl : List (Str × Addr)) (fp : List Addr), PG (X.blk s H scope (compEnvC scope cl C X.env) fp) (.Tuple elts kk tpos) g)
    (hk : ∀ (s : Shared) (H : Hp) (C : Addr) (cl : List (Str × Addr)) (fp : List Addr), DE T (X.blk s H scope (compEnvC scope cl C X.env) fp) W0 kx tk wk) (he : ∀ (s : Shared) (H : Hp) (C : Addr) (cl : List (Str × Addr)) (fp : List Addr), DE T (X.blk s H scope (compEnvC scope cl C X.env) fp) W0 vx tv wv) (ig : ImpG T g wg) (hv : GV (own.map (·.2)) g) (ik : ImpE T W0 tk wk) (ie : ImpE T W0 tv wv)
    (hbase : attributeBase (.Name x px) "items" X.env (eval (.Name x px) X.env) = eval (.Name x px) X.env := by rfl) (hline : (apos.endLine == cpos.line) = true := by rfl) (hs : ∀ y, foldedSetIterable (.Call (.Attribute (.Name x px) "items" apos) [] [] cpos) X.env y = pure y := by intro _; rfl) :
    DE T X W (.DictComp kx vx [⟨.Tuple elts kk tpos, .Call (.Attribute (.Name x px) "items" apos) [] [] cpos, [], 0⟩] scope pos) (fun σ H Q => tLockE (tDc (iItems (tVar i)) g tYes tk tv (own.map (·.2))) σ H Q ∨ tDc (iItems (tVar i)) g tYes tk tv (own.map (·.2)) σ H Q) (wDcItems i wg wk wv (own.map (·.2))) := by
  have h := pe_dc (pos := pos) hc hN (pi_items (elts := elts) (kk := kk) (tpos := tpos) hx hbase hline) ok hg (fun _ _ _ _ _ => pts_nil) (fun s H C cl fp => (hk s H C cl fp).pe) (fun s H C cl fp => (he s H C cl fp).pe) hs
  exact ⟨pe_alt (pe_lock h) h, im_dcItems ig hv ik ie⟩
end
end PyD

/-! PyD: repr, ==, != of data with dicts. -/
namespace PyD
open PySem PySem.Spec PyProof.Rows L2
def keyP : Key → PyData
  | .inl i => .int i
  | .inr x => .str x
mutual
def toPyK : D → Option PyData
  | .non => some .none
  | .bl b => some (.bool b)
  | .int i => some (.int i)
  | .str x => some (.str x)
  | .tup l => (toPyKL l).map .tuple
  | .lst l => (toPyKL l).map .list
  | .dic l => (toPyKD l).map .dict
  | _ => none
def toPyKL : List D → Option (List PyData)
  | [] => some []
  | d :: ds => match toPyK d, toPyKL ds with
    | some x, some xs => some (x :: xs)
    | _, _ => none
def toPyKD : List (Key × D) → Option (List (PyData × PyData))
  | [] => some []
  | (k, d) :: ds => match toPyK d, toPyKD ds with
    | some x, some xs => some ((keyP k, x) :: xs)
    | _, _ => none
end
/-- the modules' dict stands where it stands -/
def SysT (K : PySem.W.Frag) : Prop := ∃ o : Obj, K.lookup sysModules = some o ∧ o.cls = .type "dict"
theorem SysT.lst {X : Cx} {pins : List (Addr × Obj)} {σ : L2.St} {H : Hp} {s : Shared} {a : Addr} {o : Obj} (Y : SysT X.K) (I : Inv X pins σ H s) (h : s.heap.get? a = some o) (hc : o.cls = .type "list") : a ≠ sysModules := fun z => by
  obtain ⟨u, h1, h2⟩ := Y
  have h3 := I.kIn _ _ h1
  rw [← z, h] at h3
  cases h3
  rw [hc] at h2
  exact absurd (Value.type.inj h2) (by decide)
section
variable {T : Tb} {X : Cx} {pins : List (Addr × Obj)} {σ : L2.St} {S : VS} {H : Hp} {s : Shared}
theorem RepK.keys : ∀ {kvs : List (Key × V)} {ds : List (Key × D)}, RepK T S H kvs ds → kvs.map (·.1) = ds.map (·.1)
  | _, _, .nil => rfl
  | _, _, .cons _ t => by rw [List.map_cons, List.map_cons, RepK.keys t]
theorem KV.vals : ∀ {kvs : List (Key × V)} {vs : List (Key × Value)}, KV kvs vs → Vals (kvs.map (·.2)) (vs.map (·.2))
  | [], _, h => by cases h; exact .nil
  | _ :: _, _, h => by
    cases h with
    | cons h t => exact .cons h.2 (KV.vals t)
theorem pairs_vals {P : Program} {w : World} {K : Type} [DecidableEq K] {knd : KeyKind P w K} : ∀ {es : List DictEntry} {kvs : List (K × Value)}, Pairs knd es kvs → es.map (·.val) = kvs.map (·.2)
  | _, _, .nil => rfl
  | _, _, .cons _ h t => by rw [List.map_cons, List.map_cons, h, pairs_vals t]
theorem key_reads {k : Key} {u : Value} (h : keyIs k u = true) : Reads s.heap u (keyP k) [] := by
  have r := relV_key h
  cases k with
  | inl i => obtain ⟨t, rfl⟩ := r; exact .int i t
  | inr x => obtain ⟨t, rfl⟩ := r; exact .str x t
theorem pairs_keys {P : Program} {w : World} : ∀ {es : List DictEntry} {vs : List (Key × Value)}, Pairs (mixKind P w) es vs → ReadsAll s.heap (es.map (·.key)) (vs.map fun p => keyP p.1) []
  | _, _, .nil => .nil
  | _, _, .cons h _ t => by
    have := ReadsAll.cons (key_reads (s := s) h) (pairs_keys t)
    simpa using this
theorem toPyKD_keys : ∀ {ds : List (Key × D)} {ps : List (PyData × PyData)}, toPyKD ds = some ps → ps.map (·.1) = ds.map fun p => keyP p.1
  | [], _, e => by cases e; rfl
  | (k, d) :: ds, ps, e => by
    unfold toPyKD at e
    cases q1 : toPyK d with
    | none => rw [q1] at e; cases e
    | some x =>
      cases q2 : toPyKD ds with
      | none => rw [q1, q2] at e; cases e
      | some xs => rw [q1, q2] at e; cases e; rw [List.map_cons, List.map_cons, toPyKD_keys q2]
mutual
theorem Rep.reads (hK : X.K = T.K) (Y : SysT X.K) (I : Inv X pins σ H s) : ∀ {v : V} {d : D} {p : PyData} {u : Value}, Rep T S H v d → toPyK d = some p → RelV v u → ∃ as, Reads s.heap u p as ∧ sysModules ∉ as
  | _, _, _, _, .non, e, r => by cases e; cases r; exact ⟨_, .none, by simp⟩
  | _, _, _, _, .bl b, e, r => by cases e; cases r; exact ⟨_, .bool b, by simp⟩
  | _, _, _, _, .int i, e, r => by cases e; obtain ⟨t, rfl⟩ := r; exact ⟨_, .int i t, by simp⟩
  | _, _, _, _, .str x, e, r => by cases e; obtain ⟨t, rfl⟩ := r; exact ⟨_, .str x t, by simp⟩
  | _, _, p, _, .tup (ds := ds) h t, e, r => by
    have e' : (toPyKL ds).map PyData.tuple = some p := e
    cases q : toPyKL ds with
    | none => rw [q] at e'; cases e'
    | some l =>
      rw [q] at e'; cases e'
      cases r
      rw [← hK] at h
      obtain ⟨its, rv, ⟨o, ho, hc, n, hd⟩, _⟩ := I.tuple h
      obtain ⟨as, h1, h2⟩ := RepL.reads hK Y I t q rv
      exact ⟨_, .tuple ho hc hd h1, h2⟩
  | _, _, p, _, .lst (ds := ds) h _ t, e, r => by
    have e' : (toPyKL ds).map PyData.list = some p := e
    cases q : toPyKL ds with
    | none => rw [q] at e'; cases e'
    | some l =>
      rw [q] at e'; cases e'
      cases r
      obtain ⟨its, rv, ⟨o, n, ho, hc, _, hd⟩, _⟩ := I.list (SqL.of (K := X.K) h)
      obtain ⟨as, h1, h2⟩ := RepL.reads hK Y I t q rv
      refine ⟨_, .list ho hc hd h1, fun z => ?_⟩
      rcases List.mem_cons.mp z with z | z
      · exact Y.lst I ho hc z.symm
      · exact h2 z
  | _, _, p, _, .dic (ds := ds) h _ t, e, r => by
    have e' : (toPyKD ds).map PyData.dict = some p := e
    cases q : toPyKD ds with
    | none => rw [q] at e'; cases e'
    | some l =>
      rw [q] at e'; cases e'
      cases r
      obtain ⟨_, hs, vs, kv, o, es, ep, ho, hx, hd, hk, hp, _⟩ := dk_rd I.hok h
      obtain ⟨bs, h1, h2⟩ := RepK.reads hK Y I t q kv
      have hkeys := pairs_keys (s := s) hp
      have e1 : (vs.map fun p => keyP p.1) = l.map (·.1) := by
        rw [toPyKD_keys q]
        have k1 := kv.keys
        have k2 : ds.map (·.1) = vs.map (·.1) := by rw [← k1]; exact (RepK.keys t).symm
        have k3 := congrArg (List.map keyP) k2
        simpa [List.map_map, Function.comp_def] using k3.symm
      rw [e1] at hkeys
      refine ⟨_, .dict ho hx.1 hd hkeys (by rw [pairs_vals hp]; exact h1), fun z => ?_⟩
      rcases List.mem_append.mp z with z | z
      · rcases List.mem_cons.mp z with z | z
        · rw [← z] at hs; cases hs
        · cases z
      · exact h2 z
  | _, _, _, _, .ins _ _ _, e, _ => by cases e
  | _, _, _, _, .exc _ _ _, e, _ => by cases e
  | _, _, _, _, .cls _, e, _ => by cases e
  | _, _, _, _, .ty _, e, _ => by cases e
  | _, _, _, _, .vol _, e, _ => by cases e
  | _, _, _, _, .opq _ _ _, e, _ => by cases e
  | _, _, _, _, .scr _, e, _ => by cases e
theorem RepL.reads (hK : X.K = T.K) (Y : SysT X.K) (I : Inv X pins σ H s) : ∀ {vs : List V} {ds : List D} {ps : List PyData} {us : List Value}, RepL T S H vs ds → toPyKL ds = some ps → Vals vs us → ∃ as, ReadsAll s.heap us ps as ∧ sysModules ∉ as
  | _, _, _, _, .nil, e, r => by cases e; cases r; exact ⟨_, .nil, by simp⟩
  | _, _, p, _, .cons (d := d) (ds := ds) h t, e, r => by
    have e' : (match toPyK d, toPyKL ds with | some x, some xs => some (x :: xs) | _, _ => none) = some p := e
    cases q1 : toPyK d with
    | none => rw [q1] at e'; cases e'
    | some x =>
      cases q2 : toPyKL ds with
      | none => rw [q1, q2] at e'; cases e'
      | some xs =>
        rw [q1, q2] at e'; cases e'
        cases r with
        | cons r1 r2 =>
          obtain ⟨as, h1, h2⟩ := Rep.reads hK Y I h q1 r1
          obtain ⟨bs, h3, h4⟩ := RepL.reads hK Y I t q2 r2
          exact ⟨_, .cons h1 h3, fun z => (List.mem_append.mp z).elim h2 h4⟩
theorem RepK.reads (hK : X.K = T.K) (Y : SysT X.K) (I : Inv X pins σ H s) : ∀ {kvs : List (Key × V)} {ds : List (Key × D)} {ps : List (PyData × PyData)} {vs : List (Key × Value)}, RepK T S H kvs ds → toPyKD ds = some ps → KV kvs vs → ∃ as, ReadsAll s.heap (vs.map (·.2)) (ps.map (·.2)) as ∧ sysModules ∉ as
  | _, _, _, _, .nil, e, r => by cases e; cases r; exact ⟨_, .nil, by simp⟩
  | _, _, p, _, .cons (k := k) (d := d) (ds := ds) h t, e, r => by
    have e' : (match toPyK d, toPyKD ds with | some x, some xs => some ((keyP k, x) :: xs) | _, _ => none) = some p := e
    cases q1 : toPyK d with
    | none => rw [q1] at e'; cases e'
    | some x =>
      cases q2 : toPyKD ds with
      | none => rw [q1, q2] at e'; cases e'
      | some xs =>
        rw [q1, q2] at e'; cases e'
        cases r with
        | cons r1 r2 =>
          obtain ⟨as, h1, h2⟩ := Rep.reads hK Y I h q1 r1.2
          obtain ⟨bs, h3, h4⟩ := RepK.reads hK Y I t q2 r2
          exact ⟨_, .cons h1 h3, fun z => (List.mem_append.mp z).elim h2 h4⟩
end
end

/-! ### repr -/
def rReprT (T : Tb) : List V → Hp → VK → Prop := fun xs H Q => ∃ (S : VS) (x : V) (d : D) (p : PyData), xs = [x] ∧ Rep T S H x d ∧ toPyK d = some p ∧ p.showable = true ∧ p.shown.length ≤ sizeLine ∧ p.depth ≤ 60 ∧ Q (.str p.shown) H
def reprKD : FA := fun ds p => match ds with
  | [x] => ∃ y, toPyK x = some y ∧ y.showable = true ∧ y.shown.length ≤ sizeLine ∧ y.depth ≤ 60 ∧ p (.str y.shown)
  | _ => False
section
variable {T : Tb} {X : Cx} {k : Nat}
theorem call_reprT (hK : X.K = T.K) (Y : SysT X.K) (hg : X.A.guards = some []) (hr : Room k X.A) : CallR X (.builtin "repr") (rReprT T) := by
  intro pins s σ H xs us Q I r h
  obtain ⟨S, x, d, p, rfl, hp, hd, hs, hz, hdp, q⟩ := h
  obtain ⟨u, rfl, rx⟩ := vals1 r
  have ref : ∀ {a : Addr}, u = .ref a → wpAny (model X.prog X.w) X.A (call (.builtin "repr") [u]) (L2.EP X pins σ Q) X.xe s := fun {a} e => by
    subst e
    obtain ⟨as, rd, hm⟩ := Rep.reads hK Y I hp hd rx
    exact repr_of_reads' rd hs (fun _ => hm) hg (by have := hr.un; omega) (fun _ _ e => e) (fun h' u tk hk => ⟨.str _, H, I.kept hk, ⟨u, rfl⟩, q⟩) hz
  cases hp with
  | non => cases rx; cases hd; exact PySem.P.repr_of_none ⟨.str _, H, I.tok _, ⟨_, rfl⟩, q⟩
  | bl b => cases rx; cases hd; exact PySem.P.repr_of_bool ⟨.str _, H, I.tok _, ⟨_, rfl⟩, by cases b <;> exact q⟩
  | int i => obtain ⟨t, rfl⟩ := rx; cases hd; exact PySem.P.repr_of_int (of_decide_eq_true hs) ⟨.str _, H, I.tok _, ⟨_, rfl⟩, q⟩
  | str y => obtain ⟨t, rfl⟩ := rx; cases hd; exact PySem.P.repr_of_str ⟨.str _, H, I.tok _, ⟨_, rfl⟩, q⟩ hz
  | lst h1 h2 h3 => exact ref rx
  | tup h1 h2 => exact ref rx
  | dic h1 h2 h3 => exact ref rx
  | _ => cases hd
theorem d_reprT : OpA T (rReprT T) reprKD := fun S H vs ds post Q ok rv q hw => by
  unfold reprKD at hw
  split at hw
  · obtain ⟨x, rfl, r1⟩ := rv.one
    obtain ⟨y, h1, h2, h3, h4, h5⟩ := hw
    exact ⟨S, x, _, y, rfl, r1, h1, h2, h3, h4, q _ S H _ h5 ok .refl (.str _)⟩
  · exact hw.elim
end

/-! ### == -/
def allZ (f : D → D → Bool) : List D → List D → Bool
  | x :: xs, y :: ys => f x y && allZ f xs ys
  | _, _ => true
def leafEq (x y : D) : Bool := match toPy x, toPy y with
  | some a, some b => a.plain && (b.plain && (decide (a.depth ≤ 60) && PyData.eqv a b))
  | _, _ => false
def dEqS (f : D → D → Bool) (x y : D) : Bool := match x, y with
  | .tup xs, .tup ys => xs.length == ys.length && allZ f xs ys
  | .dic ks, .dic ls => ks.length == ls.length && ks.all fun p => match valKD ls p.1 with
    | some y => f p.2 y
    | none => false
  | x, y => leafEq x y
/-- equal data, dicts and tuples n deep -/
def dEqT : Nat → D → D → Bool
  | 0 => fun _ _ => false
  | n + 1 => dEqS (dEqT n)
theorem allZ_at {f : D → D → Bool} : ∀ {xs ys : List D} {j : Nat} {x y : D}, allZ f xs ys = true → xs[j]? = some x → ys[j]? = some y → f x y = true
  | [], _, _, _, _, _, e, _ => by simp at e
  | _ :: _, [], _, _, _, _, _, e => by simp at e
  | a :: xs, b :: ys, 0, x, y, h, e1, e2 => by
    have h' : (f a b && allZ f xs ys) = true := h
    cases e1
    cases e2
    exact (Bool.and_eq_true_iff.mp h').1
  | a :: xs, b :: ys, j + 1, x, y, h, e1, e2 => by
    have h' : (f a b && allZ f xs ys) = true := h
    exact allZ_at (xs := xs) (ys := ys) (j := j) (Bool.and_eq_true_iff.mp h').2 (by simpa using e1) (by simpa using e2)
section
variable {T : Tb} {X : Cx} {pins : List (Addr × Obj)} {σ : L2.St} {S : VS} {H : Hp} {s : Shared}
theorem vals_at : ∀ {vs : List V} {us : List Value} {j : Nat} {u : Value}, Vals vs us → us[j]? = some u → ∃ v, vs[j]? = some v ∧ RelV v u
  | _, _, _, _, .nil, e => by simp at e
  | _, _, 0, _, .cons r _, e => by simp at e; subst e; exact ⟨_, rfl, r⟩
  | _, _, j + 1, u, .cons _ t, e => by
    obtain ⟨v, h1, h2⟩ := vals_at (j := j) (u := u) t (by simpa using e)
    exact ⟨v, by simpa using h1, h2⟩
theorem kv_mem {k : Key} {u : Value} : ∀ {kvs : List (Key × V)} {vs : List (Key × Value)}, KV kvs vs → (k, u) ∈ vs → ∃ v, (k, v) ∈ kvs ∧ RelV v u
  | [], _, h, e => by cases h; cases e
  | p :: kvs, _, h, e => by
    cases h with
    | @cons _ q _ qs h t =>
      rcases List.mem_cons.mp e with z | z
      · refine ⟨p.2, ?_, ?_⟩
        · have e1 := h.1
          rw [← z] at e1
          have e1' : p.1 = k := e1
          rw [← e1']
          exact List.mem_cons_self
        · have e2 := h.2
          rw [← z] at e2
          exact e2
      · obtain ⟨v, h1, h2⟩ := kv_mem t z
        exact ⟨v, List.mem_cons_of_mem _ h1, h2⟩
theorem repK_mem {k : Key} {v : V} : ∀ {kvs : List (Key × V)} {ds : List (Key × D)}, RepK T S H kvs ds → (k, v) ∈ kvs → ∃ d, (k, d) ∈ ds ∧ Rep T S H v d
  | _, _, .nil, e => by cases e
  | _, _, .cons r t, e => by
    rcases List.mem_cons.mp e with z | z
    · cases z; exact ⟨_, List.mem_cons_self, r⟩
    · obtain ⟨d, h1, h2⟩ := repK_mem t z
      exact ⟨d, List.mem_cons_of_mem _ h1, h2⟩
theorem leaf_ok (hK : X.K = T.K) (I : Inv X pins σ H s) {n : Nat} {x y : D} {v w : V} {u u' : Value} (h : leafEq x y = true) (r1 : Rep T S H v x) (r2 : Rep T S H w y) (q1 : RelV v u) (q2 : RelV w u') : PySem.W.EqTree X.prog X.w s (60 + n) u u' true := by
  unfold leafEq at h
  cases e1 : toPy x with
  | none => rw [e1] at h; cases h
  | some a =>
    cases e2 : toPy y with
    | none => rw [e1, e2] at h; cases h
    | some b =>
      rw [e1, e2] at h
      obtain ⟨h1, h⟩ := Bool.and_eq_true_iff.mp h
      obtain ⟨h2, h⟩ := Bool.and_eq_true_iff.mp h
      obtain ⟨h3, h4⟩ := Bool.and_eq_true_iff.mp h
      have p1 := r1.py e1
      have p2 := r2.py e2
      rw [← hK] at p1 p2
      obtain ⟨as, d1⟩ := Dp.reads I _ _ _ p1 q1
      obtain ⟨bs, d2⟩ := Dp.reads I _ _ _ p2 q2
      have hd := of_decide_eq_true h3
      have z := PySem.W.EqTree.leaf (prog := X.prog) (w := X.w) (s := s) (n := 60 + n) (v := u) (y := u') (b := PyData.eqv a b) fun A hu => PySem.SeqAt.eqAt_plain a b A s u u' as bs d1 d2 h1 h2 (by have := Nat.min_le_left a.depth b.depth; omega)
      rw [h4] at z
      exact z
theorem dEqS_ok (hK : X.K = T.K) (I : Inv X pins σ H s) {n : Nat} {f : D → D → Bool} (ih : ∀ {x y : D} {v w : V} {u u' : Value}, f x y = true → Rep T S H v x → Rep T S H w y → RelV v u → RelV w u' → PySem.W.EqTree X.prog X.w s (60 + n) u u' true) {x y : D} {v w : V} {u u' : Value} (h : dEqS f x y = true) (r1 : Rep T S H v x) (r2 : Rep T S H w y) (q1 : RelV v u) (q2 : RelV w u') : PySem.W.EqTree X.prog X.w s (60 + (n + 1)) u u' true := by
  unfold dEqS at h
  split at h
  · rename_i xs ys
    obtain ⟨hl, ha⟩ := Bool.and_eq_true_iff.mp h
    cases r1 with
    | @tup a xs1 _ h1 t1 =>
    cases r2 with
    | @tup b xs2 _ h2 t2 =>
    cases q1
    cases q2
    rw [← hK] at h1 h2
    obtain ⟨us, v1, i1, _⟩ := I.tuple h1
    obtain ⟨ws, v2, i2, _⟩ := I.tuple h2
    by_cases e : a = b
    · subst e; exact .same
    · have sz : us.toArray.size = ws.toArray.size := by
        rw [List.size_toArray, List.size_toArray, ← v1.length, ← v2.length, t1.length, t2.length]; exact eq_of_beq hl
      have z := PySem.W.EqTree.tuples (prog := X.prog) (w := X.w) (n := 60 + n) (e := fun _ => true) e i1 i2 fun j j1 j2 => by
        have j1' : j < us.length := by simpa using j1
        have j2' : j < ws.length := by simpa using j2
        obtain ⟨x1, e1, r1⟩ := vals_at v1 (List.getElem?_eq_getElem j1')
        obtain ⟨x2, e2, r2⟩ := vals_at v2 (List.getElem?_eq_getElem j2')
        obtain ⟨d1, f1, g1⟩ := t1.get e1
        obtain ⟨d2, f2, g2⟩ := t2.get e2
        have k := ih (allZ_at ha f1 f2) g1 g2 r1 r2
        simpa using k
      rw [sz] at z
      rw [show ((List.range (min ws.toArray.size ws.toArray.size)).all (fun _ => true) && ws.toArray.size == ws.toArray.size) = true by simp] at z
      exact z
  · rename_i ks ls
    obtain ⟨hl, ha⟩ := Bool.and_eq_true_iff.mp h
    cases r1 with
    | @dic a kvs1 _ h1 hn1 t1 =>
    cases r2 with
    | @dic b kvs2 _ h2 hn2 t2 =>
    cases q1
    cases q2
    obtain ⟨_, s1, va, c1, da⟩ := dk_rd I.hok h1
    obtain ⟨_, s2, vb, c2, db⟩ := dk_rd I.hok h2
    have here : ∀ {k : Key} {v : Value}, (k, v) ∈ va → ∃ d1 d2 v1 v2, valV kvs2 k = some v2 ∧ f d1 d2 = true ∧ Rep T S H v1 d1 ∧ Rep T S H v2 d2 ∧ RelV v1 v := fun {k v} hm => by
      obtain ⟨v1, m1, r1⟩ := kv_mem c1 hm
      obtain ⟨d1, m2, g1⟩ := repK_mem t1 m1
      have hk := List.all_eq_true.mp ha _ m2
      have hk' : (match valKD ls k with | some y => f d1 y | none => false) = true := hk
      cases e2 : valKD ls k with
      | none => rw [e2] at hk'; cases hk'
      | some d2 =>
        rw [e2] at hk'
        obtain ⟨v2, f2, g2⟩ := t2.val e2
        exact ⟨d1, d2, v1, v2, f2, hk', g1, g2, r1⟩
    by_cases e : a = b
    · subst e; exact .same
    · have z := PySem.W.EqTree.dicts (prog := X.prog) (w := X.w) (n := 60 + n) (e := fun _ => true) e s1 s2 da db fun k v y hm hv => by
        obtain ⟨d1, d2, v1, v2, f2, hk, g1, g2, r1⟩ := here hm
        have rr : RelO (some v2) (valueAt vb k) := by rw [← f2]; exact c2.val k
        rw [hv] at rr
        exact ih hk g1 g2 r1 rr
      have el : va.length = vb.length := by
        rw [← c1.length, ← c2.length, t1.length, t2.length]; exact eq_of_beq hl
      have all : (va.all fun p => (valueAt vb p.1).isSome && true) = true := by
        refine List.all_eq_true.mpr fun p hp => ?_
        obtain ⟨d1, d2, v1, v2, f2, hk, g1, g2, r1⟩ := here (k := p.1) (v := p.2) hp
        have rr : RelO (some v2) (valueAt vb p.1) := by rw [← f2]; exact c2.val p.1
        obtain ⟨y, hy, _⟩ := rr.some_of
        rw [hy]; rfl
      rw [all, el, Bool.and_true, beq_self_eq_true] at z
      exact z
  · exact leaf_ok hK I h r1 r2 q1 q2
theorem dEqT_ok (hK : X.K = T.K) (I : Inv X pins σ H s) : ∀ (n : Nat) {x y : D} {v w : V} {u u' : Value}, dEqT n x y = true → Rep T S H v x → Rep T S H w y → RelV v u → RelV w u' → PySem.W.EqTree X.prog X.w s (60 + n) u u' true
  | 0, _, _, _, _, _, _, h, _, _, _, _ => by cases h
  | n + 1, _, _, _, _, _, _, h, r1, r2, q1, q2 => dEqS_ok hK I (dEqT_ok hK I n) h r1 r2 q1 q2
end

/-! ### != of two tuples, the items' == told within one model -/
namespace TN
open PySem.SeqAt
open AutoSeq1 (wpAny_loadPart')
open MeetsSeq MeetsSeq2 MeetsSeq3 SeqRoads2
theorem tupNe {P : Program} {w : World} (l r : Addr) (av bv : Array Value) (n1 n2 : Nat) (d1 d2 : Option Addr) (o1 o2 : Array (Option Value)) (e : Nat → Bool) :
    MeetsIn P w (Builtin.«tuple.__ne__» ⟨[.ref l, .ref r], []⟩)
      (fun A R s => s.heap.get? l = some { cls := .type "tuple", dict := d1, data := .seq av n1, slots := o1 } ∧ s.heap.get? r = some { cls := .type "tuple", dict := d2, data := .seq bv n2, slots := o2 } ∧
        (∀ j (h1 : j < av.size) (h2 : j < bv.size), EqIn P w A.in1 s av[j] bv[j] (e j)) ∧
        R (.ok (.ret (.bool (!((List.range (min av.size bv.size)).all e && av.size == bv.size))))) s) :=
  .of_wp fun A R s h => by
    obtain ⟨hp, g, d, tk, os⟩ := s; obtain ⟨hl, hb, he, h⟩ := h
    have sb := AutoSeq1.sub_tuple_tuple
    have len : (av.toList.zip bv.toList).length = min av.size bv.size := by simp
    wp_walk using wpAny_loadPart' hl, wpAny_loadPart' hb, wpAny_forIn_list _ (fun tl z s1 => z.1 = none ∧ s1 = ⟨hp, g, d, tk, os⟩ ∧ ∃ i, tl = (av.toList.zip bv.toList).drop i ∧
      R (.ok (.ret (.bool (!(((List.range (min av.size bv.size)).drop i).all e && av.size == bv.size))))) ⟨hp, g, d, tk, os⟩) _
    case turn =>
      rintro ⟨y, x⟩ tl z s1 ⟨hz', rfl, i, hz, hR⟩
      have lt : i < (av.toList.zip bv.toList).length := by
        rcases Nat.lt_or_ge i (av.toList.zip bv.toList).length with q | q
        · exact q
        · rw [List.drop_of_length_le q] at hz; cases hz
      have lm : i < min av.size bv.size := len ▸ lt
      have l1 : i < av.size := Nat.lt_of_lt_of_le lm (Nat.min_le_left _ _)
      have l2 : i < bv.size := Nat.lt_of_lt_of_le lm (Nat.min_le_right _ _)
      rw [List.drop_eq_getElem_cons lt] at hz
      injection hz with hp2 ht
      have ey : y = av[i] := by have := congrArg Prod.fst hp2; simpa using this
      have ex : x = bv[i] := by have := congrArg Prod.snd hp2; simpa using this
      subst ey ex
      have dr : (List.range (min av.size bv.size)).drop i = i :: (List.range (min av.size bv.size)).drop (i + 1) := by simp [List.drop_eq_getElem_cons, lm]
      rw [dr, List.all_cons] at hR
      refine wpAny_bind (he i l1 l2 _ _ ?_)
      cases q : e i with
      | true =>
        rw [q] at hR
        wp_walk
        exact ⟨rfl, rfl, i + 1, ht, by simpa using hR⟩
      | false =>
        rw [q] at hR
        wp_walk
        exact ⟨_, rfl, by simpa using hR⟩
    case fin =>
      rintro ⟨z1, z2⟩ s1 ⟨hz', rfl, i, hz, hR⟩
      simp only at hz'
      subst hz'
      have ge : min av.size bv.size ≤ i := by
        rcases Nat.lt_or_ge i (av.toList.zip bv.toList).length with q | q
        · rw [List.drop_eq_getElem_cons q] at hz; cases hz
        · exact len ▸ q
      rw [List.drop_of_length_le (by simpa using ge)] at hR
      wp_walk
      exact ⟨_, rfl, by simpa [Builtin.Tuple.tupleCompareSizes, bne] using hR⟩
    case h => exact ⟨rfl, rfl, 0, rfl, by simpa using h⟩
theorem rcNeTup {P : Program} {w : World} {A : Around} {s : Shared} {E : Value → Shared → Prop} {l r : Addr} {av bv : Array Value} {e : Nat → Bool} {Q : Value → Shared → Prop} (hl : s.heap.IsTuple l av) (hb : s.heap.IsTuple r bv) (hu : A.units < cLine)
    (he : ∀ j (h1 : j < av.size) (h2 : j < bv.size), EqIn P w A.in1 s av[j] bv[j] (e j)) (h : Q (.bool (!((List.range (min av.size bv.size)).all e && av.size == bv.size))) s) :
    wpAny (model P w) A (richCompare .NotEq (.ref l) (.ref r)) Q E s := by
  obtain ⟨⟨c1, d1, dt1, o1⟩, ho, hc, n1, hd⟩ := id hl
  obtain ⟨⟨c2, d2, dt2, o2⟩, ho2, hc2, n2, hd2⟩ := id hb
  simp only at hc hd hc2 hd2
  subst hc hd hc2 hd2
  exact wpAny_richCompare_same_room (T := "tuple") (op := .NotEq) ⟨_, ho, rfl⟩ ⟨_, ho2, rfl⟩ F.slot_tuple_ne (call_meetsIn F.slot_tuple_ne ⟨_, ho, rfl⟩ F.entry_tuple_ne (F.args_tuple_ne_2 _ _) (tupNe l r av bv n1 n2 d1 d2 o1 o2 e)
    ⟨ho, ho2, he, (fun x => nomatch x), h⟩) hu
end TN
open PySem PySem.Spec PyProof.Rows L2
def rEqTT (T : Tb) : R2 := fun x y H Q => ∃ (S : VS) (xs ys : List D), Rep T S H x (.tup xs) ∧ Rep T S H y (.tup ys) ∧ allZ (dEqT 20) xs ys = true ∧ Q (.bl (xs.length == ys.length)) H
def rNeTT (T : Tb) : R2 := fun x y H Q => ∃ (S : VS) (xs ys : List D), Rep T S H x (.tup xs) ∧ Rep T S H y (.tup ys) ∧ allZ (dEqT 20) xs ys = true ∧ Q (.bl (!(xs.length == ys.length))) H
/-- two tuples whose items are equal as far as both go -/
def eqTD : D → D → (D → Prop) → Prop := fun x y p => match x, y with
  | .tup xs, .tup ys => allZ (dEqT 20) xs ys = true ∧ p (.bl (xs.length == ys.length))
  | _, _ => False
def neTD : D → D → (D → Prop) → Prop := fun x y p => match x, y with
  | .tup xs, .tup ys => allZ (dEqT 20) xs ys = true ∧ p (.bl (!(xs.length == ys.length)))
  | _, _ => False
section
variable {T : Tb} {X : Cx} {k : Nat}
theorem tt_items (hK : X.K = T.K) {pins : List (Addr × Obj)} {σ : L2.St} {S : VS} {H : Hp} {s : Shared} {a b : Addr} {xs ys : List D} (I : Inv X pins σ H s) (r1 : Rep T S H (.ref a) (.tup xs)) (r2 : Rep T S H (.ref b) (.tup ys)) (ha : allZ (dEqT 20) xs ys = true) :
    ∃ us ws : List Value, s.heap.IsTuple a us.toArray ∧ s.heap.IsTuple b ws.toArray ∧ us.length = xs.length ∧ ws.length = ys.length ∧ ∀ j (h1 : j < us.toArray.size) (h2 : j < ws.toArray.size), PySem.W.EqTree X.prog X.w s 80 us.toArray[j] ws.toArray[j] true := by
  cases r1 with
  | @tup _ xs1 _ h1 t1 =>
  cases r2 with
  | @tup _ xs2 _ h2 t2 =>
  rw [← hK] at h1 h2
  obtain ⟨us, v1, i1, _⟩ := I.tuple h1
  obtain ⟨ws, v2, i2, _⟩ := I.tuple h2
  refine ⟨us, ws, i1, i2, v1.length.symm.trans t1.length, v2.length.symm.trans t2.length, fun j j1 j2 => ?_⟩
  have j1' : j < us.length := by simpa using j1
  have j2' : j < ws.length := by simpa using j2
  obtain ⟨x1, e1, q1⟩ := vals_at v1 (List.getElem?_eq_getElem j1')
  obtain ⟨x2, e2, q2⟩ := vals_at v2 (List.getElem?_eq_getElem j2')
  obtain ⟨d1, f1, g1⟩ := t1.get e1
  obtain ⟨d2, f2, g2⟩ := t2.get e2
  have z := dEqT_ok hK I 20 (allZ_at ha f1 f2) g1 g2 q1 q2
  simpa using z
theorem op_eqTT (hK : X.K = T.K) (hr : Room k X.A) : OpR X (compareOp .Eq) (rEqTT T) := by
  intro pins s σ H x y v u Q I rx ry h
  obtain ⟨S, xs, ys, r1, r2, ha, q⟩ := h
  obtain ⟨a, rfl⟩ : ∃ a, x = .ref a := by cases r1; exact ⟨_, rfl⟩
  obtain ⟨b, rfl⟩ : ∃ b, y = .ref b := by cases r2; exact ⟨_, rfl⟩
  cases (show v = Value.ref a from rx)
  cases (show u = Value.ref b from ry)
  obtain ⟨us, ws, i1, i2, l1, l2, it⟩ := tt_items hK I r1 r2 ha
  refine PySem.W.eq_tuplesT (n := 80) (e := fun _ => true) i1 i2 it (by have := hr.un; omega) ⟨.bl _, H, I, ?_, q⟩
  show Value.bool _ = Value.bool _
  rw [List.size_toArray, List.size_toArray, l1, l2]
  simp
theorem op_neTT (hK : X.K = T.K) (hr : Room k X.A) : OpR X (compareOp .NotEq) (rNeTT T) := by
  intro pins s σ H x y v u Q I rx ry h
  obtain ⟨S, xs, ys, r1, r2, ha, q⟩ := h
  obtain ⟨a, rfl⟩ : ∃ a, x = .ref a := by cases r1; exact ⟨_, rfl⟩
  obtain ⟨b, rfl⟩ : ∃ b, y = .ref b := by cases r2; exact ⟨_, rfl⟩
  cases (show v = Value.ref a from rx)
  cases (show u = Value.ref b from ry)
  obtain ⟨us, ws, i1, i2, l1, l2, it⟩ := tt_items hK I r1 r2 ha
  show wpAny (model X.prog X.w) X.A (richCompare .NotEq (.ref a) (.ref b)) (L2.EP X pins σ Q) X.xe s
  refine TN.rcNeTup (e := fun _ => true) i1 i2 (by have := hr.un; omega) (fun j j1 j2 => (it j j1 j2).at X.A.in1 (by show X.A.units + 1 + 80 < cLine; have := hr.un; omega)) ⟨.bl _, H, I, ?_, q⟩
  show Value.bool _ = Value.bool _
  rw [List.size_toArray, List.size_toArray, l1, l2]
  simp
theorem d_eqTT : OpD T (rEqTT T) eqTD := fun S H x y dx dy post Q ok r1 r2 q hw => by
  unfold eqTD at hw
  split at hw
  · exact ⟨S, _, _, r1, r2, hw.1, q _ S H _ hw.2 ok .refl (.bl _)⟩
  · exact hw.elim
theorem d_neTT : OpD T (rNeTT T) neTD := fun S H x y dx dy post Q ok r1 r2 q hw => by
  unfold neTD at hw
  split at hw
  · exact ⟨S, _, _, r1, r2, hw.1, q _ S H _ hw.2 ok .refl (.bl _)⟩
  · exact hw.elim
end
end PyD

/-! PyD: what the head tells of own plain classes. -/
namespace PyD
open PySem PySem.Spec PyProof.Rows L2
open PySem.W (Frag findIn specialIn takesIn typeIn subIn mroIn hasDictIn kitOne exmOne clsIn alongIn excInitIn keepIn nsIn codeIn makesIn isFn)
/-- an own plain class: whose __init__, whose ==, whose truth it has -/
structure OwnD where
  name : Str
  init : Str
  eq : Option Str := none
  bo : Option Str := none
def base7 : List String := ["NoneType", "bool", "int", "str", "tuple", "list", "dict"]
/-- what isinstance answers: errors below nE, own classes from there on below nO -/
def clsTab (nE nO : Nat) (sub : Nat → Nat → Bool) : TyN → TyN → Option Bool
  | .b m, .b n => kitB m n
  | .b m, .c j => if (base7.contains m && decide (j < nO)) = true then some false else none
  | .c i, .c j => if (decide (i < nO) && decide (j < nO)) = true then some (sub i j) else none
  | .c i, .b n => if (decide (i < nO) && (base7.contains n || n == "ValueError")) = true then some (n == "ValueError" && decide (i < nE)) else none
def sysB (K : Frag) : Bool := match K.lookup sysModules with
  | some o => decide (o.cls = .type "dict")
  | none => false
def methB (K : Frag) (C : Addr) (m : Str) (p : Str) : Bool := He.eqO (findIn K (.ref C) m) (some (some (.ref (He.ma K (He.ga K p) m)))) && isFn K (.ref (He.ma K (He.ga K p) m))
def ownOne (K : Frag) (o : OwnD) : Bool := (He.Fa.cls o.name).ok K && (He.eqO (findIn K (.ref (He.ga K o.name)) "__class__") (some (some (.builtin "object.__class__"))) && (He.eqO (specialIn K (.builtin "object.__class__") "__get__") (some (some (.builtin "getset_descriptor.__get__"))) &&
  (decide (takesIn K (.builtin "object.__class__") = some true) && (decide (mroIn K (He.ga K o.name) (.type "object") = some true) && (makesIn K (He.ga K o.name) && (methB K (He.ga K o.name) "__init__" o.init && (keepIn K (.ref (He.ga K o.name)) &&
  ((match o.eq with
    | some p => methB K (He.ga K o.name) "__eq__" p && He.eqO (findIn K (.ref (He.ga K o.name)) "__ne__") (some (some (.builtin "object.__ne__")))
    | none => true) && match o.bo with
    | some p => methB K (He.ga K o.name) "__bool__" p
    | none => true))))))))
def cAd (all own : List Str) (K : Frag) (i : Nat) : Addr := He.ga K ((all ++ own).getD i "")
def ownB (all : List Str) (own : List OwnD) (words : List Str) (sub : Nat → Nat → Bool) (K : Frag) : Bool :=
  own.all (ownOne K) && (((List.range (all.length + own.length)).all fun i => words.all fun f => He.eqO (findIn K (.ref (cAd all (own.map (·.name)) K i)) f) (some none)) &&
  (((List.range (all.length + own.length)).all fun i => (List.range (all.length + own.length)).all fun j => i == j || decide (cAd all (own.map (·.name)) K i ≠ cAd all (own.map (·.name)) K j)) &&
  (((List.range (all.length + own.length)).all fun i => (List.range (all.length + own.length)).all fun j => decide (kitOne K (.ref (cAd all (own.map (·.name)) K i)) (.ref (cAd all (own.map (·.name)) K j)) = some (sub i j))) &&
  ((base7.all fun m => (List.range (all.length + own.length)).all fun j => decide (kitOne K (.type m) (.ref (cAd all (own.map (·.name)) K j)) = some false)) &&
  (((List.range (all.length + own.length)).all fun i => ("ValueError" :: base7).all fun n => decide (kitOne K (.ref (cAd all (own.map (·.name)) K i)) (.type n) = some (n == "ValueError" && decide (i < all.length)))) && sysB K)))))
section
variable {K : Frag} {all : List Str} {own : List OwnD} {words : List Str} {sub : Nat → Nat → Bool} {T : Tb}
theorem rng {n i : Nat} {p : Nat → Bool} (h : (List.range n).all p = true) (hi : i < n) : p i = true := List.all_eq_true.mp h i (List.mem_range.mpr hi)
theorem methB_ok {C : Addr} {m p : Str} (h : methB K C m p = true) : findIn K (.ref C) m = some (some (.ref (He.ma K (He.ga K p) m))) ∧ isFn K (.ref (He.ma K (He.ga K p) m)) = true := by
  obtain ⟨h1, h2⟩ := He.ba h
  exact ⟨He.eqO_ok h1, h2⟩
theorem ownB_sys (h : ownB all own words sub K = true) : SysT K := by
  obtain ⟨_, h⟩ := He.ba h
  obtain ⟨_, h⟩ := He.ba h
  obtain ⟨_, h⟩ := He.ba h
  obtain ⟨_, h⟩ := He.ba h
  obtain ⟨_, h⟩ := He.ba h
  obtain ⟨_, h⟩ := He.ba h
  unfold sysB at h
  split at h
  · rename_i o q
    exact ⟨o, q, of_decide_eq_true h⟩
  · cases h
/-- the class with the number all.length + j -/
theorem ownB_one (h : ownB all own words sub K = true) (j : Nat) {o : OwnD} (ho : own[j]? = some o := by rfl) : ownOne K o = true := by
  obtain ⟨h1, _⟩ := He.ba h
  exact List.all_eq_true.mp h1 o (List.mem_of_getElem? ho)
theorem ownOne_ins {o : OwnD} (h : ownOne K o = true) : InsT K (He.ga K o.name) := by
  obtain ⟨h1, h⟩ := He.ba h
  obtain ⟨h2, h⟩ := He.ba h
  obtain ⟨h3, h⟩ := He.ba h
  obtain ⟨h4, h⟩ := He.ba h
  obtain ⟨h5, h⟩ := He.ba h
  exact ⟨He.cls_ok h1, He.eqO_ok h2, He.eqO_ok h3, of_decide_eq_true h4, of_decide_eq_true h5⟩
theorem ownOne_mk {o : OwnD} (h : ownOne K o = true) : Mk K (He.ga K o.name) (He.ma K (He.ga K o.init) "__init__") := by
  obtain ⟨h1, h⟩ := He.ba h
  obtain ⟨h2, h⟩ := He.ba h
  obtain ⟨h3, h⟩ := He.ba h
  obtain ⟨h4, h⟩ := He.ba h
  obtain ⟨h5, h⟩ := He.ba h
  obtain ⟨h6, h⟩ := He.ba h
  obtain ⟨h7, h⟩ := He.ba h
  obtain ⟨h8, h⟩ := He.ba h
  obtain ⟨k1, k2⟩ := methB_ok h7
  exact ⟨h6, k1, k2, h8⟩
theorem ownOne_eq {o : OwnD} {p : Str} (h : ownOne K o = true) (e : o.eq = some p) : (findIn K (.ref (He.ga K o.name)) "__eq__" = some (some (.ref (He.ma K (He.ga K p) "__eq__"))) ∧ isFn K (.ref (He.ma K (He.ga K p) "__eq__")) = true) ∧ findIn K (.ref (He.ga K o.name)) "__ne__" = some (some (.builtin "object.__ne__")) := by
  obtain ⟨h1, h⟩ := He.ba h
  obtain ⟨h2, h⟩ := He.ba h
  obtain ⟨h3, h⟩ := He.ba h
  obtain ⟨h4, h⟩ := He.ba h
  obtain ⟨h5, h⟩ := He.ba h
  obtain ⟨h6, h⟩ := He.ba h
  obtain ⟨h7, h⟩ := He.ba h
  obtain ⟨h8, h⟩ := He.ba h
  obtain ⟨h9, h⟩ := He.ba h
  rw [e] at h9
  obtain ⟨k1, k2⟩ := He.ba h9
  exact ⟨methB_ok k1, He.eqO_ok k2⟩
theorem ownOne_bo {o : OwnD} {p : Str} (h : ownOne K o = true) (e : o.bo = some p) : findIn K (.ref (He.ga K o.name)) "__bool__" = some (some (.ref (He.ma K (He.ga K p) "__bool__"))) ∧ isFn K (.ref (He.ma K (He.ga K p) "__bool__")) = true := by
  obtain ⟨h1, h⟩ := He.ba h
  obtain ⟨h2, h⟩ := He.ba h
  obtain ⟨h3, h⟩ := He.ba h
  obtain ⟨h4, h⟩ := He.ba h
  obtain ⟨h5, h⟩ := He.ba h
  obtain ⟨h6, h⟩ := He.ba h
  obtain ⟨h7, h⟩ := He.ba h
  obtain ⟨h8, h⟩ := He.ba h
  obtain ⟨h9, h⟩ := He.ba h
  rw [e] at h
  exact methB_ok h
theorem cAd_own {j : Nat} {o : OwnD} (ho : own[j]? = some o) : cAd all (own.map (·.name)) K (all.length + j) = He.ga K o.name := by
  unfold cAd
  rw [List.getD_eq_getElem?_getD, List.getElem?_append_right (Nat.le_add_right _ _), Nat.add_sub_cancel_left, List.getElem?_map, ho]
  rfl
theorem ownB_clsT (h : ownB all own words sub K = true) (hK : T.K = K) (hc : ∀ i, T.cA i = cAd all (own.map (·.name)) K i) (ask : ∀ c, c < all.length → Er.Ask T.K (T.cA c)) : ClsT T all.length (all.length + own.length) words := by
  have h0 := h
  obtain ⟨h1, h⟩ := He.ba h
  obtain ⟨h2, h⟩ := He.ba h
  obtain ⟨h3, h⟩ := He.ba h
  refine ⟨ask, fun c c1 c2 => ?_, fun c c1 f hf => ?_, fun c d c1 c2 e => ?_⟩
  · obtain ⟨j, rfl⟩ := Nat.exists_eq_add_of_le c1
    have hj : j < own.length := by omega
    have ho : own[j]? = some own[j] := List.getElem?_eq_getElem hj
    rw [hc, hK, cAd_own ho]
    exact ownOne_ins (ownB_one h0 j ho)
  · rw [hc, hK]
    exact He.eqO_ok (List.all_eq_true.mp (rng h2 c1) f hf)
  · rw [hc, hc] at e
    have k := rng (rng h3 c1) c2
    rcases Bool.or_eq_true_iff.mp k with k | k
    · exact eq_of_beq k
    · exact absurd e (of_decide_eq_true k)
theorem ownB_isT (h : ownB all own words sub K = true) (hK : T.K = K) (hc : ∀ i, T.cA i = cAd all (own.map (·.name)) K i) : IsT T (clsTab all.length (all.length + own.length) sub) := by
  obtain ⟨_, h⟩ := He.ba h
  obtain ⟨_, h⟩ := He.ba h
  obtain ⟨_, h⟩ := He.ba h
  obtain ⟨h4, h⟩ := He.ba h
  obtain ⟨h5, h⟩ := He.ba h
  obtain ⟨h6, h⟩ := He.ba h
  intro x y b e
  rw [hK]
  cases x with
  | b m =>
    cases y with
    | b n => exact kit_ty e
    | c j =>
      have e' : (if (base7.contains m && decide (j < all.length + own.length)) = true then some false else none) = some b := e
      split at e'
      · rename_i q
        cases e'
        obtain ⟨q1, q2⟩ := He.ba q
        show kitOne K (.type m) (.ref (T.cA j)) = some false
        rw [hc]
        exact of_decide_eq_true (rng (List.all_eq_true.mp h5 m (List.contains_iff_mem.mp q1)) (of_decide_eq_true q2))
      · cases e'
  | c i =>
    cases y with
    | c j =>
      have e' : (if (decide (i < all.length + own.length) && decide (j < all.length + own.length)) = true then some (sub i j) else none) = some b := e
      split at e'
      · rename_i q
        cases e'
        obtain ⟨q1, q2⟩ := He.ba q
        show kitOne K (.ref (T.cA i)) (.ref (T.cA j)) = some (sub i j)
        rw [hc, hc]
        exact of_decide_eq_true (rng (rng h4 (of_decide_eq_true q1)) (of_decide_eq_true q2))
      · cases e'
    | b n =>
      have e' : (if (decide (i < all.length + own.length) && (base7.contains n || n == "ValueError")) = true then some (n == "ValueError" && decide (i < all.length)) else none) = some b := e
      split at e'
      · rename_i q
        cases e'
        obtain ⟨q1, q2⟩ := He.ba q
        show kitOne K (.ref (T.cA i)) (.type n) = some _
        rw [hc]
        have hm : n ∈ "ValueError" :: base7 := by
          rcases Bool.or_eq_true_iff.mp q2 with q | q
          · exact List.mem_cons_of_mem _ (List.contains_iff_mem.mp q)
          · rw [eq_of_beq q]; exact List.mem_cons_self
        exact of_decide_eq_true (List.all_eq_true.mp (rng h6 (of_decide_eq_true q1)) n hm)
      · cases e'
end
end PyD

/-! PyD: lists unpacked; defs that call themselves; a list changed behind what was copied from it. -/
namespace PyD
open PySem PySem.Spec PyProof.Rows L2
/-- the j-th statement of a class's body -/
def methOf (s : Stmt) (j : Nat) : Stmt := match s with
  | .ClassDef _ _ _ body _ _ _ _ _ _ _ => body.getD j (.Pass ⟨0, 0, 0, 0⟩)
  | s => s
/-! ### a, b = a list -/
def gLs (n : Nat) (g : WGs) : WG := fun d ρ k => match d with
  | .lst ds => fun m => ds.length = n ∧ g ds ρ k m
  | _ => fun _ => False
section
variable {T : Tb} {X : Cx} {es : List Expr} {gs : TGs} {ws : WGs} {pos : Pos}
theorem im_gLs {n : Nat} (h1 : ImpGs T gs ws) : ImpG T (gUnl T.K n gs) (gLs n ws) := fun v d ρ σ S H H0 k Q ok er r q h => by
  cases r with
  | lst ht _ r1 => exact ⟨_, _, rfl, SqL.of ht, by rw [r1.length]; exact h.1, h1 _ _ ρ σ S H H0 k Q ok er r1 q h.2⟩
  | _ => exact False.elim h
theorem dg_unl {n k : Nat} (hK : X.K = T.K) (h : DGs T X es gs ws) (hc : X.calm = true := by rfl) (hn : (assignEach es X.env).length = n := by rfl) (hst : (assignEach es X.env).findIdx? (·.1) = none := by rfl) : DG T X (.Tuple es k pos) (gUnl X.K n gs) (gLs n ws) := ⟨pg_unl hc h.pg hn hst, by rw [hK]; exact im_gLs h.im⟩
end
/-! ### a def that calls itself: nothing is promised at depth 0 -/
theorem cal_zero {P : Program} {w : World} {K : PySem.W.Frag} {mg : Str → Option Value} {base : Heap} {k : Nat} {x : Str} {ps : List Str} {T : Tb} {a : Addr} {fd : FuncData} (hm : mg x = some (.ref a)) (hk : PySem.W.keepIn K (.ref a) = true) (hb : L2.Binds K fd ps []) : Cal P w K mg base k x ps (spV T fun _ _ _ _ => False) :=
  ⟨a, fd, hm, hk, ⟨fun vs H Q E ⟨_, _, _, _, _, _, _, _, h⟩ => h.elim, fun A outer s H args us vs Q E hr hg e0 hbd r ⟨_, _, _, _, _, _, _, _, h⟩ => h.elim⟩, hb⟩

/-! ### data without lists: they stay when a list changes -/
mutual
def noL : D → Bool
  | .non => true
  | .bl _ => true
  | .int _ => true
  | .str _ => true
  | .tup l => noLL l
  | .ins _ fs => noLF fs
  | _ => false
def noLL : List D → Bool
  | [] => true
  | d :: ds => noL d && noLL ds
def noLF : List (Str × D) → Bool
  | [] => true
  | (_, d) :: ds => noL d && noLF ds
end
section
variable {T : Tb} {S S' : VS} {H H' : Hp}
mutual
theorem Rep.noL (k : ∀ b o, H b = some o → (∀ xs, o ≠ .lst xs) → H' b = some o) (hS : ∀ b, S' b = none) : ∀ {v : V} {d : D}, Rep T S H v d → PyD.noL d = true → Rep T S' H' v d
  | _, _, .non, _ => .non
  | _, _, .bl b, _ => .bl b
  | _, _, .int i, _ => .int i
  | _, _, .str s, _ => .str s
  | _, _, .tup h r, e => .tup (h.elim (fun h => h.elim (fun h => .inl (.inl (k _ _ h fun _ z => by cases z))) fun ⟨o, h⟩ => .inl (.inr ⟨o, k _ _ h fun _ z => by cases z⟩)) .inr) (RepL.noL k hS r e)
  | _, _, .ins h _ r, e => .ins (k _ _ h fun _ z => by cases z) (hS _) (RepF.noL k hS r e)
  | _, _, .lst _ _ _, e => by cases e
  | _, _, .dic _ _ _, e => by cases e
  | _, _, .exc _ _ _, e => by cases e
  | _, _, .cls _, e => by cases e
  | _, _, .ty _, e => by cases e
  | _, _, .vol _, e => by cases e
  | _, _, .opq _ _ _, e => by cases e
  | _, _, .scr _, e => by cases e
theorem RepL.noL (k : ∀ b o, H b = some o → (∀ xs, o ≠ .lst xs) → H' b = some o) (hS : ∀ b, S' b = none) : ∀ {vs : List V} {ds : List D}, RepL T S H vs ds → PyD.noLL ds = true → RepL T S' H' vs ds
  | _, _, .nil, _ => .nil
  | _, _, .cons (d := d) (ds := ds) r t, e => by
    have e' : (PyD.noL d && PyD.noLL ds) = true := e
    exact .cons (Rep.noL k hS r (Bool.and_eq_true_iff.mp e').1) (RepL.noL k hS t (Bool.and_eq_true_iff.mp e').2)
theorem RepF.noL (k : ∀ b o, H b = some o → (∀ xs, o ≠ .lst xs) → H' b = some o) (hS : ∀ b, S' b = none) : ∀ {vs : List (Str × V)} {ds : List (Str × D)}, RepF T S H vs ds → PyD.noLF ds = true → RepF T S' H' vs ds
  | _, _, .nil, _ => .nil
  | _, _, .cons (d := d) (ds := ds) r t, e => by
    have e' : (PyD.noL d && PyD.noLF ds) = true := e
    exact .cons (Rep.noL k hS r (Bool.and_eq_true_iff.mp e').1) (RepF.noL k hS t (Bool.and_eq_true_iff.mp e').2)
end
end
/-! ### some = [1, [2]]; kept = e2; some[1].append(3); return e4 -/
def tOne : TE := tLst (tCons (tC (.int 1)) (tCons (tLst (tCons (tC (.int 2)) tNil)) tNil))
def tApp (K : PySem.W.Frag) (i : Nat) : TE := tBM K "list" rAppend (tOp (rIx K) (tVar i) (tC (.int 1))) (tCons (tC (.int 3)) tNil)
def noEnv (n : Nat) : EnvD := List.replicate n .no
def wTail (i j n : Nat) (w2 w4 : WE) (dk : D) : WS := fun ρ K m => ρ.length = n ∧ i < n ∧ j < n ∧ i ≠ j ∧ noL dk = true ∧ w2 ((noEnv n).set i (.val (.lst [.int 1, .lst [.int 2]]))) (fun d _ => d = dk) ep0 m ∧ (∀ m, w4 ((noEnv n).set j (.val dk)) (fun d _ => d = .bl true) ep0 m) ∧ K.rt (noEnv n) (.bl true) 0
section
variable {T : Tb} {W : WX} {i j n : Nat} {t2 t4 : TE} {w2 w4 : WE} {dk : D}
theorem env_only {H0 : Hp} {S : VS} {H : Hp} {σ : L2.St} {v : V} {d : D} (hl : σ.length = n) (hi : i < n) (e : σ[i]? = some (some v)) (r : Rep T S H v d) : EnvRel T H0 S H σ ((noEnv n).set i (.val d)) := by
  have at_ : ∀ (k : Nat) (s : Slot), s ≠ .no → ((noEnv n).set i (.val d))[k]? = some s → k = i ∧ s = .val d := fun k s hs h => by
    by_cases hk : i = k
    · subst hk
      rw [List.getElem?_set_self (by unfold noEnv; rw [List.length_replicate]; exact hi)] at h
      exact ⟨rfl, (Option.some.inj h).symm⟩
    · rw [List.getElem?_set_ne hk] at h
      unfold noEnv at h
      rw [List.getElem?_replicate] at h
      split at h
      · exact absurd (Option.some.inj h).symm hs
      · cases h
  refine ⟨by rw [List.length_set]; unfold noEnv; rw [List.length_replicate]; exact hl, fun k d' h => ?_, fun k ds h => ?_, fun k k' ds es a h _ _ _ => ?_, fun k c fs h => ?_, fun k k' c c' fs fs' h _ => ?_⟩
  · obtain ⟨rfl, z⟩ := at_ k _ (by simp) h
    cases z
    exact ⟨v, e, r⟩
  · cases (at_ k _ (by simp) h).2
  · cases (at_ k _ (by simp) h).2
  · cases (at_ k _ (by simp) h).2
  · cases (at_ k _ (by simp) h).2
theorem env_none {H0 : Hp} {S : VS} {H : Hp} {σ : L2.St} (hl : σ.length = n) : EnvRel T H0 S H σ (noEnv n) := by
  have at_ : ∀ (k : Nat) (s : Slot), s ≠ .no → (noEnv n)[k]? ≠ some s := fun k s hs h => by
    unfold noEnv at h
    rw [List.getElem?_replicate] at h
    split at h
    · exact hs (Option.some.inj h).symm
    · cases h
  exact ⟨by unfold noEnv; rw [List.length_replicate]; exact hl, fun k d' h => absurd h (at_ k _ (by simp)), fun k ds h => absurd h (at_ k _ (by simp)), fun k k' ds es a h _ _ _ => absurd h (at_ k _ (by simp)), fun k c fs h => absurd h (at_ k _ (by simp)), fun k k' c c' fs fs' h _ => absurd h (at_ k _ (by simp))⟩
theorem im_tail (h2 : ImpE T W t2 w2) (h4 : ImpE T W t4 w4) : ImpS T W (tSeq (tAsg tOne (gName i)) (tSeq (tAsg t2 (gName j)) (tSeq (tDrop (tApp T.K i)) (tRet t4)))) (wTail i j n w2 w4 dk) := fun ρ σ S H S0 H0 K En ok0 ok b er k hw => by
  obtain ⟨hn, hi, hj, hij, hd, hw2, hw4, hrt⟩ := hw
  have hl : σ.length = n := er.len.trans hn
  refine ⟨by show 1 ≤ sizeLine; decide, fun L hL => ⟨by show 2 ≤ sizeLine; decide, fun p hp => ?_⟩⟩
  -- the two new lists
  let H2 : Hp := upd (upd H L (.lst [.int 2])) p (.lst [.int 1, .ref L])
  let S2 : VS := ⟨fun _ => none, S.n⟩
  have k2 : ∀ b o, H b = some o → H2 b = some o := fun b o e => by
    have h1 : upd H L (.lst [.int 2]) b = some o := by rw [upd_ne (ne_of_none e hL)]; exact e
    show upd _ p _ b = some o
    rw [upd_ne (ne_of_none h1 hp)]; exact h1
  have nLp : L ≠ p := fun z => by rw [← z, upd_same] at hp; cases hp
  have tabs2 : LamX.Tabs T.tabs H2 := tabs_keep ok.tabs fun b o e _ _ _ => k2 b o e
  have ok2 : Ok T S2 H2 := ⟨fun _ _ e => (nomatch e), fun _ _ e => (nomatch e), tabs2⟩
  have hLp : H2 L = some (.lst [.int 2]) := by show upd _ p _ L = _; rw [upd_ne nLp]; exact upd_same
  have hpp : H2 p = some (.lst [.int 1, .ref L]) := upd_same
  have rs : Rep T S2 H2 (.ref p) (.lst [.int 1, .lst [.int 2]]) := .lst hpp rfl (.cons (.int 1) (.cons (.lst hLp rfl (.cons (.int 2) .nil)) .nil))
  have hl2 : (σ.set i (some (V.ref p))).length = n := by rw [List.length_set]; exact hl
  have es2 : (σ.set i (some (V.ref p)))[i]? = some (some (.ref p)) := List.getElem?_set_self (by rw [hl]; exact hi)
  have e2 := env_only (T := T) (H0 := H2) (S := S2) (H := H2) hl2 hi es2 rs
  show t2 (σ.set i (some (V.ref p))) H2 _
  refine h2 _ _ S2 H2 H2 _ ep0 _ ok2 e2 (fun _ _ _ _ _ _ z => z.elim) (fun d3 S3 H3 v3 p3 ok3 x3 r3 => ?_) hw2
  have p3 : d3 = dk := p3
  subst p3
  -- kept is set; now the list behind changes
  have k3 : ∀ b o, H2 b = some o → (∀ ps, o ≠ .tbl ps) → H3 b = some o := fun b o e q => (x3.keep b o e q fun n z => nomatch z).1
  have hL3 := k3 L _ hLp fun _ z => by cases z
  have hp3 := k3 p _ hpp fun _ z => by cases z
  refine ⟨_, (by rw [List.getElem?_set_ne (Ne.symm hij)]; exact es2 : ((σ.set i (some (V.ref p))).set j (some v3))[i]? = some (some (.ref p))), .inl ⟨p, _, 1, .ref L, rfl, rfl, SqL.of hp3, rfl, .inl ⟨rfl, _, SqL.of hL3⟩, L, _, .int 3, rfl, rfl, hL3, by show 1 < sizeLine; decide, ?_⟩⟩
  let H4 : Hp := upd H3 L (.lst [.int 2, .int 3])
  let S4 : VS := ⟨fun _ => none, S3.n⟩
  have k4 : ∀ b o, H3 b = some o → (∀ xs, o ≠ .lst xs) → H4 b = some o := fun b o e q => by
    have nb : b ≠ L := fun z => by rw [z, hL3] at e; exact q _ (Option.some.inj e).symm
    show upd H3 L _ b = _
    rw [upd_ne nb]; exact e
  have ok4 : Ok T S4 H4 := ⟨fun _ _ e => (nomatch e), fun _ _ e => (nomatch e), tabs_keep ok3.tabs fun b o e q _ _ => k4 b o e q⟩
  have r4 : Rep T S4 H4 v3 d3 := r3.noL k4 (fun _ => rfl) hd
  have hl4 : ((σ.set i (some (V.ref p))).set j (some v3)).length = n := by rw [List.length_set]; exact hl2
  have e4 := env_only (T := T) (H0 := H4) (S := S4) (H := H4) hl4 hj (List.getElem?_set_self (by rw [hl2]; exact hj)) r4
  refine h4 _ _ S4 H4 H4 _ ep0 _ ok4 e4 (fun _ _ _ _ _ _ z => z.elim) (fun d5 S5 H5 v5 p5 ok5 x5 r5 => ?_) (hw4 _)
  have p5 : d5 = .bl true := p5
  subst p5
  cases r5
  -- all that was there is still there
  have k5 : ∀ b o, H b = some o → (∀ ps, o ≠ .tbl ps) → H5 b = some o := fun b o e q => by
    have nb : b ≠ L := ne_of_none e hL
    have h3 := k3 b o (k2 b o e) q
    have h4 : H4 b = some o := by show upd H3 L _ b = _; rw [upd_ne nb]; exact h3
    exact (x5.keep b o h4 q fun n z => nomatch z).1
  have tb5 : ∀ b ps, H b = some (.tbl ps) → ∃ qs, H5 b = some (.tbl qs) := fun b ps e => by
    obtain ⟨q3, h3⟩ := x3.tb b ps (k2 b _ e)
    exact x5.tb b q3 (k4 b _ h3 fun _ z => by cases z)
  let S6 : VS := ⟨S.f, 0⟩
  have x6 : Ext S H S6 H5 := ⟨fun b o e q _ => ⟨k5 b o e q, rfl⟩, fun _ _ e => e, tb5⟩
  have ok6 : Ok T S6 H5 := by
    refine ⟨fun a m e => ?_, fun a kd e => ?_, ok5.tabs⟩
    · have hv := ok.vol a m e
      refine T.st m S S6 H H5 a hv (fun c o h q s => ⟨k5 c o h q, s⟩) (Nat.zero_le _) ?_
      rcases ok.chg a _ e with ⟨xs, z⟩ | ⟨C, dx, fs, z⟩ | ⟨kvs, z⟩ <;> (rw [z]; exact k5 a _ z fun _ z => by cases z)
    · rcases ok.chg a kd e with ⟨xs, z⟩ | ⟨C, dx, fs, z⟩ | ⟨kvs, z⟩
      · exact .inl ⟨xs, k5 a _ z fun _ z => by cases z⟩
      · exact .inr (.inl ⟨C, dx, fs, k5 a _ z fun _ z => by cases z⟩)
      · exact .inr (.inr ⟨kvs, k5 a _ z fun _ z => by cases z⟩)
  exact k.rt (noEnv n) _ (.bl true) (.bl true) S6 H5 hrt ok6 (b.trans x6) (env_none hl4) (.bl true)
end
end PyD

/-! PyD: what the printed derivations use, of classes and dicts. -/
namespace PyD
open PySem PySem.Spec PyProof.Rows L2
theorem ErrT.kp {P : Program} {K : PySem.W.Frag} {C : Addr} {as_ : List Str} (T : ErrT P K C as_) : PySem.W.keepIn K (.ref C) = true := by
  obtain ⟨fI, qual, params, body, scope, ps, p9, TC, _⟩ := T.ex
  exact TC.kp
theorem bo_ValueError : bootBuiltins "ValueError" = some (.type "ValueError") := by decide +kernel
section
variable {T : Tb} {X : Cx} {W : WX} {k nE nO : Nat} {has : Nat → Bool} {words : List Str} {tab : TyN → TyN → Option Bool} {weq : WD} {a b : Expr} {ta tb : TE} {wa we : WE} {pos : Pos}
theorem dt_eqG (hK : X.K = T.K) (Z : ClsT T nE nO words) (hT : IsT T tab) (Q : EqOk T X.prog X.w X.K X.mg X.base k has weq) (hr : Room k X.A) (hgd : X.A.guards = some []) (h1 : DE T X W a ta wa) (h2 : DE T X W b tb we) : ∃ t, DT T X W (.Compare a [.Eq] [b] pos) t (wTest (wEqG weq has tab nE nO wa we)) := by
  obtain ⟨g, Q, F⟩ := Q.ex
  refine ⟨_, pt_cmpR ((op_eqD hr.units).or (op_eqO hK Q F hr hgd)) h1.pe h2.pe (nomark _), ?_⟩
  rw [hK]
  exact im_test (im_eqG Z hT h1.im h2.im)
theorem dt_neG (hK : X.K = T.K) (Z : ClsT T nE nO words) (hT : IsT T tab) (Q : EqOk T X.prog X.w X.K X.mg X.base k has weq) (hI : ∀ c, has c = true → nE ≤ c ∧ c < nO) (hr : Room (k + 1) X.A) (hgd : X.A.guards = some []) (h1 : DE T X W a ta wa) (h2 : DE T X W b tb we) : ∃ t, DT T X W (.Compare a [.NotEq] [b] pos) t (wTest (wNeG weq has tab nO wa we)) := by
  obtain ⟨g, Q, F⟩ := Q.ex
  refine ⟨_, pt_cmpR ((op_neD hr.units).or (op_neO hK (fun c hc => Z.ins c (hI c hc).1 (hI c hc).2) Q F hr hgd)) h1.pe h2.pe (nomark _), ?_⟩
  rw [hK]
  exact im_test (im_neG Z hT h1.im h2.im)
/-- a test's reading is whatever its promise says -/
def tSemT (T : Tb) (W : WX) (w : WT) : TT := fun σ H Q => ∃ (ρ : EnvD) (S : VS) (H0 : Hp) (post : Bool → Pr) (ep : EP), Ok T S H ∧ EnvRel T H0 S H σ ρ ∧ ExW T W σ S H ep ∧ QT T S H post Q ∧ w ρ post ep S.n
theorem dt_seal {e : Expr} {w : WT} (h : ∃ t, DT T X W e t w) : DT T X W e (tSemT T W w) w := by
  obtain ⟨t, h⟩ := h
  exact ⟨⟨fun pins s σ H Q I ⟨ρ, S, H0, post, ep, ok, er, ex, q, hw⟩ => h.pt.run pins s σ H Q I (h.im ρ σ S H H0 post ep Q ok er ex q hw)⟩, fun ρ σ S H H0 post ep Q ok er ex q hw => ⟨ρ, S, H0, post, ep, ok, er, ex, q, hw⟩⟩
/-- [e for k in d], d a dict -/
theorem g_lcKeys {i : Nat} {x : Str} {px : Pos} {elt tg : Expr} {scope : Scope} {own : List (Str × Nat)} {g : TG} {wg : WG} {te : TE} {we : WE} (hc : X.calm = true) (hN : X.N.Nodup) (hx : PE X (.Name x px) (tVar i)) (ok : BlkOk X.N X.env.scope scope own)
    (hg : ∀ (s : Shared) (H : Hp) (C : Addr) (cl : List (Str × Addr)) (fp : List Addr), DG T (X.blk s H scope (compEnvC scope cl C X.env) fp) tg g wg) (he : ∀ (s : Shared) (H : Hp) (C : Addr) (cl : List (Str × Addr)) (fp : List Addr), DE T (X.blk s H scope (compEnvC scope cl C X.env) fp) W0 elt te we) (hv : GV (own.map (·.2)) g)
    (hs : ∀ y, foldedSetIterable (.Name x px) X.env y = pure y := by intro _; rfl) : DF T X W (.ListComp elt [⟨tg, .Name x px, [], 0⟩] scope pos) (fun σ H Q => tLockE (tLc (iKeys (tVar i)) g tYes te (own.map (·.2))) σ H Q ∨ tLc (iKeys (tVar i)) g tYes te (own.map (·.2)) σ H Q) (wLcKeys i wg wYes we (own.map (·.2))) :=
  df_lcKeys hc hN hx ok (fun s H C cl fp => (hg s H C cl fp).pg) (fun _ _ _ _ _ => pts_nil) he (hg X.s_0 X.H_0 0 [] []).im hv im_yes (he X.s_0 X.H_0 0 [] []).im hs
/-- {k: e for k, v in d.items()} -/
theorem g_dcItems {i : Nat} {x : Str} {px apos cpos : Pos} {kx vx : Expr} {elts : List Expr} {kk : Nat} {tpos : Pos} {scope : Scope} {own : List (Str × Nat)} {g : TG} {wg : WG} {tk tv : TE} {wk wv : WE} (hc : X.calm = true) (hN : X.N.Nodup) (hx : PE X (.Name x px) (tVar i)) (ok : BlkOk X.N X.env.scope scope own)
    (hg : ∀ (s : Shared) (H : Hp) (C : Addr) (cl : List (Str × Addr)) (fp : List Addr), DG T (X.blk s H scope (compEnvC scope cl C X.env) fp) (.Tuple elts kk tpos) g wg)
    (hk : ∀ (s : Shared) (H : Hp) (C : Addr) (cl : List (Str × Addr)) (fp : List Addr), DE T (X.blk s H scope (compEnvC scope cl C X.env) fp) W0 kx tk wk) (he : ∀ (s : Shared) (H : Hp) (C : Addr) (cl : List (Str × Addr)) (fp : List Addr), DE T (X.blk s H scope (compEnvC scope cl C X.env) fp) W0 vx tv wv) (hv : GV (own.map (·.2)) g)
    (hbase : attributeBase (.Name x px) "items" X.env (eval (.Name x px) X.env) = eval (.Name x px) X.env := by rfl) (hline : (apos.endLine == cpos.line) = true := by rfl) (hs : ∀ y, foldedSetIterable (.Call (.Attribute (.Name x px) "items" apos) [] [] cpos) X.env y = pure y := by intro _; rfl) :
    DE T X W (.DictComp kx vx [⟨.Tuple elts kk tpos, .Call (.Attribute (.Name x px) "items" apos) [] [] cpos, [], 0⟩] scope pos) (fun σ H Q => tLockE (tDc (iItems (tVar i)) g tYes tk tv (own.map (·.2))) σ H Q ∨ tDc (iItems (tVar i)) g tYes tk tv (own.map (·.2)) σ H Q) (wDcItems i wg wk wv (own.map (·.2))) :=
  de_dcItems hc hN hx ok (fun s H C cl fp => (hg s H C cl fp).pg) hk he (hg X.s_0 X.H_0 0 [] []).im hv (hk X.s_0 X.H_0 0 [] []).im (he X.s_0 X.H_0 0 [] []).im hbase hline hs
theorem units2 {k : Nat} {A : Around} (r : Room k A) : A.units + 1 < cLine := by have := r.un; omega
/-- the tail of a law: some = [1, [2]]; kept = e2; some[1].append(3); return e4 -/
theorem dss_tail {i j n : Nat} {x : Str} {t2 t4 : TE} {w1 : WS} {w2 w4 : WE} {dk : D} {s1 s3 : Stmt} {e2 e4 : Expr} {px p2 p4 : Pos} (h1 : DS T X W s1 (tAsg tOne (gName i)) w1) (hN : X.N.Nodup) (hj : X.N[j]? = some x) (h2 : DE T X W e2 t2 w2) (h3 : PS X s3 (tDrop (tApp T.K i))) (h4 : DE T X W e4 t4 w4)
    (hx : Loc X.env.scope x := by first | exact Or.inl rfl | exact Or.inr rfl) (hs : swapsWith e2 (some (.Name x px)) p2.line X.env = pure false := by rfl) (hf : X.fn x = true ∨ X.env.scope.names.lookup x = some .local := by first | exact .inl rfl | exact .inr rfl) :
    DSs T X W [s1, .Assign [.Name x px] e2 p2, s3, .Return (some e4) p4] (tSeq (tAsg tOne (gName i)) (tSeq (tAsg t2 (gName j)) (tSeq (tDrop (tApp T.K i)) (tRet t4)))) (wTail i j n w2 w4 dk) :=
  ⟨pss_cons h1.ps (pss_cons (ps_set hN hj hx h2.pe hs hf) (pss_cons h3 (pss_one (ps_ret h4.pe)))), im_tail h2.im h4.im⟩
end
end PyD

namespace K00
open PySem PySem.Spec PyProof.Rows L2 PyD
/-! ### the text -/
abbrev P : Program := PySem.Challenge.pw_nearatonce_k00_errors_and_papers
def top (i : Nat) : Stmt := P.main.body.getD i (.Pass ⟨0, 0, 0, 0⟩)
abbrev st_BadClock : Stmt := top 7
abbrev st_BadCommand : Stmt := top 12
abbrev st_BadField : Stmt := top 6
abbrev st_BadNumber : Stmt := top 10
abbrev st_BadPaper : Stmt := top 11
abbrev st_BadText : Stmt := top 16
abbrev st_BadValue : Stmt := top 9
abbrev st_BadWish : Stmt := top 8
abbrev st_Misfit : Stmt := top 14
abbrev st_NoName : Stmt := top 13
abbrev st_Nothing : Stmt := top 15
abbrev st_TooMany : Stmt := top 17
abbrev s_copied : Stmt := top 1
abbrev s__law_pen : Stmt := top 19
abbrev s__law_draw : Stmt := top 20
abbrev s__law_pick : Stmt := top 21
abbrev s__law_kinds_of : Stmt := top 22
abbrev s__law_errors_right : Stmt := top 23
abbrev s__law_tuples : Stmt := top 24
abbrev s_Denial__bool__ : Stmt := methOf (top 3) 0
abbrev s_Paper__bool__ : Stmt := methOf (top 2) 2
abbrev s_Paper__eq__ : Stmt := methOf (top 2) 1
abbrev s_Paper__init__ : Stmt := methOf (top 2) 0
abbrev s_law : Stmt := top 25
def owns : List OwnD := [⟨"Paper", "Paper", some "Paper", some "Paper"⟩, ⟨"Denial", "Paper", some "Paper", some "Denial"⟩]
def wordsL : List Str := ["word", "name", "line", "what", "most", "part", "parts"]
def allL : List Str := ["NearError", "BadField", "BadClock", "BadWish", "BadValue", "BadNumber", "BadPaper", "BadCommand", "NoName", "Misfit", "Nothing", "BadText", "TooMany"]
def subL : Nat → Nat → Bool := fun i j => i == j || (j == 0 && decide (i < 13)) || (i == 14 && j == 13)
abbrev tab := clsTab 13 15 subL
def cls : ClsD := { all := allL, errs := [⟨"BadClock", ["part"], st_BadClock⟩, ⟨"BadCommand", ["word"], st_BadCommand⟩, ⟨"BadField", ["part"], st_BadField⟩, ⟨"BadNumber", ["part"], st_BadNumber⟩, ⟨"BadPaper", ["part"], st_BadPaper⟩, ⟨"BadText", ["line", "word"], st_BadText⟩, ⟨"BadValue", ["part"], st_BadValue⟩, ⟨"BadWish", ["part"], st_BadWish⟩, ⟨"Misfit", ["part"], st_Misfit⟩, ⟨"NoName", ["name"], st_NoName⟩, ⟨"Nothing", ["part"], st_Nothing⟩, ⟨"TooMany", ["what", "most"], st_TooMany⟩], words := wordsL, sub := subL, imps := [], own := owns.map (·.name), okX := ownB allL owns wordsL subL }
/-- what is told of the text's names -/
structure Fx (K : PySem.W.Frag) (mg : Str → Option Value) : Prop where
  m_copied : mg "copied" = some (.ref (He.ga K "copied"))
  f_copied : ∃ fd, FunD K "copied" "copied" (defArgs s_copied) (defBody s_copied) (defScope s_copied) [] [] (He.ga K "copied") fd
  m__law_pen : mg "_law_pen" = some (.ref (He.ga K "_law_pen"))
  f__law_pen : ∃ fd, FunD K "_law_pen" "_law_pen" (defArgs s__law_pen) (defBody s__law_pen) (defScope s__law_pen) [] [] (He.ga K "_law_pen") fd
  m__law_draw : mg "_law_draw" = some (.ref (He.ga K "_law_draw"))
  f__law_draw : ∃ fd, FunD K "_law_draw" "_law_draw" (defArgs s__law_draw) (defBody s__law_draw) (defScope s__law_draw) [] [] (He.ga K "_law_draw") fd
  m__law_pick : mg "_law_pick" = some (.ref (He.ga K "_law_pick"))
  f__law_pick : ∃ fd, FunD K "_law_pick" "_law_pick" (defArgs s__law_pick) (defBody s__law_pick) (defScope s__law_pick) [] [] (He.ga K "_law_pick") fd
  m__law_kinds_of : mg "_law_kinds_of" = some (.ref (He.ga K "_law_kinds_of"))
  f__law_kinds_of : ∃ fd, FunD K "_law_kinds_of" "_law_kinds_of" (defArgs s__law_kinds_of) (defBody s__law_kinds_of) (defScope s__law_kinds_of) [] [] (He.ga K "_law_kinds_of") fd
  m__law_errors_right : mg "_law_errors_right" = some (.ref (He.ga K "_law_errors_right"))
  f__law_errors_right : ∃ fd, FunD K "_law_errors_right" "_law_errors_right" (defArgs s__law_errors_right) (defBody s__law_errors_right) (defScope s__law_errors_right) [] [] (He.ga K "_law_errors_right") fd
  m__law_tuples : mg "_law_tuples" = some (.ref (He.ga K "_law_tuples"))
  f__law_tuples : ∃ fd, FunD K "_law_tuples" "_law_tuples" (defArgs s__law_tuples) (defBody s__law_tuples) (defScope s__law_tuples) [] [] (He.ga K "_law_tuples") fd
  f_Denial__bool__ : ∃ fd, FunD K "__bool__" "Denial.__bool__" (defArgs s_Denial__bool__) (defBody s_Denial__bool__) (defScope s_Denial__bool__) [] [] (He.ma K (He.ga K "Denial") "__bool__") fd
  f_Paper__bool__ : ∃ fd, FunD K "__bool__" "Paper.__bool__" (defArgs s_Paper__bool__) (defBody s_Paper__bool__) (defScope s_Paper__bool__) [] [] (He.ma K (He.ga K "Paper") "__bool__") fd
  f_Paper__eq__ : ∃ fd, FunD K "__eq__" "Paper.__eq__" (defArgs s_Paper__eq__) (defBody s_Paper__eq__) (defScope s_Paper__eq__) [] [] (He.ma K (He.ga K "Paper") "__eq__") fd
  f_Paper__init__ : ∃ fd, FunD K "__init__" "Paper.__init__" (defArgs s_Paper__init__) (defBody s_Paper__init__) (defScope s_Paper__init__) [] [] (He.ma K (He.ga K "Paper") "__init__") fd
  m_law : mg "law" = some (.ref (He.ga K "law"))
  f_law : ∃ fd, FunD K "law" "law" (defArgs s_law) (defBody s_law) (defScope s_law) [] [] (He.ga K "law") fd
  b_ValueError : mg "ValueError" = none
  b_abs : mg "abs" = none
  b_bool : mg "bool" = none
  b_dict : mg "dict" = none
  b_enumerate : mg "enumerate" = none
  b_int : mg "int" = none
  b_isinstance : mg "isinstance" = none
  b_len : mg "len" = none
  b_list : mg "list" = none
  b_range : mg "range" = none
  b_repr : mg "repr" = none
  b_tuple : mg "tuple" = none
  c_NearError : mg "NearError" = some (.ref (cls.cA K 0))
  c_BadField : mg "BadField" = some (.ref (cls.cA K 1))
  c_BadClock : mg "BadClock" = some (.ref (cls.cA K 2))
  c_BadWish : mg "BadWish" = some (.ref (cls.cA K 3))
  c_BadValue : mg "BadValue" = some (.ref (cls.cA K 4))
  c_BadNumber : mg "BadNumber" = some (.ref (cls.cA K 5))
  c_BadPaper : mg "BadPaper" = some (.ref (cls.cA K 6))
  c_BadCommand : mg "BadCommand" = some (.ref (cls.cA K 7))
  c_NoName : mg "NoName" = some (.ref (cls.cA K 8))
  c_Misfit : mg "Misfit" = some (.ref (cls.cA K 9))
  c_Nothing : mg "Nothing" = some (.ref (cls.cA K 10))
  c_BadText : mg "BadText" = some (.ref (cls.cA K 11))
  c_TooMany : mg "TooMany" = some (.ref (cls.cA K 12))
  c_Paper : mg "Paper" = some (.ref (cls.cA K 13))
  c_Denial : mg "Denial" = some (.ref (cls.cA K 14))
  e_BadClock : ErrT P K (cls.cA K 2) ["part"]
  e_BadCommand : ErrT P K (cls.cA K 7) ["word"]
  e_BadField : ErrT P K (cls.cA K 1) ["part"]
  e_BadNumber : ErrT P K (cls.cA K 5) ["part"]
  e_BadPaper : ErrT P K (cls.cA K 6) ["part"]
  e_BadText : ErrT P K (cls.cA K 11) ["line", "word"]
  e_BadValue : ErrT P K (cls.cA K 4) ["part"]
  e_BadWish : ErrT P K (cls.cA K 3) ["part"]
  e_Misfit : ErrT P K (cls.cA K 9) ["part"]
  e_NoName : ErrT P K (cls.cA K 8) ["name"]
  e_Nothing : ErrT P K (cls.cA K 10) ["part"]
  e_TooMany : ErrT P K (cls.cA K 12) ["what", "most"]
  eT : ∀ {tabs : List (Addr × Str)}, ErrTab (mkTb K (cls.cA K) tabs) cls.all.length cls.sub
  exm : ∀ (c : Nat) (b : Bool), (if c < cls.all.length then some true else none) = some b → PySem.W.exmOne K (.ref (cls.cA K c)) (.ref (cls.cA K 0)) = some b
  no_word : ∀ c, c < cls.all.length → PySem.W.findIn K (.ref (cls.cA K c)) "word" = some none
  no_name : ∀ c, c < cls.all.length → PySem.W.findIn K (.ref (cls.cA K c)) "name" = some none
  no_line : ∀ c, c < cls.all.length → PySem.W.findIn K (.ref (cls.cA K c)) "line" = some none
  no_what : ∀ c, c < cls.all.length → PySem.W.findIn K (.ref (cls.cA K c)) "what" = some none
  no_most : ∀ c, c < cls.all.length → PySem.W.findIn K (.ref (cls.cA K c)) "most" = some none
  no_part : ∀ c, c < cls.all.length → PySem.W.findIn K (.ref (cls.cA K c)) "part" = some none
  no_parts : ∀ c, c < cls.all.length → PySem.W.findIn K (.ref (cls.cA K c)) "parts" = some none
  nsuper : mg "super" = none
  ow : ownB allL owns wordsL subL K = true
section
variable {w : World} {K : PySem.W.Frag} {mg : Str → Option Value} {base : Heap} {tabs : List (Addr × Str)}
theorem cT (Z : Fx K mg) : ClsT (mkTb K (cls.cA K) tabs) 13 15 wordsL := ownB_clsT Z.ow rfl (fun _ => rfl) fun c hc => Z.eT.ask c hc
theorem iT (Z : Fx K mg) : IsT (mkTb K (cls.cA K) tabs) tab := ownB_isT Z.ow rfl fun _ => rfl
def isOwn (c : Nat) : Bool := decide (13 ≤ c) && decide (c < 15)
theorem isOwn_no (Z : Fx K mg) {f : Str} (c : Nat) (hc : isOwn c = true) (hf : f ∈ wordsL) : InsT K (cls.cA K c) ∧ NoAttr K (cls.cA K c) f := by
  obtain ⟨h1, h2⟩ := Bool.and_eq_true_iff.mp hc
  exact ⟨(cT (tabs := []) Z).ins c (of_decide_eq_true h1) (of_decide_eq_true h2), (cT (tabs := []) Z).no c (of_decide_eq_true h2) f hf⟩
def has_eq (c : Nat) : Bool := c == 13 || c == 14
def has_bo (c : Nat) : Bool := c == 13 || c == 14
theorem has_eq_in (c : Nat) (h : has_eq c = true) : 13 ≤ c ∧ c < 15 := by
  rcases Bool.or_eq_true_iff.mp h with h | h <;> (rw [eq_of_beq h]; decide)
/-! #### copied -/
abbrev N_copied : List Str := ["value", "one", "key"]
theorem sc_copied : FnScope N_copied ["value"] (defScope s_copied) := ⟨rfl, rfl, rfl, by decide +kernel, rfl, by decide +kernel, by decide +kernel⟩
def w_copied (cr : WD) : WS := (wSeq (wIf (wTest (wCB (isaD tab 13 15) (wCons (wVar 0) (wCons (wTup (wCons (wC (.ty "list")) (wCons (wC (.ty "tuple")) wNil))) wNil)))) (wRet (wCB tupD (wCons (wOfF (wComp (wItA (wVar 0)) (gN 1) wYes (wCall cr [] (wCons (wVar 1) wNil)) [1])) wNil))) wNext)
  (wSeq (wIf (wTest (wCB (isaD tab 13 15) (wCons (wVar 0) (wCons (wC (.ty "dict")) wNil)))) (wRet (wDcItems 0 (gT 2 (gsCons (gN 2) (gsCons (gN 1) gsNil))) (wVar 2) (wCall cr [] (wCons (wVar 1) wNil)) [2, 1])) wNext)
  (wRet (wVar 0))))
def c_copied : Nat → WD
  | 0 => fun _ _ _ _ => False
  | n + 1 => wDef 1 N_copied.length (w_copied (c_copied n))
theorem ok_copied (Z : Fx K mg) : ∀ n : Nat, Cal P w K mg base (0 + n) "copied" ["value"] (spV (mkTb K (cls.cA K) tabs) (c_copied n))
  | 0 => by
    obtain ⟨fd, F⟩ := Z.f_copied
    exact cal_zero Z.m_copied F.kp (FunD.bindsN (ps := ["value"]) F fun _ _ _ _ _ _ us hl => match us, hl with | [_], _ => rfl)
  | n + 1 => by
    obtain ⟨fd, F⟩ := Z.f_copied
    have ih := ok_copied Z n
    generalize hcr : c_copied n = cr at ih
    refine ⟨He.ga K "copied", fd, Z.m_copied, F.kp, ?_, FunD.bindsN (ps := ["value"]) F fun _ _ _ _ _ _ us hl => match us, hl with | [_], _ => rfl⟩
    show FnG P w K mg base (0 + n + 1) _ fd ["value"] (spV _ (wDef 1 N_copied.length (w_copied (c_copied n))))
    rw [hcr]
    refine fnV F sc_copied (fun cdv A outer s H E hr hg => ?_)
    have tk := takes_of (X := cxOf (L2.CX P w) P w K mg base N_copied "copied" (defScope s_copied) (He.ga K "copied") cdv A outer s H E) (E := E) rfl rfl rfl rfl
    exact ⟨_, (dss_cons (ds_if (dt_val (g_blt call_isG (d_isa (cT Z) (iT Z)) Z.b_isinstance (da_cons (g_var (i := 0) rfl) (da_cons (de_tup (da_cons (de_ty rfl Z.b_list bo_list) (da_cons (de_ty rfl Z.b_tuple bo_tuple) da_nil))) da_nil)) bo_isinstance)) (dss_one (ds_ret (g_bty (call_tuple_of) d_tup Z.b_tuple (da_cons (de_ofF (g_lc (own := [("one", 1)]) rfl sc_copied.nd (di_any rfl (g_var (i := 0) rfl)) (blkOk_by (N := N_copied) (sc := defScope s_copied) (by decide +kernel)) (fun s H C cl fp => (dg_n (i := 1) sc_copied.nd rfl)) (fun s H C cl fp => (g_call ih hr hg LamX.takes0 (da_cons (g_var (i := 1) rfl) da_nil))) (gv_name (by decide)))) da_nil) bo_tuple))) dss_nil)
    (dss_cons (ds_if (dt_val (g_blt call_isG (d_isa (cT Z) (iT Z)) Z.b_isinstance (da_cons (g_var (i := 0) rfl) (da_cons (de_ty rfl Z.b_dict bo_dict) da_nil)) bo_isinstance)) (dss_one (ds_ret (g_dcItems (own := [("key", 2), ("one", 1)]) rfl sc_copied.nd (p_var (i := 0) rfl) (blkOk_by (N := N_copied) (sc := defScope s_copied) (by decide +kernel)) (fun s H C cl fp => (dg_tup (n := 2) rfl (dg_cons (dg_n (i := 2) sc_copied.nd rfl) (dg_cons (dg_n (i := 1) sc_copied.nd rfl) dg_nil)))) (fun s H C cl fp => (g_var (i := 2) rfl)) (fun s H C cl fp => (g_call ih hr hg LamX.takes0 (da_cons (g_var (i := 1) rfl) da_nil))) (gv_tup (gvs_cons gm_name (gv_name (by decide)) (gvs_cons gm_name (gv_name (by decide)) gvs_nil)))))) dss_nil)
    (dss_one (ds_ret (g_var (i := 0) rfl)))))⟩
/-! #### _law_pen -/
abbrev N__law_pen : List Str := ["script", "cell"]
theorem sc__law_pen : FnScope N__law_pen ["script"] (defScope s__law_pen) := ⟨rfl, rfl, rfl, by decide +kernel, rfl, by decide +kernel, by decide +kernel⟩
def w__law_pen : WS := (wRetF (wLstF (wCons (wOfF (wComp (wItA (wSl (wVar 0) wNoP (wP (wC (.int 63))))) (gN 1) wYes (wCB intD (wCons (wVar 1) wNil)) [1])) (wCons (wC (.int 0)) (wCons (wC (.int 0)) wNil)))))
abbrev c__law_pen : WDF := wDefF 1 N__law_pen.length w__law_pen
theorem ok__law_pen (Z : Fx K mg) : Cal P w K mg base 1 "_law_pen" ["script"] (spF (mkTb K (cls.cA K) tabs) c__law_pen) := by
  obtain ⟨fd, F⟩ := Z.f__law_pen
  refine ⟨He.ga K "_law_pen", fd, Z.m__law_pen, F.kp, fnF F sc__law_pen (fun cdv A outer s H E hr hg => ?_), FunD.bindsN (ps := ["script"]) F fun _ _ _ _ _ _ us hl => match us, hl with | [_], _ => rfl⟩
  have tk := takes_of (X := cxOf (L2.CX P w) P w K mg base N__law_pen "_law_pen" (defScope s__law_pen) (He.ga K "_law_pen") cdv A outer s H E) (E := E) rfl rfl rfl rfl
  exact ⟨_, (dss_one (ds_retF (df_lst (da_cons (de_ofF (g_lc (own := [("cell", 1)]) rfl sc__law_pen.nd (di_any rfl (de_sl rfl (g_var (i := 0) rfl) do_none (do_some de_int))) (blkOk_by (N := N__law_pen) (sc := defScope s__law_pen) (by decide +kernel)) (fun s H C cl fp => (dg_n (i := 1) sc__law_pen.nd rfl)) (fun s H C cl fp => (g_bty (call_int1) d_int Z.b_int (da_cons (g_var (i := 1) rfl) da_nil) bo_int)) (gv_name (by decide)))) (da_cons de_int (da_cons de_int da_nil))))))⟩
/-! #### _law_draw -/
abbrev N__law_draw : List Str := ["pen", "many", "rest", "at", "cell", "mixed"]
theorem sc__law_draw : FnScope N__law_draw ["pen", "many"] (defScope s__law_draw) := ⟨rfl, rfl, rfl, by decide +kernel, rfl, by decide +kernel, by decide +kernel⟩
def w__law_draw : WS := (wSeq (wIf (wTest (wOp gtD (wPen 0 2) (wC (.int 0)))) (wSeq (wSet 2 (wCB intD (wCons (wPen 0 2) wNil)))
  (wSeq (wPenRest 0 (wOp divD (wVar 2) (wVar 1)))
  (wRet (wOp modD (wCB intD (wCons (wVar 2) wNil)) (wVar 1))))) wNext)
  (wSeq (wSet 3 (wPen 0 1))
  (wSeq (wPenAt 0 (wOp addD (wVar 3) (wC (.int 1))))
  (wSeq (wSet 4 (wOp addD (wOp mulD (wC (.int 57793)) (wVar 3)) (wC (.int 31013))))
  (wSeq (wIf (wTest (wOp neD (wPen 0 0) (wLst wNil))) (wSet 4 (wOp ixD (wPen 0 0) (wOp modD (wCB intD (wCons (wVar 3) wNil)) (wCB lenD (wCons (wPen 0 0) wNil))))) wNext)
  (wSeq (wIf (wAndT (wTest (wOp ltD (wVar 3) (wCB lenD (wCons (wPen 0 0) wNil)))) (wTest (wOp geD (wCB absD (wCons (wVar 4) wNil)) (wOp powD (wC (.int 10)) (wC (.int 18)))))) (wSeq (wSet 2 (wOp addD (wOp mulD (wC (.int 2)) (wOp subD (wCB absD (wCons (wVar 4) wNil)) (wOp powD (wC (.int 10)) (wC (.int 18))))) (wCB intD (wCons (wOp ltD (wVar 4) (wC (.int 0))) wNil))))
  (wSeq (wPenRest 0 (wOp divD (wCB intD (wCons (wVar 2) wNil)) (wVar 1)))
  (wRet (wOp modD (wCB intD (wCons (wVar 2) wNil)) (wVar 1))))) wNext)
  (wSeq (wSet 5 (wOp modD (wCB intD (wCons (wOp powD (wOp addD (wOp addD (wOp modD (wCB intD (wCons (wVar 4) wNil)) (wC (.int 2147483549))) (wOp mulD (wC (.int 84653)) (wVar 3))) (wC (.int 2203))) (wC (.int 5))) wNil)) (wC (.int 2147483563))))
  (wSeq (wSet 5 (wOp modD (wCB intD (wCons (wOp powD (wOp addD (wOp addD (wOp mulD (wVar 5) (wOp addD (wOp mulD (wC (.int 2)) (wVar 3)) (wC (.int 2203)))) (wOp mulD (wOp mulD (wC (.int 57793)) (wVar 3)) (wVar 3))) (wC (.int 84653))) (wC (.int 3))) wNil)) (wC (.int 2147483587))))
  (wRet (wOp modD (wCB intD (wCons (wOp divD (wVar 5) (wC (.int 64))) wNil)) (wVar 1)))))))))))
abbrev c__law_draw : WD := wDef 2 N__law_draw.length w__law_draw
theorem ok__law_draw (Z : Fx K mg) : Cal P w K mg base 1 "_law_draw" ["pen", "many"] (spV (mkTb K (cls.cA K) tabs) c__law_draw) := by
  obtain ⟨fd, F⟩ := Z.f__law_draw
  refine ⟨He.ga K "_law_draw", fd, Z.m__law_draw, F.kp, fnV F sc__law_draw (fun cdv A outer s H E hr hg => ?_), FunD.bindsN (ps := ["pen", "many"]) F fun _ _ _ _ _ _ us hl => match us, hl with | [_, _], _ => rfl⟩
  have tk := takes_of (X := cxOf (L2.CX P w) P w K mg base N__law_draw "_law_draw" (defScope s__law_draw) (He.ga K "_law_draw") cdv A outer s H E) (E := E) rfl rfl rfl rfl
  exact ⟨_, (dss_cons (ds_if (dt_cmp op_gt d_gt (de_pen (c := 2) rfl (p_var (i := 0) rfl)) de_int (nomark _)) (dss_cons (g_set (i := 2) sc__law_draw.nd rfl (g_bty (call_int1) d_int Z.b_int (da_cons (de_pen (c := 2) rfl (p_var (i := 0) rfl)) da_nil) bo_int))
    (dss_cons (ds_penRest (i := 0) (p_var (i := 0) rfl) (de_op op_fdivX d_div (g_var (i := 2) rfl) (g_var (i := 1) rfl)))
    (dss_one (ds_ret (de_op op_modN d_mod (g_bty (call_int1) d_int Z.b_int (da_cons (g_var (i := 2) rfl) da_nil) bo_int) (g_var (i := 1) rfl)))))) dss_nil)
    (dss_cons (g_set (i := 3) sc__law_draw.nd rfl (de_pen (c := 1) rfl (p_var (i := 0) rfl)))
    (dss_cons (ds_penAt (i := 0) (p_var (i := 0) rfl) (de_op op_adds d_add (g_var (i := 3) rfl) de_int))
    (dss_cons (g_set (i := 4) sc__law_draw.nd rfl (de_op op_adds d_add (de_op op_muls d_mul de_int (g_var (i := 3) rfl)) de_int))
    (dss_cons (ds_if (dt_cmp (op_neD hr.units) d_ne (de_pen (c := 0) rfl (p_var (i := 0) rfl)) (de_lst da_nil) (nomark _)) (dss_one (g_set (i := 4) sc__law_draw.nd rfl (de_ix rfl (de_pen (c := 0) rfl (p_var (i := 0) rfl)) (de_op op_modN d_mod (g_bty (call_int1) d_int Z.b_int (da_cons (g_var (i := 3) rfl) da_nil) bo_int) (g_blt (call_len) d_len Z.b_len (da_cons (de_pen (c := 0) rfl (p_var (i := 0) rfl)) da_nil) bo_len))))) dss_nil)
    (dss_cons (ds_if (dt_w (dw_and (dt_cmp op_lt d_lt (g_var (i := 3) rfl) (g_blt (call_len) d_len Z.b_len (da_cons (de_pen (c := 0) rfl (p_var (i := 0) rfl)) da_nil) bo_len) (nomark _)) (dw_and1 (dt_cmp op_ge d_ge (g_blt (call_abs) d_abs Z.b_abs (da_cons (g_var (i := 4) rfl) da_nil) bo_abs) (de_op op_pow d_pow de_int de_int) (nomark _))))) (dss_cons (g_set (i := 2) sc__law_draw.nd rfl (de_op op_adds d_add (de_op op_muls d_mul de_int (de_op op_sub d_sub (g_blt (call_abs) d_abs Z.b_abs (da_cons (g_var (i := 4) rfl) da_nil) bo_abs) (de_op op_pow d_pow de_int de_int))) (g_bty (call_int1) d_int Z.b_int (da_cons (de_cmp op_lt d_lt (g_var (i := 4) rfl) de_int (nomark _)) da_nil) bo_int)))
    (dss_cons (ds_penRest (i := 0) (p_var (i := 0) rfl) (de_op op_fdivX d_div (g_bty (call_int1) d_int Z.b_int (da_cons (g_var (i := 2) rfl) da_nil) bo_int) (g_var (i := 1) rfl)))
    (dss_one (ds_ret (de_op op_modN d_mod (g_bty (call_int1) d_int Z.b_int (da_cons (g_var (i := 2) rfl) da_nil) bo_int) (g_var (i := 1) rfl)))))) dss_nil)
    (dss_cons (g_set (i := 5) sc__law_draw.nd rfl (de_op op_modN d_mod (g_bty (call_int1) d_int Z.b_int (da_cons (de_op op_pow d_pow (de_op op_adds d_add (de_op op_adds d_add (de_op op_modN d_mod (g_bty (call_int1) d_int Z.b_int (da_cons (g_var (i := 4) rfl) da_nil) bo_int) de_int) (de_op op_muls d_mul de_int (g_var (i := 3) rfl))) de_int) de_int) da_nil) bo_int) de_int))
    (dss_cons (g_set (i := 5) sc__law_draw.nd rfl (de_op op_modN d_mod (g_bty (call_int1) d_int Z.b_int (da_cons (de_op op_pow d_pow (de_op op_adds d_add (de_op op_adds d_add (de_op op_muls d_mul (g_var (i := 5) rfl) (de_op op_adds d_add (de_op op_muls d_mul de_int (g_var (i := 3) rfl)) de_int)) (de_op op_muls d_mul (de_op op_muls d_mul de_int (g_var (i := 3) rfl)) (g_var (i := 3) rfl))) de_int) de_int) da_nil) bo_int) de_int))
    (dss_one (ds_ret (de_op op_modN d_mod (g_bty (call_int1) d_int Z.b_int (da_cons (de_op op_fdivX d_div (g_var (i := 5) rfl) de_int) da_nil) bo_int) (g_var (i := 1) rfl))))))))))))⟩
/-! #### _law_pick -/
abbrev N__law_pick : List Str := ["pen", "some"]
theorem sc__law_pick : FnScope N__law_pick ["pen", "some"] (defScope s__law_pick) := ⟨rfl, rfl, rfl, by decide +kernel, rfl, by decide +kernel, by decide +kernel⟩
def w__law_pick : WS := (wRet (wOp ixD (wVar 1) (wCall c__law_draw [] (wCons (wVar 0) (wCons (wCB lenD (wCons (wVar 1) wNil)) wNil)))))
abbrev c__law_pick : WD := wDef 2 N__law_pick.length w__law_pick
theorem ok__law_pick (Z : Fx K mg) : Cal P w K mg base 2 "_law_pick" ["pen", "some"] (spV (mkTb K (cls.cA K) tabs) c__law_pick) := by
  obtain ⟨fd, F⟩ := Z.f__law_pick
  refine ⟨He.ga K "_law_pick", fd, Z.m__law_pick, F.kp, fnV F sc__law_pick (fun cdv A outer s H E hr hg => ?_), FunD.bindsN (ps := ["pen", "some"]) F fun _ _ _ _ _ _ us hl => match us, hl with | [_, _], _ => rfl⟩
  have tk := takes_of (X := cxOf (L2.CX P w) P w K mg base N__law_pick "_law_pick" (defScope s__law_pick) (He.ga K "_law_pick") cdv A outer s H E) (E := E) rfl rfl rfl rfl
  exact ⟨_, (dss_one (ds_ret (de_ix rfl (g_var (i := 1) rfl) (g_call (ok__law_draw Z) (hr.mono (by decide)) hg tk (da_cons (g_var (i := 0) rfl) (da_cons (g_blt (call_len) d_len Z.b_len (da_cons (g_var (i := 1) rfl) da_nil) bo_len) da_nil))))))⟩
/-! #### _law_kinds_of -/
abbrev N__law_kinds_of : List Str := ["error", "found"]
theorem sc__law_kinds_of : FnScope N__law_kinds_of ["error"] (defScope s__law_kinds_of) := ⟨rfl, rfl, rfl, by decide +kernel, rfl, by decide +kernel, by decide +kernel⟩
def w__law_kinds_of : WS := (wSeq (wSet 1 (wLst (wCons (wCB (isaD tab 13 15) (wCons (wVar 0) (wCons (wC (.cls 1)) wNil))) (wCons (wCB (isaD tab 13 15) (wCons (wVar 0) (wCons (wC (.cls 2)) wNil))) (wCons (wCB (isaD tab 13 15) (wCons (wVar 0) (wCons (wC (.cls 3)) wNil))) (wCons (wCB (isaD tab 13 15) (wCons (wVar 0) (wCons (wC (.cls 4)) wNil))) (wCons (wCB (isaD tab 13 15) (wCons (wVar 0) (wCons (wC (.cls 5)) wNil))) wNil)))))))
  (wSeq (wSet 1 (wOp addD (wVar 1) (wLst (wCons (wCB (isaD tab 13 15) (wCons (wVar 0) (wCons (wC (.cls 6)) wNil))) (wCons (wCB (isaD tab 13 15) (wCons (wVar 0) (wCons (wC (.cls 7)) wNil))) (wCons (wCB (isaD tab 13 15) (wCons (wVar 0) (wCons (wC (.cls 8)) wNil))) (wCons (wCB (isaD tab 13 15) (wCons (wVar 0) (wCons (wC (.cls 9)) wNil))) (wCons (wCB (isaD tab 13 15) (wCons (wVar 0) (wCons (wC (.cls 10)) wNil))) wNil))))))))
  (wRet (wOp addD (wVar 1) (wLst (wCons (wCB (isaD tab 13 15) (wCons (wVar 0) (wCons (wC (.cls 11)) wNil))) (wCons (wCB (isaD tab 13 15) (wCons (wVar 0) (wCons (wC (.cls 12)) wNil))) wNil)))))))
abbrev c__law_kinds_of : WD := wDef 1 N__law_kinds_of.length w__law_kinds_of
theorem ok__law_kinds_of (Z : Fx K mg) : Cal P w K mg base 1 "_law_kinds_of" ["error"] (spV (mkTb K (cls.cA K) tabs) c__law_kinds_of) := by
  obtain ⟨fd, F⟩ := Z.f__law_kinds_of
  refine ⟨He.ga K "_law_kinds_of", fd, Z.m__law_kinds_of, F.kp, fnV F sc__law_kinds_of (fun cdv A outer s H E hr hg => ?_), FunD.bindsN (ps := ["error"]) F fun _ _ _ _ _ _ us hl => match us, hl with | [_], _ => rfl⟩
  have tk := takes_of (X := cxOf (L2.CX P w) P w K mg base N__law_kinds_of "_law_kinds_of" (defScope s__law_kinds_of) (He.ga K "_law_kinds_of") cdv A outer s H E) (E := E) rfl rfl rfl rfl
  exact ⟨_, (dss_cons (g_set (i := 1) sc__law_kinds_of.nd rfl (de_lst (da_cons (g_blt call_isG (d_isa (cT Z) (iT Z)) Z.b_isinstance (da_cons (g_var (i := 0) rfl) (da_cons (de_cls (c := 1) rfl Z.c_BadField) da_nil)) bo_isinstance) (da_cons (g_blt call_isG (d_isa (cT Z) (iT Z)) Z.b_isinstance (da_cons (g_var (i := 0) rfl) (da_cons (de_cls (c := 2) rfl Z.c_BadClock) da_nil)) bo_isinstance) (da_cons (g_blt call_isG (d_isa (cT Z) (iT Z)) Z.b_isinstance (da_cons (g_var (i := 0) rfl) (da_cons (de_cls (c := 3) rfl Z.c_BadWish) da_nil)) bo_isinstance) (da_cons (g_blt call_isG (d_isa (cT Z) (iT Z)) Z.b_isinstance (da_cons (g_var (i := 0) rfl) (da_cons (de_cls (c := 4) rfl Z.c_BadValue) da_nil)) bo_isinstance) (da_cons (g_blt call_isG (d_isa (cT Z) (iT Z)) Z.b_isinstance (da_cons (g_var (i := 0) rfl) (da_cons (de_cls (c := 5) rfl Z.c_BadNumber) da_nil)) bo_isinstance) da_nil)))))))
    (dss_cons (g_set (i := 1) sc__law_kinds_of.nd rfl (de_op op_adds d_add (g_var (i := 1) rfl) (de_lst (da_cons (g_blt call_isG (d_isa (cT Z) (iT Z)) Z.b_isinstance (da_cons (g_var (i := 0) rfl) (da_cons (de_cls (c := 6) rfl Z.c_BadPaper) da_nil)) bo_isinstance) (da_cons (g_blt call_isG (d_isa (cT Z) (iT Z)) Z.b_isinstance (da_cons (g_var (i := 0) rfl) (da_cons (de_cls (c := 7) rfl Z.c_BadCommand) da_nil)) bo_isinstance) (da_cons (g_blt call_isG (d_isa (cT Z) (iT Z)) Z.b_isinstance (da_cons (g_var (i := 0) rfl) (da_cons (de_cls (c := 8) rfl Z.c_NoName) da_nil)) bo_isinstance) (da_cons (g_blt call_isG (d_isa (cT Z) (iT Z)) Z.b_isinstance (da_cons (g_var (i := 0) rfl) (da_cons (de_cls (c := 9) rfl Z.c_Misfit) da_nil)) bo_isinstance) (da_cons (g_blt call_isG (d_isa (cT Z) (iT Z)) Z.b_isinstance (da_cons (g_var (i := 0) rfl) (da_cons (de_cls (c := 10) rfl Z.c_Nothing) da_nil)) bo_isinstance) da_nil))))))))
    (dss_one (ds_ret (de_op op_adds d_add (g_var (i := 1) rfl) (de_lst (da_cons (g_blt call_isG (d_isa (cT Z) (iT Z)) Z.b_isinstance (da_cons (g_var (i := 0) rfl) (da_cons (de_cls (c := 11) rfl Z.c_BadText) da_nil)) bo_isinstance) (da_cons (g_blt call_isG (d_isa (cT Z) (iT Z)) Z.b_isinstance (da_cons (g_var (i := 0) rfl) (da_cons (de_cls (c := 12) rfl Z.c_TooMany) da_nil)) bo_isinstance) da_nil))))))))⟩
/-! #### _law_errors_right -/
abbrev N__law_errors_right : List Str := ["pen", "value", "some", "named", "at", "error", "spot", "parts", "rest"]
theorem sc__law_errors_right : FnScope N__law_errors_right ["pen"] (defScope s__law_errors_right) := ⟨rfl, rfl, rfl, by decide +kernel, rfl, by decide +kernel, by decide +kernel⟩
def w__law_errors_right : WS := (wSeq (wSet 1 (wCall c__law_pick [] (wCons (wVar 0) (wCons (wLst (wCons (wC .non) (wCons (wC (.int 5)) (wCons (wC (.str "a")) (wCons (wLst (wCons (wC (.int 1)) (wCons (wLst (wCons (wC (.int 2)) wNil)) wNil))) (wCons (wTup (wCons (wC (.int 3)) wNil)) (wCons (wDisp (((wC (.str "k")), (wC (.int 1))) :: [])) (wCons (wC (.bl true)) wNil)))))))) wNil))))
  (wSeq (wSet 2 (wLst (wCons (wMkV 1 ["part"] (wCons (wVar 1) wNil)) (wCons (wMkV 2 ["part"] (wCons (wVar 1) wNil)) (wCons (wMkV 3 ["part"] (wCons (wVar 1) wNil)) (wCons (wMkV 4 ["part"] (wCons (wVar 1) wNil)) (wCons (wMkV 5 ["part"] (wCons (wVar 1) wNil)) (wCons (wMkV 6 ["part"] (wCons (wVar 1) wNil)) (wCons (wMkV 7 ["word"] (wCons (wVar 1) wNil)) (wCons (wMkV 8 ["name"] (wCons (wVar 1) wNil)) (wCons (wMkV 9 ["part"] (wCons (wVar 1) wNil)) wNil)))))))))))
  (wSeq (wSet 2 (wOp addD (wVar 2) (wLst (wCons (wMkV 10 ["part"] (wCons (wVar 1) wNil)) (wCons (wMkV 11 ["line", "word"] (wCons (wVar 1) (wCons (wC (.int 1)) wNil))) (wCons (wMkV 12 ["what", "most"] (wCons (wVar 1) (wCons (wC (.int 1)) wNil))) wNil))))))
  (wSeq (wSet 3 (wLst (wCons (wMkK 1 ["part"] [0] 1 (wCons (wVar 1) wNil)) (wCons (wMkK 2 ["part"] [0] 1 (wCons (wVar 1) wNil)) (wCons (wMkK 3 ["part"] [0] 1 (wCons (wVar 1) wNil)) (wCons (wMkK 4 ["part"] [0] 1 (wCons (wVar 1) wNil)) (wCons (wMkK 5 ["part"] [0] 1 (wCons (wVar 1) wNil)) (wCons (wMkK 6 ["part"] [0] 1 (wCons (wVar 1) wNil)) wNil))))))))
  (wSeq (wSet 3 (wOp addD (wVar 3) (wLst (wCons (wMkK 7 ["word"] [0] 1 (wCons (wVar 1) wNil)) (wCons (wMkK 8 ["name"] [0] 1 (wCons (wVar 1) wNil)) (wCons (wMkK 9 ["part"] [0] 1 (wCons (wVar 1) wNil)) (wCons (wMkK 10 ["part"] [0] 1 (wCons (wVar 1) wNil)) (wCons (wMkK 11 ["line", "word"] [1, 0] 2 (wCons (wC (.int 1)) (wCons (wVar 1) wNil))) (wCons (wMkK 12 ["what", "most"] [1, 0] 2 (wCons (wC (.int 1)) (wCons (wVar 1) wNil))) wNil)))))))))
  (wSeq (wFor (wItE (wCons (wVar 2) wNil)) (gT 2 (gsCons (gN 4) (gsCons (gN 5) gsNil))) (wSeq (wIf (wOrT (wTest (wOp neD (wCall c__law_kinds_of [] (wCons (wVar 5) wNil)) (wOfF (wComp (wItR1 (wC (.int 12))) (gN 6) wYes (wOp eqD (wVar 6) (wVar 4)) [6])))) (wTest (wOp neD (wCall c__law_kinds_of [] (wCons (wOp ixD (wVar 3) (wVar 4)) wNil)) (wOfF (wComp (wItR1 (wC (.int 12))) (gN 6) wYes (wOp eqD (wVar 6) (wVar 4)) [6]))))) (wRet (wC (.bl false))) wNext)
  (wIf (wOrT (wNotT (wTest (wCB (isaD tab 13 15) (wCons (wVar 5) (wCons (wC (.cls 0)) wNil))))) (wNotT (wTest (wCB (isaD tab 13 15) (wCons (wVar 5) (wCons (wC (.ty "ValueError")) wNil)))))) (wRet (wC (.bl false))) wNext)))
  (wSeq (wSet 7 (wOp addD (wOfF (wComp (wItA (wOp addD (wSl (wVar 2) wNoP (wP (wC (.int 6)))) (wSl (wVar 2) (wP (wC (.int 8))) (wP (wC (.int 10)))))) (gN 5) wYes (wUn (attrD "part" 13 15) (wVar 5)) [5])) (wOfF (wComp (wItA (wOp addD (wSl (wVar 3) wNoP (wP (wC (.int 6)))) (wSl (wVar 3) (wP (wC (.int 8))) (wP (wC (.int 10)))))) (gN 5) wYes (wUn (attrD "part" 13 15) (wVar 5)) [5]))))
  (wSeq (wSet 8 (wLst (wCons (wUn (attrD "word" 13 15) (wOp ixD (wVar 2) (wC (.int 6)))) (wCons (wUn (attrD "name" 13 15) (wOp ixD (wVar 2) (wC (.int 7)))) (wCons (wUn (attrD "line" 13 15) (wOp ixD (wVar 2) (wC (.int 10)))) (wCons (wUn (attrD "word" 13 15) (wOp ixD (wVar 2) (wC (.int 10)))) (wCons (wUn (attrD "what" 13 15) (wOp ixD (wVar 2) (wC (.int 11)))) (wCons (wUn (attrD "most" 13 15) (wOp ixD (wVar 2) (wC (.int 11)))) wNil))))))))
  (wRet (wAndV (wOp eqD (wCB reprKD (wCons (wVar 7) wNil)) (wCB reprKD (wCons (wOp mulD (wLst (wCons (wVar 1) wNil)) (wC (.int 16))) wNil))) (wAndV (wOp eqD (wCB reprKD (wCons (wVar 8) wNil)) (wCB reprKD (wCons (wLst (wCons (wVar 1) (wCons (wVar 1) (wCons (wVar 1) (wCons (wC (.int 1)) (wCons (wVar 1) (wCons (wC (.int 1)) wNil))))))) wNil))) (wOp eqD (wCB reprKD (wCons (wUn (attrD "line" 13 15) (wOp ixD (wVar 3) (wC (.int 10)))) wNil)) (wCB reprKD (wCons (wVar 1) wNil))))))))))))))
abbrev c__law_errors_right : WD := wDef 1 N__law_errors_right.length w__law_errors_right
theorem ok__law_errors_right (Z : Fx K mg) : Cal P w K mg base 3 "_law_errors_right" ["pen"] (spV (mkTb K (cls.cA K) tabs) c__law_errors_right) := by
  obtain ⟨fd, F⟩ := Z.f__law_errors_right
  refine ⟨He.ga K "_law_errors_right", fd, Z.m__law_errors_right, F.kp, fnV F sc__law_errors_right (fun cdv A outer s H E hr hg => ?_), FunD.bindsN (ps := ["pen"]) F fun _ _ _ _ _ _ us hl => match us, hl with | [_], _ => rfl⟩
  have tk := takes_of (X := cxOf (L2.CX P w) P w K mg base N__law_errors_right "_law_errors_right" (defScope s__law_errors_right) (He.ga K "_law_errors_right") cdv A outer s H E) (E := E) rfl rfl rfl rfl
  exact ⟨_, (dss_cons (g_set (i := 1) sc__law_errors_right.nd rfl (g_call (ok__law_pick Z) (hr.mono (by decide)) hg tk (da_cons (g_var (i := 0) rfl) (da_cons (de_lst (da_cons de_non (da_cons de_int (da_cons de_str (da_cons (de_lst (da_cons de_int (da_cons (de_lst (da_cons de_int da_nil)) da_nil))) (da_cons (de_tup (da_cons de_int da_nil)) (da_cons (de_disp (dps_cons de_str de_int dps_nil)) (da_cons de_bl da_nil)))))))) da_nil))))
    (dss_cons (g_set (i := 2) sc__law_errors_right.nd rfl (de_lst (da_cons (g_mkV (c := 1) Z.e_BadField Z.e_BadField.kp hr (da_cons (g_var (i := 1) rfl) da_nil) Z.c_BadField Z.nsuper) (da_cons (g_mkV (c := 2) Z.e_BadClock Z.e_BadClock.kp hr (da_cons (g_var (i := 1) rfl) da_nil) Z.c_BadClock Z.nsuper) (da_cons (g_mkV (c := 3) Z.e_BadWish Z.e_BadWish.kp hr (da_cons (g_var (i := 1) rfl) da_nil) Z.c_BadWish Z.nsuper) (da_cons (g_mkV (c := 4) Z.e_BadValue Z.e_BadValue.kp hr (da_cons (g_var (i := 1) rfl) da_nil) Z.c_BadValue Z.nsuper) (da_cons (g_mkV (c := 5) Z.e_BadNumber Z.e_BadNumber.kp hr (da_cons (g_var (i := 1) rfl) da_nil) Z.c_BadNumber Z.nsuper) (da_cons (g_mkV (c := 6) Z.e_BadPaper Z.e_BadPaper.kp hr (da_cons (g_var (i := 1) rfl) da_nil) Z.c_BadPaper Z.nsuper) (da_cons (g_mkV (c := 7) Z.e_BadCommand Z.e_BadCommand.kp hr (da_cons (g_var (i := 1) rfl) da_nil) Z.c_BadCommand Z.nsuper) (da_cons (g_mkV (c := 8) Z.e_NoName Z.e_NoName.kp hr (da_cons (g_var (i := 1) rfl) da_nil) Z.c_NoName Z.nsuper) (da_cons (g_mkV (c := 9) Z.e_Misfit Z.e_Misfit.kp hr (da_cons (g_var (i := 1) rfl) da_nil) Z.c_Misfit Z.nsuper) da_nil)))))))))))
    (dss_cons (g_set (i := 2) sc__law_errors_right.nd rfl (de_op op_adds d_add (g_var (i := 2) rfl) (de_lst (da_cons (g_mkV (c := 10) Z.e_Nothing Z.e_Nothing.kp hr (da_cons (g_var (i := 1) rfl) da_nil) Z.c_Nothing Z.nsuper) (da_cons (g_mkV (c := 11) Z.e_BadText Z.e_BadText.kp hr (da_cons (g_var (i := 1) rfl) (da_cons de_int da_nil)) Z.c_BadText Z.nsuper) (da_cons (g_mkV (c := 12) Z.e_TooMany Z.e_TooMany.kp hr (da_cons (g_var (i := 1) rfl) (da_cons de_int da_nil)) Z.c_TooMany Z.nsuper) da_nil))))))
    (dss_cons (g_set (i := 3) sc__law_errors_right.nd rfl (de_lst (da_cons (g_mkK (c := 1) (ks := ["part"]) (perm := [0]) Z.e_BadField Z.e_BadField.kp hr (dk_cons (g_var (i := 1) rfl) dk_nil) (fun ws hl => match ws, hl with | [_], _ => .kw1 _ _) rfl Z.c_BadField Z.nsuper) (da_cons (g_mkK (c := 2) (ks := ["part"]) (perm := [0]) Z.e_BadClock Z.e_BadClock.kp hr (dk_cons (g_var (i := 1) rfl) dk_nil) (fun ws hl => match ws, hl with | [_], _ => .kw1 _ _) rfl Z.c_BadClock Z.nsuper) (da_cons (g_mkK (c := 3) (ks := ["part"]) (perm := [0]) Z.e_BadWish Z.e_BadWish.kp hr (dk_cons (g_var (i := 1) rfl) dk_nil) (fun ws hl => match ws, hl with | [_], _ => .kw1 _ _) rfl Z.c_BadWish Z.nsuper) (da_cons (g_mkK (c := 4) (ks := ["part"]) (perm := [0]) Z.e_BadValue Z.e_BadValue.kp hr (dk_cons (g_var (i := 1) rfl) dk_nil) (fun ws hl => match ws, hl with | [_], _ => .kw1 _ _) rfl Z.c_BadValue Z.nsuper) (da_cons (g_mkK (c := 5) (ks := ["part"]) (perm := [0]) Z.e_BadNumber Z.e_BadNumber.kp hr (dk_cons (g_var (i := 1) rfl) dk_nil) (fun ws hl => match ws, hl with | [_], _ => .kw1 _ _) rfl Z.c_BadNumber Z.nsuper) (da_cons (g_mkK (c := 6) (ks := ["part"]) (perm := [0]) Z.e_BadPaper Z.e_BadPaper.kp hr (dk_cons (g_var (i := 1) rfl) dk_nil) (fun ws hl => match ws, hl with | [_], _ => .kw1 _ _) rfl Z.c_BadPaper Z.nsuper) da_nil))))))))
    (dss_cons (g_set (i := 3) sc__law_errors_right.nd rfl (de_op op_adds d_add (g_var (i := 3) rfl) (de_lst (da_cons (g_mkK (c := 7) (ks := ["word"]) (perm := [0]) Z.e_BadCommand Z.e_BadCommand.kp hr (dk_cons (g_var (i := 1) rfl) dk_nil) (fun ws hl => match ws, hl with | [_], _ => .kw1 _ _) rfl Z.c_BadCommand Z.nsuper) (da_cons (g_mkK (c := 8) (ks := ["name"]) (perm := [0]) Z.e_NoName Z.e_NoName.kp hr (dk_cons (g_var (i := 1) rfl) dk_nil) (fun ws hl => match ws, hl with | [_], _ => .kw1 _ _) rfl Z.c_NoName Z.nsuper) (da_cons (g_mkK (c := 9) (ks := ["part"]) (perm := [0]) Z.e_Misfit Z.e_Misfit.kp hr (dk_cons (g_var (i := 1) rfl) dk_nil) (fun ws hl => match ws, hl with | [_], _ => .kw1 _ _) rfl Z.c_Misfit Z.nsuper) (da_cons (g_mkK (c := 10) (ks := ["part"]) (perm := [0]) Z.e_Nothing Z.e_Nothing.kp hr (dk_cons (g_var (i := 1) rfl) dk_nil) (fun ws hl => match ws, hl with | [_], _ => .kw1 _ _) rfl Z.c_Nothing Z.nsuper) (da_cons (g_mkK (c := 11) (ks := ["word", "line"]) (perm := [1, 0]) Z.e_BadText Z.e_BadText.kp hr (dk_cons de_int (dk_cons (g_var (i := 1) rfl) dk_nil)) (fun ws hl => match ws, hl with | [_, _], _ => .kwr _ _ _ _) rfl Z.c_BadText Z.nsuper) (da_cons (g_mkK (c := 12) (ks := ["most", "what"]) (perm := [1, 0]) Z.e_TooMany Z.e_TooMany.kp hr (dk_cons de_int (dk_cons (g_var (i := 1) rfl) dk_nil)) (fun ws hl => match ws, hl with | [_, _], _ => .kwr _ _ _ _) rfl Z.c_TooMany Z.nsuper) da_nil)))))))))
    (dss_cons (g_for (passes_of rfl) (di_enum rfl Z.b_enumerate (g_var (i := 2) rfl)) (dg_tup (n := 2) rfl (dg_cons (dg_n (i := 4) sc__law_errors_right.nd rfl) (dg_cons (dg_n (i := 5) sc__law_errors_right.nd rfl) dg_nil))) (dss_cons (ds_if (dt_w (dw_or (dt_cmp (op_neD hr.units) d_ne (g_call (ok__law_kinds_of Z) (hr.mono (by decide)) hg tk (da_cons (g_var (i := 5) rfl) da_nil)) (de_ofF (g_lc (own := [("spot", 6)]) rfl sc__law_errors_right.nd (di_r1 Z.b_range de_int) (blkOk_by (N := N__law_errors_right) (sc := defScope s__law_errors_right) (by decide +kernel)) (fun s H C cl fp => (dg_n (i := 6) sc__law_errors_right.nd rfl)) (fun s H C cl fp => (de_cmp (op_eqD hr.units) d_eq (g_var (i := 6) rfl) (g_var (i := 4) rfl) (nomark _))) (gv_name (by decide)))) (nomark _)) (dw_or1 (dt_cmp (op_neD hr.units) d_ne (g_call (ok__law_kinds_of Z) (hr.mono (by decide)) hg tk (da_cons (de_ix rfl (g_var (i := 3) rfl) (g_var (i := 4) rfl)) da_nil)) (de_ofF (g_lc (own := [("spot", 6)]) rfl sc__law_errors_right.nd (di_r1 Z.b_range de_int) (blkOk_by (N := N__law_errors_right) (sc := defScope s__law_errors_right) (by decide +kernel)) (fun s H C cl fp => (dg_n (i := 6) sc__law_errors_right.nd rfl)) (fun s H C cl fp => (de_cmp (op_eqD hr.units) d_eq (g_var (i := 6) rfl) (g_var (i := 4) rfl) (nomark _))) (gv_name (by decide)))) (nomark _))))) (dss_one (ds_ret de_bl)) dss_nil)
    (dss_one (ds_if (dt_w (dw_or (dt_not (dt_val (g_blt call_isG (d_isa (cT Z) (iT Z)) Z.b_isinstance (da_cons (g_var (i := 5) rfl) (da_cons (de_cls (c := 0) rfl Z.c_NearError) da_nil)) bo_isinstance))) (dw_or1 (dt_not (dt_val (g_blt call_isG (d_isa (cT Z) (iT Z)) Z.b_isinstance (da_cons (g_var (i := 5) rfl) (da_cons (de_ty rfl Z.b_ValueError bo_ValueError) da_nil)) bo_isinstance)))))) (dss_one (ds_ret de_bl)) dss_nil))))
    (dss_cons (g_set (i := 7) sc__law_errors_right.nd rfl (de_op op_adds d_add (de_ofF (g_lc (own := [("error", 5)]) rfl sc__law_errors_right.nd (di_any rfl (de_op op_adds d_add (de_sl rfl (g_var (i := 2) rfl) do_none (do_some de_int)) (de_sl rfl (g_var (i := 2) rfl) (do_some de_int) (do_some de_int)))) (blkOk_by (N := N__law_errors_right) (sc := defScope s__law_errors_right) (by decide +kernel)) (fun s H C cl fp => (dg_n (i := 5) sc__law_errors_right.nd rfl)) (fun s H C cl fp => (de_attr (f := "part") rfl (cT Z) (by decide +kernel) (by decide) (g_var (i := 5) rfl))) (gv_name (by decide)))) (de_ofF (g_lc (own := [("error", 5)]) rfl sc__law_errors_right.nd (di_any rfl (de_op op_adds d_add (de_sl rfl (g_var (i := 3) rfl) do_none (do_some de_int)) (de_sl rfl (g_var (i := 3) rfl) (do_some de_int) (do_some de_int)))) (blkOk_by (N := N__law_errors_right) (sc := defScope s__law_errors_right) (by decide +kernel)) (fun s H C cl fp => (dg_n (i := 5) sc__law_errors_right.nd rfl)) (fun s H C cl fp => (de_attr (f := "part") rfl (cT Z) (by decide +kernel) (by decide) (g_var (i := 5) rfl))) (gv_name (by decide))))))
    (dss_cons (g_set (i := 8) sc__law_errors_right.nd rfl (de_lst (da_cons (de_attr (f := "word") rfl (cT Z) (by decide +kernel) (by decide) (de_ix rfl (g_var (i := 2) rfl) de_int)) (da_cons (de_attr (f := "name") rfl (cT Z) (by decide +kernel) (by decide) (de_ix rfl (g_var (i := 2) rfl) de_int)) (da_cons (de_attr (f := "line") rfl (cT Z) (by decide +kernel) (by decide) (de_ix rfl (g_var (i := 2) rfl) de_int)) (da_cons (de_attr (f := "word") rfl (cT Z) (by decide +kernel) (by decide) (de_ix rfl (g_var (i := 2) rfl) de_int)) (da_cons (de_attr (f := "what") rfl (cT Z) (by decide +kernel) (by decide) (de_ix rfl (g_var (i := 2) rfl) de_int)) (da_cons (de_attr (f := "most") rfl (cT Z) (by decide +kernel) (by decide) (de_ix rfl (g_var (i := 2) rfl) de_int)) da_nil))))))))
    (dss_one (ds_ret (de_and rfl (de_cmp (op_eqD hr.units) d_eq (g_blt (call_reprT rfl (ownB_sys Z.ow) hg hr) d_reprT Z.b_repr (da_cons (g_var (i := 7) rfl) da_nil) bo_repr) (g_blt (call_reprT rfl (ownB_sys Z.ow) hg hr) d_reprT Z.b_repr (da_cons (de_op op_muls d_mul (de_lst (da_cons (g_var (i := 1) rfl) da_nil)) de_int) da_nil) bo_repr) (nomark _)) (de_and rfl (de_cmp (op_eqD hr.units) d_eq (g_blt (call_reprT rfl (ownB_sys Z.ow) hg hr) d_reprT Z.b_repr (da_cons (g_var (i := 8) rfl) da_nil) bo_repr) (g_blt (call_reprT rfl (ownB_sys Z.ow) hg hr) d_reprT Z.b_repr (da_cons (de_lst (da_cons (g_var (i := 1) rfl) (da_cons (g_var (i := 1) rfl) (da_cons (g_var (i := 1) rfl) (da_cons de_int (da_cons (g_var (i := 1) rfl) (da_cons de_int da_nil))))))) da_nil) bo_repr) (nomark _)) (de_one (de_cmp (op_eqD hr.units) d_eq (g_blt (call_reprT rfl (ownB_sys Z.ow) hg hr) d_reprT Z.b_repr (da_cons (de_attr (f := "line") rfl (cT Z) (by decide +kernel) (by decide) (de_ix rfl (g_var (i := 3) rfl) de_int)) da_nil) bo_repr) (g_blt (call_reprT rfl (ownB_sys Z.ow) hg hr) d_reprT Z.b_repr (da_cons (g_var (i := 1) rfl) da_nil) bo_repr) (nomark _)))))))))))))))⟩
/-! #### _law_tuples -/
abbrev N__law_tuples : List Str := ["value", "key", "one"]
theorem sc__law_tuples : FnScope N__law_tuples ["value"] (defScope s__law_tuples) := ⟨rfl, rfl, rfl, by decide +kernel, rfl, by decide +kernel, by decide +kernel⟩
def w__law_tuples (cr : WD) : WS := (wSeq (wIf (wTest (wCB (isaD tab 13 15) (wCons (wVar 0) (wCons (wC (.ty "dict")) wNil)))) (wRet (wCB dictPD (wCons (wOfF (wLcKeys 0 (gN 1) wYes (wTup (wCons (wVar 1) (wCons (wCall cr [] (wCons (wOp ixDD (wVar 0) (wVar 1)) wNil)) wNil))) [1])) wNil))) wNext)
  (wRet (wIfE (wTest (wCB (isaD tab 13 15) (wCons (wVar 0) (wCons (wTup (wCons (wC (.ty "list")) (wCons (wC (.ty "tuple")) wNil))) wNil)))) (wCB tupD (wCons (wOfF (wComp (wItA (wVar 0)) (gN 2) wYes (wCall cr [] (wCons (wVar 2) wNil)) [2])) wNil)) (wVar 0))))
def c__law_tuples : Nat → WD
  | 0 => fun _ _ _ _ => False
  | n + 1 => wDef 1 N__law_tuples.length (w__law_tuples (c__law_tuples n))
theorem ok__law_tuples (Z : Fx K mg) : ∀ n : Nat, Cal P w K mg base (0 + n) "_law_tuples" ["value"] (spV (mkTb K (cls.cA K) tabs) (c__law_tuples n))
  | 0 => by
    obtain ⟨fd, F⟩ := Z.f__law_tuples
    exact cal_zero Z.m__law_tuples F.kp (FunD.bindsN (ps := ["value"]) F fun _ _ _ _ _ _ us hl => match us, hl with | [_], _ => rfl)
  | n + 1 => by
    obtain ⟨fd, F⟩ := Z.f__law_tuples
    have ih := ok__law_tuples Z n
    generalize hcr : c__law_tuples n = cr at ih
    refine ⟨He.ga K "_law_tuples", fd, Z.m__law_tuples, F.kp, ?_, FunD.bindsN (ps := ["value"]) F fun _ _ _ _ _ _ us hl => match us, hl with | [_], _ => rfl⟩
    show FnG P w K mg base (0 + n + 1) _ fd ["value"] (spV _ (wDef 1 N__law_tuples.length (w__law_tuples (c__law_tuples n))))
    rw [hcr]
    refine fnV F sc__law_tuples (fun cdv A outer s H E hr hg => ?_)
    have tk := takes_of (X := cxOf (L2.CX P w) P w K mg base N__law_tuples "_law_tuples" (defScope s__law_tuples) (He.ga K "_law_tuples") cdv A outer s H E) (E := E) rfl rfl rfl rfl
    exact ⟨_, (dss_cons (ds_if (dt_val (g_blt call_isG (d_isa (cT Z) (iT Z)) Z.b_isinstance (da_cons (g_var (i := 0) rfl) (da_cons (de_ty rfl Z.b_dict bo_dict) da_nil)) bo_isinstance)) (dss_one (ds_ret (g_bty (call_dictP rfl) d_dictP Z.b_dict (da_cons (de_ofF (g_lcKeys (own := [("key", 1)]) rfl sc__law_tuples.nd (p_var (i := 0) rfl) (blkOk_by (N := N__law_tuples) (sc := defScope s__law_tuples) (by decide +kernel)) (fun s H C cl fp => (dg_n (i := 1) sc__law_tuples.nd rfl)) (fun s H C cl fp => (de_tup (da_cons (g_var (i := 1) rfl) (da_cons (g_call ih hr hg LamX.takes0 (da_cons (de_ixD rfl (units2 hr) (g_var (i := 0) rfl) (g_var (i := 1) rfl)) da_nil)) da_nil)))) (gv_name (by decide)))) da_nil) bo_dict))) dss_nil)
    (dss_one (ds_ret (de_ifE (dt_val (g_blt call_isG (d_isa (cT Z) (iT Z)) Z.b_isinstance (da_cons (g_var (i := 0) rfl) (da_cons (de_tup (da_cons (de_ty rfl Z.b_list bo_list) (da_cons (de_ty rfl Z.b_tuple bo_tuple) da_nil))) da_nil)) bo_isinstance)) (g_bty (call_tuple_of) d_tup Z.b_tuple (da_cons (de_ofF (g_lc (own := [("one", 2)]) rfl sc__law_tuples.nd (di_any rfl (g_var (i := 0) rfl)) (blkOk_by (N := N__law_tuples) (sc := defScope s__law_tuples) (by decide +kernel)) (fun s H C cl fp => (dg_n (i := 2) sc__law_tuples.nd rfl)) (fun s H C cl fp => (g_call ih hr hg LamX.takes0 (da_cons (g_var (i := 2) rfl) da_nil))) (gv_name (by decide)))) da_nil) bo_tuple) (g_var (i := 0) rfl)))))⟩
/-! #### Denial__bool__ -/
abbrev N_Denial__bool__ : List Str := ["self"]
theorem sc_Denial__bool__ : FnScope N_Denial__bool__ ["self"] (defScope s_Denial__bool__) := ⟨rfl, rfl, rfl, by decide +kernel, rfl, by decide +kernel, by decide +kernel⟩
def w_Denial__bool__ : WS := (wRet (wC (.bl false)))
abbrev c_Denial__bool__ : WD := wDef 1 N_Denial__bool__.length w_Denial__bool__
theorem ok_Denial__bool__ (Z : Fx K mg) : FnP P w K mg base 1 (He.ma K (He.ga K "Denial") "__bool__") (spV (mkTb K (cls.cA K) tabs) c_Denial__bool__) := by
  obtain ⟨fd, F⟩ := Z.f_Denial__bool__
  refine FnG.toP (fnV F sc_Denial__bool__ (fun cdv A outer s H E hr hg => ?_)) (FunD.bindsN (ps := ["self"]) F fun _ _ _ _ _ _ us hl => match us, hl with | [_], _ => rfl)
  have tk := takes_of (X := cxOf (L2.CX P w) P w K mg base N_Denial__bool__ "Denial.__bool__" (defScope s_Denial__bool__) (He.ma K (He.ga K "Denial") "__bool__") cdv A outer s H E) (E := E) rfl rfl rfl rfl
  exact ⟨_, (dss_one (ds_ret de_bl))⟩
/-! #### Paper__bool__ -/
abbrev N_Paper__bool__ : List Str := ["self"]
theorem sc_Paper__bool__ : FnScope N_Paper__bool__ ["self"] (defScope s_Paper__bool__) := ⟨rfl, rfl, rfl, by decide +kernel, rfl, by decide +kernel, by decide +kernel⟩
def w_Paper__bool__ : WS := (wRet (wC (.bl true)))
abbrev c_Paper__bool__ : WD := wDef 1 N_Paper__bool__.length w_Paper__bool__
theorem ok_Paper__bool__ (Z : Fx K mg) : FnP P w K mg base 1 (He.ma K (He.ga K "Paper") "__bool__") (spV (mkTb K (cls.cA K) tabs) c_Paper__bool__) := by
  obtain ⟨fd, F⟩ := Z.f_Paper__bool__
  refine FnG.toP (fnV F sc_Paper__bool__ (fun cdv A outer s H E hr hg => ?_)) (FunD.bindsN (ps := ["self"]) F fun _ _ _ _ _ _ us hl => match us, hl with | [_], _ => rfl)
  have tk := takes_of (X := cxOf (L2.CX P w) P w K mg base N_Paper__bool__ "Paper.__bool__" (defScope s_Paper__bool__) (He.ma K (He.ga K "Paper") "__bool__") cdv A outer s H E) (E := E) rfl rfl rfl rfl
  exact ⟨_, (dss_one (ds_ret de_bl))⟩
def wb_bool (c : Nat) : WD := if c = 13 then c_Paper__bool__ else c_Denial__bool__
theorem boOk (Z : Fx K mg) : BoOk (mkTb K (cls.cA K) tabs) P w K mg base 1 has_bo wb_bool := by
  refine ⟨fun c => if c = 13 then He.ma K (He.ga K "Paper") "__bool__" else He.ma K (He.ga K "Denial") "__bool__", fun c hc => ?_, fun c hc => ?_, fun c hc => ?_⟩
  · rcases Bool.or_eq_true_iff.mp hc with h | h
    · rw [eq_of_beq h]; exact (ownOne_bo (ownB_one Z.ow 0) rfl).2
    · rw [eq_of_beq h]; exact (ownOne_bo (ownB_one Z.ow 1) rfl).2
  · rcases Bool.or_eq_true_iff.mp hc with h | h
    · rw [eq_of_beq h]; exact (ownOne_bo (ownB_one Z.ow 0) rfl).1
    · rw [eq_of_beq h]; exact (ownOne_bo (ownB_one Z.ow 1) rfl).1
  · rcases Bool.or_eq_true_iff.mp hc with h | h
    · rw [eq_of_beq h]; exact ok_Paper__bool__ Z
    · rw [eq_of_beq h]; exact ok_Denial__bool__ Z
/-! #### Paper__eq__ -/
abbrev N_Paper__eq__ : List Str := ["self", "other"]
theorem sc_Paper__eq__ : FnScope N_Paper__eq__ ["self", "other"] (defScope s_Paper__eq__) := ⟨rfl, rfl, rfl, by decide +kernel, rfl, by decide +kernel, by decide +kernel⟩
def w_Paper__eq__ : WS := (wRet (wAndV (wCB (isaD tab 13 15) (wCons (wVar 1) (wCons (wC (.cls 13)) wNil))) (wAndV (wOp eqD (wUn (attrD "word" 13 15) (wVar 0)) (wUn (attrD "word" 13 15) (wVar 1))) (wOp (fun x y p => eqD x y p ∨ eqTD x y p) (wUn (attrD "parts" 13 15) (wVar 0)) (wUn (attrD "parts" 13 15) (wVar 1))))))
abbrev c_Paper__eq__ : WD := wDef 2 N_Paper__eq__.length w_Paper__eq__
theorem ok_Paper__eq__ (Z : Fx K mg) : FnP P w K mg base 1 (He.ma K (He.ga K "Paper") "__eq__") (spV (mkTb K (cls.cA K) tabs) c_Paper__eq__) := by
  obtain ⟨fd, F⟩ := Z.f_Paper__eq__
  refine FnG.toP (fnV F sc_Paper__eq__ (fun cdv A outer s H E hr hg => ?_)) (FunD.bindsN (ps := ["self", "other"]) F fun _ _ _ _ _ _ us hl => match us, hl with | [_, _], _ => rfl)
  have tk := takes_of (X := cxOf (L2.CX P w) P w K mg base N_Paper__eq__ "Paper.__eq__" (defScope s_Paper__eq__) (He.ma K (He.ga K "Paper") "__eq__") cdv A outer s H E) (E := E) rfl rfl rfl rfl
  exact ⟨_, (dss_one (ds_ret (de_and rfl (g_blt call_isG (d_isa (cT Z) (iT Z)) Z.b_isinstance (da_cons (g_var (i := 1) rfl) (da_cons (de_cls (c := 13) rfl Z.c_Paper) da_nil)) bo_isinstance) (de_and rfl (de_cmp (op_eqD hr.units) d_eq (de_attr (f := "word") rfl (cT Z) (by decide +kernel) (by decide) (g_var (i := 0) rfl)) (de_attr (f := "word") rfl (cT Z) (by decide +kernel) (by decide) (g_var (i := 1) rfl)) (nomark _)) (de_one (de_cmp ((op_eqD hr.units).or (op_eqTT rfl hr)) (d_eq.or d_eqTT) (de_attr (f := "parts") rfl (cT Z) (by decide +kernel) (by decide) (g_var (i := 0) rfl)) (de_attr (f := "parts") rfl (cT Z) (by decide +kernel) (by decide) (g_var (i := 1) rfl)) (nomark _)))))))⟩
theorem eqOk (Z : Fx K mg) : EqOk (mkTb K (cls.cA K) tabs) P w K mg base 1 has_eq c_Paper__eq__ := by
  refine ⟨_, ⟨(ownOne_eq (ownB_one Z.ow 0) rfl).1.2, fun c hc => ?_, fun c hc => ?_⟩, ok_Paper__eq__ Z⟩
  · rcases Bool.or_eq_true_iff.mp hc with h | h
    · rw [eq_of_beq h]; exact (ownOne_eq (ownB_one Z.ow 0) rfl).1.1
    · rw [eq_of_beq h]; exact (ownOne_eq (ownB_one Z.ow 1) rfl).1.1
  · rcases Bool.or_eq_true_iff.mp hc with h | h
    · rw [eq_of_beq h]; exact (ownOne_eq (ownB_one Z.ow 0) rfl).2
    · rw [eq_of_beq h]; exact (ownOne_eq (ownB_one Z.ow 1) rfl).2
/-! #### Paper__init__ -/
abbrev N_Paper__init__ : List Str := ["self", "word", "parts"]
theorem sc_Paper__init__ : FnScope N_Paper__init__ ["self", "word", "parts"] (defScope s_Paper__init__) := ⟨rfl, rfl, rfl, by decide +kernel, rfl, by decide +kernel, by decide +kernel⟩
def w_Paper__init__ : WS := (wSeq (wFset 0 "word" isOwn (wVar 1))
  (wFset 0 "parts" isOwn (wCall (c_copied 8) [] (wCons (wVar 2) wNil))))
abbrev wi_Paper__init__ (c : Nat) : WIn := wStar 1 (wInit c 2 N_Paper__init__.length w_Paper__init__)
theorem ok_Paper__init__ (Z : Fx K mg) (c : Nat) : FnP P w K mg base 9 (He.ma K (He.ga K "Paper") "__init__") (spI (mkTb K (cls.cA K) tabs) c (wi_Paper__init__ c)) := by
  obtain ⟨fd, F⟩ := Z.f_Paper__init__
  refine fnIS (sf := "self") (ps := ["word"]) (pv := "parts") F sc_Paper__init__ (fun kV doc pm an cdv ct us rest hl => match us, rest, hl with | [_, _], [], _ => rfl | [_, _], _ :: _, _ => rfl) (fun cdv A outer s H E hr hg => ?_)
  have tk := takes_of (X := cxOf (L2.CX P w) P w K mg base N_Paper__init__ "Paper.__init__" (defScope s_Paper__init__) (He.ma K (He.ga K "Paper") "__init__") cdv A outer s H E) (E := E) rfl rfl rfl rfl
  exact ⟨_, (dss_cons (ds_fset (i := 0) (no := isOwn) rfl (fun c hc => isOwn_no Z c hc (by decide +kernel)) (p_var (i := 0) rfl) (g_var (i := 1) rfl))
    (dss_one (ds_fset (i := 0) (no := isOwn) rfl (fun c hc => isOwn_no Z c hc (by decide +kernel)) (p_var (i := 0) rfl) (g_call (ok_copied Z 8) (hr.mono (by decide)) hg tk (da_cons (g_var (i := 2) rfl) da_nil)))))⟩
theorem ok_Paper (Z : Fx K mg) : Mak (mkTb K (cls.cA K) tabs) P w K mg base 9 "Paper" 13 (wi_Paper__init__ 13) := ⟨_, Z.c_Paper, ownOne_mk (ownB_one Z.ow 0), ok_Paper__init__ Z 13⟩
theorem ok_Denial (Z : Fx K mg) : Mak (mkTb K (cls.cA K) tabs) P w K mg base 9 "Denial" 14 (wi_Paper__init__ 14) := ⟨_, Z.c_Denial, ownOne_mk (ownB_one Z.ow 1), ok_Paper__init__ Z 14⟩
/-! #### law -/
abbrev N_law : List Str := ["script", "pen", "turn", "one", "other", "lap", "word", "paper", "denial", "some", "kept"]
theorem sc_law : FnScope N_law ["script"] (defScope s_law) := ⟨rfl, rfl, rfl, by decide +kernel, rfl, by decide +kernel, by decide +kernel⟩
def w_law : WS := (wSeq (wSetF 1 (wCallF c__law_pen [] (wCons (wVar 0) wNil)))
  (wInk 1 (wSeq (wFor (wItR1 (wC (.int 4))) (gN 2) (wSeq (wIf (wNotT (wTest (wCall c__law_errors_right [] (wCons (wVar 1) wNil)))) (wRet (wC (.bl false))) wNext)
  (wSeq (wAsg (wOfF (wComp (wItR1 (wC (.int 2))) (gN 5) wYes (wCall c__law_pick [] (wCons (wVar 1) (wCons (wLst (wCons (wC .non) (wCons (wC (.int 5)) (wCons (wC (.str "a")) (wCons (wLst (wCons (wC (.int 1)) (wCons (wLst (wCons (wC (.int 2)) (wCons (wTup (wCons (wC (.int 3)) wNil)) wNil))) wNil))) (wCons (wDisp (((wC (.str "k")), (wLst (wCons (wC (.int 1)) wNil))) :: [])) (wCons (wC (.bl true)) (wCons (wLst wNil) wNil)))))))) wNil))) [5])) (gLs 2 (gsCons (gN 3) (gsCons (gN 4) gsNil))))
  (wSeq (wSet 6 (wCall c__law_pick [] (wCons (wVar 1) (wCons (wLst (wCons (wC (.str "moment")) (wCons (wC (.str "x")) (wCons (wC (.str "never")) wNil)))) wNil))))
  (wSeq (wPar 7 8 (wCons (wMake 13 (wi_Paper__init__ 13) (wCons (wVar 6) (wCons (wVar 3) (wCons (wVar 4) wNil)))) (wCons (wMake 14 (wi_Paper__init__ 14) (wCons (wVar 6) (wCons (wVar 3) (wCons (wVar 4) wNil)))) wNil)))
  (wSeq (wIf (wOrT (wTest (wOp neD (wCB reprKD (wCons (wUn (attrD "parts" 13 15) (wVar 7)) wNil)) (wCB reprKD (wCons (wTup (wCons (wCall (c__law_tuples 8) [] (wCons (wVar 3) wNil)) (wCons (wCall (c__law_tuples 8) [] (wCons (wVar 4) wNil)) wNil))) wNil)))) (wOrT (wTest (wOp neD (wUn (attrD "word" 13 15) (wVar 7)) (wVar 6))) (wOrT (wTest (wOp isNotBD (wBoolG wb_bool has_bo (wVar 7)) (wC (.bl true)))) (wTest (wOp isNotBD (wBoolG wb_bool has_bo (wVar 8)) (wC (.bl false))))))) (wRet (wC (.bl false))) wNext)
  (wIf (wOrT (wTest (wOp (fun x y p => neD x y p ∨ neTD x y p) (wUn (attrD "parts" 13 15) (wVar 8)) (wUn (attrD "parts" 13 15) (wVar 7)))) (wOrT (wTest (wNeG c_Paper__eq__ has_eq tab 15 (wVar 7) (wVar 8))) (wOrT (wTest (wEqG c_Paper__eq__ has_eq tab 13 15 (wVar 7) (wMake 13 (wi_Paper__init__ 13) (wCons (wOp addD (wVar 6) (wC (.str "y"))) (wCons (wVar 3) (wCons (wVar 4) wNil)))))) (wOrT (wTest (wEqG c_Paper__eq__ has_eq tab 13 15 (wVar 7) (wMake 13 (wi_Paper__init__ 13) (wCons (wVar 6) (wCons (wVar 3) wNil))))) (wTest (wEqG c_Paper__eq__ has_eq tab 13 15 (wVar 7) (wUn (attrD "parts" 13 15) (wVar 7)))))))) (wRet (wC (.bl false))) wNext)))))))
  (wTail 9 10 11 (wMake 13 (wi_Paper__init__ 13) (wCons (wC (.str "p")) (wCons (wVar 9) wNil))) (wAndV (wOp eqD (wUn (attrD "parts" 13 15) (wVar 10)) (wTup (wCons (wTup (wCons (wC (.int 1)) (wCons (wTup (wCons (wC (.int 2)) wNil)) wNil))) wNil))) (wAndV (wEqG c_Paper__eq__ has_eq tab 13 15 (wVar 10) (wMake 13 (wi_Paper__init__ 13) (wCons (wC (.str "p")) (wCons (wTup (wCons (wC (.int 1)) (wCons (wLst (wCons (wC (.int 2)) wNil)) wNil))) wNil)))) (wAndV (wOp eqD (wUn (attrD "parts" 13 15) (wMake 13 (wi_Paper__init__ 13) (wCons (wC (.str "p")) wNil))) (wTup wNil)) (wCB (isaD tab 13 15) (wCons (wMake 14 (wi_Paper__init__ 14) (wCons (wC (.str "p")) wNil)) (wCons (wC (.cls 13)) wNil)))))) (.ins 13 [("word", .str "p"), ("parts", .tup [.tup [.int 1, .tup [.int 2]]])])))))
abbrev c_law : WD := wDef 1 N_law.length w_law
theorem ok_law (Z : Fx K mg) {fd : FuncData} (F : FunD K "law" "law" (defArgs s_law) (defBody s_law) (defScope s_law) [] [] (He.ga K "law") fd) : FnG P w K mg base 11 (He.ga K "law") fd ["script"] (spV (mkTb K (cls.cA K) tabs) c_law) := by
  refine fnV F sc_law (fun cdv A outer s H E hr hg => ?_)
  have tk := takes_of (X := cxOf (L2.CX P w) P w K mg base N_law "law" (defScope s_law) (He.ga K "law") cdv A outer s H E) (E := E) rfl rfl rfl rfl
  exact ⟨_, (dss_cons (g_setF (i := 1) sc_law.nd rfl (g_callF (ok__law_pen Z) (hr.mono (by decide)) hg tk (da_cons (g_var (i := 0) rfl) da_nil)))
    (dss_ink (i := 1) (dss_cons (g_for (passes_of rfl) (di_r1 Z.b_range de_int) (dg_n (i := 2) sc_law.nd rfl) (dss_cons (ds_if (dt_not (dt_val (g_call (ok__law_errors_right Z) (hr.mono (by decide)) hg tk (da_cons (g_var (i := 1) rfl) da_nil)))) (dss_one (ds_ret de_bl)) dss_nil)
    (dss_cons (g_asg (de_ofF (g_lc (own := [("lap", 5)]) rfl sc_law.nd (di_r1 Z.b_range de_int) (blkOk_by (N := N_law) (sc := defScope s_law) (by decide +kernel)) (fun s H C cl fp => (dg_n (i := 5) sc_law.nd rfl)) (fun s H C cl fp => (g_call (ok__law_pick Z) (hr.mono (by decide)) hg LamX.takes0 (da_cons (g_var (i := 1) rfl) (da_cons (de_lst (da_cons de_non (da_cons de_int (da_cons de_str (da_cons (de_lst (da_cons de_int (da_cons (de_lst (da_cons de_int (da_cons (de_tup (da_cons de_int da_nil)) da_nil))) da_nil))) (da_cons (de_disp (dps_cons de_str (de_lst (da_cons de_int da_nil)) dps_nil)) (da_cons de_bl (da_cons (de_lst da_nil) da_nil)))))))) da_nil)))) (gv_name (by decide)))) (dg_unl (n := 2) rfl (dg_cons (dg_n (i := 3) sc_law.nd rfl) (dg_cons (dg_n (i := 4) sc_law.nd rfl) dg_nil))))
    (dss_cons (g_set (i := 6) sc_law.nd rfl (g_call (ok__law_pick Z) (hr.mono (by decide)) hg tk (da_cons (g_var (i := 1) rfl) (da_cons (de_lst (da_cons de_str (da_cons de_str (da_cons de_str da_nil)))) da_nil))))
    (dss_cons (g_par (i := 7) (j := 8) rfl sc_law.nd rfl rfl (da_cons (g_make (ok_Paper Z) (hr.mono (by decide)) hg tk (da_cons (g_var (i := 6) rfl) (da_cons (g_var (i := 3) rfl) (da_cons (g_var (i := 4) rfl) da_nil)))) (da_cons (g_make (ok_Denial Z) (hr.mono (by decide)) hg tk (da_cons (g_var (i := 6) rfl) (da_cons (g_var (i := 3) rfl) (da_cons (g_var (i := 4) rfl) da_nil)))) da_nil)))
    (dss_cons (ds_if (dt_w (dw_or (dt_cmp (op_neD hr.units) d_ne (g_blt (call_reprT rfl (ownB_sys Z.ow) hg hr) d_reprT Z.b_repr (da_cons (de_attr (f := "parts") rfl (cT Z) (by decide +kernel) (by decide) (g_var (i := 7) rfl)) da_nil) bo_repr) (g_blt (call_reprT rfl (ownB_sys Z.ow) hg hr) d_reprT Z.b_repr (da_cons (de_tup (da_cons (g_call (ok__law_tuples Z 8) (hr.mono (by decide)) hg tk (da_cons (g_var (i := 3) rfl) da_nil)) (da_cons (g_call (ok__law_tuples Z 8) (hr.mono (by decide)) hg tk (da_cons (g_var (i := 4) rfl) da_nil)) da_nil))) da_nil) bo_repr) (nomark _)) (dw_or (dt_cmp (op_neD hr.units) d_ne (de_attr (f := "word") rfl (cT Z) (by decide +kernel) (by decide) (g_var (i := 7) rfl)) (g_var (i := 6) rfl) (nomark _)) (dw_or (dt_cmp op_notBl d_isNotB (g_bool (boOk Z) (hr.mono (by decide)) hg Z.b_bool bo_bool (g_var (i := 7) rfl)) de_bl (nomark _)) (dw_or1 (dt_cmp op_notBl d_isNotB (g_bool (boOk Z) (hr.mono (by decide)) hg Z.b_bool bo_bool (g_var (i := 8) rfl)) de_bl (nomark _))))))) (dss_one (ds_ret de_bl)) dss_nil)
    (dss_one (ds_if (dt_w (dw_or (dt_cmp ((op_neD hr.units).or (op_neTT rfl hr)) (d_ne.or d_neTT) (de_attr (f := "parts") rfl (cT Z) (by decide +kernel) (by decide) (g_var (i := 8) rfl)) (de_attr (f := "parts") rfl (cT Z) (by decide +kernel) (by decide) (g_var (i := 7) rfl)) (nomark _)) (dw_or (dt_seal (dt_neG rfl (cT Z) (iT Z) (eqOk Z) has_eq_in (hr.mono (by decide)) hg (g_var (i := 7) rfl) (g_var (i := 8) rfl))) (dw_or (dt_seal (dt_eqG rfl (cT Z) (iT Z) (eqOk Z) (hr.mono (by decide)) hg (g_var (i := 7) rfl) (g_make (ok_Paper Z) (hr.mono (by decide)) hg tk (da_cons (de_op op_adds d_add (g_var (i := 6) rfl) de_str) (da_cons (g_var (i := 3) rfl) (da_cons (g_var (i := 4) rfl) da_nil)))))) (dw_or (dt_seal (dt_eqG rfl (cT Z) (iT Z) (eqOk Z) (hr.mono (by decide)) hg (g_var (i := 7) rfl) (g_make (ok_Paper Z) (hr.mono (by decide)) hg tk (da_cons (g_var (i := 6) rfl) (da_cons (g_var (i := 3) rfl) da_nil))))) (dw_or1 (dt_seal (dt_eqG rfl (cT Z) (iT Z) (eqOk Z) (hr.mono (by decide)) hg (g_var (i := 7) rfl) (de_attr (f := "parts") rfl (cT Z) (by decide +kernel) (by decide) (g_var (i := 7) rfl)))))))))) (dss_one (ds_ret de_bl)) dss_nil))))))))
    (dss_tail (i := 9) (j := 10) (n := 11) (dk := (.ins 13 [("word", .str "p"), ("parts", .tup [.tup [.int 1, .tup [.int 2]]])])) (g_set (i := 9) sc_law.nd rfl (de_lst (da_cons de_int (da_cons (de_lst (da_cons de_int da_nil)) da_nil)))) sc_law.nd rfl (g_make (ok_Paper Z) (hr.mono (by decide)) hg tk (da_cons de_str (da_cons (g_var (i := 9) rfl) da_nil))) (ps_expr (pe_bm PySem.F.plainAttrs_list PySem.F.slot_list_append PySem.F.type_list_append mt_append (pe_ix ix_seq (p_var (i := 9) rfl) pe_int (fun _ _ => rfl)) (pa_cons pe_int pa_nil)) rfl) (de_and rfl (de_cmp (op_eqD hr.units) d_eq (de_attr (f := "parts") rfl (cT Z) (by decide +kernel) (by decide) (g_var (i := 10) rfl)) (de_tup (da_cons (de_tup (da_cons de_int (da_cons (de_tup (da_cons de_int da_nil)) da_nil))) da_nil)) (nomark _)) (de_and rfl (de_eqG rfl (cT Z) (iT Z) (eqOk Z) (hr.mono (by decide)) hg (g_var (i := 10) rfl) (g_make (ok_Paper Z) (hr.mono (by decide)) hg tk (da_cons de_str (da_cons (de_tup (da_cons de_int (da_cons (de_lst (da_cons de_int da_nil)) da_nil))) da_nil)))) (de_and rfl (de_cmp (op_eqD hr.units) d_eq (de_attr (f := "parts") rfl (cT Z) (by decide +kernel) (by decide) (g_make (ok_Paper Z) (hr.mono (by decide)) hg tk (da_cons de_str da_nil))) (de_tup da_nil) (nomark _)) (de_one (g_blt call_isG (d_isa (cT Z) (iT Z)) Z.b_isinstance (da_cons (g_make (ok_Denial Z) (hr.mono (by decide)) hg tk (da_cons de_str da_nil)) (da_cons (de_cls (c := 13) rfl Z.c_Paper) da_nil)) bo_isinstance)))))))))⟩
end
/-! ### the head -/
def fnL : List He.DefD := [⟨("copied", none), "copied", "copied", defArgs s_copied, defBody s_copied, defScope s_copied, [], []⟩,
  ⟨("_law_pen", none), "_law_pen", "_law_pen", defArgs s__law_pen, defBody s__law_pen, defScope s__law_pen, [], []⟩,
  ⟨("_law_draw", none), "_law_draw", "_law_draw", defArgs s__law_draw, defBody s__law_draw, defScope s__law_draw, [], []⟩,
  ⟨("_law_pick", none), "_law_pick", "_law_pick", defArgs s__law_pick, defBody s__law_pick, defScope s__law_pick, [], []⟩,
  ⟨("_law_kinds_of", none), "_law_kinds_of", "_law_kinds_of", defArgs s__law_kinds_of, defBody s__law_kinds_of, defScope s__law_kinds_of, [], []⟩,
  ⟨("_law_errors_right", none), "_law_errors_right", "_law_errors_right", defArgs s__law_errors_right, defBody s__law_errors_right, defScope s__law_errors_right, [], []⟩,
  ⟨("_law_tuples", none), "_law_tuples", "_law_tuples", defArgs s__law_tuples, defBody s__law_tuples, defScope s__law_tuples, [], []⟩,
  ⟨("Denial", some "__bool__"), "__bool__", "Denial.__bool__", defArgs s_Denial__bool__, defBody s_Denial__bool__, defScope s_Denial__bool__, [], []⟩,
  ⟨("Paper", some "__bool__"), "__bool__", "Paper.__bool__", defArgs s_Paper__bool__, defBody s_Paper__bool__, defScope s_Paper__bool__, [], []⟩,
  ⟨("Paper", some "__eq__"), "__eq__", "Paper.__eq__", defArgs s_Paper__eq__, defBody s_Paper__eq__, defScope s_Paper__eq__, [], []⟩,
  ⟨("Paper", some "__init__"), "__init__", "Paper.__init__", defArgs s_Paper__init__, defBody s_Paper__init__, defScope s_Paper__init__, [], []⟩,
  ⟨("law", none), "law", "law", defArgs s_law, defBody s_law, defScope s_law, [], []⟩]
def faL : List He.Fa := (["copied", "_law_pen", "_law_draw", "_law_pick", "_law_kinds_of", "_law_errors_right", "_law_tuples", "law", "NearError", "BadField", "BadClock", "BadWish", "BadValue", "BadNumber", "BadPaper", "BadCommand", "NoName", "Misfit", "Nothing", "BadText", "TooMany", "Paper", "Denial"] : List Str).map He.Fa.glo ++ (["ValueError", "abs", "bool", "dict", "enumerate", "int", "isinstance", "len", "list", "range", "repr", "tuple", "super"] : List Str).map He.Fa.free ++ []
def tfL : List He.Defn := []
theorem fx_of {K : PySem.W.Frag} {h : Heap} {mg : Str → Option Value} (X : K.In h) (G : h.Ns mainGlobals mg) (c : SaysP P faL fnL tfL cls h K) : Fx K mg where
  m_copied := He.glo_ok X G (c.d.fact 0 (f := .glo "copied") rfl)
  f_copied := c.d.def_ 0 rfl
  m__law_pen := He.glo_ok X G (c.d.fact 1 (f := .glo "_law_pen") rfl)
  f__law_pen := c.d.def_ 1 rfl
  m__law_draw := He.glo_ok X G (c.d.fact 2 (f := .glo "_law_draw") rfl)
  f__law_draw := c.d.def_ 2 rfl
  m__law_pick := He.glo_ok X G (c.d.fact 3 (f := .glo "_law_pick") rfl)
  f__law_pick := c.d.def_ 3 rfl
  m__law_kinds_of := He.glo_ok X G (c.d.fact 4 (f := .glo "_law_kinds_of") rfl)
  f__law_kinds_of := c.d.def_ 4 rfl
  m__law_errors_right := He.glo_ok X G (c.d.fact 5 (f := .glo "_law_errors_right") rfl)
  f__law_errors_right := c.d.def_ 5 rfl
  m__law_tuples := He.glo_ok X G (c.d.fact 6 (f := .glo "_law_tuples") rfl)
  f__law_tuples := c.d.def_ 6 rfl
  f_Denial__bool__ := c.d.def_ 7 rfl
  f_Paper__bool__ := c.d.def_ 8 rfl
  f_Paper__eq__ := c.d.def_ 9 rfl
  f_Paper__init__ := c.d.def_ 10 rfl
  m_law := He.glo_ok X G (c.d.fact 7 (f := .glo "law") rfl)
  f_law := c.d.def_ 11 rfl
  b_ValueError := He.free_ok X G (c.d.fact 23 (f := .free "ValueError") rfl)
  b_abs := He.free_ok X G (c.d.fact 24 (f := .free "abs") rfl)
  b_bool := He.free_ok X G (c.d.fact 25 (f := .free "bool") rfl)
  b_dict := He.free_ok X G (c.d.fact 26 (f := .free "dict") rfl)
  b_enumerate := He.free_ok X G (c.d.fact 27 (f := .free "enumerate") rfl)
  b_int := He.free_ok X G (c.d.fact 28 (f := .free "int") rfl)
  b_isinstance := He.free_ok X G (c.d.fact 29 (f := .free "isinstance") rfl)
  b_len := He.free_ok X G (c.d.fact 30 (f := .free "len") rfl)
  b_list := He.free_ok X G (c.d.fact 31 (f := .free "list") rfl)
  b_range := He.free_ok X G (c.d.fact 32 (f := .free "range") rfl)
  b_repr := He.free_ok X G (c.d.fact 33 (f := .free "repr") rfl)
  b_tuple := He.free_ok X G (c.d.fact 34 (f := .free "tuple") rfl)
  ow := c.x
  c_NearError := He.glo_ok X G (c.d.fact 8 (f := .glo "NearError") rfl)
  c_BadField := He.glo_ok X G (c.d.fact 9 (f := .glo "BadField") rfl)
  c_BadClock := He.glo_ok X G (c.d.fact 10 (f := .glo "BadClock") rfl)
  c_BadWish := He.glo_ok X G (c.d.fact 11 (f := .glo "BadWish") rfl)
  c_BadValue := He.glo_ok X G (c.d.fact 12 (f := .glo "BadValue") rfl)
  c_BadNumber := He.glo_ok X G (c.d.fact 13 (f := .glo "BadNumber") rfl)
  c_BadPaper := He.glo_ok X G (c.d.fact 14 (f := .glo "BadPaper") rfl)
  c_BadCommand := He.glo_ok X G (c.d.fact 15 (f := .glo "BadCommand") rfl)
  c_NoName := He.glo_ok X G (c.d.fact 16 (f := .glo "NoName") rfl)
  c_Misfit := He.glo_ok X G (c.d.fact 17 (f := .glo "Misfit") rfl)
  c_Nothing := He.glo_ok X G (c.d.fact 18 (f := .glo "Nothing") rfl)
  c_BadText := He.glo_ok X G (c.d.fact 19 (f := .glo "BadText") rfl)
  c_TooMany := He.glo_ok X G (c.d.fact 20 (f := .glo "TooMany") rfl)
  c_Paper := He.glo_ok X G (c.d.fact 21 (f := .glo "Paper") rfl)
  c_Denial := He.glo_ok X G (c.d.fact 22 (f := .glo "Denial") rfl)
  e_BadClock := errB_ok (d := ⟨"BadClock", ["part"], st_BadClock⟩) (c.err 0 rfl).1 (c.err 0 rfl).2 rfl (Er.Body.one "part" rfl) ⟨by decide +kernel, by decide +kernel, by decide +kernel, by decide +kernel, rfl, rfl, rfl, by decide +kernel, by decide +kernel, by decide +kernel⟩ (by intro _ _ _ _ _ _ _ us ps kw hl hf; cases hf <;> first | rfl | (match us, hl with | [_], _ => rfl))
  e_BadCommand := errB_ok (d := ⟨"BadCommand", ["word"], st_BadCommand⟩) (c.err 1 rfl).1 (c.err 1 rfl).2 rfl (Er.Body.one "word" rfl) ⟨by decide +kernel, by decide +kernel, by decide +kernel, by decide +kernel, rfl, rfl, rfl, by decide +kernel, by decide +kernel, by decide +kernel⟩ (by intro _ _ _ _ _ _ _ us ps kw hl hf; cases hf <;> first | rfl | (match us, hl with | [_], _ => rfl))
  e_BadField := errB_ok (d := ⟨"BadField", ["part"], st_BadField⟩) (c.err 2 rfl).1 (c.err 2 rfl).2 rfl (Er.Body.one "part" rfl) ⟨by decide +kernel, by decide +kernel, by decide +kernel, by decide +kernel, rfl, rfl, rfl, by decide +kernel, by decide +kernel, by decide +kernel⟩ (by intro _ _ _ _ _ _ _ us ps kw hl hf; cases hf <;> first | rfl | (match us, hl with | [_], _ => rfl))
  e_BadNumber := errB_ok (d := ⟨"BadNumber", ["part"], st_BadNumber⟩) (c.err 3 rfl).1 (c.err 3 rfl).2 rfl (Er.Body.one "part" rfl) ⟨by decide +kernel, by decide +kernel, by decide +kernel, by decide +kernel, rfl, rfl, rfl, by decide +kernel, by decide +kernel, by decide +kernel⟩ (by intro _ _ _ _ _ _ _ us ps kw hl hf; cases hf <;> first | rfl | (match us, hl with | [_], _ => rfl))
  e_BadPaper := errB_ok (d := ⟨"BadPaper", ["part"], st_BadPaper⟩) (c.err 4 rfl).1 (c.err 4 rfl).2 rfl (Er.Body.one "part" rfl) ⟨by decide +kernel, by decide +kernel, by decide +kernel, by decide +kernel, rfl, rfl, rfl, by decide +kernel, by decide +kernel, by decide +kernel⟩ (by intro _ _ _ _ _ _ _ us ps kw hl hf; cases hf <;> first | rfl | (match us, hl with | [_], _ => rfl))
  e_BadText := errB_ok (d := ⟨"BadText", ["line", "word"], st_BadText⟩) (c.err 5 rfl).1 (c.err 5 rfl).2 rfl (Er.Body.two "line" "word" rfl) ⟨by decide +kernel, by decide +kernel, by decide +kernel, by decide +kernel, rfl, rfl, rfl, by decide +kernel, by decide +kernel, by decide +kernel⟩ (by intro _ _ _ _ _ _ _ us ps kw hl hf; cases hf <;> first | rfl | (match us, hl with | [_, _], _ => rfl))
  e_BadValue := errB_ok (d := ⟨"BadValue", ["part"], st_BadValue⟩) (c.err 6 rfl).1 (c.err 6 rfl).2 rfl (Er.Body.one "part" rfl) ⟨by decide +kernel, by decide +kernel, by decide +kernel, by decide +kernel, rfl, rfl, rfl, by decide +kernel, by decide +kernel, by decide +kernel⟩ (by intro _ _ _ _ _ _ _ us ps kw hl hf; cases hf <;> first | rfl | (match us, hl with | [_], _ => rfl))
  e_BadWish := errB_ok (d := ⟨"BadWish", ["part"], st_BadWish⟩) (c.err 7 rfl).1 (c.err 7 rfl).2 rfl (Er.Body.one "part" rfl) ⟨by decide +kernel, by decide +kernel, by decide +kernel, by decide +kernel, rfl, rfl, rfl, by decide +kernel, by decide +kernel, by decide +kernel⟩ (by intro _ _ _ _ _ _ _ us ps kw hl hf; cases hf <;> first | rfl | (match us, hl with | [_], _ => rfl))
  e_Misfit := errB_ok (d := ⟨"Misfit", ["part"], st_Misfit⟩) (c.err 8 rfl).1 (c.err 8 rfl).2 rfl (Er.Body.one "part" rfl) ⟨by decide +kernel, by decide +kernel, by decide +kernel, by decide +kernel, rfl, rfl, rfl, by decide +kernel, by decide +kernel, by decide +kernel⟩ (by intro _ _ _ _ _ _ _ us ps kw hl hf; cases hf <;> first | rfl | (match us, hl with | [_], _ => rfl))
  e_NoName := errB_ok (d := ⟨"NoName", ["name"], st_NoName⟩) (c.err 9 rfl).1 (c.err 9 rfl).2 rfl (Er.Body.one "name" rfl) ⟨by decide +kernel, by decide +kernel, by decide +kernel, by decide +kernel, rfl, rfl, rfl, by decide +kernel, by decide +kernel, by decide +kernel⟩ (by intro _ _ _ _ _ _ _ us ps kw hl hf; cases hf <;> first | rfl | (match us, hl with | [_], _ => rfl))
  e_Nothing := errB_ok (d := ⟨"Nothing", ["part"], st_Nothing⟩) (c.err 10 rfl).1 (c.err 10 rfl).2 rfl (Er.Body.one "part" rfl) ⟨by decide +kernel, by decide +kernel, by decide +kernel, by decide +kernel, rfl, rfl, rfl, by decide +kernel, by decide +kernel, by decide +kernel⟩ (by intro _ _ _ _ _ _ _ us ps kw hl hf; cases hf <;> first | rfl | (match us, hl with | [_], _ => rfl))
  e_TooMany := errB_ok (d := ⟨"TooMany", ["what", "most"], st_TooMany⟩) (c.err 11 rfl).1 (c.err 11 rfl).2 rfl (Er.Body.two "what" "most" rfl) ⟨by decide +kernel, by decide +kernel, by decide +kernel, by decide +kernel, rfl, rfl, rfl, by decide +kernel, by decide +kernel, by decide +kernel⟩ (by intro _ _ _ _ _ _ _ us ps kw hl hf; cases hf <;> first | rfl | (match us, hl with | [_, _], _ => rfl))
  eT := c.errTab
  exm := c.exm
  no_word := fun i hi => (c.one hi).2.2.2.1 "word" (by decide)
  no_name := fun i hi => (c.one hi).2.2.2.1 "name" (by decide)
  no_line := fun i hi => (c.one hi).2.2.2.1 "line" (by decide)
  no_what := fun i hi => (c.one hi).2.2.2.1 "what" (by decide)
  no_most := fun i hi => (c.one hi).2.2.2.1 "most" (by decide)
  no_part := fun i hi => (c.one hi).2.2.2.1 "part" (by decide)
  no_parts := fun i hi => (c.one hi).2.2.2.1 "parts" (by decide)
  nsuper := He.free_ok X G (c.d.fact 35 (f := .free "super") rfl)
end K00

namespace K00
open PySem PySem.Spec PyProof.Rows L2 PyD
/-! ### what kind an error is -/
theorem sz {n : Nat} (h : Nat.ble n 1000 = true) : n ≤ sizeLine := Nat.le_trans (Nat.le_of_ble_eq_true h) (by decide)
theorem lz {n : Nat} (h : Nat.ble n 1000 = true) : n < sizeLine := Nat.lt_of_le_of_lt (Nat.le_of_ble_eq_true h) (by decide)
theorem tb {c j : Nat} (hc : c < 13) (hj : j < 15) : tab (.c c) (.c j) = some (subL c j) := if_pos (by rw [decide_eq_true (show c < 15 by omega), decide_eq_true hj]; rfl)
def kindsL (c : Nat) : List D := [1, 2, 3, 4, 5, 6, 7, 8, 9, 10, 11, 12].map fun j => D.bl (subL c j)
theorem kinds_ok {c : Nat} {fs : List (Str × D)} {post : D → Pr} {ep : EP} {n : Nat} (hc : c < 13) (h : post (.lst (kindsL c)) n) : c__law_kinds_of [.exc c fs] post ep n := by
  refine ⟨rfl, ?_⟩
  refine ⟨.c c, _, if_pos hc, tb (j := 1) hc (by decide), ?_⟩
  refine ⟨.c c, _, if_pos hc, tb (j := 2) hc (by decide), ?_⟩
  refine ⟨.c c, _, if_pos hc, tb (j := 3) hc (by decide), ?_⟩
  refine ⟨.c c, _, if_pos hc, tb (j := 4) hc (by decide), ?_⟩
  refine ⟨.c c, _, if_pos hc, tb (j := 5) hc (by decide), ?_⟩
  refine ⟨sz rfl, ?_⟩
  refine ⟨.c c, _, if_pos hc, tb (j := 6) hc (by decide), ?_⟩
  refine ⟨.c c, _, if_pos hc, tb (j := 7) hc (by decide), ?_⟩
  refine ⟨.c c, _, if_pos hc, tb (j := 8) hc (by decide), ?_⟩
  refine ⟨.c c, _, if_pos hc, tb (j := 9) hc (by decide), ?_⟩
  refine ⟨.c c, _, if_pos hc, tb (j := 10) hc (by decide), ?_⟩
  refine ⟨sz rfl, sz rfl, ?_⟩
  refine ⟨.c c, _, if_pos hc, tb (j := 11) hc (by decide), ?_⟩
  refine ⟨.c c, _, if_pos hc, tb (j := 12) hc (by decide), ?_⟩
  refine ⟨sz rfl, sz rfl, ?_⟩
  exact h
def kindsP (c : Nat) : List PyData := [1, 2, 3, 4, 5, 6, 7, 8, 9, 10, 11, 12].map fun j => PyData.bool (subL c j)
def spotsP (at_ : Int) : List PyData := [0, 1, 2, 3, 4, 5, 6, 7, 8, 9, 10, 11].map fun (i : Int) => PyData.bool (PyData.eqv (.int i) (.int at_))
def spotsL (at_ : Int) : List D := [0, 1, 2, 3, 4, 5, 6, 7, 8, 9, 10, 11].map fun (i : Int) => D.bl (PyData.eqv (.int i) (.int at_))
abbrev wSpots : WE := wOfF (wComp (wItR1 (wC (.int 12))) (gN 6) wYes (wOp eqD (wVar 6) (wVar 4)) [6])
theorem spots_ok {a b c d e f g h : Slot} {at_ : Int} {post : D → Pr} {ep : EP} {n : Nat} (hp : post (.lst (spotsL at_)) n) : wSpots [a, b, c, d, .val (.int at_), e, f, g, h] post ep n := by
  refine ⟨⟨by decide, by decide⟩, ?_⟩
  iterate 12 refine ⟨_, _, rfl, rfl, rfl, rfl, lz rfl, ?_⟩
  exact hp
end K00

namespace K00
open PySem PySem.Spec PyProof.Rows L2 PyD
/-! ### the loop over the errors -/
abbrev wBody : WS := (wSeq (wIf (wOrT (wTest (wOp neD (wCall c__law_kinds_of [] (wCons (wVar 5) wNil)) wSpots)) (wTest (wOp neD (wCall c__law_kinds_of [] (wCons (wOp ixD (wVar 3) (wVar 4)) wNil)) wSpots))) (wRet (wC (.bl false))) wNext)
  (wIf (wOrT (wNotT (wTest (wCB (isaD tab 13 15) (wCons (wVar 5) (wCons (wC (.cls 0)) wNil))))) (wNotT (wTest (wCB (isaD tab 13 15) (wCons (wVar 5) (wCons (wC (.ty "ValueError")) wNil)))))) (wRet (wC (.bl false))) wNext))
theorem body_ok {a b s h i : Slot} {nl : List D} {c : Nat} {at_ : Int} {fs gs : List (Str × D)} {K : KS} {n : Nat} (hc : c < 13) (he : PyData.eqv (.list (kindsP c)) (.list (spotsP at_)) = true) (h0 : subL c 0 = true) (hv : tab (.c c) (.b "ValueError") = some true) (hn : atI nl at_ = some (.exc c gs))
    (hk : K.nx [a, b, s, .val (.lst nl), .val (.int at_), .val (.exc c fs), .no, h, i] n) : wBody [a, b, s, .val (.lst nl), .val (.int at_), .val (.exc c fs), .no, h, i] K n := by
  refine kinds_ok hc (spots_ok ⟨.list (kindsP c), .list (spotsP at_), rfl, rfl, rfl, rfl, ?_⟩)
  show (if (!PyData.eqv (.list (kindsP c)) (.list (spotsP at_))) = true then _ else _ : Pr) n
  rw [he]
  refine ⟨_, hn, kinds_ok hc (spots_ok ⟨.list (kindsP c), .list (spotsP at_), rfl, rfl, rfl, rfl, ?_⟩)⟩
  show (if (!PyData.eqv (.list (kindsP c)) (.list (spotsP at_))) = true then _ else _ : Pr) n
  rw [he]
  refine ⟨.c c, _, if_pos hc, (tb (j := 0) hc (by decide)).trans (congrArg some h0), ?_⟩
  refine ⟨.c c, _, if_pos hc, hv, ?_⟩
  exact hk
end K00

namespace K00
open PySem PySem.Spec PyProof.Rows L2 PyD
/-! ### what is compared by its text -/
structure Sh (d : D) (y : PyData) : Prop where
  py : toPyK d = some y
  sh : y.showable = true
  len : y.shown.length ≤ sizeLine
  dp : y.depth ≤ 60
  ok : PyData.strOk y.shown = true
theorem beq_str (x : Str) : (x == x) = true := by first | exact beq_self_eq_true x | (cases x; simp)
abbrev wRetE : WS := (wRet (wAndV (wOp eqD (wCB reprKD (wCons (wVar 7) wNil)) (wCB reprKD (wCons (wOp mulD (wLst (wCons (wVar 1) wNil)) (wC (.int 16))) wNil))) (wAndV (wOp eqD (wCB reprKD (wCons (wVar 8) wNil)) (wCB reprKD (wCons (wLst (wCons (wVar 1) (wCons (wVar 1) (wCons (wVar 1) (wCons (wC (.int 1)) (wCons (wVar 1) (wCons (wC (.int 1)) wNil))))))) wNil))) (wOp eqD (wCB reprKD (wCons (wUn (attrD "line" 13 15) (wOp ixD (wVar 3) (wC (.int 10)))) wNil)) (wCB reprKD (wCons (wVar 1) wNil))))))
theorem ret_ok {a s e f g : Slot} {v : D} {nl : List D} {y1 y2 y3 : PyData} {fs : List (Str × D)} {K : KS} {n : Nat} (s1 : Sh (.lst [v, v, v, v, v, v, v, v, v, v, v, v, v, v, v, v]) y1) (s2 : Sh (.lst [v, v, v, .int 1, v, .int 1]) y2) (s3 : Sh v y3) (hn : atI nl 10 = some (.exc 11 (("line", v) :: fs)))
    (hk : K.rt [a, .val v, s, .val (.lst nl), e, f, g, .val (.lst [v, v, v, v, v, v, v, v, v, v, v, v, v, v, v, v]), .val (.lst [v, v, v, .int 1, v, .int 1])] (.bl true) n) :
    wRetE [a, .val v, s, .val (.lst nl), e, f, g, .val (.lst [v, v, v, v, v, v, v, v, v, v, v, v, v, v, v, v]), .val (.lst [v, v, v, .int 1, v, .int 1])] K n := by
  have st : ∀ {y : PyData}, PyData.strOk y.shown = true → SeqAt.shaped (.str y.shown) = true := fun h => shaped_str h
  refine ⟨y1, s1.py, s1.sh, s1.len, s1.dp, sz rfl, by decide, by decide, sz rfl, y1, s1.py, s1.sh, s1.len, s1.dp, .str y1.shown, .str y1.shown, rfl, rfl, st s1.ok, st s1.ok, ?_⟩
  rw [show PyData.eqv (.str y1.shown) (.str y1.shown) = true from beq_str _]
  refine ⟨y2, s2.py, s2.sh, s2.len, s2.dp, sz rfl, y2, s2.py, s2.sh, s2.len, s2.dp, .str y2.shown, .str y2.shown, rfl, rfl, st s2.ok, st s2.ok, ?_⟩
  rw [show PyData.eqv (.str y2.shown) (.str y2.shown) = true from beq_str _]
  refine ⟨_, hn, by decide, v, rfl, y3, s3.py, s3.sh, s3.len, s3.dp, y3, s3.py, s3.sh, s3.len, s3.dp, .str y3.shown, .str y3.shown, rfl, rfl, st s3.ok, st s3.ok, ?_⟩
  rw [show PyData.eqv (.str y3.shown) (.str y3.shown) = true from beq_str _]
  exact hk
end K00

namespace K00
open PySem PySem.Spec PyProof.Rows L2 PyD
/-! ### errors made, looked at -/
def someL (v : D) : List D := [.exc 1 [("part", v)], .exc 2 [("part", v)], .exc 3 [("part", v)], .exc 4 [("part", v)], .exc 5 [("part", v)], .exc 6 [("part", v)], .exc 7 [("word", v)], .exc 8 [("name", v)], .exc 9 [("part", v)], .exc 10 [("part", v)], .exc 11 [("line", v), ("word", .int 1)], .exc 12 [("what", v), ("most", .int 1)]]
def partsL (v : D) : List D := [v, v, v, v, v, v, v, v, v, v, v, v, v, v, v, v]
def restL (v : D) : List D := [v, v, v, .int 1, v, .int 1]
abbrev wFirst (R : WS) : WS := wSeq (wSet 2 (wLst (wCons (wMkV 1 ["part"] (wCons (wVar 1) wNil)) (wCons (wMkV 2 ["part"] (wCons (wVar 1) wNil)) (wCons (wMkV 3 ["part"] (wCons (wVar 1) wNil)) (wCons (wMkV 4 ["part"] (wCons (wVar 1) wNil)) (wCons (wMkV 5 ["part"] (wCons (wVar 1) wNil)) (wCons (wMkV 6 ["part"] (wCons (wVar 1) wNil)) (wCons (wMkV 7 ["word"] (wCons (wVar 1) wNil)) (wCons (wMkV 8 ["name"] (wCons (wVar 1) wNil)) (wCons (wMkV 9 ["part"] (wCons (wVar 1) wNil)) wNil))))))))))) (wSeq (wSet 2 (wOp addD (wVar 2) (wLst (wCons (wMkV 10 ["part"] (wCons (wVar 1) wNil)) (wCons (wMkV 11 ["line", "word"] (wCons (wVar 1) (wCons (wC (.int 1)) wNil))) (wCons (wMkV 12 ["what", "most"] (wCons (wVar 1) (wCons (wC (.int 1)) wNil))) wNil)))))) (wSeq (wSet 3 (wLst (wCons (wMkK 1 ["part"] [0] 1 (wCons (wVar 1) wNil)) (wCons (wMkK 2 ["part"] [0] 1 (wCons (wVar 1) wNil)) (wCons (wMkK 3 ["part"] [0] 1 (wCons (wVar 1) wNil)) (wCons (wMkK 4 ["part"] [0] 1 (wCons (wVar 1) wNil)) (wCons (wMkK 5 ["part"] [0] 1 (wCons (wVar 1) wNil)) (wCons (wMkK 6 ["part"] [0] 1 (wCons (wVar 1) wNil)) wNil)))))))) (wSeq (wSet 3 (wOp addD (wVar 3) (wLst (wCons (wMkK 7 ["word"] [0] 1 (wCons (wVar 1) wNil)) (wCons (wMkK 8 ["name"] [0] 1 (wCons (wVar 1) wNil)) (wCons (wMkK 9 ["part"] [0] 1 (wCons (wVar 1) wNil)) (wCons (wMkK 10 ["part"] [0] 1 (wCons (wVar 1) wNil)) (wCons (wMkK 11 ["line", "word"] [1, 0] 2 (wCons (wC (.int 1)) (wCons (wVar 1) wNil))) (wCons (wMkK 12 ["what", "most"] [1, 0] 2 (wCons (wC (.int 1)) (wCons (wVar 1) wNil))) wNil))))))))) R)))
abbrev wLoopE : WS := wFor (wItE (wCons (wVar 2) wNil)) (gT 2 (gsCons (gN 4) (gsCons (gN 5) gsNil))) wBody
abbrev wParts (R : WS) : WS := wSeq (wSet 7 (wOp addD (wOfF (wComp (wItA (wOp addD (wSl (wVar 2) wNoP (wP (wC (.int 6)))) (wSl (wVar 2) (wP (wC (.int 8))) (wP (wC (.int 10)))))) (gN 5) wYes (wUn (attrD "part" 13 15) (wVar 5)) [5])) (wOfF (wComp (wItA (wOp addD (wSl (wVar 3) wNoP (wP (wC (.int 6)))) (wSl (wVar 3) (wP (wC (.int 8))) (wP (wC (.int 10)))))) (gN 5) wYes (wUn (attrD "part" 13 15) (wVar 5)) [5])))) (wSeq (wSet 8 (wLst (wCons (wUn (attrD "word" 13 15) (wOp ixD (wVar 2) (wC (.int 6)))) (wCons (wUn (attrD "name" 13 15) (wOp ixD (wVar 2) (wC (.int 7)))) (wCons (wUn (attrD "line" 13 15) (wOp ixD (wVar 2) (wC (.int 10)))) (wCons (wUn (attrD "word" 13 15) (wOp ixD (wVar 2) (wC (.int 10)))) (wCons (wUn (attrD "what" 13 15) (wOp ixD (wVar 2) (wC (.int 11)))) (wCons (wUn (attrD "most" 13 15) (wOp ixD (wVar 2) (wC (.int 11)))) wNil)))))))) R)
theorem first_ok {a : Slot} {v : D} {R : WS} {K : KS} {n : Nat} (h : R [a, .val v, .val (.lst (someL v)), .val (.lst (someL v)), .no, .no, .no, .no, .no] K n) : wFirst R [a, .val v, .no, .no, .no, .no, .no, .no, .no] K n := by
  refine ⟨rfl, rfl, rfl, rfl, rfl, rfl, rfl, rfl, rfl, sz rfl, ?_⟩
  refine ⟨rfl, rfl, rfl, sz rfl, sz rfl, ?_⟩
  refine ⟨rfl, rfl, rfl, rfl, rfl, rfl, sz rfl, ?_⟩
  refine ⟨rfl, rfl, rfl, rfl, rfl, rfl, sz rfl, sz rfl, ?_⟩
  exact h
theorem loop_ok {a : Slot} {v : D} {K : KS} {n : Nat} (h : K.nx [a, .val v, .val (.lst (someL v)), .val (.lst (someL v)), .val (.int 11), .val (.exc 12 [("what", v), ("most", .int 1)]), .no, .no, .no] n) : wLoopE [a, .val v, .val (.lst (someL v)), .val (.lst (someL v)), .no, .no, .no, .no, .no] K n := by
  refine ⟨rfl, body_ok (c := 1) (at_ := 0) (by decide) (by decide +kernel) rfl (by decide +kernel) rfl ?_⟩
  refine ⟨rfl, body_ok (c := 2) (at_ := 1) (by decide) (by decide +kernel) rfl (by decide +kernel) rfl ?_⟩
  refine ⟨rfl, body_ok (c := 3) (at_ := 2) (by decide) (by decide +kernel) rfl (by decide +kernel) rfl ?_⟩
  refine ⟨rfl, body_ok (c := 4) (at_ := 3) (by decide) (by decide +kernel) rfl (by decide +kernel) rfl ?_⟩
  refine ⟨rfl, body_ok (c := 5) (at_ := 4) (by decide) (by decide +kernel) rfl (by decide +kernel) rfl ?_⟩
  refine ⟨rfl, body_ok (c := 6) (at_ := 5) (by decide) (by decide +kernel) rfl (by decide +kernel) rfl ?_⟩
  refine ⟨rfl, body_ok (c := 7) (at_ := 6) (by decide) (by decide +kernel) rfl (by decide +kernel) rfl ?_⟩
  refine ⟨rfl, body_ok (c := 8) (at_ := 7) (by decide) (by decide +kernel) rfl (by decide +kernel) rfl ?_⟩
  refine ⟨rfl, body_ok (c := 9) (at_ := 8) (by decide) (by decide +kernel) rfl (by decide +kernel) rfl ?_⟩
  refine ⟨rfl, body_ok (c := 10) (at_ := 9) (by decide) (by decide +kernel) rfl (by decide +kernel) rfl ?_⟩
  refine ⟨rfl, body_ok (c := 11) (at_ := 10) (by decide) (by decide +kernel) rfl (by decide +kernel) rfl ?_⟩
  refine ⟨rfl, body_ok (c := 12) (at_ := 11) (by decide) (by decide +kernel) rfl (by decide +kernel) rfl ?_⟩
  exact h
theorem parts_ok {a e f : Slot} {v : D} {R : WS} {K : KS} {n : Nat} (h : R [a, .val v, .val (.lst (someL v)), .val (.lst (someL v)), e, f, .no, .val (.lst (partsL v)), .val (.lst (restL v))] K n) : wParts R [a, .val v, .val (.lst (someL v)), .val (.lst (someL v)), e, f, .no, .no, .no] K n := by
  refine ⟨sz rfl, ?_⟩
  iterate 8 refine ⟨by decide, v, rfl, lz rfl, ?_⟩
  refine ⟨sz rfl, ?_⟩
  iterate 8 refine ⟨by decide, v, rfl, lz rfl, ?_⟩
  refine ⟨sz rfl, ?_⟩
  iterate 6 refine ⟨_, rfl, by decide, _, rfl, ?_⟩
  exact ⟨sz rfl, h⟩
end K00

namespace K00
open PySem PySem.Spec PyProof.Rows L2 PyD
/-! ### the values that errors get -/
def valsE : List D := [.non, .int 5, .str "a", .lst [.int 1, .lst [.int 2]], .tup [.int 3], .dic [(.inr "k", .int 1)], .bl true]
theorem sh_of {d : D} {y : PyData} (h1 : toPyK d = some y) (h2 : y.showable = true) (h3 : Nat.ble y.shown.length 1000 = true) (h4 : Nat.ble y.depth 60 = true) (h5 : PyData.strOk y.shown = true) : Sh d y := ⟨h1, h2, sz h3, Nat.le_of_ble_eq_true h4, h5⟩
theorem vals_sh : ∀ d ∈ valsE, ∃ y1 y2 y3, Sh (.lst (partsL d)) y1 ∧ Sh (.lst (restL d)) y2 ∧ Sh d y3 := by
  intro d hd
  unfold valsE at hd
  simp only [List.mem_cons, List.not_mem_nil, or_false] at hd
  rcases hd with rfl | rfl | rfl | rfl | rfl | rfl | rfl
  all_goals exact ⟨_, _, _, sh_of rfl (by decide +kernel) (by decide +kernel) (by decide +kernel) (by decide +kernel), sh_of rfl (by decide +kernel) (by decide +kernel) (by decide +kernel) (by decide +kernel), sh_of rfl (by decide +kernel) (by decide +kernel) (by decide +kernel) (by decide +kernel)⟩
theorem errs_ok {L : Nat} {post : D → Pr} {ep : EP} {n : Nat} (hn : 1 ≤ n) (h : ∀ n', n ≤ n' + 1 → post (.bl true) n') : c__law_errors_right [.vol L] post ep n := by
  refine ⟨rfl, ?_⟩
  refine ⟨sz rfl, sz rfl, sz rfl, _, rfl, by decide, sz rfl, ?_⟩
  refine pick_ok (ds := valsE) (by decide) (by decide) hn fun d hd n' hn' => ?_
  obtain ⟨y1, y2, y3, s1, s2, s3⟩ := vals_sh d hd
  exact first_ok (loop_ok (parts_ok (ret_ok s1 s2 s3 rfl (h n' hn'))))
end K00

namespace K00
open PySem PySem.Spec PyProof.Rows L2 PyD
/-! ### lists as tuples, all the way in -/
inductive All2 (R : D → D → Prop) : List D → List D → Prop where
  | nil : All2 R [] []
  | cons {a b : D} {l m : List D} (h : R a b) (t : All2 R l m) : All2 R (a :: l) (b :: m)
/-- what is neither list nor tuple nor dict -/
def scalD : D → Bool
  | .non => true
  | .bl _ => true
  | .int _ => true
  | .str _ => true
  | _ => false
def Cop : Nat → D → D → Prop
  | 0, _, _ => False
  | k + 1, d, e => (scalD d = true ∧ e = d) ∨ (∃ l m, d = .lst l ∧ e = .tup m ∧ l.length ≤ 1000 ∧ All2 (Cop k) l m) ∨ (∃ l m, d = .tup l ∧ e = .tup m ∧ l.length ≤ 1000 ∧ All2 (Cop k) l m) ∨ ∃ q x y, d = .dic [(q, x)] ∧ e = .dic [(q, y)] ∧ Cop k x y
theorem All2.len {R : D → D → Prop} {l m : List D} (h : All2 R l m) : l.length = m.length := by
  induction h with
  | nil => rfl
  | cons _ _ ih => rw [List.length_cons, List.length_cons, ih]
theorem lc_call {ρ : EnvD} {i : Nat} (hi : i < ρ.length) {cr : WD} {R : D → D → Prop} (hR : ∀ (d e : D) (post : D → Pr) (ep : EP) (n : Nat), R d e → post e n → cr [d] post ep n) {post : List D → Pr} {n : Nat} :
    ∀ {l m : List D}, All2 R l m → ∀ acc : List D, acc.length + l.length ≤ 1000 → post (acc ++ m) n → wLc (gN i) wYes (wCall cr [] (wCons (wVar i) wNil)) ρ post l acc n := by
  intro l m h
  induction h with
  | nil => intro acc _ hp; rw [List.append_nil] at hp; exact hp
  | @cons a b l m h t ih =>
    intro acc hl hp
    have hl' : acc.length + (l.length + 1) ≤ 1000 := hl
    have e : (ρ.set i (.val a)).getD i .no = .val a := by
      rw [List.getD_eq_getElem?_getD, List.getElem?_set_self hi]; rfl
    show (match (ρ.set i (Slot.val a)).getD i .no with
      | .val d => fun n => cr [d] (fun y n => acc.length < sizeLine ∧ wLc (gN i) wYes (wCall cr [] (wCons (wVar i) wNil)) ρ post l (acc ++ [y]) n) ep0 n
      | _ => fun _ => False) n
    rw [e]
    refine hR a b _ _ n h ⟨Nat.lt_of_le_of_lt (show acc.length ≤ 1000 by omega) (by decide), ih (acc ++ [b]) (by rw [List.length_append]; simp; omega) (by rw [List.append_assoc]; exact hp)⟩
theorem isaL_scal {d : D} {t : TyN} (hs : scalD d = true) (ht : tyN 13 15 d = some t) : isaL tab t [.b "list", .b "tuple"] = some false ∧ tab t (.b "dict") = some false := by
  cases d with
  | non => cases ht; exact ⟨by decide +kernel, by decide +kernel⟩
  | bl b => cases ht; exact ⟨by decide +kernel, by decide +kernel⟩
  | int i => cases ht; exact ⟨by decide +kernel, by decide +kernel⟩
  | str x => cases ht; exact ⟨by decide +kernel, by decide +kernel⟩
  | _ => cases hs
theorem tyN_scal {d : D} (hs : scalD d = true) : ∃ t, tyN 13 15 d = some t := by
  cases d with
  | non => exact ⟨_, rfl⟩
  | bl b => exact ⟨_, rfl⟩
  | int i => exact ⟨_, rfl⟩
  | str x => exact ⟨_, rfl⟩
  | _ => cases hs
theorem isaL_lst : isaL tab (.b "list") [.b "list", .b "tuple"] = some true := by decide +kernel
theorem isaL_tup : isaL tab (.b "tuple") [.b "list", .b "tuple"] = some true := by decide +kernel
theorem isaL_dic : isaL tab (.b "dict") [.b "list", .b "tuple"] = some false := by decide +kernel
theorem isa_dic : tab (.b "dict") (.b "dict") = some true := by decide +kernel
theorem isa_lst_dic : tab (.b "list") (.b "dict") = some false := by decide +kernel
theorem isa_tup_dic : tab (.b "tuple") (.b "dict") = some false := by decide +kernel
theorem copied_ok : ∀ (k : Nat) {d e : D} {post : D → Pr} {ep : EP} {n : Nat}, Cop k d e → post e n → c_copied k [d] post ep n
  | 0, _, _, _, _, _, h, _ => h.elim
  | k + 1, d, e, post, ep, n, h, hp => by
    have hR : ∀ (d e : D) (post : D → Pr) (ep : EP) (n : Nat), Cop k d e → post e n → c_copied k [d] post ep n := fun d e post ep n h hp => copied_ok k h hp
    refine ⟨rfl, ?_⟩
    rcases h with ⟨hs, rfl⟩ | ⟨l, m, rfl, rfl, hl, ha⟩ | ⟨l, m, rfl, rfl, hl, ha⟩ | ⟨q, x, y, rfl, rfl, hc⟩
    · obtain ⟨t, ht⟩ := tyN_scal hs
      obtain ⟨i1, i2⟩ := isaL_scal hs ht
      refine ⟨sz rfl, t, _, false, ht, rfl, i1, ?_⟩
      refine ⟨t, false, ht, i2, ?_⟩
      exact hp
    · refine ⟨sz rfl, _, _, true, rfl, rfl, isaL_lst, ?_⟩
      refine lc_call (i := 1) (R := Cop k) ?_ hR ha [] (by simpa using hl) ?_
      · exact Nat.le_of_ble_eq_true rfl
      exact hp
    · refine ⟨sz rfl, _, _, true, rfl, rfl, isaL_tup, ?_⟩
      refine lc_call (i := 1) (R := Cop k) ?_ hR ha [] (by simpa using hl) ?_
      · exact Nat.le_of_ble_eq_true rfl
      exact hp
    · refine ⟨sz rfl, _, _, false, rfl, rfl, isaL_dic, ?_⟩
      refine ⟨_, true, rfl, isa_dic, ?_⟩
      refine ⟨_, rfl, rfl, ?_⟩
      have hk : keyOf (keyD q) = some q := by cases q <;> rfl
      refine hR x y _ _ n hc ⟨q, hk, lz rfl, ?_⟩
      exact hp
theorem tuples_ok : ∀ (k : Nat) {d e : D} {post : D → Pr} {ep : EP} {n : Nat}, Cop k d e → post e n → c__law_tuples k [d] post ep n
  | 0, _, _, _, _, _, h, _ => h.elim
  | k + 1, d, e, post, ep, n, h, hp => by
    have hR : ∀ (d e : D) (post : D → Pr) (ep : EP) (n : Nat), Cop k d e → post e n → c__law_tuples k [d] post ep n := fun d e post ep n h hp => tuples_ok k h hp
    refine ⟨rfl, ?_⟩
    rcases h with ⟨hs, rfl⟩ | ⟨l, m, rfl, rfl, hl, ha⟩ | ⟨l, m, rfl, rfl, hl, ha⟩ | ⟨q, x, y, rfl, rfl, hc⟩
    · obtain ⟨t, ht⟩ := tyN_scal hs
      obtain ⟨i1, i2⟩ := isaL_scal hs ht
      refine ⟨t, false, ht, i2, ?_⟩
      refine ⟨sz rfl, t, _, false, ht, rfl, i1, ?_⟩
      exact hp
    · refine ⟨_, false, rfl, isa_lst_dic, ?_⟩
      refine ⟨sz rfl, _, _, true, rfl, rfl, isaL_lst, ?_⟩
      refine lc_call (i := 2) (R := Cop k) ?_ hR ha [] (by simpa using hl) ?_
      · exact Nat.le_of_ble_eq_true rfl
      exact hp
    · refine ⟨_, false, rfl, isa_tup_dic, ?_⟩
      refine ⟨sz rfl, _, _, true, rfl, rfl, isaL_tup, ?_⟩
      refine lc_call (i := 2) (R := Cop k) ?_ hR ha [] (by simpa using hl) ?_
      · exact Nat.le_of_ble_eq_true rfl
      exact hp
    · refine ⟨_, true, rfl, isa_dic, ?_⟩
      have hk : keyOf (keyD q) = some q := by cases q <;> rfl
      have hv : valKD [(q, x)] q = some x := by unfold valKD; simp
      refine ⟨_, rfl, ?_⟩
      refine ⟨q, x, hk, hv, hR x y _ _ n hc ⟨sz rfl, lz rfl, ?_⟩⟩
      refine ⟨[(q, y)], ?_, ?_⟩
      · show (match keyOf (keyD q), PyD.pairsOf [] with | some k, some r => some ((k, y) :: r) | _, _ => none) = some [(q, y)]
        rw [hk]; rfl
      · exact hp
/-! ### papers -/
theorem init_ok {c : Nat} (hc : isOwn c = true) {x : Str} {l m : List D} (hl : l.length ≤ 100) (h : Cop 8 (.tup l) (.tup m)) {post : List (Str × D) → Pr} {ep : EP} {n : Nat} {b : Addr} (hp : post [("word", .str x), ("parts", .tup m)] n) : wi_Paper__init__ c b (.str x :: l) post ep n := by
  refine ⟨Nat.succ_le_succ (Nat.zero_le _), Nat.le_trans (show l.length + 1 ≤ 1000 by omega) (by decide), rfl, ?_⟩
  refine ⟨_, _, rfl, hc, Nat.le_of_ble_eq_true rfl, ?_⟩
  refine copied_ok 8 h ?_
  refine ⟨_, _, rfl, hc, Nat.le_of_ble_eq_true rfl, ?_⟩
  exact ⟨rfl, hp⟩
def paper (c : Nat) (x : Str) (m : List D) : D := .ins c [("word", .str x), ("parts", .tup m)]
theorem shp {x : Str} (h : PyData.strOk x = true) : SeqAt.shaped (.str x) = true := shaped_str h
/-- papers of one word, the items equal as far as both go -/
theorem eq_same {c d : Nat} (hc : 13 ≤ c ∧ c < 15) (hd : 13 ≤ d ∧ d < 15) (hs : subL d 13 = true) {x : Str} (hx : PyData.strOk x = true) {l m : List D} (ha : allZ (dEqT 20) l m = true) {post : D → Pr} {ep : EP} {n : Nat} (hp : post (.bl (l.length == m.length)) n) : c_Paper__eq__ [paper c x l, paper d x m] post ep n := by
  refine ⟨rfl, ?_⟩
  refine ⟨.c d, true, if_pos hd, ?_, ?_⟩
  · show (if (decide (d < 15) && decide (13 < 15)) = true then some (subL d 13) else none) = some true
    rw [hs, if_pos (by rw [decide_eq_true hd.2]; rfl)]
  · refine ⟨hc.1, hc.2, _, rfl, hd.1, hd.2, _, rfl, .str x, .str x, rfl, rfl, shp hx, shp hx, ?_⟩
    rw [show PyData.eqv (.str x) (.str x) = true from beq_str _]
    exact ⟨hc.1, hc.2, _, rfl, hd.1, hd.2, _, rfl, .inr ⟨ha, hp⟩⟩
/-- papers of other words -/
theorem eq_other {c d : Nat} (hc : 13 ≤ c ∧ c < 15) (hd : 13 ≤ d ∧ d < 15) (hs : subL d 13 = true) {x y : Str} (hx : PyData.strOk x = true) (hy : PyData.strOk y = true) (hne : (x == y) = false) {l m : List D} {post : D → Pr} {ep : EP} {n : Nat} (hp : post (.bl false) n) : c_Paper__eq__ [paper c x l, paper d y m] post ep n := by
  refine ⟨rfl, ?_⟩
  refine ⟨.c d, true, if_pos hd, ?_, ?_⟩
  · show (if (decide (d < 15) && decide (13 < 15)) = true then some (subL d 13) else none) = some true
    rw [hs, if_pos (by rw [decide_eq_true hd.2]; rfl)]
  · refine ⟨hc.1, hc.2, _, rfl, hd.1, hd.2, _, rfl, .str x, .str y, rfl, rfl, shp hx, shp hy, ?_⟩
    rw [show PyData.eqv (.str x) (.str y) = false from hne]
    exact hp
/-- a paper and a tuple -/
theorem eq_tup {c : Nat} {x : Str} {l m : List D} {post : D → Pr} {ep : EP} {n : Nat} (hp : post (.bl false) n) : c_Paper__eq__ [paper c x l, .tup m] post ep n := by
  refine ⟨rfl, ?_⟩
  refine ⟨.b "tuple", false, rfl, by decide +kernel, ?_⟩
  exact hp
end K00

namespace K00
open PySem PySem.Spec PyProof.Rows L2 PyD
/-! ### the law's turns -/
def wP0 : WS := (wIf (wNotT (wTest (wCall c__law_errors_right [] (wCons (wVar 1) wNil)))) (wRet (wC (.bl false))) wNext)
def wP1 : WS := (wAsg (wOfF (wComp (wItR1 (wC (.int 2))) (gN 5) wYes (wCall c__law_pick [] (wCons (wVar 1) (wCons (wLst (wCons (wC .non) (wCons (wC (.int 5)) (wCons (wC (.str "a")) (wCons (wLst (wCons (wC (.int 1)) (wCons (wLst (wCons (wC (.int 2)) (wCons (wTup (wCons (wC (.int 3)) wNil)) wNil))) wNil))) (wCons (wDisp (((wC (.str "k")), (wLst (wCons (wC (.int 1)) wNil))) :: [])) (wCons (wC (.bl true)) (wCons (wLst wNil) wNil)))))))) wNil))) [5])) (gLs 2 (gsCons (gN 3) (gsCons (gN 4) gsNil))))
def wP2 : WS := (wSet 6 (wCall c__law_pick [] (wCons (wVar 1) (wCons (wLst (wCons (wC (.str "moment")) (wCons (wC (.str "x")) (wCons (wC (.str "never")) wNil)))) wNil))))
def wP3 : WS := (wPar 7 8 (wCons (wMake 13 (wi_Paper__init__ 13) (wCons (wVar 6) (wCons (wVar 3) (wCons (wVar 4) wNil)))) (wCons (wMake 14 (wi_Paper__init__ 14) (wCons (wVar 6) (wCons (wVar 3) (wCons (wVar 4) wNil)))) wNil)))
def wP4 : WS := (wIf (wOrT (wTest (wOp neD (wCB reprKD (wCons (wUn (attrD "parts" 13 15) (wVar 7)) wNil)) (wCB reprKD (wCons (wTup (wCons (wCall (c__law_tuples 8) [] (wCons (wVar 3) wNil)) (wCons (wCall (c__law_tuples 8) [] (wCons (wVar 4) wNil)) wNil))) wNil)))) (wOrT (wTest (wOp neD (wUn (attrD "word" 13 15) (wVar 7)) (wVar 6))) (wOrT (wTest (wOp isNotBD (wBoolG wb_bool has_bo (wVar 7)) (wC (.bl true)))) (wTest (wOp isNotBD (wBoolG wb_bool has_bo (wVar 8)) (wC (.bl false))))))) (wRet (wC (.bl false))) wNext)
def wP5 : WS := (wIf (wOrT (wTest (wOp (fun x y p => neD x y p ∨ neTD x y p) (wUn (attrD "parts" 13 15) (wVar 8)) (wUn (attrD "parts" 13 15) (wVar 7)))) (wOrT (wTest (wNeG c_Paper__eq__ has_eq tab 15 (wVar 7) (wVar 8))) (wOrT (wTest (wEqG c_Paper__eq__ has_eq tab 13 15 (wVar 7) (wMake 13 (wi_Paper__init__ 13) (wCons (wOp addD (wVar 6) (wC (.str "y"))) (wCons (wVar 3) (wCons (wVar 4) wNil)))))) (wOrT (wTest (wEqG c_Paper__eq__ has_eq tab 13 15 (wVar 7) (wMake 13 (wi_Paper__init__ 13) (wCons (wVar 6) (wCons (wVar 3) wNil))))) (wTest (wEqG c_Paper__eq__ has_eq tab 13 15 (wVar 7) (wUn (attrD "parts" 13 15) (wVar 7)))))))) (wRet (wC (.bl false))) wNext)
def wEnd : WS := (wTail 9 10 11 (wMake 13 (wi_Paper__init__ 13) (wCons (wC (.str "p")) (wCons (wVar 9) wNil))) (wAndV (wOp eqD (wUn (attrD "parts" 13 15) (wVar 10)) (wTup (wCons (wTup (wCons (wC (.int 1)) (wCons (wTup (wCons (wC (.int 2)) wNil)) wNil))) wNil))) (wAndV (wEqG c_Paper__eq__ has_eq tab 13 15 (wVar 10) (wMake 13 (wi_Paper__init__ 13) (wCons (wC (.str "p")) (wCons (wTup (wCons (wC (.int 1)) (wCons (wLst (wCons (wC (.int 2)) wNil)) wNil))) wNil)))) (wAndV (wOp eqD (wUn (attrD "parts" 13 15) (wMake 13 (wi_Paper__init__ 13) (wCons (wC (.str "p")) wNil))) (wTup wNil)) (wCB (isaD tab 13 15) (wCons (wMake 14 (wi_Paper__init__ 14) (wCons (wC (.str "p")) wNil)) (wCons (wC (.cls 13)) wNil)))))) (.ins 13 [("word", .str "p"), ("parts", .tup [.tup [.int 1, .tup [.int 2]]])]))
def ρL (ns : List Int) (L : Nat) (s2 s3 s4 s5 s6 s7 s8 : Slot) : EnvD := [.val (.scr ns), .val (.vol L), s2, s3, s4, s5, s6, s7, s8, .no, .no]
def valsO : List D := [.non, .int 5, .str "a", .lst [.int 1, .lst [.int 2, .tup [.int 3]]], .dic [(.inr "k", .lst [.int 1])], .bl true, .lst []]
def copsO : List D := [.non, .int 5, .str "a", .tup [.int 1, .tup [.int 2, .tup [.int 3]]], .dic [(.inr "k", .tup [.int 1])], .bl true, .tup []]
theorem cop_sc {k : Nat} {d : D} (h : scalD d = true) : Cop (k + 1) d d := .inl ⟨h, rfl⟩
theorem cop_l {k : Nat} {l m : List D} (hl : l.length ≤ 1000) (h : All2 (Cop k) l m) : Cop (k + 1) (.lst l) (.tup m) := .inr (.inl ⟨l, m, rfl, rfl, hl, h⟩)
theorem cop_t {k : Nat} {l m : List D} (hl : l.length ≤ 1000) (h : All2 (Cop k) l m) : Cop (k + 1) (.tup l) (.tup m) := .inr (.inr (.inl ⟨l, m, rfl, rfl, hl, h⟩))
theorem cop_d {k : Nat} {q} {x y : D} (h : Cop k x y) : Cop (k + 1) (.dic [(q, x)]) (.dic [(q, y)]) := .inr (.inr (.inr ⟨q, x, y, rfl, rfl, h⟩))
theorem vals_cop : ∀ d ∈ valsO, ∃ e, e ∈ copsO ∧ (∀ k, Cop (k + 7) d e) ∧ dEqT 20 e e = true := by
  intro d hd
  unfold valsO at hd
  simp only [List.mem_cons, List.not_mem_nil, or_false] at hd
  rcases hd with rfl | rfl | rfl | rfl | rfl | rfl | rfl
  · exact ⟨.non, by simp [copsO], fun k => cop_sc rfl, by decide +kernel⟩
  · exact ⟨.int 5, by simp [copsO], fun k => cop_sc rfl, by decide +kernel⟩
  · exact ⟨.str "a", by simp [copsO], fun k => cop_sc rfl, by decide +kernel⟩
  · exact ⟨.tup [.int 1, .tup [.int 2, .tup [.int 3]]], by simp [copsO], fun k => cop_l (by decide) (.cons (cop_sc rfl) (.cons (cop_l (by decide) (.cons (cop_sc rfl) (.cons (cop_t (by decide) (.cons (cop_sc rfl) .nil)) .nil))) .nil)), by decide +kernel⟩
  · exact ⟨.dic [(.inr "k", .tup [.int 1])], by simp [copsO], fun k => cop_d (cop_l (by decide) (.cons (cop_sc rfl) .nil)), by decide +kernel⟩
  · exact ⟨.bl true, by simp [copsO], fun k => cop_sc rfl, by decide +kernel⟩
  · exact ⟨.tup [], by simp [copsO], fun k => cop_l (by decide) .nil, by decide +kernel⟩
theorem pair_sh : ∀ d ∈ copsO, ∀ e ∈ copsO, ∃ y, Sh (.tup [d, e]) y := by
  intro d hd e he
  unfold copsO at hd he
  simp only [List.mem_cons, List.not_mem_nil, or_false] at hd he
  rcases hd with rfl | rfl | rfl | rfl | rfl | rfl | rfl <;> rcases he with rfl | rfl | rfl | rfl | rfl | rfl | rfl <;>
    exact ⟨_, sh_of rfl (by decide +kernel) (by decide +kernel) (by decide +kernel) (by decide +kernel)⟩
structure Wd (x : Str) : Prop where
  ok : PyData.strOk x = true
  ok2 : PyData.strOk (x ++ "y") = true
  ne : (x == x ++ "y") = false
  len : x.length + (Str.ofString "y").length ≤ sizeLine
theorem word_ok : ∀ d ∈ [D.str "moment", .str "x", .str "never"], ∃ x, d = .str x ∧ Wd x := by
  intro d hd
  simp only [List.mem_cons, List.not_mem_nil, or_false] at hd
  rcases hd with rfl | rfl | rfl <;> exact ⟨_, rfl, by decide +kernel, by decide +kernel, by decide +kernel, sz (by decide +kernel)⟩
theorem p0_ok {ns : List Int} {L : Nat} {s2 s3 s4 s5 s6 s7 s8 : Slot} {K : KS} {n : Nat} (hn : 1 ≤ n) (h : ∀ n', n ≤ n' + 1 → K.nx (ρL ns L s2 s3 s4 s5 s6 s7 s8) n') : wP0 (ρL ns L s2 s3 s4 s5 s6 s7 s8) K n := by
  exact errs_ok hn h
theorem p1_ok {ns : List Int} {L : Nat} {s2 s3 s4 s5 s6 s7 s8 : Slot} {K : KS} {n : Nat} (hn : 2 ≤ n) (h : ∀ a ∈ valsO, ∀ b ∈ valsO, ∀ n', n ≤ n' + 2 → K.nx (ρL ns L s2 (.val a) (.val b) s5 s6 s7 s8) n') : wP1 (ρL ns L s2 s3 s4 s5 s6 s7 s8) K n := by
  refine ⟨⟨by decide, by decide⟩, ?_⟩
  refine ⟨sz rfl, sz rfl, sz rfl, sz rfl, _, rfl, by decide, sz rfl, sz rfl, ?_⟩
  refine pick_ok (ds := valsO) (by decide) (by decide) (by omega) fun a ha n1 hn1 => ?_
  refine ⟨lz rfl, ?_⟩
  refine ⟨sz rfl, sz rfl, sz rfl, sz rfl, _, rfl, by decide, sz rfl, sz rfl, ?_⟩
  refine pick_ok (ds := valsO) (by decide) (by decide) (by omega) fun b hb n2 hn2 => ?_
  refine ⟨lz rfl, rfl, ?_⟩
  exact h a ha b hb n2 (by omega)
theorem p2_ok {ns : List Int} {L : Nat} {s2 s3 s4 s5 s6 s7 s8 : Slot} {K : KS} {n : Nat} (hn : 1 ≤ n) (h : ∀ x, Wd x → ∀ n', n ≤ n' + 1 → K.nx (ρL ns L s2 s3 s4 s5 (.val (.str x)) s7 s8) n') : wP2 (ρL ns L s2 s3 s4 s5 s6 s7 s8) K n := by
  refine ⟨sz rfl, ?_⟩
  refine pick_ok (ds := [D.str "moment", .str "x", .str "never"]) (by decide) (by decide) hn fun d hd n' hn' => ?_
  obtain ⟨x, rfl, hx⟩ := word_ok d hd
  exact h x hx n' hn'
theorem p3_ok {ns : List Int} {L : Nat} {s2 s5 s7 s8 : Slot} {o p o' p' : D} {x : Str} {K : KS} {n : Nat} (h1 : Cop 7 o o') (h2 : Cop 7 p p') (h : K.nx (ρL ns L s2 (.val o) (.val p) s5 (.val (.str x)) (.val (paper 13 x [o', p'])) (.val (paper 14 x [o', p']))) n) : wP3 (ρL ns L s2 (.val o) (.val p) s5 (.val (.str x)) s7 s8) K n := by
  have hc : Cop 8 (.tup [o, p]) (.tup [o', p']) := cop_t (Nat.le_of_ble_eq_true rfl) (.cons h1 (.cons h2 .nil))
  intro b1
  refine init_ok rfl (Nat.le_of_ble_eq_true rfl) hc ?_
  intro b2
  refine init_ok rfl (Nat.le_of_ble_eq_true rfl) hc ?_
  exact h
theorem p4_ok {ns : List Int} {L : Nat} {s2 s5 : Slot} {o p o' p' : D} {x : Str} {y : PyData} {K : KS} {n : Nat} (h1 : Cop 8 o o') (h2 : Cop 8 p p') (hx : PyData.strOk x = true) (hs : Sh (.tup [o', p']) y) (h : K.nx (ρL ns L s2 (.val o) (.val p) s5 (.val (.str x)) (.val (paper 13 x [o', p'])) (.val (paper 14 x [o', p']))) n) : wP4 (ρL ns L s2 (.val o) (.val p) s5 (.val (.str x)) (.val (paper 13 x [o', p'])) (.val (paper 14 x [o', p']))) K n := by
  have st : ∀ {y : Str}, PyData.strOk y = true → SeqAt.shaped (.str y) = true := fun h => shaped_str h
  refine ⟨by decide, by decide, _, rfl, y, hs.py, hs.sh, hs.len, hs.dp, ?_⟩
  refine tuples_ok 8 h1 ?_
  refine tuples_ok 8 h2 ?_
  refine ⟨sz rfl, y, hs.py, hs.sh, hs.len, hs.dp, .str y.shown, .str y.shown, rfl, rfl, st hs.ok, st hs.ok, ?_⟩
  rw [show PyData.eqv (.str y.shown) (.str y.shown) = true from beq_str _]
  refine ⟨by decide, by decide, _, rfl, .str x, .str x, rfl, rfl, st hx, st hx, ?_⟩
  rw [show PyData.eqv (.str x) (.str x) = true from beq_str _]
  refine ⟨rfl, rfl, ⟨true, rfl⟩, ?_⟩
  refine ⟨rfl, rfl, ⟨false, rfl⟩, ?_⟩
  exact h
theorem allz2 {a b : D} (h1 : dEqT 20 a a = true) (h2 : dEqT 20 b b = true) : allZ (dEqT 20) [a, b] [a, b] = true := by
  show (dEqT 20 a a && (dEqT 20 b b && true)) = true
  rw [h1, h2]; rfl
theorem p5_ok {ns : List Int} {L : Nat} {s2 s5 : Slot} {o p o' p' : D} {x : Str} {K : KS} {n : Nat} (h1 : Cop 7 o o') (h2 : Cop 7 p p') (e1 : dEqT 20 o' o' = true) (e2 : dEqT 20 p' p' = true) (hx : Wd x) (h : K.nx (ρL ns L s2 (.val o) (.val p) s5 (.val (.str x)) (.val (paper 13 x [o', p'])) (.val (paper 14 x [o', p']))) n) : wP5 (ρL ns L s2 (.val o) (.val p) s5 (.val (.str x)) (.val (paper 13 x [o', p'])) (.val (paper 14 x [o', p']))) K n := by
  have hc : Cop 8 (.tup [o, p]) (.tup [o', p']) := cop_t (Nat.le_of_ble_eq_true rfl) (.cons h1 (.cons h2 .nil))
  have hc1 : Cop 8 (.tup [o]) (.tup [o']) := cop_t (Nat.le_of_ble_eq_true rfl) (.cons h1 .nil)
  have ha : allZ (dEqT 20) [o', p'] [o', p'] = true := allz2 e1 e2
  refine ⟨by decide, by decide, _, rfl, by decide, by decide, _, rfl, .inr ⟨ha, ?_⟩⟩
  refine ⟨rfl, rfl, by decide, by decide, ?_⟩
  refine ⟨by decide +kernel, ?_⟩
  refine eq_same (c := 14) (d := 13) (by decide) (by decide) rfl hx.ok ha ?_
  refine ⟨true, rfl, ?_⟩
  refine ⟨hx.len, ?_⟩
  intro b1
  refine init_ok rfl (Nat.le_of_ble_eq_true rfl) hc ?_
  refine ⟨rfl, ⟨_, rfl, rfl⟩, ?_⟩
  refine eq_other (c := 13) (d := 13) (by decide) (by decide) rfl hx.ok hx.ok2 hx.ne ?_
  refine ⟨⟨_, rfl⟩, ?_⟩
  intro b2
  refine init_ok rfl (Nat.le_of_ble_eq_true rfl) hc1 ?_
  refine ⟨rfl, ⟨_, rfl, rfl⟩, ?_⟩
  refine eq_same (c := 13) (d := 13) (by decide) (by decide) rfl hx.ok (l := [o', p']) (m := [o']) (by show (dEqT 20 o' o' && true) = true; rw [e1]; rfl) ?_
  refine ⟨⟨_, rfl⟩, ?_⟩
  refine ⟨by decide, by decide, _, rfl, ?_⟩
  refine ⟨rfl, ⟨_, rfl, by decide +kernel⟩, ?_⟩
  refine eq_tup ?_
  refine ⟨⟨_, rfl⟩, ?_⟩
  exact h
theorem seq_ok {a b : WS} {ρ : EnvD} {K : KS} {n : Nat} (h : a ρ { K with nx := fun ρ => b ρ K } n) : wSeq a b ρ K n := h
def wBodyL : WS := wSeq wP0 (wSeq wP1 (wSeq wP2 (wSeq wP3 (wSeq wP4 wP5))))
theorem turn_ok {ns : List Int} {L : Nat} {s2 s3 s4 s5 s6 s7 s8 : Slot} {K : KS} {n : Nat} (hn : 4 ≤ n) (h : ∀ s3 s4 s6 s7 s8 n', n ≤ n' + 4 → K.nx (ρL ns L s2 s3 s4 s5 s6 s7 s8) n') : wBodyL (ρL ns L s2 s3 s4 s5 s6 s7 s8) K n := by
  unfold wBodyL
  refine seq_ok (p0_ok (by omega) fun n1 hn1 => ?_)
  refine seq_ok (p1_ok (by omega) fun a ha b hb n2 hn2 => ?_)
  refine seq_ok (p2_ok (by omega) fun x hx n3 hn3 => ?_)
  obtain ⟨a', ha', ca, ea⟩ := vals_cop a ha
  obtain ⟨b', hb', cb, eb⟩ := vals_cop b hb
  obtain ⟨y, hy⟩ := pair_sh a' ha' b' hb'
  refine seq_ok (p3_ok (ca 0) (cb 0) ?_)
  refine seq_ok (p4_ok (ca 1) (cb 1) hx.ok hy ?_)
  refine p5_ok (ca 0) (cb 0) ea eb hx ?_
  exact h _ _ _ _ _ n3 (by omega)
theorem turns_ok {ns : List Int} {L : Nat} {K : KS} : ∀ (ds : List D) (s2 s3 s4 s5 s6 s7 s8 : Slot) (n : Nat), 4 * ds.length ≤ n → (∀ s2 s3 s4 s5 s6 s7 s8 n', K.nx (ρL ns L s2 s3 s4 s5 s6 s7 s8) n') → wLoop (gN 2) wBodyL K ds (ρL ns L s2 s3 s4 s5 s6 s7 s8) n
  | [], _, _, _, _, _, _, _, _, _, h => h _ _ _ _ _ _ _ _
  | d :: ds, _, s3, s4, s5, s6, s7, s8, n, hn, h => by
    rw [List.length_cons] at hn
    exact turn_ok (s2 := .val d) (by omega) fun s3 s4 s6 s7 s8 n' hn' => turns_ok ds _ _ _ _ _ _ _ _ (by omega) h
end K00

namespace K00
open PySem PySem.Spec PyProof.Rows L2 PyD
/-! ### the law's turns -/
theorem end_ok {ns : List Int} {L : Nat} {s2 s3 s4 s5 s6 s7 s8 : Slot} {K : KS} {n : Nat} (h : ∀ ρ n', K.rt ρ (.bl true) n') : wEnd (ρL ns L s2 s3 s4 s5 s6 s7 s8) K n := by
  refine ⟨rfl, by decide, by decide, by decide, rfl, ?_, ?_, h _ _⟩
  · intro b1
    refine init_ok (l := [.lst [.int 1, .lst [.int 2]]]) (m := [.tup [.int 1, .tup [.int 2]]]) rfl (by decide) (cop_t (by decide) (.cons (cop_l (by decide) (.cons (cop_sc rfl) (.cons (cop_l (by decide) (.cons (cop_sc rfl) .nil)) .nil))) .nil)) ?_
    rfl
  · intro m
    refine ⟨by decide, by decide, _, rfl, sz rfl, sz rfl, sz rfl, ?_⟩
    refine ⟨_, _, rfl, rfl, by decide +kernel, by decide +kernel, ?_⟩
    rw [show PyData.eqv (.tuple [.tuple [.int 1, .tuple [.int 2]]]) (.tuple [.tuple [.int 1, .tuple [.int 2]]]) = true by decide +kernel]
    refine ⟨sz rfl, sz rfl, ?_⟩
    intro b2
    refine init_ok (l := [.tup [.int 1, .lst [.int 2]]]) (m := [.tup [.int 1, .tup [.int 2]]]) rfl (by decide) (cop_t (by decide) (.cons (cop_t (by decide) (.cons (cop_sc rfl) (.cons (cop_l (by decide) (.cons (cop_sc rfl) .nil)) .nil))) .nil)) ?_
    refine ⟨rfl, ⟨_, rfl, rfl⟩, ?_⟩
    refine eq_same (c := 13) (d := 13) (by decide) (by decide) rfl (by decide +kernel) (l := [.tup [.int 1, .tup [.int 2]]]) (m := [.tup [.int 1, .tup [.int 2]]]) (by decide +kernel) ?_
    refine ⟨⟨_, rfl⟩, ?_⟩
    intro b3
    refine init_ok (l := []) (m := []) rfl (by decide) (cop_t (by decide) .nil) ?_
    refine ⟨by decide, by decide, _, rfl, sz rfl, _, _, rfl, rfl, by decide +kernel, by decide +kernel, ?_⟩
    rw [show PyData.eqv (.tuple []) (.tuple []) = true by decide +kernel]
    intro b4
    refine init_ok (l := []) (m := []) rfl (by decide) (cop_t (by decide) .nil) ?_
    refine ⟨.c 14, true, rfl, by decide +kernel, rfl⟩
theorem law_eq : w_law = wSeq (wSetF 1 (wCallF c__law_pen [] (wCons (wVar 0) wNil))) (wInk 1 (wSeq (wFor (wItR1 (wC (.int 4))) (gN 2) wBodyL) wEnd)) := rfl
theorem law_go {wE : WS} {ns : List Int} {K : KS} {n : Nat} (hn : 16 ≤ n) (hm : (n : Int) ≤ penMost) (h : ∀ L s2 s3 s4 s5 s6 s7 s8 n', wE (ρL ns L s2 s3 s4 s5 s6 s7 s8) K n') : wSeq (wSetF 1 (wCallF c__law_pen [] (wCons (wVar 0) wNil))) (wInk 1 (wSeq (wFor (wItR1 (wC (.int 4))) (gN 2) wBodyL) wE)) (PyD.envOf 11 [.scr ns]) K n := by
  refine pen_ok fun cells hc => ⟨cells, 0, 0, rfl, hc, by omega, by omega, ⟨by omega, by omega⟩, ?_⟩
  exact turns_ok (intsD 0 4) _ _ _ _ _ _ _ _ (by unfold intsD; rw [List.length_map, List.length_range]; exact hn) fun s2 s3 s4 s5 s6 s7 s8 n' => h _ _ _ _ _ _ _ _ _
theorem law_ok' {ns : List Int} {post : D → Pr} {ep : EP} {n : Nat} (hn : 16 ≤ n) (hm : (n : Int) ≤ penMost) (h : ∀ n', post (.bl true) n') : c_law [.scr ns] post ep n := by
  refine ⟨rfl, ?_⟩
  rw [law_eq]
  exact law_go (wE := wEnd) hn hm fun L s2 s3 s4 s5 s6 s7 s8 n' => end_ok fun _ => h
theorem law_ok (ns : List Int) : c_law [.scr ns] (fun d _ => d = .bl true) (fun _ _ _ => False) 1000 := law_ok' (by decide) (by decide) fun _ => rfl
end K00

namespace K00
open PySem PySem.Spec PyProof.Rows L2 PyD
theorem finish {w : World} {mg : Str → Option Value} {fa : Addr} {h : Heap} (Y : (hookP P 7 faL fnL tfL cls).says w h) (G : h.Ns mainGlobals mg) (hmg : mg "law" = some (.ref fa)) : ∃ (K : PySem.W.Frag) (fd : FuncData) (cs : List (Addr × Addr)) (sp : Sp), K.In h ∧ (∀ p ∈ cs, h.get? p.2 = some { cls := .none, data := .fields #[] }) ∧ (∀ p ∈ cs, K.lookup p.2 = none) ∧ (∀ p ∈ cs, PySem.W.CodeHd h p.1 p.2) ∧
      (∀ (s : Shared) (u : Value), BindsTo s fd ⟨[u], []⟩ [("script", u)]) ∧ (∀ (H : Hp) (a : Addr) (ns : List Int), ns.length ≤ 63 → (∀ p ∈ cs, H p.2 = some (.tbl #[])) → ScrO K H a (ns.map V.int) → sp [.ref a] H (fun v _ => v = .bl true) fun _ _ _ => False) ∧
      ∀ base : Heap, K.In base → base.Ns mainGlobals mg → (∀ p ∈ cs, LamX.TabB base mg p.1 p.2) → FnG P w K mg base 11 fa fd ["script"] sp := by
  obtain ⟨K, X, c⟩ := Y
  have Z := fx_of X G c
  obtain ⟨fd, F⟩ := Z.f_law
  have e := hmg.symm.trans Z.m_law
  cases e
  have b := FunD.bindsA (ps := ["script"]) F fun _ _ _ _ _ _ us hl => match us, hl with | [_], _ => rfl
  exact ⟨K, fd, [], spV (mkTb K (cls.cA K) []) c_law, X, fun p hp => (by cases hp), fun p hp => (by cases hp), fun p hp => (by cases hp), fun s u => b s [u] rfl, fun H a ns hl ht hs => start_ok (fun p hp => (by cases hp)) hs (law_ok _), fun base _ _ _ => ok_law Z F⟩
abbrev R : PySem.W.OpenRow := PySem.W.OpenLaw.row PySem.Challenge.rw_nearatonce_k00_errors_and_papers
def loose : List Str := ["__name__", "copied", "Paper", "Denial", "NearError", "BadField", "BadClock", "BadWish", "BadValue", "BadNumber", "BadPaper", "BadCommand", "NoName", "Misfit", "Nothing", "BadText", "TooMany", "_law_pen", "_law_draw", "_law_pick", "_law_kinds_of", "_law_errors_right", "_law_tuples"]
abbrev hk : PySem.W.Hook := hookP P 7 faL fnL tfL cls
def ob (s : PySem.W.SharedT) : AlP := obsP P 7 faL fnL tfL cls (HandSHeadRun.getT s)
theorem ob_eq (s : PySem.W.SharedT) : ob s = hk.obs s.abs := obsP_eq (HandSHeadRun.getT_eq s)
theorem run (w : World) : HandSHeadRun.RunEqI R (PySem.W.view R.prog [25]) hk ob 20000 loose w := by
  show _ = _
  kernel_rfl
end K00
open PySem PySem.W PySem.Calls PyProof.Rows
theorem PySem.Challenge.cw_nearatonce_k00_errors_and_papers_holds : PySem.Challenge.rw_nearatonce_k00_errors_and_papers.Holds := by
  w_on; o_law
  refine HandSHeadRun.head_imp (r := OpenLaw.row PySem.Challenge.rw_nearatonce_k00_errors_and_papers) (q := view (OpenLaw.row PySem.Challenge.rw_nearatonce_k00_errors_and_papers).prog [25]) (H := K00.hk) (ob := K00.ob) (M := 20000) (loose := K00.loose) (d := HandSHeadRun.topDef (OpenLaw.row PySem.Challenge.rw_nearatonce_k00_errors_and_papers).prog 25) (kwd := []) K00.ob_eq K00.run (by kernel_rfl) (by kernel_rfl) (by kernel_rfl) (by rfl) (by first | assumption | decide +kernel) (by decide +kernel) ⟨rfl, rfl, rfl, rfl, rfl, by decide +kernel⟩ ?hw ?hc
  case hw => w_witness2
  case hc =>
    refine PyD.walk_G (l := PySem.Challenge.rw_nearatonce_k00_errors_and_papers) (n := 63) (k := 11) (x := "script") rfl (by decide) (by kernel_rfl) ⟨rfl, by decide, by decide⟩ ?F
    intro w mg fa h Y G hmg0
    have hmg : mg ("law" : PySem.Str) = some (.ref fa) := by
      have e : (HandSHeadRun.topDef (OpenLaw.row PySem.Challenge.rw_nearatonce_k00_errors_and_papers).prog 25).name = ("law" : PySem.Str) := by kernel_rfl
      rw [← e]; exact hmg0
    exact K00.finish Y G hmg

