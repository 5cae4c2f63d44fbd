import PyProof.Rows.All
import Wide.All
import OpenK.AllK
import Wide.FinOn
import HandS.ForMost
import HandS.ForExc
import HandS.CallSlots
import HandS.Lambda
import HandS.TupAny
import HandS.Deep
import HandS.TupMul
import HandS.IsInst
import HandS.Conv
import PyProof.TupleOfStr
import HandS.Style
import HandS.StrMore
import KE.KRevSl
import HandS.TryOnly
import HandS.Zip
import HandS.ExcCtx
import HandS.HotCalls
import HandS.Comp
import HandS.Codes
import HandS.TryMany
import HandS.ExcField
import HandS.ExcIs
import HandS.Defaults
import HandS.HeadHook1
import HandS.HeadHook2
import HandS.HeadHook4
import HandS.HeadWalk
import HandS.HeadEnd
import KE.KSuper
import KE.KExcSuper
import HandS.ExcInit
import HandS.RaiseFrom
import HandS.SortInts
import HandS.SortRule
import KE.GoesMore
import PyProof.Rows.StrFirst
import PyProof.StrLawsLast
import PyProof.CollectStr
import HandS.More
import HandS.Head2
import KE.KNestM
import PySem.Challenge.RW_stretchtwice_k83_whole_stamps
set_option Elab.async false
set_option linter.all false
set_option maxRecDepth 100000
set_option maxHeartbeats 4000000
namespace SM
open PySem PySem.Spec PyProof.Rows L2

/-! ## values, outcomes -/
abbrev D := PyData
/-- an error: its class by name, the one field that it may keep -/
structure Exn where
  cls : Str
  fld : Option (Str × D)
inductive FOD where
  | ret (d : D) | exc (x : Exn) | bad
/-- what a name holds: data that never changes, a list of its own that may change, a closure, an error caught -/
inductive PV where
  | dat (d : D) | own (ds : List D) | clo | exn (x : Exn) | scr (ns : List Int)
abbrev SEnv := List (Option PV)
inductive Out (α : Type) where
  | ok (a : α) (e : SEnv) | exc (x : Exn) (e : SEnv) | bad
def Out.bind {α β : Type} (o : Out α) (k : α → SEnv → Out β) : Out β := match o with
  | .ok a e => k a e
  | .exc x e => .exc x e
  | .bad => .bad
@[simp] theorem bind_ok {α β : Type} (a : α) (e : SEnv) (k : α → SEnv → Out β) : (Out.ok a e).bind k = k a e := rfl
@[simp] theorem bind_exc {α β : Type} (x : Exn) (e : SEnv) (k : α → SEnv → Out β) : (Out.exc x e : Out α).bind k = .exc x e := rfl
@[simp] theorem bind_bad {α β : Type} (k : α → SEnv → Out β) : (Out.bad : Out α).bind k = .bad := rfl

/-! ## data in a heap -/
def FzL (K : PySem.W.Frag) (H : Hp) (M : Addr → Prop) (a : Addr) (xs : List V) : Prop := (Rd H a (.lst xs) ∧ ¬ M a) ∨ SqL K (fun _ => none) a xs
def FzT (K : PySem.W.Frag) (H : Hp) (M : Addr → Prop) (a : Addr) (xs : List V) : Prop := (Rd H a (.tup xs) ∧ ¬ M a) ∨ SqT K (fun _ => none) a xs
mutual
inductive Rep (K : PySem.W.Frag) (H : Hp) (M : Addr → Prop) : V → D → Prop
  | non : Rep K H M .non .none
  | bl (b : Bool) : Rep K H M (.bl b) (.bool b)
  | int (i : Int) : Rep K H M (.int i) (.int i)
  | str (x : Str) : Rep K H M (.str x) (.str x)
  | lst {a : Addr} {xs : List V} {ds : List D} : H a = some (.lst xs) → ¬ M a → RepAll K H M xs ds → Rep K H M (.ref a) (.list ds)
  | tup {a : Addr} {xs : List V} {ds : List D} : FzT K H M a xs → RepAll K H M xs ds → Rep K H M (.ref a) (.tuple ds)
inductive RepAll (K : PySem.W.Frag) (H : Hp) (M : Addr → Prop) : List V → List D → Prop
  | nil : RepAll K H M [] []
  | cons {v : V} {vs : List V} {d : D} {ds : List D} : Rep K H M v d → RepAll K H M vs ds → RepAll K H M (v :: vs) (d :: ds)
end
theorem sqL_empty {K : PySem.W.Frag} {a : Addr} {xs : List V} (h : SqL K (fun _ => none) a xs) (H : Hp) : SqL K H a xs := by
  rcases h with (z | ⟨o, z⟩) | z
  · cases z
  · cases z
  · exact .inr z
theorem sqT_empty {K : PySem.W.Frag} {a : Addr} {xs : List V} (h : SqT K (fun _ => none) a xs) (H : Hp) : SqT K H a xs := by
  rcases h with (z | ⟨o, z⟩) | z
  · cases z
  · cases z
  · exact .inr z
theorem FzL.sq {K : PySem.W.Frag} {H : Hp} {M : Addr → Prop} {a : Addr} {xs : List V} (h : FzL K H M a xs) : SqL K H a xs := by
  rcases h with h | h
  · exact .inl h.1
  · exact sqL_empty h H
theorem FzT.sq {K : PySem.W.Frag} {H : Hp} {M : Addr → Prop} {a : Addr} {xs : List V} (h : FzT K H M a xs) : SqT K H a xs := by
  rcases h with h | h
  · exact .inl h.1
  · exact sqT_empty h H
mutual
theorem Rep.dp {K : PySem.W.Frag} {H : Hp} {M : Addr → Prop} {v : V} : ∀ {d : D}, Rep K H M v d → Dp K H v d
  | _, .non => .non
  | _, .bl b => .bl b
  | _, .int i => .int i
  | _, .str x => .str x
  | _, .lst h _ r => .lst (SqL.of h) r.dp
  | _, .tup h r => .tup h.sq r.dp
theorem RepAll.dp {K : PySem.W.Frag} {H : Hp} {M : Addr → Prop} {vs : List V} : ∀ {ds : List D}, RepAll K H M vs ds → DpAll K H vs ds
  | _, .nil => .nil
  | _, .cons h r => .cons h.dp r.dp
end
/-- nothing stands there, or a table -/
def Gone (H : Hp) (a : Addr) : Prop := ∀ o, H a = some o → ∃ ps, o = .tbl ps
theorem Gone.of {H : Hp} {a : Addr} (h : H a = none) : Gone H a := fun o q => by
  rw [h] at q
  cases q
theorem Gone.no {H : Hp} {a : Addr} {o : HO} (g : Gone H a) (h : H a = some o) (t : ∀ ps, o ≠ .tbl ps) : False := by
  obtain ⟨ps, e⟩ := g o h
  exact t ps e
/-- what carries data over: heaps and marks -/
structure Carry (H H' : Hp) (M M' : Addr → Prop) : Prop where
  keep : ∀ a o, H a = some o → ¬ M a → (∀ ps, o ≠ .tbl ps) → H' a = some o
  marks : ∀ a o, H a = some o → ¬ M a → (∀ ps, o ≠ .tbl ps) → ¬ M' a
theorem FzL.carry {K : PySem.W.Frag} {H H' : Hp} {M M' : Addr → Prop} {a : Addr} {xs : List V} (c : Carry H H' M M') (h : FzL K H M a xs) : FzL K H' M' a xs := by
  rcases h with ⟨z | ⟨o, z⟩, n⟩ | h
  · exact .inl ⟨.inl (c.keep _ _ z n fun _ q => nomatch q), c.marks _ _ z n fun _ q => nomatch q⟩
  · exact .inl ⟨.inr ⟨o, c.keep _ _ z n fun _ q => nomatch q⟩, c.marks _ _ z n fun _ q => nomatch q⟩
  · exact .inr h
theorem FzT.carry {K : PySem.W.Frag} {H H' : Hp} {M M' : Addr → Prop} {a : Addr} {xs : List V} (c : Carry H H' M M') (h : FzT K H M a xs) : FzT K H' M' a xs := by
  rcases h with ⟨z | ⟨o, z⟩, n⟩ | h
  · exact .inl ⟨.inl (c.keep _ _ z n fun _ q => nomatch q), c.marks _ _ z n fun _ q => nomatch q⟩
  · exact .inl ⟨.inr ⟨o, c.keep _ _ z n fun _ q => nomatch q⟩, c.marks _ _ z n fun _ q => nomatch q⟩
  · exact .inr h
mutual
theorem Rep.carry {K : PySem.W.Frag} {H H' : Hp} {M M' : Addr → Prop} {v : V} (c : Carry H H' M M') : ∀ {d : D}, Rep K H M v d → Rep K H' M' v d
  | _, .non => .non
  | _, .bl b => .bl b
  | _, .int i => .int i
  | _, .str x => .str x
  | _, .lst h n r => .lst (c.keep _ _ h n fun _ q => nomatch q) (c.marks _ _ h n fun _ q => nomatch q) (r.carry c)
  | _, .tup h r => .tup (h.carry c) (r.carry c)
theorem RepAll.carry {K : PySem.W.Frag} {H H' : Hp} {M M' : Addr → Prop} {vs : List V} (c : Carry H H' M M') : ∀ {ds : List D}, RepAll K H M vs ds → RepAll K H' M' vs ds
  | _, .nil => .nil
  | _, .cons h r => .cons (h.carry c) (r.carry c)
end
theorem RepAll.length {K : PySem.W.Frag} {H : Hp} {M : Addr → Prop} {vs : List V} : ∀ {ds : List D}, RepAll K H M vs ds → vs.length = ds.length
  | _, .nil => rfl
  | _, .cons _ r => congrArg (· + 1) r.length
theorem RepAll.get {K : PySem.W.Frag} {H : Hp} {M : Addr → Prop} : ∀ {vs : List V} {ds : List D} {i : Nat} {d : D}, RepAll K H M vs ds → ds[i]? = some d → ∃ v, vs[i]? = some v ∧ Rep K H M v d
  | _, _, _, _, .nil, e => by simp at e
  | _, _, 0, _, .cons h _, e => by
    simp at e
    subst e
    exact ⟨_, rfl, h⟩
  | _, _, i + 1, d, .cons _ r, e => by
    obtain ⟨v, h1, h2⟩ := RepAll.get (i := i) (d := d) r (by simpa using e)
    exact ⟨v, by simpa using h1, h2⟩
theorem RepAll.getV {K : PySem.W.Frag} {H : Hp} {M : Addr → Prop} : ∀ {vs : List V} {ds : List D} {i : Nat} {v : V}, RepAll K H M vs ds → vs[i]? = some v → ∃ d, ds[i]? = some d ∧ Rep K H M v d
  | _, _, _, _, .nil, e => by simp at e
  | _, _, 0, _, .cons h _, e => by
    simp at e
    subst e
    exact ⟨_, rfl, h⟩
  | _, _, i + 1, d, .cons _ r, e => by
    obtain ⟨v, h1, h2⟩ := RepAll.getV (i := i) r (by simpa using e)
    exact ⟨v, by simpa using h1, h2⟩
theorem RepAll.append {K : PySem.W.Frag} {H : Hp} {M : Addr → Prop} : ∀ {vs ws : List V} {ds es : List D}, RepAll K H M vs ds → RepAll K H M ws es → RepAll K H M (vs ++ ws) (ds ++ es)
  | _, _, _, _, .nil, s => s
  | _, _, _, _, .cons h r, s => .cons h (r.append s)
theorem RepAll.one {K : PySem.W.Frag} {H : Hp} {M : Addr → Prop} {v : V} {d : D} (h : Rep K H M v d) : RepAll K H M [v] [d] := .cons h .nil
theorem RepAll.take {K : PySem.W.Frag} {H : Hp} {M : Addr → Prop} : ∀ {vs : List V} {ds : List D} (n : Nat), RepAll K H M vs ds → RepAll K H M (vs.take n) (ds.take n)
  | _, _, 0, _ => .nil
  | _, _, _ + 1, .nil => .nil
  | _, _, n + 1, .cons h r => .cons h (r.take n)
theorem RepAll.drop {K : PySem.W.Frag} {H : Hp} {M : Addr → Prop} : ∀ {vs : List V} {ds : List D} (n : Nat), RepAll K H M vs ds → RepAll K H M (vs.drop n) (ds.drop n)
  | _, _, 0, r => r
  | _, _, _ + 1, .nil => .nil
  | _, _, n + 1, .cons h r => r.drop n
theorem RepAll.set {K : PySem.W.Frag} {H : Hp} {M : Addr → Prop} {v : V} {d : D} (q : Rep K H M v d) : ∀ {vs : List V} {ds : List D} (i : Nat), RepAll K H M vs ds → RepAll K H M (vs.set i v) (ds.set i d)
  | _, _, _, .nil => .nil
  | _, _, 0, .cons _ r => .cons q r
  | _, _, i + 1, .cons h r => .cons h (r.set q i)
theorem RepAll.reverse {K : PySem.W.Frag} {H : Hp} {M : Addr → Prop} : ∀ {vs : List V} {ds : List D}, RepAll K H M vs ds → RepAll K H M vs.reverse ds.reverse
  | _, _, .nil => .nil
  | _, _, .cons h r => by
    rw [List.reverse_cons, List.reverse_cons]
    exact r.reverse.append (.one h)

/-! ## states -/
/-- the code tables of lambdas; code objects that stay; a closure held; data that a closure holds -/
structure TX where
  tabs : List (Addr × Str)
  pin : List (Addr × Str) := []
  clo : Option Addr := none
  held : List (V × D) := []
structure Stat (K : PySem.W.Frag) (T : TX) (H : Hp) (M : Addr → Prop) : Prop where
  tabs : LamX.Tabs T.tabs H
  pin : ∀ p ∈ T.pin, H p.1 = some (LamX.CodeO p.1 p.2)
  held : ∀ p ∈ T.held, Rep K H M p.1 p.2
theorem Stat.grow {K : PySem.W.Frag} {T : TX} {H : Hp} {M M' : Addr → Prop} {p : Addr} {o : HO} (t : Stat K T H M) (hp : H p = none) (c : Carry H (upd H p o) M M') : Stat K T (upd H p o) M' := by
  have ext : ∀ a u, H a = some u → upd H p o a = some u := fun a u h => by
    rw [upd_ne (ne_of_none h hp)]
    exact h
  exact ⟨t.tabs.ext ext, fun q hq => ext _ _ (t.pin q hq), fun q hq => (t.held q hq).carry c⟩
theorem Stat.write {K : PySem.W.Frag} {T : TX} {H : Hp} {M M' : Addr → Prop} {a : Addr} {vs : List V} {o : HO} (t : Stat K T H M) (h : H a = some (.lst vs)) (c : Carry H (upd H a o) M M') : Stat K T (upd H a o) M' := by
  have ext : ∀ b u, (∀ vs, u ≠ .lst vs) → H b = some u → upd H a o b = some u := fun b u hu e => by
    rw [upd_ne (fun z => by rw [z, h] at e; exact hu vs (Option.some.inj e).symm)]
    exact e
  refine ⟨fun p hp => ?_, fun p hp => ext _ _ (fun _ z => nomatch z) (t.pin p hp), fun q hq => (t.held q hq).carry c⟩
  obtain ⟨ps, h1, h2, h3⟩ := t.tabs p hp
  refine ⟨ps, ext _ _ (fun _ z => nomatch z) h1, h2, fun pos cv hc => ?_⟩
  obtain ⟨c, e1, e2⟩ := h3 pos cv hc
  exact ⟨c, e1, ext _ _ (fun _ z => nomatch z) e2⟩
theorem Stat.same {K : PySem.W.Frag} {T : TX} {H : Hp} {M M' : Addr → Prop} (t : Stat K T H M) (c : Carry H H M M') : Stat K T H M' := ⟨t.tabs, t.pin, fun q hq => (t.held q hq).carry c⟩
structure GX where
  K : PySem.W.Frag
  mg : Str → Option Value
  T : TX
  ex : Option (Addr × Value × Option Addr)
  fix : List Nat
structure SX where
  H : Hp
  M : Addr → Prop
  s : L2.St
  e : SEnv
def ExRep (G : GX) (H : Hp) (M : Addr → Prop) (c : Value) (d : Option Addr) (x : Exn) : Prop :=
  ∃ C, G.mg x.cls = some (.ref C) ∧ c = .ref C ∧ (x.fld = none → d = none) ∧ ∀ f y, x.fld = some (f, y) → ∃ dd v, d = some dd ∧ H dd = some (.xd [(f, v)]) ∧ ¬ M dd ∧ Rep G.K H M v y
def PRep (G : GX) (H : Hp) (M : Addr → Prop) (v : V) : PV → Prop
  | .dat d => Rep G.K H M v d
  | .own ds => ∃ a vs, v = .ref a ∧ M a ∧ H a = some (.lst vs) ∧ RepAll G.K H M vs ds
  | .clo => ∃ f, G.T.clo = some f ∧ v = .ref f
  | .exn x => ∃ a c d, G.ex = some (a, c, d) ∧ v = .ref a ∧ ExRep G H M c d x
  | .scr ns => ∃ a, v = .ref a ∧ FzL G.K H M a (ns.map V.int)
def OwnA (S : SX) (a : Addr) : Prop := ∃ (i : Nat) (ds : List D), S.e[i]? = some (some (PV.own ds)) ∧ S.s[i]? = some (some (V.ref a))
structure SOk (G : GX) (S : SX) : Prop where
  len : S.e.length = S.s.length
  slot : ∀ (i : Nat) (p : PV), S.e[i]? = some (some p) → ∃ v, S.s[i]? = some (some v) ∧ PRep G S.H S.M v p
  apart : ∀ (i j : Nat) (ds es : List D) (v : V), S.e[i]? = some (some (PV.own ds)) → S.e[j]? = some (some (PV.own es)) → S.s[i]? = some (some v) → S.s[j]? = some (some v) → i = j
  trk : ∀ a, S.M a → ∃ o, S.H a = some o ∧ ∀ ps, o ≠ .tbl ps
  tabs : Stat G.K G.T S.H S.M
/-- S' comes behind S -/
structure Fr (G : GX) (S S' : SX) : Prop where
  keep : ∀ a o, S.H a = some o → ¬ OwnA S a → (∀ ps, o ≠ .tbl ps) → S'.H a = some o
  there : ∀ a o, S.H a = some o → (∀ ps, o ≠ .tbl ps) → ∃ o', S'.H a = some o' ∧ ∀ ps, o' ≠ .tbl ps
  mkeep : ∀ a o, S.H a = some o → (∀ ps, o ≠ .tbl ps) → S.M a → ¬ OwnA S a → S'.M a
  mnew : ∀ a, S'.M a → S.M a ∨ Gone S.H a
  own : ∀ a, OwnA S' a → OwnA S a ∨ Gone S.H a
  fix : ∀ i, i ∈ G.fix → S'.s[i]? = S.s[i]?
theorem Fr.refl (G : GX) (S : SX) : Fr G S S := ⟨fun _ _ h _ _ => h, fun _ o h t => ⟨o, h, t⟩, fun _ _ _ _ h _ => h, fun _ h => .inl h, fun _ h => .inl h, fun _ _ => rfl⟩
theorem Fr.gone {G : GX} {S S' : SX} (f : Fr G S S') {a : Addr} (h : Gone S'.H a) : Gone S.H a := fun o q => by
  apply Classical.byContradiction
  intro n
  have t : ∀ ps, o ≠ .tbl ps := fun ps e => n ⟨ps, e⟩
  obtain ⟨o', z, t'⟩ := f.there a o q t
  exact h.no z t'
theorem Fr.trans {G : GX} {S T U : SX} (f : Fr G S T) (g : Fr G T U) : Fr G S U := by
  have nown : ∀ a o, S.H a = some o → (∀ ps, o ≠ .tbl ps) → ¬ OwnA S a → ¬ OwnA T a := fun a o h t n z => by
    rcases f.own a z with q | q
    · exact n q
    · exact q.no h t
  refine ⟨fun a o h n k => g.keep a o (f.keep a o h n k) (nown a o h k n) k, fun a o h t => ?_, fun a o h t m n => ?_, fun a h => ?_, fun a h => ?_, fun i hi => (g.fix i hi).trans (f.fix i hi)⟩
  · obtain ⟨o', h', t'⟩ := f.there a o h t
    exact g.there a o' h' t'
  · obtain ⟨o', h', t'⟩ := f.there a o h t
    exact g.mkeep a o' h' t' (f.mkeep a o h t m n) (nown a o h t n)
  · rcases g.mnew a h with q | q
    · exact f.mnew a q
    · exact .inr (f.gone q)
  · rcases g.own a h with q | q
    · exact f.own a q
    · exact .inr (f.gone q)
end SM
namespace SM
open PySem PySem.Spec PyProof.Rows L2

/-! ## carrying, fresh things -/
theorem SOk.ownM {G : GX} {S : SX} (ok : SOk G S) {a : Addr} (h : OwnA S a) : S.M a := by
  obtain ⟨i, ds, h1, h2⟩ := h
  obtain ⟨v, e, r⟩ := ok.slot i _ h1
  obtain ⟨b, vs, rfl, m, _⟩ := r
  rw [h2] at e
  cases e
  exact m
theorem Fr.carry {G : GX} {S S' : SX} (f : Fr G S S') (ok : SOk G S) : Carry S.H S'.H S.M S'.M :=
  ⟨fun a o h n k => f.keep a o h (fun z => n (ok.ownM z)) k, fun a o h n t z => (f.mnew a z).elim n fun q => q.no h t⟩
theorem ExRep.carry {G : GX} {H H' : Hp} {M M' : Addr → Prop} {c : Value} {d : Option Addr} {x : Exn} (k : Carry H H' M M') (h : ExRep G H M c d x) : ExRep G H' M' c d x := by
  obtain ⟨C, h1, h2, h0, h3⟩ := h
  refine ⟨C, h1, h2, h0, fun f y e => ?_⟩
  obtain ⟨dd, v, e1, e2, e3, e4⟩ := h3 f y e
  exact ⟨dd, v, e1, k.keep _ _ e2 e3 (fun _ q => nomatch q), k.marks _ _ e2 e3 (fun _ q => nomatch q), e4.carry k⟩
theorem PRep.carry {G : GX} {H H' : Hp} {M M' : Addr → Prop} {v : V} {p : PV} (k : Carry H H' M M') (hk : ∀ ds a xs, p = .own ds → v = .ref a → M a → H a = some (.lst xs) → H' a = some (.lst xs) ∧ M' a) (h : PRep G H M v p) : PRep G H' M' v p := by
  cases p with
  | dat d => exact Rep.carry k h
  | own ds =>
    obtain ⟨a, vs, rfl, m, e, r⟩ := h
    obtain ⟨e', m'⟩ := hk ds a vs rfl rfl m e
    exact ⟨a, vs, rfl, m', e', r.carry k⟩
  | clo => exact h
  | exn x =>
    obtain ⟨a, c, d, h1, h2, h3⟩ := h
    exact ⟨a, c, d, h1, h2, h3.carry k⟩
  | scr ns =>
    obtain ⟨a, h1, h2⟩ := h
    exact ⟨a, h1, h2.carry k⟩
/-- the heap grows by one new object, which may be marked -/
theorem SOk.grow {G : GX} {S : SX} (ok : SOk G S) {p : Addr} {o : HO} (hp : S.H p = none) (M' : Addr → Prop) (hm : ∀ a, S.M a → M' a) (hn : ∀ a, M' a → S.M a ∨ a = p) (ho : ∀ ps, o ≠ .tbl ps := by intro _ z; cases z) : SOk G ⟨upd S.H p o, M', S.s, S.e⟩ ∧ Fr G S ⟨upd S.H p o, M', S.s, S.e⟩ := by
  have ext : ∀ a u, S.H a = some u → upd S.H p o a = some u := fun a u h => by
    rw [upd_ne (ne_of_none h hp)]
    exact h
  have nopM : ∀ a, S.M a → a ≠ p := fun a m z => by
    obtain ⟨u, h, _⟩ := ok.trk a m
    rw [z, hp] at h
    cases h
  have carry : Carry S.H (upd S.H p o) S.M M' := ⟨fun a u h _ _ => ext a u h, fun a u h n _ z => by
    rcases hn a z with q | q
    · exact n q
    · rw [q, hp] at h
      cases h⟩
  refine ⟨⟨ok.len, fun i q h => ?_, ok.apart, fun a m => ?_, ok.tabs.grow hp carry⟩, ⟨fun a u h _ _ => ext a u h, fun a u h t => ⟨u, ext a u h, t⟩, fun a u _ _ m _ => hm a m, fun a m => ?_, fun a h => .inl h, fun _ _ => rfl⟩⟩
  · obtain ⟨v, e, r⟩ := ok.slot i q h
    exact ⟨v, e, PRep.carry carry (fun _ a xs _ _ m h => ⟨ext a _ h, hm a m⟩) r⟩
  · rcases hn a m with q | q
    · obtain ⟨u, h, t⟩ := ok.trk a q
      exact ⟨u, ext a u h, t⟩
    · exact ⟨o, by rw [q]; exact upd_same, ho⟩
  · rcases hn a m with q | q
    · exact .inl q
    · exact .inr (by rw [q]; exact .of hp)
/-! ## what is wanted behind an expression -/
def Res (G : GX) (S S' : SX) (v : V) (p : PV) : Prop := PRep G S'.H S'.M v p ∧ ∀ ds a, p = .own ds → v = .ref a → ¬ OwnA S' a ∧ (Gone S.H a ∨ OwnA S a)
def RB (G : GX) (S S' : SX) (b : Bool) (a : Bool) : Prop := b = a
def Post {α β : Type} (G : GX) (W : WX) (R : SX → SX → β → α → Prop) (S : SX) (o : Out α) (Q : β → Hp → Prop) : Prop :=
  match o with
  | .ok a e' => ∀ b H' M', SOk G ⟨H', M', S.s, e'⟩ → Fr G S ⟨H', M', S.s, e'⟩ → R S ⟨H', M', S.s, e'⟩ b a → Q b H'
  | .exc x e' => ∀ c d H' M', SOk G ⟨H', M', S.s, e'⟩ → Fr G S ⟨H', M', S.s, e'⟩ → ExRep G H' M' c d x → W c d S.s H'
  | .bad => False
def tO {α β : Type} (G : GX) (W : WX) (R : SX → SX → β → α → Prop) (f : SEnv → Out α) : L2.St → Hp → (β → Hp → Prop) → Prop :=
  fun s H Q => ∃ M e, SOk G ⟨H, M, s, e⟩ ∧ Post G W R ⟨H, M, s, e⟩ (f e) Q
def Shift {α β : Type} (G : GX) (R : SX → SX → β → α → Prop) : Prop := ∀ S S1 S2 b a, Fr G S S1 → R S1 S2 b a → R S S2 b a
theorem shift_res {G : GX} : Shift G (Res G) := fun S S1 S2 v p f r => ⟨r.1, fun ds a e1 e2 => by
  obtain ⟨h1, h2⟩ := r.2 ds a e1 e2
  refine ⟨h1, ?_⟩
  rcases h2 with h2 | h2
  · exact .inl (f.gone h2)
  · rcases f.own a h2 with q | q
    · exact .inr q
    · exact .inl q⟩
theorem shift_rb {G : GX} : Shift G (RB G) := fun _ _ _ _ _ _ r => r
theorem Post.mono {α β : Type} {G : GX} {W : WX} {R : SX → SX → β → α → Prop} {S : SX} {o : Out α} {Q Q' : β → Hp → Prop} (h : Post G W R S o Q) (k : ∀ b H, Q b H → Q' b H) : Post G W R S o Q' := by
  cases o with
  | ok a e => exact fun b H' M' h1 h2 h3 => k _ _ (h b H' M' h1 h2 h3)
  | exc x e => exact h
  | bad => exact h
theorem Post.shift {α β : Type} {G : GX} {W : WX} {R : SX → SX → β → α → Prop} (hR : Shift G R) {S S1 : SX} (hs : S1.s = S.s) (f : Fr G S S1) {o : Out α} {Q : β → Hp → Prop} (h : Post G W R S o Q) : Post G W R S1 o Q := by
  obtain ⟨H1, M1, s1, e1⟩ := S1
  obtain rfl : s1 = S.s := hs
  cases o with
  | ok a e => exact fun b H' M' h1 h2 h3 => h b H' M' h1 (f.trans h2) (hR _ _ _ _ _ f h3)
  | exc x e => exact fun c d H' M' h1 h2 h3 => h c d H' M' h1 (f.trans h2) h3
  | bad => exact h
/-- two parts, one behind the other -/
theorem Post.bind {α β γ δ : Type} {G : GX} {W : WX} {R1 : SX → SX → β → α → Prop} {R2 : SX → SX → δ → γ → Prop} (hR : Shift G R2) {S : SX} {o : Out α} {k : α → SEnv → Out γ} {Q : δ → Hp → Prop} (h : Post G W R2 S (o.bind k) Q) :
    Post G W R1 S o fun b H1 => ∃ a e1 M1, SOk G ⟨H1, M1, S.s, e1⟩ ∧ Fr G S ⟨H1, M1, S.s, e1⟩ ∧ R1 S ⟨H1, M1, S.s, e1⟩ b a ∧ Post G W R2 ⟨H1, M1, S.s, e1⟩ (k a e1) Q := by
  cases o with
  | ok a e => exact fun b H' M' h1 h2 h3 => ⟨a, e, M', h1, h2, h3, Post.shift hR (S := S) (S1 := ⟨H', M', S.s, e⟩) rfl h2 (show Post G W R2 S (k a e) Q from h)⟩
  | exc x e => exact h
  | bad => exact h
/-! ## contexts, denotations -/
structure GY where
  T : TX
  ex : Option (Addr × Value × Option Addr)
  fix : List Nat
abbrev gx (X : Cx) (Y : GY) : GX := ⟨X.K, X.mg, Y.T, Y.ex, Y.fix⟩
abbrev SE := SEnv → Out PV
abbrev ST := SEnv → Out Bool
def DenE (X : Cx) (Y : GY) (W : WX) (x : Expr) (f : SE) : Prop := PE X x (tO (gx X Y) W (Res (gx X Y)) f)
def DenT (X : Cx) (Y : GY) (W : WX) (x : Expr) (f : ST) : Prop := PT X x (tO (gx X Y) W (RB (gx X Y)) f)
theorem PE.weak {X : Cx} {x : Expr} {t t' : TE} (h : PE X x t) (k : ∀ s H Q, t' s H Q → t s H Q) : PE X x t' := ⟨fun pins s σ H Q I q => h.run pins s σ H Q I (k _ _ _ q)⟩
theorem PT.weak {X : Cx} {x : Expr} {t t' : TT} (h : PT X x t) (k : ∀ s H Q, t' s H Q → t s H Q) : PT X x t' := ⟨fun pins s σ H Q I q => h.run pins s σ H Q I (k _ _ _ q)⟩
theorem PS.weak {X : Cx} {x : Stmt} {t t' : TS} (h : PS X x t) (k : ∀ D s H, t' D s H → t D s H) : PS X x t' := ⟨fun pins s σ H Q I q => h.run pins s σ H Q I (k _ _ _ q)⟩
theorem PA.weak {X : Cx} {x : List Expr} {t t' : TA} (h : PA X x t) (k : ∀ s H Q, t' s H Q → t s H Q) : PA X x t' := ⟨fun p pins s σ H Q I q => h.run p pins s σ H Q I (k _ _ _ q)⟩
/-! ### pure results -/
theorem res_dat {G : GX} {S S' : SX} {v : V} {d : D} (h : Rep G.K S'.H S'.M v d) : Res G S S' v (.dat d) := ⟨h, fun _ _ e => nomatch e⟩
theorem post_here {α β : Type} {G : GX} {W : WX} {R : SX → SX → β → α → Prop} {S : SX} {a : α} {Q : β → Hp → Prop} (ok : SOk G S) (h : Post G W R S (.ok a S.e) Q) (b : β) (r : R S S b a) : Q b S.H := h b S.H S.M ok (Fr.refl G S) r
/-! ### constants -/
def sC (d : D) : SE := fun e => .ok (.dat d) e
theorem den_c {X : Cx} {Y : GY} {W : WX} {x : Expr} {v : V} {d : D} (h : PE X x (tC v)) (r : ∀ K H M, Rep K H M v d) : DenE X Y W x (sC d) := PE.weak h fun s H Q ⟨M, e, ok, p⟩ => post_here ok p v (res_dat (r _ _ _))
theorem de_int {X : Cx} {Y : GY} {W : WX} {i : Int} {j pos} : DenE X Y W (.Constant (.int i) j pos) (sC (.int i)) := den_c pe_int fun _ _ _ => .int i
theorem de_bl {X : Cx} {Y : GY} {W : WX} {b : Bool} {j pos} : DenE X Y W (.Constant (.bool b) j pos) (sC (.bool b)) := den_c pe_bl fun _ _ _ => .bl b
theorem de_non {X : Cx} {Y : GY} {W : WX} {j pos} : DenE X Y W (.Constant .none j pos) (sC .none) := den_c pe_non fun _ _ _ => .non
theorem de_str {X : Cx} {Y : GY} {W : WX} {z : Str} {j pos} : DenE X Y W (.Constant (.str z) j pos) (sC (.str z)) := den_c pe_str fun _ _ _ => .str z
theorem de_gint {X : Cx} {Y : GY} {W : WX} {x : Str} {i : Int} {pos : Pos} (hm : ∃ t, X.mg x = some (.int i t)) (hg : Gl X x := by rfl) (hd : (x == ("__debug__" : Str)) = false := by decide) : DenE X Y W (.Name x pos) (sC (.int i)) := by
  obtain ⟨t, hm⟩ := hm
  exact den_c (pe_glob hg hm (v := .int i) ⟨t, rfl⟩ hd) fun _ _ _ => .int i
theorem de_gstr {X : Cx} {Y : GY} {W : WX} {x z : Str} {pos : Pos} (hm : ∃ t, X.mg x = some (.str z t)) (hg : Gl X x := by rfl) (hd : (x == ("__debug__" : Str)) = false := by decide) : DenE X Y W (.Name x pos) (sC (.str z)) := by
  obtain ⟨t, hm⟩ := hm
  exact den_c (pe_glob hg hm (v := .str z) ⟨t, rfl⟩ hd) fun _ _ _ => .str z
/-! ### names -/
theorem OwnA.of_set {S : SX} {H : Hp} {M : Addr → Prop} {i : Nat} {d : D} {a : Addr} (h : OwnA ⟨H, M, S.s, S.e.set i (some (.dat d))⟩ a) : OwnA S a ∧ ∀ b, S.s[i]? = some (some (V.ref b)) → S.e[i]? ≠ none → True := by
  obtain ⟨j, ds, h1, h2⟩ := h
  refine ⟨⟨j, ds, ?_, h2⟩, fun _ _ _ => trivial⟩
  by_cases hj : i = j
  · subst hj
    by_cases hl : i < S.e.length
    · have h1' : (S.e.set i (some (.dat d)))[i]? = some (some (PV.own ds)) := h1
      rw [List.getElem?_set_self hl] at h1'
      cases h1'
    · have h1' : (S.e.set i (some (.dat d)))[i]? = some (some (PV.own ds)) := h1
      rw [List.getElem?_eq_none (by simpa using Nat.le_of_not_lt hl)] at h1'
      cases h1'
  · have h1' : (S.e.set i (some (.dat d)))[j]? = some (some (PV.own ds)) := h1
    rw [List.getElem?_set_ne hj] at h1'
    exact h1'
/-- a list of one's own at slot i becomes data -/
theorem SOk.freeze {G : GX} {S : SX} (ok : SOk G S) {i : Nat} {ds : List D} (hi : S.e[i]? = some (some (.own ds))) :
    ∃ a M', S.s[i]? = some (some (V.ref a)) ∧ SOk G ⟨S.H, M', S.s, S.e.set i (some (.dat (.list ds)))⟩ ∧ Fr G S ⟨S.H, M', S.s, S.e.set i (some (.dat (.list ds)))⟩ ∧ Rep G.K S.H M' (.ref a) (.list ds) := by
  obtain ⟨v, hv, r⟩ := ok.slot i _ hi
  obtain ⟨a, vs, rfl, m, h, ra⟩ := r
  have hl : i < S.e.length := (List.getElem?_eq_some_iff.mp hi).1
  have c : Carry S.H S.H S.M (fun b => S.M b ∧ b ≠ a) := ⟨fun _ _ h _ _ => h, fun _ _ _ n _ z => n z.1⟩
  have ra' := ra.carry c
  have new : Rep G.K S.H (fun b => S.M b ∧ b ≠ a) (.ref a) (.list ds) := .lst h (fun z => z.2 rfl) ra'
  refine ⟨a, fun b => S.M b ∧ b ≠ a, hv, ⟨?_, fun j p hj => ?_, fun j k es fs w hj hk => ?_, fun b z => ok.trk b z.1, ok.tabs.same c⟩, ⟨fun _ _ h _ _ => h, fun _ o h t => ⟨o, h, t⟩, fun b o _ _ mb nb => ⟨mb, fun z => nb ⟨i, ds, hi, by rw [z]; exact hv⟩⟩, fun _ z => .inl z.1, fun b z => .inl (OwnA.of_set z).1, fun _ _ => rfl⟩, new⟩
  · show (S.e.set i _).length = _
    rw [List.length_set]
    exact ok.len
  · by_cases hij : i = j
    · subst hij
      have hj' : (S.e.set i (some (.dat (.list ds))))[i]? = some (some p) := hj
      rw [List.getElem?_set_self hl] at hj'
      cases hj'
      exact ⟨_, hv, new⟩
    · have hj' : (S.e.set i (some (.dat (.list ds))))[j]? = some (some p) := hj
      rw [List.getElem?_set_ne hij] at hj'
      obtain ⟨w, hw, rw'⟩ := ok.slot j p hj'
      refine ⟨w, hw, ?_⟩
      cases p with
      | dat d => exact Rep.carry c rw'
      | own es =>
        obtain ⟨b, ws, rfl, mb, hb, rb⟩ := rw'
        refine ⟨b, ws, rfl, ⟨mb, fun z => ?_⟩, hb, rb.carry c⟩
        subst z
        exact hij (ok.apart i j ds es _ hi hj' hv hw)
      | clo => exact rw'
      | exn x =>
        obtain ⟨b, cc, dd, h1, h2, h3⟩ := rw'
        exact ⟨b, cc, dd, h1, h2, h3.carry c⟩
      | scr ns =>
        obtain ⟨b, h1, h2⟩ := rw'
        exact ⟨b, h1, h2.carry c⟩
  · obtain ⟨h1, _⟩ : S.e[j]? = some (some (PV.own es)) ∧ True := by
      refine ⟨?_, trivial⟩
      by_cases hij : i = j
      · subst hij
        have hj' : (S.e.set i (some (.dat (.list ds))))[i]? = some (some (PV.own es)) := hj
        rw [List.getElem?_set_self hl] at hj'
        cases hj'
      · have hj' : (S.e.set i (some (.dat (.list ds))))[j]? = some (some (PV.own es)) := hj
        rw [List.getElem?_set_ne hij] at hj'
        exact hj'
    obtain ⟨h2, _⟩ : S.e[k]? = some (some (PV.own fs)) ∧ True := by
      refine ⟨?_, trivial⟩
      by_cases hik : i = k
      · subst hik
        have hk' : (S.e.set i (some (.dat (.list ds))))[i]? = some (some (PV.own fs)) := hk
        rw [List.getElem?_set_self hl] at hk'
        cases hk'
      · have hk' : (S.e.set i (some (.dat (.list ds))))[k]? = some (some (PV.own fs)) := hk
        rw [List.getElem?_set_ne hik] at hk'
        exact hk'
    exact ok.apart j k es fs w h1 h2
def sVar (i : Nat) : SE := fun e => match e[i]? with
  | some (some (.dat d)) => .ok (.dat d) e
  | some (some (.own ds)) => .ok (.dat (.list ds)) (e.set i (some (.dat (.list ds))))
  | some (some (.scr ns)) => .ok (.scr ns) e
  | _ => .bad
theorem de_var {X : Cx} {Y : GY} {W : WX} (i : Nat) {x : Str} {pos : Pos} (hN : X.N[i]? = some x := by rfl) (hv : Vis X.env.scope x := by first | exact Or.inl rfl | exact Or.inr (Or.inl rfl) | exact Or.inr (Or.inr rfl)) (hd : (x == ("__debug__" : Str)) = false := by decide)
    (hcd : (x == ("__classdict__" : Str)) = false := by decide) : DenE X Y W (.Name x pos) (sVar i) := by
  refine PE.weak (pe_var (i := i) hN hv hd hcd) fun s H Q ⟨M, e, ok, p⟩ => ?_
  unfold sVar at p
  split at p
  · rename_i d h
    obtain ⟨v, hv, r⟩ := ok.slot i _ h
    exact ⟨v, hv, post_here ok p v (res_dat r)⟩
  · rename_i ds h
    obtain ⟨a, M', hv, ok', f, r⟩ := ok.freeze h
    exact ⟨_, hv, p _ H M' ok' f (res_dat r)⟩
  · rename_i ns h
    obtain ⟨v, hv, r⟩ := ok.slot i _ h
    exact ⟨v, hv, post_here ok p v ⟨r, fun _ _ z => nomatch z⟩⟩
  · exact p.elim
end SM
namespace SM
open PySem PySem.Spec PyProof.Rows L2

/-! ## operands -/
inductive PO where
  | val (p : PV) | slot (i : Nat)
inductive Opd where
  | ex (f : SE) | nm (i : Nat)
def opd (o : Opd) (e : SEnv) : Out PO := match o with
  | .ex f => (f e).bind fun p e1 => .ok (.val p) e1
  | .nm i => match e[i]? with
    | some (some _) => .ok (.slot i) e
    | _ => .bad
def pvD : PV → Option D
  | .dat d => some d
  | .own ds => some (.list ds)
  | _ => none
def pk (e : SEnv) : PO → Option D
  | .val p => pvD p
  | .slot i => match e[i]? with
    | some (some p) => pvD p
    | _ => none
def ROp (G : GX) (S S' : SX) (v : V) : PO → Prop
  | .val p => Res G S S' v p
  | .slot i => S'.s[i]? = some (some v)
/-- what is known of an operand from then on -/
def PkP (G : GX) (S : SX) (v : V) : PO → Prop
  | .val p => PRep G S.H S.M v p ∧ ∀ ds a, p = .own ds → v = .ref a → ¬ OwnA S a
  | .slot i => S.s[i]? = some (some v)
theorem shift_rop {G : GX} : Shift G (ROp G) := fun S S1 S2 v po f h => by
  cases po with
  | val p => exact shift_res S S1 S2 v p f h
  | slot i => exact h
theorem ROp.pkP {G : GX} {S S' : SX} {v : V} {po : PO} (h : ROp G S S' v po) : PkP G S' v po := by
  cases po with
  | val p => exact ⟨h.1, fun ds a e1 e2 => (h.2 ds a e1 e2).1⟩
  | slot i => exact h
theorem PkP.fr {G : GX} {S S' : SX} {v : V} {po : PO} (ok : SOk G S) (f : Fr G S S') (hs : S'.s = S.s) (h : PkP G S v po) : PkP G S' v po := by
  cases po with
  | val p =>
    refine ⟨PRep.carry (f.carry ok) (fun ds a xs ep e m hh => ?_) h.1, fun ds a e1 e2 z => ?_⟩
    · have no : ¬ OwnA S a := h.2 ds a ep e
      exact ⟨f.keep a _ hh no (fun _ q => nomatch q), f.mkeep a _ hh (fun _ z => nomatch z) m no⟩
    · obtain ⟨b, vs, e3, m, hh, r⟩ : PRep G S.H S.M v (.own ds) := e1 ▸ h.1
      rw [e2] at e3
      cases e3
      rcases f.own a z with q | q
      · exact h.2 ds a e1 e2 q
      · exact q.no hh (fun _ z => nomatch z)
  | slot i =>
    show S'.s[i]? = _
    rw [hs]
    exact h
/-- data, or a list of one's own looked at -/
def Pk (G : GX) (S : SX) (v : V) (d : D) : Prop := Rep G.K S.H S.M v d ∨ ∃ a vs ds, v = .ref a ∧ d = .list ds ∧ S.H a = some (.lst vs) ∧ RepAll G.K S.H S.M vs ds
theorem Pk.of_prep {G : GX} {S : SX} {v : V} {p : PV} {d : D} (h : PRep G S.H S.M v p) (e : pvD p = some d) : Pk G S v d := by
  cases p with
  | dat d' =>
    cases e
    exact .inl h
  | own ds =>
    cases e
    obtain ⟨a, vs, rfl, _, hh, r⟩ := h
    exact .inr ⟨a, vs, ds, rfl, rfl, hh, r⟩
  | clo => cases e
  | exn x => cases e
  | scr ns => cases e
theorem PkP.pk {G : GX} {S : SX} {v : V} {po : PO} {d : D} (ok : SOk G S) (h : PkP G S v po) (e : pk S.e po = some d) : Pk G S v d := by
  cases po with
  | val p => exact Pk.of_prep h.1 e
  | slot i =>
    have e' : (match S.e[i]? with | some (some p) => pvD p | _ => none) = some d := e
    split at e'
    · rename_i p hp
      obtain ⟨w, hw, r⟩ := ok.slot i p hp
      have hv : S.s[i]? = some (some v) := h
      rw [hv] at hw
      cases hw
      exact Pk.of_prep r e'
    · cases e'
theorem Pk.dp {G : GX} {S : SX} {v : V} {d : D} (h : Pk G S v d) : Dp G.K S.H v d := by
  rcases h with h | ⟨a, vs, ds, rfl, rfl, hh, r⟩
  · exact h.dp
  · exact .lst (SqL.of hh) r.dp
theorem Pk.list {G : GX} {S : SX} {v : V} {ds : List D} (h : Pk G S v (.list ds)) : ∃ a vs, v = .ref a ∧ S.H a = some (.lst vs) ∧ RepAll G.K S.H S.M vs ds := by
  rcases h with h | ⟨a, vs, es, rfl, e, hh, r⟩
  · cases h with
    | lst q _ r => exact ⟨_, _, rfl, q, r⟩
  · cases e
    exact ⟨a, vs, rfl, hh, r⟩
theorem Pk.tup {G : GX} {S : SX} {v : V} {ds : List D} (h : Pk G S v (.tuple ds)) : ∃ a vs, v = .ref a ∧ FzT G.K S.H S.M a vs ∧ RepAll G.K S.H S.M vs ds := by
  rcases h with h | ⟨a, vs, es, _, e, _⟩
  · cases h with
    | tup q r => exact ⟨_, _, rfl, q, r⟩
  · cases e
theorem Pk.int {G : GX} {S : SX} {v : V} {i : Int} (h : Pk G S v (.int i)) : v = .int i := by
  rcases h with h | ⟨a, vs, es, _, e, _⟩
  · cases h
    rfl
  · cases e
theorem Pk.str {G : GX} {S : SX} {v : V} {x : Str} (h : Pk G S v (.str x)) : v = .str x := by
  rcases h with h | ⟨a, vs, es, _, e, _⟩
  · cases h
    rfl
  · cases e
theorem Pk.bl {G : GX} {S : SX} {v : V} {b : Bool} (h : Pk G S v (.bool b)) : v = .bl b := by
  rcases h with h | ⟨a, vs, es, _, e, _⟩
  · cases h
    rfl
  · cases e
theorem Pk.non {G : GX} {S : SX} {v : V} (h : Pk G S v .none) : v = .non := by
  rcases h with h | ⟨a, vs, es, _, e, _⟩
  · cases h
    rfl
  · cases e
def DenO (X : Cx) (Y : GY) (W : WX) (x : Expr) (o : Opd) : Prop := PE X x (tO (gx X Y) W (ROp (gx X Y)) (opd o))
theorem do_ex {X : Cx} {Y : GY} {W : WX} {x : Expr} {f : SE} (h : DenE X Y W x f) : DenO X Y W x (.ex f) := PE.weak h fun s H Q ⟨M, e, ok, p⟩ => by
  refine ⟨M, e, ok, ?_⟩
  have p' : Post (gx X Y) W (ROp (gx X Y)) ⟨H, M, s, e⟩ ((f e).bind fun p e1 => .ok (.val p) e1) Q := p
  cases q : f e with
  | ok a e1 =>
    rw [q] at p'
    exact fun b H' M' h1 h2 h3 => p' b H' M' h1 h2 h3
  | exc x e1 =>
    rw [q] at p'
    exact p'
  | bad =>
    rw [q] at p'
    exact p'
theorem do_nm {X : Cx} {Y : GY} {W : WX} (i : Nat) {x : Str} {pos : Pos} (hN : X.N[i]? = some x := by rfl) (hv : Vis X.env.scope x := by first | exact Or.inl rfl | exact Or.inr (Or.inl rfl) | exact Or.inr (Or.inr rfl)) (hd : (x == ("__debug__" : Str)) = false := by decide)
    (hcd : (x == ("__classdict__" : Str)) = false := by decide) : DenO X Y W (.Name x pos) (.nm i) := by
  refine PE.weak (pe_var (i := i) hN hv hd hcd) fun s H Q ⟨M, e, ok, p⟩ => ?_
  have p' : Post (gx X Y) W (ROp (gx X Y)) ⟨H, M, s, e⟩ (match e[i]? with | some (some _) => Out.ok (.slot i) e | _ => .bad) Q := p
  split at p'
  · rename_i pv h
    obtain ⟨v, hv, r⟩ := ok.slot i _ h
    exact ⟨v, hv, p' v H M ok (Fr.refl _ _) hv⟩
  · exact p'.elim
/-! ## operations upon operands -/
def fin1 (op : D → Option PV) (e : SEnv) (a : Option D) : Out PV := match a with
  | some d => match op d with
    | some p => .ok p e
    | none => .bad
  | none => .bad
def fin2 (op : D → D → Option PV) (e : SEnv) (a b : Option D) : Out PV := match a, b with
  | some d, some d' => match op d d' with
    | some p => .ok p e
    | none => .bad
  | _, _ => .bad
def sOp1 (op : D → Option PV) (a : Opd) : SE := fun e => (opd a e).bind fun pa e1 => fin1 op e1 (pk e1 pa)
def sOp2 (op : D → D → Option PV) (a b : Opd) : SE := fun e => (opd a e).bind fun pa e1 => (opd b e1).bind fun pb e2 => fin2 op e2 (pk e2 pa) (pk e2 pb)
/-- readings by data -/
def rD1 (G : GX) (op : D → Option PV) : V → Hp → VK → Prop := fun v H Q => ∃ (S : SX) (d : D) (p : PV), S.H = H ∧ SOk G S ∧ Pk G S v d ∧ op d = some p ∧ Post G (fun _ _ _ _ => False) (Res G) S (.ok p S.e) Q
def rD2 (G : GX) (op : D → D → Option PV) : R2 := fun v w H Q => ∃ (S : SX) (d d' : D) (p : PV), S.H = H ∧ SOk G S ∧ Pk G S v d ∧ Pk G S w d' ∧ op d d' = some p ∧ Post G (fun _ _ _ _ => False) (Res G) S (.ok p S.e) Q
theorem post_any {α β : Type} {G : GX} {W W' : WX} {R : SX → SX → β → α → Prop} {S : SX} {a : α} {e : SEnv} {Q : β → Hp → Prop} (h : Post G W R S (.ok a e) Q) : Post G W' R S (.ok a e) Q := h
theorem den_op1 {X : Cx} {Y : GY} {W : WX} {x : Expr} {oa : Opd} {op : D → Option PV} {r : V → Hp → VK → Prop} (h : PE X x fun σ H Q => tO (gx X Y) W (ROp (gx X Y)) (opd oa) σ H fun v H1 => rD1 (gx X Y) op v H1 Q) : DenE X Y W x (sOp1 op oa) := PE.weak h fun s H Q ⟨M, e, ok, p⟩ => by
  refine ⟨M, e, ok, Post.mono (Post.bind (R1 := ROp (gx X Y)) shift_res p) fun v H1 ⟨po, e1, M1, ok1, f1, r1, p1⟩ => ?_⟩
  have p1' : Post (gx X Y) W (Res (gx X Y)) ⟨H1, M1, s, e1⟩ (fin1 op e1 (pk e1 po)) Q := p1
  unfold fin1 at p1'
  cases q : pk e1 po with
  | none =>
    rw [q] at p1'
    exact p1'.elim
  | some d =>
    rw [q] at p1'
    dsimp only at p1'
    cases q2 : op d with
    | none =>
      rw [q2] at p1'
      exact p1'.elim
    | some pv =>
      rw [q2] at p1'
      exact ⟨⟨H1, M1, s, e1⟩, d, pv, rfl, ok1, PkP.pk ok1 r1.pkP q, q2, post_any p1'⟩
theorem den_op2 {X : Cx} {Y : GY} {W : WX} {x : Expr} {oa ob : Opd} {op : D → D → Option PV} (h : PE X x fun σ H Q => tO (gx X Y) W (ROp (gx X Y)) (opd oa) σ H fun v H1 => tO (gx X Y) W (ROp (gx X Y)) (opd ob) σ H1 fun w H2 => rD2 (gx X Y) op v w H2 Q) : DenE X Y W x (sOp2 op oa ob) := PE.weak h fun s H Q ⟨M, e, ok, p⟩ => by
  refine ⟨M, e, ok, Post.mono (Post.bind (R1 := ROp (gx X Y)) shift_res p) fun v H1 ⟨po, e1, M1, ok1, f1, r1, p1⟩ => ?_⟩
  refine ⟨M1, e1, ok1, Post.mono (Post.bind (R1 := ROp (gx X Y)) shift_res p1) fun w H2 ⟨po2, e2, M2, ok2, f2, r2, p2⟩ => ?_⟩
  have p2' : Post (gx X Y) W (Res (gx X Y)) ⟨H2, M2, s, e2⟩ (fin2 op e2 (pk e2 po) (pk e2 po2)) Q := p2
  unfold fin2 at p2'
  have k1 := PkP.fr ok1 f2 rfl r1.pkP
  have k2 := r2.pkP
  cases q : pk e2 po with
  | none =>
    rw [q] at p2'
    exact p2'.elim
  | some d =>
    cases q2 : pk e2 po2 with
    | none =>
      rw [q, q2] at p2'
      exact p2'.elim
    | some d' =>
      rw [q, q2] at p2'
      dsimp only at p2'
      cases q3 : op d d' with
      | none =>
        rw [q3] at p2'
        exact p2'.elim
      | some pv =>
        rw [q3] at p2'
        exact ⟨⟨H2, M2, s, e2⟩, d, d', pv, rfl, ok2, PkP.pk ok2 k1 q, PkP.pk ok2 k2 q2, q3, post_any p2'⟩
/-! ### the ends of an operation -/
section
variable {G : GX} {W : WX} {S : SX} {Q : VK}
theorem end_dat {d : D} {v : V} (ok : SOk G S) (h : Post G W (Res G) S (.ok (.dat d) S.e) Q) (r : Rep G.K S.H S.M v d) : Q v S.H := post_here ok h v (res_dat r)
/-- a new list -/
theorem end_lst {ds : List D} {vs : List V} {p : Addr} (ok : SOk G S) (h : Post G W (Res G) S (.ok (.own ds) S.e) Q) (r : RepAll G.K S.H S.M vs ds) (hp : S.H p = none) : Q (.ref p) (upd S.H p (.lst vs)) := by
  obtain ⟨ok', f⟩ := ok.grow (o := .lst vs) hp (fun a => S.M a ∨ a = p) (fun _ m => .inl m) (fun _ m => m)
  have npo : ¬ OwnA S p := fun z => by
    obtain ⟨u, hu, _⟩ := ok.trk p (ok.ownM z)
    rw [hp] at hu
    cases hu
  exact h (.ref p) _ _ ok' f ⟨⟨p, vs, rfl, .inr rfl, upd_same, r.carry (f.carry ok)⟩, fun es a e1 e2 => by
    cases e2
    exact ⟨npo, .inl (.of hp)⟩⟩
/-- a new tuple -/
theorem end_tup {ds : List D} {vs : List V} {p : Addr} (ok : SOk G S) (h : Post G W (Res G) S (.ok (.dat (.tuple ds)) S.e) Q) (r : RepAll G.K S.H S.M vs ds) (hp : S.H p = none) : Q (.ref p) (upd S.H p (.tup vs)) := by
  obtain ⟨ok', f⟩ := ok.grow (o := .tup vs) hp S.M (fun _ m => m) (fun _ m => .inl m)
  have npM : ¬ S.M p := fun z => by
    obtain ⟨u, hu, _⟩ := ok.trk p z
    rw [hp] at hu
    cases hu
  exact h (.ref p) _ _ ok' f (res_dat (.tup (.inl ⟨.inl upd_same, npM⟩) (r.carry (f.carry ok))))
end
/-! ## arithmetic -/
abbrev LIM : Nat := 16777216
def aAdd : D → D → Option PV
  | .int i, .int j => some (.dat (.int (i + j)))
  | .str x, .str y => if x.length + y.length ≤ LIM then some (.dat (.str (x ++ y))) else none
  | .list xs, .list ys => if xs.length + ys.length ≤ LIM then some (.own (xs ++ ys)) else none
  | .tuple xs, .tuple ys => if xs.length + ys.length ≤ LIM then some (.dat (.tuple (xs ++ ys))) else none
  | _, _ => none
def aSub : D → D → Option PV
  | .int i, .int j => some (.dat (.int (i - j)))
  | _, _ => none
abbrev BIG : Int := 18446744073709551616
def small64 (i : Int) : Bool := decide (-BIG < i) && decide (i < BIG)
def aMul : D → D → Option PV
  | .int i, .int j => if small64 i || small64 j then some (.dat (.int (i * j))) else none
  | .list xs, .int k => if decide (-(2 ^ 63) ≤ k) && decide (k < 2 ^ 63) && decide (xs.length * k.toNat ≤ LIM) then some (.own (List.replicate k.toNat xs).flatten) else none
  | .str x, .int k => if decide (-(2 ^ 63) ≤ k) && decide (k < 2 ^ 63) && decide (x.length * k.toNat ≤ LIM) then some (.dat (.str ⟨(List.replicate k.toNat x.cps.toList).flatten.toArray⟩)) else none
  | .tuple xs, .int k => if decide (xs ≠ []) && decide (2 ≤ k) && decide (k ≤ 1000) && decide (xs.length ≤ 1000) then some (.dat (.tuple (List.replicate k.toNat xs).flatten)) else none
  | _, _ => none
def aDiv : D → D → Option PV
  | .int i, .int j => if decide (0 < j) && decide (j < 1073741824) then some (.dat (.int (i / j))) else none
  | _, _ => none
def aMod : D → D → Option PV
  | .int i, .int j => if decide (0 < j) then some (.dat (.int (i % j))) else none
  | _, _ => none
def aPow : D → D → Option PV
  | .int i, .int j => if decide (0 ≤ j) && decide (j ≤ 1000000) && decide (i.natAbs < 18446744073709551616) then some (.dat (.int (i ^ j.toNat))) else none
  | _, _ => none
def aNeg : D → Option PV
  | .int i => some (.dat (.int (-i)))
  | _ => none
end SM
namespace SM
open PySem PySem.Spec PyProof.Rows L2

abbrev OpD (X : Cx) (Y : GY) (f : Value → Value → Sem Value) (op : D → D → Option PV) : Prop := OpR X f (rD2 (gx X Y) op)
theorem line_eq : sizeLine = LIM := sizeLine_eq
theorem RepAll.flat {K : PySem.W.Frag} {H : Hp} {M : Addr → Prop} {vs : List V} {ds : List D} (h : RepAll K H M vs ds) : ∀ k : Nat, RepAll K H M (List.replicate k vs).flatten (List.replicate k ds).flatten
  | 0 => .nil
  | k + 1 => by
    rw [List.replicate_succ, List.replicate_succ, List.flatten_cons, List.flatten_cons]
    exact h.append (h.flat k)
section
variable {X : Cx} {Y : GY}
theorem od_add : OpD X Y (binaryOp .Add) aAdd := by
  intro pins s σ H v w vv ww Q I rv rw' h
  obtain ⟨S, d, d', p, rfl, ok, h1, h2, ho, q⟩ := h
  unfold aAdd at ho
  split at ho
  · cases ho
    exact op_add pins s σ S.H v w vv ww Q I rv rw' ⟨_, _, h1.int, h2.int, end_dat ok q (.int _)⟩
  · split at ho
    · rename_i hl
      cases ho
      exact op_add_str pins s σ S.H v w vv ww Q I rv rw' ⟨_, _, h1.str, h2.str, by rw [line_eq]; exact hl, end_dat ok q (.str _)⟩
    · cases ho
  · split at ho
    · rename_i hl
      cases ho
      obtain ⟨a, vs, rfl, ha, ra⟩ := h1.list
      obtain ⟨b, ws, rfl, hb, rb⟩ := h2.list
      exact op_cat pins s σ S.H _ _ vv ww Q I rv rw' ⟨a, b, vs, ws, rfl, rfl, ha, hb, by rw [ra.length, rb.length, line_eq]; exact hl, fun p hp => end_lst ok q (ra.append rb) hp⟩
    · cases ho
  · split at ho
    · rename_i hl
      cases ho
      obtain ⟨a, vs, rfl, ha, ra⟩ := h1.tup
      obtain ⟨b, ws, rfl, hb, rb⟩ := h2.tup
      refine op_catA pins s σ S.H _ _ vv ww Q I rv rw' ⟨a, b, vs, ws, rfl, rfl, ha.sq, hb.sq, by rw [ra.length, rb.length, line_eq]; exact hl, fun e => ?_, fun _ e => ?_, fun _ _ p hp => end_tup ok q (ra.append rb) hp⟩
      · subst e
        cases ra
        exact end_dat ok q (.tup hb rb)
      · subst e
        cases rb
        refine end_dat ok q ?_
        rw [List.append_nil]
        exact .tup ha ra
    · cases ho
  · cases ho
theorem od_sub : OpD X Y (binaryOp .Sub) aSub := by
  intro pins s σ H v w vv ww Q I rv rw' h
  obtain ⟨S, d, d', p, rfl, ok, h1, h2, ho, q⟩ := h
  unfold aSub at ho
  split at ho
  · cases ho
    exact op_sub pins s σ S.H v w vv ww Q I rv rw' ⟨_, _, h1.int, h2.int, end_dat ok q (.int _)⟩
  · cases ho
theorem small_ok {i : Int} (h : small64 i = true) : -(2 ^ 64) < i ∧ i < 2 ^ 64 := by
  unfold small64 at h
  simp only [Bool.and_eq_true, decide_eq_true_eq] at h
  exact ⟨by have := h.1; unfold BIG at this; omega, by have := h.2; unfold BIG at this; omega⟩
theorem fold_cat : ∀ (k : Nat) (a acc : Array Nat), (List.replicate k a).foldl (· ++ ·) acc = acc ++ (List.replicate k a.toList).flatten.toArray
  | 0, a, acc => by simp
  | k + 1, a, acc => by
    rw [List.replicate_succ, List.foldl_cons, fold_cat k a, List.replicate_succ, List.flatten_cons]
    apply Array.ext'
    simp
theorem od_mul : OpD X Y (binaryOp .Mult) aMul := by
  intro pins s σ H v w vv ww Q I rv rw' h
  obtain ⟨S, d, d', p, rfl, ok, h1, h2, ho, q⟩ := h
  unfold aMul at ho
  split at ho
  · split at ho
    · rename_i hl
      cases ho
      refine op_mul pins s σ S.H v w vv ww Q I rv rw' ⟨_, _, h1.int, h2.int, ?_, end_dat ok q (.int _)⟩
      rw [Bool.or_eq_true] at hl
      rcases hl with hl | hl
      · exact .inl (small_ok hl)
      · exact .inr (small_ok hl)
    · cases ho
  · split at ho
    · rename_i hl
      cases ho
      simp only [Bool.and_eq_true, decide_eq_true_eq] at hl
      obtain ⟨⟨l1, l2⟩, l3⟩ := hl
      obtain ⟨a, vs, rfl, ha, ra⟩ := h1.list
      exact op_rep pins s σ S.H _ _ vv ww Q I rv rw' ⟨a, _, vs, rfl, h2.int, ha, l1, l2, by rw [ra.length, line_eq]; exact l3, fun p hp => end_lst ok q (ra.flat _) hp⟩
    · cases ho
  · rename_i x k
    split at ho
    · rename_i hl
      cases ho
      simp only [Bool.and_eq_true, decide_eq_true_eq] at hl
      obtain ⟨⟨l1, l2⟩, l3⟩ := hl
      have e1 := h1.str
      have e2 := h2.int
      subst e1 e2
      obtain ⟨t, rfl⟩ := rv
      obtain ⟨t', rfl⟩ := rw'
      have fin : ∀ (u : Value) (tk : Nat), RelV (V.str ⟨(List.replicate k.toNat x.cps.toList).flatten.toArray⟩) u → EP X pins σ Q u { s with toks := tk } := fun u tk r => ⟨_, S.H, I.tok tk, r, end_dat ok q (.str _)⟩
      refine PySem.P.mul_str ?_ (fun h1 h2 => ?_) (fun h1 h2 => ?_) ?_
      · rw [decide_eq_false (by omega), decide_eq_false (by omega)]
        rfl
      · intro hgt
        have hk : 1 ≤ k := by omega
        have h3 : (x.length : Int) * k ≤ LIM := by
          have : ((x.length * k.toNat : Nat) : Int) ≤ (LIM : Nat) := by exact_mod_cast l3
          rw [Int.natCast_mul, Int.toNat_of_nonneg (by omega)] at this
          exact this
        have h4 : (2 ^ 63 - 1 : Int) / k < x.length := hgt
        have h5 : (2 ^ 63 - 1 : Int) < (x.length : Int) * k := by
          rw [Int.ediv_lt_iff_lt_mul (by omega)] at h4
          exact h4
        have h6 : ((LIM : Nat) : Int) = 16777216 := rfl
        omega
      · unfold Builtin.Str.tooLong
        exact decide_eq_false (by
          have : sizeLine = LIM := line_eq
          omega)
      · have len : (⟨(List.replicate k.toNat x.cps.toList).flatten.toArray⟩ : Str).length ≤ sizeLine := by
          show (List.replicate k.toNat x.cps.toList).flatten.toArray.size ≤ _
          rw [List.size_toArray, PyProof.Rows.lm_len_rep_flat, line_eq, Nat.mul_comm]
          exact l3
        split
        · rename_i hk
          refine ⟨by decide, fin _ _ ?_⟩
          refine ⟨s.toks, ?_⟩
          have e0 : k.toNat = 0 := by omega
          rw [e0]
          rfl
        · split
          · rename_i hk
            have e0 : (List.replicate k.toNat x.cps.toList).flatten.toArray = x.cps := by
              rw [Bool.or_eq_true] at hk
              rcases hk with hk | hk
              · have e : k = 1 := beq_iff_eq.mp hk
                subst e
                simp
              · have e : x.cps.size = 0 := beq_iff_eq.mp hk
                have e' : x.cps = #[] := Array.size_eq_zero_iff.mp e
                rw [e']
                simp
            refine fin _ s.toks ⟨t, ?_⟩
            rw [e0]
          · have e0 : (List.replicate k.toNat x.cps).foldl (· ++ ·) #[] = (List.replicate k.toNat x.cps.toList).flatten.toArray := by
              rw [fold_cat]
              simp
            rw [e0]
            exact ⟨len, fin _ _ ⟨_, rfl⟩⟩
    · cases ho
  · split at ho
    · rename_i hl
      cases ho
      simp only [Bool.and_eq_true, decide_eq_true_eq] at hl
      obtain ⟨⟨⟨l1, l2⟩, l3⟩, l4⟩ := hl
      obtain ⟨a, vs, rfl, ha, ra⟩ := h1.tup
      exact op_repT pins s σ S.H _ _ vv ww Q I rv rw' ⟨a, _, vs, rfl, h2.int, ha.sq, fun e => by subst e; cases ra; exact l1 rfl, l2, l3, by rw [ra.length]; exact l4, fun p hp => end_tup ok q (ra.flat _) hp⟩
    · cases ho
  · cases ho
theorem od_div : OpD X Y (binaryOp .FloorDiv) aDiv := by
  intro pins s σ H v w vv ww Q I rv rw' h
  obtain ⟨S, d, d', p, rfl, ok, h1, h2, ho, q⟩ := h
  unfold aDiv at ho
  split at ho
  · split at ho
    · rename_i hl
      cases ho
      simp only [Bool.and_eq_true, decide_eq_true_eq] at hl
      exact op_fdiv pins s σ S.H v w vv ww Q I rv rw' ⟨_, _, h1.int, h2.int, hl, end_dat ok q (.int _)⟩
    · cases ho
  · cases ho
theorem od_mod : OpD X Y (binaryOp .Mod) aMod := by
  intro pins s σ H v w vv ww Q I rv rw' h
  obtain ⟨S, d, d', p, rfl, ok, h1, h2, ho, q⟩ := h
  unfold aMod at ho
  split at ho
  · split at ho
    · rename_i hl
      cases ho
      simp only [decide_eq_true_eq] at hl
      exact op_mod pins s σ S.H v w vv ww Q I rv rw' ⟨_, _, h1.int, h2.int, hl, end_dat ok q (.int _)⟩
    · cases ho
  · cases ho
theorem od_pow : OpD X Y (binaryOp .Pow) aPow := by
  intro pins s σ H v w vv ww Q I rv rw' h
  obtain ⟨S, d, d', p, rfl, ok, h1, h2, ho, q⟩ := h
  unfold aPow at ho
  split at ho
  · split at ho
    · rename_i hl
      cases ho
      simp only [Bool.and_eq_true, decide_eq_true_eq] at hl
      exact op_pow pins s σ S.H v w vv ww Q I rv rw' ⟨_, _, h1.int, h2.int, ⟨hl.1.1, hl.1.2, hl.2⟩, end_dat ok q (.int _)⟩
    · cases ho
  · cases ho
/-- an operator's expression -/
theorem de_op {W : WX} {a b : Expr} {oa ob : Opd} {op : Operator} {f : D → D → Option PV} {pos : Pos} (ho : OpD X Y (binaryOp op) f) (ha : DenO X Y W a oa) (hb : DenO X Y W b ob) : DenE X Y W (.BinOp a op b pos) (sOp2 f oa ob) := den_op2 (pe_op ho ha hb)
theorem od_neg : UnR X (unaryOp .USub) (rD1 (gx X Y) aNeg) := by
  intro pins s σ H v vv Q I rv h
  obtain ⟨S, d, p, rfl, ok, h1, ho, q⟩ := h
  unfold aNeg at ho
  split at ho
  · cases ho
    exact un_neg pins s σ S.H v vv Q I rv ⟨_, h1.int, end_dat ok q (.int _)⟩
  · cases ho
theorem de_neg {W : WX} {a : Expr} {oa : Opd} {pos : Pos} (ha : DenO X Y W a oa) : DenE X Y W (.UnaryOp .USub a pos) (sOp1 aNeg oa) := den_op1 (r := rD1 (gx X Y) aNeg) (pe_un od_neg ha)
end
end SM
namespace SM
open PySem PySem.Spec PyProof.Rows L2

/-! ## comparisons -/
def bD (o : Option Bool) : Option PV := o.map fun b => .dat (.bool b)
def qEq : D → D → Option Bool
  | .str x, .str y => some (decide (x = y))
  | d, d' => if SeqAt.shaped d && SeqAt.shaped d' then some (PyData.eqv d d') else none
def aEq (d d' : D) : Option PV := bD (qEq d d')
def aNe (d d' : D) : Option PV := bD ((qEq d d').map (!·))
def qOrd (fi : Int → Int → Bool) (fs : List Nat → List Nat → Bool) : D → D → Option Bool
  | .int i, .int j => some (fi i j)
  | .str x, .str y => some (fs x.cps.toList y.cps.toList)
  | _, _ => none
def aLt (d d' : D) : Option PV := bD (qOrd (fun i j => decide (i < j)) (fun x y => decide (x < y)) d d')
def aLe (d d' : D) : Option PV := bD (qOrd (fun i j => decide (i ≤ j)) (fun x y => !decide (y < x)) d d')
def aGt (d d' : D) : Option PV := bD (qOrd (fun i j => decide (j < i)) (fun x y => decide (y < x)) d d')
def aGe (d d' : D) : Option PV := bD (qOrd (fun i j => decide (j ≤ i)) (fun x y => !decide (x < y)) d d')
def flatD : D → Bool
  | .none => true
  | .bool _ => true
  | .int _ => true
  | .str _ => true
  | _ => false
def qIn : D → D → Option Bool
  | .str x, .str y => match x.cps.toList with
    | [c] => some (decide (c ∈ y.cps.toList))
    | _ => some (!(Builtin.Str.occurrences y x 0 y.length 1).isEmpty)
  | d, .list ds => if SeqAt.shaped d && SeqAt.shaped (.list ds) then some (ds.any fun z => PyData.eqv z d) else none
  | d, .tuple ds => if flatD d && ds.all flatD then some (ds.any fun z => PyData.eqv z d) else none
  | _, _ => none
def aIn (d d' : D) : Option PV := bD (qIn d d')
def aNotIn (d d' : D) : Option PV := bD ((qIn d d').map (!·))
def isNone : D → Bool
  | .none => true
  | _ => false
def aIsN (d : D) : Option PV := some (.dat (.bool (isNone d)))
def aNotN (d : D) : Option PV := some (.dat (.bool (!isNone d)))
theorem bD_some {o : Option Bool} {p : PV} (h : bD o = some p) : ∃ b, o = some b ∧ p = .dat (.bool b) := by
  cases o with
  | none => cases h
  | some b =>
    cases h
    exact ⟨b, rfl, rfl⟩
theorem flat_eqv {G : GX} {H : Hp} {M : Addr → Prop} {v w : V} {d e : D} (r : Rep G.K H M v d) (q : Rep G.K H M w e) (h1 : flatD d = true) (h2 : flatD e = true) : eqV v w = PyData.eqv d e := by
  cases r <;> cases q <;> first | rfl | (cases h1; done) | (cases h2; done) | skip
theorem flat_v {G : GX} {H : Hp} {M : Addr → Prop} {v : V} {d : D} (r : Rep G.K H M v d) (h1 : flatD d = true) : flatV v = true := by
  cases r <;> first | rfl | (cases h1; done)
theorem flat_any {G : GX} {H : Hp} {M : Addr → Prop} {v : V} {d : D} (r : Rep G.K H M v d) (h1 : flatD d = true) : ∀ {vs : List V} {ds : List D}, RepAll G.K H M vs ds → ds.all flatD = true → vs.all flatV = true ∧ inV v vs = ds.any fun z => PyData.eqv z d
  | _, _, .nil, _ => ⟨rfl, rfl⟩
  | _, _, .cons q s, h => by
    rw [List.all_cons, Bool.and_eq_true] at h
    obtain ⟨i1, i2⟩ := flat_any r h1 s h.2
    refine ⟨by rw [List.all_cons, flat_v q h.1, i1]; rfl, ?_⟩
    unfold inV at i2 ⊢
    rw [List.any_cons, List.any_cons, i2, flat_eqv q r h.1 h1]
theorem str_one {x : Str} {c : Nat} (h : x.cps.toList = [c]) : x = ⟨#[c]⟩ := by
  obtain ⟨⟨l⟩⟩ := x
  simp only at h
  rw [h]
section
variable {X : Cx} {Y : GY}
theorem od_eq (hu : X.A.units + 64 < cLine) : OpD X Y (compareOp .Eq) aEq := by
  intro pins s σ H v w vv ww Q I rv rw' h
  obtain ⟨S, d, d', p, rfl, ok, h1, h2, ho, q⟩ := h
  obtain ⟨b, hb, rfl⟩ := bD_some ho
  unfold qEq at hb
  split at hb
  · cases hb
    have e1 := h1.str
    have e2 := h2.str
    subst e1 e2
    refine op_eq pins s σ S.H _ _ vv ww Q I rv rw' ⟨rfl, ?_⟩
    rename_i x y
    have e3 : decide (V.str x = V.str y) = decide (x = y) := by
      by_cases hxy : x = y
      · subst hxy
        simp
      · have : ¬ V.str x = V.str y := fun z => hxy (V.str.inj z)
        rw [decide_eq_false hxy, decide_eq_false this]
    rw [e3]
    exact end_dat ok q (.bl _)
  · split at hb
    · rename_i hs
      cases hb
      rw [Bool.and_eq_true] at hs
      exact op_eqD hu pins s σ S.H v w vv ww Q I rv rw' ⟨d, d', h1.dp, h2.dp, hs.1, hs.2, end_dat ok q (.bl _)⟩
    · cases hb
theorem od_ne (hu : X.A.units + 64 < cLine) : OpD X Y (compareOp .NotEq) aNe := by
  intro pins s σ H v w vv ww Q I rv rw' h
  obtain ⟨S, d, d', p, rfl, ok, h1, h2, ho, q⟩ := h
  obtain ⟨b, hb, rfl⟩ := bD_some ho
  obtain ⟨b', hb', e'⟩ := Option.map_eq_some_iff.mp hb
  subst e'
  unfold qEq at hb'
  split at hb'
  · cases hb'
    have e1 := h1.str
    have e2 := h2.str
    subst e1 e2
    rename_i x y
    refine op_ne pins s σ S.H _ _ vv ww Q I rv rw' ⟨rfl, ?_⟩
    have e3 : decide (V.str x = V.str y) = decide (x = y) := by
      by_cases hxy : x = y
      · subst hxy
        simp
      · have : ¬ V.str x = V.str y := fun z => hxy (V.str.inj z)
        rw [decide_eq_false hxy, decide_eq_false this]
    rw [e3]
    exact end_dat ok q (.bl _)
  · split at hb'
    · rename_i hs
      cases hb'
      rw [Bool.and_eq_true] at hs
      exact op_neD hu pins s σ S.H v w vv ww Q I rv rw' ⟨d, d', h1.dp, h2.dp, hs.1, hs.2, end_dat ok q (.bl _)⟩
    · cases hb'
theorem od_ord {f : Value → Value → Sem Value} {fi : Int → Int → Bool} {fs : List Nat → List Nat → Bool} (hi : OpR X f (rI0 fun i j => .bl (fi i j))) (hs : OpR X f (fun x y H Q => ∃ i j, x = .str i ∧ y = .str j ∧ Q (.bl (fs i.cps.toList j.cps.toList)) H)) : OpD X Y f fun d d' => bD (qOrd fi fs d d') := by
  intro pins s σ H v w vv ww Q I rv rw' h
  obtain ⟨S, d, d', p, rfl, ok, h1, h2, ho, q⟩ := h
  obtain ⟨b, hb, rfl⟩ := bD_some ho
  unfold qOrd at hb
  split at hb
  · cases hb
    exact hi pins s σ S.H v w vv ww Q I rv rw' ⟨_, _, h1.int, h2.int, end_dat ok q (.bl _)⟩
  · cases hb
    exact hs pins s σ S.H v w vv ww Q I rv rw' ⟨_, _, h1.str, h2.str, end_dat ok q (.bl _)⟩
  · cases hb
theorem od_lt : OpD X Y (compareOp .Lt) aLt := od_ord op_lt op_lt_str
theorem od_le : OpD X Y (compareOp .LtE) aLe := od_ord op_le op_le_str
theorem od_gt : OpD X Y (compareOp .Gt) aGt := od_ord op_gt op_gt_str
theorem od_ge : OpD X Y (compareOp .GtE) aGe := od_ord op_ge op_ge_str
theorem od_in (hu : X.A.units + 65 < cLine) : OpD X Y (compareOp .In) aIn := by
  intro pins s σ H v w vv ww Q I rv rw' h
  obtain ⟨S, d, d', p, rfl, ok, h1, h2, ho, q⟩ := h
  obtain ⟨b, hb, rfl⟩ := bD_some ho
  unfold qIn at hb
  split at hb
  · split at hb
    · rename_i c hc
      cases hb
      exact op_in_sign pins s σ S.H v w vv ww Q I rv rw' ⟨c, _, by rw [← str_one hc]; exact h1.str, h2.str, end_dat ok q (.bl _)⟩
    · cases hb
      exact op_in_str pins s σ S.H v w vv ww Q I rv rw' ⟨_, _, h1.str, h2.str, end_dat ok q (.bl _)⟩
  · split at hb
    · rename_i hs
      cases hb
      rw [Bool.and_eq_true] at hs
      exact op_inD hu pins s σ S.H v w vv ww Q I rv rw' ⟨d, _, h1.dp, h2.dp, hs.1, hs.2, end_dat ok q (.bl _)⟩
    · cases hb
  · split at hb
    · rename_i hs
      cases hb
      rw [Bool.and_eq_true] at hs
      obtain ⟨a, vs, rfl, ha, ra⟩ := h2.tup
      have r1 : Rep X.K S.H S.M v d := by
        rcases h1 with h1 | ⟨_, _, es, _, rfl, _⟩
        · exact h1
        · cases hs.1
      obtain ⟨f1, f2⟩ := flat_any (G := gx X Y) r1 hs.1 ra hs.2
      refine op_in_seq pins s σ S.H v _ vv ww Q I rv rw' ⟨a, vs, rfl, .inr ha.sq, flat_v (G := gx X Y) r1 hs.1, f1, ?_⟩
      rw [if_neg Bool.false_ne_true, f2]
      exact end_dat ok q (.bl _)
    · cases hb
  · cases hb
theorem od_notIn (hu : X.A.units + 65 < cLine) : OpD X Y (compareOp .NotIn) aNotIn := by
  intro pins s σ H v w vv ww Q I rv rw' h
  obtain ⟨S, d, d', p, rfl, ok, h1, h2, ho, q⟩ := h
  obtain ⟨b, hb, rfl⟩ := bD_some ho
  obtain ⟨b', hb', e'⟩ := Option.map_eq_some_iff.mp hb
  subst e'
  unfold qIn at hb'
  split at hb'
  · split at hb'
    · rename_i c hc
      cases hb'
      exact op_notIn_sign pins s σ S.H v w vv ww Q I rv rw' ⟨c, _, by rw [← str_one hc]; exact h1.str, h2.str, end_dat ok q (.bl _)⟩
    · cases hb'
      exact op_notIn_str pins s σ S.H v w vv ww Q I rv rw' ⟨_, _, h1.str, h2.str, end_dat ok q (.bl _)⟩
  · split at hb'
    · rename_i hs
      cases hb'
      rw [Bool.and_eq_true] at hs
      exact op_notInD hu pins s σ S.H v w vv ww Q I rv rw' ⟨d, _, h1.dp, h2.dp, hs.1, hs.2, end_dat ok q (.bl _)⟩
    · cases hb'
  · split at hb'
    · rename_i hs
      cases hb'
      rw [Bool.and_eq_true] at hs
      obtain ⟨a, vs, rfl, ha, ra⟩ := h2.tup
      have r1 : Rep X.K S.H S.M v d := by
        rcases h1 with h1 | ⟨_, _, es, _, rfl, _⟩
        · exact h1
        · cases hs.1
      obtain ⟨f1, f2⟩ := flat_any (G := gx X Y) r1 hs.1 ra hs.2
      refine op_notIn_seq pins s σ S.H v _ vv ww Q I rv rw' ⟨a, vs, rfl, .inr ha.sq, flat_v (G := gx X Y) r1 hs.1, f1, ?_⟩
      rw [if_pos rfl, f2]
      exact end_dat ok q (.bl _)
    · cases hb'
  · cases hb'
/-! ### as values, as tests -/
theorem de_cmp {W : WX} {a b : Expr} {oa ob : Opd} {op : CmpOp} {f : D → D → Option PV} {pos : Pos} (ho : OpD X Y (compareOp op) f) (ha : DenO X Y W a oa) (hb : DenO X Y W b ob) (hm : behindInMarks op b = false) : DenE X Y W (.Compare a [op] [b] pos) (sOp2 f oa ob) := den_op2 (pe_cmpR ho ha hb hm)
/-- a value that must be a truth value -/
def sT (f : SE) : ST := fun e => (f e).bind fun p e1 => match p with
  | .dat (.bool b) => .ok b e1
  | _ => .bad
theorem rb_of {G : GX} {W : WX} {S : SX} {o : Out PV} {Q : Bool → Hp → Prop} (h : Post G W (RB G) S (o.bind fun p e1 => match p with | .dat (.bool b) => .ok b e1 | _ => .bad) Q) : Post G W (Res G) S o fun v H1 => ∃ k, v = .bl k ∧ Q k H1 := by
  refine Post.mono (Post.bind (R1 := Res G) shift_rb h) fun v H1 ⟨p, e1, M1, ok1, f1, r1, p1⟩ => ?_
  split at p1
  · rename_i b
    cases (show Rep G.K H1 M1 v (.bool b) from r1.1)
    exact ⟨b, rfl, post_here ok1 p1 b rfl⟩
  · exact p1.elim
theorem dt_cmp {W : WX} {a b : Expr} {oa ob : Opd} {op : CmpOp} {f : D → D → Option PV} {pos : Pos} (ho : OpD X Y (compareOp op) f) (ha : DenO X Y W a oa) (hb : DenO X Y W b ob) (hm : behindInMarks op b = false) : DenT X Y W (.Compare a [op] [b] pos) (sT (sOp2 f oa ob)) := by
  refine PT.weak (pt_cmpR ho ha hb hm) fun s H Q ⟨M, e, ok, p⟩ => ?_
  have p' := rb_of p
  -- the same road as den_op2
  refine ⟨M, e, ok, Post.mono (Post.bind (R1 := ROp (gx X Y)) shift_res p') fun v H1 ⟨po, e1, M1, ok1, f1, r1, p1⟩ => ?_⟩
  refine ⟨M1, e1, ok1, Post.mono (Post.bind (R1 := ROp (gx X Y)) shift_res p1) fun w H2 ⟨po2, e2, M2, ok2, f2, r2, p2⟩ => ?_⟩
  have p2' : Post (gx X Y) W (Res (gx X Y)) ⟨H2, M2, s, e2⟩ (fin2 f e2 (pk e2 po) (pk e2 po2)) _ := p2
  unfold fin2 at p2'
  have k1 := PkP.fr ok1 f2 rfl r1.pkP
  have k2 := r2.pkP
  cases q : pk e2 po with
  | none =>
    rw [q] at p2'
    exact p2'.elim
  | some d =>
    cases q2 : pk e2 po2 with
    | none =>
      rw [q, q2] at p2'
      exact p2'.elim
    | some d' =>
      rw [q, q2] at p2'
      dsimp only at p2'
      cases q3 : f d d' with
      | none =>
        rw [q3] at p2'
        exact p2'.elim
      | some pv =>
        rw [q3] at p2'
        exact ⟨⟨H2, M2, s, e2⟩, d, d', pv, rfl, ok2, PkP.pk ok2 k1 q, PkP.pk ok2 k2 q2, q3, post_any p2'⟩
/-- any expression that gives a truth value -/
theorem dt_val {W : WX} {x : Expr} {f : SE} (h : DenE X Y W x f) (he : ∀ whole, isTrue x X.env whole = (do let v ← whole; standAt x.pos; holding [v] (truthy v)) := by intro _; rfl) : DenT X Y W x (sT f) :=
  PT.weak (pt_val h he) fun s H Q ⟨M, e, ok, p⟩ => ⟨M, e, ok, rb_of p⟩
/-! ### is None -/
theorem isNone_v {G : GX} {S : SX} {v : V} {d : D} (h : Pk G S v d) : decide (v = .non) = isNone d := by
  rcases h with h | ⟨a, vs, ds, rfl, rfl, _⟩
  · cases h <;> rfl
  · rfl
theorem od_isN : OpR X (compareOp .Is) fun v w H Q => w = .non ∧ rD1 (gx X Y) aIsN v H Q := by
  intro pins s σ H v w vv ww Q I rv rw' h
  obtain ⟨rfl, S, d, p, rfl, ok, h1, ho, q⟩ := h
  cases ho
  refine op_isN pins s σ S.H v _ vv ww Q I rv rw' ⟨rfl, ?_⟩
  rw [isNone_v h1]
  exact end_dat ok q (.bl _)
theorem od_notN : OpR X (compareOp .IsNot) fun v w H Q => w = .non ∧ rD1 (gx X Y) aNotN v H Q := by
  intro pins s σ H v w vv ww Q I rv rw' h
  obtain ⟨rfl, S, d, p, rfl, ok, h1, ho, q⟩ := h
  cases ho
  refine op_notN pins s σ S.H v _ vv ww Q I rv rw' ⟨rfl, ?_⟩
  rw [isNone_v h1]
  exact end_dat ok q (.bl _)
theorem de_isN {W : WX} {a : Expr} {oa : Opd} {j p2 pos} (ha : DenO X Y W a oa) : DenE X Y W (.Compare a [.Is] [.Constant .none j p2] pos) (sOp1 aIsN oa) :=
  den_op1 (r := rD1 (gx X Y) aIsN) (PE.weak (pe_cmpR od_isN ha pe_non (nomark _)) fun s H Q ⟨M, e, ok, p⟩ => ⟨M, e, ok, Post.mono p fun v H1 z => ⟨rfl, z⟩⟩)
theorem de_notN {W : WX} {a : Expr} {oa : Opd} {j p2 pos} (ha : DenO X Y W a oa) : DenE X Y W (.Compare a [.IsNot] [.Constant .none j p2] pos) (sOp1 aNotN oa) :=
  den_op1 (r := rD1 (gx X Y) aNotN) (PE.weak (pe_cmpR od_notN ha pe_non (nomark _)) fun s H Q ⟨M, e, ok, p⟩ => ⟨M, e, ok, Post.mono p fun v H1 z => ⟨rfl, z⟩⟩)
theorem op1_post {W : WX} {oa : Opd} {op : D → Option PV} {s : L2.St} {H : Hp} {Q : VK} (h : tO (gx X Y) W (Res (gx X Y)) (sOp1 op oa) s H Q) : tO (gx X Y) W (ROp (gx X Y)) (opd oa) s H fun v H1 => rD1 (gx X Y) op v H1 Q := by
  obtain ⟨M, e, ok, p⟩ := h
  refine ⟨M, e, ok, Post.mono (Post.bind (R1 := ROp (gx X Y)) shift_res p) fun v H1 ⟨po, e1, M1, ok1, f1, r1, p1⟩ => ?_⟩
  have p1' : Post (gx X Y) W (Res (gx X Y)) ⟨H1, M1, s, e1⟩ (fin1 op e1 (pk e1 po)) Q := p1
  unfold fin1 at p1'
  cases q : pk e1 po with
  | none =>
    rw [q] at p1'
    exact p1'.elim
  | some d =>
    rw [q] at p1'
    dsimp only at p1'
    cases q2 : op d with
    | none =>
      rw [q2] at p1'
      exact p1'.elim
    | some pv =>
      rw [q2] at p1'
      exact ⟨⟨H1, M1, s, e1⟩, d, pv, rfl, ok1, PkP.pk ok1 r1.pkP q, q2, post_any p1'⟩
theorem dt_isN {W : WX} {a : Expr} {oa : Opd} {j p2 pos} (ha : DenO X Y W a oa) : DenT X Y W (.Compare a [.Is] [.Constant .none j p2] pos) (sT (sOp1 aIsN oa)) :=
  PT.weak (pt_cmpR od_isN ha pe_non (nomark _)) fun s H Q ⟨M, e, ok, p⟩ => by
    obtain ⟨M', e', ok', p'⟩ := op1_post (X := X) (Y := Y) (W := W) (oa := oa) (op := aIsN) ⟨M, e, ok, rb_of p⟩
    exact ⟨M', e', ok', Post.mono p' fun v H1 z => ⟨rfl, z⟩⟩
theorem dt_notN {W : WX} {a : Expr} {oa : Opd} {j p2 pos} (ha : DenO X Y W a oa) : DenT X Y W (.Compare a [.IsNot] [.Constant .none j p2] pos) (sT (sOp1 aNotN oa)) :=
  PT.weak (pt_cmpR od_notN ha pe_non (nomark _)) fun s H Q ⟨M, e, ok, p⟩ => by
    obtain ⟨M', e', ok', p'⟩ := op1_post (X := X) (Y := Y) (W := W) (oa := oa) (op := aNotN) ⟨M, e, ok, rb_of p⟩
    exact ⟨M', e', ok', Post.mono p' fun v H1 z => ⟨rfl, z⟩⟩
/-! ### a <= b <= c -/
def sCh (f g : D → D → Option PV) (a b c : Opd) : SE := fun e => (opd a e).bind fun pa e1 => (opd b e1).bind fun pb e2 => (fin2 f e2 (pk e2 pa) (pk e2 pb)).bind fun p e3 => match p with
  | .dat (.bool true) => (opd c e3).bind fun pc e4 => fin2 g e4 (pk e4 pb) (pk e4 pc)
  | .dat (.bool false) => .ok (.dat (.bool false)) e3
  | _ => .bad
theorem Post.eq_bind {α δ : Type} {G : GX} {W : WX} {R : SX → SX → δ → α → Prop} {S : SX} {o : Out α} {Q : δ → Hp → Prop} (h : Post G W R S o Q) : Post G W R S (o.bind fun p e => .ok p e) Q := by
  cases o <;> exact h
theorem fin2_cases {f : D → D → Option PV} {e : SEnv} {a b : Option D} {G : GX} {W : WX} {γ δ : Type} {R : SX → SX → δ → γ → Prop} {S : SX} {k : PV → SEnv → Out γ} {Q : δ → Hp → Prop} (h : Post G W R S ((fin2 f e a b).bind k) Q) : ∃ d d' p, a = some d ∧ b = some d' ∧ f d d' = some p ∧ Post G W R S (k p e) Q := by
  unfold fin2 at h
  cases a with
  | none => exact h.elim
  | some d =>
    cases b with
    | none => exact h.elim
    | some d' =>
      dsimp only at h
      cases q : f d d' with
      | none =>
        rw [q] at h
        exact h.elim
      | some p =>
        rw [q] at h
        exact ⟨d, d', p, rfl, rfl, q, h⟩
theorem de_chain {W : WX} {a b c : Expr} {oa ob oc : Opd} {op op' : CmpOp} {f g : D → D → Option PV} {pos : Pos} (ho : OpD X Y (compareOp op) f) (ho' : OpD X Y (compareOp op') g) (ha : DenO X Y W a oa) (hb : DenO X Y W b ob) (hc : DenO X Y W c oc)
    (hm : lastMarks [op, op'] [b, c] = false := by with_unfolding_all rfl) : DenE X Y W (.Compare a [op, op'] [b, c] pos) (sCh f g oa ob oc) := by
  refine PE.weak (pe_chain ho ho' ha hb hc hm) fun s H Q ⟨M, e, ok, p⟩ => ?_
  refine ⟨M, e, ok, Post.mono (Post.bind (R1 := ROp (gx X Y)) shift_res p) fun v H1 ⟨po, e1, M1, ok1, f1, r1, p1⟩ => ?_⟩
  refine ⟨M1, e1, ok1, Post.mono (Post.bind (R1 := ROp (gx X Y)) shift_res p1) fun w H2 ⟨po2, e2, M2, ok2, f2, r2, p2⟩ => ?_⟩
  obtain ⟨d, d', pv, q1, q2, q3, p3⟩ := fin2_cases p2
  have k1 := PkP.fr ok1 f2 rfl r1.pkP
  have k2 := r2.pkP
  refine ⟨⟨H2, M2, s, e2⟩, d, d', pv, rfl, ok2, PkP.pk ok2 k1 q1, PkP.pk ok2 k2 q2, q3, ?_⟩
  intro z H3 M3 ok3 f3 r3
  have p4 := Post.shift (S := ⟨H2, M2, s, e2⟩) (S1 := ⟨H3, M3, s, e2⟩) shift_res rfl f3 p3
  split at p4
  · cases (show Rep X.K H3 M3 z (.bool true) from r3.1)
    refine ⟨true, rfl, ?_⟩
    rw [if_pos rfl]
    refine ⟨M3, e2, ok3, Post.mono (Post.bind (R1 := ROp (gx X Y)) shift_res p4) fun w4 H4 ⟨po4, e4, M4, ok4, f4, r4, p5⟩ => ?_⟩
    have k3 := PkP.fr ok3 f4 rfl (PkP.fr ok2 f3 rfl k2)
    obtain ⟨d5, d6, pv6, q5, q6, q7, p6⟩ := fin2_cases (k := fun p e => .ok p e) (Post.eq_bind p5)
    exact ⟨⟨H4, M4, s, e4⟩, d5, d6, pv6, rfl, ok4, PkP.pk ok4 k3 q5, PkP.pk ok4 r4.pkP q6, q7, post_any p6⟩
  · cases (show Rep X.K H3 M3 z (.bool false) from r3.1)
    refine ⟨false, rfl, ?_⟩
    rw [if_neg Bool.false_ne_true]
    exact post_here ok3 p4 _ (res_dat (.bl _))
  · exact p4.elim
theorem dt_chain {W : WX} {a b c : Expr} {oa ob oc : Opd} {op op' : CmpOp} {f g : D → D → Option PV} {pos : Pos} (ho : OpD X Y (compareOp op) f) (ho' : OpD X Y (compareOp op') g) (ha : DenO X Y W a oa) (hb : DenO X Y W b ob) (hc : DenO X Y W c oc)
    (hm : lastMarks [op, op'] [b, c] = false := by with_unfolding_all rfl) : DenT X Y W (.Compare a [op, op'] [b, c] pos) (sT (sCh f g oa ob oc)) := by
  refine PT.weak (pt_chain ho ho' ha hb hc hm) fun s H Q ⟨M, e, ok, p0⟩ => ?_
  have p := rb_of p0
  refine ⟨M, e, ok, Post.mono (Post.bind (R1 := ROp (gx X Y)) shift_res p) fun v H1 ⟨po, e1, M1, ok1, f1, r1, p1⟩ => ?_⟩
  refine ⟨M1, e1, ok1, Post.mono (Post.bind (R1 := ROp (gx X Y)) shift_res p1) fun w H2 ⟨po2, e2, M2, ok2, f2, r2, p2⟩ => ?_⟩
  obtain ⟨d, d', pv, q1, q2, q3, p3⟩ := fin2_cases p2
  have k1 := PkP.fr ok1 f2 rfl r1.pkP
  have k2 := r2.pkP
  refine ⟨⟨H2, M2, s, e2⟩, d, d', pv, rfl, ok2, PkP.pk ok2 k1 q1, PkP.pk ok2 k2 q2, q3, ?_⟩
  intro z H3 M3 ok3 f3 r3
  have p4 := Post.shift (S := ⟨H2, M2, s, e2⟩) (S1 := ⟨H3, M3, s, e2⟩) shift_res rfl f3 p3
  split at p4
  · cases (show Rep X.K H3 M3 z (.bool true) from r3.1)
    refine ⟨true, rfl, ?_⟩
    rw [if_pos rfl]
    refine ⟨M3, e2, ok3, Post.mono (Post.bind (R1 := ROp (gx X Y)) shift_res p4) fun w4 H4 ⟨po4, e4, M4, ok4, f4, r4, p5⟩ => ?_⟩
    have k3 := PkP.fr ok3 f4 rfl (PkP.fr ok2 f3 rfl k2)
    obtain ⟨d5, d6, pv6, q5, q6, q7, p6⟩ := fin2_cases (k := fun p e => .ok p e) (Post.eq_bind p5)
    exact ⟨⟨H4, M4, s, e4⟩, d5, d6, pv6, rfl, ok4, PkP.pk ok4 k3 q5, PkP.pk ok4 r4.pkP q6, q7, post_any p6⟩
  · cases (show Rep X.K H3 M3 z (.bool false) from r3.1)
    refine ⟨false, rfl, ?_⟩
    rw [if_neg Bool.false_ne_true]
    exact post_here ok3 p4 _ (res_dat (.bl _))
  · exact p4.elim
end
end SM
namespace SM
open PySem PySem.Spec PyProof.Rows L2

/-! ## truth: and, or, not, if else -/
def sAndT (a b : ST) : ST := fun e => (a e).bind fun k e1 => if k then b e1 else .ok false e1
def sOrT (a b : ST) : ST := fun e => (a e).bind fun k e1 => if k then .ok true e1 else b e1
def sNotT (a : ST) : ST := fun e => (a e).bind fun k e1 => .ok (!k) e1
def DenW (X : Cx) (Y : GY) (W : WX) (x : Expr) (f : ST) : Prop := PW X x (tO (gx X Y) W (RB (gx X Y)) f)
theorem PW.weak {X : Cx} {x : Expr} {t t' : TT} (h : PW X x t) (k : ∀ s H Q, t' s H Q → t s H Q) : PW X x t' := ⟨fun w pins s σ H Q I q => h.run w pins s σ H Q I (k _ _ _ q)⟩
section
variable {X : Cx} {Y : GY} {W : WX}
theorem dw_pt {x : Expr} {f : ST} (h : DenW X Y W x f) : DenT X Y W x f := h.pt
theorem dw_and1 {a : Expr} {fa : ST} {pos : Pos} (ha : DenT X Y W a fa) : DenW X Y W (.BoolOp .And [a] pos) fa := pw_and1 ha
theorem dw_or1 {a : Expr} {fa : ST} {pos : Pos} (ha : DenT X Y W a fa) : DenW X Y W (.BoolOp .Or [a] pos) fa := pw_or1 ha
theorem dw_and {a b : Expr} {rest : List Expr} {fa fb : ST} {pos : Pos} (ha : DenT X Y W a fa) (hb : DenW X Y W (.BoolOp .And (b :: rest) pos) fb) : DenW X Y W (.BoolOp .And (a :: b :: rest) pos) (sAndT fa fb) := by
  refine PW.weak (pw_and ha hb) fun s H Q ⟨M, e, ok, p⟩ => ?_
  refine ⟨M, e, ok, Post.mono (Post.bind (R1 := RB (gx X Y)) shift_rb p) fun k H1 ⟨k', e1, M1, ok1, f1, r1, p1⟩ => ?_⟩
  obtain rfl : k = k' := r1
  cases k with
  | true => exact ⟨M1, e1, ok1, p1⟩
  | false => exact post_here ok1 p1 false rfl
theorem dw_or {a b : Expr} {rest : List Expr} {fa fb : ST} {pos : Pos} (ha : DenT X Y W a fa) (hb : DenW X Y W (.BoolOp .Or (b :: rest) pos) fb) : DenW X Y W (.BoolOp .Or (a :: b :: rest) pos) (sOrT fa fb) := by
  refine PW.weak (pw_or ha hb) fun s H Q ⟨M, e, ok, p⟩ => ?_
  refine ⟨M, e, ok, Post.mono (Post.bind (R1 := RB (gx X Y)) shift_rb p) fun k H1 ⟨k', e1, M1, ok1, f1, r1, p1⟩ => ?_⟩
  obtain rfl : k = k' := r1
  cases k with
  | true => exact post_here ok1 p1 true rfl
  | false => exact ⟨M1, e1, ok1, p1⟩
theorem dt_not {a : Expr} {fa : ST} {pos : Pos} (ha : DenT X Y W a fa) : DenT X Y W (.UnaryOp .Not a pos) (sNotT fa) := by
  refine PT.weak (pt_not ha) fun s H Q ⟨M, e, ok, p⟩ => ?_
  refine ⟨M, e, ok, Post.mono (Post.bind (R1 := RB (gx X Y)) shift_rb p) fun k H1 ⟨k', e1, M1, ok1, f1, r1, p1⟩ => ?_⟩
  obtain rfl : k = k' := r1
  exact post_here ok1 p1 _ rfl
/-! ### as values -/
def sAndV (a b : SE) : SE := fun e => (a e).bind fun p e1 => match p with
  | .dat (.bool true) => b e1
  | .dat (.bool false) => .ok (.dat (.bool false)) e1
  | _ => .bad
def sOrV (a b : SE) : SE := fun e => (a e).bind fun p e1 => match p with
  | .dat (.bool true) => .ok (.dat (.bool true)) e1
  | .dat (.bool false) => b e1
  | _ => .bad
def sNotV (a : SE) : SE := fun e => (a e).bind fun p e1 => match p with
  | .dat (.bool k) => .ok (.dat (.bool (!k))) e1
  | _ => .bad
theorem de_one {op} {a : Expr} {fa : SE} {pos : Pos} (ha : DenE X Y W a fa) : DenE X Y W (.BoolOp op [a] pos) fa := pe_one ha
theorem de_and {a b : Expr} {rest : List Expr} {fa fb : SE} {pos : Pos} (ha : DenE X Y W a fa) (hb : DenE X Y W (.BoolOp .And (b :: rest) pos) fb) : DenE X Y W (.BoolOp .And (a :: b :: rest) pos) (sAndV fa fb) := by
  refine PE.weak (pe_and ha hb) fun s H Q ⟨M, e, ok, p⟩ => ?_
  refine ⟨M, e, ok, Post.mono (Post.bind (R1 := Res (gx X Y)) shift_res p) fun v H1 ⟨k', e1, M1, ok1, f1, r1, p1⟩ => ?_⟩
  split at p1
  · cases (show Rep X.K H1 M1 v (.bool true) from r1.1)
    exact ⟨true, rfl, by rw [if_pos rfl]; exact ⟨M1, e1, ok1, p1⟩⟩
  · cases (show Rep X.K H1 M1 v (.bool false) from r1.1)
    exact ⟨false, rfl, by rw [if_neg Bool.false_ne_true]; exact post_here ok1 p1 _ (res_dat (.bl _))⟩
  · exact p1.elim
theorem de_or {a b : Expr} {rest : List Expr} {fa fb : SE} {pos : Pos} (ha : DenE X Y W a fa) (hb : DenE X Y W (.BoolOp .Or (b :: rest) pos) fb) : DenE X Y W (.BoolOp .Or (a :: b :: rest) pos) (sOrV fa fb) := by
  refine PE.weak (pe_or ha hb) fun s H Q ⟨M, e, ok, p⟩ => ?_
  refine ⟨M, e, ok, Post.mono (Post.bind (R1 := Res (gx X Y)) shift_res p) fun v H1 ⟨k', e1, M1, ok1, f1, r1, p1⟩ => ?_⟩
  split at p1
  · cases (show Rep X.K H1 M1 v (.bool true) from r1.1)
    exact ⟨true, rfl, by rw [if_pos rfl]; exact post_here ok1 p1 _ (res_dat (.bl _))⟩
  · cases (show Rep X.K H1 M1 v (.bool false) from r1.1)
    exact ⟨false, rfl, by rw [if_neg Bool.false_ne_true]; exact ⟨M1, e1, ok1, p1⟩⟩
  · exact p1.elim
theorem de_not {a : Expr} {fa : SE} {pos : Pos} (ha : DenE X Y W a fa) : DenE X Y W (.UnaryOp .Not a pos) (sNotV fa) := by
  refine PE.weak (pe_not ha) fun s H Q ⟨M, e, ok, p⟩ => ?_
  refine ⟨M, e, ok, Post.mono (Post.bind (R1 := Res (gx X Y)) shift_res p) fun v H1 ⟨k', e1, M1, ok1, f1, r1, p1⟩ => ?_⟩
  split at p1
  · rename_i k
    cases (show Rep X.K H1 M1 v (.bool k) from r1.1)
    exact ⟨k, rfl, post_here ok1 p1 _ (res_dat (.bl _))⟩
  · exact p1.elim
def sIf (c : ST) (a b : SE) : SE := fun e => (c e).bind fun k e1 => if k then a e1 else b e1
theorem de_if {c a b : Expr} {fc : ST} {fa fb : SE} {pos : Pos} (hc : DenT X Y W c fc) (ha : DenE X Y W a fa) (hb : DenE X Y W b fb) : DenE X Y W (.IfExp c a b pos) (sIf fc fa fb) := by
  refine PE.weak (pe_ifExp hc ha hb) fun s H Q ⟨M, e, ok, p⟩ => ?_
  refine ⟨M, e, ok, Post.mono (Post.bind (R1 := RB (gx X Y)) shift_res p) fun k H1 ⟨k', e1, M1, ok1, f1, r1, p1⟩ => ?_⟩
  obtain rfl : k = k' := r1
  cases k with
  | true => exact ⟨M1, e1, ok1, p1⟩
  | false => exact ⟨M1, e1, ok1, p1⟩
/-! ## lists of one's own that are given away -/
theorem SOk.unmark {G : GX} {S S' : SX} (ok : SOk G S') (f : Fr G S S') {a : Addr} {vs : List V} {ds : List D} (h : S'.H a = some (.lst vs)) (r : RepAll G.K S'.H S'.M vs ds) (n : ¬ OwnA S' a) (old : Gone S.H a ∨ OwnA S a) :
    SOk G ⟨S'.H, fun b => S'.M b ∧ b ≠ a, S'.s, S'.e⟩ ∧ Fr G S ⟨S'.H, fun b => S'.M b ∧ b ≠ a, S'.s, S'.e⟩ ∧ Rep G.K S'.H (fun b => S'.M b ∧ b ≠ a) (.ref a) (.list ds) := by
  have c : Carry S'.H S'.H S'.M (fun b => S'.M b ∧ b ≠ a) := ⟨fun _ _ h _ _ => h, fun _ _ _ n _ z => n z.1⟩
  refine ⟨⟨ok.len, fun i p hi => ?_, ok.apart, fun b z => ok.trk b z.1, ok.tabs.same c⟩, ⟨f.keep, f.there, fun b o hb t mb nb => ⟨f.mkeep b o hb t mb nb, fun z => ?_⟩, fun b z => f.mnew b z.1, f.own, f.fix⟩, .lst h (fun z => z.2 rfl) (r.carry c)⟩
  · obtain ⟨v, hv, rp⟩ := ok.slot i p hi
    exact ⟨v, hv, PRep.carry c (fun es b xs ep ev m hh => ⟨hh, m, fun z => n ⟨i, es, by rw [← ep]; exact hi, by rw [← z, ← ev]; exact hv⟩⟩) rp⟩
  · subst z
    rcases old with q | q
    · exact q.no hb t
    · exact nb q
def frzK (p : PV) (e : SEnv) : Out PV := match p with
  | .own ds => .ok (.dat (.list ds)) e
  | .dat d => .ok (.dat d) e
  | _ => .bad
def sFrz (f : SE) : SE := fun e => (f e).bind frzK
theorem de_frz {x : Expr} {f : SE} (h : DenE X Y W x f) : DenE X Y W x (sFrz f) := by
  refine PE.weak h fun s H Q ⟨M, e, ok, p⟩ => ?_
  refine ⟨M, e, ok, ?_⟩
  unfold sFrz at p
  cases q : f e with
  | ok a e1 =>
    rw [q] at p
    intro v H' M' ok' f' r'
    have p' : Post (gx X Y) W (Res (gx X Y)) ⟨H, M, s, e⟩ (frzK a e1) Q := p
    cases a with
    | dat d => exact p' v H' M' ok' f' r'
    | own ds =>
      obtain ⟨a, vs, ev, m, hh, r⟩ := r'.1
      obtain ⟨n, old⟩ := r'.2 ds a rfl ev
      subst ev
      obtain ⟨ok2, f2, r2⟩ := ok'.unmark f' hh r n old
      exact p' _ H' _ ok2 f2 (res_dat r2)
    | clo => exact p'.elim
    | exn x => exact p'.elim
    | scr ns => exact p'.elim
  | exc x e1 =>
    rw [q] at p
    exact p
  | bad =>
    rw [q] at p
    exact p
/-! ## several operands -/
def opds : List Opd → SEnv → Out (List PO)
  | [], e => .ok [] e
  | o :: r, e => (opd o e).bind fun p e1 => (opds r e1).bind fun ps e2 => .ok (p :: ps) e2
inductive PkAll (G : GX) (S : SX) : List V → List PO → Prop
  | nil : PkAll G S [] []
  | cons {v : V} {vs : List V} {p : PO} {ps : List PO} : PkP G S v p → PkAll G S vs ps → PkAll G S (v :: vs) (p :: ps)
def RAs (G : GX) (S S' : SX) (vs : List V) (ps : List PO) : Prop := PkAll G S' vs ps
theorem shift_ras {G : GX} : Shift G (RAs G) := fun _ _ _ _ _ _ r => r
def DenA (X : Cx) (Y : GY) (W : WX) (xs : List Expr) (os : List Opd) : Prop := PA X xs (tO (gx X Y) W (RAs (gx X Y)) (opds os))
theorem da_nil : DenA X Y W [] [] := PA.weak pa_nil fun s H Q ⟨M, e, ok, p⟩ => post_here ok p [] .nil
theorem da_cons {x : Expr} {xs : List Expr} {o : Opd} {os : List Opd} (h : DenO X Y W x o) (hs : DenA X Y W xs os) (he : starEach (x :: xs) X.env = (false, eval x X.env) :: starEach xs X.env := by rfl) : DenA X Y W (x :: xs) (o :: os) := by
  refine PA.weak (pa_cons h hs he) fun s H Q ⟨M, e, ok, p⟩ => ?_
  refine ⟨M, e, ok, Post.mono (Post.bind (R1 := ROp (gx X Y)) shift_ras p) fun v H1 ⟨po, e1, M1, ok1, f1, r1, p1⟩ => ?_⟩
  refine ⟨M1, e1, ok1, Post.mono (Post.bind (R1 := RAs (gx X Y)) shift_ras p1) fun vs H2 ⟨ps, e2, M2, ok2, f2, r2, p2⟩ => ?_⟩
  exact post_here ok2 p2 (v :: vs) (.cons (PkP.fr ok1 f2 rfl r1.pkP) r2)
/-! ### displays -/
def datP : PO → Option D
  | .val (.dat d) => some d
  | _ => none
def datAll : List PO → Option (List D)
  | [] => some []
  | p :: ps => match datP p, datAll ps with
    | some d, some ds => some (d :: ds)
    | _, _ => none
theorem datP_rep {G : GX} {S : SX} {v : V} {p : PO} {d : D} (h : PkP G S v p) (e : datP p = some d) : Rep G.K S.H S.M v d := by
  unfold datP at e
  split at e
  · cases e
    exact h.1
  · cases e
theorem datAll_rep {G : GX} {S : SX} : ∀ {vs : List V} {ps : List PO} {ds : List D}, PkAll G S vs ps → datAll ps = some ds → RepAll G.K S.H S.M vs ds
  | _, _, _, .nil, e => by
    cases e
    exact .nil
  | _, _, _, .cons h r, e => by
    unfold datAll at e
    split at e
    · rename_i d ds e1 e2
      cases e
      exact .cons (datP_rep h e1) (datAll_rep r e2)
    · cases e
def finT (e : SEnv) : Option (List D) → Out PV
  | some ds => if ds.length ≤ LIM then .ok (.dat (.tuple ds)) e else .bad
  | none => .bad
def finL (e : SEnv) : Option (List D) → Out PV
  | some ds => if ds.length ≤ LIM then .ok (.own ds) e else .bad
  | none => .bad
def sTup (os : List Opd) : SE := fun e => (opds os e).bind fun ps e1 => finT e1 (datAll ps)
def sLst (os : List Opd) : SE := fun e => (opds os e).bind fun ps e1 => finL e1 (datAll ps)
theorem de_tup {xs : List Expr} {os : List Opd} {k pos} (h : DenA X Y W xs os) : DenE X Y W (.Tuple xs k pos) (sTup os) := by
  refine PE.weak (pe_tup h) fun s H Q ⟨M, e, ok, p⟩ => ?_
  refine ⟨M, e, ok, Post.mono (Post.bind (R1 := RAs (gx X Y)) shift_res p) fun vs H1 ⟨ps, e1, M1, ok1, f1, r1, p1⟩ => ?_⟩
  cases q : datAll ps with
  | none =>
    rw [q] at p1
    exact p1.elim
  | some ds =>
    rw [q] at p1
    have ra := datAll_rep r1 q
    unfold finT at p1
    dsimp only at p1
    split at p1
    · rename_i hl
      refine ⟨by rw [ra.length, line_eq]; exact hl, fun pp hp => end_tup ok1 p1 ra hp⟩
    · exact p1.elim
theorem de_lst {xs : List Expr} {os : List Opd} {pos} (h : DenA X Y W xs os) : DenE X Y W (.List xs pos) (sLst os) := by
  refine PE.weak (pe_lst h) fun s H Q ⟨M, e, ok, p⟩ => ?_
  refine ⟨M, e, ok, Post.mono (Post.bind (R1 := RAs (gx X Y)) shift_res p) fun vs H1 ⟨ps, e1, M1, ok1, f1, r1, p1⟩ => ?_⟩
  cases q : datAll ps with
  | none =>
    rw [q] at p1
    exact p1.elim
  | some ds =>
    rw [q] at p1
    have ra := datAll_rep r1 q
    unfold finL at p1
    dsimp only at p1
    split at p1
    · rename_i hl
      refine ⟨by rw [ra.length, line_eq]; exact hl, fun pp hp => end_lst ok1 p1 ra hp⟩
    · exact p1.elim
/-! ### calls of what is built in -/
inductive PkL (G : GX) (S : SX) : List V → List D → Prop
  | nil : PkL G S [] []
  | cons {v : V} {vs : List V} {d : D} {ds : List D} : Pk G S v d → PkL G S vs ds → PkL G S (v :: vs) (d :: ds)
def pks (e : SEnv) : List PO → Option (List D)
  | [] => some []
  | p :: ps => match pk e p, pks e ps with
    | some d, some ds => some (d :: ds)
    | _, _ => none
theorem pks_rep {G : GX} {S : SX} (ok : SOk G S) : ∀ {vs : List V} {ps : List PO} {ds : List D}, PkAll G S vs ps → pks S.e ps = some ds → PkL G S vs ds
  | _, _, _, .nil, e => by
    cases e
    exact .nil
  | _, _, _, .cons h r, e => by
    unfold pks at e
    split at e
    · rename_i d ds e1 e2
      cases e
      exact .cons (PkP.pk ok h e1) (pks_rep ok r e2)
    · cases e
def finN (op : List D → Option PV) (e : SEnv) : Option (List D) → Out PV
  | some ds => match op ds with
    | some p => .ok p e
    | none => .bad
  | none => .bad
def sFn (op : List D → Option PV) (os : List Opd) : SE := fun e => (opds os e).bind fun ps e1 => finN op e1 (pks e1 ps)
def rDN (G : GX) (op : List D → Option PV) : List V → Hp → VK → Prop := fun vs H Q => ∃ (S : SX) (ds : List D) (p : PV), S.H = H ∧ SOk G S ∧ PkL G S vs ds ∧ op ds = some p ∧ Post G (fun _ _ _ _ => False) (Res G) S (.ok p S.e) Q
abbrev FnD (X : Cx) (Y : GY) (f : Value) (op : List D → Option PV) : Prop := CallR X f (rDN (gx X Y) op)
theorem fn_post {os : List Opd} {op : List D → Option PV} {s : L2.St} {H : Hp} {Q : VK} (h : tO (gx X Y) W (Res (gx X Y)) (sFn op os) s H Q) : tO (gx X Y) W (RAs (gx X Y)) (opds os) s H fun vs H1 => rDN (gx X Y) op vs H1 Q := by
  obtain ⟨M, e, ok, p⟩ := h
  refine ⟨M, e, ok, Post.mono (Post.bind (R1 := RAs (gx X Y)) shift_res p) fun vs H1 ⟨ps, e1, M1, ok1, f1, r1, p1⟩ => ?_⟩
  cases q : pks e1 ps with
  | none =>
    rw [q] at p1
    exact p1.elim
  | some ds =>
    rw [q] at p1
    unfold finN at p1
    dsimp only at p1
    cases q2 : op ds with
    | none =>
      rw [q2] at p1
      exact p1.elim
    | some pv =>
      rw [q2] at p1
      exact ⟨⟨H1, M1, s, e1⟩, ds, pv, rfl, ok1, pks_rep (S := ⟨H1, M1, s, e1⟩) ok1 r1 q, q2, post_any p1⟩
theorem de_callB {x : Str} {id : String} {a : Expr} {as : List Expr} {os : List Opd} {op : List D → Option PV} {p pos : Pos} (hc : FnD X Y (.builtin id) op) (hm : X.mg x = none) (hv : bootBuiltins x = some (.builtin id)) (ha : DenA X Y W (a :: as) os) (hg : Gl X x := by rfl) (hn : x ≠ "__name__" := by decide) (hdb : (x == ("__debug__" : Str)) = false := by decide)
    (he : starEach (a :: as) X.env = (false, eval a X.env) :: starEach as X.env := by rfl) (hpl : (backTo pos (starEach as X.env)).any (·.1) = false := by rfl) : DenE X Y W (.Call (.Name x p) (a :: as) [] pos) (sFn op os) :=
  PE.weak (pe_callB hc hg hm hv ha hn hdb he hpl) fun s H Q h => fn_post h
theorem de_callTy {x : Str} {T : String} {a : Expr} {as : List Expr} {os : List Opd} {op : List D → Option PV} {p pos : Pos} (hc : FnD X Y (.type T) op) (hm : X.mg x = none) (hv : bootBuiltins x = some (.type T)) (ha : DenA X Y W (a :: as) os) (hg : Gl X x := by rfl) (hn : x ≠ "__name__" := by decide) (hdb : (x == ("__debug__" : Str)) = false := by decide)
    (he : starEach (a :: as) X.env = (false, eval a X.env) :: starEach as X.env := by rfl) (hpl : (backTo pos (starEach as X.env)).any (·.1) = false := by rfl) : DenE X Y W (.Call (.Name x p) (a :: as) [] pos) (sFn op os) :=
  PE.weak (pe_callTy hc hg hm hv ha hn hdb he hpl) fun s H Q h => fn_post h
end
end SM
namespace SM
open PySem PySem.Spec PyProof.Rows L2

/-! ## what is built in -/
theorem PkL.one {G : GX} {S : SX} {vs : List V} {d : D} (h : PkL G S vs [d]) : ∃ v, vs = [v] ∧ Pk G S v d := by
  cases h with
  | cons h r =>
    cases r
    exact ⟨_, rfl, h⟩
theorem PkL.two {G : GX} {S : SX} {vs : List V} {d e : D} (h : PkL G S vs [d, e]) : ∃ v w, vs = [v, w] ∧ Pk G S v d ∧ Pk G S w e := by
  cases h with
  | cons h r =>
    obtain ⟨w, rfl, h2⟩ := r.one
    exact ⟨_, _, rfl, h, h2⟩
def aLen : List D → Option PV
  | [.str x] => if x.length ≤ LIM then some (.dat (.int x.length)) else none
  | [.list ds] => some (.dat (.int ds.length))
  | [.tuple ds] => some (.dat (.int ds.length))
  | _ => none
def aAbs : List D → Option PV
  | [.int i] => some (.dat (.int (if i < 0 then -i else i)))
  | _ => none
def aInt : List D → Option PV
  | [.int i] => some (.dat (.int i))
  | [.bool b] => some (.dat (.int (if b then 1 else 0)))
  | _ => none
def aList : List D → Option PV
  | [.list ds] => some (.own ds)
  | [.tuple ds] => some (.own ds)
  | _ => none
def sgnD (x : Str) : List D := x.cps.toList.map fun c => .str ⟨#[c]⟩
def aTuple : List D → Option PV
  | [.list ds] => some (.dat (.tuple ds))
  | [.tuple ds] => some (.dat (.tuple ds))
  | [.str x] => if x.length ≤ LIM then some (.dat (.tuple (sgnD x))) else none
  | _ => none
def blsOf : List D → Option (List Bool)
  | [] => some []
  | .bool b :: r => (blsOf r).map (b :: ·)
  | _ => none
def intsOf : List D → Option (List Int)
  | [] => some []
  | .int b :: r => (intsOf r).map (b :: ·)
  | _ => none
def strsOf : List D → Option (List Str)
  | [] => some []
  | .str b :: r => (strsOf r).map (b :: ·)
  | _ => none
def aAll : List D → Option PV
  | [.list ds] => (blsOf ds).map fun bs => .dat (.bool (bs.all id))
  | _ => none
def aAny : List D → Option PV
  | [.list ds] => (blsOf ds).map fun bs => .dat (.bool (bs.any id))
  | _ => none
def aSum : List D → Option PV
  | [.list ds] => (intsOf ds).map fun ns => .dat (.int ns.sum)
  | _ => none
def maxOf : List Int → Option Int
  | [] => none
  | [a] => some a
  | a :: r => (maxOf r).map fun m => if a < m then m else a
def minOf : List Int → Option Int
  | [] => none
  | [a] => some a
  | a :: r => (minOf r).map fun m => if m < a then m else a
def aMax : List D → Option PV
  | [.list ds] => (intsOf ds).bind fun ns => (maxOf ns).map fun m => .dat (.int m)
  | [.int i, .int j] => some (.dat (.int (if j > i then j else i)))
  | _ => none
def aMin : List D → Option PV
  | [.list ds] => (intsOf ds).bind fun ns => (minOf ns).map fun m => .dat (.int m)
  | [.int i, .int j] => some (.dat (.int (if j < i then j else i)))
  | _ => none
def aStr : List D → Option PV
  | [.int i] => if i.natAbs.log2 < 1920 then some (.dat (.str (toString i))) else none
  | _ => none
theorem bls_rep {G : GX} {H : Hp} {M : Addr → Prop} : ∀ {vs : List V} {ds : List D} {bs : List Bool}, RepAll G.K H M vs ds → blsOf ds = some bs → vs = bs.map V.bl
  | _, _, _, .nil, e => by
    cases e
    rfl
  | _, _, _, .cons h r, e => by
    unfold blsOf at e
    split at e
    · cases ‹_ = []›
    · rename_i b rr heq
      cases heq
      obtain ⟨cs, h1, rfl⟩ := Option.map_eq_some_iff.mp e
      cases h
      rw [bls_rep r h1]
      rfl
    · cases e
theorem ints_rep {G : GX} {H : Hp} {M : Addr → Prop} : ∀ {vs : List V} {ds : List D} {bs : List Int}, RepAll G.K H M vs ds → intsOf ds = some bs → vs = bs.map V.int
  | _, _, _, .nil, e => by
    cases e
    rfl
  | _, _, _, .cons h r, e => by
    unfold intsOf at e
    split at e
    · cases ‹_ = []›
    · rename_i b rr heq
      cases heq
      obtain ⟨cs, h1, rfl⟩ := Option.map_eq_some_iff.mp e
      cases h
      rw [ints_rep r h1]
      rfl
    · cases e
theorem strs_rep {G : GX} {H : Hp} {M : Addr → Prop} : ∀ {vs : List V} {ds : List D} {bs : List Str}, RepAll G.K H M vs ds → strsOf ds = some bs → vs = bs.map V.str
  | _, _, _, .nil, e => by
    cases e
    rfl
  | _, _, _, .cons h r, e => by
    unfold strsOf at e
    split at e
    · cases ‹_ = []›
    · rename_i b rr heq
      cases heq
      obtain ⟨cs, h1, rfl⟩ := Option.map_eq_some_iff.mp e
      cases h
      rw [strs_rep r h1]
      rfl
    · cases e
theorem maxOf_spec : ∀ {ns : List Int} {m : Int}, maxOf ns = some m → m ∈ ns ∧ ∀ y ∈ ns, y ≤ m
  | [], _, e => by cases e
  | [a], m, e => by
    cases e
    simp
  | a :: b :: r, m, e => by
    have e' : (maxOf (b :: r)).map (fun m => if a < m then m else a) = some m := e
    obtain ⟨k, h1, h2⟩ := Option.map_eq_some_iff.mp e'
    obtain ⟨i1, i2⟩ := maxOf_spec h1
    split at h2
    · subst h2
      refine ⟨.tail _ i1, fun y hy => ?_⟩
      rcases List.mem_cons.mp hy with rfl | hy
      · omega
      · exact i2 y hy
    · subst h2
      refine ⟨List.mem_cons_self, fun y hy => ?_⟩
      rcases List.mem_cons.mp hy with rfl | hy
      · omega
      · have := i2 y hy
        omega
theorem minOf_spec : ∀ {ns : List Int} {m : Int}, minOf ns = some m → m ∈ ns ∧ ∀ y ∈ ns, m ≤ y
  | [], _, e => by cases e
  | [a], m, e => by
    cases e
    simp
  | a :: b :: r, m, e => by
    have e' : (minOf (b :: r)).map (fun m => if m < a then m else a) = some m := e
    obtain ⟨k, h1, h2⟩ := Option.map_eq_some_iff.mp e'
    obtain ⟨i1, i2⟩ := minOf_spec h1
    split at h2
    · subst h2
      refine ⟨.tail _ i1, fun y hy => ?_⟩
      rcases List.mem_cons.mp hy with rfl | hy
      · omega
      · exact i2 y hy
    · subst h2
      refine ⟨List.mem_cons_self, fun y hy => ?_⟩
      rcases List.mem_cons.mp hy with rfl | hy
      · omega
      · have := i2 y hy
        omega
section
variable {X : Cx} {Y : GY}
theorem fd_len : FnD X Y (.builtin "len") aLen := by
  intro pins s σ H vs us Q I rv h
  obtain ⟨S, ds, p, rfl, ok, hl, ho, q⟩ := h
  unfold aLen at ho
  split at ho
  · split at ho
    · rename_i x hx
      cases ho
      obtain ⟨v, rfl, h1⟩ := hl.one
      exact call_len pins s σ S.H _ us Q I rv ⟨v, _, rfl, by rw [h1.str]; exact ⟨by rw [line_eq]; exact hx, rfl⟩, end_dat ok q (.int _)⟩
    · cases ho
  · cases ho
    obtain ⟨v, rfl, h1⟩ := hl.one
    obtain ⟨a, xs, rfl, ha, ra⟩ := h1.list
    exact call_len pins s σ S.H _ us Q I rv ⟨_, _, rfl, .inl ⟨xs, SqL.of ha, rfl⟩, by rw [ra.length]; exact end_dat ok q (.int _)⟩
  · cases ho
    obtain ⟨v, rfl, h1⟩ := hl.one
    obtain ⟨a, xs, rfl, ha, ra⟩ := h1.tup
    exact call_len pins s σ S.H _ us Q I rv ⟨_, _, rfl, .inr ⟨xs, ha.sq, rfl⟩, by rw [ra.length]; exact end_dat ok q (.int _)⟩
  · cases ho
theorem fd_abs : FnD X Y (.builtin "abs") aAbs := by
  intro pins s σ H vs us Q I rv h
  obtain ⟨S, ds, p, rfl, ok, hl, ho, q⟩ := h
  unfold aAbs at ho
  split at ho
  · cases ho
    obtain ⟨v, rfl, h1⟩ := hl.one
    exact call_abs pins s σ S.H _ us Q I rv ⟨_, by rw [h1.int], end_dat ok q (.int _)⟩
  · cases ho
theorem fd_int : FnD X Y (.type "int") aInt := by
  intro pins s σ H vs us Q I rv h
  obtain ⟨S, ds, p, rfl, ok, hl, ho, q⟩ := h
  unfold aInt at ho
  split at ho
  · cases ho
    obtain ⟨v, rfl, h1⟩ := hl.one
    exact call_int1 pins s σ S.H _ us Q I rv (.inl ⟨_, by rw [h1.int], end_dat ok q (.int _)⟩)
  · cases ho
    obtain ⟨v, rfl, h1⟩ := hl.one
    exact call_int1 pins s σ S.H _ us Q I rv (.inr ⟨_, by rw [h1.bl], end_dat ok q (.int _)⟩)
  · cases ho
theorem fd_str : FnD X Y (.type "str") aStr := by
  intro pins s σ H vs us Q I rv h
  obtain ⟨S, ds, p, rfl, ok, hl, ho, q⟩ := h
  unfold aStr at ho
  split at ho
  · split at ho
    · rename_i hi
      cases ho
      obtain ⟨v, rfl, h1⟩ := hl.one
      exact call_str_int pins s σ S.H _ us Q I rv ⟨_, by rw [h1.int], hi, end_dat ok q (.str _)⟩
    · cases ho
  · cases ho
theorem fd_list : FnD X Y (.type "list") aList := by
  intro pins s σ H vs us Q I rv h
  obtain ⟨S, ds, p, rfl, ok, hl, ho, q⟩ := h
  unfold aList at ho
  split at ho
  · cases ho
    obtain ⟨v, rfl, h1⟩ := hl.one
    obtain ⟨a, xs, rfl, ha, ra⟩ := h1.list
    exact call_list_of pins s σ S.H _ us Q I rv ⟨a, xs, rfl, .inl (SqL.of ha), fun l hp => end_lst ok q ra hp⟩
  · cases ho
    obtain ⟨v, rfl, h1⟩ := hl.one
    obtain ⟨a, xs, rfl, ha, ra⟩ := h1.tup
    exact call_list_of pins s σ S.H _ us Q I rv ⟨a, xs, rfl, .inr ha.sq, fun l hp => end_lst ok q ra hp⟩
  · cases ho
theorem sgn_rep {K : PySem.W.Frag} {H : Hp} {M : Addr → Prop} : ∀ l : List Nat, RepAll K H M (l.map fun c => V.str ⟨#[c]⟩) (l.map fun c => (PyData.str ⟨#[c]⟩ : D))
  | [] => .nil
  | c :: r => .cons (.str _) (sgn_rep r)
theorem vals_sgn {x : Str} {acc : Array Value} (h : ItemsOf (SignAt x) acc x.cps.size) : Vals (x.cps.toList.map fun c => V.str ⟨#[c]⟩) acc.toList := by
  obtain ⟨h1, h2⟩ := h
  have go : ∀ (l : List Nat) (us : List Value), l.length = us.length → (∀ (i : Nat) (u : Value), us[i]? = some u → ∃ c t, l[i]? = some c ∧ u = .str ⟨#[c]⟩ t) → Vals (l.map fun c => V.str ⟨#[c]⟩) us := by
    intro l
    induction l with
    | nil =>
      intro us hl _
      cases us with
      | nil => exact .nil
      | cons _ _ => cases hl
    | cons c r ih =>
      intro us hl hu
      cases us with
      | nil => cases hl
      | cons u us =>
        obtain ⟨c', t, e1, e2⟩ := hu 0 u rfl
        cases e1
        exact .cons ⟨t, e2⟩ (ih us (by simpa using hl) fun i w hw => hu (i + 1) w hw)
  refine go _ _ ?_ fun i u hu => ?_
  · rw [Array.length_toList, Array.length_toList]
    exact h1.symm
  · have hi : i < acc.size := by
      have := (List.getElem?_eq_some_iff.mp hu).1
      rwa [Array.length_toList] at this
    have hs : acc[i]? = some u := by
      rw [← Array.getElem?_toList]
      exact hu
    obtain ⟨c, t, e3, e4⟩ := h2 i u hs
    exact ⟨c, t, by rw [Array.getElem?_toList]; exact e3, e4⟩
theorem fd_tuple (hc : X.calm = true) : FnD X Y (.type "tuple") aTuple := by
  intro pins s σ H vs us Q I rv h
  obtain ⟨S, ds, p, rfl, ok, hl, ho, q⟩ := h
  unfold aTuple at ho
  split at ho
  · cases ho
    obtain ⟨v, rfl, h1⟩ := hl.one
    obtain ⟨a, xs, rfl, ha, ra⟩ := h1.list
    exact call_tuple_of pins s σ S.H _ us Q I rv ⟨a, xs, rfl, .inl ⟨SqL.of ha, fun l hp => end_tup ok q ra hp⟩⟩
  · cases ho
    obtain ⟨v, rfl, h1⟩ := hl.one
    obtain ⟨a, xs, rfl, ha, ra⟩ := h1.tup
    exact call_tuple_of pins s σ S.H _ us Q I rv ⟨a, xs, rfl, .inr ⟨ha.sq, end_dat ok q (.tup ha ra)⟩⟩
  · split at ho
    · rename_i x hx
      cases ho
      obtain ⟨v, rfl, h1⟩ := hl.one
      have e1 := h1.str
      subst e1
      obtain ⟨u, rfl, t, rfl⟩ := vals1 rv
      refine call_tuple_str (I.ok.hd hc) x t (fun h' tk acc hk hacc => ?_) (by rw [line_eq]; exact hx)
      have I1 : Inv X pins σ S.H { s with heap := h' } := I.kept (t' := s.toks) hk
      have vr := vals_sgn hacc
      have I2 : Inv X pins σ (upd S.H h'.objs.size (.tup (x.cps.toList.map fun c => V.str ⟨#[c]⟩))) { s with heap := h'.push { cls := .type "tuple", data := .seq acc }, toks := tk } := by
        refine I1.laid (t' := tk) (fun b o e => Heap.get?_push_of_some _ e) (Nat.le_refl _) ?_
        refine ⟨by rw [List.length_map, Array.length_toList, line_eq]; exact hx, acc.toList, vr, ?_⟩
        have z : acc.toList.toArray = acc := by simp
        rw [z]
        exact IsTup.new _ _
      exact ⟨.ref h'.objs.size, _, I2, rfl, end_tup ok q (sgn_rep _) (I1.hok.fresh (Nat.le_refl _))⟩
    · cases ho
  · cases ho
theorem fd_all (hc : X.calm = true) : FnD X Y (.builtin "all") aAll := by
  intro pins s σ H vs us Q I rv h
  obtain ⟨S, ds, p, rfl, ok, hl, ho, q⟩ := h
  unfold aAll at ho
  split at ho
  · obtain ⟨bs, hb, rfl⟩ := Option.map_eq_some_iff.mp ho
    obtain ⟨v, rfl, h1⟩ := hl.one
    obtain ⟨a, xs, rfl, ha, ra⟩ := h1.list
    exact cr_all hc pins s σ S.H _ us Q I rv ⟨a, bs, rfl, by rw [← bls_rep (G := gx X Y) ra hb]; exact SqL.of ha, end_dat ok q (.bl _)⟩
  · cases ho
theorem fd_any (hc : X.calm = true) : FnD X Y (.builtin "any") aAny := by
  intro pins s σ H vs us Q I rv h
  obtain ⟨S, ds, p, rfl, ok, hl, ho, q⟩ := h
  unfold aAny at ho
  split at ho
  · obtain ⟨bs, hb, rfl⟩ := Option.map_eq_some_iff.mp ho
    obtain ⟨v, rfl, h1⟩ := hl.one
    obtain ⟨a, xs, rfl, ha, ra⟩ := h1.list
    exact cr_any hc pins s σ S.H _ us Q I rv ⟨a, bs, rfl, by rw [← bls_rep (G := gx X Y) ra hb]; exact SqL.of ha, end_dat ok q (.bl _)⟩
  · cases ho
theorem fd_sum (hc : X.calm = true) : FnD X Y (.builtin "sum") aSum := by
  intro pins s σ H vs us Q I rv h
  obtain ⟨S, ds, p, rfl, ok, hl, ho, q⟩ := h
  unfold aSum at ho
  split at ho
  · obtain ⟨bs, hb, rfl⟩ := Option.map_eq_some_iff.mp ho
    obtain ⟨v, rfl, h1⟩ := hl.one
    obtain ⟨a, xs, rfl, ha, ra⟩ := h1.list
    exact cr_sum hc pins s σ S.H _ us Q I rv ⟨a, bs, rfl, by rw [← ints_rep (G := gx X Y) ra hb]; exact SqL.of ha, end_dat ok q (.int _)⟩
  · cases ho
theorem fd_max (hc : X.calm = true) : FnD X Y (.builtin "max") aMax := by
  intro pins s σ H vs us Q I rv h
  obtain ⟨S, ds, p, rfl, ok, hl, ho, q⟩ := h
  unfold aMax at ho
  split at ho
  · obtain ⟨bs, hb, ho2⟩ := Option.bind_eq_some_iff.mp ho
    obtain ⟨m, hm, rfl⟩ := Option.map_eq_some_iff.mp ho2
    obtain ⟨v, rfl, h1⟩ := hl.one
    obtain ⟨a, xs, rfl, ha, ra⟩ := h1.list
    obtain ⟨m1, m2⟩ := maxOf_spec hm
    refine cr_max hc pins s σ S.H _ us Q I rv ⟨a, bs, rfl, by rw [← ints_rep (G := gx X Y) ra hb]; exact SqL.of ha, List.length_pos_of_mem m1, fun k k1 k2 => ?_⟩
    have e : k = m := Int.le_antisymm (m2 k k1) (k2 m m1)
    rw [e]
    exact end_dat ok q (.int _)
  · cases ho
    obtain ⟨v, w, rfl, h1, h2⟩ := hl.two
    exact call_max2 hc pins s σ S.H _ us Q I rv ⟨_, _, by rw [h1.int, h2.int], end_dat ok q (.int _)⟩
  · cases ho
theorem fd_min (hc : X.calm = true) : FnD X Y (.builtin "min") aMin := by
  intro pins s σ H vs us Q I rv h
  obtain ⟨S, ds, p, rfl, ok, hl, ho, q⟩ := h
  unfold aMin at ho
  split at ho
  · obtain ⟨bs, hb, ho2⟩ := Option.bind_eq_some_iff.mp ho
    obtain ⟨m, hm, rfl⟩ := Option.map_eq_some_iff.mp ho2
    obtain ⟨v, rfl, h1⟩ := hl.one
    obtain ⟨a, xs, rfl, ha, ra⟩ := h1.list
    obtain ⟨m1, m2⟩ := minOf_spec hm
    refine cr_min hc pins s σ S.H _ us Q I rv ⟨a, bs, rfl, by rw [← ints_rep (G := gx X Y) ra hb]; exact SqL.of ha, List.length_pos_of_mem m1, fun k k1 k2 => ?_⟩
    have e : k = m := Int.le_antisymm (k2 m m1) (m2 k k1)
    rw [e]
    exact end_dat ok q (.int _)
  · cases ho
    obtain ⟨v, w, rfl, h1, h2⟩ := hl.two
    exact call_min2 hc pins s σ S.H _ us Q I rv ⟨_, _, by rw [h1.int, h2.int], end_dat ok q (.int _)⟩
  · cases ho
end
/-! ### isinstance -/
def kindD : D → String
  | .none => "NoneType"
  | .bool _ => "bool"
  | .int _ => "int"
  | .str _ => "str"
  | .list _ => "list"
  | .tuple _ => "tuple"
  | .dict _ => "dict"
/-- whether a kind is one of another -/
def isKind (a T : String) : Bool := decide (a = T) || (decide (a = "bool") && decide (T = "int"))
def goodT (T : String) : Bool := decide (T = "int") || decide (T = "bool") || decide (T = "str") || decide (T = "list") || decide (T = "tuple")
def aIsi (T : String) (d : D) : Option PV := if goodT T then some (.dat (.bool (isKind (kindD d) T))) else none
theorem kit_kind : ∀ T ∈ ["int", "bool", "str", "list", "tuple"], ∀ a ∈ ["NoneType", "bool", "int", "str", "list", "tuple"], kitB a T = some (isKind a T) := by decide +kernel
theorem goodT_mem {T : String} (h : goodT T = true) : T ∈ ["int", "bool", "str", "list", "tuple"] := by
  unfold goodT at h
  simp only [Bool.or_eq_true, decide_eq_true_eq] at h
  simp
  rcases h with (((h | h) | h) | h) | h
  · exact .inl h
  · exact .inr (.inl h)
  · exact .inr (.inr (.inl h))
  · exact .inr (.inr (.inr (.inl h)))
  · exact .inr (.inr (.inr (.inr h)))
end SM
namespace SM
open PySem PySem.Spec PyProof.Rows L2

section
variable {X : Cx} {Y : GY} {W : WX}
/-! ### isinstance(x, T) -/
theorem tyx_of {S : SX} {v : V} {d : D} (h : Pk (gx X Y) S v d) : TyX X.K S.H v (.type (kindD d)) := by
  rcases h with h | ⟨a, vs, ds, rfl, rfl, hh, _⟩
  · cases h with
    | non => exact .base .non
    | bl b => exact .base (.bl b)
    | int i => exact .base (.int i)
    | str x => exact .base (.str x)
    | lst q _ _ => exact .base (.lst q)
    | tup q _ =>
      rcases q with ⟨q | ⟨o, q⟩, _⟩ | (q | ⟨o, q⟩) | ⟨o, its, n, h1, h2, _⟩
      · exact .base (.tup q)
      · exact .fTuple q
      · cases q
      · cases q
      · exact .kTuple h1 h2
  · exact .base (.lst hh)
theorem kindD_mem {S : SX} {v : V} {d : D} (h : Pk (gx X Y) S v d) : kindD d ∈ ["NoneType", "bool", "int", "str", "list", "tuple"] := by
  rcases h with h | ⟨a, vs, ds, rfl, rfl, hh, _⟩
  · cases h <;> simp [kindD]
  · simp [kindD]
theorem de_isi {T : String} {x : Str} {a : Expr} {oa : Opd} {p p2 pos : Pos} (hm : X.mg "isinstance" = none) (hT : X.mg x = none) (hv : bootBuiltins x = some (.type T)) (ha : DenO X Y W a oa) (hg : Gl X "isinstance" := by rfl) (hg2 : Gl X x := by rfl) (hn : x ≠ "__name__" := by decide) (hdb : (x == ("__debug__" : Str)) = false := by decide)
    (he : starEach [a, .Name x p2] X.env = (false, eval a X.env) :: starEach [.Name x p2] X.env := by rfl) (he2 : starEach [.Name x p2] X.env = (false, eval (.Name x p2) X.env) :: starEach [] X.env := by rfl) (hpl : (backTo pos (starEach [.Name x p2] X.env)).any (·.1) = false := by rfl) :
    DenE X Y W (.Call (.Name "isinstance" p) [a, .Name x p2] [] pos) (sOp1 (aIsi T) oa) := by
  refine PE.weak (pe_callB call_isi hg hm (by decide +kernel) (pa_cons ha (pa_cons (pe_bltn (v := .ty T) hg2 hT hv rfl hn hdb) pa_nil he2) he) (by decide) (by decide) he hpl) fun s H Q h => ?_
  obtain ⟨M, e, ok, p⟩ := op1_post h
  refine ⟨M, e, ok, Post.mono p fun v H1 ⟨S, d, pv, e1, ok1, h1, ho, q⟩ => ?_⟩
  subst e1
  unfold aIsi at ho
  split at ho
  · rename_i hgT
    cases ho
    exact ⟨v, .ty T, _, _, _, rfl, .ty T, tyx_of h1, kit_ty (kit_kind T (goodT_mem hgT) _ (kindD_mem h1)), end_dat ok1 q (.bl _)⟩
  · cases ho
/-! ### a[i] -/
def aIx : D → D → Option PV
  | .list ds, .int i => (atI ds i).map .dat
  | .tuple ds, .int i => (atI ds i).map .dat
  | .str x, .int i => if x.length ≤ LIM then (atI x.cps.toList i).map fun c => .dat (.str ⟨#[c]⟩) else none
  | _, _ => none
theorem atI_rep {G : GX} {H : Hp} {M : Addr → Prop} {vs : List V} {ds : List D} {i : Int} {d : D} (r : RepAll G.K H M vs ds) (h : atI ds i = some d) : ∃ v, atI vs i = some v ∧ Rep G.K H M v d := by
  unfold atI at h ⊢
  rw [r.length]
  obtain ⟨j, h1, h2⟩ := Option.bind_eq_some_iff.mp h
  obtain ⟨v, e, q⟩ := r.get h2
  exact ⟨v, by rw [h1]; exact e, q⟩
theorem ix_all : IxR X (rD2 (gx X Y) aIx) := by
  intro value slice pins s σ H v w vv ww Q I rv rw' h hs
  obtain ⟨S, d, d', p, rfl, ok, h1, h2, ho, q⟩ := h
  unfold aIx at ho
  split at ho
  · obtain ⟨x, hx, rfl⟩ := Option.map_eq_some_iff.mp ho
    obtain ⟨a, vs, rfl, ha, ra⟩ := h1.list
    obtain ⟨y, hy, ry⟩ := atI_rep (G := gx X Y) ra hx
    exact ix_list value slice pins s σ S.H _ _ vv ww Q I rv rw' ⟨a, vs, _, y, rfl, h2.int, SqL.of ha, hy, end_dat ok q ry⟩ hs
  · obtain ⟨x, hx, rfl⟩ := Option.map_eq_some_iff.mp ho
    obtain ⟨a, vs, rfl, ha, ra⟩ := h1.tup
    obtain ⟨y, hy, ry⟩ := atI_rep (G := gx X Y) ra hx
    exact ix_tup value slice pins s σ S.H _ _ vv ww Q I rv rw' ⟨a, vs, _, y, rfl, h2.int, ha.sq, hy, end_dat ok q ry⟩ hs
  · split at ho
    · rename_i hl
      obtain ⟨c, hc, rfl⟩ := Option.map_eq_some_iff.mp ho
      exact ix_str value slice pins s σ S.H _ _ vv ww Q I rv rw' ⟨_, _, c, h1.str, h2.int, by rw [line_eq]; exact hl, hc, end_dat ok q (.str _)⟩ hs
    · cases ho
  · cases ho
theorem de_ix {a b : Expr} {oa ob : Opd} {pos : Pos} (ha : DenO X Y W a oa) (hb : DenO X Y W b ob) (hs : PlainIx b := by exact fun _ _ => rfl) : DenE X Y W (.Subscript a b pos) (sOp2 aIx oa ob) := den_op2 (pe_ix ix_all ha hb hs)
/-! ### a[lo:hi] -/
def cutL {α : Type} (xs : List α) (lo hi : Option Int) : List α := (xs.drop (HT.sIx xs.length 0 lo)).take (HT.sIx xs.length xs.length hi - HT.sIx xs.length 0 lo)
def aSl (d : D) (lo hi : Option Int) : Option PV := match d with
  | .list ds => some (.own (cutL ds lo hi))
  | .tuple ds => some (.dat (.tuple (cutL ds lo hi)))
  | .str x => if x.length ≤ LIM then some (.dat (.str ⟨(cutL x.cps.toList lo hi).toArray⟩)) else none
  | _ => none
theorem RepAll.cut {K : PySem.W.Frag} {H : Hp} {M : Addr → Prop} {vs : List V} {ds : List D} (r : RepAll K H M vs ds) (lo hi : Option Int) : RepAll K H M (cutV vs lo hi) (cutL ds lo hi) := by
  unfold cutV cutL
  rw [r.length]
  exact (r.drop _).take _
def rDS (G : GX) : V → Option Int → Option Int → Hp → VK → Prop := fun v lo hi H Q => ∃ (S : SX) (d : D) (p : PV), S.H = H ∧ SOk G S ∧ Pk G S v d ∧ aSl d lo hi = some p ∧ Post G (fun _ _ _ _ => False) (Res G) S (.ok p S.e) Q
theorem sl_all : SlR X (rDS (gx X Y)) := by
  intro pins s σ H v vv vl vu lo hi sl Q I rv hs pl pu h
  obtain ⟨S, d, p, rfl, ok, h1, ho, q⟩ := h
  unfold aSl at ho
  split at ho
  · cases ho
    obtain ⟨a, vs, rfl, ha, ra⟩ := h1.list
    exact sl_list pins s σ S.H _ vv vl vu lo hi sl Q I rv hs pl pu ⟨a, vs, rfl, SqL.of ha, fun p hp => end_lst ok q (ra.cut lo hi) hp⟩
  · cases ho
    obtain ⟨a, vs, rfl, ha, ra⟩ := h1.tup
    refine sl_tupA pins s σ S.H _ vv vl vu lo hi sl Q I rv hs pl pu ⟨a, vs, rfl, ha.sq, fun e => ?_, fun _ p hp => end_tup ok q (ra.cut lo hi) hp⟩
    refine end_dat ok q ?_
    have z : cutL ‹List D› lo hi = ‹List D› := by
      unfold cutL
      rw [← ra.length, e.1, e.2, Nat.sub_zero, List.drop_zero, ra.length, List.take_length]
    rw [z]
    exact .tup ha ra
  · split at ho
    · rename_i x hx
      cases ho
      refine sl_str pins s σ S.H _ vv vl vu lo hi sl Q I rv hs pl pu ⟨x, h1.str, by rw [line_eq]; exact hx, ?_⟩
      have z : cutS x lo hi = ⟨(cutL x.cps.toList lo hi).toArray⟩ := by
        unfold cutS cutL
        rw [Array.length_toList]
        rfl
      rw [z]
      exact end_dat ok q (.str _)
    · cases ho
  · cases ho
/-- a part of a slice: left out, or an int -/
def prt (o : Option SE) (e : SEnv) : Out (Option Int) := match o with
  | none => .ok none e
  | some f => (f e).bind fun p e1 => match p with
    | .dat (.int i) => .ok (some i) e1
    | _ => .bad
def RP (G : GX) (S S' : SX) (a b : Option Int) : Prop := a = b
theorem shift_rp {G : GX} : Shift G (RP G) := fun _ _ _ _ _ _ r => r
def DenP (X : Cx) (Y : GY) (W : WX) (x : Option Expr) (o : Option SE) : Prop := L2.PO X x (tO (gx X Y) W (RP (gx X Y)) (prt o))
theorem dp_none : DenP X Y W none none := ⟨fun pins s σ H Q I h => (po_none (X := X)).run pins s σ H Q I (by
  obtain ⟨M, e, ok, p⟩ := h
  exact post_here ok p none rfl)⟩
theorem dp_some {x : Expr} {f : SE} (hx : DenE X Y W x f) : DenP X Y W (some x) (some f) := ⟨fun pins s σ H Q I h => (po_some (X := X) hx).run pins s σ H Q I (by
  obtain ⟨M, e, ok, p⟩ := h
  refine ⟨M, e, ok, Post.mono (Post.bind (R1 := Res (gx X Y)) shift_rp p) fun v H1 ⟨pv, e1, M1, ok1, f1, r1, p1⟩ => ?_⟩
  split at p1
  · rename_i i
    cases (show Rep X.K H1 M1 v (.int i) from r1.1)
    exact ⟨i, rfl, post_here ok1 p1 (some i) rfl⟩
  · exact p1.elim)⟩
def finS (e : SEnv) (a : Option D) (lo hi : Option Int) : Out PV := match a with
  | some d => match aSl d lo hi with
    | some p => .ok p e
    | none => .bad
  | none => .bad
def sSl (a : Opd) (lo hi : Option SE) : SE := fun e => (opd a e).bind fun pa e1 => (prt lo e1).bind fun l e2 => (prt hi e2).bind fun h e3 => finS e3 (pk e3 pa) l h
theorem de_sl {a : Expr} {lo hi : Option Expr} {oa : Opd} {fl fh : Option SE} {p2 pos : Pos} (ha : DenO X Y W a oa) (hl : DenP X Y W lo fl) (hh : DenP X Y W hi fh) : DenE X Y W (.Subscript a (.Slice lo hi none p2) pos) (sSl oa fl fh) := by
  refine PE.weak (pe_slice (sl_all (Y := Y)) ha hl hh) fun s H Q ⟨M, e, ok, p⟩ => ?_
  refine ⟨M, e, ok, Post.mono (Post.bind (R1 := ROp (gx X Y)) shift_res p) fun v H1 ⟨po, e1, M1, ok1, f1, r1, p1⟩ => ?_⟩
  refine ⟨M1, e1, ok1, Post.mono (Post.bind (R1 := RP (gx X Y)) shift_res p1) fun l H2 ⟨l', e2, M2, ok2, f2, r2, p2⟩ => ?_⟩
  obtain rfl : l = l' := r2
  refine ⟨M2, e2, ok2, Post.mono (Post.bind (R1 := RP (gx X Y)) shift_res p2) fun h H3 ⟨h', e3, M3, ok3, f3, r3, p3⟩ => ?_⟩
  obtain rfl : h = h' := r3
  have k := PkP.fr ok2 f3 rfl (PkP.fr ok1 f2 rfl r1.pkP)
  have p3' : Post (gx X Y) W (Res (gx X Y)) ⟨H3, M3, s, e3⟩ (finS e3 (pk e3 po) l h) Q := p3
  unfold finS at p3'
  cases q : pk e3 po with
  | none =>
    rw [q] at p3'
    exact p3'.elim
  | some d =>
    rw [q] at p3'
    dsimp only at p3'
    cases q2 : aSl d l h with
    | none =>
      rw [q2] at p3'
      exact p3'.elim
    | some pv =>
      rw [q2] at p3'
      exact ⟨⟨H3, M3, s, e3⟩, d, pv, rfl, ok3, PkP.pk ok3 k q, q2, post_any p3'⟩
/-! ### a[::-1] -/
def aRev : D → Option PV
  | .list ds => some (.own ds.reverse)
  | .tuple ds => if decide (ds.length ≤ LIM) then some (.dat (.tuple ds.reverse)) else none
  | .str x => if x.length ≤ LIM then some (.dat (.str ⟨x.cps.toList.reverse.toArray⟩)) else none
  | _ => none
end
end SM
namespace SM
open PySem PySem.Spec PyProof.Rows L2

/-! ## turned round: a[::-1] -/
theorem back_all {α : Type} (xs : Array α) : ((List.range xs.size).map fun k => xs.size - 1 - k).filterMap (xs[·]?) = xs.toList.reverse := by
  rw [PySem.W.krv_range, List.filterMap_reverse, PySem.W.krv_all]
section
variable {prog : Program} {w : World} {A : Around} {E : Value → Shared → Prop} {s : Shared}
theorem part_back {vk : Value} {Q : Option Int → Shared → Prop} (p : IsPart vk (some (-1))) (h : Q (some (-1)) s) : wpAny (model prog w) A (Builtin.Slice.slicePartIndex vk) Q E s := HT.slicePart_ p h
theorem applied_back {sl : Addr} {vk : Value} {n : Nat} {Q : Int × Int × Nat → Shared → Prop} (hs : s.heap.IsSliceOf sl .none .none vk) (pk : IsPart vk (some (-1))) (h : Q ((n : Int) - 1, -1, n) s) : wpAny (model prog w) A (Builtin.Slice.sliceApplied (.ref sl) (pure (n : Int))) Q E s := by
  obtain ⟨ob, g1, g2, g3⟩ := id hs
  unfold Builtin.Slice.sliceApplied Builtin.Slice.sliceFields
  refine wpAny_bind (wpAny_bind (wpAny_field g1 g3 (x := .none) rfl (wpAny_bind (wpAny_field g1 g3 (x := .none) rfl (wpAny_bind (wpAny_field g1 g3 (x := vk) rfl (wpAny_pure ?_)))))))
  refine wpAny_bind (part_back pk ?_)
  show wpAny _ _ (if ((-1 : Int) == 0) = true then _ else _) _ _ s
  rw [if_neg (by decide)]
  refine wpAny_bind (slicePart_none (wpAny_bind (slicePart_none (wpAny_bind (wpAny_pure ?_)))))
  have e1 : Builtin.Slice.sliceAdjust none none (-1) (n : Int) = ((n : Int) - 1, -1) := rfl
  have e2 : Builtin.Slice.slicePlaces ((n : Int) - 1) (-1) (-1) = n := by
    unfold Builtin.Slice.slicePlaces
    have h1 : ¬ ((-1 : Int) > 0) := by decide
    simp only [h1, if_false]
    by_cases hn : (n : Int) - 1 > -1
    · rw [if_pos hn]
      have e3 : ((n : Int) - 1 - -1 - 1) / (- -1) = (n : Int) - 1 := by
        rw [show (- -1 : Int) = 1 by decide, Int.ediv_one]
        omega
      rw [e3]
      omega
    · rw [if_neg hn]
      have : n = 0 := by omega
      subst this
      rfl
  show wpAny _ _ (match Builtin.Slice.sliceAdjust none none (-1) (n : Int) with | (lo, hi) => pure (lo, (-1 : Int), Builtin.Slice.slicePlaces lo hi (-1))) _ _ s
  rw [e1]
  show wpAny _ _ (pure ((n : Int) - 1, (-1 : Int), Builtin.Slice.slicePlaces ((n : Int) - 1) (-1) (-1))) _ _ s
  rw [e2]
  exact wpAny_pure h
theorem pick_back (xs : Array Value) : ((List.range xs.size).filterMap fun (m : Nat) => xs[(((xs.size : Int) - 1) + (m : Int) * -1).toNat]?).toArray = xs.toList.reverse.toArray := by
  have h := back_all xs
  rw [List.filterMap_map] at h
  rw [← h]
  have go : ∀ l : List Nat, (∀ m ∈ l, m < xs.size) → l.filterMap (fun (m : Nat) => xs[(((xs.size : Int) - 1) + (m : Int) * -1).toNat]?) = l.filterMap ((fun x => xs[x]?) ∘ fun k => xs.size - 1 - k) := by
    intro l
    induction l with
    | nil => intro _; rfl
    | cons m r ih =>
      intro hl
      have hm := hl m List.mem_cons_self
      rw [List.filterMap_cons, List.filterMap_cons, ih fun k hk => hl k (List.mem_cons_of_mem _ hk)]
      have e : ((((xs.size : Int) - 1) + (m : Int) * -1)).toNat = xs.size - 1 - m := by omega
      rw [e]
      rfl
  rw [go _ fun m hm => List.mem_range.mp hm]
theorem getItem_tuple_back {t sl : Addr} {items : Array Value} {vk : Value} {Q : Value → Shared → Prop} (ht : IsTup s.heap t items) (hs : s.heap.IsSliceOf sl .none .none vk) (pk : IsPart vk (some (-1)))
    (h : Q (.ref s.heap.objs.size) { s with heap := s.heap.push { cls := .type "tuple", data := .seq items.toList.reverse.toArray } }) (hz : items.size ≤ sizeLine) : wpAny (model prog w) A (getItem (.ref t) (.ref sl)) Q E s := by
  have fit : sizeOk (.seq items.toList.reverse.toArray) := by
    show items.toList.reverse.toArray.size ≤ sizeLine
    rw [List.size_toArray, List.length_reverse, Array.length_toList]
    exact hz
  obtain ⟨ob, g1, g2, g3⟩ := id hs
  have hT : s.TypeIs (.ref sl) "slice" := ⟨ob, g1, g2⟩
  unfold getItem
  try with_reducible refine wpAny_holding ?_
  first | refine wpAny_bind (wpAny_pure ?_) | skip
  refine wpAny_bind (wpAny_sequenceKey ht.typeIs (by decide) ?_)
  refine wpAny_bind (wpAny_callSpecial?_slot (name := Str.ofString "__getitem__") ht.typeIs PyProof.Rows.slot_tuple_getitem (wpAny_call_entry PyProof.Rows.slot_tuple_getitem ht.typeIs entry_tuple_getitem ?_ (args_tuple_getitem _ _)))
  show wpAny _ _ (Builtin.Tuple.tupleItemsOf (.ref t) >>= _) _ _ s
  refine wpAny_bind (tupleItemsOf_ ht (wpAny_bind (wpAny_typeOf hT ?_)))
  rw [if_pos (by decide)]
  refine wpAny_bind (applied_back hs pk ?_)
  show wpAny _ _ (if (((items.size : Int) - 1 == 0 && (-1 : Int) == 1 && items.size == items.size)) = true then _ else _) _ _ s
  have no : ¬ (((items.size : Int) - 1 == 0 && (-1 : Int) == 1 && items.size == items.size) = true) := by
    intro q
    rw [Bool.and_eq_true, Bool.and_eq_true] at q
    exact absurd q.1.2 (by decide)
  rw [if_neg no, pick_back]
  first
    | exact wpAny_bind (m := Builtin.Tuple.tupleExact _) (wpAny_newObj_type (wpAny_pure ⟨_, rfl, wpAny_pure h⟩) fit)
    | exact wpAny_bind (m := Builtin.Tuple.tupleExact _) (wpAny_newObj_type (wpAny_bind (wpAny_pure (wpAny_pure ⟨_, rfl, wpAny_pure h⟩))) fit)
    | exact wpAny_bind (wpAny_bind (m := Builtin.Tuple.tupleExact _) (wpAny_newObj_type (wpAny_pure (wpAny_pure ⟨_, rfl, wpAny_pure h⟩)) fit))
    | exact wpAny_bind (wpAny_bind (m := Builtin.Tuple.tupleExact _) (wpAny_newObj_type (wpAny_pure ⟨_, rfl, wpAny_pure h⟩) fit))
end
section
variable {X : Cx} {Y : GY} {W : WX}
def tThn (ta : TE) (r : V → Hp → VK → Prop) : TE := fun σ H Q => ta σ H fun x H1 => r x H1 Q
theorem pe_back {e : Expr} {te : TE} {k : Nat} {p1 p2 p3 pos : Pos} (he : PE X e te) : PE X (.Subscript e (.Slice none none (some (.UnaryOp .USub (.Constant (.int 1) k p1) p2)) p3) pos) (tThn te (rD1 (gx X Y) aRev)) := by
  refine ⟨fun pins s σ H Q I h => ?_⟩
  refine Subscript_ (thn (he.run pins s σ H _ I h) fun v s1 ⟨x, H1, I1, r1, q1⟩ => ?_)
  have hst : L2.PO X (some (.UnaryOp .USub (.Constant (.int 1) k p1) p2)) (tPart (tUn (rU fun i => .int (-i)) (tC (.int 1)))) := po_some (pe_un un_neg pe_int)
  refine wpAny_Slice (thn (po_none.run pins s1 σ H1 (fun o H2 => o = none ∧ H2 = H1) I1 ⟨rfl, rfl⟩) fun vl s2 ⟨l, H2, I2, pl, el, e2⟩ => ?_)
  subst el e2
  refine thn (po_none.run pins s2 σ H2 (fun o H3 => o = none ∧ H3 = H2) I2 ⟨rfl, rfl⟩) fun vu s3 ⟨u, H3, I3, pu, eu, e3⟩ => ?_
  subst eu e3
  refine thn (hst.run pins s3 σ H3 (fun o H4 => o = some (-1) ∧ H4 = H3) I3 ⟨1, rfl, -1, rfl, rfl, rfl⟩) fun vs s4 ⟨o, H4, I4, pk, eo, e4⟩ => ?_
  subst eo e4
  cases pl
  cases pu
  have I5 : Inv X pins σ H4 { s4 with heap := s4.heap.push { cls := .type "slice", data := .fields #[.none, .none, vs] } } := I4.kept (t' := s4.toks) fun b ob q => Heap.get?_push_of_some _ q
  obtain ⟨S, d, p, eH, ok, h1, ho, q⟩ := q1
  subst eH
  show wpAny (model X.prog X.w) X.A (subscriptTail e (.Slice none none (some (.UnaryOp .USub (.Constant (.int 1) k p1) p2)) p3) v (.ref s4.heap.objs.size)) (EP X pins σ Q) X.xe { s4 with heap := s4.heap.push { cls := .type "slice", data := .fields #[.none, .none, vs] } }
  unfold aRev at ho
  split at ho
  · cases ho
    obtain ⟨a, xs, rfl, ha, ra⟩ := h1.list
    cases r1
    obtain ⟨its, r, ht, hz⟩ := I5.list (SqL.of ha)
    have hlen := r.length
    refine tail_any (ops := [.ref a, .ref s4.heap.objs.size]) ht.isList.typeIs (PySem.slot_list_getitem.lookup) ?_ (by with_unfolding_all rfl)
    refine wpAny_getItem_list_slice ht.isList (Heap.IsSliceOf.new _ _ _ vs) .none .none pk (by decide) ?_ (by rw [List.size_toArray]; omega)
    rw [PySem.W.krv_pick]
    refine ⟨.ref _, _, I5.laid (t' := s4.toks) (o := .lst xs.reverse) (fun b ob q => Heap.get?_push_of_some _ q) (Nat.le_refl _) ?_, rfl, end_lst ok q ra.reverse (I5.hok.fresh (Nat.le_refl _))⟩
    exact ⟨by rw [List.length_reverse]; exact hz, _, 0, r.reverse, Heap.get?_push_size _ rfl⟩
  · split at ho
    · cases ho
      obtain ⟨a, xs, rfl, ha, ra⟩ := h1.tup
      cases r1
      obtain ⟨its, r, ht, hz⟩ := I5.tuple ha.sq
      have hlen := r.length
      refine tail_any (ops := [.ref a, .ref s4.heap.objs.size]) ht.typeIs (PyProof.Rows.slot_tuple_getitem.lookup) ?_ (by with_unfolding_all rfl)
      refine getItem_tuple_back ht (Heap.IsSliceOf.new _ _ _ vs) pk ?_ (by rw [List.size_toArray]; omega)
      refine ⟨.ref _, _, I5.laid (t' := s4.toks) (o := .tup xs.reverse) (fun b ob q => Heap.get?_push_of_some _ q) (Nat.le_refl _) ?_, rfl, end_tup ok q ra.reverse (I5.hok.fresh (Nat.le_refl _))⟩
      have er : its.toArray.toList.reverse.toArray = its.reverse.toArray := by simp
      refine ⟨by rw [List.length_reverse]; exact hz, its.reverse, r.reverse, ?_⟩
      rw [er]
      exact IsTup.new _ _
    · cases ho
  · split at ho
    · rename_i x hx
      cases ho
      have e1 := h1.str
      subst e1
      obtain ⟨t, rfl⟩ := r1
      obtain ⟨st, rfl⟩ : ∃ t0, vs = .int (-1) t0 := by
        cases pk with
        | int i t0 => exact ⟨t0, rfl⟩
      refine tail_any (ops := [.str x t, .ref s4.heap.objs.size]) (typeIs_str _ _ _) (F.slot_str_getitem.lookup) ?_ (by with_unfolding_all rfl)
      refine wpAny_getItem_str_slice (l := none) (u := none) (st := some (-1, st)) ⟨_, Heap.get?_push_size _ rfl, rfl, rfl⟩ rfl ?_
      have e2 : (slicePicked x none none (some (-1, st))).filterMap (x.cps[·]?) = x.cps.toList.reverse := by
        have : slicePicked x none none (some (-1, st)) = sliceRange ((x.cps.size : Int) - 1) (-1) (-1) := rfl
        rw [this, PySem.W.krv_sliceRange]
        exact back_all x.cps
      unfold sliceMade
      rw [if_neg (show ¬ (((some ((-1 : Int), st)).map (·.1)).getD 1 == 1 && (slicePicked x none none (some (-1, st))).length == x.length) = true by
        intro z
        rw [Bool.and_eq_true] at z
        have z1 : ((-1 : Int) == 1) = true := z.1
        exact absurd z1 (by decide)), e2]
      refine ⟨?_, .str _, S.H, I5.tok _, ⟨_, rfl⟩, end_dat ok q (.str _)⟩
      show x.cps.toList.reverse.toArray.size ≤ sizeLine
      rw [List.size_toArray, List.length_reverse, Array.length_toList, line_eq]
      exact hx
    · cases ho
  · cases ho
theorem de_rev {a : Expr} {oa : Opd} {k : Nat} {p1 p2 p3 pos : Pos} (ha : DenO X Y W a oa) : DenE X Y W (.Subscript a (.Slice none none (some (.UnaryOp .USub (.Constant (.int 1) k p1) p2)) p3) pos) (sOp1 aRev oa) :=
  PE.weak (pe_back (Y := Y) ha) fun s H Q h => op1_post h
/-! ## methods of texts -/
def rDM (G : GX) (op : D → List D → Option PV) : V → List V → Hp → VK → Prop := fun v vs H Q => ∃ (S : SX) (d : D) (ds : List D) (p : PV), S.H = H ∧ SOk G S ∧ Pk G S v d ∧ PkL G S vs ds ∧ op d ds = some p ∧ Post G (fun _ _ _ _ => False) (Res G) S (.ok p S.e) Q
abbrev MtD (X : Cx) (Y : GY) (id : String) (op : D → List D → Option PV) : Prop := MtR X id (rDM (gx X Y) op)
def finM (op : D → List D → Option PV) (e : SEnv) (a : Option D) (b : Option (List D)) : Out PV := match a, b with
  | some d, some ds => match op d ds with
    | some p => .ok p e
    | none => .bad
  | _, _ => .bad
def isStr : D → Bool
  | .str _ => true
  | _ => false
/-- a method of a text -/
def sMs (op : D → List D → Option PV) (a : Opd) (os : List Opd) : SE := fun e => (opd a e).bind fun pa e1 => if (pk e1 pa).any isStr then (opds os e1).bind fun ps e2 => finM op e2 (pk e2 pa) (pks e2 ps) else .bad
theorem de_ms {o a : Expr} {as : List Expr} {oo : Opd} {os : List Opd} {op : D → List D → Option PV} {name : Str} {id : String} {apos cpos : Pos} (slot : Slot "str" name id) (hty : typeOf (.builtin id) = pure (.type "method_descriptor")) (hm : MtD X Y id op) (ho : DenO X Y W o oo) (ha : DenA X Y W (a :: as) os)
    (hbase : attributeBase o name X.env (eval o X.env) = eval o X.env := by rfl)
    (hfew : ((backTo cpos (starEach (a :: as) X.env)).all (fun x => !x.1) && (backToKw cpos (keywordEach [] X.env)).all (fun x => x.1.isSome)
      && decide ((a :: as).length + ([] : List Keyword).length + (if ([] : List Keyword).isEmpty then 0 else 1) < 30)) = true := by rfl)
    (hline : (apos.endLine == cpos.line) = true := by rfl) (hs : starEach (a :: as) X.env = (false, eval a X.env) :: starEach as X.env := by rfl) (hplain : (backTo cpos (starEach as X.env)).any (·.1) = false := by rfl) :
    DenE X Y W (.Call (.Attribute o name apos) (a :: as) [] cpos) (sMs op oo os) := by
  refine PE.weak (pe_bm PySem.F.plainAttrs_str slot hty hm ho ha hbase hfew hline hs hplain) fun s H Q ⟨M, e, ok, p⟩ => ?_
  refine ⟨M, e, ok, Post.mono (Post.bind (R1 := ROp (gx X Y)) shift_res p) fun v H1 ⟨po, e1, M1, ok1, f1, r1, p1⟩ => ?_⟩
  split at p1
  · rename_i hstr
    obtain ⟨d, hd, hsd⟩ := Option.any_eq_true_iff_get _ _ |>.mp hstr |> fun ⟨h1, h2⟩ => (⟨_, (Option.some_get h1).symm, h2⟩ : ∃ d, pk e1 po = some d ∧ isStr d = true)
    have kd := PkP.pk ok1 r1.pkP hd
    refine ⟨?_, ?_⟩
    · cases d with
      | str x =>
        rw [kd.str]
        exact rfl
      | _ => cases hsd
    refine ⟨M1, e1, ok1, Post.mono (Post.bind (R1 := RAs (gx X Y)) shift_res p1) fun vs H2 ⟨ps, e2, M2, ok2, f2, r2, p2⟩ => ?_⟩
    have k := PkP.fr ok1 f2 rfl r1.pkP
    have p2' : Post (gx X Y) W (Res (gx X Y)) ⟨H2, M2, s, e2⟩ (finM op e2 (pk e2 po) (pks e2 ps)) Q := p2
    unfold finM at p2'
    cases q : pk e2 po with
    | none =>
      rw [q] at p2'
      exact p2'.elim
    | some d' =>
      cases q2 : pks e2 ps with
      | none =>
        rw [q, q2] at p2'
        exact p2'.elim
      | some ds =>
        rw [q, q2] at p2'
        dsimp only at p2'
        cases q3 : op d' ds with
        | none =>
          rw [q3] at p2'
          exact p2'.elim
        | some pv =>
          rw [q3] at p2'
          exact ⟨⟨H2, M2, s, e2⟩, d', ds, pv, rfl, ok2, PkP.pk ok2 k q, pks_rep (S := ⟨H2, M2, s, e2⟩) ok2 r2 q2, q3, post_any p2'⟩
  · exact p1.elim
def aJoin : D → List D → Option PV
  | .str x, [.list ds] => (strsOf ds).bind fun ys => if (ys.map (·.length)).sum + ys.length * x.length ≤ LIM then some (.dat (.str (Txt.join x ys))) else none
  | .str x, [.tuple ds] => (strsOf ds).bind fun ys => if (ys.map (·.length)).sum + ys.length * x.length ≤ LIM then some (.dat (.str (Txt.join x ys))) else none
  | _, _ => none
def aFind : D → List D → Option PV
  | .str x, [.str y] => some (.dat (.int (Txt.find x y)))
  | _, _ => none
def aRfind : D → List D → Option PV
  | .str x, [.str y] => some (.dat (.int (Txt.rfind x y)))
  | _, _ => none
theorem md_join : MtD X Y "str.join" aJoin := by
  intro pins s σ H v vs vv us Q I rv rs h
  obtain ⟨S, d, ds, p, rfl, ok, h1, hl, ho, q⟩ := h
  unfold aJoin at ho
  split at ho
  · obtain ⟨ys, hy, ho2⟩ := Option.bind_eq_some_iff.mp ho
    split at ho2
    · rename_i hz
      cases ho2
      obtain ⟨w, rfl, h2⟩ := hl.one
      obtain ⟨a, xs, rfl, ha, ra⟩ := h2.list
      exact mt_join pins s σ S.H _ _ vv us Q I rv rs ⟨_, a, ys, h1.str, rfl, .inl (by rw [← strs_rep (G := gx X Y) ra hy]; exact SqL.of ha), hz, end_dat ok q (.str _)⟩
    · cases ho2
  · obtain ⟨ys, hy, ho2⟩ := Option.bind_eq_some_iff.mp ho
    split at ho2
    · rename_i hz
      cases ho2
      obtain ⟨w, rfl, h2⟩ := hl.one
      obtain ⟨a, xs, rfl, ha, ra⟩ := h2.tup
      exact mt_join pins s σ S.H _ _ vv us Q I rv rs ⟨_, a, ys, h1.str, rfl, .inr (by rw [← strs_rep (G := gx X Y) ra hy]; exact ha.sq), hz, end_dat ok q (.str _)⟩
    · cases ho2
  · cases ho
theorem md_find : MtD X Y "str.find" aFind := by
  intro pins s σ H v vs vv us Q I rv rs h
  obtain ⟨S, d, ds, p, rfl, ok, h1, hl, ho, q⟩ := h
  unfold aFind at ho
  split at ho
  · cases ho
    obtain ⟨w, rfl, h2⟩ := hl.one
    exact mt_find pins s σ S.H _ _ vv us Q I rv rs ⟨_, _, h1.str, by rw [h2.str], end_dat ok q (.int _)⟩
  · cases ho
theorem md_rfind : MtD X Y "str.rfind" aRfind := by
  intro pins s σ H v vs vv us Q I rv rs h
  obtain ⟨S, d, ds, p, rfl, ok, h1, hl, ho, q⟩ := h
  unfold aRfind at ho
  split at ho
  · cases ho
    obtain ⟨w, rfl, h2⟩ := hl.one
    exact mt_rfind pins s σ S.H _ _ vv us Q I rv rs ⟨_, _, h1.str, by rw [h2.str], end_dat ok q (.int _)⟩
  · cases ho
theorem de_join {o a : Expr} {as : List Expr} {oo : Opd} {os : List Opd} {apos cpos : Pos} (ho : DenO X Y W o oo) (ha : DenA X Y W (a :: as) os)
    (hbase : attributeBase o "join" X.env (eval o X.env) = eval o X.env := by rfl) (hfew : ((backTo cpos (starEach (a :: as) X.env)).all (fun x => !x.1) && (backToKw cpos (keywordEach [] X.env)).all (fun x => x.1.isSome)
      && decide ((a :: as).length + ([] : List Keyword).length + (if ([] : List Keyword).isEmpty then 0 else 1) < 30)) = true := by rfl)
    (hline : (apos.endLine == cpos.line) = true := by rfl) (hs : starEach (a :: as) X.env = (false, eval a X.env) :: starEach as X.env := by rfl) (hplain : (backTo cpos (starEach as X.env)).any (·.1) = false := by rfl) :
    DenE X Y W (.Call (.Attribute o "join" apos) (a :: as) [] cpos) (sMs aJoin oo os) := de_ms PySem.F.slot_str_join PySem.F.type_str_join md_join ho ha hbase hfew hline hs hplain
end
end SM
namespace SM
open PySem PySem.Spec PyProof.Rows L2

/-! ## statements -/
inductive Fl where
  | nx | bk | ct | rt (p : PV)
abbrev SS := SEnv → Out Fl
def EndOk (G : GX) (S S' : SX) (D : Ends) : Fl → Prop
  | .nx => D.nx S'.s S'.H
  | .bk => D.bk S'.s S'.H
  | .ct => D.ct S'.s S'.H
  | .rt p => ∀ v, Res G S S' v p → D.rt v S'.H
def PostS (G : GX) (W : WX) (S : SX) (o : Out Fl) (D : Ends) : Prop :=
  match o with
  | .ok fl e' => ∀ s' H' M', SOk G ⟨H', M', s', e'⟩ → Fr G S ⟨H', M', s', e'⟩ → EndOk G S ⟨H', M', s', e'⟩ D fl
  | .exc x e' => ∀ c d s' H' M', SOk G ⟨H', M', s', e'⟩ → Fr G S ⟨H', M', s', e'⟩ → ExRep G H' M' c d x → W c d s' H'
  | .bad => False
def tS (G : GX) (W : WX) (f : SS) : TS := fun D s H => ∃ M e, SOk G ⟨H, M, s, e⟩ ∧ PostS G W ⟨H, M, s, e⟩ (f e) D
def DenS (X : Cx) (Y : GY) (W : WX) (st : Stmt) (f : SS) : Prop := PS X st (tS (gx X Y) W f)
def DenB (X : Cx) (Y : GY) (W : WX) (sts : List Stmt) (f : SS) : Prop := PSs X sts (tS (gx X Y) W f)
theorem PSs.weak {X : Cx} {x : List Stmt} {t t' : TS} (h : PSs X x t) (k : ∀ D s H, t' D s H → t D s H) : PSs X x t' := ⟨fun pins s σ H Q I q => h.run pins s σ H Q I (k _ _ _ q)⟩
theorem EndOk.shift {G : GX} {S S1 S' : SX} (f : Fr G S S1) {D : Ends} {fl : Fl} (h : EndOk G S S' D fl) : EndOk G S1 S' D fl := by
  cases fl with
  | nx => exact h
  | bk => exact h
  | ct => exact h
  | rt p => exact fun v r => h v (shift_res S S1 S' v p f r)
theorem PostS.shift {G : GX} {W : WX} {S S1 : SX} (f : Fr G S S1) {o : Out Fl} {D : Ends} (h : PostS G W S o D) : PostS G W S1 o D := by
  cases o with
  | ok fl e => exact fun s' H' M' h1 h2 => (h s' H' M' h1 (f.trans h2)).shift f
  | exc x e => exact fun c d s' H' M' h1 h2 h3 => h c d s' H' M' h1 (f.trans h2) h3
  | bad => exact h
/-- an expression ahead of the rest of a statement -/
theorem PostS.bindE {α β : Type} {G : GX} {W : WX} {R1 : SX → SX → β → α → Prop} {S : SX} {o : Out α} {k : α → SEnv → Out Fl} {D : Ends} (h : PostS G W S (o.bind k) D) :
    Post G W R1 S o fun b H1 => ∃ a e1 M1, SOk G ⟨H1, M1, S.s, e1⟩ ∧ Fr G S ⟨H1, M1, S.s, e1⟩ ∧ R1 S ⟨H1, M1, S.s, e1⟩ b a ∧ PostS G W S (k a e1) D := by
  cases o with
  | ok a e => exact fun b H' M' h1 h2 h3 => ⟨a, e, M', h1, h2, h3, h⟩
  | exc x e => exact fun c d H' M' h1 h2 h3 => h c d S.s H' M' h1 h2 h3
  | bad => exact h
def sNext : SS := fun e => .ok .nx e
def seqK (g : SS) (fl : Fl) (e : SEnv) : Out Fl := match fl with
  | .nx => g e
  | fl => .ok fl e
def sSeq (f g : SS) : SS := fun e => (f e).bind (seqK g)
theorem EndOk.back {G : GX} {S S1 S' : SX} (f : Fr G S S1) {D : Ends} {fl : Fl} (h : EndOk G S S' D fl) : EndOk G S1 S' D fl := h.shift f
section
variable {X : Cx} {Y : GY} {W : WX}
theorem db_nil : DenB X Y W [] sNext := PSs.weak pss_nil fun D s H ⟨M, e, ok, p⟩ => p s H M ok (Fr.refl _ _)
theorem seq_post {G : GX} {S : SX} {f g : SS} {D : Ends} (h : PostS G W S (sSeq f g S.e) D) : PostS G W S (f S.e) { D with nx := tS G W g D } := by
  unfold sSeq at h
  cases q : f S.e with
  | ok fl e1 =>
    rw [q] at h
    have h' : PostS G W S (seqK g fl e1) D := h
    cases fl with
    | nx => exact fun s' H' M' h1 h2 => ⟨M', e1, h1, h'.shift h2⟩
    | bk => exact h'
    | ct => exact h'
    | rt p => exact h'
  | exc x e1 =>
    rw [q] at h
    exact h
  | bad =>
    rw [q] at h
    exact h
theorem db_cons {st : Stmt} {rest : List Stmt} {f g : SS} (h : DenS X Y W st f) (r : DenB X Y W rest g) : DenB X Y W (st :: rest) (sSeq f g) := PSs.weak (pss_cons h r) fun D s H ⟨M, e, ok, p⟩ => ⟨M, e, ok, seq_post (S := ⟨H, M, s, e⟩) p⟩
theorem db_one {st : Stmt} {f : SS} (h : DenS X Y W st f) : DenB X Y W [st] f := PSs.weak (pss_one h) fun D s H h => h
theorem ds_pass {pos} : DenS X Y W (.Pass pos) sNext := PS.weak ps_pass fun D s H ⟨M, e, ok, p⟩ => p s H M ok (Fr.refl _ _)
def sBreak : SS := fun e => .ok .bk e
def sCont : SS := fun e => .ok .ct e
theorem ds_break {pos} : DenS X Y W (.Break pos) sBreak := PS.weak ps_break fun D s H ⟨M, e, ok, p⟩ => p s H M ok (Fr.refl _ _)
theorem ds_cont {pos} : DenS X Y W (.Continue pos) sCont := PS.weak ps_continue fun D s H ⟨M, e, ok, p⟩ => p s H M ok (Fr.refl _ _)
def sDrop (f : SE) : SS := fun e => (f e).bind fun _ e1 => .ok .nx e1
theorem ds_expr {x : Expr} {f : SE} {pos : Pos} (h : DenE X Y W x f) (hs : swapsWith x none pos.line X.env = pure false := by rfl) : DenS X Y W (.Expr x pos) (sDrop f) :=
  PS.weak (ps_expr h hs) fun D s H ⟨M, e, ok, p⟩ => ⟨M, e, ok, Post.mono (PostS.bindE (R1 := Res (gx X Y)) p) fun v H1 ⟨a, e1, M1, ok1, f1, r1, p1⟩ => p1 s H1 M1 ok1 f1⟩
/-- a list of one's own at slot i, given back -/
def sRet (f : SE) : SS := fun e => (f e).bind fun p e1 => .ok (.rt p) e1
theorem ds_ret {x : Expr} {f : SE} {pos : Pos} (h : DenE X Y W x f) : DenS X Y W (.Return (some x) pos) (sRet f) :=
  PS.weak (ps_ret h) fun D s H ⟨M, e, ok, p⟩ => ⟨M, e, ok, Post.mono (PostS.bindE (R1 := Res (gx X Y)) p) fun v H1 ⟨a, e1, M1, ok1, f1, r1, p1⟩ => p1 s H1 M1 ok1 f1 v r1⟩
def sRetN : SS := fun e => .ok (.rt (.dat .none)) e
theorem ds_retN {pos} : DenS X Y W (.Return none pos) sRetN := PS.weak ps_retN fun D s H ⟨M, e, ok, p⟩ => p s H M ok (Fr.refl _ _) .non (res_dat .non)
/-- a name's list is moved out -/
theorem SOk.move {G : GX} {S : SX} (ok : SOk G S) {i : Nat} {ds : List D} (hi : S.e[i]? = some (some (.own ds))) :
    ∃ v, S.s[i]? = some (some v) ∧ SOk G ⟨S.H, S.M, S.s, S.e.set i none⟩ ∧ Fr G S ⟨S.H, S.M, S.s, S.e.set i none⟩ ∧ Res G S ⟨S.H, S.M, S.s, S.e.set i none⟩ v (.own ds) := by
  have hl : i < S.e.length := (List.getElem?_eq_some_iff.mp hi).1
  have back : ∀ (j : Nat) (p : PV), (S.e.set i none)[j]? = some (some p) → S.e[j]? = some (some p) ∧ j ≠ i := fun j p h => by
    by_cases hij : i = j
    · subst hij
      rw [List.getElem?_set_self hl] at h
      cases h
    · rw [List.getElem?_set_ne hij] at h
      exact ⟨h, fun z => hij z.symm⟩
  obtain ⟨v, hv, r⟩ := ok.slot i _ hi
  have ow : ∀ a, OwnA ⟨S.H, S.M, S.s, S.e.set i none⟩ a → OwnA S a := fun a ⟨j, es, h1, h2⟩ => ⟨j, es, (back j _ h1).1, h2⟩
  refine ⟨v, hv, ⟨?_, fun j p hj => ok.slot j p (back j p hj).1, fun j k es fs w h1 h2 => ok.apart j k es fs w (back j _ h1).1 (back k _ h2).1, ok.trk, ok.tabs⟩, ⟨fun _ _ h _ _ => h, fun _ o h t => ⟨o, h, t⟩, fun _ _ _ _ m _ => m, fun _ m => .inl m, fun a z => .inl (ow a z), fun _ _ => rfl⟩, r, fun es a e1 e2 => ?_⟩
  · show (S.e.set i none).length = _
    rw [List.length_set]
    exact ok.len
  · cases e1
    subst e2
    refine ⟨fun ⟨j, es, h1, h2⟩ => ?_, .inr ⟨i, ds, hi, hv⟩⟩
    obtain ⟨h3, h4⟩ := back j _ h1
    exact h4 (ok.apart j i es ds _ h3 hi h2 hv)
def sMove (i : Nat) : SE := fun e => match e[i]? with
  | some (some (.own ds)) => .ok (.own ds) (e.set i none)
  | some (some (.dat d)) => .ok (.dat d) e
  | some (some (.scr ns)) => .ok (.scr ns) e
  | _ => .bad
theorem de_move (i : Nat) {x : Str} {pos : Pos} (hN : X.N[i]? = some x := by rfl) (hv : Vis X.env.scope x := by first | exact Or.inl rfl | exact Or.inr (Or.inl rfl) | exact Or.inr (Or.inr rfl)) (hd : (x == ("__debug__" : Str)) = false := by decide)
    (hcd : (x == ("__classdict__" : Str)) = false := by decide) : DenE X Y W (.Name x pos) (sMove i) := by
  refine PE.weak (pe_var (i := i) hN hv hd hcd) fun s H Q ⟨M, e, ok, p⟩ => ?_
  unfold sMove at p
  split at p
  · rename_i ds h
    obtain ⟨v, hv, ok', f, r⟩ := ok.move h
    exact ⟨_, hv, p _ H M ok' f r⟩
  · rename_i d h
    obtain ⟨v, hv, r⟩ := ok.slot i _ h
    exact ⟨v, hv, post_here ok p v (res_dat r)⟩
  · rename_i ns h
    obtain ⟨v, hv, r⟩ := ok.slot i _ h
    exact ⟨v, hv, post_here ok p v ⟨r, fun _ _ z => nomatch z⟩⟩
  · exact p.elim
def sIfS (c : ST) (f g : SS) : SS := fun e => (c e).bind fun k e1 => if k then f e1 else g e1
theorem ds_if {c : Expr} {a b : List Stmt} {fc : ST} {fa fb : SS} {pos : Pos} (hc : DenT X Y W c fc) (ha : DenB X Y W a fa) (hb : DenB X Y W b fb) : DenS X Y W (.If c a b pos) (sIfS fc fa fb) :=
  PS.weak (ps_if hc ha hb) fun D s H ⟨M, e, ok, p⟩ => ⟨M, e, ok, Post.mono (PostS.bindE (R1 := RB (gx X Y)) p) fun k H1 ⟨a, e1, M1, ok1, f1, r1, p1⟩ => by
    obtain rfl : k = a := r1
    cases k with
    | true => exact ⟨M1, e1, ok1, p1.shift f1⟩
    | false => exact ⟨M1, e1, ok1, p1.shift f1⟩⟩
/-- what is never reached, or what has no meaning here -/
def sBad : SS := fun _ => .bad
theorem ds_never {st : Stmt} : DenS X Y W st sBad := PS.weak ps_never fun D s H ⟨M, e, ok, p⟩ => p
/-! ### names are stored -/
theorem SOk.setS {G : GX} {S S1 : SX} (ok : SOk G S1) (f : Fr G S S1) {i : Nat} {v : V} {p : PV} (hi : i ∉ G.fix) (r : Res G S S1 v p) (hc : p ≠ .clo) :
    SOk G ⟨S1.H, S1.M, S1.s.set i (some v), S1.e.set i (some p)⟩ ∧ Fr G S ⟨S1.H, S1.M, S1.s.set i (some v), S1.e.set i (some p)⟩ := by
  have old : ∀ (j : Nat) (q : PV), i ≠ j → (S1.e.set i (some p))[j]? = some (some q) → S1.e[j]? = some (some q) := fun j q h e => by
    rw [List.getElem?_set_ne h] at e
    exact e
  have olds : ∀ (j : Nat), i ≠ j → (S1.s.set i (some v))[j]? = S1.s[j]? := fun j h => List.getElem?_set_ne h
  have at_ : ∀ q : PV, (S1.e.set i (some p))[i]? = some (some q) → q = p ∧ (S1.s.set i (some v))[i]? = some (some v) := fun q e => by
    by_cases hl : i < S1.e.length
    · rw [List.getElem?_set_self hl] at e
      cases e
      exact ⟨rfl, List.getElem?_set_self (by rw [← ok.len]; exact hl)⟩
    · rw [List.getElem?_eq_none (by simpa using Nat.le_of_not_lt hl)] at e
      cases e
  have ow : ∀ a, OwnA ⟨S1.H, S1.M, S1.s.set i (some v), S1.e.set i (some p)⟩ a → OwnA S1 a ∨ (∃ ds, p = .own ds ∧ v = .ref a) := fun a ⟨j, ds, h1, h2⟩ => by
    by_cases hij : i = j
    · subst hij
      obtain ⟨e1, e2⟩ := at_ _ h1
      have h2' : (S1.s.set i (some v))[i]? = some (some (V.ref a)) := h2
      rw [e2] at h2'
      cases h2'
      exact .inr ⟨ds, e1.symm, rfl⟩
    · exact .inl ⟨j, ds, old j _ hij h1, by rw [← olds j hij]; exact h2⟩
  refine ⟨⟨?_, fun j q hj => ?_, fun j k es fs w hj hk h1 h2 => ?_, ok.trk, ok.tabs⟩, ⟨f.keep, f.there, f.mkeep, f.mnew, fun a z => ?_, fun j hj => ?_⟩⟩
  · show (S1.e.set i _).length = (S1.s.set i _).length
    rw [List.length_set, List.length_set]
    exact ok.len
  · by_cases hij : i = j
    · subst hij
      obtain ⟨e1, e2⟩ := at_ q hj
      subst e1
      exact ⟨v, e2, r.1⟩
    · obtain ⟨w, hw, rw'⟩ := ok.slot j q (old j q hij hj)
      exact ⟨w, by show (S1.s.set i _)[j]? = _; rw [olds j hij]; exact hw, rw'⟩
  · by_cases hij : i = j
    · subst hij
      by_cases hik : i = k
      · exact hik
      · obtain ⟨e1, e2⟩ := at_ _ hj
        have h1' : (S1.s.set i (some v))[i]? = some (some w) := h1
        rw [e2] at h1'
        cases h1'
        exfalso
        obtain ⟨a, vs, ea, _⟩ : PRep G S1.H S1.M v (.own es) := by rw [e1]; exact r.1
        have h2' : (S1.s.set i (some v))[k]? = some (some v) := h2
        rw [olds k hik, ea] at h2'
        exact (r.2 es a e1.symm ea).1 ⟨k, fs, old k _ hik hk, h2'⟩
    · by_cases hik : i = k
      · subst hik
        obtain ⟨e1, e2⟩ := at_ _ hk
        have h2' : (S1.s.set i (some v))[i]? = some (some w) := h2
        rw [e2] at h2'
        cases h2'
        exfalso
        obtain ⟨a, vs, ea, _⟩ : PRep G S1.H S1.M v (.own fs) := by rw [e1]; exact r.1
        have h1' : (S1.s.set i (some v))[j]? = some (some v) := h1
        rw [olds j hij, ea] at h1'
        exact (r.2 fs a e1.symm ea).1 ⟨j, es, old j _ hij hj, h1'⟩
      · have h1' : (S1.s.set i (some v))[j]? = some (some w) := h1
        have h2' : (S1.s.set i (some v))[k]? = some (some w) := h2
        rw [olds j hij] at h1'
        rw [olds k hik] at h2'
        exact ok.apart j k es fs w (old j _ hij hj) (old k _ hik hk) h1' h2'
  · rcases ow a z with q | ⟨ds, e1, e2⟩
    · exact f.own a q
    · rcases (r.2 ds a e1 e2).2 with q | q
      · exact .inr q
      · exact .inl q
  · have : i ≠ j := fun z => hi (by rw [z]; exact hj)
    show (S1.s.set i _)[j]? = _
    rw [olds j this]
    exact f.fix j hj
def setK (i : Nat) (p : PV) (e : SEnv) : Out Fl := match p with
  | .clo => .bad
  | p => .ok .nx (e.set i (some p))
def sSet (i : Nat) (f : SE) : SS := fun e => (f e).bind (setK i)
theorem ds_set {i : Nat} {x : Str} {y : Expr} {f : SE} {p2 pos : Pos} (nd : X.N.Nodup) (h : DenE X Y W y f) (hi : i ∉ Y.fix := by first | decide | (dsimp only; decide)) (hN : X.N[i]? = some x := by rfl) (hx : Loc X.env.scope x := by first | exact Or.inl rfl | exact Or.inr rfl)
    (hs : swapsWith y (some (.Name x p2)) pos.line X.env = pure false := by rfl) (hf : X.fn x = true ∨ X.env.scope.names.lookup x = some .local := by first | exact .inl rfl | exact .inr rfl | assumption) : DenS X Y W (.Assign [.Name x p2] y pos) (sSet i f) := by
  refine PS.weak (ps_set nd hN hx h hs hf) fun D s H ⟨M, e, ok, p⟩ => ⟨M, e, ok, Post.mono (PostS.bindE (R1 := Res (gx X Y)) p) fun v H1 ⟨a, e1, M1, ok1, f1, r1, p1⟩ => ?_⟩
  have hc : a ≠ .clo := fun z => by
    subst z
    exact p1
  have p1' : PostS (gx X Y) W ⟨H, M, s, e⟩ (.ok .nx (e1.set i (some a))) D := by
    cases a <;> first | exact p1 | exact absurd rfl hc
  obtain ⟨ok2, f2⟩ := ok1.setS f1 (i := i) hi r1 hc
  exact p1' _ _ _ ok2 f2
end
end SM
namespace SM
open PySem PySem.Spec PyProof.Rows L2

/-! ## targets -/
abbrev SG := D → SEnv → Option SEnv
abbrev SGs := List D → SEnv → Option SEnv
theorem wipe_get (s : L2.St) (j : Nat) : ∀ ws : List Nat, (wipe s ws)[j]? = if j ∈ ws then (if j < s.length then some none else none) else s[j]?
  | [] => by simp [wipe]
  | w :: ws => by
    unfold wipe
    by_cases h : w = j
    · subst h
      rw [if_pos List.mem_cons_self]
      by_cases hl : w < s.length
      · rw [List.getElem?_set_self (by rw [wipe_length]; exact hl), if_pos hl]
      · rw [List.getElem?_eq_none (by rw [List.length_set, wipe_length]; exact Nat.le_of_not_lt hl), if_neg hl]
    · rw [List.getElem?_set_ne h, wipe_get s j ws]
      have : j ∈ w :: ws ↔ j ∈ ws := by
        rw [List.mem_cons]
        exact ⟨fun z => z.elim (fun q => absurd q.symm h) id, .inr⟩
      simp only [this]
theorem wipe_set {s : L2.St} {i : Nat} {v : Option V} {ws : List Nat} (h : i ∈ ws) : wipe (s.set i v) ws = wipe s ws := by
  apply List.ext_getElem?
  intro j
  rw [wipe_get, wipe_get, List.length_set]
  by_cases hj : j ∈ ws
  · rw [if_pos hj, if_pos hj]
  · rw [if_neg hj, if_neg hj]
    exact List.getElem?_set_ne (fun z : i = j => hj (by rw [← z]; exact h))
/-- ws: the slots that it may store to -/
def tTg (G : GX) (ws : List Nat) (g : SG) : TG := fun v s H Q => ∃ M e d e', SOk G ⟨H, M, s, e⟩ ∧ Rep G.K H M v d ∧ g d e = some e' ∧ ∀ s', SOk G ⟨H, M, s', e'⟩ → Fr G ⟨H, M, s, e⟩ ⟨H, M, s', e'⟩ → wipe s' ws = wipe s ws → Q s' H
def tTgs (G : GX) (ws : List Nat) (g : SGs) : TGs := fun vs s H Q => ∃ M e ds e', SOk G ⟨H, M, s, e⟩ ∧ RepAll G.K H M vs ds ∧ g ds e = some e' ∧ ∀ s', SOk G ⟨H, M, s', e'⟩ → Fr G ⟨H, M, s, e⟩ ⟨H, M, s', e'⟩ → wipe s' ws = wipe s ws → Q s' H
def DenG (X : Cx) (Y : GY) (ws : List Nat) (tg : Expr) (g : SG) : Prop := PG X tg (tTg (gx X Y) ws g)
def DenGs (X : Cx) (Y : GY) (ws : List Nat) (tgs : List Expr) (g : SGs) : Prop := PGs X tgs (tTgs (gx X Y) ws g)
theorem PG.weak {X : Cx} {x : Expr} {t t' : TG} (h : PG X x t) (k : ∀ v s H Q, t' v s H Q → t v s H Q) : PG X x t' := ⟨fun pins s σ H v u Q I r q => h.run pins s σ H v u Q I r (k _ _ _ _ q)⟩
theorem PGs.weak {X : Cx} {x : List Expr} {t t' : TGs} (h : PGs X x t) (k : ∀ v s H Q, t' v s H Q → t v s H Q) : PGs X x t' := ⟨fun pins s σ H v u Q I r q => h.run pins s σ H v u Q I r (k _ _ _ _ q)⟩
theorem PI.weak {X : Cx} {tg x : Expr} {t t' : TI} (h : PI X tg x t) (k : ∀ s H Q, t' s H Q → t s H Q) : PI X tg x t' := ⟨fun pins s σ H R I q => h.run pins s σ H R I (k _ _ _ q)⟩
def gNm (i : Nat) : SG := fun d e => some (e.set i (some (.dat d)))
def gsNil : SGs := fun ds e => match ds with
  | [] => some e
  | _ => none
def gsCons (g : SG) (gs : SGs) : SGs := fun ds e => match ds with
  | d :: r => match g d e with
    | some e1 => gs r e1
    | none => none
  | [] => none
def gTp (n : Nat) (gs : SGs) : SG := fun d e => match d with
  | .tuple ds => if ds.length = n then gs ds e else none
  | _ => none
def gLs (n : Nat) (gs : SGs) : SG := fun d e => match d with
  | .list ds => if ds.length = n then gs ds e else none
  | _ => none
section
variable {X : Cx} {Y : GY} {W : WX} {ws : List Nat}
theorem dg_nm (i : Nat) {x : Str} {pos : Pos} (nd : X.N.Nodup) (hi : i ∉ Y.fix := by first | decide | (dsimp only; decide)) (hw : i ∈ ws := by decide) (hN : X.N[i]? = some x := by rfl) (hx : Loc X.env.scope x := by first | exact Or.inl rfl | exact Or.inr rfl) (hf : X.fn x = true ∨ X.env.scope.names.lookup x = some .local := by first | exact .inl rfl | exact .inr rfl | assumption) : DenG X Y ws (.Name x pos) (gNm i) := by
  refine PG.weak (pg_name nd hN hx hf) fun v s H Q ⟨M, e, d, e', ok, r, hg, q⟩ => ?_
  cases hg
  obtain ⟨ok', f'⟩ := ok.setS (Fr.refl _ _) (i := i) hi (res_dat r) (fun z => nomatch z)
  exact q _ ok' f' (wipe_set hw)
theorem dgs_nil : DenGs X Y ws [] gsNil := PGs.weak pgs_nil fun vs s H Q ⟨M, e, ds, e', ok, r, hg, q⟩ => by
  cases r with
  | nil =>
    cases hg
    exact ⟨rfl, q s ok (Fr.refl _ _) rfl⟩
  | cons _ _ => cases hg
theorem dgs_cons {x : Expr} {xs : List Expr} {g : SG} {gs : SGs} (h : DenG X Y ws x g) (hs : DenGs X Y ws xs gs) (ha : (assignEach (x :: xs) X.env).map (·.2) = assign x X.env :: (assignEach xs X.env).map (·.2) := by rfl) : DenGs X Y ws (x :: xs) (gsCons g gs) :=
  PGs.weak (pgs_cons h hs ha) fun vs s H Q ⟨M, e, ds, e', ok, r, hg, q⟩ => by
    match vs, ds, r, hg with
    | v :: vs', d :: ds', .cons r0 rr, hg =>
      have hg' : (match g d e with | some e1 => gs ds' e1 | none => none) = some e' := hg
      cases q1 : g d e with
      | none =>
        rw [q1] at hg'
        cases hg'
      | some e1 =>
        rw [q1] at hg'
        exact ⟨v, vs', rfl, M, e, d, e1, ok, r0, q1, fun s1 ok1 f1 w1 => ⟨M, e1, ds', e', ok1, rr, hg', fun s2 ok2 f2 w2 => q s2 ok2 (f1.trans f2) (w2.trans w1)⟩⟩
    | [], [], .nil, hg => cases hg
theorem dg_tup {xs : List Expr} {k : Nat} {gs : SGs} {n : Nat} {pos : Pos} (hc : X.calm = true) (h : DenGs X Y ws xs gs) (hn : (assignEach xs X.env).length = n := by rfl) (hst : (assignEach xs X.env).findIdx? (·.1) = none := by rfl) : DenG X Y ws (.Tuple xs k pos) (gTp n gs) :=
  PG.weak (pg_tup hc h hn hst) fun v s H Q ⟨M, e, d, e', ok, r, hg, q⟩ => by
    unfold gTp at hg
    split at hg
    · split at hg
      · rename_i ds hl
        cases r with
        | tup hz rr => exact ⟨_, _, rfl, hz.sq, rr.length.trans hl, M, e, ds, e', ok, rr, hg, q⟩
      · cases hg
    · cases hg
theorem dg_lst {xs : List Expr} {k : Nat} {gs : SGs} {n : Nat} {pos : Pos} (hc : X.calm = true) (h : DenGs X Y ws xs gs) (hn : (assignEach xs X.env).length = n := by rfl) (hst : (assignEach xs X.env).findIdx? (·.1) = none := by rfl) : DenG X Y ws (.Tuple xs k pos) (gLs n gs) :=
  PG.weak (pg_lst hc h hn hst) fun v s H Q ⟨M, e, d, e', ok, r, hg, q⟩ => by
    unfold gLs at hg
    split at hg
    · split at hg
      · rename_i ds hl
        cases r with
        | lst hz _ rr => exact ⟨_, _, rfl, SqL.of hz, rr.length.trans hl, M, e, ds, e', ok, rr, hg, q⟩
      · cases hg
    · cases hg
/-- target = value, the value data -/
def asgK (g : SG) (p : PV) (e : SEnv) : Out Fl := match p with
  | .dat d => match g d e with
    | some e' => .ok .nx e'
    | none => .bad
  | _ => .bad
def sAsg (g : SG) (f : SE) : SS := fun e => (f e).bind (asgK g)
theorem ds_asg {tg x : Expr} {f : SE} {g : SG} {pos : Pos} (h : DenE X Y W x f) (hg : DenG X Y ws tg g) (hs : swapsWithSole [tg] x pos.line X.env = pure false := by rfl) (hw : swappedStores [tg] x X.env = pure none := by rfl)
    (h1 : (assignEach [tg] X.env).map (·.2) = [assign tg X.env] := by rfl) : DenS X Y W (.Assign [tg] x pos) (sAsg g f) := by
  refine PS.weak (ps_asg h hg hs hw h1) fun D s H ⟨M, e, ok, p⟩ => ⟨M, e, ok, Post.mono (PostS.bindE (R1 := Res (gx X Y)) p) fun v H1 ⟨a, e1, M1, ok1, f1, r1, p1⟩ => ?_⟩
  cases a with
  | dat d =>
    have p1' : PostS (gx X Y) W ⟨H, M, s, e⟩ (match g d e1 with | some e' => .ok .nx e' | none => .bad) D := p1
    cases q : g d e1 with
    | none =>
      rw [q] at p1'
      exact p1'.elim
    | some e' =>
      rw [q] at p1'
      exact ⟨M1, e1, d, e', ok1, r1.1, q, fun s' ok' f' _ => p1' _ _ _ ok' (f1.trans f')⟩
  | own ds => exact p1.elim
  | clo => exact p1.elim
  | exn x => exact p1.elim
  | scr ns => exact p1.elim
/-- a, b = x, y -/
def parK (i j : Nat) (e : SEnv) : Option (List D) → Out Fl
  | some [a, b] => .ok .nx ((e.set i (some (.dat a))).set j (some (.dat b)))
  | _ => .bad
def sPar (i j : Nat) (os : List Opd) : SS := fun e => (opds os e).bind fun ps e1 => parK i j e1 (datAll ps)
theorem ds_par {i j : Nat} {x y : Str} {a b : Expr} {os : List Opd} {px py pt pos : Pos} {kt k2 pt2} (hc : X.calm = true) (nd : X.N.Nodup) (ha : DenA X Y W [a, b] os) (hfi : i ∉ Y.fix := by first | decide | (dsimp only; decide)) (hfj : j ∉ Y.fix := by first | decide | (dsimp only; decide)) (hi : X.N[i]? = some x := by rfl) (hj : X.N[j]? = some y := by rfl) (hij : i ≠ j := by decide)
    (hx : X.env.scope.names.lookup x = some .local := by rfl) (hy : X.env.scope.names.lookup y = some .local := by rfl)
    (hw : swappedStores [.Tuple [.Name x px, .Name y py] kt pt] (.Tuple [a, b] k2 pt2) X.env = pure (some [x, y]) := by rfl)
    (hs : swapsWithSole [.Tuple [.Name x px, .Name y py] kt pt] (.Tuple [a, b] k2 pt2) pos.line X.env = pure false := by rfl) :
    DenS X Y W (.Assign [.Tuple [.Name x px, .Name y py] kt pt] (.Tuple [a, b] k2 pt2) pos) (sPar i j os) := by
  refine PS.weak (ps_par hc nd hi hj hij hx hy ha hw hs) fun D s H ⟨M, e, ok, p⟩ => ⟨M, e, ok, Post.mono (PostS.bindE (R1 := RAs (gx X Y)) p) fun vs H1 ⟨ps, e1, M1, ok1, f1, r1, p1⟩ => ?_⟩
  cases q : datAll ps with
  | none =>
    rw [q] at p1
    exact p1.elim
  | some ds =>
    rw [q] at p1
    have ra := datAll_rep r1 q
    unfold parK at p1
    split at p1
    · rename_i u v heq
      cases heq
      cases ra with
      | cons ru rr =>
        cases rr with
        | cons rv rn =>
          cases rn
          obtain ⟨ok2, f2⟩ := ok1.setS f1 (i := i) hfi (res_dat ru) (fun z => nomatch z)
          obtain ⟨ok3, f3⟩ := ok2.setS f2 (i := j) hfj (res_dat rv) (fun z => nomatch z)
          exact ⟨_, _, rfl, p1 _ _ _ ok3 f3⟩
    · exact p1.elim
def par3K (i j k : Nat) (e : SEnv) : Option (List D) → Out Fl
  | some [a, b, c] => .ok .nx (((e.set i (some (.dat a))).set j (some (.dat b))).set k (some (.dat c)))
  | _ => .bad
def sPar3 (i j k : Nat) (os : List Opd) : SS := fun e => (opds os e).bind fun ps e1 => par3K i j k e1 (datAll ps)
theorem ds_par3 {i j l : Nat} {x y z : Str} {a b c : Expr} {os : List Opd} {px py pz pt pos : Pos} {kt k2 pt2} (hc : X.calm = true) (nd : X.N.Nodup) (ha : DenA X Y W [a, b, c] os) (hfi : i ∉ Y.fix := by first | decide | (dsimp only; decide)) (hfj : j ∉ Y.fix := by first | decide | (dsimp only; decide)) (hfl : l ∉ Y.fix := by first | decide | (dsimp only; decide)) (hi : X.N[i]? = some x := by rfl) (hj : X.N[j]? = some y := by rfl) (hl : X.N[l]? = some z := by rfl) (hij : i ≠ j := by decide) (hil : i ≠ l := by decide) (hjl : j ≠ l := by decide)
    (hx : X.env.scope.names.lookup x = some .local := by rfl) (hy : X.env.scope.names.lookup y = some .local := by rfl) (hz : X.env.scope.names.lookup z = some .local := by rfl)
    (hw : swappedStores [.Tuple [.Name x px, .Name y py, .Name z pz] kt pt] (.Tuple [a, b, c] k2 pt2) X.env = pure (some [x, y, z]) := by rfl)
    (hs : swapsWithSole [.Tuple [.Name x px, .Name y py, .Name z pz] kt pt] (.Tuple [a, b, c] k2 pt2) pos.line X.env = pure false := by rfl) :
    DenS X Y W (.Assign [.Tuple [.Name x px, .Name y py, .Name z pz] kt pt] (.Tuple [a, b, c] k2 pt2) pos) (sPar3 i j l os) := by
  refine PS.weak (ps_par3 hc nd hi hj hl hij hil hjl hx hy hz ha hw hs) fun D s H ⟨M, e, ok, p⟩ => ⟨M, e, ok, Post.mono (PostS.bindE (R1 := RAs (gx X Y)) p) fun vs H1 ⟨ps, e1, M1, ok1, f1, r1, p1⟩ => ?_⟩
  cases q : datAll ps with
  | none =>
    rw [q] at p1
    exact p1.elim
  | some ds =>
    rw [q] at p1
    have ra := datAll_rep r1 q
    unfold par3K at p1
    split at p1
    · rename_i u v w heq
      cases heq
      cases ra with
      | cons ru rr =>
        cases rr with
        | cons rv rr =>
          cases rr with
          | cons rw' rn =>
            cases rn
            obtain ⟨ok2, f2⟩ := ok1.setS f1 (i := i) hfi (res_dat ru) (fun z => nomatch z)
            obtain ⟨ok3, f3⟩ := ok2.setS f2 (i := j) hfj (res_dat rv) (fun z => nomatch z)
            obtain ⟨ok4, f4⟩ := ok3.setS f3 (i := l) hfl (res_dat rw') (fun z => nomatch z)
            exact ⟨_, _, _, rfl, p1 _ _ _ ok4 f4⟩
    · exact p1.elim
/-! ## what loops walk -/
structure Walk (G : GX) (S : SX) (J : It) (ds : List D) : Prop where
  stop : ∀ S' i, SOk G S' → Fr G S S' → i = ds.length → J.stop i S'.H
  go : ∀ S' i d, SOk G S' → Fr G S S' → ds[i]? = some d → J.go i S'.H
  yld : ∀ S' i d x H', SOk G S' → Fr G S S' → ds[i]? = some d → J.yld i S'.H x H' → SOk G ⟨H', S'.M, S'.s, S'.e⟩ ∧ Fr G S' ⟨H', S'.M, S'.s, S'.e⟩ ∧ Rep G.K H' S'.M x d
def RW (G : GX) (S S' : SX) (J : It) (ds : List D) : Prop := Walk G S' J ds
theorem shift_rw {G : GX} : Shift G (RW G) := fun _ _ _ _ _ _ r => r
abbrev SI := SEnv → Out (List D)
def DenI (X : Cx) (Y : GY) (W : WX) (tg x : Expr) (f : SI) : Prop := PI X tg x (tO (gx X Y) W (RW (gx X Y)) f)
/-! ### walks -/
theorem walk_list {G : GX} {S : SX} {a : Addr} {ds : List D} (ok : SOk G S) (r : Rep G.K S.H S.M (.ref a) (.list ds)) : Walk G S (Itl G.K a) ds := by
  have at_ : ∀ S', SOk G S' → Fr G S S' → ∃ xs, SqL G.K S'.H a xs ∧ RepAll G.K S'.H S'.M xs ds := fun S' ok' f => by
    cases r.carry (f.carry ok) with
    | lst h _ rr => exact ⟨_, SqL.of h, rr⟩
  refine ⟨fun S' i ok' f hi => ?_, fun S' i d ok' f hd => ?_, fun S' i d x H' ok' f hd y => ?_⟩
  · obtain ⟨xs, h, rr⟩ := at_ S' ok' f
    exact ⟨xs, h, by rw [rr.length, hi]; exact Nat.le_refl _⟩
  · obtain ⟨xs, h, rr⟩ := at_ S' ok' f
    obtain ⟨v, hv, _⟩ := rr.get hd
    exact ⟨xs, v, h, hv⟩
  · obtain ⟨xs, h, rr⟩ := at_ S' ok' f
    obtain ⟨v, hv, rv⟩ := rr.get hd
    obtain ⟨e, y⟩ := y
    subst e
    have : some v = some x := hv.symm.trans (y xs h)
    cases this
    exact ⟨ok', Fr.refl _ _, rv⟩
theorem walk_tup {G : GX} {S : SX} {a : Addr} {ds : List D} (ok : SOk G S) (r : Rep G.K S.H S.M (.ref a) (.tuple ds)) : Walk G S (Itt G.K a) ds := by
  have at_ : ∀ S', SOk G S' → Fr G S S' → ∃ xs, SqT G.K S'.H a xs ∧ RepAll G.K S'.H S'.M xs ds := fun S' ok' f => by
    cases r.carry (f.carry ok) with
    | tup h rr => exact ⟨_, h.sq, rr⟩
  refine ⟨fun S' i ok' f hi => ?_, fun S' i d ok' f hd => ?_, fun S' i d x H' ok' f hd y => ?_⟩
  · obtain ⟨xs, h, rr⟩ := at_ S' ok' f
    exact ⟨xs, h, by rw [rr.length, hi]; exact Nat.le_refl _⟩
  · obtain ⟨xs, h, rr⟩ := at_ S' ok' f
    obtain ⟨v, hv, _⟩ := rr.get hd
    exact ⟨xs, v, h, hv⟩
  · obtain ⟨xs, h, rr⟩ := at_ S' ok' f
    obtain ⟨v, hv, rv⟩ := rr.get hd
    obtain ⟨e, y⟩ := y
    subst e
    have : some v = some x := hv.symm.trans (y xs h)
    cases this
    exact ⟨ok', Fr.refl _ _, rv⟩
def cpD (c : Nat) : D := .str ⟨#[c]⟩
def strDs (x : Str) : List D := x.cps.toList.map cpD
theorem walk_str {G : GX} {S : SX} (x : Str) : Walk G S (Its x) (strDs x) := by
  refine ⟨fun S' i ok' f hi => ?_, fun S' i d ok' f hd => ?_, fun S' i d y H' ok' f hd z => ?_⟩
  · show x.cps.size ≤ i
    rw [hi, strDs, List.length_map, Array.length_toList]
    exact Nat.le_refl _
  · have hl : i < (strDs x).length := (List.getElem?_eq_some_iff.mp hd).1
    rw [strDs, List.length_map, Array.length_toList] at hl
    exact hl
  · obtain ⟨e, c, hc, rfl⟩ := z
    subst e
    have : (strDs x)[i]? = some (cpD c) := by
      rw [strDs, List.getElem?_map, Array.getElem?_toList, hc]
      rfl
    rw [this] at hd
    cases hd
    exact ⟨ok', Fr.refl _ _, .str _⟩
def rngDs (lo : Int) (n : Nat) : List D := (List.range n).map fun i => PyData.int (lo + (i : Nat))
theorem rngDs_get {lo : Int} {n i : Nat} (h : i < n) : (rngDs lo n)[i]? = some (.int (lo + (i : Nat))) := by
  rw [rngDs, List.getElem?_map, List.getElem?_range h]
  rfl
theorem walk_rng {G : GX} {S : SX} (lo : Int) (n : Nat) : Walk G S (Itr lo n) (rngDs lo n) := by
  have hlen : (rngDs lo n).length = n := by rw [rngDs, List.length_map, List.length_range]
  refine ⟨fun S' i ok' f hi => ?_, fun S' i d ok' f hd => ?_, fun S' i d y H' ok' f hd z => ?_⟩
  · show n ≤ i
    rw [hi, hlen]
    exact Nat.le_refl _
  · have hl : i < (rngDs lo n).length := (List.getElem?_eq_some_iff.mp hd).1
    rw [hlen] at hl
    exact hl
  · have hl : i < (rngDs lo n).length := (List.getElem?_eq_some_iff.mp hd).1
    rw [hlen] at hl
    obtain ⟨e, rfl⟩ := z
    subst e
    rw [rngDs_get hl] at hd
    cases hd
    exact ⟨ok', Fr.refl _ _, .int _⟩
/-- any row of things: list, tuple, text -/
def iAny (K : PySem.W.Frag) (tl : TE) : TI := fun σ H R => tl σ H fun x H1 => (∃ a, x = .ref a ∧ (∃ xs, SqL K H1 a xs) ∧ R (Itl K a) H1) ∨ (∃ a, x = .ref a ∧ (∃ xs, SqT K H1 a xs) ∧ R (Itt K a) H1) ∨ (∃ z, x = .str z ∧ R (Its z) H1)
theorem pi_any {tg l : Expr} {tl : TE} (hl : PE X l tl) : PI X tg l (iAny X.K tl) := by
  refine ⟨fun pins s σ H R I h => thn (hl.run pins s σ H _ I h) fun v s1 ⟨x, H1, I1, r1, q1⟩ => ?_⟩
  rcases q1 with ⟨a, e, ⟨xs, hq⟩, q⟩ | ⟨a, e, ⟨xs, hq⟩, q⟩ | ⟨z, e, q⟩
  · subst e
    cases r1
    obtain ⟨its, rv, p, hz⟩ := I1.list hq
    exact wpAny_pyIter_list p.isList (pi_one (tk := s1.toks) I1 _ (turn_list a _) ⟨_, Heap.get?_push_size _ rfl, rfl, rfl⟩ q)
  · subst e
    cases r1
    obtain ⟨its, rv, p, hz⟩ := I1.tuple hq
    exact wpAny_pyIter_tuple (show s1.heap.IsTuple a its.toArray from p) (pi_one (tk := s1.toks) I1 _ (turn_tuple a _) ⟨_, Heap.get?_push_size _ rfl, rfl, rfl⟩ q)
  · subst e
    obtain ⟨t, rfl⟩ := r1
    cases ha : z.cps.all (· < 128)
    · exact wpAny_pyIter_wide ha (pi_one (tk := s1.toks) I1 _ (turn_str _ z t "str_iterator" (.inr rfl)) ⟨_, Heap.get?_push_size _ rfl, rfl, rfl⟩ q)
    · exact wpAny_pyIter_ascii ha (pi_one (tk := s1.toks) I1 _ (turn_str _ z t "str_ascii_iterator" (.inl rfl)) ⟨_, Heap.get?_push_size _ rfl, rfl, rfl⟩ q)
def rowD : D → Option (List D)
  | .list ds => some ds
  | .tuple ds => some ds
  | .str x => some (strDs x)
  | _ => none
def rowK (p : PV) (e : SEnv) : Out (List D) := match p with
  | .dat d => match rowD d with
    | some ds => .ok ds e
    | none => .bad
  | _ => .bad
def sRow (f : SE) : SI := fun e => (f e).bind rowK
theorem di_row {tg x : Expr} {f : SE} (h : DenE X Y W x f) : DenI X Y W tg x (sRow (sFrz f)) := by
  refine PI.weak (pi_any (de_frz h)) fun s H Q ⟨M, e, ok, p⟩ => ⟨M, e, ok, Post.mono (Post.bind (R1 := Res (gx X Y)) shift_rw p) fun v H1 ⟨a, e1, M1, ok1, f1, r1, p1⟩ => ?_⟩
  unfold rowK at p1
  split at p1
  · rename_i d
    split at p1
    · rename_i ds hd
      have r : Rep X.K H1 M1 v d := r1.1
      unfold rowD at hd
      split at hd
      · cases hd
        cases r with
        | lst h n rr => exact .inl ⟨_, rfl, ⟨_, SqL.of h⟩, post_here ok1 p1 _ (walk_list ok1 (.lst h n rr))⟩
      · cases hd
        cases r with
        | tup h rr => exact .inr (.inl ⟨_, rfl, ⟨_, h.sq⟩, post_here ok1 p1 _ (walk_tup ok1 (.tup h rr))⟩)
      · cases hd
        cases r
        exact .inr (.inr ⟨_, rfl, post_here ok1 p1 _ (walk_str _)⟩)
      · cases hd
    · exact p1.elim
  · exact p1.elim
/-! ### ranges -/
abbrev R62 : Int := 4611686018427387904
def in62 (i : Int) : Bool := decide (-R62 ≤ i) && decide (i < R62)
theorem in62_of {i : Int} (h : in62 i = true) : -(2 ^ 62) ≤ i ∧ i < 2 ^ 62 := by
  unfold in62 at h
  rw [Bool.and_eq_true] at h
  exact ⟨of_decide_eq_true h.1, of_decide_eq_true h.2⟩
def rngK1 (e : SEnv) : Option (List D) → Out (List D)
  | some [.int j] => if in62 j then .ok (rngDs 0 j.toNat) e else .bad
  | _ => .bad
def rngK2 (e : SEnv) : Option (List D) → Out (List D)
  | some [.int i, .int j] => if in62 i && in62 j then .ok (rngDs i (j - i).toNat) e else .bad
  | _ => .bad
def sRng1 (os : List Opd) : SI := fun e => (opds os e).bind fun ps e1 => rngK1 e1 (pks e1 ps)
def sRng2 (os : List Opd) : SI := fun e => (opds os e).bind fun ps e1 => rngK2 e1 (pks e1 ps)
theorem RepAll.un1 {K : PySem.W.Frag} {H : Hp} {M : Addr → Prop} {vs : List V} {d : D} (h : RepAll K H M vs [d]) : ∃ v, vs = [v] ∧ Rep K H M v d := by
  match vs, h with
  | [v], .cons r .nil => exact ⟨v, rfl, r⟩
theorem RepAll.un2 {K : PySem.W.Frag} {H : Hp} {M : Addr → Prop} {vs : List V} {d d' : D} (h : RepAll K H M vs [d, d']) : ∃ v w, vs = [v, w] ∧ Rep K H M v d ∧ Rep K H M w d' := by
  match vs, h with
  | [v, w], .cons r (.cons r' .nil) => exact ⟨v, w, rfl, r, r'⟩
theorem di_rng1 {tg a : Expr} {os : List Opd} {p pos : Pos} (hm : X.mg "range" = none) (ha : DenA X Y W [a] os) (hg : Gl X "range" := by rfl) (hs : starEach [a] X.env = [(false, eval a X.env)] := by rfl) : DenI X Y W tg (.Call (.Name "range" p) [a] [] pos) (sRng1 os) := by
  refine PI.weak (pi_range1 hg hm ha hs) fun s H Q ⟨M, e, ok, p⟩ => ⟨M, e, ok, Post.mono (Post.bind (R1 := RAs (gx X Y)) shift_rw p) fun vs H1 ⟨ps, e1, M1, ok1, f1, r1, p1⟩ => ?_⟩
  cases q : pks e1 ps with
  | none =>
    rw [q] at p1
    exact p1.elim
  | some ds =>
    rw [q] at p1
    have ra := pks_rep (S := ⟨H1, M1, s, e1⟩) ok1 r1 q
    unfold rngK1 at p1
    split at p1
    · rename_i j heq
      cases heq
      split at p1
      · rename_i h62
        obtain ⟨v, rfl, rv⟩ := ra.one
        obtain ⟨b1, b2⟩ := in62_of h62
        exact ⟨j, by rw [rv.int], b1, b2, post_here ok1 p1 _ (walk_rng 0 _)⟩
      · exact p1.elim
    · exact p1.elim
theorem di_rng2 {tg a b : Expr} {os : List Opd} {p pos : Pos} (hm : X.mg "range" = none) (ha : DenA X Y W [a, b] os) (hg : Gl X "range" := by rfl) (hs : starEach [a, b] X.env = [(false, eval a X.env), (false, eval b X.env)] := by rfl) (hs2 : starEach [b] X.env = [(false, eval b X.env)] := by rfl) : DenI X Y W tg (.Call (.Name "range" p) [a, b] [] pos) (sRng2 os) := by
  refine PI.weak (pi_range2 hg hm ha hs hs2) fun s H Q ⟨M, e, ok, p⟩ => ⟨M, e, ok, Post.mono (Post.bind (R1 := RAs (gx X Y)) shift_rw p) fun vs H1 ⟨ps, e1, M1, ok1, f1, r1, p1⟩ => ?_⟩
  cases q : pks e1 ps with
  | none =>
    rw [q] at p1
    exact p1.elim
  | some ds =>
    rw [q] at p1
    have ra := pks_rep (S := ⟨H1, M1, s, e1⟩) ok1 r1 q
    unfold rngK2 at p1
    split at p1
    · rename_i i j heq
      cases heq
      split at p1
      · rename_i h62
        rw [Bool.and_eq_true] at h62
        obtain ⟨v, w, rfl, rv, rw'⟩ := ra.two
        obtain ⟨b1, b2⟩ := in62_of h62.1
        obtain ⟨b3, b4⟩ := in62_of h62.2
        exact ⟨i, j, by rw [rv.int, rw'.int], ⟨b1, b2, b3, b4⟩, post_here ok1 p1 _ (walk_rng i _)⟩
      · exact p1.elim
    · exact p1.elim
/-! ### enumerate, zip -/
/-- a pair just made -/
theorem yld_pair {G : GX} {S : SX} {T : Addr} {v w : V} {d d' : D} (ok : SOk G S) (hT : S.H T = none) (r : Rep G.K S.H S.M v d) (r' : Rep G.K S.H S.M w d') :
    SOk G ⟨upd S.H T (.tup [v, w]), S.M, S.s, S.e⟩ ∧ Fr G S ⟨upd S.H T (.tup [v, w]), S.M, S.s, S.e⟩ ∧ Rep G.K (upd S.H T (.tup [v, w])) S.M (.ref T) (.tuple [d, d']) := by
  obtain ⟨ok', f⟩ := ok.grow (o := .tup [v, w]) hT S.M (fun _ m => m) (fun _ m => .inl m)
  refine ⟨ok', f, .tup (.inl ⟨.inl upd_same, fun z => ?_⟩) (.cons (r.carry (f.carry ok)) (.cons (r'.carry (f.carry ok)) .nil))⟩
  obtain ⟨o, ho, _⟩ := ok.trk T z
  rw [hT] at ho
  cases ho
def enDs : Nat → List D → List D
  | _, [] => []
  | i, d :: ds => .tuple [.int (i : Nat), d] :: enDs (i + 1) ds
theorem enDs_len : ∀ (i : Nat) (ds : List D), (enDs i ds).length = ds.length
  | _, [] => rfl
  | i, _ :: ds => congrArg (· + 1) (enDs_len (i + 1) ds)
theorem enDs_get : ∀ (k i : Nat) (ds : List D), (enDs k ds)[i]? = (ds[i]?).map fun d => PyData.tuple [.int ((k + i : Nat) : Nat), d]
  | _, _, [] => by simp [enDs]
  | k, 0, d :: ds => by simp [enDs]
  | k, i + 1, d :: ds => by
    have := enDs_get (k + 1) i ds
    simp only [enDs, List.getElem?_cons_succ]
    rw [this]
    have e : k + 1 + i = k + (i + 1) := by omega
    rw [e]
theorem walk_enum {G : GX} {S : SX} {a : Addr} {ds : List D} (ok : SOk G S) (r : Rep G.K S.H S.M (.ref a) (.list ds)) : Walk G S (Ite G.K a) (enDs 0 ds) := by
  have at_ : ∀ S', SOk G S' → Fr G S S' → ∃ xs, SqL G.K S'.H a xs ∧ RepAll G.K S'.H S'.M xs ds := fun S' ok' f => by
    cases r.carry (f.carry ok) with
    | lst h _ rr => exact ⟨_, SqL.of h, rr⟩
  have get : ∀ (i : Nat) (d : D), (enDs 0 ds)[i]? = some d → ∃ d' : D, ds[i]? = some d' ∧ d = .tuple [.int (i : Nat), d'] := fun i d h => by
    rw [enDs_get, Nat.zero_add] at h
    cases q : ds[i]? with
    | none =>
      rw [q] at h
      cases h
    | some d' =>
      rw [q] at h
      cases h
      exact ⟨d', rfl, rfl⟩
  refine ⟨fun S' i ok' f hi => ?_, fun S' i d ok' f hd => ?_, fun S' i d x H' ok' f hd y => ?_⟩
  · obtain ⟨xs, h, rr⟩ := at_ S' ok' f
    exact ⟨xs, h, by rw [rr.length, hi, enDs_len]; exact Nat.le_refl _⟩
  · obtain ⟨xs, h, rr⟩ := at_ S' ok' f
    obtain ⟨d', hd', rfl⟩ := get i d hd
    obtain ⟨v, hv, _⟩ := rr.get hd'
    exact ⟨xs, v, h, hv⟩
  · obtain ⟨xs, h, rr⟩ := at_ S' ok' f
    obtain ⟨d', hd', rfl⟩ := get i d hd
    obtain ⟨v, hv, rv⟩ := rr.get hd'
    obtain ⟨T, w, rfl, hT, rfl, y⟩ := y
    have : some v = some w := hv.symm.trans (y xs h)
    cases this
    exact yld_pair ok' hT (.int _) rv
def zpDs : List D → List D → List D
  | d :: ds, d' :: ds' => .tuple [d, d'] :: zpDs ds ds'
  | _, _ => []
theorem zpDs_get : ∀ (i : Nat) (xs ys : List D) (d : D), (zpDs xs ys)[i]? = some d → ∃ x y, xs[i]? = some x ∧ ys[i]? = some y ∧ d = .tuple [x, y]
  | i, [], ys, d, h => by simp [zpDs] at h
  | i, x :: xs, [], d, h => by simp [zpDs] at h
  | 0, x :: xs, y :: ys, d, h => by
    simp [zpDs] at h
    exact ⟨x, y, rfl, rfl, h.symm⟩
  | i + 1, x :: xs, y :: ys, d, h => by
    simp only [zpDs, List.getElem?_cons_succ] at h
    obtain ⟨x', y', h1, h2, h3⟩ := zpDs_get i xs ys d h
    exact ⟨x', y', by simpa using h1, by simpa using h2, h3⟩
theorem zpDs_len : ∀ (xs ys : List D), xs.length ≤ (zpDs xs ys).length ∨ ys.length ≤ (zpDs xs ys).length
  | [], ys => .inl (Nat.zero_le _)
  | x :: xs, [] => .inr (Nat.zero_le _)
  | x :: xs, y :: ys => by
    rcases zpDs_len xs ys with h | h
    · exact .inl (Nat.succ_le_succ h)
    · exact .inr (Nat.succ_le_succ h)
theorem walk_zipL {G : GX} {S : SX} {a b : Addr} {ds es : List D} (ok : SOk G S) (r : Rep G.K S.H S.M (.ref a) (.list ds)) (r' : Rep G.K S.H S.M (.ref b) (.list es)) : Walk G S (Itz G.K a b) (zpDs ds es) := by
  have at_ : ∀ S', SOk G S' → Fr G S S' → (∃ xs, SqL G.K S'.H a xs ∧ RepAll G.K S'.H S'.M xs ds) ∧ ∃ xs, SqL G.K S'.H b xs ∧ RepAll G.K S'.H S'.M xs es := fun S' ok' f => by
    cases r.carry (f.carry ok) with
    | lst h _ rr =>
      cases r'.carry (f.carry ok) with
      | lst h' _ rr' => exact ⟨⟨_, SqL.of h, rr⟩, _, SqL.of h', rr'⟩
  refine ⟨fun S' i ok' f hi => ?_, fun S' i d ok' f hd => ?_, fun S' i d x H' ok' f hd y => ?_⟩
  · obtain ⟨⟨xs, h, rr⟩, ys, h', rr'⟩ := at_ S' ok' f
    exact ⟨xs, ys, h, h', by rw [rr.length, rr'.length, hi]; exact zpDs_len _ _⟩
  · obtain ⟨⟨xs, h, rr⟩, ys, h', rr'⟩ := at_ S' ok' f
    obtain ⟨x, y, h1, h2, _⟩ := zpDs_get i _ _ d hd
    obtain ⟨v, hv, _⟩ := rr.get h1
    obtain ⟨w, hw, _⟩ := rr'.get h2
    exact ⟨xs, ys, v, w, h, h', hv, hw⟩
  · obtain ⟨⟨xs, h, rr⟩, ys, h', rr'⟩ := at_ S' ok' f
    obtain ⟨x', y', h1, h2, rfl⟩ := zpDs_get i _ _ d hd
    obtain ⟨v, hv, rv⟩ := rr.get h1
    obtain ⟨w, hw, rw'⟩ := rr'.get h2
    obtain ⟨T, p, q, rfl, hT, rfl, y1, y2⟩ := y
    have e1 : some v = some p := hv.symm.trans (y1 xs h)
    have e2 : some w = some q := hw.symm.trans (y2 ys h')
    cases e1
    cases e2
    exact yld_pair ok' hT rv rw'
theorem walk_zipT {G : GX} {S : SX} {a b : Addr} {ds es : List D} (ok : SOk G S) (r : Rep G.K S.H S.M (.ref a) (.tuple ds)) (r' : Rep G.K S.H S.M (.ref b) (.tuple es)) : Walk G S (RZ.ItzT G.K a b) (zpDs ds es) := by
  have at_ : ∀ S', SOk G S' → Fr G S S' → (∃ xs, SqT G.K S'.H a xs ∧ RepAll G.K S'.H S'.M xs ds) ∧ ∃ xs, SqT G.K S'.H b xs ∧ RepAll G.K S'.H S'.M xs es := fun S' ok' f => by
    cases r.carry (f.carry ok) with
    | tup h rr =>
      cases r'.carry (f.carry ok) with
      | tup h' rr' => exact ⟨⟨_, h.sq, rr⟩, _, h'.sq, rr'⟩
  refine ⟨fun S' i ok' f hi => ?_, fun S' i d ok' f hd => ?_, fun S' i d x H' ok' f hd y => ?_⟩
  · obtain ⟨⟨xs, h, rr⟩, ys, h', rr'⟩ := at_ S' ok' f
    exact ⟨xs, ys, h, h', by rw [rr.length, rr'.length, hi]; exact zpDs_len _ _⟩
  · obtain ⟨⟨xs, h, rr⟩, ys, h', rr'⟩ := at_ S' ok' f
    obtain ⟨x, y, h1, h2, _⟩ := zpDs_get i _ _ d hd
    obtain ⟨v, hv, _⟩ := rr.get h1
    obtain ⟨w, hw, _⟩ := rr'.get h2
    exact ⟨xs, ys, v, w, h, h', hv, hw⟩
  · obtain ⟨⟨xs, h, rr⟩, ys, h', rr'⟩ := at_ S' ok' f
    obtain ⟨x', y', h1, h2, rfl⟩ := zpDs_get i _ _ d hd
    obtain ⟨v, hv, rv⟩ := rr.get h1
    obtain ⟨w, hw, rw'⟩ := rr'.get h2
    obtain ⟨T, p, q, rfl, hT, rfl, y1, y2⟩ := y
    have e1 : some v = some p := hv.symm.trans (y1 xs h)
    have e2 : some w = some q := hw.symm.trans (y2 ys h')
    cases e1
    cases e2
    exact yld_pair ok' hT rv rw'
def enumK (e : SEnv) : Option (List D) → Out (List D)
  | some [.list ds] => .ok (enDs 0 ds) e
  | _ => .bad
def sEnum (os : List Opd) : SI := fun e => (opds os e).bind fun ps e1 => enumK e1 (datAll ps)
theorem di_enum {a : Expr} {os : List Opd} {p pos tpos : Pos} {elts : List Expr} {kk : Nat} (hm : X.mg "enumerate" = none) (ha : DenA X Y W [a] os) (hg : Gl X "enumerate" := by rfl) (hs : starEach [a] X.env = [(false, eval a X.env)] := by rfl) : DenI X Y W (.Tuple elts kk tpos) (.Call (.Name "enumerate" p) [a] [] pos) (sEnum os) := by
  refine PI.weak (pi_enum hg hm ha hs) fun s H Q ⟨M, e, ok, p⟩ => ⟨M, e, ok, Post.mono (Post.bind (R1 := RAs (gx X Y)) shift_rw p) fun vs H1 ⟨ps, e1, M1, ok1, f1, r1, p1⟩ => ?_⟩
  cases q : datAll ps with
  | none =>
    rw [q] at p1
    exact p1.elim
  | some ds =>
    rw [q] at p1
    have ra := datAll_rep r1 q
    unfold enumK at p1
    split at p1
    · rename_i es heq
      cases heq
      obtain ⟨v, rfl, r⟩ := ra.un1
      cases r with
      | lst h n rr => exact ⟨_, _, rfl, SqL.of h, post_here ok1 p1 _ (walk_enum ok1 (.lst h n rr))⟩
    · exact p1.elim
def zipK (e : SEnv) : Option (List D) → Out (List D)
  | some [.list ds, .list es] => .ok (zpDs ds es) e
  | some [.tuple ds, .tuple es] => .ok (zpDs ds es) e
  | _ => .bad
def sZip (os : List Opd) : SI := fun e => (opds os e).bind fun ps e1 => zipK e1 (datAll ps)
theorem di_zip {a b : Expr} {os : List Opd} {p pos tpos : Pos} {elts : List Expr} {kk : Nat} (hm : X.mg "zip" = none) (ha : DenA X Y W [a, b] os) (hg : Gl X "zip" := by rfl) (hs : starEach [a, b] X.env = (false, eval a X.env) :: starEach [b] X.env := by rfl) (hpl : (backTo pos (starEach [b] X.env)).any (·.1) = false := by rfl) : DenI X Y W (.Tuple elts kk tpos) (.Call (.Name "zip" p) [a, b] [] pos) (sZip os) := by
  refine PI.weak (RZ.pi_zipA hg hm ha hs hpl) fun s H Q ⟨M, e, ok, p⟩ => ⟨M, e, ok, Post.mono (Post.bind (R1 := RAs (gx X Y)) shift_rw p) fun vs H1 ⟨ps, e1, M1, ok1, f1, r1, p1⟩ => ?_⟩
  cases q : datAll ps with
  | none =>
    rw [q] at p1
    exact p1.elim
  | some ds =>
    rw [q] at p1
    have ra := datAll_rep r1 q
    unfold zipK at p1
    split at p1
    · rename_i ds1 es1 heq
      cases heq
      obtain ⟨v, w, rfl, r, r'⟩ := ra.un2
      cases r with
      | lst h n rr =>
        cases r' with
        | lst h' n' rr' => exact ⟨_, _, _, _, rfl, .inl ⟨SqL.of h, SqL.of h', post_here ok1 p1 _ (walk_zipL ok1 (.lst h n rr) (.lst h' n' rr'))⟩⟩
    · rename_i ds1 es1 heq
      cases heq
      obtain ⟨v, w, rfl, r, r'⟩ := ra.un2
      cases r with
      | tup h rr =>
        cases r' with
        | tup h' rr' => exact ⟨_, _, _, _, rfl, .inr ⟨h.sq, h'.sq, post_here ok1 p1 _ (walk_zipT ok1 (.tup h rr) (.tup h' rr'))⟩⟩
    · exact p1.elim
end
end SM
namespace SM
open PySem PySem.Spec PyProof.Rows L2

/-! ## loops -/
def forK (k : SS) (fl : Fl) (e : SEnv) : Out Fl := match fl with
  | .nx => k e
  | .ct => k e
  | .bk => .ok .nx e
  | .rt p => .ok (.rt p) e
def tgK (b : SS) : Option SEnv → Out Fl
  | some e => b e
  | none => .bad
def sForGo (g : SG) (b : SS) : List D → SS
  | [] => sNext
  | d :: ds => fun e => (tgK b (g d e)).bind (forK (sForGo g b ds))
def sFor (f : SI) (g : SG) (b : SS) : SS := fun e => (f e).bind fun ds e1 => sForGo g b ds e1
def sWhile (c : ST) (b : SS) : Nat → SS
  | 0 => fun _ => .bad
  | n + 1 => fun e => (c e).bind fun k e1 => if k then (b e1).bind (forK (sWhile c b n)) else .ok .nx e1
theorem for_post {G : GX} {W : WX} {S : SX} {k : SS} {o : Out Fl} {D : Ends} (h : PostS G W S (o.bind (forK k)) D) (N : L2.St → Hp → Prop) (hN : ∀ s' H' M' e', SOk G ⟨H', M', s', e'⟩ → Fr G S ⟨H', M', s', e'⟩ → PostS G W ⟨H', M', s', e'⟩ (k e') D → N s' H') : PostS G W S o { D with nx := N, ct := N, bk := D.nx } := by
  cases o with
  | ok fl e1 =>
    have h' : PostS G W S (forK k fl e1) D := h
    cases fl with
    | nx => exact fun s' H' M' h1 h2 => hN s' H' M' e1 h1 h2 (PostS.shift h2 h')
    | ct => exact fun s' H' M' h1 h2 => hN s' H' M' e1 h1 h2 (PostS.shift h2 h')
    | bk => exact h'
    | rt p => exact h'
  | exc x e1 => exact h
  | bad => exact h
section
variable {X : Cx} {Y : GY} {W : WX} {ws : List Nat}
theorem ds_for {tg it : Expr} {body : List Stmt} {f : SI} {g : SG} {b : SS} {pos : Pos} (hp : PassesOwn (model X.prog X.w) X.A X.env X.xe) (hc : X.calm = true) (hi : DenI X Y W tg it f) (hg : DenG X Y ws tg g) (hb : DenB X Y W body b)
    (hs : ∀ x, foldedSetIterable it X.env x = pure x := by intro _; rfl) : DenS X Y W (.For tg it body [] pos) (sFor f g b) := by
  refine PS.weak (ps_for hp hc hi hg hb hs) fun D s H ⟨M, e, ok, p⟩ => ⟨M, e, ok, Post.mono (PostS.bindE (R1 := RW (gx X Y)) p) fun J H1 ⟨ds, e1, M1, ok1, f1, w, p1⟩ => ?_⟩
  have p1' : PostS (gx X Y) W ⟨H1, M1, s, e1⟩ (sForGo g b ds e1) D := PostS.shift f1 p1
  refine ⟨fun i m σ H => m = ds.length - i ∧ i ≤ ds.length ∧ ∃ M e, SOk (gx X Y) ⟨H, M, σ, e⟩ ∧ Fr (gx X Y) ⟨H1, M1, s, e1⟩ ⟨H, M, σ, e⟩ ∧ PostS (gx X Y) W ⟨H, M, σ, e⟩ (sForGo g b (ds.drop i) e) D, ⟨ds.length, by simp, Nat.zero_le _, M1, e1, ok1, Fr.refl _ _, by rw [List.drop_zero]; exact p1'⟩, ?_⟩
  rintro i m σ H2 ⟨rfl, hi, M2, e2, ok2, f2, p2⟩
  by_cases hlt : i < ds.length
  · right
    have hd : ds[i]? = some ds[i] := List.getElem?_eq_getElem hlt
    refine ⟨w.go ⟨H2, M2, σ, e2⟩ i _ ok2 f2 hd, fun σ' H' => ds.length - (i + 1) = ds.length - (i + 1) ∧ i + 1 ≤ ds.length ∧ ∃ M e, SOk (gx X Y) ⟨H', M, σ', e⟩ ∧ Fr (gx X Y) ⟨H1, M1, s, e1⟩ ⟨H', M, σ', e⟩ ∧ PostS (gx X Y) W ⟨H', M, σ', e⟩ (sForGo g b (ds.drop (i + 1)) e) D, fun σ' H' n => ⟨ds.length - (i + 1), by omega, n⟩, fun x H' y => ?_⟩
    obtain ⟨ok3, f3, r3⟩ := w.yld ⟨H2, M2, σ, e2⟩ i _ x H' ok2 f2 hd y
    have p3 : PostS (gx X Y) W ⟨H', M2, σ, e2⟩ (sForGo g b (ds.drop i) e2) D := PostS.shift f3 p2
    rw [List.drop_eq_getElem_cons hlt] at p3
    have p4 : PostS (gx X Y) W ⟨H', M2, σ, e2⟩ ((tgK b (g ds[i] e2)).bind (forK (sForGo g b (ds.drop (i + 1))))) D := p3
    cases q : g ds[i] e2 with
    | none =>
      rw [q] at p4
      exact p4.elim
    | some e3 =>
      rw [q] at p4
      refine ⟨M2, e2, _, e3, ok3, r3, q, fun s' ok4 f4 _ => ⟨M2, e3, ok4, ?_⟩⟩
      refine for_post (PostS.shift f4 p4) _ fun s5 H5 M5 e5 ok5 f5 p5 => ⟨rfl, hlt, M5, e5, ok5, f2.trans (f3.trans (f4.trans f5)), p5⟩
  · left
    have e : i = ds.length := by omega
    subst e
    rw [List.drop_length] at p2
    exact ⟨w.stop ⟨H2, M2, σ, e2⟩ _ ok2 f2 rfl, p2 _ _ _ ok2 (Fr.refl _ _)⟩
theorem ds_while {c : Expr} {body : List Stmt} {fc : ST} {b : SS} {pos : Pos} (n : Nat) (hp : PassesOwn (model X.prog X.w) X.A X.env X.xe) (hc : DenT X Y W c fc) (hb : DenB X Y W body b) : DenS X Y W (.While c body [] pos) (sWhile fc b n) := by
  refine PS.weak (ps_while hp hc hb) fun D s H ⟨M, e, ok, p⟩ => ?_
  refine ⟨fun m σ H => ∃ M e, SOk (gx X Y) ⟨H, M, σ, e⟩ ∧ PostS (gx X Y) W ⟨H, M, σ, e⟩ (sWhile fc b m e) D, ⟨n, M, e, ok, p⟩, ?_⟩
  rintro m σ H2 ⟨M2, e2, ok2, p2⟩
  cases m with
  | zero => exact p2.elim
  | succ m =>
    refine ⟨M2, e2, ok2, Post.mono (PostS.bindE (R1 := RB (gx X Y)) (show PostS (gx X Y) W ⟨H2, M2, σ, e2⟩ ((fc e2).bind fun k e1 => if k then (b e1).bind (forK (sWhile fc b m)) else .ok .nx e1) D from p2)) fun k H3 ⟨a, e3, M3, ok3, f3, r3, p3⟩ => ?_⟩
    obtain rfl : k = a := r3
    cases k with
    | true =>
      rw [if_pos rfl] at p3 ⊢
      refine ⟨fun σ' H' => ∃ M e, SOk (gx X Y) ⟨H', M, σ', e⟩ ∧ PostS (gx X Y) W ⟨H', M, σ', e⟩ (sWhile fc b m e) D, fun σ' H' h => ⟨m, Nat.lt_succ_self m, h⟩, M3, e3, ok3, ?_⟩
      exact for_post (PostS.shift f3 p3) _ fun s5 H5 M5 e5 ok5 f5 p5 => ⟨M5, e5, ok5, p5⟩
    | false =>
      rw [if_neg Bool.false_ne_true] at p3 ⊢
      exact p3 _ _ _ ok3 f3
end
end SM
namespace SM
open PySem PySem.Spec PyProof.Rows L2

/-! ## lists that change -/
/-- a marked list that no name holds is written -/
theorem SOk.updMark {G : GX} {S : SX} (ok : SOk G S) {a : Addr} {vs vs' : List V} (h : S.H a = some (.lst vs)) (m : S.M a) (n : ¬ OwnA S a) : SOk G ⟨upd S.H a (.lst vs'), S.M, S.s, S.e⟩ ∧ Carry S.H (upd S.H a (.lst vs')) S.M S.M := by
  have c : Carry S.H (upd S.H a (.lst vs')) S.M S.M := ⟨fun b o hb nb _ => by
    rw [upd_ne (fun z => nb (by rw [z]; exact m))]
    exact hb, fun _ _ _ nb _ => nb⟩
  refine ⟨⟨ok.len, fun i p hi => ?_, ok.apart, fun b mb => ?_, ok.tabs.write h c⟩, c⟩
  · obtain ⟨v, hv, r⟩ := ok.slot i p hi
    refine ⟨v, hv, PRep.carry c (fun ds b xs ep ev mb hb => ⟨?_, mb⟩) r⟩
    show upd S.H a _ b = _
    rw [upd_ne (fun z => n ⟨i, ds, by rw [← ep]; exact hi, by rw [← z, ← ev]; exact hv⟩)]
    exact hb
  · by_cases z : b = a
    · subst z
      exact ⟨_, upd_same, fun _ z => nomatch z⟩
    · obtain ⟨o, ho, t⟩ := ok.trk b mb
      exact ⟨o, by show upd S.H a _ b = _; rw [upd_ne z]; exact ho, t⟩
/-- a name's own list is written -/
theorem SOk.updOwn {G : GX} {S : SX} (ok : SOk G S) {i : Nat} {ds ds' : List D} (hi : S.e[i]? = some (some (.own ds))) {a : Addr} (ha : S.s[i]? = some (some (.ref a))) {vs' : List V} (r : RepAll G.K S.H S.M vs' ds') :
    SOk G ⟨upd S.H a (.lst vs'), S.M, S.s, S.e.set i (some (.own ds'))⟩ ∧ Fr G S ⟨upd S.H a (.lst vs'), S.M, S.s, S.e.set i (some (.own ds'))⟩ := by
  obtain ⟨v, hv, b, vs, rfl, m, h, rr⟩ := ok.slot i _ hi
  rw [ha] at hv
  cases hv
  have hl : i < S.e.length := (List.getElem?_eq_some_iff.mp hi).1
  have c : Carry S.H (upd S.H a (.lst vs')) S.M S.M := ⟨fun b o hb nb _ => by
    rw [upd_ne (fun z => nb (by rw [z]; exact m))]
    exact hb, fun _ _ _ nb _ => nb⟩
  have back : ∀ (j : Nat) (es : List D), (S.e.set i (some (.own ds')))[j]? = some (some (.own es)) → ∃ es', S.e[j]? = some (some (.own es')) := fun j es hj => by
    by_cases hij : i = j
    · subst hij
      exact ⟨ds, hi⟩
    · rw [List.getElem?_set_ne hij] at hj
      exact ⟨es, hj⟩
  refine ⟨⟨?_, fun j p hj => ?_, fun j k es fs w hj hk h1 h2 => ?_, fun b mb => ?_, ok.tabs.write h c⟩, ⟨fun b o hb nb _ => ?_, fun b o hb t => ?_, fun _ _ _ _ mb _ => mb, fun _ mb => .inl mb, fun b z => ?_, fun _ _ => rfl⟩⟩
  · show (S.e.set i _).length = _
    rw [List.length_set]
    exact ok.len
  · by_cases hij : i = j
    · subst hij
      have hj' : (S.e.set i (some (.own ds')))[i]? = some (some p) := hj
      rw [List.getElem?_set_self hl] at hj'
      cases hj'
      exact ⟨_, ha, a, vs', rfl, m, upd_same, r.carry c⟩
    · have hj' : (S.e.set i (some (.own ds')))[j]? = some (some p) := hj
      rw [List.getElem?_set_ne hij] at hj'
      obtain ⟨w, hw, rw'⟩ := ok.slot j p hj'
      refine ⟨w, hw, PRep.carry c (fun es b xs ep ev mb hb => ⟨?_, mb⟩) rw'⟩
      show upd S.H a _ b = _
      rw [upd_ne (fun z => ?_)]
      · exact hb
      · subst ep
        subst z
        exact hij (ok.apart i j ds es _ hi hj' ha (by rw [← ev]; exact hw))
  · obtain ⟨es', h3⟩ := back j es hj
    obtain ⟨fs', h4⟩ := back k fs hk
    exact ok.apart j k es' fs' w h3 h4 h1 h2
  · by_cases z : b = a
    · subst z
      exact ⟨_, upd_same, fun _ z => nomatch z⟩
    · obtain ⟨o, ho, t⟩ := ok.trk b mb
      exact ⟨o, by show upd S.H a _ b = _; rw [upd_ne z]; exact ho, t⟩
  · show upd S.H a _ b = _
    rw [upd_ne (fun z => nb ⟨i, ds, hi, by rw [z]; exact ha⟩)]
    exact hb
  · by_cases z : b = a
    · subst z
      exact ⟨_, upd_same, fun _ z => nomatch z⟩
    · exact ⟨o, by show upd S.H a _ b = _; rw [upd_ne z]; exact hb, t⟩
  · obtain ⟨j, es, h1, h2⟩ := z
    obtain ⟨es', h3⟩ := back j es h1
    exact .inl ⟨j, es', h3, h2⟩
/-! ## comprehensions -/
def wipeE (e : SEnv) : List Nat → SEnv
  | [] => e
  | w :: ws => (wipeE e ws).set w none
theorem wipeE_length (e : SEnv) : ∀ ws : List Nat, (wipeE e ws).length = e.length
  | [] => rfl
  | w :: ws => by unfold wipeE; rw [List.length_set, wipeE_length e ws]
theorem wipeE_some {e : SEnv} {j : Nat} {p : PV} : ∀ {ws : List Nat}, (wipeE e ws)[j]? = some (some p) → e[j]? = some (some p) ∧ j ∉ ws
  | [], h => ⟨h, List.not_mem_nil⟩
  | w :: ws, h => by
    unfold wipeE at h
    by_cases hj : w = j
    · subst hj
      by_cases hl : w < (wipeE e ws).length
      · rw [List.getElem?_set_self hl] at h
        cases h
      · rw [List.getElem?_eq_none (by rw [List.length_set]; exact Nat.le_of_not_lt hl)] at h
        cases h
    · rw [List.getElem?_set_ne hj] at h
      obtain ⟨h1, h2⟩ := wipeE_some h
      exact ⟨h1, fun z => (List.mem_cons.mp z).elim (fun q => hj q.symm) h2⟩
theorem wipe_off {s : L2.St} {j : Nat} {ws : List Nat} (h : j ∉ ws) : (wipe s ws)[j]? = s[j]? := by rw [wipe_get, if_neg h]
theorem SOk.wipe {G : GX} {S : SX} (ok : SOk G S) (ws : List Nat) (hf : ∀ i ∈ G.fix, i ∉ ws) : SOk G ⟨S.H, S.M, L2.wipe S.s ws, wipeE S.e ws⟩ ∧ Fr G S ⟨S.H, S.M, L2.wipe S.s ws, wipeE S.e ws⟩ := by
  have ow : ∀ a, OwnA ⟨S.H, S.M, L2.wipe S.s ws, wipeE S.e ws⟩ a → OwnA S a := fun a ⟨i, ds, h1, h2⟩ => by
    obtain ⟨h3, h4⟩ := wipeE_some h1
    exact ⟨i, ds, h3, by rw [← wipe_off h4]; exact h2⟩
  refine ⟨⟨?_, fun i p hi => ?_, fun i j ds es v h1 h2 h3 h4 => ?_, ok.trk, ok.tabs⟩, ⟨fun _ _ h _ _ => h, fun _ o h t => ⟨o, h, t⟩, fun _ _ _ _ m _ => m, fun _ m => .inl m, fun a z => .inl (ow a z), fun i hi => wipe_off (hf i hi)⟩⟩
  · show (wipeE S.e ws).length = (L2.wipe S.s ws).length
    rw [wipeE_length, wipe_length]
    exact ok.len
  · obtain ⟨h1, h2⟩ := wipeE_some hi
    obtain ⟨v, hv, r⟩ := ok.slot i p h1
    exact ⟨v, by rw [← wipe_off h2] at hv; exact hv, r⟩
  · obtain ⟨h5, h6⟩ := wipeE_some h1
    obtain ⟨h7, h8⟩ := wipeE_some h2
    exact ok.apart i j ds es v h5 h7 (by rw [← wipe_off h6]; exact h3) (by rw [← wipe_off h8]; exact h4)
/-- what the wiped slots held, where it is data -/
def keepD : Option PV → Option PV
  | some (.dat d) => some (.dat d)
  | some (.scr ns) => some (.scr ns)
  | _ => none
def restE (ws : List Nat) (e0 e : SEnv) : SEnv := match ws with
  | [] => e
  | w :: ws => (restE ws e0 e).set w ((e0[w]?).bind keepD)
theorem restE_length (e0 e : SEnv) : ∀ ws : List Nat, (restE ws e0 e).length = e.length
  | [] => rfl
  | w :: ws => by unfold restE; rw [List.length_set, restE_length e0 e ws]
theorem restE_some {e0 e : SEnv} {j : Nat} {p : PV} : ∀ {ws : List Nat}, (restE ws e0 e)[j]? = some (some p) → (j ∉ ws ∧ e[j]? = some (some p)) ∨ (j ∈ ws ∧ e0[j]? = some (some p) ∧ ∀ ds, p ≠ .own ds)
  | [], h => .inl ⟨List.not_mem_nil, h⟩
  | w :: ws, h => by
    unfold restE at h
    by_cases hj : w = j
    · subst hj
      right
      by_cases hl : w < (restE ws e0 e).length
      · rw [List.getElem?_set_self hl] at h
        have h' : (e0[w]?).bind keepD = some p := Option.some.inj h
        cases q : e0[w]? with
        | none =>
          rw [q] at h'
          cases h'
        | some o =>
          rw [q] at h'
          have h2 : keepD o = some p := h'
          unfold keepD at h2
          split at h2
          · cases h2
            exact ⟨List.mem_cons_self, rfl, fun _ z => nomatch z⟩
          · cases h2
            exact ⟨List.mem_cons_self, rfl, fun _ z => nomatch z⟩
          · cases h2
      · rw [List.getElem?_eq_none (by rw [List.length_set]; exact Nat.le_of_not_lt hl)] at h
        cases h
    · rw [List.getElem?_set_ne hj] at h
      rcases restE_some h with ⟨h1, h2⟩ | ⟨h1, h2, h3⟩
      · exact .inl ⟨fun z => (List.mem_cons.mp z).elim (fun q => hj q.symm) h1, h2⟩
      · exact .inr ⟨List.mem_cons_of_mem _ h1, h2, h3⟩
/-- back from a block: S1 ahead of it, the block's slots wiped -/
theorem SOk.rest {G : GX} {S1 : SX} (ok1 : SOk G S1) {ws : List Nat} {H : Hp} {M : Addr → Prop} {e : SEnv} (ok : SOk G ⟨H, M, L2.wipe S1.s ws, e⟩) (f : Fr G ⟨S1.H, S1.M, L2.wipe S1.s ws, wipeE S1.e ws⟩ ⟨H, M, L2.wipe S1.s ws, e⟩) :
    SOk G ⟨H, M, S1.s, restE ws S1.e e⟩ ∧ Fr G S1 ⟨H, M, S1.s, restE ws S1.e e⟩ ∧ ∀ a, OwnA ⟨H, M, S1.s, restE ws S1.e e⟩ a → OwnA ⟨H, M, L2.wipe S1.s ws, e⟩ a := by
  have ow : ∀ a, OwnA ⟨H, M, S1.s, restE ws S1.e e⟩ a → OwnA ⟨H, M, L2.wipe S1.s ws, e⟩ a := fun a ⟨i, ds, h1, h2⟩ => by
    rcases restE_some h1 with ⟨h3, h4⟩ | ⟨_, _, h5⟩
    · exact ⟨i, ds, h4, by show (L2.wipe S1.s ws)[i]? = _; rw [wipe_off h3]; exact h2⟩
    · exact absurd rfl (h5 ds)
  have ow0 : ∀ a, OwnA ⟨S1.H, S1.M, L2.wipe S1.s ws, wipeE S1.e ws⟩ a → OwnA S1 a := fun a ⟨i, ds, h1, h2⟩ => by
    obtain ⟨h3, h4⟩ := wipeE_some h1
    exact ⟨i, ds, h3, by rw [← wipe_off h4]; exact h2⟩
  have c : Carry S1.H H S1.M M := ⟨fun a o h n k => f.keep a o h (fun z => n (ok1.ownM (ow0 a z))) k, fun a o h n t z => (f.mnew a z).elim n fun q => q.no h t⟩
  refine ⟨⟨?_, fun i p hi => ?_, fun i j ds es v h1 h2 h3 h4 => ?_, ok.trk, ok.tabs⟩, ⟨fun a o h n k => f.keep a o h (fun z => n (ow0 a z)) k, f.there, fun a o h t m n => f.mkeep a o h t m (fun z => n (ow0 a z)), f.mnew, fun a z => ?_, fun _ _ => rfl⟩, ow⟩
  · show (restE ws S1.e e).length = S1.s.length
    rw [restE_length]
    have := ok.len
    rw [show (⟨H, M, L2.wipe S1.s ws, e⟩ : SX).s = L2.wipe S1.s ws from rfl, wipe_length] at this
    exact this
  · rcases restE_some hi with ⟨h1, h2⟩ | ⟨h1, h2, h3⟩
    · obtain ⟨v, hv, r⟩ := ok.slot i p h2
      exact ⟨v, by rw [← wipe_off h1]; exact hv, r⟩
    · obtain ⟨v, hv, r⟩ := ok1.slot i p h2
      exact ⟨v, hv, PRep.carry c (fun ds a xs ep _ _ _ => absurd ep (h3 ds)) r⟩
  · have o1 : i ∉ ws ∧ e[i]? = some (some (.own ds)) := (restE_some h1).elim id fun ⟨_, _, z⟩ => absurd rfl (z ds)
    have o2 : j ∉ ws ∧ e[j]? = some (some (.own es)) := (restE_some h2).elim id fun ⟨_, _, z⟩ => absurd rfl (z es)
    exact ok.apart i j ds es v o1.2 o2.2 (by show (L2.wipe S1.s ws)[i]? = _; rw [wipe_off o1.1]; exact h3) (by show (L2.wipe S1.s ws)[j]? = _; rw [wipe_off o2.1]; exact h4)
  · rcases f.own a (ow a z) with q | q
    · exact .inl (ow0 a q)
    · exact .inr q
def lcP (k : List D → SEnv → Out (List D)) (acc : List D) (p : PV) (e : SEnv) : Out (List D) := match p with
  | .dat d => if acc.length < LIM then k (acc ++ [d]) e else .bad
  | _ => .bad
def lcT (t : ST) (el : SE) (k : List D → SEnv → Out (List D)) (acc : List D) : Option SEnv → Out (List D)
  | none => .bad
  | some e1 => (t e1).bind fun b e2 => if b then (sFrz el e2).bind (lcP k acc) else k acc e2
def sLcGo (g : SG) (t : ST) (el : SE) (ws : List Nat) : List D → List D → SEnv → Out (List D)
  | [], acc, e => .ok acc e
  | d :: ds, acc, e => lcT t el (fun acc' e' => sLcGo g t el ws ds acc' (wipeE e' ws)) acc (g d e)
def lcFin (ws : List Nat) (e0 : SEnv) : Out (List D) → Out PV
  | .ok acc e => .ok (.own acc) (restE ws e0 e)
  | _ => .bad
def sLc (f : SI) (g : SG) (t : ST) (el : SE) (ws : List Nat) : SE := fun e => (f e).bind fun ds e1 => lcFin ws e1 (sLcGo g t el ws ds [] (wipeE e1 ws))
def sYes : ST := fun e => .ok true e
abbrev WF : WX := fun _ _ _ _ => False
theorem lc_bind {α β : Type} {G : GX} {W : WX} {R : SX → SX → β → α → Prop} {S1 S : SX} {ws : List Nat} {e0 : SEnv} {o : Out α} {k : α → SEnv → Out (List D)} {Q : VK} (h : Post G W (Res G) S1 (lcFin ws e0 (o.bind k)) Q) :
    Post G WF R S o fun b H' => ∃ a e' M', SOk G ⟨H', M', S.s, e'⟩ ∧ Fr G S ⟨H', M', S.s, e'⟩ ∧ R S ⟨H', M', S.s, e'⟩ b a ∧ Post G W (Res G) S1 (lcFin ws e0 (k a e')) Q := by
  cases o with
  | ok a e => exact fun b H' M' h1 h2 h3 => ⟨a, e, M', h1, h2, h3, h⟩
  | exc x e => exact h.elim
  | bad => exact h.elim
def DenTs (X : Cx) (Y : GY) (W : WX) (xs : List Expr) (f : ST) : Prop := PTs X xs (tO (gx X Y) W (RB (gx X Y)) f)
theorem PTs.weak {X : Cx} {x : List Expr} {t t' : TT} (h : PTs X x t) (k : ∀ s H Q, t' s H Q → t s H Q) : PTs X x t' := ⟨fun pins s σ H Q I q => h.run pins s σ H Q I (k _ _ _ q)⟩
section
variable {X : Cx} {Y : GY} {W : WX} {ws : List Nat}
theorem dts_nil : DenTs X Y W [] sYes := PTs.weak pts_nil fun s H Q ⟨M, e, ok, p⟩ => post_here ok p true rfl
theorem dts_one {c : Expr} {t : ST} (h : DenT X Y W c t) : DenTs X Y W [c] t := pts_one h
theorem wipe_idem (s : L2.St) (ws : List Nat) : wipe (wipe s ws) ws = wipe s ws := by
  apply List.ext_getElem?
  intro j
  rw [wipe_get (wipe s ws), wipe_get s, wipe_length]
  by_cases h : j ∈ ws
  · rw [if_pos h, if_pos h]
  · rw [if_neg h, if_neg h]
theorem Fr.updNew {G : GX} {S S' : SX} (f : Fr G S S') {a : Addr} (n : S.H a = none) (o : HO) : Fr G S ⟨upd S'.H a o, S'.M, S'.s, S'.e⟩ := by
  have ne : ∀ b u, S.H b = some u → b ≠ a := fun b u h z => by
    rw [z, n] at h
    cases h
  exact ⟨fun b u h k t => by show upd S'.H a o b = _; rw [upd_ne (ne b u h)]; exact f.keep b u h k t, fun b u h t => by
    obtain ⟨u', h', t'⟩ := f.there b u h t
    exact ⟨u', by show upd S'.H a o b = _; rw [upd_ne (ne b u h)]; exact h', t'⟩, f.mkeep, f.mnew, f.own, f.fix⟩
theorem Fr.stay {G : GX} {S S' : SX} (f : Fr G S S') {a : Addr} {xs : List V} (h : S.H a = some (.lst xs)) (m : S.M a) (n : ¬ OwnA S a) : S'.H a = some (.lst xs) ∧ S'.M a ∧ ¬ OwnA S' a :=
  ⟨f.keep a _ h n (fun _ z => nomatch z), f.mkeep a _ h (fun _ z => nomatch z) m n, fun z => (f.own a z).elim n fun q => q.no h (fun _ z => nomatch z)⟩
/-- the reading of a comprehension -/
theorem lc_read {f : SI} {g : SG} {t : ST} {el : SE} {s : L2.St} {H : Hp} {Q : VK} (hf : ∀ i ∈ Y.fix, i ∉ ws) (h : tO (gx X Y) W (Res (gx X Y)) (sLc f g t el ws) s H Q) :
    tLc (tO (gx X Y) W (RW (gx X Y)) f) (tTg (gx X Y) ws g) (tO (gx X Y) WF (RB (gx X Y)) t) (tO (gx X Y) WF (Res (gx X Y)) (sFrz el)) ws s H Q := by
  obtain ⟨M, e, ok, p⟩ := h
  refine ⟨M, e, ok, Post.mono (Post.bind (R1 := RW (gx X Y)) shift_res p) fun J H1 ⟨ds, e1, M1, ok1, f1, w, p1⟩ => fun D hD => ?_⟩
  have w : Walk (gx X Y) ⟨H1, M1, s, e1⟩ J ds := w
  obtain ⟨okB, fB⟩ := ok1.wipe ws hf
  refine ⟨fun i m H => m = ds.length - i ∧ i ≤ ds.length ∧ ∃ M e xs acc, SOk (gx X Y) ⟨H, M, wipe s ws, e⟩ ∧ Fr (gx X Y) ⟨H1, M1, wipe s ws, wipeE e1 ws⟩ ⟨H, M, wipe s ws, e⟩ ∧ (H D = some (.lst xs) ∧ M D ∧ ¬ OwnA ⟨H, M, wipe s ws, e⟩ D) ∧ RepAll X.K H M xs acc ∧
    Post (gx X Y) W (Res (gx X Y)) ⟨H1, M1, s, e1⟩ (lcFin ws e1 (sLcGo g t el ws (ds.drop i) acc e)) Q, ⟨ds.length, by simp, Nat.zero_le _, fun a => M1 a ∨ a = D, wipeE e1 ws, [], [], ?_, ?_, ⟨upd_same, .inr rfl, ?_⟩, .nil, by rw [List.drop_zero]; exact p1⟩, ?_⟩
  · exact (okB.grow (o := .lst []) hD (fun a => M1 a ∨ a = D) (fun _ m => .inl m) (fun _ m => m)).1
  · exact (okB.grow (o := .lst []) hD (fun a => M1 a ∨ a = D) (fun _ m => .inl m) (fun _ m => m)).2
  · intro z
    obtain ⟨o, ho, _⟩ := okB.trk D (okB.ownM z)
    have hD' : (⟨H1, M1, wipe s ws, wipeE e1 ws⟩ : SX).H D = none := hD
    rw [hD'] at ho
    cases ho
  rintro i m H2 ⟨rfl, hi, M2, e2, xs, acc, ok2, f2, ⟨hD2, mD2, nD2⟩, ra2, p2⟩
  by_cases hlt : i < ds.length
  · right
    have hd : ds[i]? = some ds[i] := List.getElem?_eq_getElem hlt
    refine ⟨w.go ⟨H2, M2, wipe s ws, e2⟩ i _ ok2 (fB.trans f2) hd, fun H' => ds.length - (i + 1) = ds.length - (i + 1) ∧ i + 1 ≤ ds.length ∧ ∃ M e xs acc, SOk (gx X Y) ⟨H', M, wipe s ws, e⟩ ∧ Fr (gx X Y) ⟨H1, M1, wipe s ws, wipeE e1 ws⟩ ⟨H', M, wipe s ws, e⟩ ∧ (H' D = some (.lst xs) ∧ M D ∧ ¬ OwnA ⟨H', M, wipe s ws, e⟩ D) ∧ RepAll X.K H' M xs acc ∧
      Post (gx X Y) W (Res (gx X Y)) ⟨H1, M1, s, e1⟩ (lcFin ws e1 (sLcGo g t el ws (ds.drop (i + 1)) acc e)) Q, fun H' n => ⟨ds.length - (i + 1), by omega, n⟩, fun x H3 y => ?_⟩
    obtain ⟨ok3, f3, r3⟩ := w.yld ⟨H2, M2, wipe s ws, e2⟩ i _ x H3 ok2 (fB.trans f2) hd y
    obtain ⟨hD3, mD3, nD3⟩ := f3.stay hD2 mD2 nD2
    have ra3 := ra2.carry (f3.carry ok2)
    rw [List.drop_eq_getElem_cons hlt] at p2
    have p3 : Post (gx X Y) W (Res (gx X Y)) ⟨H1, M1, s, e1⟩ (lcFin ws e1 (lcT t el (fun acc' e' => sLcGo g t el ws (ds.drop (i + 1)) acc' (wipeE e' ws)) acc (g ds[i] e2))) Q := p2
    cases q : g ds[i] e2 with
    | none =>
      rw [q] at p3
      exact p3.elim
    | some e3 =>
      rw [q] at p3
      refine ⟨M2, e2, _, e3, ok3, r3, q, fun s' ok4 f4 w4 => ⟨by rw [w4, wipe_idem], M2, e3, ok4, Post.mono (lc_bind (R := RB (gx X Y)) (S := ⟨H3, M2, s', e3⟩) p3) fun b H5 ⟨b', e5, M5, ok5, f5, rb, p5⟩ => ?_⟩⟩
      obtain rfl : b = b' := rb
      obtain ⟨hD4, mD4, nD4⟩ := f4.stay hD3 mD3 nD3
      obtain ⟨hD5, mD5, nD5⟩ := f5.stay hD4 mD4 nD4
      have ra4 := ra3.carry (f4.carry ok3)
      have ra5 := ra4.carry (f5.carry ok4)
      have w4' : wipe s' ws = wipe s ws := by rw [w4, wipe_idem]
      cases b with
      | false =>
        rw [if_neg Bool.false_ne_true] at p5 ⊢
        obtain ⟨ok6, f6⟩ := ok5.wipe ws hf
        obtain ⟨hD6, mD6, nD6⟩ := f6.stay hD5 mD5 nD5
        have fa := f2.trans (f3.trans (f4.trans (f5.trans f6)))
        have ok6' : SOk (gx X Y) ⟨H5, M5, wipe s' ws, wipeE e5 ws⟩ := ok6
        have fa' : Fr (gx X Y) ⟨H1, M1, wipe s ws, wipeE e1 ws⟩ ⟨H5, M5, wipe s' ws, wipeE e5 ws⟩ := fa
        have nD6' : ¬ OwnA ⟨H5, M5, wipe s' ws, wipeE e5 ws⟩ D := nD6
        rw [w4'] at ok6' fa' nD6'
        exact ⟨rfl, hlt, M5, wipeE e5 ws, xs, acc, ok6', fa', ⟨hD6, mD6, nD6'⟩, ra5, p5⟩
      | true =>
        rw [if_pos rfl] at p5 ⊢
        refine ⟨M5, e5, ok5, Post.mono (lc_bind (R := Res (gx X Y)) (S := ⟨H5, M5, s', e5⟩) p5) fun v H6 ⟨pv, e6, M6, ok6, f6, rv, p6⟩ => ?_⟩
        cases pv with
        | dat d' =>
          have p6' : Post (gx X Y) W (Res (gx X Y)) ⟨H1, M1, s, e1⟩ (lcFin ws e1 (if acc.length < LIM then sLcGo g t el ws (ds.drop (i + 1)) (acc ++ [d']) (wipeE e6 ws) else .bad)) Q := p6
          obtain ⟨hD6, mD6, nD6⟩ := f6.stay hD5 mD5 nD5
          have ra6 := ra5.carry (f6.carry ok5)
          by_cases hl : acc.length < LIM
          · rw [if_pos hl] at p6'
            refine ⟨xs, hD6, by rw [ra2.length, line_eq]; exact hl, rfl, hlt, M6, wipeE e6 ws, xs ++ [v], acc ++ [d'], ?_⟩
            obtain ⟨ok7, f7⟩ := ok6.wipe ws hf
            obtain ⟨hD7, mD7, nD7⟩ := f7.stay hD6 mD6 nD6
            have fa := f2.trans (f3.trans (f4.trans (f5.trans (f6.trans f7))))
            have ok7' : SOk (gx X Y) ⟨H6, M6, wipe s' ws, wipeE e6 ws⟩ := ok7
            have fa' : Fr (gx X Y) ⟨H1, M1, wipe s ws, wipeE e1 ws⟩ ⟨H6, M6, wipe s' ws, wipeE e6 ws⟩ := fa
            have nD7' : ¬ OwnA ⟨H6, M6, wipe s' ws, wipeE e6 ws⟩ D := nD7
            rw [w4'] at ok7' fa' nD7'
            obtain ⟨ok8, c8⟩ := ok7'.updMark (vs' := xs ++ [v]) hD7 mD7 nD7'
            have fa8 := fa'.updNew hD (.lst (xs ++ [v]))
            exact ⟨ok8, fa8, ⟨upd_same, mD7, nD7'⟩, (ra6.append (.one rv.1)).carry c8, p6'⟩
          · rw [if_neg hl] at p6'
            exact p6'.elim
        | own es => exact p6.elim
        | clo => exact p6.elim
        | exn x => exact p6.elim
        | scr ns => exact p6.elim
  · left
    have ei : i = ds.length := by omega
    subst ei
    rw [List.drop_length] at p2
    refine ⟨w.stop ⟨H2, M2, wipe s ws, e2⟩ _ ok2 (fB.trans f2) rfl, ?_⟩
    obtain ⟨okR, fR, owR⟩ := ok1.rest (ws := ws) ok2 f2
    exact p2 (.ref D) H2 M2 okR fR ⟨⟨D, xs, rfl, mD2, hD2, ra2⟩, fun es a _ ea => by
      cases ea
      exact ⟨fun z => nD2 (owR _ z), .inl (.of hD)⟩⟩
theorem de_lc {elt tg iter : Expr} {ifs : List Expr} {scope : Scope} {own : List (Str × Nat)} {pos : Pos} {f : SI} {g : SG} {t : ST} {el : SE} (hc : X.calm = true) (nd : X.N.Nodup) (ok : BlkOk X.N X.env.scope scope own) (hi : DenI X Y W tg iter f)
    (hg : ∀ (s : Shared) (H : Hp) (C : Addr) (cl : List (Str × Addr)) (fp : List Addr), DenG (X.blk s H scope (compEnvC scope cl C X.env) fp) Y (own.map (·.2)) tg g) (ht : ∀ (s : Shared) (H : Hp) (C : Addr) (cl : List (Str × Addr)) (fp : List Addr), DenTs (X.blk s H scope (compEnvC scope cl C X.env) fp) Y WF ifs t)
    (he : ∀ (s : Shared) (H : Hp) (C : Addr) (cl : List (Str × Addr)) (fp : List Addr), DenE (X.blk s H scope (compEnvC scope cl C X.env) fp) Y WF elt el) (hf : ∀ i ∈ Y.fix, i ∉ own.map (·.2) := by first | decide | (dsimp only; decide)) (hs : ∀ x, foldedSetIterable iter X.env x = pure x := by intro _; rfl) :
    DenE X Y W (.ListComp elt [⟨tg, iter, ifs, 0⟩] scope pos) (sLc f g t el (own.map (·.2))) :=
  PE.weak (pe_lc (g := tTg (gx X Y) (own.map fun (p : Str × Nat) => p.2) g) (tt := tO (gx X Y) WF (RB (gx X Y)) t) (te := tO (gx X Y) WF (Res (gx X Y)) (sFrz el)) hc nd hi ok hg ht (fun s H C cl fp => de_frz (he s H C cl fp)) hs) fun s H Q h => lc_read hf h
theorem ds_setLc {i : Nat} {y : Str} {py : Pos} {elt tg iter : Expr} {ifs : List Expr} {scope : Scope} {own : List (Str × Nat)} {pos spos : Pos} {f : SI} {g : SG} {t : ST} {el : SE} (hc : X.calm = true) (nd : X.N.Nodup) (ok : BlkOk X.N X.env.scope scope own) (hi : DenI X Y W tg iter f)
    (hg : ∀ (s : Shared) (H : Hp) (C : Addr) (cl : List (Str × Addr)) (fp : List Addr), DenG (X.blk s H scope (compEnvC scope cl C X.env) fp) Y (own.map (·.2)) tg g) (ht : ∀ (s : Shared) (H : Hp) (C : Addr) (cl : List (Str × Addr)) (fp : List Addr), DenTs (X.blk s H scope (compEnvC scope cl C X.env) fp) Y WF ifs t)
    (he : ∀ (s : Shared) (H : Hp) (C : Addr) (cl : List (Str × Addr)) (fp : List Addr), DenE (X.blk s H scope (compEnvC scope cl C X.env) fp) Y WF elt el) (hfi : i ∉ Y.fix := by first | decide | (dsimp only; decide)) (hf : ∀ i ∈ Y.fix, i ∉ own.map (·.2) := by first | decide | (dsimp only; decide)) (hN : X.N[i]? = some y := by rfl) (hyl : X.env.scope.names.lookup y = some .local := by rfl)
    (hsw : swapsWith (.ListComp elt [⟨tg, iter, ifs, 0⟩] scope pos) (some (.Name y py)) spos.line X.env = pure true := by exact sw_true rfl rfl rfl rfl)
    (hs : ∀ x, foldedSetIterable iter X.env x = pure x := by intro _; rfl) :
    DenS X Y W (.Assign [.Name y py] (.ListComp elt [⟨tg, iter, ifs, 0⟩] scope pos) spos) (sSet i (sLc f g t el (own.map (·.2)))) := by
  refine PS.weak (ps_setLc (g := tTg (gx X Y) (own.map fun (p : Str × Nat) => p.2) g) (tt := tO (gx X Y) WF (RB (gx X Y)) t) (te := tO (gx X Y) WF (Res (gx X Y)) (sFrz el)) hc nd hN hyl hsw hi ok hg ht (fun s H C cl fp => de_frz (he s H C cl fp)) hs) fun D s H ⟨M, e, ok, p⟩ => lc_read hf ⟨M, e, ok, Post.mono (PostS.bindE (R1 := Res (gx X Y)) p) fun v H1 ⟨a, e1, M1, ok1, f1, r1, p1⟩ => ?_⟩
  have hcl : a ≠ .clo := fun z => by
    subst z
    exact p1
  have p1' : PostS (gx X Y) W ⟨H, M, s, e⟩ (.ok .nx (e1.set i (some a))) D := by
    cases a <;> first | exact p1 | exact absurd rfl hcl
  obtain ⟨ok2, f2⟩ := ok1.setS f1 (i := i) hfi r1 hcl
  exact p1' _ _ _ ok2 f2
end
end SM
namespace SM
open PySem PySem.Spec PyProof.Rows L2

/-! ## a name's own list, written -/
def ownAt (e : SEnv) (i : Nat) : Option (List D) := match e[i]? with
  | some (some (.own ds)) => some ds
  | _ => none
theorem ownAt_eq {e : SEnv} {i : Nat} {ds : List D} (h : ownAt e i = some ds) : e[i]? = some (some (.own ds)) := by
  unfold ownAt at h
  split at h
  · rename_i q
    cases h
    exact q
  · cases h
def ownAdd (i : Nat) (xs : List D) (e : SEnv) : Option (List D) → Out PV
  | some ds => if ds.length + xs.length ≤ LIM then .ok (.dat .none) (e.set i (some (.own (ds ++ xs)))) else .bad
  | none => .bad
def appK (i : Nat) (e : SEnv) : Option (List D) → Out PV
  | some [d] => ownAdd i [d] e (ownAt e i)
  | _ => .bad
def extK (i : Nat) (e : SEnv) : Option (List D) → Out PV
  | some [.list xs] => ownAdd i xs e (ownAt e i)
  | _ => .bad
def popK (i : Nat) (e : SEnv) : Option (List D) → Out PV
  | some ds => match ds.getLast? with
    | some d => .ok (.dat d) (e.set i (some (.own ds.dropLast)))
    | none => .bad
  | none => .bad
theorem opd_nm {e : SEnv} {i : Nat} {p : PV} (h : e[i]? = some (some p)) : opd (.nm i) e = .ok (.slot i) e := by
  show (match e[i]? with | some (some _) => Out.ok (PO.slot i) e | _ => .bad) = _
  rw [h]
def isOwn (i : Nat) (e : SEnv) : Bool := (ownAt e i).isSome
def sApp (i : Nat) (os : List Opd) : SE := fun e => if isOwn i e then (opds os e).bind fun ps e1 => appK i e1 (datAll ps) else .bad
def sExt (i : Nat) (os : List Opd) : SE := fun e => if isOwn i e then (opds os e).bind fun ps e1 => extK i e1 (datAll ps) else .bad
def sPop (i : Nat) : SE := fun e => popK i e (ownAt e i)
section
variable {X : Cx} {Y : GY} {W : WX}
theorem RepAll.dropLast {K : PySem.W.Frag} {H : Hp} {M : Addr → Prop} {vs : List V} {ds : List D} (h : RepAll K H M vs ds) : RepAll K H M vs.dropLast ds.dropLast := by
  rw [List.dropLast_eq_take, List.dropLast_eq_take, h.length]
  exact h.take _
theorem own_slot {G : GX} {S : SX} (ok : SOk G S) {i : Nat} {ds : List D} (h : ownAt S.e i = some ds) : ∃ a vs, S.s[i]? = some (some (.ref a)) ∧ S.H a = some (.lst vs) ∧ RepAll G.K S.H S.M vs ds := by
  obtain ⟨v, hv, a, vs, rfl, m, hh, r⟩ := ok.slot i _ (ownAt_eq h)
  exact ⟨a, vs, hv, hh, r⟩
variable {o : Str} {apos cpos : Pos} {i : Nat}
theorem de_meth {a : Expr} {as : List Expr} {os : List Opd} {name : Str} {id : String} {r : V → List V → Hp → VK → Prop} {k : SEnv → Option (List D) → Out PV} {po : Pos} (slot : Slot "list" name id) (hty : typeOf (.builtin id) = pure (.type "method_descriptor")) (hm : MtM X id r)
    (hk : ∀ {S : SX} {v : V} {vs : List V} {ds : List D} {Q : VK}, SOk (gx X Y) S → S.s[i]? = some (some v) → RepAll X.K S.H S.M vs ds → Post (gx X Y) W (Res (gx X Y)) S (k S.e (some ds)) Q → r v vs S.H Q)
    (hk0 : ∀ e, k e none = .bad) (ho : DenO X Y W (.Name o po) (.nm i)) (ha : DenA X Y W (a :: as) os)
    (hbase : attributeBase (.Name o po) name X.env (eval (.Name o po) X.env) = eval (.Name o po) X.env := by rfl)
    (hfew : ((backTo cpos (starEach (a :: as) X.env)).all (fun x => !x.1) && (backToKw cpos (keywordEach [] X.env)).all (fun x => x.1.isSome)
      && decide ((a :: as).length + ([] : List Keyword).length + (if ([] : List Keyword).isEmpty then 0 else 1) < 30)) = true := by rfl)
    (hline : (apos.endLine == cpos.line) = true := by rfl) (hs : starEach (a :: as) X.env = (false, eval a X.env) :: starEach as X.env := by rfl) (hplain : (backTo cpos (starEach as X.env)).any (·.1) = false := by rfl) :
    DenE X Y W (.Call (.Attribute (.Name o po) name apos) (a :: as) [] cpos) (fun e => if isOwn i e then (opds os e).bind fun ps e1 => k e1 (datAll ps) else .bad) := by
  refine PE.weak (pe_bm PySem.F.plainAttrs_list slot hty (r := r) (fun pins s σ H x vs v us Q I rx rv h => ?_) ho ha hbase hfew hline hs hplain) fun s H Q ⟨M, e, ok, p⟩ => ?_
  · exact hm pins s σ H x vs v us Q I rx rv h
  · have p : Post (gx X Y) W (Res (gx X Y)) ⟨H, M, s, e⟩ (if isOwn i e then (opds os e).bind fun ps e1 => k e1 (datAll ps) else .bad) Q := p
    cases hi : isOwn i e with
    | false =>
      rw [hi] at p
      exact p.elim
    | true =>
      rw [hi, if_pos rfl] at p
      obtain ⟨ds, hds⟩ := Option.isSome_iff_exists.mp hi
      refine ⟨M, e, ok, ?_⟩
      have he := ownAt_eq hds
      rw [opd_nm he]
      intro v H1 M1 ok1 f1 r1
      have hv : s[i]? = some (some v) := r1
      obtain ⟨a1, vs1, h1, h2, h3⟩ := own_slot (S := ⟨H1, M1, s, e⟩) ok1 hds
      have h1' : s[i]? = some (some (.ref a1)) := h1
      rw [hv] at h1'
      cases h1'
      refine ⟨.inl ⟨rfl, vs1, SqL.of h2⟩, M1, e, ok1, Post.mono (Post.bind (R1 := RAs (gx X Y)) shift_res (Post.shift shift_res (S := ⟨H, M, s, e⟩) (S1 := ⟨H1, M1, s, e⟩) rfl f1 p)) fun ws H2 ⟨ps, e2, M2, ok2, f2, r2, p2⟩ => ?_⟩
      have p2' : Post (gx X Y) W (Res (gx X Y)) ⟨H2, M2, s, e2⟩ (k e2 (datAll ps)) Q := p2
      cases q : datAll ps with
      | none =>
        rw [q, hk0] at p2'
        exact p2'.elim
      | some xs =>
        rw [q] at p2'
        exact hk (S := ⟨H2, M2, s, e2⟩) ok2 hv (datAll_rep r2 q) p2'
theorem own_add {S : SX} {v : V} {vs : List V} {xs : List D} {Q : VK} (ok : SOk (gx X Y) S) (hv : S.s[i]? = some (some v)) (r : RepAll X.K S.H S.M vs xs) (p : Post (gx X Y) W (Res (gx X Y)) S (ownAdd i xs S.e (ownAt S.e i)) Q) :
    ∃ a us, v = .ref a ∧ S.H a = some (.lst us) ∧ us.length + vs.length ≤ LIM ∧ Q .non (upd S.H a (.lst (us ++ vs))) := by
  cases q : ownAt S.e i with
  | none =>
    rw [q] at p
    exact p.elim
  | some ds =>
    rw [q] at p
    obtain ⟨a, us, h1, h2, h3⟩ := own_slot ok q
    rw [hv] at h1
    cases h1
    have p' : Post (gx X Y) W (Res (gx X Y)) S (if ds.length + xs.length ≤ LIM then .ok (.dat .none) (S.e.set i (some (.own (ds ++ xs)))) else .bad) Q := p
    by_cases hl : ds.length + xs.length ≤ LIM
    · rw [if_pos hl] at p'
      obtain ⟨ok2, f2⟩ := ok.updOwn (ownAt_eq q) hv (h3.append r)
      exact ⟨a, us, rfl, h2, by rw [h3.length, r.length]; exact hl, p' .non _ _ ok2 f2 (res_dat .non)⟩
    · rw [if_neg hl] at p'
      exact p'.elim
theorem de_app {a : Expr} {os : List Opd} {po : Pos} (ho : DenO X Y W (.Name o po) (.nm i)) (ha : DenA X Y W [a] os)
    (hbase : attributeBase (.Name o po) "append" X.env (eval (.Name o po) X.env) = eval (.Name o po) X.env := by rfl)
    (hfew : ((backTo cpos (starEach [a] X.env)).all (fun x => !x.1) && (backToKw cpos (keywordEach [] X.env)).all (fun x => x.1.isSome)
      && decide ([a].length + ([] : List Keyword).length + (if ([] : List Keyword).isEmpty then 0 else 1) < 30)) = true := by rfl)
    (hline : (apos.endLine == cpos.line) = true := by rfl) (hs : starEach [a] X.env = (false, eval a X.env) :: starEach [] X.env := by rfl) (hplain : (backTo cpos (starEach [] X.env)).any (·.1) = false := by rfl) :
    DenE X Y W (.Call (.Attribute (.Name o po) "append" apos) [a] [] cpos) (sApp i os) := by
  refine de_meth (k := appK i) F.slot_list_append F.type_list_append mt_append (fun {S v vs ds Q} ok hv r p => ?_) (fun e => rfl) ho ha hbase hfew hline hs hplain
  unfold appK at p
  split at p
  · rename_i d heq
    cases heq
    obtain ⟨w, rfl, _⟩ := r.un1
    obtain ⟨a, us, e1, e2, e3, q⟩ := own_add ok hv r p
    exact ⟨a, us, w, e1, rfl, e2, by rw [line_eq]; exact e3, q⟩
  · exact p.elim
theorem de_ext {a : Expr} {os : List Opd} {po : Pos} (ho : DenO X Y W (.Name o po) (.nm i)) (ha : DenA X Y W [a] os)
    (hbase : attributeBase (.Name o po) "extend" X.env (eval (.Name o po) X.env) = eval (.Name o po) X.env := by rfl)
    (hfew : ((backTo cpos (starEach [a] X.env)).all (fun x => !x.1) && (backToKw cpos (keywordEach [] X.env)).all (fun x => x.1.isSome)
      && decide ([a].length + ([] : List Keyword).length + (if ([] : List Keyword).isEmpty then 0 else 1) < 30)) = true := by rfl)
    (hline : (apos.endLine == cpos.line) = true := by rfl) (hs : starEach [a] X.env = (false, eval a X.env) :: starEach [] X.env := by rfl) (hplain : (backTo cpos (starEach [] X.env)).any (·.1) = false := by rfl) :
    DenE X Y W (.Call (.Attribute (.Name o po) "extend" apos) [a] [] cpos) (sExt i os) := by
  refine de_meth (k := extK i) F.slot_list_extend F.type_list_extend mt_extend (fun {S v vs ds Q} ok hv r p => ?_) (fun e => rfl) ho ha hbase hfew hline hs hplain
  unfold extK at p
  split at p
  · rename_i xs heq
    cases heq
    obtain ⟨w, rfl, rw'⟩ := r.un1
    cases rw' with
    | lst hb nb rb =>
      obtain ⟨a, us, e1, e2, e3, q⟩ := own_add ok hv rb p
      exact ⟨a, _, us, _, e1, rfl, e2, hb, by rw [line_eq]; exact e3, q⟩
  · exact p.elim
theorem de_pop {po : Pos} (ho : DenO X Y W (.Name o po) (.nm i))
    (hbase : attributeBase (.Name o po) "pop" X.env (eval (.Name o po) X.env) = eval (.Name o po) X.env := by rfl) (hline : (apos.endLine == cpos.line) = true := by rfl) :
    DenE X Y W (.Call (.Attribute (.Name o po) "pop" apos) [] [] cpos) (sPop i) := by
  refine PE.weak (pe_bm0 PySem.F.plainAttrs_list F.slot_list_pop F.type_list_pop (r := rPop) (fun pins s σ H x vs v us Q I rx rv h => mt_pop pins s σ H x vs v us Q I rx rv h) ho hbase hline) fun s H Q ⟨M, e, ok, p⟩ => ?_
  have p : Post (gx X Y) W (Res (gx X Y)) ⟨H, M, s, e⟩ (popK i e (ownAt e i)) Q := p
  cases q : ownAt e i with
  | none =>
    rw [q] at p
    exact p.elim
  | some ds =>
    rw [q] at p
    have he := ownAt_eq q
    refine ⟨M, e, ok, ?_⟩
    rw [opd_nm he]
    intro v H1 M1 ok1 f1 r1
    have hv : s[i]? = some (some v) := r1
    obtain ⟨a1, vs1, h1, h2, h3⟩ := own_slot (S := ⟨H1, M1, s, e⟩) ok1 q
    have h1' : s[i]? = some (some (.ref a1)) := h1
    rw [hv] at h1'
    cases h1'
    have h2 : H1 a1 = some (.lst vs1) := h2
    have p1 : Post (gx X Y) W (Res (gx X Y)) ⟨H1, M1, s, e⟩ (popK i e (some ds)) Q := Post.shift shift_res (S := ⟨H, M, s, e⟩) (S1 := ⟨H1, M1, s, e⟩) rfl f1 p
    unfold popK at p1
    dsimp only at p1
    cases hg : ds.getLast? with
    | none =>
      rw [hg] at p1
      exact p1.elim
    | some d =>
      rw [hg] at p1
      rw [List.getLast?_eq_getElem?] at hg
      obtain ⟨y, hy, ry⟩ := h3.get hg
      obtain ⟨ok2, f2⟩ := ok1.updOwn (i := i) he hv h3.dropLast
      refine ⟨.inl ⟨rfl, vs1, SqL.of h2⟩, a1, vs1, y, rfl, rfl, h2, by rw [h3.length]; exact hy, p1 y _ _ ok2 f2 (res_dat (ry.carry ?_))⟩
      exact ⟨fun b o hb nb _ => by
        have m1 : M1 a1 := by
          obtain ⟨v', hv', a', vs', e3, m', _, _⟩ := ok1.slot i _ he
          have hv'' : s[i]? = some (some v') := hv'
          rw [hv] at hv''
          cases hv''
          cases e3
          exact m'
        show upd H1 a1 _ b = _
        rw [upd_ne (fun z => nb (by rw [z]; exact m1))]
        exact hb, fun _ _ _ nb _ => nb⟩
/-! ### xs[i] = v -/
def putI (ds : List D) (d : D) : D → Option (List D)
  | .int k => (ixN ds.length k).map fun j => ds.set j d
  | _ => none
def putK (i : Nat) (d : D) (e : SEnv) : Option (List D) → Option D → Out Fl
  | some ds, some x => match putI ds d x with
    | some ds' => .ok .nx (e.set i (some (.own ds')))
    | none => .bad
  | _, _ => .bad
def putV (i : Nat) (ix : Opd) (p : PV) (e : SEnv) : Out Fl := match p with
  | .dat d => if isOwn i e then (opd ix e).bind fun px e1 => putK i d e1 (ownAt e1 i) (pk e1 px) else .bad
  | _ => .bad
/-- value first, then the list, then the place -/
def sPut (i : Nat) (ix : Opd) (f : SE) : SS := fun e => (sFrz f e).bind (putV i ix)
theorem ds_put {x ixe ve : Expr} {ix : Opd} {f : SE} {po pos p2 : Pos} {xn : Str} (hx : x = .Name xn po) (ho : DenO X Y W x (.nm i)) (hi : DenO X Y W ixe ix) (hv : DenE X Y W ve f)
    (hs : swapsWithSole [.Subscript x ixe p2] ve pos.line X.env = pure false := by rfl) (hw : swappedStores [.Subscript x ixe p2] ve X.env = pure none := by rfl)
    (h1 : (assignEach [.Subscript x ixe p2] X.env).map (·.2) = [assign (.Subscript x ixe p2) X.env] := by rfl)
    (ha : ∀ v, assign (.Subscript x ixe p2) X.env v = (do
      let ov ← holding [v] (eval x X.env)
      let iv ← holding [v, ov] (eval ixe X.env)
      standAt p2
      holding [v, ov, iv] (setItem ov iv v)
      release [v, ov, iv] []) := by intro _; rfl) : DenS X Y W (.Assign [.Subscript x ixe p2] ve pos) (sPut i ix f) := by
  refine PS.weak (ps_asg (de_frz hv) (pg_sub ho hi set_list ha) hs hw h1) fun D s H ⟨M, e, ok, p⟩ => ⟨M, e, ok, Post.mono (PostS.bindE (R1 := Res (gx X Y)) p) fun v H1 ⟨pv, e1, M1, ok1, f1, r1, p1⟩ => ?_⟩
  cases pv with
  | dat d =>
    have p1 : PostS (gx X Y) W ⟨H1, M1, s, e1⟩ (if isOwn i e1 then (opd ix e1).bind fun px e2 => putK i d e2 (ownAt e2 i) (pk e2 px) else .bad) D := PostS.shift f1 p1
    cases hio : isOwn i e1 with
    | false =>
      rw [hio] at p1
      exact p1.elim
    | true =>
      rw [hio, if_pos rfl] at p1
      obtain ⟨ds, hds⟩ := Option.isSome_iff_exists.mp hio
      have he := ownAt_eq hds
      refine ⟨M1, e1, ok1, ?_⟩
      rw [opd_nm he]
      intro o H2 M2 ok2 f2 r2
      have hv2 : s[i]? = some (some o) := r2
      refine ⟨M2, e1, ok2, Post.mono (PostS.bindE (R1 := ROp (gx X Y)) (PostS.shift f2 p1)) fun x H3 ⟨px, e3, M3, ok3, f3, r3, p3⟩ => ?_⟩
      have p3 : PostS (gx X Y) W ⟨H2, M2, s, e1⟩ (putK i d e3 (ownAt e3 i) (pk e3 px)) D := p3
      cases q1 : ownAt e3 i with
      | none =>
        rw [q1] at p3
        exact p3.elim
      | some es =>
        cases q2 : pk e3 px with
        | none =>
          rw [q1, q2] at p3
          exact p3.elim
        | some k =>
          rw [q1, q2] at p3
          unfold putK at p3
          dsimp only at p3
          have kx := PkP.pk ok3 r3.pkP q2
          cases q3 : putI es d k with
          | none =>
            rw [q3] at p3
            exact p3.elim
          | some es' =>
            rw [q3] at p3
            unfold putI at q3
            split at q3
            · rename_i n
              obtain ⟨j, hj, e4⟩ := Option.map_eq_some_iff.mp q3
              subst e4
              obtain ⟨a, us, h1, h2, h3⟩ := own_slot ok3 q1
              have h1' : s[i]? = some (some (.ref a)) := h1
              rw [hv2] at h1'
              cases h1'
              have rd : Rep X.K H1 M1 v d := r1.1
              have rd3 := (rd.carry (f2.carry ok1)).carry (f3.carry ok2)
              obtain ⟨ok4, f4⟩ := ok3.updOwn (ownAt_eq q1) hv2 (h3.set rd3 j)
              exact ⟨a, us, n, j, rfl, kx.int, h2, by rw [h3.length]; exact hj, p3 _ _ _ ok4 (f3.trans f4)⟩
            · cases q3
  | own es => exact p1.elim
  | clo => exact p1.elim
  | exn x => exact p1.elim
  | scr ns => exact p1.elim
/-! ### list(script) -/
def scrK (p : Option (Option PV)) (e : SEnv) : Out PV := match p with
  | some (some (.scr ns)) => .ok (.own (ns.map .int)) e
  | _ => .bad
def sScr (i : Nat) : SE := fun e => scrK e[i]? e
theorem nums_rep {K : PySem.W.Frag} {H : Hp} {M : Addr → Prop} : ∀ ns : List Int, RepAll K H M (ns.map V.int) (ns.map PyData.int)
  | [] => .nil
  | n :: ns => .cons (.int n) (nums_rep ns)
theorem de_scr {xn : Str} {p px pos : Pos} (hm : X.mg "list" = none) (ho : DenO X Y W (.Name xn px) (.nm i)) (hg : Gl X "list" := by rfl)
    (he : starEach [.Name xn px] X.env = (false, eval (.Name xn px) X.env) :: starEach [] X.env := by rfl) (hpl : (backTo pos (starEach [] X.env)).any (·.1) = false := by rfl) : DenE X Y W (.Call (.Name "list" p) [.Name xn px] [] pos) (sScr i) := by
  have ha : DenA X Y W [.Name xn px] [.nm i] := da_cons ho da_nil he
  refine PE.weak (pe_callTy call_list_of hg hm rfl ha (by decide) (by decide) he hpl) fun s H Q ⟨M, e, ok, p⟩ => ?_
  have p : Post (gx X Y) W (Res (gx X Y)) ⟨H, M, s, e⟩ (scrK e[i]? e) Q := p
  unfold scrK at p
  split at p
  · rename_i ns q
    refine ⟨M, e, ok, ?_⟩
    have e1 : opds [.nm i] e = .ok [.slot i] e := by
      show ((opd (.nm i) e).bind fun p e1 => (opds [] e1).bind fun ps e2 => .ok (p :: ps) e2) = _
      rw [opd_nm q]
      rfl
    rw [e1]
    intro vs H1 M1 ok1 f1 r1
    have r1 : PkAll (gx X Y) ⟨H1, M1, s, e⟩ vs [.slot i] := r1
    match vs, r1 with
    | [v], .cons rv .nil =>
      have hv : s[i]? = some (some v) := rv
      obtain ⟨v', hv', a, rfl, fz⟩ := ok1.slot i _ q
      have hv'' : s[i]? = some (some (.ref a)) := hv'
      rw [hv] at hv''
      cases hv''
      refine ⟨a, _, rfl, .inl fz.sq, fun l hl => end_lst (S := ⟨H1, M1, s, e⟩) ok1 (Post.shift shift_res (S := ⟨H, M, s, e⟩) (S1 := ⟨H1, M1, s, e⟩) rfl f1 p) (nums_rep ns) hl⟩
  · exact p.elim
end
end SM
namespace SM
open PySem PySem.Spec PyProof.Rows L2
theorem takes0N {X : Cx} : L2N.Takes X WF := fun _ _ ⟨_, _, _, _, _, _, _, _, _, _, _, _, _, _, _, _, w⟩ => w.elim

/-! ## defs -/
abbrev g0 (K : PySem.W.Frag) (mg : Str → Option Value) (T : TX) : GX := ⟨K, mg, T, none, []⟩
def spF (G : GX) (n : Nat) (m : SE) : Sp := fun vs H Q E => vs.length = n ∧ ∃ M e, SOk G ⟨H, M, vs.map some, e⟩ ∧ Post G (fun c d _ H => E c d H) (Res G) ⟨H, M, vs.map some, e⟩ (m e) Q
def outO (fix : List Nat) (e : SEnv) (i : Nat) : Option PV := if i ∈ fix then (e[i]?).join else none
def outE (n : Nat) (fix : List Nat) (e : SEnv) : SEnv := (List.range n).map (outO fix e)
def outF (n : Nat) (fix : List Nat) : Out Fl → Out PV
  | .ok (.rt p) e => .ok p (outE n fix e)
  | .ok .nx e => .ok (.dat .none) (outE n fix e)
  | .exc x e => .exc x (outE n fix e)
  | _ => .bad
def runF (n r : Nat) (fix : List Nat) (b : SS) : SE := fun e => outF n fix (b (e ++ List.replicate r none))
theorem outE_some {n : Nat} {fix : List Nat} {e : SEnv} {i : Nat} {p : PV} (h : (outE n fix e)[i]? = some (some p)) : i < n ∧ i ∈ fix ∧ e[i]? = some (some p) := by
  unfold outE at h
  rw [List.getElem?_map] at h
  by_cases hi : i < n
  · rw [List.getElem?_range hi] at h
    have h' : some (outO fix e i) = some (some p) := h
    have h2 : outO fix e i = some p := Option.some.inj h'
    unfold outO at h2
    by_cases hf : i ∈ fix
    · rw [if_pos hf] at h2
      refine ⟨hi, hf, ?_⟩
      cases q : e[i]? with
      | none =>
        rw [q] at h2
        cases h2
      | some o =>
        rw [q] at h2
        have : o = some p := h2
        rw [this]
    · rw [if_neg hf] at h2
      cases h2
  · rw [List.getElem?_eq_none (by rw [List.length_range]; exact Nat.le_of_not_lt hi)] at h
    cases h
theorem PRep.re {G G' : GX} {H : Hp} {M : Addr → Prop} {v : V} {p : PV} (hK : G'.K = G.K) (hm : G'.mg = G.mg) (hT : G'.T = G.T) (he : G.ex = none ∨ G'.ex = G.ex) (h : PRep G H M v p) : PRep G' H M v p := by
  obtain ⟨K, mg, T, ex, fix⟩ := G
  obtain ⟨K', mg', T', ex', fix'⟩ := G'
  cases hK
  cases hm
  cases hT
  cases p with
  | dat d => exact h
  | own ds => exact h
  | clo => exact h
  | exn x =>
    obtain ⟨a, c, d, e1, e2, e3⟩ := h
    rcases he with z | z
    · have z : ex = none := z
      have e1 : ex = some (a, c, d) := e1
      rw [z] at e1
      cases e1
    · have z : ex' = ex := z
      subst z
      exact ⟨a, c, d, e1, e2, e3⟩
  | scr ns => exact h
theorem ExRep.re {G G' : GX} {H : Hp} {M : Addr → Prop} {c : Value} {d : Option Addr} {x : Exn} (hK : G'.K = G.K) (hm : G'.mg = G.mg) (h : ExRep G H M c d x) : ExRep G' H M c d x := by
  obtain ⟨K, mg, T, ex, fix⟩ := G
  obtain ⟨K', mg', T', ex', fix'⟩ := G'
  cases hK
  cases hm
  exact h
theorem app_none {e : SEnv} {r i : Nat} {p : PV} (h : (e ++ List.replicate r none)[i]? = some (some p)) : e[i]? = some (some p) := by
  by_cases hi : i < e.length
  · rw [List.getElem?_append_left hi] at h
    exact h
  · rw [List.getElem?_append_right (Nat.le_of_not_lt hi), List.getElem?_replicate] at h
    split at h
    · cases h
    · cases h
theorem app_lt {α : Type} {l l' : List α} {i : Nat} {x : α} (h : l[i]? = some x) : (l ++ l')[i]? = some x := by
  rw [List.getElem?_append_left (List.getElem?_eq_some_iff.mp h).1]
  exact h
theorem SOk.startE {G G' : GX} {H : Hp} {M : Addr → Prop} {s : L2.St} {e : SEnv} {r : Nat} (hK : G'.K = G.K) (hm : G'.mg = G.mg) (hT : G'.T = G.T) (he : G.ex = none ∨ G'.ex = G.ex) (ok : SOk G ⟨H, M, s, e⟩) :
    SOk G' ⟨H, M, s ++ List.replicate r none, e ++ List.replicate r none⟩ := by
  have len : e.length = s.length := ok.len
  have back : ∀ (i : Nat) (p : PV) (v : V), e[i]? = some (some p) → (s ++ List.replicate r none)[i]? = some (some v) → s[i]? = some (some v) := fun i p v h h2 => by
    rw [List.getElem?_append_left (by rw [← len]; exact (List.getElem?_eq_some_iff.mp h).1)] at h2
    exact h2
  refine ⟨?_, fun i p h => ?_, fun i j ds es v h1 h2 h3 h4 => ?_, ok.trk, by rw [hT, hK]; exact ok.tabs⟩
  · show (e ++ _).length = (s ++ _).length
    rw [List.length_append, List.length_append, len, List.length_replicate, List.length_replicate]
  · obtain ⟨v, hv, rp⟩ := ok.slot i p (app_none h)
    exact ⟨v, app_lt hv, rp.re hK hm hT he⟩
  · have a1 := app_none h1
    have a2 := app_none h2
    exact ok.apart i j ds es v a1 a2 (back i _ v a1 h3) (back j _ v a2 h4)
theorem own_start {H : Hp} {M : Addr → Prop} {s : L2.St} {e : SEnv} {r : Nat} {a : Addr} (len : e.length = s.length) : OwnA ⟨H, M, s ++ List.replicate r none, e ++ List.replicate r none⟩ a ↔ OwnA ⟨H, M, s, e⟩ a := by
  constructor
  · rintro ⟨i, ds, h1, h2⟩
    have h1' := app_none h1
    refine ⟨i, ds, h1', ?_⟩
    have h2' : (s ++ List.replicate r none)[i]? = some (some (V.ref a)) := h2
    rw [List.getElem?_append_left (by rw [← len]; exact (List.getElem?_eq_some_iff.mp h1').1)] at h2'
    exact h2'
  · rintro ⟨i, ds, h1, h2⟩
    exact ⟨i, ds, app_lt h1, app_lt h2⟩
/-- a body's end, at the call -/
theorem fn_end {G G' : GX} {H H' : Hp} {M M' : Addr → Prop} {s s' : L2.St} {e e' : SEnv} {r n : Nat} {fix : List Nat} (hK : G'.K = G.K) (hm : G'.mg = G.mg) (hT : G'.T = G.T) (he : G'.ex = none) (hf : G'.fix = fix) (hf0 : G.fix = [])
    (ok : SOk G ⟨H, M, s, e⟩) (hn : s.length = n) (h1 : SOk G' ⟨H', M', s', e'⟩) (h2 : Fr G' ⟨H, M, s ++ List.replicate r none, e ++ List.replicate r none⟩ ⟨H', M', s', e'⟩) :
    SOk G ⟨H', M', s, outE n fix e'⟩ ∧ Fr G ⟨H, M, s, e⟩ ⟨H', M', s, outE n fix e'⟩ ∧ ∀ a, OwnA ⟨H', M', s, outE n fix e'⟩ a → OwnA ⟨H', M', s', e'⟩ a := by
  have len : e.length = s.length := ok.len
  have at_ : ∀ i, i < n → i ∈ fix → s'[i]? = s[i]? := fun i hi hf' => by
    have := h2.fix i (by rw [hf]; exact hf')
    have this : s'[i]? = (s ++ List.replicate r none)[i]? := this
    rw [this, List.getElem?_append_left (by rw [hn]; exact hi)]
  have ow : ∀ a, OwnA ⟨H', M', s, outE n fix e'⟩ a → OwnA ⟨H', M', s', e'⟩ a := fun a ⟨i, ds, q1, q2⟩ => by
    obtain ⟨b1, b2, b3⟩ := outE_some q1
    exact ⟨i, ds, b3, by show s'[i]? = _; rw [at_ i b1 b2]; exact q2⟩
  refine ⟨⟨?_, fun i p hi => ?_, fun i j ds es v q1 q2 q3 q4 => ?_, h1.trk, by rw [← hT, ← hK]; exact h1.tabs⟩, ⟨fun a o h k t => h2.keep a o h (fun z => k ((own_start len).mp z)) t, h2.there, fun a o h t m k => h2.mkeep a o h t m (fun z => k ((own_start len).mp z)), h2.mnew, fun a z => ?_, fun _ _ => rfl⟩, ow⟩
  · show (outE n fix e').length = s.length
    unfold outE
    rw [List.length_map, List.length_range, hn]
  · obtain ⟨b1, b2, b3⟩ := outE_some hi
    obtain ⟨v, hv, rp⟩ := h1.slot i p b3
    exact ⟨v, by show s[i]? = _; rw [← at_ i b1 b2]; exact hv, rp.re hK.symm hm.symm hT.symm (.inl he)⟩
  · obtain ⟨b1, b2, b3⟩ := outE_some q1
    obtain ⟨c1, c2, c3⟩ := outE_some q2
    exact h1.apart i j ds es v b3 c3 (by show s'[i]? = _; rw [at_ i b1 b2]; exact q3) (by show s'[j]? = _; rw [at_ j c1 c2]; exact q4)
  · rcases h2.own a (ow a z) with q | q
    · exact .inl ((own_start len).mp q)
    · exact .inr q
theorem fn_post_end {G G' : GX} {H : Hp} {M : Addr → Prop} {s : L2.St} {e : SEnv} {r n : Nat} {fix : List Nat} {b : SS} {Q : VK} {E : XK} (hK : G'.K = G.K) (hm : G'.mg = G.mg) (hT : G'.T = G.T) (he : G'.ex = none) (he0 : G.ex = none) (hf : G'.fix = fix) (hf0 : G.fix = [])
    (ok : SOk G ⟨H, M, s, e⟩) (hn : s.length = n) (p : Post G (fun c d _ H => E c d H) (Res G) ⟨H, M, s, e⟩ (runF n r fix b e) Q) :
    tS G' (fun c d _ H => E c d H) b { nx := fun _ H' => Q .non H', rt := Q } (s ++ List.replicate r none) H := by
  refine ⟨M, e ++ List.replicate r none, ok.startE hK hm hT (.inl he0), ?_⟩
  unfold runF at p
  have len : e.length = s.length := ok.len
  show PostS G' _ _ (b (e ++ List.replicate r none)) _
  cases q : b (e ++ List.replicate r none) with
  | ok fl e' =>
    rw [q] at p
    intro s' H' M' h1 h2
    obtain ⟨okO, frO, owO⟩ := fn_end hK hm hT he hf hf0 ok hn h1 h2
    cases fl with
    | nx => exact p .non H' M' okO frO (res_dat .non)
    | bk => exact p.elim
    | ct => exact p.elim
    | rt pv => exact fun v rv => p v H' M' okO frO ⟨rv.1.re hK.symm hm.symm hT.symm (.inl he), fun ds a e1 e2 => by
        obtain ⟨z1, z2⟩ := rv.2 ds a e1 e2
        exact ⟨fun z => z1 (owO a z), z2.elim .inl fun z => .inr ((own_start len).mp z)⟩⟩
  | exc x e' =>
    rw [q] at p
    intro c d s' H' M' h1 h2 hx
    obtain ⟨okO, frO, owO⟩ := fn_end hK hm hT he hf hf0 ok hn h1 h2
    exact p c d H' M' okO frO (hx.re hK.symm hm.symm)
  | bad =>
    rw [q] at p
    exact p.elim
theorem start_eq {N : List Str} {vs : List V} {n : Nat} (h : vs.length = n) : L2.start N vs = vs.map some ++ List.replicate (N.length - n) none := by
  unfold L2.start
  rw [h]
theorem fn_den {P : Program} {w : World} {K : PySem.W.Frag} {mg : Str → Option Value} {base : Heap} {T : TX} {k : Nat} {f : Addr} {name qual : Str} {params : Arguments} {body : List Stmt} {scope : Scope} {dV kV doc pm cdv ct oc : Value} {an od : Option Addr}
    {osl : Array (Option Value)} {N ps : List Str} {b : SS} (n r : Nat) (fix : List Nat) (lk : K.lookup f = some ⟨oc, od, .func (PySem.W.fnOf name qual params body scope dV kV doc pm an cdv ct), osl⟩) (hcd : PySem.W.codeIn K cdv qual = true) (S : FnScope N ps scope)
    (hn : ps.length = n) (hr : N.length - n = r)
    (hbody : ∀ (A : Around) (outer : List Env) (s : Shared) (H : Hp) (E : XK), Room k (A.deeper (envOfC qual scope s.heap.objs.size f cdv)) → DenB (cxOf (L2N.CX P w) P w K mg base N qual scope f cdv A outer s H E) ⟨T, none, fix⟩ (fun c d _ H => E c d H) body b) :
    FnOk P w K mg base (L2N.CX P w) (k + 1) f (PySem.W.fnOf name qual params body scope dV kV doc pm an cdv ct) ps (spF (g0 K mg T) n (runF n r fix b)) := by
  refine fn_of lk hcd S (fun vs H Q E h => h.1.trans hn.symm) fun A outer s H vs Q E hR ⟨hl, M, e, ok, p⟩ => ⟨_, hbody A outer s H E hR, ?_⟩
  rw [start_eq hl, hr]
  exact fn_post_end (G := g0 K mg T) (G' := ⟨K, mg, T, none, fix⟩) rfl rfl rfl rfl rfl rfl rfl ok (by rw [List.length_map]; exact hl) p
/-! ## calls -/
def argP (e : SEnv) : PO → Option PV
  | .val (.dat d) => some (.dat d)
  | .slot i => match e[i]? with
    | some (some (.dat d)) => some (.dat d)
    | some (some (.own ds)) => some (.own ds)
    | some (some (.scr ns)) => some (.scr ns)
    | _ => none
  | _ => none
def argsE (e : SEnv) : List PO → Option SEnv
  | [] => some []
  | po :: r => match argP e po, argsE e r with
    | some p, some q => some (some p :: q)
    | _, _ => none
def isSlot (i : Nat) : PO → Bool
  | .slot j => i == j
  | _ => false
def dupFree : List PO → Bool
  | [] => true
  | .slot i :: r => !(r.any (isSlot i)) && dupFree r
  | .val _ :: r => dupFree r
def posOf (i : Nat) : List PO → Option Nat
  | [] => none
  | po :: r => if isSlot i po then some 0 else (posOf i r).map (· + 1)
def backO (ps : List PO) (e' : SEnv) (i : Nat) : Option PV → Option PV
  | some (.own ds) => match posOf i ps with
    | some k => (e'[k]?).join
    | none => some (.own ds)
  | o => o
def backGo (ps : List PO) (e' : SEnv) : Nat → SEnv → SEnv
  | _, [] => []
  | i, o :: r => backO ps e' i o :: backGo ps e' (i + 1) r
def backF (ps : List PO) (e : SEnv) : Out PV → Out PV
  | .ok p e' => .ok p (backGo ps e' 0 e)
  | .exc x e' => .exc x (backGo ps e' 0 e)
  | .bad => .bad
def callG (n : Nat) (m : SE) (e : SEnv) (ps : List PO) : Option SEnv → Out PV
  | some args => if ps.length = n ∧ dupFree ps = true then backF ps e (m args) else .bad
  | none => .bad
def callK (n : Nat) (m : SE) (ps : List PO) (e : SEnv) : Out PV := callG n m e ps (argsE e ps)
def sCall (n : Nat) (m : SE) (os : List Opd) : SE := fun e => (opds os e).bind (callK n m)
theorem backGo_len (ps : List PO) (e' : SEnv) : ∀ (k : Nat) (e : SEnv), (backGo ps e' k e).length = e.length
  | _, [] => rfl
  | k, _ :: r => congrArg (· + 1) (backGo_len ps e' (k + 1) r)
theorem backGo_get (ps : List PO) (e' : SEnv) : ∀ (k i : Nat) (e : SEnv), (backGo ps e' k e)[i]? = (e[i]?).map (backO ps e' (k + i))
  | _, _, [] => by simp [backGo]
  | k, 0, o :: r => by simp [backGo]
  | k, i + 1, o :: r => by
    simp only [backGo, List.getElem?_cons_succ]
    rw [backGo_get ps e' (k + 1) i r]
    have : k + 1 + i = k + (i + 1) := by omega
    rw [this]
theorem posOf_some {i : Nat} : ∀ {ps : List PO} {k : Nat}, posOf i ps = some k → ps[k]? = some (.slot i)
  | [], _, h => by cases h
  | po :: r, k, h => by
    unfold posOf at h
    split at h
    · rename_i hs
      cases h
      cases po with
      | val p => cases hs
      | slot j =>
        have : i = j := eq_of_beq hs
        rw [this]
        rfl
    · cases q : posOf i r with
      | none =>
        rw [q] at h
        cases h
      | some k' =>
        rw [q] at h
        have h' : some (k' + 1) = some k := h
        cases h'
        show r[k']? = _
        exact posOf_some q
theorem posOf_none {i : Nat} : ∀ {ps : List PO} {k : Nat}, posOf i ps = none → ps[k]? ≠ some (.slot i)
  | [], _, _ => by simp
  | po :: r, k, h => by
    unfold posOf at h
    split at h
    · cases h
    · rename_i hs
      have h2 : posOf i r = none := by
        cases q : posOf i r with
        | none => rfl
        | some _ =>
          rw [q] at h
          cases h
      cases k with
      | zero =>
        intro z
        cases z
        exact hs (by simp [isSlot])
      | succ k => exact posOf_none (k := k) h2
theorem dup_eq {i : Nat} : ∀ {ps : List PO} {k l : Nat}, dupFree ps = true → ps[k]? = some (.slot i) → ps[l]? = some (.slot i) → k = l
  | [], _, _, _, h, _ => by simp at h
  | .val p :: r, k, l, hd, h1, h2 => by
    cases k with
    | zero => cases h1
    | succ k =>
      cases l with
      | zero => cases h2
      | succ l => exact congrArg (· + 1) (dup_eq (ps := r) hd h1 h2)
  | .slot j :: r, k, l, hd, h1, h2 => by
    unfold dupFree at hd
    rw [Bool.and_eq_true, Bool.not_eq_true'] at hd
    have no : ∀ k : Nat, r[k]? = some (.slot j) → False := fun k h => by
      have := hd.1
      rw [List.any_eq_false] at this
      exact this _ (List.mem_of_getElem? h) (by simp [isSlot])
    cases k with
    | zero =>
      cases l with
      | zero => rfl
      | succ l =>
        cases h1
        exact (no l h2).elim
    | succ k =>
      cases l with
      | zero =>
        cases h2
        exact (no k h1).elim
      | succ l => exact congrArg (· + 1) (dup_eq (ps := r) hd.2 h1 h2)
theorem argsE_get {G : GX} {S : SX} {e : SEnv} : ∀ {vs : List V} {ps : List PO} {args : SEnv} {k : Nat} {p : PV}, PkAll G S vs ps → argsE e ps = some args → args[k]? = some (some p) → ∃ po v, ps[k]? = some po ∧ argP e po = some p ∧ vs[k]? = some v ∧ PkP G S v po
  | _, _, _, _, _, .nil, h, h2 => by
    cases h
    simp at h2
  | _, _, _, k, p, .cons (p := po) (ps := ps) r0 rr, h, h2 => by
    unfold argsE at h
    split at h
    · rename_i p0 q0 e1 e2
      cases h
      cases k with
      | zero =>
        cases h2
        exact ⟨po, _, rfl, e1, rfl, r0⟩
      | succ k =>
        obtain ⟨po', v', h3, h4, h5, h6⟩ := argsE_get rr e2 (k := k) (p := p) h2
        exact ⟨po', v', h3, h4, h5, h6⟩
    · cases h
theorem argsE_len {G : GX} {S : SX} {e : SEnv} : ∀ {vs : List V} {ps : List PO} {args : SEnv}, PkAll G S vs ps → argsE e ps = some args → args.length = vs.length ∧ vs.length = ps.length
  | _, _, _, .nil, h => by
    cases h
    exact ⟨rfl, rfl⟩
  | _, _, _, .cons r0 rr, h => by
    unfold argsE at h
    split at h
    · rename_i p0 q0 e1 e2
      cases h
      obtain ⟨a, b⟩ := argsE_len rr e2
      exact ⟨congrArg (· + 1) a, congrArg (· + 1) b⟩
    · cases h
theorem vsome {vs : List V} {k : Nat} {v : V} : (vs.map some)[k]? = some (some v) ↔ vs[k]? = some v := by
  rw [List.getElem?_map]
  cases vs[k]? with
  | none => simp
  | some w => simp
section
variable {X : Cx} {Y : GY} {W : WX}
/-- the state at a callee's entry -/
theorem args_ok {G : GX} {S : SX} {vs : List V} {ps : List PO} {args : SEnv} (G0 : GX) (hK : G0.K = G.K) (hm : G0.mg = G.mg) (hT : G0.T = G.T) (ok : SOk G S) (r : PkAll G S vs ps) (h : argsE S.e ps = some args) (hd : dupFree ps = true) :
    SOk G0 ⟨S.H, S.M, vs.map some, args⟩ ∧ ∀ (k : Nat) (ds : List D), args[k]? = some (some (.own ds)) → ∃ i v, ps[k]? = some (.slot i) ∧ S.e[i]? = some (some (.own ds)) ∧ vs[k]? = some v ∧ S.s[i]? = some (some v) := by
  have ow : ∀ (k : Nat) (ds : List D), args[k]? = some (some (.own ds)) → ∃ i v, ps[k]? = some (.slot i) ∧ S.e[i]? = some (some (.own ds)) ∧ vs[k]? = some v ∧ S.s[i]? = some (some v) := fun k ds hk => by
    obtain ⟨po, v, h1, h2, h3, h4⟩ := argsE_get r h hk
    unfold argP at h2
    split at h2
    · cases h2
    · split at h2
      · cases h2
      · rename_i i _ ds' q
        cases h2
        exact ⟨i, v, h1, q, h3, h4⟩
      · cases h2
      · cases h2
    · cases h2
  refine ⟨⟨?_, fun k p hk => ?_, fun k l ds es v h1 h2 h3 h4 => ?_, ok.trk, by rw [hT, hK]; exact ok.tabs⟩, ow⟩
  · show args.length = (vs.map some).length
    rw [List.length_map]
    exact (argsE_len r h).1
  · obtain ⟨po, v, h1, h2, h3, h4⟩ := argsE_get r h hk
    refine ⟨v, vsome.mpr h3, ?_⟩
    have nx : ∀ {q : PV}, PRep G S.H S.M v q → (∀ x, q ≠ .exn x) → PRep G0 S.H S.M v q := fun {q} hq hne => by
      obtain ⟨K, mg, T, ex, fix⟩ := G
      obtain ⟨K', mg', T', ex', fix'⟩ := G0
      cases hK
      cases hm
      cases hT
      cases q with
      | exn x => exact absurd rfl (hne x)
      | dat d => exact hq
      | own ds => exact hq
      | clo => exact hq
      | scr ns => exact hq
    unfold argP at h2
    split at h2
    · cases h2
      exact nx h4.1 (fun _ z => nomatch z)
    · have hv : ∀ {i : Nat} {q : PV}, S.e[i]? = some (some q) → S.s[i]? = some (some v) → PRep G S.H S.M v q := fun {i q} e1 e2 => by
        obtain ⟨w, hw, rw'⟩ := ok.slot i q e1
        rw [e2] at hw
        cases hw
        exact rw'
      split at h2
      · rename_i q
        cases h2
        exact nx (hv q h4) (fun _ z => nomatch z)
      · rename_i q
        cases h2
        exact nx (hv q h4) (fun _ z => nomatch z)
      · rename_i q
        cases h2
        exact nx (hv q h4) (fun _ z => nomatch z)
      · cases h2
    · cases h2
  · obtain ⟨i, v1, a1, a2, a3, a4⟩ := ow k ds h1
    obtain ⟨j, v2, b1, b2, b3, b4⟩ := ow l es h2
    have c1 : vs[k]? = some v := vsome.mp h3
    have c2 : vs[l]? = some v := vsome.mp h4
    rw [a3] at c1
    cases c1
    rw [b3] at c2
    cases c2
    have := ok.apart i j ds es _ a2 b2 a4 b4
    subst this
    exact dup_eq hd a1 b1
/-- back from a callee -/
theorem back_ok {G : GX} {S : SX} {vs : List V} {ps : List PO} {args e' : SEnv} {H' : Hp} {M' : Addr → Prop} (G0 : GX) (hK : G0.K = G.K) (hm : G0.mg = G.mg) (hT : G0.T = G.T) (hx : G0.ex = none) (ok : SOk G S) (r : PkAll G S vs ps) (h : argsE S.e ps = some args) (hd : dupFree ps = true)
    (ok' : SOk G0 ⟨H', M', vs.map some, e'⟩) (f : Fr G0 ⟨S.H, S.M, vs.map some, args⟩ ⟨H', M', vs.map some, e'⟩) :
    SOk G ⟨H', M', S.s, backGo ps e' 0 S.e⟩ ∧ Fr G S ⟨H', M', S.s, backGo ps e' 0 S.e⟩ ∧ (∀ a, OwnA ⟨S.H, S.M, vs.map some, args⟩ a → OwnA S a) ∧
      ∀ a, OwnA ⟨H', M', S.s, backGo ps e' 0 S.e⟩ a → OwnA ⟨H', M', vs.map some, e'⟩ a ∨ (OwnA S a ∧ ¬ OwnA ⟨S.H, S.M, vs.map some, args⟩ a) := by
  obtain ⟨ok0, ow⟩ := args_ok G0 hK hm hT ok r h hd
  have ow0 : ∀ a, OwnA ⟨S.H, S.M, vs.map some, args⟩ a → ∃ (i k : Nat) (ds : List D), ps[k]? = some (PO.slot i) ∧ S.e[i]? = some (some (PV.own ds)) ∧ S.s[i]? = some (some (V.ref a)) := fun a ⟨k, ds, q1, q2⟩ => by
    obtain ⟨i, v, a1, a2, a3, a4⟩ := ow k ds q1
    have q2' : vs[k]? = some (.ref a) := vsome.mp q2
    rw [a3] at q2'
    cases q2'
    exact ⟨i, k, ds, a1, a2, a4⟩
  have ow1 : ∀ a, OwnA ⟨S.H, S.M, vs.map some, args⟩ a → OwnA S a := fun a z => by
    obtain ⟨i, k, ds, _, a2, a3⟩ := ow0 a z
    exact ⟨i, ds, a2, a3⟩
  have c0 : Carry S.H H' S.M M' := f.carry ok0
  -- where a slot's content comes from
  have src : ∀ (i : Nat) (p : PV), (backGo ps e' 0 S.e)[i]? = some (some p) →
      (S.e[i]? = some (some p) ∧ ∀ ds, p = PV.own ds → ∀ k : Nat, ps[k]? ≠ some (PO.slot i)) ∨ (∃ (k : Nat) (ds : List D), ps[k]? = some (PO.slot i) ∧ S.e[i]? = some (some (PV.own ds)) ∧ e'[k]? = some (some p)) := fun i p hi => by
    rw [backGo_get, Nat.zero_add] at hi
    cases q : S.e[i]? with
    | none =>
      rw [q] at hi
      cases hi
    | some o =>
      rw [q] at hi
      have hi' : backO ps e' i o = some p := Option.some.inj hi
      unfold backO at hi'
      split at hi'
      · rename_i ds
        split at hi'
        · rename_i k hk
          right
          refine ⟨k, ds, posOf_some hk, rfl, ?_⟩
          cases q2 : e'[k]? with
          | none =>
            rw [q2] at hi'
            cases hi'
          | some o' =>
            rw [q2] at hi'
            have : o' = some p := hi'
            rw [this]
        · rename_i hk
          cases hi'
          exact .inl ⟨rfl, fun _ _ k => posOf_none hk⟩
      · rename_i hne
        subst hi'
        exact .inl ⟨rfl, fun ds e => absurd (by rw [e]) (hne ds)⟩
  -- a passed list's place
  have passed : ∀ (k i : Nat) (v : V), ps[k]? = some (.slot i) → vs[k]? = some v → S.s[i]? = some (some v) := fun k i v hk hv => by
    have : ∀ {vs : List V} {ps : List PO} {k : Nat} {v : V}, PkAll G S vs ps → ps[k]? = some (.slot i) → vs[k]? = some v → S.s[i]? = some (some v) := by
      intro vs ps k v r
      induction r generalizing k with
      | nil => intro h; simp at h
      | cons r0 rr ih =>
        intro h1 h2
        cases k with
        | zero =>
          cases h1
          cases h2
          exact r0
        | succ k => exact ih h1 h2
    exact this r hk hv
  have up : ∀ (k : Nat) (v : V), (vs.map some)[k]? = some (some v) → vs[k]? = some v := fun k v z => vsome.mp z
  have notPassed : ∀ (i : Nat) (ds : List D) (a : Addr), S.e[i]? = some (some (.own ds)) → (∀ k : Nat, ps[k]? ≠ some (PO.slot i)) → S.s[i]? = some (some (.ref a)) → ¬ OwnA ⟨S.H, S.M, vs.map some, args⟩ a := fun i ds a h1 h2 h3 z => by
    obtain ⟨j, k, es, b1, b2, b3⟩ := ow0 a z
    have := ok.apart i j ds es _ h1 b2 h3 b3
    subst this
    exact h2 k b1
  have owB : ∀ a, OwnA ⟨H', M', S.s, backGo ps e' 0 S.e⟩ a → OwnA ⟨H', M', vs.map some, e'⟩ a ∨ (OwnA S a ∧ ¬ OwnA ⟨S.H, S.M, vs.map some, args⟩ a) := fun a ⟨i, ds, q1, q2⟩ => by
    rcases src i _ q1 with ⟨a1, a2⟩ | ⟨k, es, a1, a2, a3⟩
    · exact .inr ⟨⟨i, ds, a1, q2⟩, notPassed i ds a a1 (a2 ds rfl) q2⟩
    · obtain ⟨w, hw, _⟩ := ok'.slot k _ a3
      have hw' := passed k i w a1 (up k w hw)
      have q2' : S.s[i]? = some (some (.ref a)) := q2
      rw [hw'] at q2'
      cases q2'
      exact .inl ⟨k, ds, a3, hw⟩
  refine ⟨⟨?_, fun i p hi => ?_, fun i j ds es v h1 h2 h3 h4 => ?_, ok'.trk, by rw [← hT, ← hK]; exact ok'.tabs⟩, ⟨fun a o ha n t => f.keep a o ha (fun z => n (ow1 a z)) t, f.there, fun a o ha t m n => f.mkeep a o ha t m (fun z => n (ow1 a z)), f.mnew, fun a z => ?_, fun _ _ => rfl⟩, ow1, owB⟩
  · show (backGo ps e' 0 S.e).length = S.s.length
    rw [backGo_len]
    exact ok.len
  · rcases src i p hi with ⟨a1, a2⟩ | ⟨k, es, a1, a2, a3⟩
    · obtain ⟨v, hv, rp⟩ := ok.slot i p a1
      exact ⟨v, hv, PRep.carry c0 (fun ds a xs ep ev m hh => by
        have n0 : ¬ OwnA ⟨S.H, S.M, vs.map some, args⟩ a := notPassed i ds a (by rw [← ep]; exact a1) (a2 ds ep) (by rw [← ev]; exact hv)
        exact ⟨f.keep a _ hh n0 (fun _ z => nomatch z), f.mkeep a _ hh (fun _ z => nomatch z) m n0⟩) rp⟩
    · obtain ⟨w, hw, rp⟩ := ok'.slot k p a3
      exact ⟨w, passed k i w a1 (up k w hw), rp.re hK.symm hm.symm hT.symm (.inl hx)⟩
  · have o1 : ∃ ds', S.e[i]? = some (some (.own ds')) := by
      rcases src i _ h1 with ⟨a1, _⟩ | ⟨_, ds', _, a2, _⟩
      · exact ⟨ds, a1⟩
      · exact ⟨ds', a2⟩
    have o2 : ∃ ds', S.e[j]? = some (some (.own ds')) := by
      rcases src j _ h2 with ⟨a1, _⟩ | ⟨_, ds', _, a2, _⟩
      · exact ⟨es, a1⟩
      · exact ⟨ds', a2⟩
    obtain ⟨d1, e1⟩ := o1
    obtain ⟨d2, e2⟩ := o2
    exact ok.apart i j d1 d2 v e1 e2 h3 h4
  · rcases owB a z with q | q
    · rcases f.own a q with q | q
      · exact .inl (ow1 a q)
      · exact .inr q
    · exact .inl q.1
theorem call_post {G : GX} {S : SX} {vs : List V} {ps : List PO} {n : Nat} {m : SE} {Q : VK} (G0 : GX) (hK : G0.K = G.K) (hm : G0.mg = G.mg) (hT : G0.T = G.T) (hx : G0.ex = none) (ok : SOk G S) (r : PkAll G S vs ps) (p : Post G W (Res G) S (callK n m ps S.e) Q) : spF G0 n m vs S.H Q (WE W S.s) := by
  unfold callK callG at p
  cases h : argsE S.e ps with
  | none =>
    rw [h] at p
    exact p.elim
  | some args =>
    rw [h] at p
    dsimp only at p
    split at p
    · rename_i hc
      obtain ⟨hl, hd⟩ := hc
      obtain ⟨ok0, ow⟩ := args_ok G0 hK hm hT ok r h hd
      refine ⟨(argsE_len r h).2.trans hl, S.M, args, ok0, ?_⟩
      cases q : m args with
      | ok pv e' =>
        rw [q] at p
        intro v H' M' h1 h2 h3
        obtain ⟨okB, frB, ow1, owB⟩ := back_ok G0 hK hm hT hx ok r h hd h1 h2
        refine p v H' M' okB frB ⟨h3.1.re hK.symm hm.symm hT.symm (.inl hx), fun ds a e1 e2 => ?_⟩
        obtain ⟨z1, z2⟩ := h3.2 ds a e1 e2
        refine ⟨fun z => ?_, z2.elim .inl fun z => .inr (ow1 a z)⟩
        rcases owB a z with w | ⟨w1, w2⟩
        · exact z1 w
        · rcases z2 with z2 | z2
          · obtain ⟨o, ho, t⟩ := ok.trk a (ok.ownM w1)
            exact z2.no ho t
          · exact w2 z2
      | exc x e' =>
        rw [q] at p
        intro c d H' M' h1 h2 h3
        obtain ⟨okB, frB, ow1, owB⟩ := back_ok G0 hK hm hT hx ok r h hd h1 h2
        exact p c d H' M' okB frB (h3.re hK.symm hm.symm)
      | bad =>
        rw [q] at p
        exact p.elim
    · exact p.elim
theorem de_call {f : Addr} {fd : FuncData} {pn : List Str} {k n : Nat} {m : SE} {x : Str} {a : Expr} {as : List Expr} {os : List Opd} {p pos : Pos} (F : FnOk X.prog X.w X.K X.mg X.base (L2N.CX X.prog X.w) k f fd pn (spF (g0 X.K X.mg Y.T) n m)) (hr : Room k X.A) (hm : X.mg x = some (.ref f)) (hk : PySem.W.keepIn X.K (.ref f) = true) (hb : Binds X.K fd pn []) (tk : L2N.Takes X W)
    (ha : DenA X Y W (a :: as) os) (hg : Gl X x := by rfl) (hdb : (x == ("__debug__" : Str)) = false := by decide) (he : starEach (a :: as) X.env = (false, eval a X.env) :: starEach as X.env := by rfl) (hpl : (backTo pos (starEach as X.env)).any (·.1) = false := by rfl) :
    DenE X Y W (.Call (.Name x p) (a :: as) [] pos) (sCall n m os) :=
  PE.weak (pe_callS (E := WE W) F hr hg hm hk hb (fun σ => L2N.passAt tk σ) ha hdb he hpl) fun s H Q ⟨M, e, ok, p⟩ =>
    ⟨M, e, ok, Post.mono (Post.bind (R1 := RAs (gx X Y)) shift_res p) fun vs H1 ⟨ps, e1, M1, ok1, f1, r1, p1⟩ => call_post (G := gx X Y) (g0 X.K X.mg Y.T) rfl rfl rfl rfl ok1 r1 p1⟩
end
end SM
namespace SM
open PySem PySem.Spec PyProof.Rows L2

/-! ## less is known -/
theorem SOk.sub {G G' : GX} {H : Hp} {M : Addr → Prop} {s s' : L2.St} {e e' : SEnv} (hK : G'.K = G.K) (hT : G'.T = G.T) (ok : SOk G ⟨H, M, s, e⟩) (len : e'.length = s'.length)
    (h : ∀ (j : Nat) (p : PV), e'[j]? = some (some p) → (e[j]? = some (some p) ∧ s'[j]? = s[j]? ∧ ∀ v, PRep G H M v p → PRep G' H M v p) ∨ ((∀ ds, p ≠ .own ds) ∧ ∃ v, s'[j]? = some (some v) ∧ PRep G' H M v p)) :
    SOk G' ⟨H, M, s', e'⟩ ∧ ∀ a, OwnA ⟨H, M, s', e'⟩ a → OwnA ⟨H, M, s, e⟩ a := by
  have o1 : ∀ (j : Nat) (ds : List D), e'[j]? = some (some (.own ds)) → e[j]? = some (some (.own ds)) ∧ s'[j]? = s[j]? := fun j ds hj => by
    rcases h j _ hj with ⟨h1, h2, _⟩ | ⟨h1, _⟩
    · exact ⟨h1, h2⟩
    · exact absurd rfl (h1 ds)
  refine ⟨⟨len, fun i p hi => ?_, fun i j ds es v h1 h2 h3 h4 => ?_, ok.trk, by rw [hT, hK]; exact ok.tabs⟩, fun a ⟨j, ds, h1, h2⟩ => ?_⟩
  · rcases h i p hi with ⟨h1, h2, h3⟩ | ⟨_, v, h2, h3⟩
    · obtain ⟨v, hv, r⟩ := ok.slot i p h1
      exact ⟨v, by show s'[i]? = _; rw [h2]; exact hv, h3 v r⟩
    · exact ⟨v, h2, h3⟩
  · obtain ⟨a1, a2⟩ := o1 i ds h1
    obtain ⟨b1, b2⟩ := o1 j es h2
    exact ok.apart i j ds es v a1 b1 (by show s[i]? = _; rw [← a2]; exact h3) (by show s[j]? = _; rw [← b2]; exact h4)
  · obtain ⟨a1, a2⟩ := o1 j ds h1
    exact ⟨j, ds, a1, by show s[j]? = _; rw [← a2]; exact h2⟩
theorem fr_sub {G : GX} {H : Hp} {M : Addr → Prop} {s s' : L2.St} {e e' : SEnv} (ow : ∀ a, OwnA ⟨H, M, s', e'⟩ a → OwnA ⟨H, M, s, e⟩ a) (hf : ∀ i ∈ G.fix, s'[i]? = s[i]?) : Fr G ⟨H, M, s, e⟩ ⟨H, M, s', e'⟩ :=
  ⟨fun _ _ h _ _ => h, fun _ o h t => ⟨o, h, t⟩, fun _ _ _ _ m _ => m, fun _ m => .inl m, fun a z => .inl (ow a z), hf⟩
theorem Fr.re {G G' : GX} {S S' : SX} (hf : ∀ i ∈ G'.fix, S'.s[i]? = S.s[i]?) (f : Fr G S S') : Fr G' S S' := ⟨f.keep, f.there, f.mkeep, f.mnew, f.own, hf⟩
/-! ## raise -/
def sRaise (x : Exn) : SS := fun e => .exc x e
section
variable {X : Cx} {Y : GY} {W : WX}
theorem ds_raise {x m : Str} {C : Addr} {bmB : List Value} {B newId initId : String} {j : Nat} {p p2 p3 pos : Pos} (F : ExcBaseFacts B newId initId bmB) (q : PySem.W.excIn X.K C bmB newId = true) (gC : X.mg x = some (.ref C)) (kC : PySem.W.keepIn X.K (.ref C) = true) (r : Raises X (.ref C)) (hc : X.calm = true) (tk : L2N.Takes X W)
    (hg : Gl X x := by rfl) (hdb : (x == ("__debug__" : Str)) = false := by decide) : DenS X Y W (.Raise (some (.Call (.Name x p) [.Constant (.str m) j p2] [] p3)) none pos) (sRaise ⟨x, none⟩) :=
  PS.weak (L2N.ps_raise hc tk (L2N.pmk_own F q gC kC r hg hdb)) fun D s H ⟨M, e, ok, h⟩ => h (.ref C) none s H M ok (Fr.refl _ _) ⟨C, gC, rfl, fun _ => rfl, fun _ _ z => nomatch z⟩
end
/-! ## try -/
def setX (i : Option Nat) (a : Addr) (s : L2.St) : L2.St := match i with
  | some i => s.set i (some (.ref a))
  | none => s
def offX (i : Option Nat) (s : L2.St) : L2.St := match i with
  | some i => s.set i none
  | none => s
def endsX (i : Option Nat) (D : Ends) : Ends := { nx := fun s H => D.nx (offX i s) H, rt := D.rt, bk := fun s H => D.bk (offX i s) H, ct := fun s H => D.ct (offX i s) H }
/-- what the clauses wish -/
def wAll (K : PySem.W.Frag) (Wout : WX) (D : Ends) : List (Value × Option Nat × (Addr → Value → Option Addr → TS)) → WX
  | [] => Wout
  | (c, i, ts) :: r => fun cls d s H => ∃ b, PySem.W.exmOne K cls c = some b ∧ (b = true → ∀ a, H a = none → ts a cls d (endsX i D) (setX i a s) H) ∧ (b = false → wAll K Wout D r cls d s H)
inductive HdsAll (X : Cx) : List ExceptHandler → List (Value × Option Nat × (Addr → Value → Option Addr → TS)) → Prop
  | nil : HdsAll X [] []
  | bare {x : Str} {c : Value} {ts : Addr → Value → Option Addr → TS} {b₀ : Stmt} {suite : List Stmt} {np pos' : Pos} {hds : List ExceptHandler} {l : List (Value × Option Nat × (Addr → Value → Option Addr → TS))} (hc : Names X x c)
      (hsu : ∀ (a : Addr) (oe : Obj) (cls : Value) (d : Option Addr) (pn : List (Addr × Obj)), L2N.Zn cls d oe → (∃ vs, oe.data = .fields vs) → PSs (X.suite a ((a, oe) :: pn)) (b₀ :: suite) (ts a cls d)) (r : HdsAll X hds l) :
      HdsAll X (.ExceptHandler (some (.Name x np)) none (b₀ :: suite) pos' :: hds) ((c, none, ts) :: l)
  | as_ {x n : Str} {i : Nat} {c : Value} {ts : Addr → Value → Option Addr → TS} {b₀ : Stmt} {suite : List Stmt} {np pos' : Pos} {hds : List ExceptHandler} {l : List (Value × Option Nat × (Addr → Value → Option Addr → TS))} (hi : X.N[i]? = some n) (hln : X.env.kindOf n = some .local) (hc : Names X x c)
      (hsu : ∀ (a : Addr) (oe : Obj) (cls : Value) (d : Option Addr) (pn : List (Addr × Obj)), L2N.Zn cls d oe → (∃ vs, oe.data = .fields vs) → PSs (X.suite a ((a, oe) :: pn)) (b₀ :: suite) (ts a cls d)) (r : HdsAll X hds l) :
      HdsAll X (.ExceptHandler (some (.Name x np)) (some n) (b₀ :: suite) pos' :: hds) ((c, some i, ts) :: l)
section
variable {X : Cx} {body : List Stmt} {h₀ : ExceptHandler} {hds : List ExceptHandler} {l : List (Value × Option Nat × (Addr → Value → Option Addr → TS))} {pos : Pos} {tb : WX → TS} {Wout : WX}
theorem ps_try_all (hs : X.stack = X.env :: X.outer) (hf : X.env.frame = some X.env.locals) (hN : X.N.Nodup) (tk : L2N.Takes X Wout)
    (hb : ∀ (W : WX) (pn : List (Addr × Obj)) (xe : Value → Shared → Prop), L2N.Takes (X.tr pn xe) W → PassesOwn (model X.prog X.w) X.A X.env xe → PSs (X.tr pn xe) body (tb W))
    (hh : HdsAll X (h₀ :: hds) l) : PS X (.Try body (h₀ :: hds) [] [] pos) (fun D σ H => tb (wAll X.K Wout D l) D σ H) := by
  refine ⟨fun pins s σ H D I h => ?_⟩
  have ok := I.ok
  have hfr : X.A.frames = some (X.env :: X.outer) := by rw [ok.frames, hs]
  refine wpAny_Try_except ?_
  refine wpAny_mono ((hb (wAll X.K Wout D l) (X.pn ++ pins) (fun e s₁ => wpAny (model X.prog X.w) X.A (noteFrame e X.env) (fun _ s₂ => wpAny (model X.prog X.w) X.A (setFlight e none) (fun _ s₃ =>
    wpAny (model X.prog X.w) X.A (handleBy e X.env (h₀ :: hds)) (SP X pins D) X.xe s₃) X.xe s₂) X.xe s₁) (fun u s' xx => ?_) PassesOwn.looking).run [] s σ H D (I.toTry _) h) (fun f s1 hsp => ?_) (fun e s1 he => he)
  · obtain ⟨a, B, sI, pins', σ', H', cls, d, rfl, J', nb, up, sky, na, os, ag, w⟩ := xx
    have J : Inv X pins σ' H' sI := J'.ofTry ok
    have sky' : Sky B (X.env :: X.outer) a (L2N.Zn cls d) X.env.locals s'.heap := by rw [← hs]; exact sky
    show wpAny (model X.prog X.w) X.A (noteFrame (.ref a) X.env) _ _ _
    refine L2N.Sky.land L2N.Zn.steady hfr hf sky' fun h3 fl3 up3 => ?_
    have J3 : Inv X pins σ' H' { s' with heap := h3 } := J.landed nb fl3.1 (up.trans up3) os ag
    obtain ⟨oe3, vs3, he3, hz3, hd3⟩ := fl3.there
    have nfr : a ∉ frs (X.env :: X.outer) := fun hm => by
      obtain ⟨_, o', e', hnf⟩ := fl3.2.2.1.mem hm
      rw [he3] at e'
      cases e'
      exact hnf _ hd3
    have nL : a ≠ X.env.locals := fun z => nfr (List.mem_filterMap.mpr ⟨X.env, List.mem_cons_self, by rw [hf, z]⟩)
    have nF : a ∉ X.fs := fun hm => by
      obtain ⟨e, he, q⟩ := List.mem_filterMap.mp hm
      exact nfr (List.mem_filterMap.mpr ⟨e, List.mem_cons_of_mem _ he, q⟩)
    have S3 := J3.suite he3 hd3 na nL nF
    have LT : PySem.W.Looks (model X.prog X.w) h3 (typeOf (.ref a)) cls := fun A Q E s k q => wpAny_typeOf_ref (k _ _ he3) (by rw [hz3.1]; exact q)
    have test : ∀ {x : Str} {c : Value} {np : Pos} {Q : Value → Shared → Prop} {E : Value → Shared → Prop}, Names X x c → Q c { s' with heap := h3 } → wpAny (model X.prog X.w) (X.A.mark (some (.ref a))) (eval (.Name x np) X.env) Q E { s' with heap := h3 } := fun {x c np Q E} hc q => by
      obtain ⟨hg, hdbg, hm | ⟨hm, hv, hnn⟩⟩ := hc
      · exact ld_glob (X := X.suite a ((a, oe3) :: (X.pn ++ pins))) S3 hg hm q hdbg
      · exact ld_blt (X := X.suite a ((a, oe3) :: (X.pn ++ pins))) S3 hg hm hv q hnn hdbg
    have go : ∀ {hds' : List ExceptHandler} {l' : List (Value × Option Nat × (Addr → Value → Option Addr → TS))}, HdsAll X hds' l' → wAll X.K Wout D l' cls d σ' H' →
        wpAny (model X.prog X.w) X.A (handleBy (.ref a) X.env hds') (SP X pins D) X.xe { s' with heap := h3 } := by
      intro hds' l' hk
      induction hk with
      | nil =>
        intro w
        refine wpAny_handleBy_nil ?_
        obtain ⟨k1, k2, k3, oe, vs, T, oT, ts', he, hz, hd, h1, hr⟩ := id fl3
        unfold PySem.passOn
        refine wpAny_bind (wpAny_field he hd h1 ?_)
        rw [if_neg (show ¬ ((Value.ref T == Value.none) = true) from by simp)]
        have fin : wpAny (model X.prog X.w) X.A (setFlight (.ref a) X.env.frame) (fun _ s4 => wpAny (model X.prog X.w) X.A (throw (.ref a) : Sem Flow) (SP X pins D) X.xe s4) X.xe { s' with heap := h3 } := by
          rw [hf]
          refine HandSPX.setFlight_upZ fl3 fun h4 hh4 up4 => wpAny_throw (tk _ _ ?_)
          exact ⟨a, B, sI, pins, σ', H', cls, d, rfl, J, nb, (up.trans up3).trans up4, .inr (.inr (by rw [hs]; exact hh4)), na, os, ag, w⟩
        first
          | exact wpAny_bind (wpAny_pure (wpAny_bind fin))
          | exact wpAny_bind fin
      | @bare x c ts b₀ suite np pos' hds2 l2 hc hsu r ih =>
        intro w
        obtain ⟨b, hb1, hyes, hno⟩ := w
        refine wpAny_handleBy_cons (codeAny_handlers_test ?_) (by intro q; cases q)
        refine test hc ((PySem.W.exm_one (M := model X.prog X.w) J3.kIn LT hb1).here ?_)
        cases b with
        | true =>
          refine codeAny_handlers_suite ?_
          refine HandSPX.lands_againZ fl3 fun h4 fl4 up4 => ?_
          have J4 : Inv X pins σ' H' { s' with heap := h4 } := J.landed nb fl4.1 ((up.trans up3).trans up4) os ag
          obtain ⟨oe4, vs4, he4, hz4, hd4⟩ := fl4.there
          have S4 := J4.suite he4 hd4 na nL nF
          refine wpAny_mono ((hsu a oe4 cls d (X.pn ++ pins) hz4 ⟨_, hd4⟩).run [] _ _ H' _ S4 (hyes rfl a na)) (fun f s6 hsp => ?_) (fun _ _ z => False.elim z)
          cases f with
          | next =>
            obtain ⟨σ6, H6, S6, q6⟩ := hsp
            exact ⟨_, _, S6.unsuite ok, q6⟩
          | brk =>
            obtain ⟨σ6, H6, S6, q6⟩ := hsp
            exact ⟨_, _, S6.unsuite ok, q6⟩
          | cont =>
            obtain ⟨σ6, H6, S6, q6⟩ := hsp
            exact ⟨_, _, S6.unsuite ok, q6⟩
          | ret u =>
            obtain ⟨v6, σ6, H6, S6, r6, q6⟩ := hsp
            exact ⟨_, _, _, S6.unsuite ok, r6, q6⟩
        | false => exact ih (hno rfl)
      | @as_ x n i c ts b₀ suite np pos' hds2 l2 hi hln hc hsu r ih =>
        intro w
        obtain ⟨b, hb1, hyes, hno⟩ := w
        refine wpAny_handleBy_cons (codeAny_handlers_test ?_) (by intro q; cases q)
        refine test hc ((PySem.W.exm_one (M := model X.prog X.w) J3.kIn LT hb1).here ?_)
        cases b with
        | true =>
          refine codeAny_handlers_suite_as ?_
          refine HandSPX.lands_againZ fl3 fun h4 fl4 up4 => ?_
          have J4 : Inv X pins σ' H' { s' with heap := h4 } := J.landed nb fl4.1 ((up.trans up3).trans up4) os ag
          obtain ⟨oe4, vs4, he4, hz4, hd4⟩ := fl4.there
          have S4 := J4.suite he4 hd4 na nL nF
          refine store_ok (X := X.suite a ((a, oe4) :: (X.pn ++ pins))) (v := .ref a) S4 hN hi (.inl hln) rfl (fun s5 S5 => ?_) (.inr hln)
          refine wpAny_mono ((hsu a oe4 cls d (X.pn ++ pins) hz4 ⟨_, hd4⟩).run [] s5 _ H' _ S5 (hyes rfl a na)) (fun f s6 hsp => ?_) (fun _ _ z => False.elim z)
          have end_ : ∀ {σ6 : L2.St} {H6 : Hp} {Q : Shared → Prop}, Inv (X.suite a ((a, oe4) :: (X.pn ++ pins))) [] σ6 H6 s6 → (∀ s7, Inv X pins (σ6.set i none) H6 s7 → Q s7) →
              wpAny (model X.prog X.w) X.A (do bindName X.env n .none; unbindBehindTheSuite X.env n pos') (fun _ s7 => Q s7) X.xe s6 := fun {σ6 H6 Q} S6 hq => gone_ok (S6.unsuite ok) hN hi hln hq
          cases f with
          | next =>
            obtain ⟨σ6, H6, S6, q6⟩ := hsp
            exact end_ S6 fun s7 J7 => ⟨_, _, J7, q6⟩
          | brk =>
            obtain ⟨σ6, H6, S6, q6⟩ := hsp
            exact end_ S6 fun s7 J7 => ⟨_, _, J7, q6⟩
          | cont =>
            obtain ⟨σ6, H6, S6, q6⟩ := hsp
            exact end_ S6 fun s7 J7 => ⟨_, _, J7, q6⟩
          | ret u =>
            obtain ⟨v6, σ6, H6, S6, r6, q6⟩ := hsp
            exact end_ S6 fun s7 J7 => ⟨_, _, _, J7, r6, q6⟩
        | false => exact ih (hno rfl)
    exact go hh w
  · cases f with
    | next =>
      obtain ⟨σ', H', J', q⟩ := hsp
      exact wpAny_execs_nil ⟨σ', H', J'.ofTry ok, q⟩
    | brk =>
      obtain ⟨σ', H', J', q⟩ := hsp
      exact ⟨σ', H', J'.ofTry ok, q⟩
    | cont =>
      obtain ⟨σ', H', J', q⟩ := hsp
      exact ⟨σ', H', J'.ofTry ok, q⟩
    | ret u =>
      obtain ⟨v, σ', H', J', r, q⟩ := hsp
      exact ⟨v, σ', H', J'.ofTry ok, r, q⟩
end

structure Hd where
  tbl : List (Str × Bool)
  i : Option Nat
  g : SS
def dropO : Option PV → Option PV
  | some (.exn _) => none
  | o => o
def inX (i : Option Nat) (x : Exn) (e : SEnv) : SEnv := match i with
  | some i => e.set i (some (.exn x))
  | none => e
def offE (i : Option Nat) (e : SEnv) : SEnv := match i with
  | some i => (e.map dropO).set i none
  | none => e.map dropO
def hdEnd (i : Option Nat) : Out Fl → Out Fl
  | .ok (.rt (.exn _)) _ => .bad
  | .ok fl e => .ok fl (offE i e)
  | _ => .bad
def hdRun : List Hd → Exn → SEnv → Out Fl
  | [], x, e => .exc x e
  | h :: r, x, e => match h.tbl.lookup x.cls with
    | some true => hdEnd h.i (h.g (inX h.i x e))
    | some false => hdRun r x e
    | none => .bad
def tryK (hs : List Hd) : Out Fl → Out Fl
  | .exc x e => hdRun hs x e
  | o => o
def sTry (b : SS) (hs : List Hd) : SS := fun e => tryK hs (b e)
def TabOk (X : Cx) (c : Value) (tbl : List (Str × Bool)) : Prop := ∀ p ∈ tbl, ∃ C, X.mg p.1 = some (.ref C) ∧ PySem.W.exmOne X.K (.ref C) c = some p.2
abbrev Y2 (Y : GY) (a : Addr) (c : Value) (d : Option Addr) : GY := ⟨Y.T, some (a, c, d), Y.fix⟩
inductive HdDen (X : Cx) (Y : GY) : List ExceptHandler → List Hd → Prop
  | nil : HdDen X Y [] []
  | bare {x : Str} {c : Value} {tbl : List (Str × Bool)} {g : SS} {b₀ : Stmt} {suite : List Stmt} {np pos' : Pos} {hds : List ExceptHandler} {l : List Hd} (hc : Names X x c) (ht : TabOk X c tbl)
      (hsu : ∀ (a : Addr) (oe : Obj) (cls : Value) (d : Option Addr) (pn : List (Addr × Obj)), L2N.Zn cls d oe → (∃ vs, oe.data = .fields vs) → DenB (X.suite a ((a, oe) :: pn)) (Y2 Y a cls d) WF (b₀ :: suite) g) (r : HdDen X Y hds l) :
      HdDen X Y (.ExceptHandler (some (.Name x np)) none (b₀ :: suite) pos' :: hds) (⟨tbl, none, g⟩ :: l)
  | as_ {x n : Str} {i : Nat} {c : Value} {tbl : List (Str × Bool)} {g : SS} {b₀ : Stmt} {suite : List Stmt} {np pos' : Pos} {hds : List ExceptHandler} {l : List Hd} (hi : X.N[i]? = some n) (hln : X.env.kindOf n = some .local) (hif : i ∉ Y.fix) (hc : Names X x c) (ht : TabOk X c tbl)
      (hsu : ∀ (a : Addr) (oe : Obj) (cls : Value) (d : Option Addr) (pn : List (Addr × Obj)), L2N.Zn cls d oe → (∃ vs, oe.data = .fields vs) → DenB (X.suite a ((a, oe) :: pn)) (Y2 Y a cls d) WF (b₀ :: suite) g) (r : HdDen X Y hds l) :
      HdDen X Y (.ExceptHandler (some (.Name x np)) (some n) (b₀ :: suite) pos' :: hds) (⟨tbl, some i, g⟩ :: l)
theorem lookup_mem {l : List (Str × Bool)} {x : Str} {b : Bool} (h : l.lookup x = some b) : (x, b) ∈ l := by
  induction l with
  | nil => cases h
  | cons p r ih =>
    rw [List.lookup_cons] at h
    cases q : x == p.1 with
    | true =>
      rw [q] at h
      have : x = p.1 := eq_of_beq q
      cases h
      rw [this]
      exact List.mem_cons_self
    | false =>
      rw [q] at h
      exact List.mem_cons_of_mem _ (ih h)
theorem PRep.nx {G G' : GX} {H : Hp} {M : Addr → Prop} {v : V} {p : PV} (hK : G'.K = G.K) (hm : G'.mg = G.mg) (hT : G'.T = G.T) (hne : ∀ x, p ≠ .exn x) (h : PRep G H M v p) : PRep G' H M v p := by
  obtain ⟨K, mg, T, ex, fix⟩ := G
  obtain ⟨K', mg', T', ex', fix'⟩ := G'
  cases hK
  cases hm
  cases hT
  cases p with
  | exn x => exact absurd rfl (hne x)
  | dat d => exact h
  | own ds => exact h
  | clo => exact h
  | scr ns => exact h
theorem offE_some {i : Option Nat} {e : SEnv} {j : Nat} {p : PV} (h : (offE i e)[j]? = some (some p)) : e[j]? = some (some p) ∧ (∀ x, p ≠ .exn x) ∧ i ≠ some j := by
  have dr : ∀ {e : SEnv} {j : Nat} {p : PV}, (e.map dropO)[j]? = some (some p) → e[j]? = some (some p) ∧ ∀ x, p ≠ .exn x := fun {e j p} h => by
    rw [List.getElem?_map] at h
    cases q : e[j]? with
    | none =>
      rw [q] at h
      cases h
    | some o =>
      rw [q] at h
      have h' : dropO o = some p := Option.some.inj h
      unfold dropO at h'
      split at h'
      · cases h'
      · rename_i hn
        subst h'
        exact ⟨rfl, fun x z => hn x (by rw [z])⟩
  cases i with
  | none =>
    obtain ⟨h1, h2⟩ := dr h
    exact ⟨h1, h2, fun z => nomatch z⟩
  | some i =>
    have h : ((e.map dropO).set i none)[j]? = some (some p) := h
    by_cases hij : i = j
    · subst hij
      by_cases hl : i < (e.map dropO).length
      · rw [List.getElem?_set_self hl] at h
        cases h
      · rw [List.getElem?_eq_none (by rw [List.length_set]; exact Nat.le_of_not_lt hl)] at h
        cases h
    · rw [List.getElem?_set_ne hij] at h
      obtain ⟨h1, h2⟩ := dr h
      exact ⟨h1, h2, fun z => hij (Option.some.inj z)⟩
theorem offE_len (i : Option Nat) (e : SEnv) : (offE i e).length = e.length := by
  cases i with
  | none => exact List.length_map ..
  | some i =>
    show ((e.map dropO).set i none).length = _
    rw [List.length_set, List.length_map]
theorem offX_len (i : Option Nat) (s : L2.St) : (offX i s).length = s.length := by
  cases i with
  | none => rfl
  | some i => exact List.length_set
theorem offX_ne {i : Option Nat} {s : L2.St} {j : Nat} (h : i ≠ some j) : (offX i s)[j]? = s[j]? := by
  cases i with
  | none => rfl
  | some i => exact List.getElem?_set_ne (fun z => h (by rw [z]))
theorem setX_ne {i : Option Nat} {s : L2.St} {a : Addr} {j : Nat} (h : i ≠ some j) : (setX i a s)[j]? = s[j]? := by
  cases i with
  | none => rfl
  | some i => exact List.getElem?_set_ne (fun z => h (by rw [z]))
section
variable {X : Cx} {Y : GY} {W : WX}
/-- one clause that holds -/
theorem hd_run {G : GX} {a : Addr} {c : Value} {d : Option Addr} {i : Option Nat} {x : Exn} {g : SS} {H : Hp} {M : Addr → Prop} {s : L2.St} {e : SEnv} {D : Ends} (hex : G.ex = none) (hf : ∀ j, i = some j → j ∉ G.fix) (ok : SOk G ⟨H, M, s, e⟩) (r : ExRep G H M c d x)
    (p : PostS G W ⟨H, M, s, e⟩ (hdEnd i (g (inX i x e))) D) : tS ⟨G.K, G.mg, G.T, some (a, c, d), G.fix⟩ WF g (endsX i D) (setX i a s) H := by
  have len : e.length = s.length := ok.len
  have fixOff : ∀ j ∈ G.fix, i ≠ some j := fun j hj z => hf j z hj
  obtain ⟨okS, owS⟩ := SOk.sub (G := G) (G' := ⟨G.K, G.mg, G.T, some (a, c, d), G.fix⟩) (s' := setX i a s) (e' := inX i x e) rfl rfl ok (by
      cases i with
      | none => exact len
      | some i =>
        show (e.set i _).length = (s.set i _).length
        rw [List.length_set, List.length_set]
        exact len) (fun j q hj => by
      cases i with
      | none => exact .inl ⟨hj, rfl, fun v h => PRep.re (G := G) (G' := ⟨G.K, G.mg, G.T, some (a, c, d), G.fix⟩) rfl rfl rfl (.inl hex) h⟩
      | some i =>
        have hj : (e.set i (some (.exn x)))[j]? = some (some q) := hj
        by_cases hij : i = j
        · subst hij
          by_cases hl : i < e.length
          · rw [List.getElem?_set_self hl] at hj
            cases hj
            have pr : PRep ⟨G.K, G.mg, G.T, some (a, c, d), G.fix⟩ H M (V.ref a) (.exn x) := ⟨a, c, d, rfl, rfl, r.re rfl rfl⟩
            exact .inr ⟨(fun _ z => nomatch z), V.ref a, List.getElem?_set_self (by rw [← len]; exact hl), pr⟩
          · rw [List.getElem?_eq_none (by rw [List.length_set]; exact Nat.le_of_not_lt hl)] at hj
            cases hj
        · rw [List.getElem?_set_ne hij] at hj
          exact .inl ⟨hj, List.getElem?_set_ne hij, fun v h => PRep.re (G := G) (G' := ⟨G.K, G.mg, G.T, some (a, c, d), G.fix⟩) rfl rfl rfl (.inl hex) h⟩)
  have fS : Fr G ⟨H, M, s, e⟩ ⟨H, M, setX i a s, inX i x e⟩ := fr_sub owS fun j hj => setX_ne (fixOff j hj)
  refine ⟨M, inX i x e, okS, ?_⟩
  cases q : g (inX i x e) with
  | exc y e2 =>
    rw [q] at p
    exact p.elim
  | bad =>
    rw [q] at p
    exact p.elim
  | ok fl e2 =>
    rw [q] at p
    have np : ∀ y, fl ≠ .rt (.exn y) := fun y z => by
      subst z
      exact p
    have p' : PostS G W ⟨H, M, s, e⟩ (.ok fl (offE i e2)) D := by
      cases fl with
      | rt pv =>
        cases pv with
        | exn y => exact absurd rfl (np y)
        | _ => exact p
      | _ => exact p
    intro s2 H2 M2 h1 h2
    have len2 : e2.length = s2.length := h1.len
    obtain ⟨okF, owF⟩ := SOk.sub (G := ⟨G.K, G.mg, G.T, some (a, c, d), G.fix⟩) (G' := G) (s' := offX i s2) (e' := offE i e2) rfl rfl h1 (by rw [offE_len, offX_len]; exact len2) (fun j q hj => by
      obtain ⟨a1, a2, a3⟩ := offE_some hj
      exact .inl ⟨a1, offX_ne a3, fun v h => PRep.nx (G := ⟨G.K, G.mg, G.T, some (a, c, d), G.fix⟩) (G' := G) rfl rfl rfl a2 h⟩)
    have f2 : Fr G ⟨H, M, setX i a s, inX i x e⟩ ⟨H2, M2, s2, e2⟩ := Fr.re (G' := G) h2.fix h2
    have f3 : Fr G ⟨H2, M2, s2, e2⟩ ⟨H2, M2, offX i s2, offE i e2⟩ := fr_sub owF fun j hj => offX_ne (fixOff j hj)
    have fin := p' (offX i s2) H2 M2 okF (fS.trans (f2.trans f3))
    cases fl with
    | nx => exact fin
    | bk => exact fin
    | ct => exact fin
    | rt pv =>
      intro v rv
      refine fin v ⟨PRep.nx (G := ⟨G.K, G.mg, G.T, some (a, c, d), G.fix⟩) (G' := G) rfl rfl rfl (fun y z => np y (by rw [z])) rv.1, fun ds b e1 e3 => ?_⟩
      obtain ⟨z1, z2⟩ := rv.2 ds b e1 e3
      exact ⟨fun z => z1 (owF b z), z2.elim .inl fun z => .inr (owS b z)⟩
theorem hds_all {hds : List ExceptHandler} {hs : List Hd} (hY : Y.ex = none) (h : HdDen X Y hds hs) : ∃ l, HdsAll X hds l ∧ ∀ (Wout : WX) (D : Ends) (x : Exn) (e : SEnv) (c : Value) (d : Option Addr) (s : L2.St) (H : Hp) (M : Addr → Prop),
    SOk (gx X Y) ⟨H, M, s, e⟩ → ExRep (gx X Y) H M c d x → PostS (gx X Y) Wout ⟨H, M, s, e⟩ (hdRun hs x e) D → wAll X.K Wout D l c d s H := by
  have pick : ∀ {tbl : List (Str × Bool)} {cv : Value} {x : Exn} {b : Bool} {c : Value} {d : Option Addr} {H : Hp} {M : Addr → Prop}, TabOk X cv tbl → ExRep (gx X Y) H M c d x → tbl.lookup x.cls = some b → PySem.W.exmOne X.K c cv = some b := fun {tbl cv x b c d H M} ht r hl => by
    obtain ⟨C, h1, h2⟩ := ht _ (lookup_mem hl)
    obtain ⟨C', h3, h4, _⟩ := r
    have h3 : X.mg x.cls = some (.ref C') := h3
    rw [h1] at h3
    cases h3
    rw [h4]
    exact h2
  induction h with
  | nil => exact ⟨[], .nil, fun Wout D x e c d s H M ok r p => p c d s H M ok (Fr.refl _ _) r⟩
  | @bare x c tbl g b₀ suite np pos' hds l hc ht hsu r ih =>
    obtain ⟨l', h1, h2⟩ := ih
    refine ⟨(c, none, fun a cls d => tS (gx X (Y2 Y a cls d)) WF g) :: l', .bare hc (fun a oe cls d pn z1 z2 => hsu a oe cls d pn z1 z2) h1, fun Wout D x e cc d s H M ok r p => ?_⟩
    unfold hdRun at p
    cases q : tbl.lookup x.cls with
    | none =>
      rw [q] at p
      exact p.elim
    | some b =>
      rw [q] at p
      refine ⟨b, pick ht r q, fun hb a ha => ?_, fun hb => ?_⟩
      · subst hb
        exact hd_run (G := gx X Y) hY (fun _ z => nomatch z) ok r p
      · subst hb
        exact h2 Wout D x e cc d s H M ok r p
  | @as_ x n i c tbl g b₀ suite np pos' hds l hi hln hif hc ht hsu r ih =>
    obtain ⟨l', h1, h2⟩ := ih
    refine ⟨(c, some i, fun a cls d => tS (gx X (Y2 Y a cls d)) WF g) :: l', .as_ hi hln hc (fun a oe cls d pn z1 z2 => hsu a oe cls d pn z1 z2) h1, fun Wout D x e cc d s H M ok r p => ?_⟩
    unfold hdRun at p
    cases q : tbl.lookup x.cls with
    | none =>
      rw [q] at p
      exact p.elim
    | some b =>
      rw [q] at p
      refine ⟨b, pick ht r q, fun hb a ha => ?_, fun hb => ?_⟩
      · subst hb
        exact hd_run (G := gx X Y) hY (fun j z => by cases z; exact hif) ok r p
      · subst hb
        exact h2 Wout D x e cc d s H M ok r p
theorem ds_try {body : List Stmt} {h₀ : ExceptHandler} {hds : List ExceptHandler} {b : SS} {l : List Hd} {pos : Pos} (nd : X.N.Nodup) (tk : L2N.Takes X W)
    (hb : ∀ (W' : WX) (pn : List (Addr × Obj)) (xe : Value → Shared → Prop), L2N.Takes (X.tr pn xe) W' → PassesOwn (model X.prog X.w) X.A X.env xe → DenB (X.tr pn xe) Y W' body b) (hh : HdDen X Y (h₀ :: hds) l) (hY : Y.ex = none := by rfl) (hs : X.stack = X.env :: X.outer := by rfl) (hf : X.env.frame = some X.env.locals := by rfl) :
    DenS X Y W (.Try body (h₀ :: hds) [] [] pos) (sTry b l) := by
  obtain ⟨l', h1, h2⟩ := hds_all hY hh
  refine PS.weak (ps_try_all (tb := fun W' => tS (gx X Y) W' b) hs hf nd tk (fun W' pn xe t1 t2 => hb W' pn xe t1 t2) h1) fun D s H ⟨M, e, ok, p⟩ => ⟨M, e, ok, ?_⟩
  have p : PostS (gx X Y) W ⟨H, M, s, e⟩ (tryK l (b e)) D := p
  show PostS (gx X Y) _ _ (b e) D
  cases q : b e with
  | ok fl e1 =>
    rw [q] at p
    exact p
  | bad =>
    rw [q] at p
    exact p
  | exc x e1 =>
    rw [q] at p
    exact fun c d s' H' M' ok' f' r' => h2 W D x e1 c d s' H' M' ok' r' (PostS.shift f' p)
end
end SM
namespace SM
open PySem PySem.Spec PyProof.Rows L2

/-! ## an error caught -/
def isEK (tbl : List (Str × Bool)) (e : SEnv) : Option (Option PV) → Out PV
  | some (some (.exn ⟨c, none⟩)) => match tbl.lookup c with
    | some b => .ok (.dat (.bool b)) e
    | none => .bad
  | _ => .bad
/-- isinstance(e, C), e at slot i -/
def sIsE (i : Nat) (tbl : List (Str × Bool)) : SE := fun e => isEK tbl e e[i]?
def xfK (c f : Str) (e : SEnv) : Option (Option PV) → Out PV
  | some (some (.exn ⟨c', some (f', y)⟩)) => if c' = c ∧ f' = f then .ok (.dat y) e else .bad
  | _ => .bad
/-- e.f -/
def sXf (i : Nat) (c f : Str) : SE := fun e => xfK c f e e[i]?
def TabE (X : Cx) (c : Value) (tbl : List (Str × Bool)) : Prop := ∀ p ∈ tbl, ∃ C, X.mg p.1 = some (.ref C) ∧ ExcC X.K C ∧ PySem.W.kitOne X.K (.ref C) c = some p.2
section
variable {X : Cx} {Y : GY} {W : WX} {a : Addr} {oe : Obj} {cls : Value} {d : Option Addr} {pn : List (Addr × Obj)}
def rIsX (K : PySem.W.Frag) (a : Addr) (cls : Value) (d : Option Addr) : List V → Hp → VK → Prop := fun xs H Q => ∃ D, cls = .ref D ∧ d = none ∧ ExcC K D ∧ rIsE K D a xs H Q
theorem call_isX (hz : L2N.Zn cls d oe) (hf : ∃ vs, oe.data = .fields vs) : CallR (X.suite a ((a, oe) :: pn)) (.builtin "isinstance") (rIsX X.K a cls d) := by
  intro pins s σ H xs us Q I r h
  obtain ⟨D, e1, e2, hC, h⟩ := h
  subst e1 e2
  exact call_isE hC hz.zc hf pins s σ H xs us Q I r h
theorem de_isX {x c : Str} {C : Addr} {i : Nat} {tbl : List (Str × Bool)} {p px pc pos : Pos} (hz : L2N.Zn cls d oe) (hf : ∃ vs, oe.data = .fields vs) (hN : X.N[i]? = some x) (hv : Vis X.env.scope x) (hm : X.mg "isinstance" = none) (hmc : X.mg c = some (.ref C)) (ht : TabE X (.ref C) tbl)
    (hg : Gl X "isinstance" := by rfl) (hgc : Gl X c := by rfl) (hd : (x == ("__debug__" : Str)) = false := by decide) (hcd : (x == ("__classdict__" : Str)) = false := by decide) (hdc : (c == ("__debug__" : Str)) = false := by decide)
    (he : starEach [.Name x px, .Name c pc] X.env = (false, eval (.Name x px) X.env) :: starEach [.Name c pc] X.env := by rfl) (he2 : starEach [.Name c pc] X.env = (false, eval (.Name c pc) X.env) :: starEach [] X.env := by rfl) (hpl : (backTo pos (starEach [.Name c pc] X.env)).any (·.1) = false := by rfl) :
    DenE (X.suite a ((a, oe) :: pn)) (Y2 Y a cls d) W (.Call (.Name "isinstance" p) [.Name x px, .Name c pc] [] pos) (sIsE i tbl) := by
  have ha : PA (X.suite a ((a, oe) :: pn)) [.Name x px, .Name c pc] (tCons (tVar i) (tCons (tC (.ref C)) tNil)) := pa_cons (pe_var hN hv hd hcd) (pa_cons (pe_glob (v := .ref C) hgc hmc rfl hdc) pa_nil he2) he
  refine PE.weak (pe_callB (X := X.suite a ((a, oe) :: pn)) (call_isX hz hf) hg hm rfl ha (by decide) (by decide) he hpl) fun s H Q ⟨M, e, ok, p⟩ => ?_
  have p : Post (gx X (Y2 Y a cls d)) W (Res (gx X (Y2 Y a cls d))) ⟨H, M, s, e⟩ (isEK tbl e e[i]?) Q := p
  unfold isEK at p
  split at p
  · rename_i cn q
    split at p
    · rename_i b hb
      obtain ⟨v, hv', a', c', d', e1, e2, e3⟩ := ok.slot i _ q
      cases e1
      subst e2
      obtain ⟨C0, h1, h2, h0, _⟩ := e3
      obtain ⟨C1, k1, k2, k3⟩ := ht _ (lookup_mem hb)
      have h1 : X.mg cn = some (.ref C0) := h1
      rw [k1] at h1
      cases h1
      exact ⟨.ref a, hv', C0, h2, h0 rfl, k2, .ref C, .ref C, b, rfl, fun u hu => hu, k3, post_here ok p _ (res_dat (.bl b))⟩
    · exact p.elim
  · exact p.elim
theorem de_xf {x c f : Str} {C : Addr} {i : Nat} {px pos : Pos} (hz : L2N.Zn cls d oe) (hf : ∃ vs, oe.data = .fields vs) (hN : X.N[i]? = some x) (hv : Vis X.env.scope x) (hmc : X.mg c = some (.ref C)) (T : XfC X.K C) (hno : PySem.W.findIn X.K (.ref C) f = some none)
    (hd : (x == ("__debug__" : Str)) = false := by decide) (hcd : (x == ("__classdict__" : Str)) = false := by decide) (hb : attributeBase (.Name x px) f X.env (eval (.Name x px) X.env) = eval (.Name x px) X.env := by rfl) :
    DenE (X.suite a ((a, oe) :: pn)) (Y2 Y a cls d) W (.Attribute (.Name x px) f pos) (sXf i c f) := by
  refine PE.weak (pe_xf T hno hz.zc hf (pe_var (X := X.suite a ((a, oe) :: pn)) (i := i) hN hv hd hcd) hb) fun s H Q ⟨M, e, ok, p0⟩ => ?_
  have p : Post (gx X (Y2 Y a cls d)) W (Res (gx X (Y2 Y a cls d))) ⟨H, M, s, e⟩ (xfK c f e e[i]?) Q := p0
  clear p0
  unfold xfK at p
  split at p
  · rename_i cn f' y q
    split at p
    · rename_i hcf
      obtain ⟨rfl, rfl⟩ := hcf
      obtain ⟨v, hv', a', c', d', e1, e2, e3⟩ := ok.slot i _ q
      cases e1
      subst e2
      obtain ⟨C0, h1, h2, h0, h3⟩ := e3
      have h1 : X.mg cn = some (.ref C0) := h1
      rw [hmc] at h1
      cases h1
      obtain ⟨dd, w, k1, k2, k3, k4⟩ := h3 f' y rfl
      exact ⟨.ref a, hv', rfl, h2, dd, [(f', w)], w, k1, k2, by simp [List.lookup], post_here ok p _ (res_dat k4)⟩
    · exact p.elim
  · exact p.elim
end
end SM
namespace SM
open PySem PySem.Spec PyProof.Rows L2 LamX

/-- the context of a lambda's body; what leaves it has no context of its own -/
abbrev lamCxN (X : Cx) (A : Around) (outer : List Env) (s : Shared) (H : Hp) (E : XK) (scope : Scope) (f c' : Addr) : Cx :=
  (LamX.lamCx X A outer s H E scope f c').wish fun e s' => wpAny (model X.prog X.w) (A.deeper (lamEnv X scope s.heap.objs.size f c')) (leaving (lamEnv X scope s.heap.objs.size f c') e) (fun _ s'' => L2N.CX X.prog X.w outer H s E e s'') (fun e' s'' => L2N.CX X.prog X.w outer H s E e' s'') s'
/-! ## heaps alone -/
abbrev bare (H : Hp) (M : Addr → Prop) : SX := ⟨H, M, [], []⟩
theorem no_bare {H : Hp} {M : Addr → Prop} {a : Addr} : ¬ OwnA (bare H M) a := fun ⟨i, ds, h, _⟩ => by
  have h : ([] : SEnv)[i]? = some (some (.own ds)) := h
  simp at h
theorem bare_ok {G : GX} {H : Hp} {M : Addr → Prop} {s : L2.St} {e : SEnv} (ok : SOk G ⟨H, M, s, e⟩) : SOk G (bare H M) :=
  ⟨rfl, fun i p h => by have h : ([] : SEnv)[i]? = some (some p) := h; simp at h, fun i j ds es v h => by have h : ([] : SEnv)[i]? = some (some (.own ds)) := h; simp at h, ok.trk, ok.tabs⟩
theorem lift_ok {G G' : GX} {H H' : Hp} {M M' : Addr → Prop} {s : L2.St} {e : SEnv} (ok : SOk G ⟨H, M, s, e⟩) (ht : LamX.Tabs G.T.tabs H') (hk : ∀ a, M' a → ∃ o, H' a = some o ∧ ∀ ps, o ≠ .tbl ps) (f : Fr G' (bare H M) (bare H' M')) : SOk G ⟨H', M', s, e⟩ ∧ Fr G ⟨H, M, s, e⟩ ⟨H', M', s, e⟩ := by
  have c : Carry H H' M M' := ⟨fun a o h n t => f.keep a o h no_bare t, fun a o h n t z => (f.mnew a z).elim n fun q => q.no h t⟩
  have keep : ∀ a o, H a = some o → (∀ ps, o ≠ .tbl ps) → H' a = some o := fun a o h t => f.keep a o h no_bare t
  have mk : ∀ a o, H a = some o → (∀ ps, o ≠ .tbl ps) → M a → M' a := fun a o h t m => f.mkeep a o h t m no_bare
  refine ⟨⟨ok.len, fun i p hi => ?_, ok.apart, hk, ht, fun p hp => keep _ _ (ok.tabs.pin p hp) (fun _ z => nomatch z), fun p hp => (ok.tabs.held p hp).carry c⟩, ⟨fun a o h n t => keep a o h t, fun a o h t => ⟨o, keep a o h t, t⟩, fun a o h t m n => mk a o h t m, f.mnew, fun a z => .inl z, fun _ _ => rfl⟩⟩
  obtain ⟨v, hv, r⟩ := ok.slot i p hi
  exact ⟨v, hv, PRep.carry c (fun ds a xs ep ev m hh => ⟨keep _ _ hh (fun _ z => nomatch z), mk _ _ hh (fun _ z => nomatch z) m⟩) r⟩
theorem lower_fr {G G' : GX} {H H' : Hp} {M M' : Addr → Prop} {s s' : L2.St} {e e' : SEnv} (no : ∀ a, ¬ OwnA ⟨H, M, s, e⟩ a) (f : Fr G ⟨H, M, s, e⟩ ⟨H', M', s', e'⟩) : Fr G' (bare H M) (bare H' M') :=
  ⟨fun a o h _ t => f.keep a o h (no a) t, f.there, fun a o h t m _ => f.mkeep a o h t m (no a), f.mnew, fun a z => absurd z no_bare, fun _ _ => rfl⟩
/-! ## a closure's names -/
def datO : Option PV → Option PV
  | some (.dat d) => some (.dat d)
  | _ => none
def datE (e : SEnv) : SEnv := e.map datO
theorem datE_some {e : SEnv} {i : Nat} {p : PV} (h : (datE e)[i]? = some (some p)) : ∃ d, p = .dat d ∧ e[i]? = some (some (.dat d)) := by
  unfold datE at h
  rw [List.getElem?_map] at h
  cases q : e[i]? with
  | none =>
    rw [q] at h
    cases h
  | some o =>
    rw [q] at h
    have h' : datO o = some p := Option.some.inj h
    unfold datO at h'
    split at h'
    · cases h'
      exact ⟨_, rfl, rfl⟩
    · cases h'
theorem no_datE {H : Hp} {M : Addr → Prop} {s : L2.St} {e : SEnv} (a : Addr) : ¬ OwnA ⟨H, M, s, datE e⟩ a := fun ⟨i, ds, h, _⟩ => by
  obtain ⟨d, z, _⟩ := datE_some h
  cases z
def heldOf : L2.St → SEnv → List (V × D)
  | o :: s, q :: e => match o, q with
    | some v, some (.dat d) => (v, d) :: heldOf s e
    | _, _ => heldOf s e
  | _, _ => []
theorem heldOf_mem : ∀ {s : L2.St} {e : SEnv} {i : Nat} {v : V} {d : D}, e[i]? = some (some (.dat d)) → s[i]? = some (some v) → (v, d) ∈ heldOf s e
  | [], _, _, _, _, _, h => by simp at h
  | _ :: _, [], _, _, _, h, _ => by simp at h
  | o :: s, q :: e, 0, v, d, h1, h2 => by
    simp at h1 h2
    subst h1 h2
    exact List.mem_cons_self
  | o :: s, q :: e, i + 1, v, d, h1, h2 => by
    have ih := heldOf_mem (s := s) (e := e) (i := i) (v := v) (d := d) (by simpa using h1) (by simpa using h2)
    unfold heldOf
    split
    · exact List.mem_cons_of_mem _ ih
    · exact ih
theorem heldOf_rep {G : GX} {H : Hp} {M : Addr → Prop} : ∀ {s : L2.St} {e : SEnv}, e.length = s.length → (∀ (i : Nat) (d : D), e[i]? = some (some (.dat d)) → ∃ v, s[i]? = some (some v) ∧ Rep G.K H M v d) → ∀ p ∈ heldOf s e, Rep G.K H M p.1 p.2
  | [], _, _, _, p, hp => by simp [heldOf] at hp
  | _ :: _, [], hl, _, _, _ => by simp at hl
  | o :: s, q :: e, hl, h, p, hp => by
    have tail : p ∈ heldOf s e → Rep G.K H M p.1 p.2 := heldOf_rep (by simpa using hl) (fun i d hi => by simpa using h (i + 1) d (by simpa using hi)) p
    unfold heldOf at hp
    split at hp
    · rename_i v d
      rcases List.mem_cons.mp hp with z | z
      · obtain ⟨v', hv', r⟩ := h 0 d rfl
        have : v = v' := by simpa using hv'
        subst this
        rw [z]
        exact r
      · exact tail z
    · exact tail hp
def frz1 (i : Nat) (e : SEnv) : Option (Option PV) → SEnv
  | some (some (.own ds)) => e.set i (some (.dat (.list ds)))
  | _ => e
def frzE : List Nat → SEnv → SEnv
  | [], e => e
  | i :: r, e => frzE r (frz1 i e e[i]?)
theorem frzE_ok {G : GX} {H : Hp} {s : L2.St} : ∀ (fz : List Nat) {M : Addr → Prop} {e : SEnv}, SOk G ⟨H, M, s, e⟩ → ∃ M', SOk G ⟨H, M', s, frzE fz e⟩ ∧ Fr G ⟨H, M, s, e⟩ ⟨H, M', s, frzE fz e⟩
  | [], M, e, ok => ⟨M, ok, Fr.refl _ _⟩
  | i :: r, M, e, ok => by
    have h1 : ∃ M', SOk G ⟨H, M', s, frz1 i e e[i]?⟩ ∧ Fr G ⟨H, M, s, e⟩ ⟨H, M', s, frz1 i e e[i]?⟩ := by
      cases q : e[i]? with
      | none => exact ⟨M, ok, Fr.refl _ _⟩
      | some o =>
        cases o with
        | none => exact ⟨M, ok, Fr.refl _ _⟩
        | some p =>
          cases p with
          | own ds =>
            obtain ⟨a, M', _, ok', f, _⟩ := ok.freeze q
            exact ⟨M', ok', f⟩
          | dat d => exact ⟨M, ok, Fr.refl _ _⟩
          | clo => exact ⟨M, ok, Fr.refl _ _⟩
          | exn x => exact ⟨M, ok, Fr.refl _ _⟩
          | scr ns => exact ⟨M, ok, Fr.refl _ _⟩
    obtain ⟨M1, ok1, f1⟩ := h1
    obtain ⟨M2, ok2, f2⟩ := frzE_ok r ok1
    exact ⟨M2, ok2, f1.trans f2⟩
/-! ## calls of a closure -/
def actK (eh : SEnv) : Out PV → Out PV
  | .ok (.dat d) _ => .ok (.dat d) eh
  | .exc x _ => .exc x eh
  | _ => .bad
def actG (o : Out PV) (eh : SEnv) : Option (Option PV) → Out PV
  | some (some .clo) => actK eh o
  | _ => .bad
/-- call(), call at slot 0; o: what the closure gives -/
def sAct (o : Out PV) : SE := fun eh => actG o eh eh[0]?
def lamEnd (e : SEnv) : Out Fl → Out PV
  | .ok (.rt (.dat d)) _ => .ok (.dat d) e
  | .ok .nx _ => .ok (.dat .none) e
  | _ => .bad
/-- x(lambda: ..): fz the names frozen first, hb the callee, r its further names -/
def sLam (fz : List Nat) (hb : SE → SS) (r : Nat) (lam : SE) : SE := fun e => lamEnd (frzE fz e) (hb (sAct (lam (datE (frzE fz e)))) (some .clo :: List.replicate r none))
theorem ExtN.carry {H H' : Hp} {M : Addr → Prop} (e : LamX.ExtN H H') : Carry H H' M M := ⟨fun a o h _ t => e a o h t, fun _ _ _ n _ => n⟩
theorem SOk.extN {G : GX} {H H' : Hp} {M : Addr → Prop} {s : L2.St} {e : SEnv} (ok : SOk G ⟨H, M, s, e⟩) (x : LamX.ExtN H H') (t : LamX.Tabs G.T.tabs H') : SOk G ⟨H', M, s, e⟩ ∧ Fr G ⟨H, M, s, e⟩ ⟨H', M, s, e⟩ := by
  refine lift_ok ok t (fun a m => ?_) (G' := G) ⟨fun a o h _ t => x a o h t, fun a o h t => ⟨o, x a o h t, t⟩, fun _ _ _ _ m _ => m, fun _ m => .inl m, fun a z => absurd z no_bare, fun _ _ => rfl⟩
  obtain ⟨o, h, t⟩ := ok.trk a m
  exact ⟨o, x a o h t, t⟩
section
variable {X : Cx} {Y : GY} {W : WX} {pins : List (Addr × Obj)} {σ : L2.St} {H HZ : Hp} {s s1 : Shared}
/-- call(), in the def that got the closure -/
theorem pe_actS {CXg : CXT} {Eg : XK} {Ng : List Str} {qg : Str} {sg : Scope} {g f c' : Addr} {cdg pm ctv : Value} {params : Arguments} {body : Expr} {scope : Scope} {k i : Nat} {a : Str} {pn : List (Addr × Obj)} {xe : Value → Shared → Prop} {W : WX} {tb : XK → TE} {p1 p2 : Pos}
    (I : Inv X pins σ H s) (L : LamS X.env.scope scope) (hf : s.heap.get? f = some (PySem.W.kla_obj "<lambda>" (X.env.qual ++ "<lambda>") params body scope (cloFrom X.env.cells scope.names []) pm c' ctv)) (hfn : H f = none) (hfr : f ∉ frs X.stack)
    (hbind : bindArgs (PySem.W.kla_fn "<lambda>" (X.env.qual ++ "<lambda>") params body scope (cloFrom X.env.cells scope.names []) pm (.ref c') ctv) ⟨[], []⟩ = pure [])
    (tk : L2N.Takes ((cxOf CXg X.prog X.w X.K X.mg X.base Ng qg sg g cdg X.A X.stack s H Eg).tr pn xe) W) (hr : Room (k + 1) (X.A.deeper (envOfC qg sg s.heap.objs.size g cdg)))
    (hbody : ∀ (A : Around) (outer : List Env) (s : Shared) (H : Hp) (E : XK), Room k (A.deeper (lamEnv X scope s.heap.objs.size f c')) → PE (lamCxN X A outer s H E scope f c') body (tb E))
    (hN : Ng[i]? = some a) (hv : Vis sg a) (hd : (a == ("__debug__" : Str)) = false) (hcd : (a == ("__classdict__" : Str)) = false) :
    PE ((cxOf CXg X.prog X.w X.K X.mg X.base Ng qg sg g cdg X.A X.stack s H Eg).tr pn xe) (.Call (.Name a p1) [] [] p2)
      (fun σZ HZ Q => σZ[i]? = some (some (.ref f)) ∧ HZ c' = some (CodeO c' (X.env.qual ++ "<lambda>")) ∧ tb (WE W σZ) σ HZ Q) := by
  refine ⟨fun pinsZ sZ σZ HZ Q IZ ⟨hs, hc, ht⟩ => ?_⟩
  refine wpAny_Call_Name_kw (thn ((pe_var (pos := p1) (i := i) hN hv hd hcd).run pinsZ sZ σZ HZ (fun v H1 => v = .ref f ∧ H1 = HZ) IZ ⟨.ref f, hs, rfl, rfl⟩) fun u s1 ⟨v, H1, I1, r1, q1⟩ => ?_)
  obtain ⟨ev, eH⟩ := q1
  subst ev
  rw [eH] at I1
  obtain rfl : u = Value.ref f := r1
  have of1 : s1.heap.get? f = some (PySem.W.kla_obj "<lambda>" (X.env.qual ++ "<lambda>") params body scope (cloFrom X.env.cells scope.names []) pm c' ctv) := I1.base.keep f _ hf hfn hfr (fun z => nomatch (show f ∈ ([] : List Addr) from z))
  refine PySem.W.callWith_F0 ⟨_, _, _, _, of1⟩ ?_
  have un : Un (frs X.stack) [] H HZ s.heap s1.heap := I1.base
  obtain ⟨⟨oc, vs, t, hoc, hdc, hvc⟩, _, _⟩ := I1.hok c' _ hc
  have rc : codeAny (model X.prog X.w) (X.A.deeper (envOfC qg sg s.heap.objs.size g cdg)) (.call (.ref f) ⟨[], []⟩) (CR (L2N.CX X.prog X.w) (envOfC qg sg s.heap.objs.size g cdg :: X.stack) X.prog X.w HZ s1 Q (WE W σZ)) s1 := by
    refine PySem.W.kla_callFunE hr.depth of1 rfl L.co L.gen rfl ⟨c', oc, vs, t, rfl, hoc, hdc, hvc⟩ ?_
    rw [hbind]
    refine wpAny_pure (wpAny_newFunctionEnv (fun y hy => (L.own y hy).2) (fun y hy => absurd hy (by simp)) (fun h₁ hns hsb => ⟨I1.nolimit.fresh _ hsb, ?_⟩) L.kind)
    show codeAny _ _ (.expr body (lamEnv X scope s1.heap.objs.size f c')) _ _
    have kp : ∀ b o, s1.heap.get? b = some o → h₁.get? b = some o := fun b o e => hsb.extBut b o (Nat.ne_of_lt (Heap.lt_size e)) (Heap.get?_push_of_some _ e)
    have J : Inv (lamCxN X (X.A.deeper (envOfC qg sg s.heap.objs.size g cdg)) (envOfC qg sg s.heap.objs.size g cdg :: X.stack) s1 HZ (WE W σZ) scope f c') [] σ HZ { s1 with heap := h₁, toks := s1.toks + ([] : List (Str × Value)).length } :=
      (lam_start2 (E := WE W σZ) I L I1.env0 hr.hd un hns kp).wish _
    refine PySem.W.kla_codeExpr (wpAny_mono ((hbody _ _ s1 HZ _ (hr.deeper _)).run [] _ _ HZ Q J ht) (fun v s' hq => ?_) fun e s' hq => hq)
    obtain ⟨w', H', J', rv, q⟩ := hq
    exact ⟨w', H', J'.os, J'.bare, J'.base, J'.hok, rv, q⟩
  have hx : PassesAt (L2N.CX X.prog X.w) ((cxOf CXg X.prog X.w X.K X.mg X.base Ng qg sg g cdg X.A X.stack s H Eg).tr pn xe) σZ (WE W σZ) := L2N.passAt tk σZ
  refine wpAny_call (codeAny_mono rc fun r s' hq => ?_)
  cases r with
  | error e => exact hx pinsZ HZ s1 e s' I1 hq
  | ok fl =>
    cases fl with
    | ret u => exact I1.after hq
    | next => exact False.elim hq
    | brk => exact False.elim hq
    | cont => exact False.elim hq
end
end SM
namespace SM
open PySem PySem.Spec PyProof.Rows L2 LamX

def HelpOk (P : Program) (w : World) (K : PySem.W.Frag) (mg : Str → Option Value) (base : Heap) (tabs : List (Addr × Str)) (k : Nat) (Ng : List Str) (x : Str) (sg : Scope) (g : Addr) (cdg : Value) (bg : List Stmt) (a : Str) (hb : SE → SS) : Prop :=
  ∀ (A : Around) (outer : List Env) (s : Shared) (H : Hp) (f c' : Addr) (q : Str) (held : List (V × D)) (o : Out PV), Room k (A.deeper (envOfC x sg s.heap.objs.size g cdg)) →
    (∀ (W : WX) (pn : List (Addr × Obj)) (xe : Value → Shared → Prop) (p1 p2 : Pos), L2N.Takes ((cxOf C8.CX0 P w K mg base Ng x sg g cdg A outer s H C8.E0).tr pn xe) W →
      DenE ((cxOf C8.CX0 P w K mg base Ng x sg g cdg A outer s H C8.E0).tr pn xe) ⟨⟨tabs, [(c', q)], some f, held⟩, none, []⟩ W (.Call (.Name a p1) [] [] p2) (sAct o)) →
    DenB (cxOf C8.CX0 P w K mg base Ng x sg g cdg A outer s H C8.E0).nox ⟨⟨tabs, [(c', q)], some f, held⟩, none, []⟩ WF bg (hb (sAct o))
section
variable {X : Cx} {Y : GY} {W : WX}
theorem datE_ok {G G' : GX} {H : Hp} {M : Addr → Prop} {s : L2.St} {e : SEnv} (hK : G'.K = G.K) (hm : G'.mg = G.mg) (hT : G'.T = G.T) (ok : SOk G ⟨H, M, s, e⟩) : SOk G' ⟨H, M, s, datE e⟩ :=
  (SOk.sub (G := G) (G' := G') hK hT ok (by show (e.map datO).length = s.length; rw [List.length_map]; exact ok.len) fun j p hj => by
    obtain ⟨d, rfl, h⟩ := datE_some hj
    exact .inl ⟨h, rfl, fun v r => PRep.nx hK hm hT (fun _ z => nomatch z) r⟩).1
/-- the closure's own state, behind the callee's -/
theorem held_ok {K : PySem.W.Frag} {mg : Str → Option Value} {T : TX} {H HZ : Hp} {M MZ : Addr → Prop} {s : L2.St} {e : SEnv} (hT : T.pin = [] ∧ T.held = []) (ok1 : SOk (g0 K mg T) ⟨H, M, s, datE e⟩)
    {Gh : GX} {sZ : L2.St} {eh : SEnv} (hK : Gh.K = K) (hTab : Gh.T.tabs = T.tabs) (hH : Gh.T.held = heldOf s (datE e)) (okZ : SOk Gh ⟨HZ, MZ, sZ, eh⟩) : SOk (g0 K mg T) ⟨HZ, MZ, s, datE e⟩ := by
  refine ⟨ok1.len, fun i p hi => ?_, fun i j ds es v h1 => ?_, okZ.trk, ?_⟩
  · obtain ⟨d, rfl, h⟩ := datE_some hi
    obtain ⟨v, hv, _⟩ := ok1.slot i _ hi
    have hv : s[i]? = some (some v) := hv
    refine ⟨v, hv, ?_⟩
    have := okZ.tabs.held (v, d) (by rw [hH]; exact heldOf_mem hi hv)
    rw [hK] at this
    exact this
  · obtain ⟨d, z, _⟩ := datE_some h1
    cases z
  · refine ⟨?_, fun p hp => ?_, fun p hp => ?_⟩
    · have := okZ.tabs.tabs
      rw [hTab] at this
      exact this
    · have hp : p ∈ T.pin := hp
      rw [hT.1] at hp
      cases hp
    · have hp : p ∈ T.held := hp
      rw [hT.2] at hp
      cases hp
theorem act_den {CXg : CXT} {Eg : XK} {Ng : List Str} {qg : Str} {sg : Scope} {g f c' : Addr} {cdg pm ctv : Value} {params : Arguments} {body : Expr} {scope : Scope} {k : Nat} {a : Str} {pn : List (Addr × Obj)} {xe : Value → Shared → Prop} {W' : WX} {p1 p2 : Pos}
    {pins : List (Addr × Obj)} {σ : L2.St} {H : Hp} {s : Shared} {M : Addr → Prop} {e : SEnv} {lam : SE}
    (I : Inv X pins σ H s) (L : LamS X.env.scope scope) (hf : s.heap.get? f = some (PySem.W.kla_obj "<lambda>" (X.env.qual ++ "<lambda>") params body scope (cloFrom X.env.cells scope.names []) pm c' ctv)) (hfn : H f = none) (hfr : f ∉ frs X.stack)
    (hbind : bindArgs (PySem.W.kla_fn "<lambda>" (X.env.qual ++ "<lambda>") params body scope (cloFrom X.env.cells scope.names []) pm (.ref c') ctv) ⟨[], []⟩ = pure [])
    (tk : L2N.Takes ((cxOf CXg X.prog X.w X.K X.mg X.base Ng qg sg g cdg X.A X.stack s H Eg).tr pn xe) W') (hr : Room (k + 1) (X.A.deeper (envOfC qg sg s.heap.objs.size g cdg)))
    (hbody : ∀ (A : Around) (outer : List Env) (s : Shared) (H : Hp) (E : XK), Room k (A.deeper (lamEnv X scope s.heap.objs.size f c')) → DenE (lamCxN X A outer s H E scope f c') ⟨Y.T, none, []⟩ (fun c d _ H => E c d H) body lam)
    (hN : Ng[0]? = some a) (hv : Vis sg a) (hd : (a == ("__debug__" : Str)) = false) (hcd : (a == ("__classdict__" : Str)) = false) (hT : Y.T.pin = [] ∧ Y.T.held = []) (ok1 : SOk (g0 X.K X.mg Y.T) ⟨H, M, σ, datE e⟩) :
    DenE ((cxOf CXg X.prog X.w X.K X.mg X.base Ng qg sg g cdg X.A X.stack s H Eg).tr pn xe) ⟨⟨Y.T.tabs, [(c', X.env.qual ++ "<lambda>")], some f, heldOf σ (datE e)⟩, none, []⟩ W' (.Call (.Name a p1) [] [] p2) (sAct (lam (datE e))) := by
  refine PE.weak (pe_actS (tb := fun E => tO (g0 X.K X.mg Y.T) (fun c d _ H => E c d H) (Res (g0 X.K X.mg Y.T)) lam) I L hf hfn hfr hbind tk hr hbody hN hv hd hcd) fun σZ HZ Q ⟨MZ, eh, okZ, p⟩ => ?_
  have p : Post (gx X ⟨⟨Y.T.tabs, [(c', X.env.qual ++ "<lambda>")], some f, heldOf σ (datE e)⟩, none, []⟩) W' (Res (gx X ⟨⟨Y.T.tabs, [(c', X.env.qual ++ "<lambda>")], some f, heldOf σ (datE e)⟩, none, []⟩)) ⟨HZ, MZ, σZ, eh⟩ (actG (lam (datE e)) eh eh[0]?) Q := p
  unfold actG at p
  split at p
  · rename_i q0
    obtain ⟨v, hv0, f', e1, e2⟩ := okZ.slot 0 _ q0
    cases e1
    subst e2
    refine ⟨hv0, okZ.tabs.pin _ List.mem_cons_self, MZ, datE e, held_ok hT ok1 rfl rfl rfl okZ, ?_⟩
    cases q : lam (datE e) with
    | bad =>
      rw [q] at p
      exact p.elim
    | exc x e' =>
      rw [q] at p
      intro c d H' M' ok' fr' rx
      obtain ⟨okB, frB⟩ := lift_ok okZ ok'.tabs.tabs ok'.trk (lower_fr (G' := g0 X.K X.mg Y.T) (fun a => no_datE a) fr')
      exact p c d H' M' okB frB (rx.re rfl rfl)
    | ok pv e' =>
      rw [q] at p
      intro v H' M' ok' fr' rv
      obtain ⟨okB, frB⟩ := lift_ok okZ ok'.tabs.tabs ok'.trk (lower_fr (G' := g0 X.K X.mg Y.T) (fun a => no_datE a) fr')
      cases pv with
      | dat d => exact p v H' M' okB frB (res_dat rv.1)
      | own ds => exact p.elim
      | clo => exact p.elim
      | exn x => exact p.elim
      | scr ns => exact p.elim
  · exact p.elim
theorem de_lam {x a : Str} {g c P : Addr} {k r : Nat} {pg : Arguments} {bg : List Stmt} {sg : Scope} {dV kV doc pm cdv ct oc : Value} {an od : Option Addr} {osl : Array (Option Value)} {Ng : List Str}
    {params : Arguments} {body : Expr} {scope : Scope} {hb : SE → SS} {lam : SE} {p lpos pos : Pos} (fz : List Nat) (hm : X.mg x = some (.ref g)) (hk : PySem.W.keepIn X.K (.ref g) = true)
    (lk : X.K.lookup g = some ⟨oc, od, .func (PySem.W.fnOf x x pg bg sg dV kV doc pm an cdv ct), osl⟩) (hcg : PySem.W.codeIn X.K cdv x = true) (hbn : L2.Binds X.K (PySem.W.fnOf x x pg bg sg dV kV doc pm an cdv ct) [a] []) (Sg : FnScope Ng [a] sg) (hNg : Ng[0]? = some a) (hrn : Ng.length - 1 = r) (hva : Vis sg a)
    (hH : HelpOk X.prog X.w X.K X.mg X.base Y.T.tabs (k + 1) Ng x sg g cdv bg a hb)
    (TB : TabB X.base X.mg c P) (hcode : X.env.code = .ref c) (hmT : (P, X.env.qual ++ "<lambda>") ∈ Y.T.tabs) (hu : ∀ p ∈ Y.T.tabs, p.1 = P → p.2 = X.env.qual ++ "<lambda>") (hr : Room (k + 2) X.A) (L : LamS X.env.scope scope) (hT : Y.T.pin = [] ∧ Y.T.held = [])
    (hbody : ∀ (A : Around) (outer : List Env) (s : Shared) (H : Hp) (E : XK) (f c' : Addr), Room k (A.deeper (lamEnv X scope s.heap.objs.size f c')) → DenE (lamCxN X A outer s H E scope f c') ⟨Y.T, none, []⟩ (fun c d _ H => E c d H) body lam)
    (hdef : defaultsOf params X.env = ([], []) := by rfl)
    (hbind : ∀ (q : Str) (cl : List (Str × Addr)) (pm cv ctv : Value), bindArgs (PySem.W.kla_fn "<lambda>" q params body scope cl pm cv ctv) ⟨[], []⟩ = pure [] := by intros; rfl)
    (hg : Gl X x := by rfl) (hdb : (x == ("__debug__" : Str)) = false := by decide) (hd : (a == ("__debug__" : Str)) = false := by decide) (hcd : (a == ("__classdict__" : Str)) = false := by decide) :
    DenE X Y W (.Call (.Name x p) [.Lambda params body scope lpos] [] pos) (sLam fz hb r lam) := by
  refine ⟨fun pins s σ H Q I ⟨M, e, ok, pp⟩ => ?_⟩
  obtain ⟨M1, ok1, f1⟩ := frzE_ok fz ok
  refine wpAny_Call_Name_kw (ld_glob I hg hm ?_ hdb)
  refine PySem.W.callWith_K (h₀ := X.base) I.ok.mod.kin hk ?_ (by rfl) (by rfl)
  show wpAny _ _ (spliced ((false, eval (.Lambda params body scope lpos) X.env) :: backTo pos (starEach [] X.env))) _ _ s
  refine Calls.spliced_cons (lam_make2 I TB hcode hmT hu ok1.tabs.tabs hdef (L.has I.ok) fun f c' pm' ctv H1 s' I1 eN T1 hf hfn hfr hco => ?_)
  refine Calls.spliced_nil ⟨I1.kIn, ?_⟩
  obtain ⟨ok2, f2⟩ := ok1.extN eN T1
  have okD : SOk (g0 X.K X.mg Y.T) ⟨H1, M1, σ, datE (frzE fz e)⟩ := datE_ok (G := gx X Y) rfl rfl rfl ok2
  -- the state at the callee's entry
  have okH : SOk (gx X ⟨⟨Y.T.tabs, [(c', X.env.qual ++ "<lambda>")], some f, heldOf σ (datE (frzE fz e))⟩, none, []⟩) ⟨H1, M1, L2.start Ng [.ref f], some .clo :: List.replicate r none⟩ := by
    have es : L2.start Ng [V.ref f] = some (V.ref f) :: List.replicate r none := by
      unfold L2.start
      rw [← hrn]
      rfl
    rw [es]
    refine ⟨by simp, fun i p hi => ?_, fun i j ds es' v h1 => ?_, ok2.trk, ⟨T1, fun p hp => ?_, heldOf_rep okD.len fun i d hi => ?_⟩⟩
    · cases i with
      | zero =>
        cases hi
        exact ⟨.ref f, rfl, f, rfl, rfl⟩
      | succ i =>
        have hi : (List.replicate r (none : Option PV))[i]? = some (some p) := by simpa using hi
        rw [List.getElem?_replicate] at hi
        split at hi <;> cases hi
    · cases i with
      | zero => cases h1
      | succ i =>
        have hi : (List.replicate r (none : Option PV))[i]? = some (some (.own ds)) := by simpa using h1
        rw [List.getElem?_replicate] at hi
        split at hi <;> cases hi
    · have hp : p ∈ [(c', X.env.qual ++ "<lambda>")] := hp
      rw [List.mem_singleton.mp hp]
      exact hco
    · obtain ⟨v, hv, rv⟩ := okD.slot i _ hi
      exact ⟨v, hv, rv⟩
  have noH : ∀ b, ¬ OwnA ⟨H1, M1, L2.start Ng [.ref f], some .clo :: List.replicate r none⟩ b := fun b ⟨i, ds, h1, _⟩ => by
    cases i with
    | zero => cases h1
    | succ i =>
      have hi : (List.replicate r (none : Option PV))[i]? = some (some (.own ds)) := by simpa using h1
      rw [List.getElem?_replicate] at hi
      split at hi <;> cases hi
  have rc : codeAny (model X.prog X.w) X.A (.call (.ref g) ⟨[.ref f], []⟩) (CR C8.CX0 X.stack X.prog X.w H1 s' Q C8.E0) s' := by
    refine run_ofS (N := Ng) (ps := [a]) (us := [.ref f]) (vs := [.ref f]) lk hcg Sg hr I1.env0 (hbn s' [.ref f] I1.kIn rfl) (.cons rfl .nil) rfl fun hr' => ?_
    have hB := hH X.A X.stack s' H1 f c' (X.env.qual ++ "<lambda>") (heldOf σ (datE (frzE fz e))) (lam (datE (frzE fz e))) hr' (fun W' pn xe p1 p2 tk =>
      act_den I1 L hf hfn hfr (hbind _ _ _ _ _) tk hr' (fun A outer s H E hr2 => hbody A outer s H E f c' hr2) hNg hva hd hcd hT okD)
    refine ⟨_, PSs.nox hB, M1, some .clo :: List.replicate r none, okH, ?_⟩
    have pp : Post (gx X Y) W (Res (gx X Y)) ⟨H, M, σ, e⟩ (lamEnd (frzE fz e) (hb (sAct (lam (datE (frzE fz e)))) (some .clo :: List.replicate r none))) Q := pp
    cases q : hb (sAct (lam (datE (frzE fz e)))) (some .clo :: List.replicate r none) with
    | bad =>
      rw [q] at pp
      exact pp.elim
    | exc y e' =>
      rw [q] at pp
      exact pp.elim
    | ok fl e' =>
      rw [q] at pp
      intro s2 H2 M2 okE frE
      have fin := lift_ok ok2 okE.tabs.tabs okE.trk (lower_fr (G' := gx X Y) noH frE)
      obtain ⟨okF, frF⟩ := fin
      have frA := f1.trans (f2.trans frF)
      cases fl with
      | nx => exact pp .non H2 M2 okF frA (res_dat .non)
      | bk => exact pp.elim
      | ct => exact pp.elim
      | rt pv =>
        cases pv with
        | dat d => exact fun v rv => pp v H2 M2 okF frA (res_dat rv.1)
        | own ds => exact pp.elim
        | clo => exact pp.elim
        | exn y => exact pp.elim
        | scr ns => exact pp.elim
  refine wpAny_call (codeAny_mono rc fun r s2 hq => ?_)
  cases r with
  | error e => exact (show False from hq).elim
  | ok fl =>
    cases fl with
    | ret u => exact I1.after hq
    | next => exact False.elim hq
    | brk => exact False.elim hq
    | cont => exact False.elim hq
end
end SM
namespace SM
open PySem PySem.Spec PyProof.Rows L2

/-! ## a, b = x, y with lists of one's own -/
theorem own_set {H : Hp} {M : Addr → Prop} {s : L2.St} {e : SEnv} {i : Nat} {v : V} {p : PV} {b : Addr} (h : OwnA ⟨H, M, s.set i (some v), e.set i (some p)⟩ b) : OwnA ⟨H, M, s, e⟩ b ∨ ∃ ds, p = .own ds ∧ v = .ref b := by
  obtain ⟨j, ds, h1, h2⟩ := h
  have h1 : (e.set i (some p))[j]? = some (some (.own ds)) := h1
  have h2 : (s.set i (some v))[j]? = some (some (.ref b)) := h2
  by_cases hij : i = j
  · subst hij
    by_cases hl : i < e.length
    · rw [List.getElem?_set_self hl] at h1
      cases h1
      by_cases hs : i < s.length
      · rw [List.getElem?_set_self hs] at h2
        cases h2
        exact .inr ⟨ds, rfl, rfl⟩
      · rw [List.getElem?_eq_none (by rw [List.length_set]; exact Nat.le_of_not_lt hs)] at h2
        cases h2
    · rw [List.getElem?_eq_none (by rw [List.length_set]; exact Nat.le_of_not_lt hl)] at h1
      cases h1
  · rw [List.getElem?_set_ne hij] at h1 h2
    exact .inl ⟨j, ds, h1, h2⟩
/-- a value kept while more is worked out -/
theorem Res.later {G : GX} {S S1 S2 : SX} {v : V} {p : PV} (ok1 : SOk G S1) (f : Fr G S1 S2) (r : Res G S S1 v p) : Res G S S2 v p := by
  refine ⟨PRep.carry (f.carry ok1) (fun ds a xs ep ev m h => ?_) r.1, fun ds a e1 e2 => ?_⟩
  · have no := (r.2 ds a ep ev).1
    exact ⟨f.keep a _ h no (fun _ z => nomatch z), f.mkeep a _ h (fun _ z => nomatch z) m no⟩
  · obtain ⟨h1, h2⟩ := r.2 ds a e1 e2
    refine ⟨fun z => ?_, h2⟩
    rcases f.own a z with q | q
    · exact h1 q
    · obtain ⟨b, vs, e3, m, hh, _⟩ : PRep G S1.H S1.M v (.own ds) := e1 ▸ r.1
      rw [e2] at e3
      cases e3
      exact q.no hh (fun _ z => nomatch z)
/-- two lists of one's own worked out one after the other are two -/
theorem Res.apart {G : GX} {S S1 S2 : SX} {v w : V} {p q : PV} {ds es : List D} {a : Addr} (r : Res G S S1 v p) (r2 : Res G S1 S2 w q) (e1 : p = .own ds) (e2 : q = .own es) (ev : v = .ref a) (ew : w = .ref a) : False := by
  obtain ⟨h1, _⟩ := r.2 ds a e1 ev
  obtain ⟨b, vs, e3, m, hh, _⟩ : PRep G S1.H S1.M v (.own ds) := e1 ▸ r.1
  rw [ev] at e3
  cases e3
  rcases (r2.2 es a e2 ew).2 with z | z
  · exact z.no hh (fun _ z => nomatch z)
  · exact h1 z
theorem PostS.bindF {α β : Type} {G : GX} {W : WX} {R1 : SX → SX → β → α → Prop} {S S1 : SX} (f : Fr G S S1) {o : Out α} {k : α → SEnv → Out Fl} {D : Ends} (h : PostS G W S (o.bind k) D) :
    Post G W R1 S1 o fun b H1 => ∃ a e1 M1, SOk G ⟨H1, M1, S1.s, e1⟩ ∧ Fr G S1 ⟨H1, M1, S1.s, e1⟩ ∧ R1 S1 ⟨H1, M1, S1.s, e1⟩ b a ∧ PostS G W S (k a e1) D := by
  cases o with
  | ok a e => exact fun b H' M' h1 h2 h3 => ⟨a, e, M', h1, h2, h3, h⟩
  | exc x e => exact fun c d H' M' h1 h2 h3 => h c d S1.s H' M' h1 (f.trans h2) h3
  | bad => exact h
/-- a second value is stored behind a first -/
theorem setS2 {G : GX} {S S1 S2 : SX} {i j : Nat} {v w : V} {p q : PV} (hi : i ∉ G.fix) (hj : j ∉ G.fix) (ok1 : SOk G S1) (ok2 : SOk G S2) (f1 : Fr G S S1) (f2 : Fr G S1 S2) (r1 : Res G S S1 v p) (r2 : Res G S1 S2 w q) (hp : p ≠ .clo) (hq : q ≠ .clo) :
    SOk G ⟨S2.H, S2.M, (S2.s.set i (some v)).set j (some w), (S2.e.set i (some p)).set j (some q)⟩ ∧ Fr G S ⟨S2.H, S2.M, (S2.s.set i (some v)).set j (some w), (S2.e.set i (some p)).set j (some q)⟩ := by
  obtain ⟨ok3, f3⟩ := ok2.setS (f1.trans f2) hi (Res.later ok1 f2 r1) hp
  refine SOk.setS (S1 := ⟨S2.H, S2.M, S2.s.set i (some v), S2.e.set i (some p)⟩) ok3 f3 hj ⟨r2.1, fun ds a e1 e2 => ⟨fun z => ?_, ((shift_res S S1 S2 w q f1 r2).2 ds a e1 e2).2⟩⟩ hq
  rcases own_set z with z | ⟨es, e3, e4⟩
  · exact (r2.2 ds a e1 e2).1 z
  · exact Res.apart r1 r2 e3 e1 e4 e2
def isClo : PV → Bool
  | .clo => true
  | _ => false
def parV2 (i j : Nat) (p q : PV) (e : SEnv) : Out Fl := if isClo p || isClo q then .bad else .ok .nx ((e.set i (some p)).set j (some q))
def sParV (i j : Nat) (f g : SE) : SS := fun e => (f e).bind fun p e1 => (g e1).bind fun q e2 => parV2 i j p q e2
def parV3 (i j k : Nat) (p q r : PV) (e : SEnv) : Out Fl := if isClo p || isClo q || isClo r then .bad else .ok .nx (((e.set i (some p)).set j (some q)).set k (some r))
def sParV3 (i j k : Nat) (f g h : SE) : SS := fun e => (f e).bind fun p e1 => (g e1).bind fun q e2 => (h e2).bind fun r e3 => parV3 i j k p q r e3
theorem noClo {p : PV} (h : isClo p = false) : p ≠ .clo := fun z => by
  subst z
  cases h
section
variable {X : Cx} {Y : GY} {W : WX}
theorem ds_parV {i j : Nat} {x y : Str} {a b : Expr} {f g : SE} {px py pt pos : Pos} {kt k2 pt2} (hc : X.calm = true) (nd : X.N.Nodup) (ha : DenE X Y W a f) (hb : DenE X Y W b g) (hfi : i ∉ Y.fix := by first | decide | (dsimp only; decide)) (hfj : j ∉ Y.fix := by first | decide | (dsimp only; decide)) (hi : X.N[i]? = some x := by rfl) (hj : X.N[j]? = some y := by rfl) (hij : i ≠ j := by decide)
    (hx : X.env.scope.names.lookup x = some .local := by rfl) (hy : X.env.scope.names.lookup y = some .local := by rfl)
    (hw : swappedStores [.Tuple [.Name x px, .Name y py] kt pt] (.Tuple [a, b] k2 pt2) X.env = pure (some [x, y]) := by rfl)
    (hs : swapsWithSole [.Tuple [.Name x px, .Name y py] kt pt] (.Tuple [a, b] k2 pt2) pos.line X.env = pure false := by rfl)
    (he1 : starEach [a, b] X.env = (false, eval a X.env) :: starEach [b] X.env := by rfl) (he2 : starEach [b] X.env = (false, eval b X.env) :: starEach [] X.env := by rfl) :
    DenS X Y W (.Assign [.Tuple [.Name x px, .Name y py] kt pt] (.Tuple [a, b] k2 pt2) pos) (sParV i j f g) := by
  refine PS.weak (ps_par hc nd hi hj hij hx hy (pa_cons ha (pa_cons hb pa_nil he2) he1) hw hs) fun D s H ⟨M, e, ok, p⟩ => ⟨M, e, ok, Post.mono (PostS.bindE (R1 := Res (gx X Y)) p) fun v H1 ⟨pv, e1, M1, ok1, f1, r1, p1⟩ => ?_⟩
  refine ⟨M1, e1, ok1, Post.mono (PostS.bindF (R1 := Res (gx X Y)) (S1 := ⟨H1, M1, s, e1⟩) f1 p1) fun w H2 ⟨qv, e2, M2, ok2, f2, r2, p2⟩ => ⟨v, w, rfl, ?_⟩⟩
  have p2 : PostS (gx X Y) W ⟨H, M, s, e⟩ (if isClo pv || isClo qv then .bad else .ok .nx ((e2.set i (some pv)).set j (some qv))) D := p2
  cases hcl : (isClo pv || isClo qv) with
  | true =>
    rw [hcl] at p2
    exact p2.elim
  | false =>
    rw [hcl, if_neg Bool.false_ne_true] at p2
    rw [Bool.or_eq_false_iff] at hcl
    obtain ⟨ok4, f4⟩ := setS2 (i := i) (j := j) hfi hfj ok1 ok2 f1 f2 r1 r2 (noClo hcl.1) (noClo hcl.2)
    exact p2 _ _ _ ok4 f4
theorem ds_parV3 {i j l : Nat} {x y z : Str} {a b c : Expr} {f g h : SE} {px py pz pt pos : Pos} {kt k2 pt2} (hc : X.calm = true) (nd : X.N.Nodup) (ha : DenE X Y W a f) (hb : DenE X Y W b g) (hcc : DenE X Y W c h) (hfi : i ∉ Y.fix := by first | decide | (dsimp only; decide)) (hfj : j ∉ Y.fix := by first | decide | (dsimp only; decide)) (hfl : l ∉ Y.fix := by first | decide | (dsimp only; decide)) (hi : X.N[i]? = some x := by rfl) (hj : X.N[j]? = some y := by rfl) (hl : X.N[l]? = some z := by rfl) (hij : i ≠ j := by decide) (hil : i ≠ l := by decide) (hjl : j ≠ l := by decide)
    (hx : X.env.scope.names.lookup x = some .local := by rfl) (hy : X.env.scope.names.lookup y = some .local := by rfl) (hz : X.env.scope.names.lookup z = some .local := by rfl)
    (hw : swappedStores [.Tuple [.Name x px, .Name y py, .Name z pz] kt pt] (.Tuple [a, b, c] k2 pt2) X.env = pure (some [x, y, z]) := by rfl)
    (hs : swapsWithSole [.Tuple [.Name x px, .Name y py, .Name z pz] kt pt] (.Tuple [a, b, c] k2 pt2) pos.line X.env = pure false := by rfl)
    (he1 : starEach [a, b, c] X.env = (false, eval a X.env) :: starEach [b, c] X.env := by rfl) (he2 : starEach [b, c] X.env = (false, eval b X.env) :: starEach [c] X.env := by rfl) (he3 : starEach [c] X.env = (false, eval c X.env) :: starEach [] X.env := by rfl) :
    DenS X Y W (.Assign [.Tuple [.Name x px, .Name y py, .Name z pz] kt pt] (.Tuple [a, b, c] k2 pt2) pos) (sParV3 i j l f g h) := by
  refine PS.weak (ps_par3 hc nd hi hj hl hij hil hjl hx hy hz (pa_cons ha (pa_cons hb (pa_cons hcc pa_nil he3) he2) he1) hw hs) fun D s H ⟨M, e, ok, p⟩ => ⟨M, e, ok, Post.mono (PostS.bindE (R1 := Res (gx X Y)) p) fun v H1 ⟨pv, e1, M1, ok1, f1, r1, p1⟩ => ?_⟩
  refine ⟨M1, e1, ok1, Post.mono (PostS.bindF (R1 := Res (gx X Y)) (S1 := ⟨H1, M1, s, e1⟩) f1 p1) fun w H2 ⟨qv, e2, M2, ok2, f2, r2, p2⟩ => ?_⟩
  refine ⟨M2, e2, ok2, Post.mono (PostS.bindF (R1 := Res (gx X Y)) (S1 := ⟨H2, M2, s, e2⟩) (f1.trans f2) p2) fun u H3 ⟨rv, e3, M3, ok3, f3, r3, p3⟩ => ⟨v, w, u, rfl, ?_⟩⟩
  have p3 : PostS (gx X Y) W ⟨H, M, s, e⟩ (if isClo pv || isClo qv || isClo rv then .bad else .ok .nx (((e3.set i (some pv)).set j (some qv)).set l (some rv))) D := p3
  cases hcl : (isClo pv || isClo qv || isClo rv) with
  | true =>
    rw [hcl] at p3
    exact p3.elim
  | false =>
    rw [hcl, if_neg Bool.false_ne_true] at p3
    rw [Bool.or_eq_false_iff, Bool.or_eq_false_iff] at hcl
    have r2' : Res (gx X Y) ⟨H1, M1, s, e1⟩ ⟨H3, M3, s, e3⟩ w qv := Res.later ok2 f3 r2
    obtain ⟨ok4, f4⟩ := setS2 (i := i) (j := j) hfi hfj ok1 ok3 f1 (f2.trans f3) r1 r2' (noClo hcl.1.1) (noClo hcl.1.2)
    have key : ∀ ds a, rv = .own ds → u = .ref a → ¬ OwnA ⟨H3, M3, (s.set i (some v)).set j (some w), (e3.set i (some pv)).set j (some qv)⟩ a := fun ds a e4 e5 q => by
      rcases own_set q with q | ⟨es, e6, e7⟩
      · rcases own_set q with q | ⟨es, e6, e7⟩
        · exact (r3.2 ds a e4 e5).1 q
        · exact Res.apart (S := ⟨H, M, s, e⟩) (Res.later ok1 f2 r1) r3 e6 e4 e7 e5
      · exact Res.apart r2 r3 e6 e4 e7 e5
    obtain ⟨ok5, f5⟩ := SOk.setS (S1 := ⟨H3, M3, (s.set i (some v)).set j (some w), (e3.set i (some pv)).set j (some qv)⟩) ok4 f4 hfl (v := u) (p := rv) ⟨r3.1, fun ds a e4 e5 => ⟨key ds a e4 e5, ((shift_res _ _ _ u rv (f1.trans f2) r3).2 ds a e4 e5).2⟩⟩ (noClo hcl.2)
    exact p3 _ _ _ ok5 f5
/-! ## defs by name -/
structure ExO (K : PySem.W.Frag) (mg : Str → Option Value) (x : Str) : Prop where
  g : mg x = some (.ref (He.ga K x))
  q : PySem.W.excIn K (He.ga K x) He.veBase "ValueError.__new__" = true
  kp : PySem.W.keepIn K (.ref (He.ga K x)) = true
  sb : PySem.W.subIn K (.ref (He.ga K x)) (.type "BaseException") = some true
  ty : PySem.W.typeIn K (.ref (He.ga K x)) = some (.type "type")
theorem ds_raiseC {x m : Str} {j : Nat} {p p2 p3 pos : Pos} (F : ExO X.K X.mg x) (hc : X.calm = true) (tk : L2N.Takes X W) (hg : Gl X x := by rfl) (hdb : (x == ("__debug__" : Str)) = false := by decide) :
    DenS X Y W (.Raise (some (.Call (.Name x p) [.Constant (.str m) j p2] [] p3)) none pos) (sRaise ⟨x, none⟩) := ds_raise PySem.F.excBase_ValueError F.q F.g F.kp (raises_own F.sb F.ty) hc tk hg hdb
structure Cal (P : Program) (w : World) (K : PySem.W.Frag) (mg : Str → Option Value) (base : Heap) (T : TX) (k : Nat) (x : Str) (n : Nat) (m : SE) : Prop where
  ex : ∃ fd ps, FnOk P w K mg base (L2N.CX P w) k (He.ga K x) fd ps (spF (g0 K mg T) n m) ∧ Binds K fd ps []
  g : mg x = some (.ref (He.ga K x))
  kp : PySem.W.keepIn K (.ref (He.ga K x)) = true
theorem de_calC {x : Str} {k k' n : Nat} {m : SE} {a : Expr} {as : List Expr} {os : List Opd} {p pos : Pos} (C : Cal X.prog X.w X.K X.mg X.base Y.T k x n m) (hr : Room k' X.A) (tk : L2N.Takes X W) (ha : DenA X Y W (a :: as) os) (hle : k ≤ k' := by first | decide | omega | (simp only [Nat.add_eq]; omega))
    (hg : Gl X x := by rfl) (hdb : (x == ("__debug__" : Str)) = false := by decide) (he : starEach (a :: as) X.env = (false, eval a X.env) :: starEach as X.env := by rfl) (hpl : (backTo pos (starEach as X.env)).any (·.1) = false := by rfl) :
    DenE X Y W (.Call (.Name x p) (a :: as) [] pos) (sCall n m os) := by
  obtain ⟨fd, ps, F, hb⟩ := C.ex
  exact de_call (F.mono hle) hr C.g C.kp hb tk ha hg hdb he hpl
theorem cal_den {P : Program} {w : World} {K : PySem.W.Frag} {mg : Str → Option Value} {base : Heap} {T : TX} {k : Nat} {x : Str} {args : Arguments} {body : List Stmt} {sc : Scope} {N ps : List Str} {b : SS} {fd : FuncData} (n r : Nat) (fix : List Nat) (F : FunD K x x args body sc [] [] (He.ga K x) fd) (g : mg x = some (.ref (He.ga K x))) (S : FnScope N ps sc) (hn : ps.length = n) (hr : N.length - n = r)
    (hb : ∀ (kV doc pm : Value) (an : Option Addr) (cdv ct : Value) (us : List Value), us.length = ps.length → bindArgs (PySem.W.fnOf x x args body sc .none kV doc pm an cdv ct) ⟨us, []⟩ = pure (ps.zip us))
    (hbody : ∀ (f : Addr) (cdv : Value) (A : Around) (outer : List Env) (s : Shared) (H : Hp) (E : XK), Room k (A.deeper (envOfC x sc s.heap.objs.size f cdv)) → DenB (cxOf (L2N.CX P w) P w K mg base N x sc f cdv A outer s H E) ⟨T, none, fix⟩ (fun c d _ H => E c d H) body b) :
    Cal P w K mg base T (k + 1) x n (runF n r fix b) := by
  have bN := F.bindsN hb
  have kp := F.kp
  obtain ⟨oc, od, dV, kV, doc, pm, an, cdv, ct, osl, rfl, lk, hcd, _, _⟩ := F.ex
  exact ⟨⟨_, ps, fn_den n r fix lk hcd S hn hr fun A outer s H E hR => hbody _ cdv A outer s H E hR, bN⟩, g, kp⟩
end
end SM
namespace SM
open PySem PySem.Spec PyProof.Rows L2 LamX

theorem u65 {k : Nat} {A : Around} (r : Room k A) : A.units + 65 < cLine := by
  have := r.un
  omega
theorem takes_lam {X : Cx} {A : Around} {outer : List Env} {s : Shared} {H : Hp} {E : XK} {scope : Scope} {f c' : Addr} : L2N.Takes (lamCxN X A outer s H E scope f c') (fun c d _ H => E c d H) := L2N.takes_of rfl rfl rfl rfl
theorem takes_def {P : Program} {w : World} {K : PySem.W.Frag} {mg : Str → Option Value} {base : Heap} {N : List Str} {q : Str} {sc : Scope} {f : Addr} {cd : Value} {A : Around} {outer : List Env} {s : Shared} {H : Hp} {E : XK} : L2N.Takes (cxOf (L2N.CX P w) P w K mg base N q sc f cd A outer s H E) (fun c d _ H => E c d H) := L2N.takes_of rfl rfl rfl rfl
theorem passes_def {P : Program} {w : World} {K : PySem.W.Frag} {mg : Str → Option Value} {base : Heap} {N : List Str} {q : Str} {sc : Scope} {f : Addr} {cd : Value} {A : Around} {outer : List Env} {s : Shared} {H : Hp} {E : XK} :
    PassesOwn (model (cxOf (L2N.CX P w) P w K mg base N q sc f cd A outer s H E).prog (cxOf (L2N.CX P w) P w K mg base N q sc f cd A outer s H E).w) (cxOf (L2N.CX P w) P w K mg base N q sc f cd A outer s H E).A (cxOf (L2N.CX P w) P w K mg base N q sc f cd A outer s H E).env (cxOf (L2N.CX P w) P w K mg base N q sc f cd A outer s H E).xe := passes_of rfl
/-! ## a def that is handed a closure -/
structure Help (P : Program) (w : World) (K : PySem.W.Frag) (mg : Str → Option Value) (base : Heap) (tabs : List (Addr × Str)) (k : Nat) (x : Str) (r : Nat) (hb : SE → SS) : Prop where
  ex : ∃ (pg : Arguments) (bg : List Stmt) (sg : Scope) (dV kV doc pm cdv ct oc : Value) (an od : Option Addr) (osl : Array (Option Value)) (Ng : List Str) (a : Str),
    K.lookup (He.ga K x) = some ⟨oc, od, .func (PySem.W.fnOf x x pg bg sg dV kV doc pm an cdv ct), osl⟩ ∧ PySem.W.codeIn K cdv x = true ∧ Binds K (PySem.W.fnOf x x pg bg sg dV kV doc pm an cdv ct) [a] [] ∧ FnScope Ng [a] sg ∧ Ng[0]? = some a ∧ Ng.length - 1 = r ∧ Vis sg a ∧
      (a == ("__debug__" : Str)) = false ∧ (a == ("__classdict__" : Str)) = false ∧ HelpOk P w K mg base tabs k Ng x sg (He.ga K x) cdv bg a hb
  g : mg x = some (.ref (He.ga K x))
  kp : PySem.W.keepIn K (.ref (He.ga K x)) = true
theorem help_den {P : Program} {w : World} {K : PySem.W.Frag} {mg : Str → Option Value} {base : Heap} {tabs : List (Addr × Str)} {k : Nat} {x a : Str} {args : Arguments} {body : List Stmt} {sc : Scope} {N : List Str} {hb : SE → SS} {fd : FuncData} (r : Nat) (F : FunD K x x args body sc [] [] (He.ga K x) fd) (g : mg x = some (.ref (He.ga K x))) (S : FnScope N [a] sc) (hN : N[0]? = some a) (hr : N.length - 1 = r) (hv : Vis sc a)
    (hd : (a == ("__debug__" : Str)) = false) (hcd : (a == ("__classdict__" : Str)) = false)
    (hbn : ∀ (kV doc pm : Value) (an : Option Addr) (cdv ct : Value) (us : List Value), us.length = [a].length → bindArgs (PySem.W.fnOf x x args body sc .none kV doc pm an cdv ct) ⟨us, []⟩ = pure ([a].zip us))
    (hbody : ∀ cdv, HelpOk P w K mg base tabs k N x sc (He.ga K x) cdv body a hb) : Help P w K mg base tabs k x r hb := by
  have bN := F.bindsN hbn
  have kp := F.kp
  obtain ⟨oc, od, dV, kV, doc, pm, an, cdv, ct, osl, rfl, lk, hcod, _, _⟩ := F.ex
  exact ⟨⟨args, body, sc, dV, kV, doc, pm, cdv, ct, oc, an, od, osl, N, a, lk, hcod, bN, S, hN, hr, hv, hd, hcd, hbody cdv⟩, g, kp⟩
/-- the maker's code object and its table -/
structure Maker (K : PySem.W.Frag) (mg : Str → Option Value) (base : Heap) (tabs : List (Addr × Str)) (x : Str) : Prop where
  tb : TabB base mg (He.cT K (x, none)).1 (He.cT K (x, none)).2
  mem : ((He.cT K (x, none)).2, (x ++ ".<locals>.") ++ "<lambda>") ∈ tabs
  only : ∀ p ∈ tabs, p.1 = (He.cT K (x, none)).2 → p.2 = (x ++ ".<locals>.") ++ "<lambda>"
section
variable {X : Cx} {Y : GY} {W : WX}
theorem de_lamC {x y : Str} {k k' r : Nat} {params : Arguments} {body : Expr} {scope : Scope} {hb : SE → SS} {lam : SE} {p lpos pos : Pos} (fz : List Nat) (h : Help X.prog X.w X.K X.mg X.base Y.T.tabs (k + 1) x r hb) (m : Maker X.K X.mg X.base Y.T.tabs y) (hr : Room k' X.A) (hcode : X.env.code = .ref (He.cT X.K (y, none)).1) (hq : X.env.qual = y ++ ".<locals>.") (L : LamS X.env.scope scope) (hT : Y.T.pin = [] ∧ Y.T.held = [])
    (hbody : ∀ (A : Around) (outer : List Env) (s : Shared) (H : Hp) (E : XK) (f c' : Addr), Room k (A.deeper (lamEnv X scope s.heap.objs.size f c')) → DenE (lamCxN X A outer s H E scope f c') ⟨Y.T, none, []⟩ (fun c d _ H => E c d H) body lam)
    (hle : k + 2 ≤ k' := by decide) (hdef : defaultsOf params X.env = ([], []) := by rfl)
    (hbind : ∀ (q : Str) (cl : List (Str × Addr)) (pm cv ctv : Value), bindArgs (PySem.W.kla_fn "<lambda>" q params body scope cl pm cv ctv) ⟨[], []⟩ = pure [] := by intros; rfl)
    (hg : Gl X x := by rfl) (hdb : (x == ("__debug__" : Str)) = false := by decide) :
    DenE X Y W (.Call (.Name x p) [.Lambda params body scope lpos] [] pos) (sLam fz hb r lam) := by
  obtain ⟨pg, bg, sg, dV, kV, doc, pm, cdv, ct, oc, an, od, osl, Ng, a, lk, hcg, hbn, Sg, hNg, hrn, hva, hd, hcd, hH⟩ := h.ex
  exact de_lam fz h.g h.kp lk hcg hbn Sg hNg hrn hva hH m.tb hcode (by rw [hq]; exact m.mem) (by rw [hq]; exact m.only) (hr.mono hle) L hT hbody hdef hbind hg hdb hd hcd
/-- a def with closures: its code object is known -/
theorem cal_denL {P : Program} {w : World} {K : PySem.W.Frag} {mg : Str → Option Value} {base : Heap} {T : TX} {k : Nat} {x : Str} {args : Arguments} {body : List Stmt} {sc : Scope} {N ps : List Str} {b : SS} {fd : FuncData} (n r : Nat) (fix : List Nat) (F : FunD K x x args body sc [] [] (He.ga K x) fd) (g : mg x = some (.ref (He.ga K x))) (S : FnScope N ps sc) (hn : ps.length = n) (hr : N.length - n = r)
    (hb : ∀ (kV doc pm : Value) (an : Option Addr) (cdv ct : Value) (us : List Value), us.length = ps.length → bindArgs (PySem.W.fnOf x x args body sc .none kV doc pm an cdv ct) ⟨us, []⟩ = pure (ps.zip us))
    (hbody : ∀ (f : Addr) (A : Around) (outer : List Env) (s : Shared) (H : Hp) (E : XK), Room k (A.deeper (envOfC x sc s.heap.objs.size f (.ref (He.cT K (x, none)).1))) → DenB (cxOf (L2N.CX P w) P w K mg base N x sc f (.ref (He.cT K (x, none)).1) A outer s H E) ⟨T, none, fix⟩ (fun c d _ H => E c d H) body b) :
    Cal P w K mg base T (k + 1) x n (runF n r fix b) := by
  have bN := F.bindsN hb
  have kp := F.kp
  obtain ⟨oc, od, dV, kV, doc, pm, an, cdv, ct, osl, rfl, lk, hcd, _, _⟩ := F.ex
  obtain ⟨c, hc⟩ := He.codeIn_ref hcd
  have ec : (He.cT K (x, none)).1 = c := He.codeOf_eq (p := (x, none)) lk hc
  subst hc
  refine ⟨⟨_, ps, fn_den n r fix lk hcd S hn hr fun A outer s H E hR => ?_, bN⟩, g, kp⟩
  have := hbody (He.ga K x) A outer s H E
  rw [ec] at this
  exact this hR
end
/-! ## the law -/
theorem sok0 {K : PySem.W.Frag} {mg : Str → Option Value} {tabs : List (Addr × Str)} {H : Hp} {a : Addr} {ns : List Int} (hT : ∀ p ∈ tabs, H p.1 = some (.tbl #[])) (hS : SqL K H a (ns.map V.int)) : SOk (g0 K mg ⟨tabs, [], none, []⟩) ⟨H, fun _ => False, [some (.ref a)], [some (.scr ns)]⟩ := by
  refine ⟨rfl, fun i p hi => ?_, fun i j ds es v h1 => ?_, fun a m => m.elim, ⟨fun p hp => TabS.nil (hT p hp), fun p hp => ?_, fun p hp => ?_⟩⟩
  · cases i with
    | zero =>
      cases hi
      refine ⟨.ref a, rfl, a, rfl, ?_⟩
      rcases hS with h | h
      · exact .inl ⟨h, fun z => z⟩
      · exact .inr (.inr h)
    | succ i =>
      have hi : ([] : SEnv)[i]? = some (some p) := hi
      simp at hi
  · cases i with
    | zero => cases h1
    | succ i =>
      have hi : ([] : SEnv)[i]? = some (some (.own ds)) := h1
      simp at hi
  · have hp : p ∈ ([] : List (Addr × Str)) := hp
    cases hp
  · have hp : p ∈ ([] : List (V × D)) := hp
    cases hp
/-- the law's promise, from its meaning -/
theorem law_sp {K : PySem.W.Frag} {mg : Str → Option Value} {tabs : List (Addr × Str)} {m : SE} {H : Hp} {a : Addr} {ns : List Int} (hT : ∀ p ∈ tabs, H p.1 = some (.tbl #[])) (hS : SqL K H a (ns.map V.int)) (hm : ∃ e, m [some (.scr ns)] = .ok (.dat (.bool true)) e) :
    spF (g0 K mg ⟨tabs, [], none, []⟩) 1 m [.ref a] H (fun v _ => v = .bl true) fun _ _ _ => False := by
  obtain ⟨e, hm⟩ := hm
  refine ⟨rfl, fun _ => False, [some (.scr ns)], sok0 hT hS, ?_⟩
  rw [hm]
  intro v H' M' h1 h2 h3
  cases h3.1
  rfl
end SM
namespace SM
open PySem PySem.Spec PyProof.Rows L2 LamX

theorem all_nil {α : Type} {p : α → Prop} : ∀ x ∈ ([] : List α), p x := fun _ h => nomatch h
theorem all_cons {α : Type} {p : α → Prop} {a : α} {l : List α} (h : p a) (r : ∀ x ∈ l, p x) : ∀ x ∈ a :: l, p x := fun x hx => by
  rcases List.mem_cons.mp hx with e | e
  · rw [e]
    exact h
  · exact r x e
/-! ## facts about classes -/
def excCB (K : PySem.W.Frag) (D : Addr) : Bool :=
  decide (PySem.W.findIn K (.ref D) "__getattribute__" = some (some (.builtin "BaseException.__getattribute__"))) && (decide (PySem.W.findIn K (.ref D) "__getattr__" = some none) && (decide (PySem.W.subIn K (.ref D) (.type "BaseException") = some true) && (PySem.W.hasDictIn K D &&
    (decide (PySem.W.findIn K (.ref D) "__class__" = some (some (.builtin "object.__class__"))) && (decide (PySem.W.specialIn K (.builtin "object.__class__") "__get__" = some (some (.builtin "getset_descriptor.__get__"))) && (decide (PySem.W.takesIn K (.builtin "object.__class__") = some true) && decide (PySem.W.mroIn K D (.type "object") = some true)))))))
theorem excCB_ok {K : PySem.W.Frag} {D : Addr} (h : excCB K D = true) : ExcC K D := by
  unfold excCB at h
  simp only [Bool.and_eq_true] at h
  obtain ⟨h1, h2, h3, h4, h5, h6, h7, h8⟩ := h
  exact ⟨of_decide_eq_true h1, of_decide_eq_true h2, of_decide_eq_true h3, h4, of_decide_eq_true h5, of_decide_eq_true h6, of_decide_eq_true h7, of_decide_eq_true h8⟩
/-! ## tuples of the top -/
mutual
def repK (K : PySem.W.Frag) : Value → D → Bool
  | .none, .none => true
  | .bool b, .bool c => b == c
  | .int i _, .int j => decide (i = j)
  | .str x _, .str y => decide (x = y)
  | .ref a, .tuple ds => match K.lookup a with
    | some ⟨.type c, _, .seq its _, _⟩ => decide (c = "tuple") && (decide (its.size ≤ sizeLine) && repKs K its.toList ds)
    | _ => false
  | _, _ => false
def repKs (K : PySem.W.Frag) : List Value → List D → Bool
  | [], [] => true
  | u :: us, d :: ds => repK K u d && repKs K us ds
  | _, _ => false
end
mutual
theorem repK_ok {K : PySem.W.Frag} : ∀ {u : Value} {d : D}, repK K u d = true → ∃ v, RelV v u ∧ ∀ H M, Rep K H M v d
  | u, .none, h => by
    cases u <;> simp [repK] at h
    exact ⟨.non, rfl, fun _ _ => .non⟩
  | u, .bool c, h => by
    cases u <;> simp [repK] at h
    subst h
    exact ⟨.bl _, rfl, fun _ _ => .bl _⟩
  | u, .int j, h => by
    cases u <;> simp [repK] at h
    subst h
    exact ⟨.int _, ⟨_, rfl⟩, fun _ _ => .int _⟩
  | u, .str y, h => by
    cases u <;> simp [repK] at h
    subst h
    exact ⟨.str _, ⟨_, rfl⟩, fun _ _ => .str _⟩
  | u, .tuple ds, h => by
    cases u with
    | ref a =>
      unfold repK at h
      cases q : K.lookup a with
      | none =>
        rw [q] at h
        cases h
      | some o =>
        obtain ⟨oc, od, dt, osl⟩ := o
        rw [q] at h
        cases oc with
        | type c =>
          cases dt with
          | seq its n =>
            have h' : (decide (c = "tuple") && (decide (its.size ≤ sizeLine) && repKs K its.toList ds)) = true := h
            obtain ⟨h1, h2⟩ := Bool.and_eq_true_iff.mp h'
            obtain ⟨h3, h4⟩ := Bool.and_eq_true_iff.mp h2
            obtain ⟨vs, r1, r2⟩ := repKs_ok (ds := ds) h4
            exact ⟨.ref a, rfl, fun H M => .tup (.inr (.inr ⟨_, its, n, q, congrArg Value.type (of_decide_eq_true h1), rfl, of_decide_eq_true h3, r1⟩)) (r2 H M)⟩
          | _ => cases h
        | _ => cases dt <;> cases h
    | _ => simp [repK] at h
  | u, .list ds, h => by cases u <;> simp [repK] at h
  | u, .dict _, h => by cases u <;> simp [repK] at h
theorem repKs_ok {K : PySem.W.Frag} : ∀ {us : List Value} {ds : List D}, repKs K us ds = true → ∃ vs, Vals vs us ∧ ∀ H M, RepAll K H M vs ds
  | [], [], _ => ⟨[], .nil, fun _ _ => .nil⟩
  | [], _ :: _, h => by simp [repKs] at h
  | _ :: _, [], h => by simp [repKs] at h
  | u :: us, d :: ds, h => by
    unfold repKs at h
    obtain ⟨h1, h2⟩ := Bool.and_eq_true_iff.mp h
    obtain ⟨v, a1, a2⟩ := repK_ok h1
    obtain ⟨vs, b1, b2⟩ := repKs_ok h2
    exact ⟨v :: vs, .cons a1 b1, fun H M => .cons (a2 H M) (b2 H M)⟩
end
def gtupB (K : PySem.W.Frag) (x : Str) (d : D) : Bool := repK K (.ref (He.ga K x)) d
structure GTup (K : PySem.W.Frag) (mg : Str → Option Value) (x : Str) (d : D) : Prop where
  g : mg x = some (.ref (He.ga K x))
  r : repK K (.ref (He.ga K x)) d = true
theorem gtup_ok {K : PySem.W.Frag} {mg : Str → Option Value} {x : Str} {d : D} (g : mg x = some (.ref (He.ga K x))) (r : gtupB K x d = true) : GTup K mg x d := ⟨g, r⟩
theorem de_gtup {X : Cx} {Y : GY} {W : WX} {x : Str} {d : D} {pos : Pos} (h : GTup X.K X.mg x d) (hg : Gl X x := by rfl) (hd : (x == ("__debug__" : Str)) = false := by decide) : DenE X Y W (.Name x pos) (sC d) := by
  obtain ⟨v, r1, r2⟩ := repK_ok h.r
  exact PE.weak (pe_glob hg h.g r1 hd) fun s H Q ⟨M, e, ok, p⟩ => post_here ok p v (res_dat (r2 _ _))
/-! ## defs -/
theorem cal_bad {P : Program} {w : World} {K : PySem.W.Frag} {mg : Str → Option Value} {base : Heap} {T : TX} {k n : Nat} {x : Str} {args : Arguments} {body : List Stmt} {sc : Scope} {ps : List Str} {fd : FuncData} (F : FunD K x x args body sc [] [] (He.ga K x) fd) (g : mg x = some (.ref (He.ga K x)))
    (hb : ∀ (kV doc pm : Value) (an : Option Addr) (cdv ct : Value) (us : List Value), us.length = ps.length → bindArgs (PySem.W.fnOf x x args body sc .none kV doc pm an cdv ct) ⟨us, []⟩ = pure (ps.zip us)) : Cal P w K mg base T k x n (fun _ => .bad) :=
  ⟨⟨fd, ps, ⟨fun vs H Q E ⟨_, _, _, _, h⟩ => h.elim, fun A outer s H as us vs Q E _ _ _ _ ⟨_, _, _, _, h⟩ => h.elim⟩, F.bindsN hb⟩, g, F.kp⟩
theorem law_fn {P : Program} {w : World} {K : PySem.W.Frag} {mg : Str → Option Value} {base : Heap} {T : TX} {k : Nat} {x : Str} {args : Arguments} {body : List Stmt} {sc : Scope} {N ps : List Str} {b : SS} {fd : FuncData} (n r : Nat) (fix : List Nat) (F : FunD K x x args body sc [] [] (He.ga K x) fd) (S : FnScope N ps sc) (hn : ps.length = n) (hr : N.length - n = r)
    (hbody : ∀ (f : Addr) (A : Around) (outer : List Env) (s : Shared) (H : Hp) (E : XK), Room k (A.deeper (envOfC x sc s.heap.objs.size f (.ref (He.cT K (x, none)).1))) → DenB (cxOf (L2N.CX P w) P w K mg base N x sc f (.ref (He.cT K (x, none)).1) A outer s H E) ⟨T, none, fix⟩ (fun c d _ H => E c d H) body b) :
    FnOk P w K mg base (L2N.CX P w) (k + 1) (He.ga K x) fd ps (spF (g0 K mg T) n (runF n r fix b)) := by
  obtain ⟨oc, od, dV, kV, doc, pm, an, cdv, ct, osl, rfl, lk, hcd, _, _⟩ := F.ex
  obtain ⟨c, hc⟩ := He.codeIn_ref hcd
  have ec : (He.cT K (x, none)).1 = c := He.codeOf_eq (p := (x, none)) lk hc
  subst hc
  refine fn_den n r fix lk hcd S hn hr fun A outer s H E hR => ?_
  have := hbody (He.ga K x) A outer s H E
  rw [ec] at this
  exact this hR
end SM
namespace SM
open PySem L2

/-! ## working meanings out: rules for simp -/
section
variable {α β : Type}
def nmK (i : Nat) (e : SEnv) : Option (Option PV) → Out PO
  | some (some _) => .ok (.slot i) e
  | _ => .bad
@[simp] theorem nmK_some (i : Nat) (e : SEnv) (p : PV) : nmK i e (some (some p)) = .ok (.slot i) e := rfl
@[simp] theorem opd_nm_eq (i : Nat) (e : SEnv) : opd (.nm i) e = nmK i e e[i]? := by
  show (match e[i]? with | some (some _) => Out.ok (PO.slot i) e | _ => .bad) = _
  unfold nmK
  rfl
def valK (p : PV) (e : SEnv) : Out PO := .ok (.val p) e
@[simp] theorem valK_eq (p : PV) (e : SEnv) : valK p e = .ok (.val p) e := rfl
@[simp] theorem opd_ex_eq (f : SE) (e : SEnv) : opd (.ex f) e = (f e).bind valK := rfl
def pkK : Option (Option PV) → Option D
  | some (some p) => pvD p
  | _ => none
@[simp] theorem pkK_some (p : PV) : pkK (some (some p)) = pvD p := rfl
@[simp] theorem pk_slot (e : SEnv) (i : Nat) : pk e (.slot i) = pkK e[i]? := by
  show (match e[i]? with | some (some p) => pvD p | _ => none) = _
  unfold pkK
  rfl
@[simp] theorem pk_val (e : SEnv) (p : PV) : pk e (.val p) = pvD p := rfl
@[simp] theorem pvD_dat (d : D) : pvD (.dat d) = some d := rfl
@[simp] theorem pvD_own (ds : List D) : pvD (.own ds) = some (.list ds) := rfl
@[simp] theorem sC_eq (d : D) (e : SEnv) : sC d e = .ok (.dat d) e := rfl
def varK (i : Nat) (e : SEnv) : Option (Option PV) → Out PV
  | some (some (.dat d)) => .ok (.dat d) e
  | some (some (.own ds)) => .ok (.dat (.list ds)) (e.set i (some (.dat (.list ds))))
  | some (some (.scr ns)) => .ok (.scr ns) e
  | _ => .bad
@[simp] theorem varK_dat (i : Nat) (e : SEnv) (d : D) : varK i e (some (some (.dat d))) = .ok (.dat d) e := rfl
@[simp] theorem varK_own (i : Nat) (e : SEnv) (ds : List D) : varK i e (some (some (.own ds))) = .ok (.dat (.list ds)) (e.set i (some (.dat (.list ds)))) := rfl
@[simp] theorem sVar_eq (i : Nat) (e : SEnv) : sVar i e = varK i e e[i]? := by
  unfold sVar varK
  rfl
def movK (i : Nat) (e : SEnv) : Option (Option PV) → Out PV
  | some (some (.own ds)) => .ok (.own ds) (e.set i none)
  | some (some (.dat d)) => .ok (.dat d) e
  | some (some (.scr ns)) => .ok (.scr ns) e
  | _ => .bad
@[simp] theorem movK_dat (i : Nat) (e : SEnv) (d : D) : movK i e (some (some (.dat d))) = .ok (.dat d) e := rfl
@[simp] theorem movK_own (i : Nat) (e : SEnv) (ds : List D) : movK i e (some (some (.own ds))) = .ok (.own ds) (e.set i none) := rfl
@[simp] theorem sMove_eq (i : Nat) (e : SEnv) : sMove i e = movK i e e[i]? := by
  unfold sMove movK
  rfl
@[simp] theorem fin1_some (op : D → Option PV) (e : SEnv) (d : D) : fin1 op e (some d) = (match op d with | some p => .ok p e | none => .bad) := rfl
@[simp] theorem fin2_some (op : D → D → Option PV) (e : SEnv) (d d' : D) : fin2 op e (some d) (some d') = (match op d d' with | some p => .ok p e | none => .bad) := rfl
@[simp] theorem finN_some (op : List D → Option PV) (e : SEnv) (ds : List D) : finN op e (some ds) = (match op ds with | some p => .ok p e | none => .bad) := rfl
@[simp] theorem finM_some (op : D → List D → Option PV) (e : SEnv) (d : D) (ds : List D) : finM op e (some d) (some ds) = (match op d ds with | some p => .ok p e | none => .bad) := rfl
@[simp] theorem sOp1_eq (op : D → Option PV) (a : Opd) (e : SEnv) : sOp1 op a e = (opd a e).bind fun pa e1 => fin1 op e1 (pk e1 pa) := rfl
@[simp] theorem sOp2_eq (op : D → D → Option PV) (a b : Opd) (e : SEnv) : sOp2 op a b e = (opd a e).bind fun pa e1 => (opd b e1).bind fun pb e2 => fin2 op e2 (pk e2 pa) (pk e2 pb) := rfl
@[simp] theorem opds_nil (e : SEnv) : opds [] e = .ok [] e := rfl
@[simp] theorem opds_cons (o : Opd) (r : List Opd) (e : SEnv) : opds (o :: r) e = (opd o e).bind fun p e1 => (opds r e1).bind fun ps e2 => .ok (p :: ps) e2 := rfl
@[simp] theorem pks_nil (e : SEnv) : pks e [] = some [] := rfl
@[simp] theorem pks_cons (e : SEnv) (p : PO) (ps : List PO) : pks e (p :: ps) = (match pk e p, pks e ps with | some d, some ds => some (d :: ds) | _, _ => none) := rfl
@[simp] theorem sFn_eq (op : List D → Option PV) (os : List Opd) (e : SEnv) : sFn op os e = (opds os e).bind fun ps e1 => finN op e1 (pks e1 ps) := rfl
@[simp] theorem datP_dat (d : D) : datP (.val (.dat d)) = some d := rfl
@[simp] theorem datAll_nil : datAll [] = some [] := rfl
@[simp] theorem datAll_cons (p : PO) (ps : List PO) : datAll (p :: ps) = (match datP p, datAll ps with | some d, some ds => some (d :: ds) | _, _ => none) := rfl
@[simp] theorem finT_some (e : SEnv) (ds : List D) : finT e (some ds) = if ds.length ≤ 16777216 then .ok (.dat (.tuple ds)) e else .bad := (rfl)
@[simp] theorem finL_some (e : SEnv) (ds : List D) : finL e (some ds) = if ds.length ≤ 16777216 then .ok (.own ds) e else .bad := (rfl)
@[simp] theorem sTup_eq (os : List Opd) (e : SEnv) : sTup os e = (opds os e).bind fun ps e1 => finT e1 (datAll ps) := rfl
@[simp] theorem sLst_eq (os : List Opd) (e : SEnv) : sLst os e = (opds os e).bind fun ps e1 => finL e1 (datAll ps) := rfl
@[simp] theorem frzK_dat (d : D) (e : SEnv) : frzK (.dat d) e = .ok (.dat d) e := rfl
@[simp] theorem frzK_own (ds : List D) (e : SEnv) : frzK (.own ds) e = .ok (.dat (.list ds)) e := rfl
@[simp] theorem sFrz_eq (f : SE) (e : SEnv) : sFrz f e = (f e).bind frzK := rfl
/-! ### truth -/
def boolK {γ : Type} (a b : SEnv → Out γ) : PV → SEnv → Out γ
  | .dat (.bool c), e => if c then a e else b e
  | _, _ => .bad
@[simp] theorem boolK_eq {γ : Type} (a b : SEnv → Out γ) (c : Bool) (e : SEnv) : boolK a b (.dat (.bool c)) e = if c then a e else b e := rfl
def falseV : SE := fun e => .ok (.dat (.bool false)) e
def trueV : SE := fun e => .ok (.dat (.bool true)) e
@[simp] theorem falseV_eq (e : SEnv) : falseV e = .ok (.dat (.bool false)) e := rfl
@[simp] theorem trueV_eq (e : SEnv) : trueV e = .ok (.dat (.bool true)) e := rfl
theorem boolK_ext {γ : Type} {a b : SEnv → Out γ} {k : PV → SEnv → Out γ} (h : ∀ p e, k p e = boolK a b p e) : k = boolK a b := funext fun p => funext fun e => h p e
@[simp] theorem sAndV_eq (a b : SE) (e : SEnv) : sAndV a b e = (a e).bind (boolK b falseV) := by
  unfold sAndV
  congr 1
  refine boolK_ext fun p e => ?_
  cases p with
  | dat d =>
    cases d with
    | bool c => cases c <;> rfl
    | _ => rfl
  | _ => rfl
@[simp] theorem sOrV_eq (a b : SE) (e : SEnv) : sOrV a b e = (a e).bind (boolK trueV b) := by
  unfold sOrV
  congr 1
  refine boolK_ext fun p e => ?_
  cases p with
  | dat d =>
    cases d with
    | bool c => cases c <;> rfl
    | _ => rfl
  | _ => rfl
def notK : PV → SEnv → Out PV
  | .dat (.bool c), e => .ok (.dat (.bool (!c))) e
  | _, _ => .bad
@[simp] theorem notK_eq (c : Bool) (e : SEnv) : notK (.dat (.bool c)) e = .ok (.dat (.bool (!c))) e := rfl
@[simp] theorem sNotV_eq (a : SE) (e : SEnv) : sNotV a e = (a e).bind notK := by
  unfold sNotV
  congr 1
  funext p e
  cases p with
  | dat d =>
    cases d with
    | bool c => cases c <;> rfl
    | _ => rfl
  | _ => rfl
def tK : PV → SEnv → Out Bool
  | .dat (.bool c), e => .ok c e
  | _, _ => .bad
@[simp] theorem tK_eq (c : Bool) (e : SEnv) : tK (.dat (.bool c)) e = .ok c e := rfl
@[simp] theorem sT_eq (a : SE) (e : SEnv) : sT a e = (a e).bind tK := by
  unfold sT
  congr 1
  funext p e
  cases p with
  | dat d =>
    cases d with
    | bool c => cases c <;> rfl
    | _ => rfl
  | _ => rfl
@[simp] theorem sCh_eq (f g : D → D → Option PV) (a b c : Opd) (e : SEnv) : sCh f g a b c e = (opd a e).bind fun pa e1 => (opd b e1).bind fun pb e2 => (fin2 f e2 (pk e2 pa) (pk e2 pb)).bind (boolK (fun e3 => (opd c e3).bind fun pc e4 => fin2 g e4 (pk e4 pb) (pk e4 pc)) falseV) := by
  unfold sCh
  congr 1
  funext pa e1
  congr 1
  funext pb e2
  congr 1
  refine boolK_ext fun p e => ?_
  cases p with
  | dat d =>
    cases d with
    | bool c => cases c <;> rfl
    | _ => rfl
  | _ => rfl
@[simp] theorem sAndT_eq (a b : ST) (e : SEnv) : sAndT a b e = (a e).bind fun k e1 => if k then b e1 else .ok false e1 := rfl
@[simp] theorem sOrT_eq (a b : ST) (e : SEnv) : sOrT a b e = (a e).bind fun k e1 => if k then .ok true e1 else b e1 := rfl
@[simp] theorem sNotT_eq (a : ST) (e : SEnv) : sNotT a e = (a e).bind fun k e1 => .ok (!k) e1 := rfl
@[simp] theorem sIf_eq (c : ST) (a b : SE) (e : SEnv) : sIf c a b e = (c e).bind fun k e1 => if k then a e1 else b e1 := rfl
/-! ### two ends of one kind -/
@[simp] theorem ite_and (c : Prop) [Decidable c] (x : Bool) (e : SEnv) : (if c then Out.ok (PV.dat (.bool x)) e else Out.ok (PV.dat (.bool false)) e) = Out.ok (PV.dat (.bool (decide c && x))) e := by
  by_cases h : c <;> simp [h]
@[simp] theorem ite_or (c : Prop) [Decidable c] (x : Bool) (e : SEnv) : (if c then Out.ok (PV.dat (.bool true)) e else Out.ok (PV.dat (.bool x)) e) = Out.ok (PV.dat (.bool (decide c || x))) e := by
  by_cases h : c <;> simp [h]
@[simp] theorem ite_andT (c : Prop) [Decidable c] (x : Bool) (e : SEnv) : (if c then Out.ok x e else Out.ok false e) = Out.ok (decide c && x) e := by
  by_cases h : c <;> simp [h]
@[simp] theorem ite_orT (c : Prop) [Decidable c] (x : Bool) (e : SEnv) : (if c then Out.ok true e else Out.ok x e) = Out.ok (decide c || x) e := by
  by_cases h : c <;> simp [h]
theorem bind_ite (c : Prop) [Decidable c] (x y : Out α) (k : α → SEnv → Out β) : (if c then x else y).bind k = if c then x.bind k else y.bind k := by split <;> rfl
/-! ### statements -/
@[simp] theorem seqK_nx (g : SS) (e : SEnv) : seqK g .nx e = g e := rfl
@[simp] theorem seqK_rt (g : SS) (p : PV) (e : SEnv) : seqK g (.rt p) e = .ok (.rt p) e := rfl
@[simp] theorem seqK_bk (g : SS) (e : SEnv) : seqK g .bk e = .ok .bk e := rfl
@[simp] theorem seqK_ct (g : SS) (e : SEnv) : seqK g .ct e = .ok .ct e := rfl
@[simp] theorem sSeq_eq (f g : SS) (e : SEnv) : sSeq f g e = (f e).bind (seqK g) := rfl
@[simp] theorem sNext_eq (e : SEnv) : sNext e = .ok .nx e := rfl
@[simp] theorem sBreak_eq (e : SEnv) : sBreak e = .ok .bk e := rfl
@[simp] theorem sCont_eq (e : SEnv) : sCont e = .ok .ct e := rfl
@[simp] theorem sDrop_eq (f : SE) (e : SEnv) : sDrop f e = (f e).bind fun _ e1 => .ok .nx e1 := rfl
@[simp] theorem sRet_eq (f : SE) (e : SEnv) : sRet f e = (f e).bind fun p e1 => .ok (.rt p) e1 := rfl
@[simp] theorem sRetN_eq (e : SEnv) : sRetN e = .ok (.rt (.dat .none)) e := rfl
@[simp] theorem sIfS_eq (c : ST) (f g : SS) (e : SEnv) : sIfS c f g e = (c e).bind fun k e1 => if k then f e1 else g e1 := rfl
@[simp] theorem setK_dat (i : Nat) (d : D) (e : SEnv) : setK i (.dat d) e = .ok .nx (e.set i (some (.dat d))) := rfl
@[simp] theorem setK_own (i : Nat) (ds : List D) (e : SEnv) : setK i (.own ds) e = .ok .nx (e.set i (some (.own ds))) := rfl
@[simp] theorem sSet_eq (i : Nat) (f : SE) (e : SEnv) : sSet i f e = (f e).bind (setK i) := rfl
@[simp] theorem sRaise_eq (x : Exn) (e : SEnv) : sRaise x e = .exc x e := rfl
@[simp] theorem outF_rt (n : Nat) (fix : List Nat) (p : PV) (e : SEnv) : outF n fix (.ok (.rt p) e) = .ok p (outE n fix e) := rfl
@[simp] theorem outF_nx (n : Nat) (fix : List Nat) (e : SEnv) : outF n fix (.ok .nx e) = .ok (.dat .none) (outE n fix e) := rfl
@[simp] theorem outF_exc (n : Nat) (fix : List Nat) (x : Exn) (e : SEnv) : outF n fix (.exc x e) = .exc x (outE n fix e) := rfl
@[simp] theorem outE_nil (n : Nat) (e : SEnv) : outE n [] e = List.replicate n none := by
  unfold outE
  apply List.ext_getElem?
  intro i
  rw [List.getElem?_map, List.getElem?_replicate]
  by_cases h : i < n
  · rw [List.getElem?_range h, if_pos h]
    rfl
  · rw [if_neg h, List.getElem?_eq_none (by rw [List.length_range]; exact Nat.le_of_not_lt h)]
    rfl
theorem outE_fst (n : Nat) (p : Option PV) (e : SEnv) : outE (n + 1) [0] (p :: e) = p :: List.replicate n none := by
  unfold outE
  apply List.ext_getElem?
  intro i
  rw [List.getElem?_map]
  by_cases h : i < n + 1
  · rw [List.getElem?_range h]
    cases i with
    | zero => rfl
    | succ i =>
      rw [List.getElem?_cons_succ, List.getElem?_replicate, if_pos (by omega)]
      rfl
  · rw [List.getElem?_eq_none (by rw [List.length_range]; exact Nat.le_of_not_lt h)]
    refine Eq.symm (?_ : (p :: List.replicate n none)[i]? = none)
    rw [List.getElem?_eq_none_iff, List.length_cons, List.length_replicate]
    omega
@[simp] theorem runF_eq (n r : Nat) (fix : List Nat) (b : SS) (e : SEnv) : runF n r fix b e = outF n fix (b (e ++ List.replicate r none)) := rfl
@[simp] theorem outF_ite (n : Nat) (fix : List Nat) (c : Prop) [Decidable c] (x y : Out Fl) : outF n fix (if c then x else y) = if c then outF n fix x else outF n fix y := by split <;> rfl
/-! ### calls -/
@[simp] theorem argP_dat (e : SEnv) (d : D) : argP e (.val (.dat d)) = some (.dat d) := rfl
def argS : Option (Option PV) → Option PV
  | some (some (.dat d)) => some (.dat d)
  | some (some (.own ds)) => some (.own ds)
  | some (some (.scr ns)) => some (.scr ns)
  | _ => none
@[simp] theorem argS_dat (d : D) : argS (some (some (.dat d))) = some (.dat d) := rfl
@[simp] theorem argS_own (ds : List D) : argS (some (some (.own ds))) = some (.own ds) := rfl
@[simp] theorem argS_scr (ns : List Int) : argS (some (some (.scr ns))) = some (.scr ns) := rfl
@[simp] theorem argP_slot (e : SEnv) (i : Nat) : argP e (.slot i) = argS e[i]? := by
  unfold argP argS
  rfl
@[simp] theorem argsE_nil (e : SEnv) : argsE e [] = some [] := rfl
@[simp] theorem argsE_cons (e : SEnv) (p : PO) (r : List PO) : argsE e (p :: r) = (match argP e p, argsE e r with | some p, some q => some (some p :: q) | _, _ => none) := rfl
@[simp] theorem sCall_eq (n : Nat) (m : SE) (os : List Opd) (e : SEnv) : sCall n m os e = (opds os e).bind (callK n m) := rfl
@[simp] theorem callK_eq (n : Nat) (m : SE) (ps : List PO) (e : SEnv) : callK n m ps e = callG n m e ps (argsE e ps) := rfl
@[simp] theorem callG_some (n : Nat) (m : SE) (e : SEnv) (ps : List PO) (args : SEnv) : callG n m e ps (some args) = if ps.length = n ∧ dupFree ps = true then backF ps e (m args) else .bad := rfl
@[simp] theorem isSlot_slot (i j : Nat) : isSlot i (.slot j) = (i == j) := rfl
@[simp] theorem isSlot_val (i : Nat) (p : PV) : isSlot i (.val p) = false := rfl
@[simp] theorem dupFree_nil : dupFree [] = true := rfl
@[simp] theorem dupFree_slot (i : Nat) (r : List PO) : dupFree (.slot i :: r) = (!(r.any (isSlot i)) && dupFree r) := rfl
@[simp] theorem dupFree_val (p : PV) (r : List PO) : dupFree (.val p :: r) = dupFree r := rfl
@[simp] theorem backF_ok (ps : List PO) (e : SEnv) (p : PV) (e' : SEnv) : backF ps e (.ok p e') = .ok p (backGo ps e' 0 e) := rfl
@[simp] theorem backF_exc (ps : List PO) (e : SEnv) (x : Exn) (e' : SEnv) : backF ps e (.exc x e') = .exc x (backGo ps e' 0 e) := rfl
@[simp] theorem backF_ite (ps : List PO) (e : SEnv) (c : Prop) [Decidable c] (x y : Out PV) : backF ps e (if c then x else y) = if c then backF ps e x else backF ps e y := by split <;> rfl
@[simp] theorem backGo_nil (ps : List PO) (e' : SEnv) (k : Nat) : backGo ps e' k [] = [] := rfl
@[simp] theorem backGo_cons (ps : List PO) (e' : SEnv) (k : Nat) (o : Option PV) (r : SEnv) : backGo ps e' k (o :: r) = backO ps e' k o :: backGo ps e' (k + 1) r := rfl
@[simp] theorem backO_none (ps : List PO) (e' : SEnv) (i : Nat) : backO ps e' i none = none := rfl
@[simp] theorem backO_dat (ps : List PO) (e' : SEnv) (i : Nat) (d : D) : backO ps e' i (some (.dat d)) = some (.dat d) := rfl
@[simp] theorem backO_scr (ps : List PO) (e' : SEnv) (i : Nat) (ns : List Int) : backO ps e' i (some (.scr ns)) = some (.scr ns) := rfl
@[simp] theorem posOf_nil (i : Nat) : posOf i [] = none := rfl
@[simp] theorem posOf_cons (i : Nat) (p : PO) (r : List PO) : posOf i (p :: r) = if isSlot i p then some 0 else (posOf i r).map (· + 1) := rfl
theorem backO_own (ps : List PO) (e' : SEnv) (i : Nat) (ds : List D) : backO ps e' i (some (.own ds)) = (match posOf i ps with | some k => (e'[k]?).join | none => some (.own ds)) := rfl
/-- all arguments are values: nothing comes back -/
theorem backO_vals (ps : List PO) (e' : SEnv) (i : Nat) (o : Option PV) (h : posOf i ps = none) : backO ps e' i o = o := by
  unfold backO
  split
  · rw [h]
  · rfl
theorem backGo_vals (ps : List PO) (e' : SEnv) (h : ∀ i, posOf i ps = none) : ∀ (k : Nat) (e : SEnv), backGo ps e' k e = e
  | _, [] => rfl
  | k, o :: r => by rw [backGo_cons, backO_vals _ _ _ _ (h k), backGo_vals ps e' h (k + 1) r]
@[simp] theorem backGo_v0 (e' : SEnv) (k : Nat) (e : SEnv) : backGo [] e' k e = e := backGo_vals _ _ (fun _ => rfl) _ _
@[simp] theorem backGo_v1 (p : PV) (e' : SEnv) (k : Nat) (e : SEnv) : backGo [.val p] e' k e = e := backGo_vals _ _ (fun _ => rfl) _ _
@[simp] theorem backGo_v2 (p q : PV) (e' : SEnv) (k : Nat) (e : SEnv) : backGo [.val p, .val q] e' k e = e := backGo_vals _ _ (fun _ => rfl) _ _
@[simp] theorem backGo_v3 (p q r : PV) (e' : SEnv) (k : Nat) (e : SEnv) : backGo [.val p, .val q, .val r] e' k e = e := backGo_vals _ _ (fun _ => rfl) _ _
@[simp] theorem backGo_v4 (p q r s : PV) (e' : SEnv) (k : Nat) (e : SEnv) : backGo [.val p, .val q, .val r, .val s] e' k e = e := backGo_vals _ _ (fun _ => rfl) _ _
/-! ### operations on data of known kind -/
@[simp] theorem aAdd_int (i j : Int) : aAdd (.int i) (.int j) = some (.dat (.int (i + j))) := rfl
@[simp] theorem aSub_int (i j : Int) : aSub (.int i) (.int j) = some (.dat (.int (i - j))) := rfl
@[simp] theorem aNeg_int (i : Int) : aNeg (.int i) = some (.dat (.int (-i))) := rfl
@[simp] theorem aLen_list (ds : List D) : aLen [.list ds] = some (.dat (.int ds.length)) := rfl
@[simp] theorem aLen_tuple (ds : List D) : aLen [.tuple ds] = some (.dat (.int ds.length)) := rfl
@[simp] theorem aInt_int (i : Int) : aInt [.int i] = some (.dat (.int i)) := rfl
@[simp] theorem aLe_int (i j : Int) : aLe (.int i) (.int j) = some (.dat (.bool (decide (i ≤ j)))) := rfl
@[simp] theorem aLt_int (i j : Int) : aLt (.int i) (.int j) = some (.dat (.bool (decide (i < j)))) := rfl
@[simp] theorem aGe_int (i j : Int) : aGe (.int i) (.int j) = some (.dat (.bool (decide (j ≤ i)))) := rfl
@[simp] theorem aGt_int (i j : Int) : aGt (.int i) (.int j) = some (.dat (.bool (decide (j < i)))) := rfl
@[simp] theorem aIsN_eq (d : D) : aIsN d = some (.dat (.bool (isNone d))) := rfl
@[simp] theorem aNotN_eq (d : D) : aNotN d = some (.dat (.bool (!isNone d))) := rfl
@[simp] theorem aIsi_int (d : D) : aIsi "int" d = some (.dat (.bool (isKind (kindD d) "int"))) := rfl
@[simp] theorem aIsi_bool (d : D) : aIsi "bool" d = some (.dat (.bool (isKind (kindD d) "bool"))) := rfl
@[simp] theorem aIsi_str (d : D) : aIsi "str" d = some (.dat (.bool (isKind (kindD d) "str"))) := rfl
@[simp] theorem aIsi_list (d : D) : aIsi "list" d = some (.dat (.bool (isKind (kindD d) "list"))) := rfl
@[simp] theorem aIsi_tuple (d : D) : aIsi "tuple" d = some (.dat (.bool (isKind (kindD d) "tuple"))) := rfl
@[simp] theorem scrK_scr (ns : List Int) (e : SEnv) : scrK (some (some (.scr ns))) e = .ok (.own (ns.map .int)) e := rfl
@[simp] theorem sScr_eq (i : Nat) (e : SEnv) : sScr i e = scrK e[i]? e := rfl
@[simp] theorem aAdd_list (xs ys : List D) : aAdd (.list xs) (.list ys) = if xs.length + ys.length ≤ 16777216 then some (.own (xs ++ ys)) else none := (rfl)
@[simp] theorem aAdd_str (x y : Str) : aAdd (.str x) (.str y) = if x.length + y.length ≤ 16777216 then some (.dat (.str (x ++ y))) else none := (rfl)
@[simp] theorem aMul_int (i j : Int) : aMul (.int i) (.int j) = if small64 i || small64 j then some (.dat (.int (i * j))) else none := rfl
@[simp] theorem aDiv_int (i j : Int) : aDiv (.int i) (.int j) = if decide (0 < j) && decide (j < 1073741824) then some (.dat (.int (i / j))) else none := (rfl)
@[simp] theorem aMod_int (i j : Int) : aMod (.int i) (.int j) = if decide (0 < j) then some (.dat (.int (i % j))) else none := rfl
@[simp] theorem aPow_int (i j : Int) : aPow (.int i) (.int j) = if decide (0 ≤ j) && decide (j ≤ 1000000) && decide (i.natAbs < 18446744073709551616) then some (.dat (.int (i ^ j.toNat))) else none := (rfl)
@[simp] theorem aAbs_int (i : Int) : aAbs [.int i] = some (.dat (.int (if i < 0 then -i else i))) := rfl
@[simp] theorem aIx_list (ds : List D) (i : Int) : aIx (.list ds) (.int i) = (atI ds i).map .dat := rfl
@[simp] theorem aIx_tuple (ds : List D) (i : Int) : aIx (.tuple ds) (.int i) = (atI ds i).map .dat := rfl
theorem atI_nat {α : Type} (xs : List α) (i : Nat) : atI xs (i : Int) = xs[i]? := by
  unfold atI ixN
  rw [if_pos (Int.natCast_nonneg i)]
  by_cases h : i < xs.length
  · rw [if_pos (by omega)]
    rfl
  · rw [if_neg (by omega), List.getElem?_eq_none (Nat.le_of_not_lt h)]
    rfl
@[simp] theorem atI_0 {α : Type} (x : α) (xs : List α) : atI (x :: xs) 0 = some x := atI_nat (x :: xs) 0
@[simp] theorem atI_1 {α : Type} (x y : α) (xs : List α) : atI (x :: y :: xs) 1 = some y := atI_nat (x :: y :: xs) 1
@[simp] theorem atI_2 {α : Type} (x y z : α) (xs : List α) : atI (x :: y :: z :: xs) 2 = some z := atI_nat (x :: y :: z :: xs) 2
@[simp] theorem ixN_0 (n : Nat) (h : 0 < n) : ixN n 0 = some 0 := by
  unfold ixN
  rw [if_pos (by omega), if_pos (by omega)]
  rfl
@[simp] theorem ixN_1 (n : Nat) (h : 1 < n) : ixN n 1 = some 1 := by
  unfold ixN
  rw [if_pos (by omega), if_pos (by omega)]
  rfl
theorem small64_eq (i : Int) : SM.small64 i = (decide (-18446744073709551616 < i) && decide (i < 18446744073709551616)) := (rfl)
theorem small64_of {i : Int} (h1 : 0 ≤ i) (h2 : i < 18446744073709551616) : small64 i = true := by
  unfold small64
  rw [Bool.and_eq_true]
  exact ⟨decide_eq_true (show -18446744073709551616 < i by omega), decide_eq_true h2⟩
@[simp] theorem putI_int (ds : List D) (d : D) (k : Int) : putI ds d (.int k) = (ixN ds.length k).map fun j => ds.set j d := rfl
@[simp] theorem ownAt_eq2 (e : SEnv) (i : Nat) : ownAt e i = (match e[i]? with | some (some (.own ds)) => some ds | _ => none) := rfl
@[simp] theorem isOwn_eq (e : SEnv) (i : Nat) : isOwn i e = (ownAt e i).isSome := rfl
@[simp] theorem putK_some (i : Nat) (d : D) (e : SEnv) (ds : List D) (x : D) : putK i d e (some ds) (some x) = (match putI ds d x with | some ds' => .ok .nx (e.set i (some (.own ds'))) | none => .bad) := rfl
@[simp] theorem putV_dat (i : Nat) (ix : Opd) (d : D) (e : SEnv) : putV i ix (.dat d) e = if isOwn i e then (opd ix e).bind fun px e1 => putK i d e1 (ownAt e1 i) (pk e1 px) else .bad := rfl
@[simp] theorem sPut_eq (i : Nat) (ix : Opd) (f : SE) (e : SEnv) : sPut i ix f e = (sFrz f e).bind (putV i ix) := rfl
@[simp] theorem parV2_eq (i j : Nat) (p q : PV) (e : SEnv) : parV2 i j p q e = if isClo p || isClo q then .bad else .ok .nx ((e.set i (some p)).set j (some q)) := rfl
@[simp] theorem sParV_eq (i j : Nat) (f g : SE) (e : SEnv) : sParV i j f g e = (f e).bind fun p e1 => (g e1).bind fun q e2 => parV2 i j p q e2 := rfl
@[simp] theorem isClo_dat (d : D) : isClo (.dat d) = false := rfl
@[simp] theorem isClo_own (ds : List D) : isClo (.own ds) = false := rfl
end
end SM
namespace SM
open PySem L2 TL

/-! ## comprehensions worked out -/
@[simp] theorem wipeE_nil (e : SEnv) : wipeE e [] = e := rfl
@[simp] theorem wipeE_cons (e : SEnv) (w : Nat) (ws : List Nat) : wipeE e (w :: ws) = (wipeE e ws).set w none := rfl
@[simp] theorem restE_nil (e0 e : SEnv) : restE [] e0 e = e := rfl
@[simp] theorem restE_cons (e0 e : SEnv) (w : Nat) (ws : List Nat) : restE (w :: ws) e0 e = (restE ws e0 e).set w ((e0[w]?).bind keepD) := rfl
@[simp] theorem keepD_none : keepD none = none := rfl
@[simp] theorem keepD_dat (d : D) : keepD (some (.dat d)) = some (.dat d) := rfl
def datT (ws : List Nat) : PV → SEnv → Out (Option D)
  | .dat d, e => .ok (some d) (wipeE e ws)
  | _, _ => .bad
@[simp] theorem datT_dat (ws : List Nat) (d : D) (e : SEnv) : datT ws (.dat d) e = .ok (some d) (wipeE e ws) := rfl
def turnK (t : ST) (el : SE) (ws : List Nat) : Option SEnv → Out (Option D)
  | none => .bad
  | some e1 => (t e1).bind fun b e2 => if b then (sFrz el e2).bind (datT ws) else .ok none (wipeE e2 ws)
@[simp] theorem turnK_some (t : ST) (el : SE) (ws : List Nat) (e1 : SEnv) : turnK t el ws (some e1) = (t e1).bind fun b e2 => if b then (sFrz el e2).bind (datT ws) else .ok none (wipeE e2 ws) := rfl
/-- one turn of a comprehension: what it adds -/
def turn (g : SG) (t : ST) (el : SE) (ws : List Nat) (d : D) (e : SEnv) : Out (Option D) := turnK t el ws (g d e)
@[simp] theorem turn_eq (g : SG) (t : ST) (el : SE) (ws : List Nat) (d : D) (e : SEnv) : turn g t el ws d e = turnK t el ws (g d e) := rfl
def lcAdd (k : List D → SEnv → Out (List D)) (acc : List D) : Option D → SEnv → Out (List D)
  | some d, e => if acc.length < LIM then k (acc ++ [d]) e else .bad
  | none, e => k acc e
theorem lcGo_turn (g : SG) (t : ST) (el : SE) (ws : List Nat) (d : D) (ds acc : List D) (e : SEnv) : sLcGo g t el ws (d :: ds) acc e = (turn g t el ws d e).bind (lcAdd (sLcGo g t el ws ds) acc) := by
  show lcT t el _ acc (g d e) = (turnK t el ws (g d e)).bind _
  cases g d e with
  | none => rfl
  | some e1 =>
    show (t e1).bind _ = ((t e1).bind _).bind _
    cases t e1 with
    | bad => rfl
    | exc x e2 => rfl
    | ok b e2 =>
      cases b with
      | false => rfl
      | true =>
        show (sFrz el e2).bind _ = ((sFrz el e2).bind _).bind _
        cases sFrz el e2 with
        | bad => rfl
        | exc x e3 => rfl
        | ok p e3 => cases p <;> rfl
theorem lcGo_nil (g : SG) (t : ST) (el : SE) (ws : List Nat) (acc : List D) (e : SEnv) : sLcGo g t el ws [] acc e = .ok acc e := rfl
/-- each turn adds what F says, and leaves the names as they were -/
theorem lcGo_pure {g : SG} {t : ST} {el : SE} {ws : List Nat} {e : SEnv} (F : D → Option D) : ∀ (ds acc : List D), (∀ d ∈ ds, turn g t el ws d e = .ok (F d) e) → acc.length + ds.length ≤ LIM → sLcGo g t el ws ds acc e = .ok (acc ++ ds.filterMap F) e
  | [], acc, _, _ => by rw [lcGo_nil, List.filterMap_nil, List.append_nil]
  | d :: ds, acc, h, hl => by
    have hl' : acc.length + (ds.length + 1) ≤ LIM := hl
    rw [lcGo_turn, h d List.mem_cons_self, List.filterMap_cons]
    have h' : ∀ x ∈ ds, turn g t el ws x e = .ok (F x) e := fun x hx => h x (List.mem_cons_of_mem _ hx)
    cases q : F d with
    | none =>
      show sLcGo g t el ws ds acc e = _
      exact lcGo_pure F ds acc h' (by omega)
    | some x =>
      show (if acc.length < LIM then sLcGo g t el ws ds (acc ++ [x]) e else .bad) = _
      rw [if_pos (by omega), lcGo_pure F ds (acc ++ [x]) h' (by rw [List.length_append, List.length_singleton]; omega), List.append_assoc]
      rfl
theorem sLc_pure {f : SI} {g : SG} {t : ST} {el : SE} {ws : List Nat} {e e1 : SEnv} {ds : List D} (F : D → Option D) (hf : f e = .ok ds e1) (h : ∀ d ∈ ds, turn g t el ws d (wipeE e1 ws) = .ok (F d) (wipeE e1 ws)) (hl : ds.length ≤ LIM) :
    sLc f g t el ws e = .ok (.own (ds.filterMap F)) (restE ws e1 (wipeE e1 ws)) := by
  show (f e).bind _ = _
  rw [hf]
  show lcFin ws e1 (sLcGo g t el ws ds [] (wipeE e1 ws)) = _
  rw [lcGo_pure F ds [] h (by rw [List.length_nil]; omega)]
  rfl
/-- the same, each turn adding one -/
theorem sLc_map {f : SI} {g : SG} {t : ST} {el : SE} {ws : List Nat} {e e1 : SEnv} {ds : List D} (F : D → D) (hf : f e = .ok ds e1) (h : ∀ d ∈ ds, turn g t el ws d (wipeE e1 ws) = .ok (some (F d)) (wipeE e1 ws)) (hl : ds.length ≤ LIM) :
    sLc f g t el ws e = .ok (.own (ds.map F)) (restE ws e1 (wipeE e1 ws)) := by
  have := sLc_pure (fun d => some (F d)) hf h hl
  rw [this]
  congr 2
  induction ds with
  | nil => rfl
  | cons d r ih => simp
/-- turns that change the names: by an invariant -/
theorem lcGo_inv {g : SG} {t : ST} {el : SE} {ws : List Nat} (P : Nat → List D → SEnv → Prop) (ds : List D) (step : ∀ i d acc e, ds[i]? = some d → P i acc e → ∃ o e', turn g t el ws d e = .ok o e' ∧ P (i + 1) (acc ++ o.toList) e') (hl : ∀ i acc e, P i acc e → acc.length < LIM) :
    ∀ (i : Nat) (acc : List D) (e : SEnv), i ≤ ds.length → P i acc e → ∃ out e', sLcGo g t el ws (ds.drop i) acc e = .ok out e' ∧ P ds.length out e' := by
  intro i
  induction h : ds.length - i generalizing i with
  | zero =>
    intro acc e hi p
    have : i = ds.length := by omega
    subst this
    exact ⟨acc, e, by rw [List.drop_length]; rfl, p⟩
  | succ n ih =>
    intro acc e hi p
    have hlt : i < ds.length := by omega
    obtain ⟨o, e', h1, h2⟩ := step i ds[i] acc e (List.getElem?_eq_getElem hlt) p
    obtain ⟨out, e'', h3, h4⟩ := ih (i + 1) (by omega) (acc ++ o.toList) e' hlt h2
    refine ⟨out, e'', ?_, h4⟩
    rw [List.drop_eq_getElem_cons hlt, lcGo_turn, h1]
    cases o with
    | none =>
      rw [Option.toList_none, List.append_nil] at h3
      exact h3
    | some x =>
      show (if acc.length < LIM then sLcGo g t el ws (ds.drop (i + 1)) (acc ++ [x]) e' else .bad) = _
      rw [if_pos (hl i acc e p)]
      exact h3
theorem sLc_inv {f : SI} {g : SG} {t : ST} {el : SE} {ws : List Nat} {e e1 : SEnv} {ds : List D} (P : Nat → List D → SEnv → Prop) (hf : f e = .ok ds e1) (h0 : P 0 [] (wipeE e1 ws)) (step : ∀ i d acc e, ds[i]? = some d → P i acc e → ∃ o e', turn g t el ws d e = .ok o e' ∧ P (i + 1) (acc ++ o.toList) e')
    (hl : ∀ i acc e, P i acc e → acc.length < LIM) : ∃ out e', sLc f g t el ws e = .ok (.own out) (restE ws e1 e') ∧ P ds.length out e' := by
  obtain ⟨out, e', h1, h2⟩ := lcGo_inv P ds step hl 0 [] (wipeE e1 ws) (Nat.zero_le _) h0
  refine ⟨out, e', ?_, h2⟩
  show (f e).bind _ = _
  rw [hf]
  show lcFin ws e1 (sLcGo g t el ws ds [] (wipeE e1 ws)) = _
  rw [List.drop_zero] at h1
  rw [h1]
  rfl
/-! ## loops worked out -/
@[simp] theorem gNm_eq (i : Nat) (d : D) (e : SEnv) : gNm i d e = some (e.set i (some (.dat d))) := rfl
@[simp] theorem gsNil_nil (e : SEnv) : gsNil [] e = some e := rfl
@[simp] theorem gsCons_cons (g : SG) (gs : SGs) (d : D) (r : List D) (e : SEnv) : gsCons g gs (d :: r) e = (match g d e with | some e1 => gs r e1 | none => none) := rfl
@[simp] theorem gTp_tuple (n : Nat) (gs : SGs) (ds : List D) (e : SEnv) : gTp n gs (.tuple ds) e = if ds.length = n then gs ds e else none := rfl
@[simp] theorem rowK_list (ds : List D) (e : SEnv) : rowK (.dat (.list ds)) e = .ok ds e := rfl
@[simp] theorem rowK_tuple (ds : List D) (e : SEnv) : rowK (.dat (.tuple ds)) e = .ok ds e := rfl
@[simp] theorem rowK_str (x : Str) (e : SEnv) : rowK (.dat (.str x)) e = .ok (strDs x) e := rfl
@[simp] theorem sRow_eq (f : SE) (e : SEnv) : sRow f e = (f e).bind rowK := rfl
@[simp] theorem rngK1_int (e : SEnv) (j : Int) : rngK1 e (some [.int j]) = if in62 j then .ok (rngDs 0 j.toNat) e else .bad := (Eq.refl _).trans rfl
@[simp] theorem rngK2_int (e : SEnv) (i j : Int) : rngK2 e (some [.int i, .int j]) = if in62 i && in62 j then .ok (rngDs i (j - i).toNat) e else .bad := (Eq.refl _).trans rfl
@[simp] theorem sRng1_eq (os : List Opd) (e : SEnv) : sRng1 os e = (opds os e).bind fun ps e1 => rngK1 e1 (pks e1 ps) := rfl
@[simp] theorem sRng2_eq (os : List Opd) (e : SEnv) : sRng2 os e = (opds os e).bind fun ps e1 => rngK2 e1 (pks e1 ps) := rfl
theorem in62_eq (i : Int) : in62 i = (decide (-4611686018427387904 ≤ i) && decide (i < 4611686018427387904)) := (rfl)
@[simp] theorem zipK_list (ds es : List D) (e : SEnv) : zipK e (some [.list ds, .list es]) = .ok (zpDs ds es) e := rfl
@[simp] theorem zipK_tuple (ds es : List D) (e : SEnv) : zipK e (some [.tuple ds, .tuple es]) = .ok (zpDs ds es) e := rfl
@[simp] theorem sZip_eq (os : List Opd) (e : SEnv) : sZip os e = (opds os e).bind fun ps e1 => zipK e1 (datAll ps) := rfl
@[simp] theorem enumK_list (ds : List D) (e : SEnv) : enumK e (some [.list ds]) = .ok (enDs 0 ds) e := rfl
@[simp] theorem sEnum_eq (os : List Opd) (e : SEnv) : sEnum os e = (opds os e).bind fun ps e1 => enumK e1 (datAll ps) := rfl
@[simp] theorem asgK_dat (g : SG) (d : D) (e : SEnv) : asgK g (.dat d) e = (match g d e with | some e' => .ok .nx e' | none => .bad) := rfl
@[simp] theorem sAsg_eq (g : SG) (f : SE) (e : SEnv) : sAsg g f e = (f e).bind (asgK g) := rfl
@[simp] theorem tgK_some (b : SS) (e : SEnv) : tgK b (some e) = b e := rfl
@[simp] theorem forK_nx (k : SS) (e : SEnv) : forK k .nx e = k e := rfl
@[simp] theorem forK_ct (k : SS) (e : SEnv) : forK k .ct e = k e := rfl
@[simp] theorem forK_bk (k : SS) (e : SEnv) : forK k .bk e = .ok .nx e := rfl
@[simp] theorem forK_rt (k : SS) (p : PV) (e : SEnv) : forK k (.rt p) e = .ok (.rt p) e := rfl
@[simp] theorem sForGo_nil (g : SG) (b : SS) (e : SEnv) : sForGo g b [] e = .ok .nx e := rfl
theorem sForGo_cons (g : SG) (b : SS) (d : D) (ds : List D) (e : SEnv) : sForGo g b (d :: ds) e = (tgK b (g d e)).bind (forK (sForGo g b ds)) := rfl
@[simp] theorem sFor_eq (f : SI) (g : SG) (b : SS) (e : SEnv) : sFor f g b e = (f e).bind fun ds e1 => sForGo g b ds e1 := rfl
/-- a loop that runs to its end -/
theorem for_inv {g : SG} {b : SS} (P : Nat → SEnv → Prop) (ds : List D) (step : ∀ i d e, ds[i]? = some d → P i e → ∃ e1 e', g d e = some e1 ∧ (b e1 = .ok .nx e' ∨ b e1 = .ok .ct e') ∧ P (i + 1) e') :
    ∀ (i : Nat) (e : SEnv), i ≤ ds.length → P i e → ∃ e', sForGo g b (ds.drop i) e = .ok .nx e' ∧ P ds.length e' := by
  intro i
  induction h : ds.length - i generalizing i with
  | zero =>
    intro e hi p
    have : i = ds.length := by omega
    subst this
    exact ⟨e, by rw [List.drop_length]; rfl, p⟩
  | succ n ih =>
    intro e hi p
    have hlt : i < ds.length := by omega
    obtain ⟨e1, e', h1, h2, h3⟩ := step i ds[i] e (List.getElem?_eq_getElem hlt) p
    obtain ⟨e'', h4, h5⟩ := ih (i + 1) (by omega) e' hlt h3
    refine ⟨e'', ?_, h5⟩
    rw [List.drop_eq_getElem_cons hlt, sForGo_cons, h1]
    show (b e1).bind _ = _
    rcases h2 with h2 | h2 <;> · rw [h2]; exact h4
theorem for_run {f : SI} {g : SG} {b : SS} {e e1 : SEnv} {ds : List D} (P : SEnv → Prop) (hf : f e = .ok ds e1) (h0 : P e1) (step : ∀ d ∈ ds, ∀ e, P e → ∃ e1 e', g d e = some e1 ∧ (b e1 = .ok .nx e' ∨ b e1 = .ok .ct e') ∧ P e') : ∃ e', sFor f g b e = .ok .nx e' ∧ P e' := by
  obtain ⟨e', h1, h2⟩ := for_inv (g := g) (b := b) (fun _ => P) ds (fun i d e hd p => step d (List.mem_of_getElem? hd) e p) 0 e1 (Nat.zero_le _) h0
  refine ⟨e', ?_, h2⟩
  show (f e).bind _ = _
  rw [hf]
  rw [List.drop_zero] at h1
  exact h1
/-- one statement behind another -/
theorem seq_of {f g : SS} {e e1 : SEnv} {o : Out Fl} (h : f e = .ok .nx e1) (k : g e1 = o) : sSeq f g e = o := by
  show (f e).bind _ = _
  rw [h]
  exact k
/-! ## lists of truth values, ints, texts -/
@[simp] theorem blsOf_map {α : Type} (p : α → Bool) : ∀ xs : List α, blsOf (xs.map fun x => PyData.bool (p x)) = some (xs.map p)
  | [] => rfl
  | x :: xs => by
    show (blsOf (xs.map fun x => PyData.bool (p x))).map (p x :: ·) = _
    rw [blsOf_map p xs]
    rfl
@[simp] theorem intsOf_map {α : Type} (p : α → Int) : ∀ xs : List α, intsOf (xs.map fun x => PyData.int (p x)) = some (xs.map p)
  | [] => rfl
  | x :: xs => by
    show (intsOf (xs.map fun x => PyData.int (p x))).map (p x :: ·) = _
    rw [intsOf_map p xs]
    rfl
@[simp] theorem strsOf_map {α : Type} (p : α → Str) : ∀ xs : List α, strsOf (xs.map fun x => PyData.str (p x)) = some (xs.map p)
  | [] => rfl
  | x :: xs => by
    show (strsOf (xs.map fun x => PyData.str (p x))).map (p x :: ·) = _
    rw [strsOf_map p xs]
    rfl
@[simp] theorem aAll_list (ds : List D) : aAll [.list ds] = (blsOf ds).map fun bs => .dat (.bool (bs.all id)) := rfl
@[simp] theorem aTuple_list (ds : List D) : aTuple [.list ds] = some (.dat (.tuple ds)) := rfl
@[simp] theorem aTuple_tuple (ds : List D) : aTuple [.tuple ds] = some (.dat (.tuple ds)) := rfl
@[simp] theorem aTuple_str (x : Str) : aTuple [.str x] = if x.length ≤ 16777216 then some (.dat (.tuple (sgnD x))) else none := (rfl)
@[simp] theorem aLen_str (x : Str) : aLen [.str x] = if x.length ≤ 16777216 then some (.dat (.int x.length)) else none := (rfl)
@[simp] theorem aRev_str (x : Str) : aRev (.str x) = if x.length ≤ 16777216 then some (.dat (.str ⟨x.cps.toList.reverse.toArray⟩)) else none := (rfl)
@[simp] theorem aIn_one (c : Nat) (y : Str) : aIn (.str ⟨#[c]⟩) (.str y) = some (.dat (.bool (decide (c ∈ y.cps.toList)))) := rfl
@[simp] theorem aIn_cpD (c : Nat) (y : Str) : aIn (cpD c) (.str y) = some (.dat (.bool (decide (c ∈ y.cps.toList)))) := rfl
theorem aEq_eq (d d' : D) : aEq d d' = bD (qEq d d') := rfl
theorem aNe_eq (d d' : D) : aNe d d' = bD ((qEq d d').map (!·)) := rfl
@[simp] theorem aEq_str (x y : Str) : aEq (.str x) (.str y) = some (.dat (.bool (decide (x = y)))) := rfl
@[simp] theorem aNe_str (x y : Str) : aNe (.str x) (.str y) = some (.dat (.bool (!decide (x = y)))) := rfl
@[simp] theorem aEq_int (i j : Int) : aEq (.int i) (.int j) = some (.dat (.bool (i == j))) := rfl
@[simp] theorem aNe_int (i j : Int) : aNe (.int i) (.int j) = some (.dat (.bool (!(i == j)))) := rfl
@[simp] theorem bD_some2 (b : Bool) : bD (some b) = some (.dat (.bool b)) := rfl
@[simp] theorem flatD_int (i : Int) : flatD (.int i) = true := rfl
@[simp] theorem flatD_str (x : Str) : flatD (.str x) = true := rfl
@[simp] theorem flatD_bool (x : Bool) : flatD (.bool x) = true := rfl
@[simp] theorem flatD_none : flatD .none = true := rfl
@[simp] theorem eqv_int (i j : Int) : PyData.eqv (.int i) (.int j) = (i == j) := rfl
@[simp] theorem eqv_str (i j : Str) : PyData.eqv (.str i) (.str j) = (i == j) := rfl
@[simp] theorem eqv_bool (i j : Bool) : PyData.eqv (.bool i) (.bool j) = (i == j) := rfl
@[simp] theorem aIn_int_tup (i : Int) (ds : List D) : aIn (.int i) (.tuple ds) = bD (if flatD (.int i) && ds.all flatD then some (ds.any fun z => PyData.eqv z (.int i)) else none) := rfl
@[simp] theorem aIn_str_tup (i : Str) (ds : List D) : aIn (.str i) (.tuple ds) = bD (if flatD (.str i) && ds.all flatD then some (ds.any fun z => PyData.eqv z (.str i)) else none) := rfl
@[simp] theorem aEq_none : aEq .none .none = some (.dat (.bool true)) := by kernel_rfl
@[simp] theorem aEq_nil : aEq (.list []) (.list []) = some (.dat (.bool true)) := by kernel_rfl
@[simp] theorem aEq_bool (b c : Bool) : aEq (.bool b) (.bool c) = some (.dat (.bool (b == c))) := by cases b <;> cases c <;> kernel_rfl
theorem sLc_pureA {α : Type} {f : SI} {g : SG} {t : ST} {el : SE} {ws : List Nat} {e e1 : SEnv} (j : α → D) (xs : List α) (F : α → Option D) (hf : f e = .ok (xs.map j) e1) (h : ∀ a ∈ xs, turn g t el ws (j a) (wipeE e1 ws) = .ok (F a) (wipeE e1 ws)) (hl : xs.length ≤ LIM) :
    sLc f g t el ws e = .ok (.own (xs.filterMap F)) (restE ws e1 (wipeE e1 ws)) := by
  have key : ∀ (xs : List α) (acc : List D), (∀ a ∈ xs, turn g t el ws (j a) (wipeE e1 ws) = .ok (F a) (wipeE e1 ws)) → acc.length + xs.length ≤ LIM → sLcGo g t el ws (xs.map j) acc (wipeE e1 ws) = .ok (acc ++ xs.filterMap F) (wipeE e1 ws) := by
    intro xs
    induction xs with
    | nil =>
      intro acc _ _
      rw [List.map_nil, lcGo_nil, List.filterMap_nil, List.append_nil]
    | cons a r ih =>
      intro acc h hl
      have hl' : acc.length + (r.length + 1) ≤ LIM := hl
      rw [List.map_cons, lcGo_turn, h a List.mem_cons_self, List.filterMap_cons]
      have h' : ∀ x ∈ r, turn g t el ws (j x) (wipeE e1 ws) = .ok (F x) (wipeE e1 ws) := fun x hx => h x (List.mem_cons_of_mem _ hx)
      cases q : F a with
      | none =>
        show sLcGo g t el ws (r.map j) acc (wipeE e1 ws) = _
        exact ih acc h' (by omega)
      | some x =>
        show (if acc.length < LIM then sLcGo g t el ws (r.map j) (acc ++ [x]) (wipeE e1 ws) else .bad) = _
        rw [if_pos (by omega), ih (acc ++ [x]) h' (by rw [List.length_append, List.length_singleton]; omega), List.append_assoc]
        rfl
  show (f e).bind _ = _
  rw [hf]
  show lcFin ws e1 (sLcGo g t el ws (xs.map j) [] (wipeE e1 ws)) = _
  rw [key xs [] h (by rw [List.length_nil]; omega)]
  rfl
theorem sLc_mapA {α : Type} {f : SI} {g : SG} {t : ST} {el : SE} {ws : List Nat} {e e1 : SEnv} (j : α → D) (xs : List α) (F : α → D) (hf : f e = .ok (xs.map j) e1) (h : ∀ a ∈ xs, turn g t el ws (j a) (wipeE e1 ws) = .ok (some (F a)) (wipeE e1 ws)) (hl : xs.length ≤ LIM) :
    sLc f g t el ws e = .ok (.own (xs.map F)) (restE ws e1 (wipeE e1 ws)) := by
  rw [sLc_pureA j xs (fun a => some (F a)) hf h hl]
  congr 2
  clear h hf hl
  induction xs with
  | nil => rfl
  | cons d r ih => rw [List.filterMap_cons, List.map_cons, ih]
/-- the turns that pass a test -/
theorem sLc_filA {α : Type} {f : SI} {g : SG} {t : ST} {el : SE} {ws : List Nat} {e e1 : SEnv} (j : α → D) (xs : List α) (p : α → Bool) (F : α → D) (hf : f e = .ok (xs.map j) e1) (h : ∀ a ∈ xs, turn g t el ws (j a) (wipeE e1 ws) = .ok (if p a then some (F a) else none) (wipeE e1 ws)) (hl : xs.length ≤ LIM) :
    sLc f g t el ws e = .ok (.own ((xs.filter p).map F)) (restE ws e1 (wipeE e1 ws)) := by
  rw [sLc_pureA j xs (fun a => if p a then some (F a) else none) hf h hl]
  congr 2
  clear h hf hl
  induction xs with
  | nil => rfl
  | cons d r ih =>
    rw [List.filterMap_cons, List.filter_cons, ih]
    cases p d <;> rfl
/-! ## texts -/
def tx (cs : List Nat) : Str := ⟨cs.toArray⟩
@[simp] theorem tx_cps (cs : List Nat) : (tx cs).cps.toList = cs := rfl
@[simp] theorem tx_len (cs : List Nat) : (tx cs).length = cs.length := by
  show cs.toArray.size = _
  exact List.size_toArray
theorem strDs_tx (cs : List Nat) : strDs (tx cs) = cs.map cpD := rfl
theorem tx_of (x : Str) : x = tx x.cps.toList := rfl
@[simp] theorem tx_append (cs ds : List Nat) : tx cs ++ tx ds = tx (cs ++ ds) := by
  show Str.append (tx cs) (tx ds) = _
  unfold Str.append tx
  simp
@[simp] theorem tx_inj (cs ds : List Nat) : (tx cs = tx ds) ↔ cs = ds := by
  constructor
  · intro h
    have := congrArg (fun x : Str => x.cps.toList) h
    simpa using this
  · intro h
    rw [h]
theorem joinL_nil : ∀ ps : List (List Nat), joinL [] ps = ps.flatten
  | [] => rfl
  | [p] => by simp [joinL]
  | p :: q :: r => by
    have := joinL_nil (q :: r)
    simp only [joinL, List.flatten_cons] at this ⊢
    rw [this]
    simp
theorem join_nil (ps : List Str) : Txt.join (tx []) ps = tx (ps.map (·.cps.toList)).flatten := by
  rw [join_eq]
  have h := tl_join (tx []) ps
  have : tl (tx []) = [] := rfl
  rw [this, joinL_nil] at h
  have e : Str.join (tx []) ps = tx (tl (Str.join (tx []) ps)) := rfl
  rw [e, h]
theorem strsOf_cp : ∀ cs : List Nat, strsOf (cs.map cpD) = some (cs.map fun c => tx [c])
  | [] => rfl
  | c :: cs => by
    show (strsOf (cs.map cpD)).map (_ :: ·) = _
    rw [strsOf_cp cs]
    rfl
/-- ''.join of signs -/
theorem join_signs (cs : List Nat) (h : cs.length ≤ 16777216) : aJoin (.str (tx [])) [.list (cs.map cpD)] = some (.dat (.str (tx cs))) := by
  show ((strsOf (cs.map cpD)).bind fun ys => if (ys.map (·.length)).sum + ys.length * (tx []).length ≤ LIM then some (PV.dat (.str (Txt.join (tx []) ys))) else none) = _
  rw [strsOf_cp]
  have e1 : ((cs.map fun c => tx [c]).map (·.length)).sum = cs.length := by
    clear h
    induction cs with
    | nil => rfl
    | cons c cs ih =>
      simp only [List.map_map] at ih
      simp [ih, Nat.add_comm]
  have e2 : ((cs.map fun c => tx [c]).map (·.cps.toList)).flatten = cs := by
    clear h e1
    induction cs with
    | nil => rfl
    | cons c cs ih => simpa using ih
  show (if ((cs.map fun c => tx [c]).map (·.length)).sum + (cs.map fun c => tx [c]).length * (tx []).length ≤ LIM then _ else none) = _
  rw [e1, if_pos (by rw [tx_len]; simpa using h), join_nil, e2]
theorem aIx_abc (r : Int) (h0 : 0 ≤ r) (h1 : r < 8) : aIx (.str "abcdefgh") (.int r) = some (.dat (cpD (97 + r.toNat))) := by
  obtain ⟨n, rfl⟩ := Int.eq_ofNat_of_zero_le h0
  have hn : n < 8 := by omega
  match n, hn with
  | 0, _ => rfl
  | 1, _ => rfl
  | 2, _ => rfl
  | 3, _ => rfl
  | 4, _ => rfl
  | 5, _ => rfl
  | 6, _ => rfl
  | 7, _ => rfl
@[simp] theorem aMs_eq (op : D → List D → Option PV) (a : Opd) (os : List Opd) (e : SEnv) : sMs op a os e = (opd a e).bind fun pa e1 => if (pk e1 pa).any isStr then (opds os e1).bind fun ps e2 => finM op e2 (pk e2 pa) (pks e2 ps) else .bad := rfl
@[simp] theorem isStr_str (x : Str) : isStr (.str x) = true := rfl
theorem rngDs_map (lo : Int) (n : Nat) : rngDs lo n = (List.range n).map fun i => PyData.int (lo + (i : Nat)) := rfl
theorem rngDs_len (lo : Int) (n : Nat) : (rngDs lo n).length = n := by rw [rngDs_map, List.length_map, List.length_range]
theorem rngDs_at {lo : Int} {n i : Nat} {d : D} (h : (rngDs lo n)[i]? = some d) : i < n ∧ d = .int (lo + (i : Nat)) := by
  have hl : i < (rngDs lo n).length := (List.getElem?_eq_some_iff.mp h).1
  rw [rngDs_len] at hl
  rw [rngDs_get hl] at h
  cases h
  exact ⟨hl, rfl⟩
/-! ## data that can be compared: signs are signs, not too deep -/
def okStr (x : Str) : Bool := x.cps.toList.all fun c => decide (c < 0x110000)
mutual
def cmpOk : Nat → D → Bool
  | _, .none => true
  | _, .bool _ => true
  | _, .int _ => true
  | _, .str x => okStr x
  | n + 1, .list ds => cmpOks n ds
  | n + 1, .tuple ds => cmpOks n ds
  | _, _ => false
def cmpOks : Nat → List D → Bool
  | _, [] => true
  | n, d :: ds => cmpOk n d && cmpOks n ds
end
theorem okStr_strOk {x : Str} (h : okStr x = true) : PyData.strOk x = true := by
  unfold PyData.strOk
  unfold okStr at h
  rw [List.all_eq_true] at h
  rw [Array.all_eq_true]
  intro i hi
  exact h _ (by simp)
mutual
theorem cmpOk_shaped : ∀ (n : Nat) (d : D), cmpOk n d = true → PyData.canLay0 d = true ∧ PyData.depth d ≤ n
  | n, .none, _ => ⟨rfl, by simp [PyData.depth]⟩
  | n, .bool _, _ => ⟨rfl, by simp [PyData.depth]⟩
  | n, .int _, _ => ⟨rfl, by simp [PyData.depth]⟩
  | n, .str x, h => ⟨okStr_strOk (by simpa [cmpOk] using h), by simp [PyData.depth]⟩
  | n + 1, .list ds, h => by
    obtain ⟨h1, h2⟩ := cmpOks_shaped n ds (by simpa [cmpOk] using h)
    exact ⟨by rw [PyData.canLay0]; exact h1, by rw [PyData.depth]; omega⟩
  | n + 1, .tuple ds, h => by
    obtain ⟨h1, h2⟩ := cmpOks_shaped n ds (by simpa [cmpOk] using h)
    exact ⟨by rw [PyData.canLay0]; exact h1, by rw [PyData.depth]; omega⟩
  | 0, .list ds, h => by simp [cmpOk] at h
  | 0, .tuple ds, h => by simp [cmpOk] at h
  | 0, .dict ds, h => by simp [cmpOk] at h
  | n + 1, .dict ds, h => by simp [cmpOk] at h
theorem cmpOks_shaped : ∀ (n : Nat) (ds : List D), cmpOks n ds = true → PyData.canLayAll0 ds = true ∧ PyData.depthAll ds ≤ n
  | n, [], _ => ⟨rfl, by simp [PyData.depthAll]⟩
  | n, d :: ds, h => by
    have h : (cmpOk n d && cmpOks n ds) = true := by simpa [cmpOks] using h
    obtain ⟨h1, h2⟩ := Bool.and_eq_true_iff.mp h
    obtain ⟨a1, a2⟩ := cmpOk_shaped n d h1
    obtain ⟨b1, b2⟩ := cmpOks_shaped n ds h2
    exact ⟨by rw [PyData.canLayAll0, a1, b1]; rfl, by rw [PyData.depthAll]; omega⟩
end
theorem shaped_of {d : D} (h : cmpOk 64 d = true) : SeqAt.shaped d = true := by
  obtain ⟨h1, h2⟩ := cmpOk_shaped 64 d h
  unfold SeqAt.shaped
  rw [h1, decide_eq_true h2]
  rfl
theorem cmpOks_map {α : Type} (n : Nat) (F : α → D) (h : ∀ a, cmpOk n (F a) = true) : ∀ xs : List α, cmpOks n (xs.map F) = true
  | [] => by rw [List.map_nil, cmpOks]
  | x :: xs => by
    rw [List.map_cons, cmpOks, h x, cmpOks_map n F h xs]
    rfl
theorem cmpOks_mapM {α : Type} (n : Nat) (F : α → D) : ∀ xs : List α, (∀ a ∈ xs, cmpOk n (F a) = true) → cmpOks n (xs.map F) = true
  | [], _ => by rw [List.map_nil, cmpOks]
  | x :: xs, h => by
    rw [List.map_cons, cmpOks, h x List.mem_cons_self, cmpOks_mapM n F xs fun a ha => h a (List.mem_cons_of_mem _ ha)]
    rfl
/-- a thing is equal to itself -/
theorem qEq_self {d : D} (h : cmpOk 64 d = true) : qEq d d = some true := by
  have hs := shaped_of h
  cases d with
  | str x => simp [qEq]
  | _ => simp [qEq, hs, SeqAt.eqv_refl _ (SeqAt.canLay_of_shaped hs)]
theorem aEq_self {d : D} (h : cmpOk 64 d = true) : aEq d d = some (.dat (.bool true)) := by
  rw [aEq_eq, qEq_self h]
  rfl
theorem aNe_self {d : D} (h : cmpOk 64 d = true) : aNe d d = some (.dat (.bool false)) := by
  rw [aNe_eq, qEq_self h]
  rfl
/-! ## parts of lists -/
theorem sIx_pos {n d : Nat} {i : Int} (h0 : 0 ≤ i) (h1 : i ≤ n) : HT.sIx n d (some i) = i.toNat := by
  obtain ⟨k, rfl⟩ := Int.eq_ofNat_of_zero_le h0
  rw [HT.sIx_nat]
  omega
theorem cutL_pos {α : Type} {xs : List α} {i j : Int} (h0 : 0 ≤ i) (h1 : i ≤ j) (h2 : j ≤ xs.length) : cutL xs (some i) (some j) = (xs.drop i.toNat).take (j.toNat - i.toNat) := by
  unfold cutL
  rw [sIx_pos h0 (by omega), sIx_pos (by omega) h2]
@[simp] theorem prt_none (e : SEnv) : prt none e = .ok none e := rfl
def prtK : PV → SEnv → Out (Option Int)
  | .dat (.int i), e => .ok (some i) e
  | _, _ => .bad
@[simp] theorem prtK_int (i : Int) (e : SEnv) : prtK (.dat (.int i)) e = .ok (some i) e := rfl
@[simp] theorem prt_some (f : SE) (e : SEnv) : prt (some f) e = (f e).bind prtK := by
  show (f e).bind _ = _
  congr 1
  funext p e
  unfold prtK
  cases p with
  | dat d => cases d <;> rfl
  | _ => rfl
@[simp] theorem aSl_str (x : Str) (lo hi : Option Int) : aSl (.str x) lo hi = if x.length ≤ 16777216 then some (.dat (.str ⟨(cutL x.cps.toList lo hi).toArray⟩)) else none := (rfl)
@[simp] theorem aSl_list (ds : List D) (lo hi : Option Int) : aSl (.list ds) lo hi = some (.own (cutL ds lo hi)) := rfl
@[simp] theorem aSl_tuple (ds : List D) (lo hi : Option Int) : aSl (.tuple ds) lo hi = some (.dat (.tuple (cutL ds lo hi))) := rfl
@[simp] theorem finS_some (e : SEnv) (d : D) (l h : Option Int) : finS e (some d) l h = (match aSl d l h with | some p => .ok p e | none => .bad) := rfl
@[simp] theorem sSl_eq (a : Opd) (lo hi : Option SE) (e : SEnv) : sSl a lo hi e = (opd a e).bind fun pa e1 => (prt lo e1).bind fun l e2 => (prt hi e2).bind fun h e3 => finS e3 (pk e3 pa) l h := rfl
@[simp] theorem keepD_keepD (o : Option PV) : keepD (keepD o) = keepD o := by
  cases o with
  | none => rfl
  | some p => cases p <;> rfl
theorem aIx_tx {cs : List Nat} {i : Int} (h0 : 0 ≤ i) (h1 : i < cs.length) (hl : cs.length ≤ 16777216) : aIx (.str (tx cs)) (.int i) = some (.dat (cpD (cs.getD i.toNat 0))) := by
  obtain ⟨n, rfl⟩ := Int.eq_ofNat_of_zero_le h0
  have hn : n < cs.length := by omega
  show (if (tx cs).length ≤ LIM then (atI (tx cs).cps.toList (n : Int)).map fun c => PV.dat (.str ⟨#[c]⟩) else none) = _
  rw [tx_len, if_pos hl, tx_cps, atI_nat, List.getElem?_eq_getElem hn]
  show some (PV.dat (.str ⟨#[cs[n]]⟩)) = some (PV.dat (cpD (cs.getD n 0)))
  rw [List.getD_eq_getElem?_getD, List.getElem?_eq_getElem hn]
  rfl
theorem range_part {α : Type} (F : Nat → α) (cs : List Nat) (p l : Nat) (h : p + l ≤ cs.length) : (List.range l).map (fun i => F (cs.getD (p + i) 0)) = ((cs.drop p).take l).map F := by
  apply List.ext_getElem
  · simp
    omega
  · intro i h1 h2
    have h3 : p + i < cs.length := by
      have : i < l := by simpa using h1
      omega
    simp [List.getElem?_eq_getElem h3]
theorem range_whole {α : Type} (F : Nat → α) (cs : List Nat) : (List.range cs.length).map (fun i => F (cs.getD i 0)) = cs.map F := by
  have := range_part F cs 0 cs.length (by omega)
  simpa using this
theorem range_rev {α : Type} (F : Nat → α) (cs : List Nat) : (List.range cs.length).map (fun i => F (cs.getD (cs.length - 1 - i) 0)) = cs.reverse.map F := by
  apply List.ext_getElem
  · simp
  · intro i h1 h2
    have h3 : i < cs.length := by simpa using h1
    have h4 : cs.length - 1 - i < cs.length := by omega
    simp [List.getElem?_eq_getElem h4]
theorem rng1_val {os : List Opd} {e e1 : SEnv} {j : Int} (h : opds os e = .ok [.val (.dat (.int j))] e1) (h2 : in62 j = true) : sRng1 os e = .ok (rngDs 0 j.toNat) e1 := by
  rw [sRng1_eq, h]
  show (if in62 j then Out.ok (rngDs 0 j.toNat) e1 else .bad) = _
  rw [if_pos h2]
theorem rng2_val {os : List Opd} {e e1 : SEnv} {ps : List PO} {i j : Int} (h : opds os e = .ok ps e1) (hp : pks e1 ps = some [.int i, .int j]) (h1 : in62 i = true) (h2 : in62 j = true) : sRng2 os e = .ok (rngDs i (j - i).toNat) e1 := by
  rw [sRng2_eq, h]
  show rngK2 e1 (pks e1 ps) = _
  rw [hp]
  show (if in62 i && in62 j then Out.ok (rngDs i (j - i).toNat) e1 else .bad) = _
  rw [h1, h2]
  rfl
end SM
namespace SM
open PySem PySem.Spec PyProof.Rows L2 LamX
open PySem.Calls
/-! an exception with its own __init__ that calls super().__init__(limit) and keeps limit -/
def supBody (self limit fld : Str) (p0 p1 p2 p3 p4 p5 p6 p7 p8 p9 : Pos) : List Stmt :=
  [.Expr (.Call (.Attribute (.Call (.Name "super" p0) [] [] p1) "__init__" p2) [.Name limit p3] [] p4) p5, .Assign [.Attribute (.Name self p6) fld p7] (.Name limit p8) p9]
def supSp (K : PySem.W.Frag) (C : Addr) (fld : Str) : Sp := fun vs H Q _ => ∃ (a : Addr) (v : V), vs = [.ref a, v] ∧ H a = some (exo a C none) ∧ ∀ dx, H dx = none → dx ≠ a → Q .non (upd (upd H dx (exd dx [(fld, v)])) a (exo a C (some dx)))
structure SupK (K : PySem.W.Frag) (mg : Str → Option Value) (main : Str) (C : Addr) (fld : Str) (cc cda : Addr) : Prop where
  T : OexC K C
  q : PySem.W.excInitIn K C He.veBase "ValueError.__new__" = true
  nf : PySem.W.findIn K (.ref C) fld = some none
  op : PySem.W.nsIn K cStatics "thirdparty.any" = some none
  sup : PySem.W.ks_superIn K C C "__init__" = some (some (.builtin "ValueError.__init__"))
  ve : PySem.W.subIn K (.ref C) (.type "ValueError") = some true
  me : PySem.W.mroIn K C (.ref C) = some true
  ms : mg "super" = none
  cell : ∃ cl cld csl, K.lookup cc = some ⟨cl, cld, .cell (some (.ref C)), csl⟩
  code : ∃ ccl cdd vs ccs file tf, K.lookup cda = some ⟨ccl, cdd, .fields vs, ccs⟩ ∧ vs[2]? = some (.str file tf) ∧ (main == file) = true
theorem fn_sup {CX : CXT} {P : Program} {w : World} {K : PySem.W.Frag} {mg : Str → Option Value} {base : Heap} {k : Nat} {f C cc cda : Addr} {qual self limit fld : Str} {params : Arguments} {scope : Scope} {dV kV doc pm ct oc : Value} {an od : Option Addr}
    {osl : Array (Option Value)} {ar : Arg} {p0 p1 p2 p3 p4 p5 p6 p7 p8 p9 : Pos} (S : SupK K mg P.main.file C fld cc cda)
    (lk : K.lookup f = some ⟨oc, od, .func (PySem.W.ksFn "__init__" qual params (supBody self limit fld p0 p1 p2 p3 p4 p5 p6 p7 p8 p9) scope dV kV doc pm an (.ref cda) ct cc), osl⟩)
    (hcd : PySem.W.codeIn K (.ref cda) qual = true) (hp : (params.posonlyargs ++ params.args).head? = some ar) (har : ar.arg = self) (hsl : self ≠ limit)
    (hks : scope.names.lookup ("super" : Str) = some .globalImplicit) (hkc : scope.names.lookup ("__class__" : Str) = some .free) (hka : scope.names.lookup self = some .local) (hkl : scope.names.lookup limit = some .local)
    (hcell : ∀ x ∈ scope.names, x.2 ≠ .cell) (hco : scope.isCoroutine = false) (hgen : scope.isGenerator = false) (hk : scope.kind = .function)
    (htop : (P.main.scope.names.lookup ("super" : Str)).isSome = false) (hd1 : (self == ("__debug__" : Str)) = false) (hd2 : (limit == ("__debug__" : Str)) = false) (hl : (p2.endLine == p4.line) = true) :
    FnOk P w K mg base CX (k + 1) f (PySem.W.ksFn "__init__" qual params (supBody self limit fld p0 p1 p2 p3 p4 p5 p6 p7 p8 p9) scope dV kV doc pm an (.ref cda) ct cc) [self, limit] (supSp K C fld) := by
  have hi : ∀ L, interactive (PySem.W.ksEnv qual scope L f (.ref cda) cc) = false := fun L => by
    unfold interactive
    simp [hk]
  have hw1 : ∀ L, swapsWith (.Call (.Attribute (.Call (.Name "super" p0) [] [] p1) "__init__" p2) [.Name limit p3] [] p4) none p5.line (PySem.W.ksEnv qual scope L f (.ref cda) cc) = pure false := fun L => rfl
  have hw2 : ∀ L, swapsWith (.Name limit p8) (some (.Attribute (.Name self p6) fld p7)) p9.line (PySem.W.ksEnv qual scope L f (.ref cda) cc) = pure false := fun L => rfl
  have he : ∀ L, eval (.Call (.Attribute (.Call (.Name "super" p0) [] [] p1) "__init__" p2) [.Name limit p3] [] p4) (PySem.W.ksEnv qual scope L f (.ref cda) cc) = (do
      let ov ← attributeBase (.Call (.Name "super" p0) [] [] p1) "__init__" (PySem.W.ksEnv qual scope L f (.ref cda) cc) (eval (.Call (.Name "super" p0) [] [] p1) (PySem.W.ksEnv qual scope L f (.ref cda) cc))
      standAt p2.atName
      let (f', first) ← holding [ov] (getMethod ov "__init__" (L2.plainOf (.Call (.Name "super" p0) [] [] p1) (PySem.W.ksEnv qual scope L f (.ref cda) cc)))
      callWith p4 f' first (backTo p4 (starEach [.Name limit p3] (PySem.W.ksEnv qual scope L f (.ref cda) cc))) []) := fun L => by
    conv => lhs; unfold eval
    have e : ∀ ov, methodCall (.Call (.Name "super" p0) [] [] p1) "__init__" p2 p4 (PySem.W.ksEnv qual scope L f (.ref cda) cc) ov ([Expr.Name limit p3].length + ([] : List Keyword).length) (backTo p4 (starEach [.Name limit p3] (PySem.W.ksEnv qual scope L f (.ref cda) cc))) (backToKw p4 (keywordEach [] (PySem.W.ksEnv qual scope L f (.ref cda) cc))) = _ := fun ov => mcall_line (by rfl) hl
    simp only [e]
    rfl
  refine ⟨fun vs H Q E ⟨a, v, e, _⟩ => by rw [e]; rfl, fun A outer s H args us vs Q E hr e0 hb r hsp => ?_⟩
  obtain ⟨a, v, rfl, ea, q⟩ := hsp
  have r0 : ∃ u, us = [.ref a, u] ∧ RelV v u := by
    cases r with
    | cons ra rr =>
      cases rr with
      | cons rb rn =>
        cases rn
        obtain rfl := ra
        exact ⟨_, rfl, rb⟩
  obtain ⟨u, rfl, rv⟩ := r0
  have KX : K.In s.heap := e0.mod.kin.keeps fun b o e => (e0.bs b o e).1
  have lim : s.heap.NoLimit := e0.mod.nolimit.keeps fun b o e => (e0.bs b o e).1
  obtain ⟨t1, ho⟩ := exo_at e0.hok ea
  obtain ⟨nm, qn, N, bs, bm, sn, sub, ab, col, dd, k0, k1, k2, k3, k5, hC, hbm⟩ := S.T.cls
  have hcl : PySem.W.clsIn K C = some { name := nm, bases := bs, mro := .ref C :: bm, ns := N, qualname := qn, hasDict := true, slotNames := sn, subclasses := sub, abstract := ab, collection := col, hasDel := false } := by unfold PySem.W.clsIn; rw [hC] <;> rfl
  refine ks_codeAny_call_defAt (binds := [(self, .ref a), (limit, u)]) hr.depth (KX _ _ lk) rfl lim (PySem.W.codeRec_of KX hcd) rfl hb hcell (fun x hx => ?_) (fun h1 hns k1 => ?_) hco hgen hk
  · rcases List.mem_cons.mp hx with rfl | hx
    · exact hka
    · rcases List.mem_cons.mp hx with rfl | hx
      · exact hkl
      · cases hx
  have X1a : ∀ b o, K.lookup b = some o → b ≠ a := fun b o e z => by
    subst z
    have e1 := e0.mod.kin _ _ e
    rw [(e0.bs _ _ e1).2] at ea
    cases ea
  have KX1 : K.In h1 := KX.keeps k1
  have ho1 := k1 _ _ ho
  have hD1 : ∃ oD, h1.get? C = some oD ∧ oD.data = .cls { name := nm, bases := bs, mro := .ref C :: bm, ns := N, qualname := qn, hasDict := true, slotNames := sn, subclasses := sub, abstract := ab, collection := col, hasDel := false } := ⟨_, KX1 _ _ hC, rfl⟩
  obtain ⟨oD, hD1, hD2⟩ := hD1
  obtain ⟨cl, cld, csl, hcellK⟩ := S.cell
  obtain ⟨ccl, cdd, vs5, ccs, file, tf, hcode, hvs, hfile⟩ := S.code
  obtain ⟨mb, hmb1, hmb2⟩ := e0.mod.blt
  have kb : ∀ b o, base.get? b = some o → h1.get? b = some o := fun b o e => k1 _ _ (e0.bs b o e).1
  have mself : ([(self, Value.ref a), (limit, u)].reverse).lookup self = some (.ref a) := by
    have e : (self == limit) = false := by simpa using hsl
    show List.lookup self [(limit, u), (self, Value.ref a)] = _
    simp [List.lookup, e]
  have mlim : ([(self, Value.ref a), (limit, u)].reverse).lookup limit = some u := by
    simp [List.lookup]
  refine ks_wpAt_execs_cons (ks_wpAt_Expr_any (ks_wpAt_MethodCall (ks_wpAt_super_base hks hkc rfl rfl (KX1 _ _ lk) rfl hp rfl (KX1 _ _ hcode) rfl hvs hfile htop ?_) (he _)) (hi _) (hw1 _))
  refine PySem.W.ks_loadName_global hk hks (loadGlobal_builtin (e0.mod.glob.keeps kb) S.ms (hmb1.keeps kb) ((hmb2 _ (by decide +kernel)).trans (show bootBuiltins "super" = some (.type "super") by decide +kernel)) ⟨rfl, ?_⟩)
  refine wpAny_loadName_free hk hkc rfl ⟨_, KX1 _ _ hcellK, rfl⟩ ?_
  subst har
  refine wpAny_loadName_local hk hka hns mself ?_
  refine ks_wpAny_isType_cls hD1 hD2 ⟨rfl, ?_⟩
  refine ks_wpAny_call_super hD1 hD2 ho1 rfl (fun c e => by cases e) (PySem.W.looks_mroIn KX1 S.me) (fun h2 e2 k2 => ?_)
  have X2 : K.In h2 := KX1.keeps k2
  have hi2 : PySem.W.Looks (model P w) h2 (isInstance (.ref a) (.type "ValueError")) true := (PySem.W.InstAt.type (x := a) (ox := _) (C := C) (od := none) ⟨k2 _ _ ho1, rfl, rfl, trivial⟩).andThen (PySem.W.looks_subIn X2 S.ve)
  have hax : a ≠ C := fun z => by
    have e := KX _ _ hC
    rw [← z, ho] at e
    cases e
  have hm := S.sup
  unfold PySem.W.ks_superIn at hm
  rw [hcl] at hm
  refine PySem.W.kxs_getMethod PySem.W.kxs_ValueError e2 (PySem.W.looks_opaque X2 S.op) (l₀ := .ref C :: bm) (fun A Q E s k q => wpAny_bind ((PySem.W.looks_clsIn X2 hcl) A _ E s k (wpAny_pure q))) rfl X2 hm hi2 hax rfl ?_
  have k3 : ∀ b o, h2.get? b = some o → (h2.push (PySem.W.kxs_mw "ValueError.__init__" a)).get? b = some o := fun b o e => Heap.get?_push_of_some _ e
  have e3 : (h2.push (PySem.W.kxs_mw "ValueError.__init__" a)).get? h2.objs.size = some (PySem.W.kxs_mw "ValueError.__init__" a) := Heap.get?_push_at rfl rfl
  have k13 := fun b o e => k3 b o (k2 b o e)
  have ho3 := k13 _ _ ho1
  generalize h2.push (PySem.W.kxs_mw "ValueError.__init__" a) = h3 at k3 e3 k13 ho3 ⊢
  generalize h2.objs.size = so at e3 ⊢
  have X3 : K.In h3 := KX1.keeps k13
  have hns3 : h3.Ns s.heap.objs.size (fun x => [(ar.arg, Value.ref a), (limit, u)].reverse.lookup x) := hns.keeps k13
  show wpAny _ _ (callWith p4 (.ref so) [] (backTo p4 (starEach [.Name limit p3] _)) []) _ _ _
  have starE : ∀ env, starEach [.Name limit p3] env = (false, eval (.Name limit p3) env) :: starEach [] env := fun env => rfl
  rw [starE]
  refine PySem.W.kxs_callWith (i := "ValueError.__init__") (x := a) rfl (evalArgs_plain ?_)
  show wpAny _ _ (spliced (backTo p4 (starEach [.Name limit p3] _))) _ _ _
  refine spliced_more (wpAny_Name (wpAny_loadName_local hk hkl hns3 mlim (spliced_none ⟨e3, ?_⟩)) hd2)
  show wpAny _ _ (call (.ref so) [u]) _ _ _
  refine wpAny_call (codeAny_of_tree ?_)
  show wpAny _ _ (callAny (.ref so) ⟨[u], []⟩) _ _ _
  simp only [callAny]
  refine wpAny_bind (wpAny_load e3 ?_)
  simp only [PySem.W.kxs_mw, show (Value.type "method-wrapper" == Value.type "method" || Value.type "method-wrapper" == Value.type "builtin_function_or_method" || Value.type "method-wrapper" == Value.type "method-wrapper") = true by decide, if_true]
  refine PySem.W.KFB.if_so (by decide) ?_
  refine wpAny_bind (PySem.W.check_bound_init PySem.F.excBase_ValueError.toExcCallFacts (X3 _ _ hC) ho3 rfl ?_)
  refine wpAny_bind (wpAny_pure (wpAny_pure ?_))
  refine ⟨plainId_quiet PySem.F.excBase_ValueError.init.plain _, codeAny_builtin PySem.F.excBase_ValueError.initEntry ?_⟩
  refine PySem.W.exc_init_tree (cls := .ref C) (t0 := t1) (dv := none) (c2 := .none) (c3 := .none) (b4 := .bool false) ho3 (show 1 ≤ sizeLine by decide) fun h4 k4 e4 _ => ?_
  have nL : s.heap.objs.size ≠ a := fun z => by
    have h := Heap.lt_size ho
    rw [← z] at h
    exact Nat.lt_irrefl _ h
  have k14 : ∀ b o, b ≠ a → h1.get? b = some o → h4.get? b = some o := fun b o hb e => k4 b o hb (k13 b o e)
  have X4 : K.In h4 := fun b o e => k14 b o (X1a b o e) (KX1 b o e)
  have hns4 : h4.Ns s.heap.objs.size (fun x => [(ar.arg, Value.ref a), (limit, u)].reverse.lookup x) := by
    obtain ⟨oL, es, ep, hL, rr⟩ := hns
    exact ⟨oL, es, ep, k14 _ _ nL hL, rr⟩
  refine ks_wpAt_execs_cons (wpAt_of_wpAny (plainObj_wpAny_Assign_Attribute ?_ (hw2 _)))
  refine wpAny_Name (wpAny_loadName_local hk hkl hns4 mlim (wpAny_Name (wpAny_loadName_local hk hka hns4 mself ?_) hd1)) hd2
  refine PySem.W.set_plain X4 (ox := { cls := .ref C, dict := none, data := .fields #[.ref h3.objs.size, .none, .none, .none, .bool false, .none] }) (od := none) ⟨e4, rfl, rfl, trivial⟩ S.T.sa ?_
  refine PySem.HandSPX.exc_osa X4 e4 hcl (show PySem.HandSPX.refsVE (.ref C :: bm) = true from hbm) rfl S.nf (fun h5 tk5 dx k5 dn dne hx5 hn5 => ?_)
  show _root_.PySem.wpAt _ _ _ (execs [] _) _ _ _
  rw [execs_nil]
  refine _root_.PySem.wpAt_of_wpAny (wpAny_pure ?_)
  have k15 : ∀ b o, b ≠ a → s.heap.get? b = some o → h5.get? b = some o := fun b o hb e => k5 b o hb (k14 b o hb (k1 b o e))
  have hdn : s.heap.objs.size ≤ dx := by
    obtain ⟨oL, es, ep, hL, rr⟩ := hns4
    exact Nat.le_trans (Nat.le_of_lt (Heap.lt_size hL)) dn
  have hnd : H dx = none := e0.hok.fresh hdn
  have nd : ∀ {b : Addr} {o : Obj}, s.heap.get? b = some o → b ≠ dx := fun {b o} q => Nat.ne_of_lt (Nat.lt_of_lt_of_le (Heap.lt_size q) hdn)
  have na : ∀ {b : Addr}, H b = none → b ≠ a := fun {b} n z => by
    rw [z, ea] at n
    cases n
  have Un1 : Un (frs outer) [] H (upd (upd H dx (exd dx [(fld, v)])) a (exo a C (some dx))) s.heap h5 := {
    keep := fun b o q n _ _ => k15 b o (na n) q
    slot := fun b o q n _ _ => ⟨o.slots, k15 b o (na n) q⟩
    free := fun b o q n _ => by rw [upd_ne (na n), upd_ne (nd q)]; exact n
    there := fun b o q _ => by
      by_cases hb : b = a
      · exact ⟨_, by rw [hb]; exact hx5⟩
      · exact ⟨o, k15 b o hb q⟩
    tups := fun b xs q => by rw [upd_ne (at_ne ea q exo_tup), upd_ne (ne_of_none q hnd)]; exact q
    frzs := fun b o v q => by rw [upd_ne (at_ne ea q exo_frz), upd_ne (ne_of_none q hnd)]; exact q
    tbls := fun b ps q => ⟨#[], by rw [upd_ne (at_ne ea q exo_tbl), upd_ne (ne_of_none q hnd), q]; simp⟩ }
  refine ⟨.non, upd (upd H dx (exd dx [(fld, v)])) a (exo a C (some dx)), rfl, e0.bare, Un1, fun b o q => ?_, rfl, q dx hnd dne⟩
  by_cases hb : b = a
  · subst hb
    rw [upd_same] at q
    cases q
    exact exo_ok hx5
  · rw [upd_ne hb] at q
    by_cases hd : b = dx
    · subst hd
      rw [upd_same] at q
      cases q
      exact exd_ok hn5 (relO_put (fs := []) rv fun g => True.intro)
    · rw [upd_ne hd] at q
      exact (e0.hok b o q).stay (fun c v hc z => k15 c v (by
          rcases hc with hc | hc
          · rw [hc]
            exact hb
          · exact at_ne ea hc exo_own) z)
        (fun c hc => by rw [upd_ne (at_ne ea hc exo_own), upd_ne (ne_of_none hc hnd)]; exact hc) (fun c xs hc => by rw [upd_ne (at_ne ea hc exo_tup), upd_ne (ne_of_none hc hnd)]; exact hc)
theorem pmk_oexN {X : Cx} {CX : CXT} {x : Str} {e : Expr} {es : List Expr} {ta : TA} {p pos : Pos} {C fI : Addr} {k : Nat} {fd : FuncData} {ps : List Str} {sp : Sp} (T : OexC X.K C) (iC : PySem.W.findIn X.K (.ref C) "__init__" = some (some (.ref fI))) (tI : PySem.W.typeIn X.K (.ref fI) = some (.type "function"))
    (F1 : FnOk X.prog X.w X.K X.mg X.base CX k fI fd ps sp) (hr : Room (k + 1) X.A) (hb : Binds X.K fd ps []) (hx : Passes CX X (fun _ _ _ => False)) (hg : Gl X x) (hm : X.mg x = some (.ref C)) (ha : PA X (e :: es) ta)
    (hdb : (x == ("__debug__" : Str)) = false := by decide) (he : starEach (e :: es) X.env = (false, eval e X.env) :: starEach es X.env := by rfl) (hpl : (backTo pos (starEach es X.env)).any (·.1) = false := by rfl) :
    L2N.PMk X (.Call (.Name x p) (e :: es) [] pos) (tMkO C sp [] ta) := fun pins s σ H Q I h => by
  obtain ⟨nm, q, N, bs, bm, sn, sub, ab, col, dd, k0, k1, k2, k3, k5, hC, hbm⟩ := T.cls
  refine wpAny_Call_Name_kw (ld_glob I hg hm (PySem.W.callWith_K (h₀ := X.base) I.ok.mod.kin T.kC (thn (ha.run pos pins s σ H _ I h) fun us s1 ⟨vs, H1, I1, r1, hz, q1⟩ => ⟨I1.kIn, ?_⟩) he hpl) hdb)
  show wpAny _ _ (call (.ref C) us) _ _ _
  obtain ⟨hp, g, dr, tk, os⟩ := s1
  have hsz : hp.objs.size ≤ hp.objs.size + 1 := Nat.le_succ _
  have hq := q1 (hp.objs.size + 1) (I1.hok.fresh hsz)
  have kk : ∀ b o, hp.get? b = some o → ((hp.push (PySem.W.kdv_tup us)).push (PySem.HandSPX.excO C hp.objs.size)).get? b = some o := fun b o e => Heap.get?_push_of_some _ (Heap.get?_push_of_some _ e)
  have I2 := I1.laid (t' := tk) (o := exo (hp.objs.size + 1) C none) kk hsz (exo_ok (by heap_get))
  have r2 : Vals (V.ref (hp.objs.size + 1) :: (vs ++ [])) (Value.ref (hp.objs.size + 1) :: (us ++ [])) := .cons rfl (r1.append .nil)
  have hl : (Value.ref (hp.objs.size + 1) :: us ++ []).length = ps.length := (F1.len _ _ _ _ hq).symm.trans r2.length |>.symm
  have hus : us.length ≤ sizeLine := by
    rw [← Paired.length r1, sizeLine_eq]
    omega
  refine wpAny_call (PySem.HandSPX.call_own F.excBase_ValueError (fun Y => PySem.HandSPX.refsVE_contains Y bm hbm) (I1.kIn _ _ hC) (PySem.W.looks_findIn I1.kIn iC) (fun self => PySem.W.bind_fn I1.kIn self tI) hus
    (codeAny_mono (F1.run _ X.stack _ _ ⟨Value.ref (hp.objs.size + 1) :: us, []⟩ (Value.ref (hp.objs.size + 1) :: (us ++ [])) _ _ (fun _ _ _ => False) (hr.make C us []) (I2.env0.make C us []) (by rw [← List.cons_append]; exact hb _ (Value.ref (hp.objs.size + 1) :: us) I2.kIn hl) r2 hq) fun r s' hq' => ?_))
  match r, hq' with
  | .error er, hq' => exact hx pins σ _ _ er s' I2 hq'
  | .ok (.ret u), hq' =>
    obtain ⟨v, H2, os2, bare2, un2, hok2, rv, ev, d, fs, ea, ed, hd1, q2⟩ := hq'
    subst ev
    obtain ⟨h2, g2, d2, t2, os'⟩ := s'
    obtain ⟨t0, G, J, kG, ge, hoe, na⟩ := mk_end0 (d2 := d2) (t2 := t2) I1 hsz kk un2 hok2 os2 bare2 ea ed hd1
    refine ⟨rv, hp.objs.size + 1, _, _, ⟨G, g2, d2, t2, os'⟩, _, .ref C, some d, rfl, J, kG, ge, hoe, ⟨rfl, rfl, fun vs hv => ?_⟩, rfl, rfl, na, rfl, bare2, raises_own T.exC T.tyC, q2⟩
    cases hv
    rfl
structure MkF (P : Program) (w : World) (K : PySem.W.Frag) (mg : Str → Option Value) (base : Heap) (k : Nat) (x fld : Str) : Prop where
  g : mg x = some (.ref (He.ga K x))
  T : OexC K (He.ga K x)
  ex : ∃ fI fd ps, PySem.W.findIn K (.ref (He.ga K x)) "__init__" = some (some (.ref fI)) ∧ PySem.W.typeIn K (.ref fI) = some (.type "function") ∧ FnOk P w K mg base (fun _ _ _ _ _ _ => False) k fI fd ps (supSp K (He.ga K x) fld) ∧ Binds K fd ps []
def raiseFK (x fld : Str) : PV → SEnv → Out Fl
  | .dat d, e => .exc ⟨x, some (fld, d)⟩ e
  | _, _ => .bad
def sRaiseF (x fld : Str) (f : SE) : SS := fun e => (f e).bind (raiseFK x fld)
section
variable {X : Cx} {Y : GY} {W : WX}
theorem ds_raiseF {x fld : Str} {a : Expr} {f : SE} {k k' : Nat} {p p3 pos : Pos} (F : MkF X.prog X.w X.K X.mg X.base k x fld) (hc : X.calm = true) (hr : Room k' X.A) (tk : L2N.Takes X W) (ha : DenE X Y W a f) (hle : k + 1 ≤ k' := by first | decide | omega | (simp only [Nat.add_eq]; omega))
    (hg : Gl X x := by rfl) (hdb : (x == ("__debug__" : Str)) = false := by decide) (he : starEach [a] X.env = (false, eval a X.env) :: starEach [] X.env := by rfl) (hpl : (backTo p3 (starEach [] X.env)).any (·.1) = false := by rfl) :
    DenS X Y W (.Raise (some (.Call (.Name x p) [a] [] p3)) none pos) (sRaiseF x fld f) := by
  obtain ⟨fI, fd, ps, iC, tI, FO, hb⟩ := F.ex
  refine PS.weak (L2N.ps_raise hc tk (pmk_oexN F.T iC tI FO (hr.mono hle) hb (fun _ _ _ _ _ _ _ z => z.elim) hg F.g (pa_cons ha pa_nil he) hdb he hpl)) fun D s H ⟨M, e, ok, pp⟩ => ?_
  refine ⟨M, e, ok, Post.mono (PostS.bindE (R1 := Res (gx X Y)) pp) fun v H1 ⟨pv, e1, M1, ok1, f1, r1, p1⟩ => ?_⟩
  refine ⟨by simp, fun a hna => ⟨a, v, rfl, upd_same, fun dx hdx hne => ⟨rfl, dx, [(fld, v)], upd_same, ?_, ?_, ?_⟩⟩⟩
  · rw [upd_ne hne, upd_same]
  · rwa [upd_ne hne] at hdx
  · have hdx1 : H1 dx = none := by rwa [upd_ne hne] at hdx
    have eH : upd (del (upd (upd (upd H1 a (exo a (He.ga X.K x) none)) dx (exd dx [(fld, v)])) a (exo a (He.ga X.K x) (some dx))) a) dx (.xd [(fld, v)]) = upd H1 dx (.xd [(fld, v)]) := by
      funext b
      by_cases hb : b = dx
      · rw [hb, upd_same, upd_same]
      · rw [upd_ne hb, upd_ne hb]
        by_cases hba : b = a
        · rw [hba, del_same, hna]
        · rw [del_ne hba, upd_ne hba, upd_ne hb, upd_ne hba]
    rw [eH]
    cases pv with
    | dat d =>
      obtain ⟨ok2, f2⟩ := SOk.grow ok1 (p := dx) (o := .xd [(fld, v)]) hdx1 M1 (fun _ h => h) (fun _ h => .inl h)
      have p1 : PostS (gx X Y) W ⟨H, M, s, e⟩ (.exc ⟨x, some (fld, d)⟩ e1) D := p1
      have hM : ¬ M1 dx := fun hm => by
        obtain ⟨o, h1, _⟩ := ok1.trk dx hm
        have h1 : H1 dx = some o := h1
        rw [hdx1] at h1
        cases h1
      have rd : Rep X.K (upd H1 dx (.xd [(fld, v)])) M1 v d := (Res.later ok1 f2 r1).1
      exact p1 _ _ s _ M1 ok2 (f1.trans f2) ⟨_, F.g, rfl, (fun z => by cases z), fun f y z => by
        cases z
        exact ⟨dx, v, rfl, upd_same, hM, rd⟩⟩
    | _ => exact p1.elim
end
end SM
namespace SM
open PySem PySem.Spec PyProof.Rows L2 LamX
open PySem.Calls
/-- what the written part says of an exception's own __init__ (patterns, no trees compared) -/
def supFd (K : PySem.W.Frag) (fld : Str) : FuncData → Option (Str × Str × Addr × Addr)
  | ⟨nm, qual, ⟨[], [⟨a1, none, _⟩, ⟨a2, none, _⟩], none, [], [], none, []⟩, .stmts [.Expr (.Call (.Attribute (.Call (.Name s _) [] [] _) i p2) [.Name l1 _] [] p4) _, .Assign [.Attribute (.Name se _) fl _] (.Name l2 _) _], scope, gl, [(c, cc)], .none, _, _, _, _, .ref cda, _, bi⟩ =>
    if nm = ("__init__" : Str) ∧ s = ("super" : Str) ∧ i = ("__init__" : Str) ∧ l1 = a2 ∧ l2 = a2 ∧ se = a1 ∧ fl = fld ∧ gl = mainGlobals ∧ bi = builtinsNs ∧ c = ("__class__" : Str) ∧ a1 ≠ a2
      ∧ scope.names.lookup ("super" : Str) = some .globalImplicit ∧ scope.names.lookup ("__class__" : Str) = some .free ∧ scope.names.lookup a1 = some .local ∧ scope.names.lookup a2 = some .local
      ∧ (scope.names.all fun x => decide (x.2 ≠ .cell)) = true ∧ scope.isCoroutine = false ∧ scope.isGenerator = false ∧ scope.kind = .function
      ∧ (a1 == ("__debug__" : Str)) = false ∧ (a2 == ("__debug__" : Str)) = false ∧ (p2.endLine == p4.line) = true ∧ PySem.W.codeIn K (.ref cda) qual = true ∧ a1 = ("self" : Str) ∧ (a2 = ("limit" : Str) ∨ a2 = ("at" : Str))
    then some (a1, a2, cc, cda) else none
  | _ => none
theorem supFd_ok {K : PySem.W.Frag} {fld a1 a2 : Str} {cc cda : Addr} {fd : FuncData} (h : supFd K fld fd = some (a1, a2, cc, cda)) {P : Program} {w : World} {mg : Str → Option Value} {base : Heap} {CX : CXT} {f C : Addr} {oc : Value} {od : Option Addr} {osl : Array (Option Value)}
    (S : SupK K mg P.main.file C fld cc cda) (lk : K.lookup f = some ⟨oc, od, .func fd, osl⟩) (htop : (P.main.scope.names.lookup ("super" : Str)).isSome = false) :
    FnOk P w K mg base CX 1 f fd [a1, a2] (supSp K C fld) ∧ Binds K fd [a1, a2] [] := by
  unfold supFd at h
  split at h
  · split at h
    · rename_i hh
      obtain ⟨h1, h2, h3, h4, h5, h6, h7, h8, h9, h10, h11, h12, h13, h14, h15, h16, h17, h18, h19, h20, h21, h22, h23, h24, h25⟩ := hh
      cases h
      subst h1 h2 h3 h4 h5 h6 h7 h8 h9 h10
      refine ⟨fn_sup S lk h23 rfl rfl h11 h12 h13 h14 h15 (fun x hx => of_decide_eq_true (List.all_eq_true.mp h16 x hx)) h17 h18 h19 htop h20 h21 h22, .all fun us hl => ?_⟩
      subst h24
      rcases h25 with h25 | h25
      · subst h25
        match us, hl with
        | [_, _], _ => rfl
      · subst h25
        match us, hl with
        | [_, _], _ => rfl
    · cases h
  · cases h
def oexB (K : PySem.W.Frag) (C : Addr) : Bool := match K.lookup C with
  | some ⟨.type t, _, .cls ⟨_, _, .ref C' :: bm, _, _, true, _, _, _, _, false⟩, ⟨[_, _, _, _, some (.builtin i), _]⟩⟩ =>
    decide (t = "type") && (decide (C' = C) && (decide (i = "ValueError.__new__") && PySem.HandSPX.refsVE bm))
  | _ => false
theorem oexB_ok {K : PySem.W.Frag} {C : Addr} (h : oexB K C = true) : ∃ nm q N bs bm sn sub ab col dd k0 k1 k2 k3 k5, K.lookup C = some (excClassObj nm q C N bs bm true sn sub ab col dd k0 k1 k2 k3 k5 "ValueError.__new__") ∧ PySem.HandSPX.refsVE bm = true := by
  unfold oexB at h
  split at h
  · rename_i e
    simp only [Bool.and_eq_true, decide_eq_true_eq] at h
    obtain ⟨rfl, rfl, rfl, h4⟩ := h
    exact ⟨_, _, _, _, _, _, _, _, _, _, _, _, _, _, _, e, h4⟩
  · cases h
def supB (K : PySem.W.Frag) (main : Str) (x fld : Str) : Bool :=
  oexB K (He.ga K x) && (decide (PySem.W.findIn K (.ref (He.ga K x)) "__setattr__" = some (some (.builtin "object.__setattr__"))) && (decide (PySem.W.subIn K (.ref (He.ga K x)) (.type "BaseException") = some true) &&
  (decide (PySem.W.typeIn K (.ref (He.ga K x)) = some (.type "type")) && (PySem.W.keepIn K (.ref (He.ga K x)) && (PySem.W.excInitIn K (He.ga K x) He.veBase "ValueError.__new__" &&
  (decide (PySem.W.findIn K (.ref (He.ga K x)) fld = some none) && (decide (PySem.W.nsIn K cStatics "thirdparty.any" = some none) && (decide (PySem.W.ks_superIn K (He.ga K x) (He.ga K x) "__init__" = some (some (.builtin "ValueError.__init__"))) &&
  (decide (PySem.W.subIn K (.ref (He.ga K x)) (.type "ValueError") = some true) && (decide (PySem.W.mroIn K (He.ga K x) (.ref (He.ga K x)) = some true) &&
  (decide (PySem.W.findIn K (.ref (He.ga K x)) "__init__" = some (some (.ref (He.ma K (He.ga K x) "__init__")))) && (decide (PySem.W.typeIn K (.ref (He.ma K (He.ga K x) "__init__")) = some (.type "function")) &&
  (match K.lookup (He.ma K (He.ga K x) "__init__") with
   | some ⟨_, _, .func fd, _⟩ => (match supFd K fld fd with
     | some (_, _, cc, cda) => (match K.lookup cc with
        | some ⟨_, _, .cell (some (.ref C')), _⟩ => decide (C' = He.ga K x)
        | _ => false) && (match K.lookup cda with
        | some ⟨_, _, .fields vs, _⟩ => (match (vs[2]? : Option Value) with
          | some (Value.str file _) => main == file
          | _ => false)
        | _ => false)
     | none => false)
   | _ => false)))))))))))))
theorem supB_ok {K : PySem.W.Frag} {x fld : Str} {P : Program} (h : supB K P.main.file x fld = true) {w : World} {mg : Str → Option Value} {base : Heap} (g : mg x = some (.ref (He.ga K x))) (ms : mg "super" = none) (htop : (P.main.scope.names.lookup ("super" : Str)).isSome = false) :
    MkF P w K mg base 1 x fld := by
  unfold supB at h
  simp only [Bool.and_eq_true, decide_eq_true_eq] at h
  obtain ⟨h1, h2, h3, h4, h5, h6, h7, h8, h9, h10, h11, h12, h13, h14⟩ := h
  have T : OexC K (He.ga K x) := ⟨oexB_ok h1, h2, h3, h4, h5⟩
  split at h14
  · rename_i lk
    split at h14
    · rename_i e
      simp only [Bool.and_eq_true] at h14
      obtain ⟨c1, c2⟩ := h14
      split at c1
      · rename_i lc
        have c1 := of_decide_eq_true c1
        subst c1
        split at c2
        · rename_i lcd
          split at c2
          · rename_i hv
            have z := supFd_ok (w := w) (base := base) (CX := fun _ _ _ _ _ _ => False) e ⟨T, h6, h7, h8, h9, h10, h11, ms, ⟨_, _, _, lc⟩, ⟨_, _, _, _, _, _, lcd, hv, c2⟩⟩ lk htop
            exact ⟨g, T, _, _, _, h12, h13, z.1, z.2⟩
          · cases c2
        · cases c2
      · cases c1
    · cases h14
  · cases h14
end SM
namespace SM
open PySem PySem.Spec PyProof.Rows L2 He
/-! a hook that sees closures' cells and the statics, too -/
def cellsY (g : Addr → Option Obj) (as : List Addr) : List Addr := as.flatMap fun a => match g a with
  | some ⟨_, _, .func fd, _⟩ => fd.closure.map (·.2)
  | _ => []
def asY (g : Addr → Option Obj) (n : Nat) : List Addr := (asD g n ++ cStatics :: cellsY g (asD g n)).eraseDups
def obsY (n : Nat) (fa : List Fa) (fn : List DefD) (ts : List Tab) (tf : List Defn) (ex : PySem.W.Frag → Bool) (g : Addr → Option Obj) : AlX := (obsT fa fn ts (frT g (asY g n)), ex (frT g (asY g n)) && tabsB g tf (frT g (asY g n)))
theorem saysY_of {as : List Addr} {fa : List Fa} {fn : List DefD} {ts : List Tab} {tf : List Defn} {ex : PySem.W.Frag → Bool} {w : World} {h : Heap} (e1 : obsT fa fn ts (frT h.get? as) = valT fn ts w) (e2 : (ex (frT h.get? as) && tabsB h.get? tf (frT h.get? as)) = true) : SaysX fa fn ts tf ex w h (frT h.get? as) := by
  obtain ⟨h1, h2⟩ := Bool.and_eq_true_iff.mp e2
  have key : ∀ p ∈ tf, PySem.W.codeHdIn (frT h.get? as) (cT (frT h.get? as) p).1 (cT (frT h.get? as) p).2 = true ∧ ∃ o, h.get? (cT (frT h.get? as) p).2 = some o ∧ emptyTab o = true := fun p hp => by
    obtain ⟨h3, h4⟩ := Bool.and_eq_true_iff.mp (List.all_eq_true.mp h2 p hp)
    refine ⟨h3, ?_⟩
    cases q : h.get? (cT (frT h.get? as) p).2 with
    | none =>
      rw [q] at h4
      cases h4
    | some o =>
      rw [q] at h4
      exact ⟨o, rfl, h4⟩
  exact ⟨e1, h1, fun p hp => (key p hp).1, fun p hp => by
    obtain ⟨_, o, q, z⟩ := key p hp
    exact frT_none q z, fun p hp => by
    obtain ⟨_, o, q, z⟩ := key p hp
    rw [q, emptyTab_eq z]⟩
def hookY (n : Nat) (fa : List Fa) (fn : List DefD) (ts : List Tab) (tf : List Defn) (ex : PySem.W.Frag → Bool) : PySem.W.Hook where
  α := AlX
  obs := fun s => obsY n fa fn ts tf ex s.heap.get?
  val := fun w => valX fn ts w
  says := fun w h => ∃ K : PySem.W.Frag, K.In h ∧ SaysX fa fn ts tf ex w h K
  of := fun _ _ e => ⟨_, frT_in, saysY_of (congrArg (fun z : AlX => z.1) e) (congrArg (fun z : AlX => z.2) e)⟩
  keeps := fun _ _ _ ⟨K, hK, c⟩ k => ⟨K, PySem.W.Frag.In.keeps hK k, ⟨c.t, c.more, c.hd, c.out, fun p hp => k _ _ (c.empty p hp)⟩⟩
theorem obsY_eq {n : Nat} {fa : List Fa} {fn : List DefD} {ts : List Tab} {tf : List Defn} {ex : PySem.W.Frag → Bool} {g : Addr → Option Obj} {s : Shared} (h : ∀ a, g a = s.heap.get? a) : obsY n fa fn ts tf ex g = (hookY n fa fn ts tf ex).obs s := by
  have e : g = s.heap.get? := funext h
  rw [e] <;> rfl
end SM
namespace SM
open PySem PySem.Spec PyProof.Rows L2

/-! ## f() without arguments -/
theorem pe_callS0 {X : Cx} {CX : CXT} {k : Nat} {f : Addr} {fd : FuncData} {ps : List Str} {sp : Sp} {E : L2.St → XK} {x : Str} {p pos : Pos} (F : FnOk X.prog X.w X.K X.mg X.base CX k f fd ps sp) (hr : Room k X.A) (hg : Gl X x) (hm : X.mg x = some (.ref f)) (hk : PySem.W.keepIn X.K (.ref f) = true) (hb : Binds X.K fd ps []) (hx : ∀ σ, PassesAt CX X σ (E σ))
    (hdb : (x == ("__debug__" : Str)) = false := by decide) : PE X (.Call (.Name x p) [] [] pos) (tCallS sp E tNil) := by
  refine ⟨fun pins s σ H Q I h => ?_⟩
  refine wpAny_Call_Name_kw (ld_glob I hg hm ?_ hdb)
  exact PySem.W.callWith_K0 I.kIn hk (run_fnS (us := []) F hr hb (hx σ) I .nil h)
section
variable {X : Cx} {Y : GY} {W : WX}
theorem de_calC0 {x : Str} {k k' : Nat} {m : SE} {p pos : Pos} (C : Cal X.prog X.w X.K X.mg X.base Y.T k x 0 m) (hr : Room k' X.A) (tk : L2N.Takes X W) (hle : k ≤ k' := by first | decide | omega | (simp only [Nat.add_eq]; omega))
    (hg : Gl X x := by rfl) (hdb : (x == ("__debug__" : Str)) = false := by decide) : DenE X Y W (.Call (.Name x p) [] [] pos) (sCall 0 m []) := by
  obtain ⟨fd, ps, F, hb⟩ := C.ex
  refine PE.weak (pe_callS0 (E := WE W) (F.mono hle) hr hg C.g C.kp hb (fun σ => L2N.passAt tk σ) hdb) fun s H Q ⟨M, e, ok, p⟩ => ?_
  exact call_post (G := gx X Y) (g0 X.K X.mg Y.T) rfl rfl rfl rfl ok .nil p
/-! ## is True, is False -/
def aIsB (b : Bool) : D → Option PV
  | .bool a => some (.dat (.bool (decide (a = b))))
  | _ => none
def aNotB (b : Bool) : D → Option PV
  | .bool a => some (.dat (.bool (!decide (a = b))))
  | _ => none
theorem od_isB {b : Bool} : OpR X (compareOp .Is) fun v w H Q => w = .bl b ∧ rD1 (gx X Y) (aIsB b) v H Q := by
  intro pins s σ H v w vv ww Q I rv rw' h
  obtain ⟨rfl, S, d, p, rfl, ok, h1, ho, q⟩ := h
  cases d with
  | bool a =>
    cases ho
    exact op_isBl pins s σ S.H v _ vv ww Q I rv rw' ⟨a, b, h1.bl, rfl, end_dat ok q (.bl _)⟩
  | _ => cases ho
theorem od_notB {b : Bool} : OpR X (compareOp .IsNot) fun v w H Q => w = .bl b ∧ rD1 (gx X Y) (aNotB b) v H Q := by
  intro pins s σ H v w vv ww Q I rv rw' h
  obtain ⟨rfl, S, d, p, rfl, ok, h1, ho, q⟩ := h
  cases d with
  | bool a =>
    cases ho
    exact op_notBl pins s σ S.H v _ vv ww Q I rv rw' ⟨a, b, h1.bl, rfl, end_dat ok q (.bl _)⟩
  | _ => cases ho
theorem de_isB {a : Expr} {oa : Opd} {b : Bool} {j p2 pos} (ha : DenO X Y W a oa) : DenE X Y W (.Compare a [.Is] [.Constant (.bool b) j p2] pos) (sOp1 (aIsB b) oa) :=
  den_op1 (r := rD1 (gx X Y) (aIsB b)) (PE.weak (pe_cmpR od_isB ha pe_bl (nomark _)) fun s H Q ⟨M, e, ok, p⟩ => ⟨M, e, ok, Post.mono p fun v H1 z => ⟨rfl, z⟩⟩)
theorem de_notB {a : Expr} {oa : Opd} {b : Bool} {j p2 pos} (ha : DenO X Y W a oa) : DenE X Y W (.Compare a [.IsNot] [.Constant (.bool b) j p2] pos) (sOp1 (aNotB b) oa) :=
  den_op1 (r := rD1 (gx X Y) (aNotB b)) (PE.weak (pe_cmpR od_notB ha pe_bl (nomark _)) fun s H Q ⟨M, e, ok, p⟩ => ⟨M, e, ok, Post.mono p fun v H1 z => ⟨rfl, z⟩⟩)
theorem dt_isB {a : Expr} {oa : Opd} {b : Bool} {j p2 pos} (ha : DenO X Y W a oa) : DenT X Y W (.Compare a [.Is] [.Constant (.bool b) j p2] pos) (sT (sOp1 (aIsB b) oa)) :=
  PT.weak (pt_cmpR od_isB ha pe_bl (nomark _)) fun s H Q ⟨M, e, ok, p⟩ => by
    obtain ⟨M', e', ok', p'⟩ := op1_post (X := X) (Y := Y) (W := W) (oa := oa) (op := aIsB b) ⟨M, e, ok, rb_of p⟩
    exact ⟨M', e', ok', Post.mono p' fun v H1 z => ⟨rfl, z⟩⟩
theorem dt_notB {a : Expr} {oa : Opd} {b : Bool} {j p2 pos} (ha : DenO X Y W a oa) : DenT X Y W (.Compare a [.IsNot] [.Constant (.bool b) j p2] pos) (sT (sOp1 (aNotB b) oa)) :=
  PT.weak (pt_cmpR od_notB ha pe_bl (nomark _)) fun s H Q ⟨M, e, ok, p⟩ => by
    obtain ⟨M', e', ok', p'⟩ := op1_post (X := X) (Y := Y) (W := W) (oa := oa) (op := aNotB b) ⟨M, e, ok, rb_of p⟩
    exact ⟨M', e', ok', Post.mono p' fun v H1 z => ⟨rfl, z⟩⟩
end
@[simp] theorem aIsB_bool (a b : Bool) : aIsB b (.bool a) = some (.dat (.bool (decide (a = b)))) := rfl
@[simp] theorem aNotB_bool (a b : Bool) : aNotB b (.bool a) = some (.dat (.bool (!decide (a = b)))) := rfl
/-! ## sorting: by putting in -/
def insB {α : Type} (le : α → α → Bool) (x : α) : List α → List α
  | [] => [x]
  | y :: r => if le x y then x :: y :: r else y :: insB le x r
def isort {α : Type} (le : α → α → Bool) : List α → List α
  | [] => []
  | x :: r => insB le x (isort le r)
section
variable {α : Type} {le : α → α → Bool}
theorem insB_perm (x : α) : ∀ l : List α, (insB le x l).Perm (x :: l)
  | [] => List.Perm.refl _
  | y :: r => by
    unfold insB
    split
    · exact List.Perm.refl _
    · exact ((insB_perm x r).cons y).trans (List.Perm.swap x y r)
theorem isort_perm : ∀ l : List α, (isort le l).Perm l
  | [] => List.Perm.refl _
  | x :: r => (insB_perm x (isort le r)).trans ((isort_perm r).cons x)
theorem insB_srt (tot : ∀ a b, le a b = true ∨ le b a = true) (tr : ∀ a b c, le a b = true → le b c = true → le a c = true) (x : α) : ∀ l : List α, l.Pairwise (fun a b => le a b = true) → (insB le x l).Pairwise (fun a b => le a b = true)
  | [], _ => List.pairwise_singleton _ _
  | y :: r, h => by
    have hy := (List.pairwise_cons.mp h).1
    unfold insB
    split
    · rename_i hx
      refine List.pairwise_cons.mpr ⟨fun z hz => ?_, h⟩
      rcases List.mem_cons.mp hz with e | hz
      · rw [e]
        exact hx
      · exact tr _ _ _ hx (hy z hz)
    · rename_i hx
      refine List.pairwise_cons.mpr ⟨fun z hz => ?_, insB_srt tot tr x r (List.pairwise_cons.mp h).2⟩
      rcases List.mem_cons.mp ((insB_perm x r).mem_iff.mp hz) with e | hz
      · rw [e]
        exact (tot x y).resolve_left hx
      · exact hy z hz
theorem isort_srt (tot : ∀ a b, le a b = true ∨ le b a = true) (tr : ∀ a b c, le a b = true → le b c = true → le a c = true) : ∀ l : List α, (isort le l).Pairwise (fun a b => le a b = true)
  | [] => .nil
  | x :: r => insB_srt tot tr x _ (isort_srt tot tr r)
theorem srt_uniq (asm : ∀ a b, le a b = true → le b a = true → a = b) : ∀ {l m : List α}, l.Perm m → l.Pairwise (fun a b => le a b = true) → m.Pairwise (fun a b => le a b = true) → l = m
  | [], m, h, _, _ => by
    have := h.length_eq
    cases m with
    | nil => rfl
    | cons _ _ => cases this
  | x :: l, [], h, _, _ => by
    have := h.length_eq
    cases this
  | x :: l, y :: m, h, hl, hm => by
    have h1 := List.pairwise_cons.mp hl
    have h2 := List.pairwise_cons.mp hm
    have e : x = y := by
      rcases List.mem_cons.mp (h.mem_iff.mp List.mem_cons_self) with e | hx
      · exact e
      · rcases List.mem_cons.mp (h.mem_iff.mpr List.mem_cons_self) with e | hy
        · exact e.symm
        · exact asm _ _ (h1.1 y hy) (h2.1 x hx)
    subst e
    rw [srt_uniq asm h.cons_inv h1.2 h2.2]
end
def leI (a b : Int) : Bool := decide (a ≤ b)
theorem leI_tot (a b : Int) : leI a b = true ∨ leI b a = true := by
  unfold leI
  rw [decide_eq_true_eq, decide_eq_true_eq]
  omega
theorem leI_tr (a b c : Int) (h1 : leI a b = true) (h2 : leI b c = true) : leI a c = true := by
  unfold leI at *
  rw [decide_eq_true_eq] at *
  omega
theorem leI_asm (a b : Int) (h1 : leI a b = true) (h2 : leI b a = true) : a = b := by
  unfold leI at *
  rw [decide_eq_true_eq] at *
  omega
theorem srtI_uniq {l ns : List Int} (h1 : l.Perm ns) (h2 : l.Pairwise (· ≤ ·)) : l = isort leI ns := by
  refine srt_uniq (le := leI) leI_asm (h1.trans (isort_perm ns).symm) ?_ (isort_srt leI_tot leI_tr ns)
  exact h2.imp fun h => by
    unfold leI
    exact decide_eq_true h
def leL (a b : List Nat) : Bool := decide (a ≤ b)
theorem leL_tot (a b : List Nat) : leL a b = true ∨ leL b a = true := by
  unfold leL
  rw [decide_eq_true_eq, decide_eq_true_eq]
  exact List.le_total a b
theorem leL_tr (a b c : List Nat) (h1 : leL a b = true) (h2 : leL b c = true) : leL a c = true := by
  unfold leL at *
  rw [decide_eq_true_eq] at *
  exact List.le_trans h1 h2
theorem leL_asm (a b : List Nat) (h1 : leL a b = true) (h2 : leL b a = true) : a = b := by
  unfold leL at *
  rw [decide_eq_true_eq] at *
  exact List.le_antisymm h1 h2
def leS (x y : Str) : Bool := leL x.cps.toList y.cps.toList
theorem leS_tr (a b c : Str) (h1 : leS a b = true) (h2 : leS b c = true) : leS a c = true := leL_tr _ _ _ h1 h2
theorem leS_asm (a b : Str) (h1 : leS a b = true) (h2 : leS b a = true) : a = b := by
  have h := leL_asm _ _ h1 h2
  cases a with
  | mk x =>
    cases b with
    | mk y =>
      have h' : x.toList = y.toList := h
      rw [Array.toList_inj.mp h']
theorem leS_of {x y : Str} (h : ltCps y.cps.toList x.cps.toList = false) : leS x y = true := by
  rw [PyProof.Rows.ltCps_eq] at h
  unfold leS leL
  rw [decide_eq_true_eq]
  exact List.not_lt.mp (of_decide_eq_false h)
theorem sortedS_pair : ∀ {l : List Str}, PyProof.Rows.sortedS l = true → l.Pairwise (fun a b => leS a b = true)
  | [], _ => .nil
  | [_], _ => List.pairwise_singleton _ _
  | x :: y :: r, h => by
    have h' : (!ltCps y.cps.toList x.cps.toList && PyProof.Rows.risingS y r) = true := h
    obtain ⟨h1, h2⟩ := Bool.and_eq_true_iff.mp h'
    have h3 : leS x y = true := leS_of (by simpa using h1)
    have h4 := sortedS_pair (l := y :: r) h2
    refine List.pairwise_cons.mpr ⟨fun z hz => ?_, h4⟩
    rcases List.mem_cons.mp hz with e | hz
    · rw [e]
      exact h3
    · exact leS_tr _ _ _ h3 ((List.pairwise_cons.mp h4).1 z hz)
theorem srtS_uniq {l ns : List Str} (h1 : l.Perm ns) (h2 : PyProof.Rows.sortedS l = true) : l = isort leS ns :=
  srt_uniq (le := leS) leS_asm (h1.trans (isort_perm ns).symm) (sortedS_pair h2) (isort_srt (fun a b => leL_tot _ _) leS_tr ns)
def leP (a b : Int × Int) : Bool := decide (a.1 < b.1 ∨ (a.1 = b.1 ∧ a.2 ≤ b.2))
theorem leP_iff {a b : Int × Int} : leP a b = true ↔ (a.1 < b.1 ∨ (a.1 = b.1 ∧ a.2 ≤ b.2)) := decide_eq_true_iff
theorem leP_tot (a b : Int × Int) : leP a b = true ∨ leP b a = true := by
  rw [leP_iff, leP_iff]
  omega
theorem leP_tr (a b c : Int × Int) (h1 : leP a b = true) (h2 : leP b c = true) : leP a c = true := by
  rw [leP_iff] at *
  omega
theorem leP_asm (a b : Int × Int) (h1 : leP a b = true) (h2 : leP b a = true) : a = b := by
  rw [leP_iff] at *
  have e1 : a.1 = b.1 := by omega
  have e2 : a.2 = b.2 := by omega
  cases a
  cases b
  cases e1
  cases e2
  rfl
def pairsD : List D → Option (List (Int × Int))
  | [] => some []
  | .tuple [.int i, .int j] :: r => (pairsD r).map ((i, j) :: ·)
  | _ => none
def pairD (p : Int × Int) : D := .tuple [.int p.1, .int p.2]
theorem pairsD_map : ∀ {ds : List D} {ps : List (Int × Int)}, pairsD ds = some ps → ds = ps.map pairD
  | [], _, e => by
    cases e
    rfl
  | d :: ds, ps, e => by
    unfold pairsD at e
    split at e
    · cases ‹_ = []›
    · rename_i i j r heq
      cases heq
      obtain ⟨qs, h1, rfl⟩ := Option.map_eq_some_iff.mp e
      rw [pairsD_map h1]
      rfl
    · cases e
def aSorted : List D → Option PV
  | [.list ds] => match intsOf ds with
    | some ns => some (.own ((isort leI ns).map .int))
    | none => match strsOf ds with
      | some ss => if ss.length < 64 then some (.own ((isort leS ss).map .str)) else none
      | none => match pairsD ds with
        | some ps => some (.own ((isort leP ps).map pairD))
        | none => none
  | _ => none
/-- sorted(xs) of pairs of ints that may be read -/
theorem cr_sortedPQ {X : Cx} : CallR X (.builtin "sorted") (fun vs H Q => ∃ (a : Addr) (xs : List V) (k : V → Int × Int), vs = [V.ref a] ∧ SqL X.K H a xs ∧ (∀ x ∈ xs, ∃ t, x = V.ref t ∧ SqT X.K H t [.int (k x).1, .int (k x).2]) ∧
    ∀ ys p, SrtO.Srtd (ltP k) ys → SrtO.Stb (ltP k) ys xs → H p = none → Q (.ref p) (upd H p (.lst ys))) := by
  intro pins s σ H vs us Q I r h
  obtain ⟨a, xs, k, rfl, hs, hx, q⟩ := h
  obtain ⟨its, rv, hl, hz⟩ := I.list hs
  obtain ⟨u, rfl, ru⟩ := vals1 r
  obtain rfl : u = Value.ref a := ru
  obtain ⟨e1, e2⟩ := refs_back rv fun x m => by
    obtain ⟨t, e, _⟩ := hx x m
    exact ⟨t, e⟩
  refine SrtO.sorted_pairsO (k := fun u => k (backV u)) hl.isList (by rw [← rv.length]; exact hz) (fun v hv => ?_) fun h' d out h1 h2 kp hd hn => ?_
  · obtain ⟨t, rfl⟩ := e2 v hv
    have hm : V.ref t ∈ xs := by rw [e1]; exact List.mem_map.mpr ⟨_, hv, rfl⟩
    obtain ⟨t', e, ht⟩ := hx _ hm
    cases e
    obtain ⟨its2, r2, it, _⟩ := I.tuple ht
    obtain ⟨u1, u2, rfl, ri, rj⟩ := vals2 r2
    obtain ⟨t1, rfl⟩ := ri
    obtain ⟨t2, rfl⟩ := rj
    obtain ⟨o, ho, hc, n, hd⟩ := it
    exact ⟨t, o, t1, t2, n, rfl, ho, hc, hd⟩
  · have h3 : ∀ u ∈ out, ∃ a, u = Value.ref a := fun u hu => e2 u (h2.perm.mem_iff.mp hu)
    obtain ⟨n, hn⟩ := hn
    have hb : SrtO.Stb (ltP k) (out.map backV) xs := by
      rw [e1]
      exact SrtO.Stb.map (ltP_swo k) backV h2
    refine ⟨.ref d, upd H d (.lst (out.map backV)), I.laid (t' := s.toks) kp hd ⟨?_, out, n, vals_back h3, hn⟩, rfl, q _ d (SrtO.srtd_map h1) hb (I.hok.fresh hd)⟩
    rw [hb.len]
    exact hz
theorem rep_pair {K : PySem.W.Frag} {H : Hp} {M : Addr → Prop} {v : V} {p : Int × Int} (h : Rep K H M v (pairD p)) : ∃ t, v = .ref t ∧ SqT K H t [.int p.1, .int p.2] := by
  cases h with
  | tup hf r =>
    cases r with
    | cons h1 r =>
      cases r with
      | cons h2 r =>
        cases r
        cases h1
        cases h2
        exact ⟨_, rfl, hf.sq⟩
/-- what stands in pairs -/
theorem keys_ex {X : Cx} {pins : List (Addr × Obj)} {s : Shared} {σ : L2.St} {H : Hp} (I : Inv X pins σ H s) : ∃ k : V → Int × Int, ∀ (t : Addr) (p : Int × Int), SqT X.K H t [.int p.1, .int p.2] → k (.ref t) = p := by
  have h : ∀ v : V, ∃ p : Int × Int, ∀ (t : Addr) (q : Int × Int), v = .ref t → SqT X.K H t [.int q.1, .int q.2] → p = q := fun v => by
    by_cases hx : ∃ (t : Addr) (p : Int × Int), v = .ref t ∧ SqT X.K H t [.int p.1, .int p.2]
    · obtain ⟨t, p, rfl, hp⟩ := hx
      refine ⟨p, fun t' q e hq => ?_⟩
      cases e
      have := I.tuple_inj hp hq
      cases p
      cases q
      cases this
      rfl
    · exact ⟨(0, 0), fun t q e hq => absurd ⟨t, q, e, hq⟩ hx⟩
  obtain ⟨k, hk⟩ := Classical.skolem.mp h
  exact ⟨k, fun t p hp => hk (.ref t) t p rfl hp⟩
theorem repAll_pairs {K : PySem.W.Frag} {H : Hp} {M : Addr → Prop} {k : V → Int × Int} : ∀ {ys : List V}, (∀ y ∈ ys, Rep K H M y (pairD (k y))) → RepAll K H M ys ((ys.map k).map pairD)
  | [], _ => .nil
  | y :: ys, h => .cons (h y List.mem_cons_self) (repAll_pairs fun z hz => h z (List.mem_cons_of_mem _ hz))
theorem repAll_keys {K : PySem.W.Frag} {H : Hp} {M : Addr → Prop} {k : V → Int × Int} (hk : ∀ (t : Addr) (p : Int × Int), SqT K H t [.int p.1, .int p.2] → k (.ref t) = p) : ∀ {vs : List V} {ps : List (Int × Int)}, RepAll K H M vs (ps.map pairD) → vs.map k = ps ∧ (∀ v ∈ vs, Rep K H M v (pairD (k v)))
  | [], [], _ => ⟨rfl, fun _ h => nomatch h⟩
  | [], _ :: _, h => nomatch h
  | _ :: _, [], h => nomatch h
  | v :: vs, p :: ps, h => by
    cases h with
    | cons h r =>
      obtain ⟨e1, e2⟩ := repAll_keys hk r
      obtain ⟨t, rfl, ht⟩ := rep_pair h
      have e := hk t p ht
      refine ⟨by rw [List.map_cons, e, e1], fun v hv => ?_⟩
      rcases List.mem_cons.mp hv with rfl | hv
      · rw [e]
        exact h
      · exact e2 v hv
section
variable {X : Cx} {Y : GY} {W : WX}
theorem repAll_ints {K : PySem.W.Frag} {H : Hp} {M : Addr → Prop} : ∀ ns : List Int, RepAll K H M (ns.map V.int) (ns.map PyData.int)
  | [] => .nil
  | n :: ns => .cons (.int n) (repAll_ints ns)
theorem repAll_strs {K : PySem.W.Frag} {H : Hp} {M : Addr → Prop} : ∀ ns : List Str, RepAll K H M (ns.map V.str) (ns.map PyData.str)
  | [] => .nil
  | n :: ns => .cons (.str n) (repAll_strs ns)
theorem fd_sorted : FnD X Y (.builtin "sorted") aSorted := by
  intro pins s σ H vs us Q I rv h
  obtain ⟨S, ds, p, rfl, ok, hl, ho, q⟩ := h
  unfold aSorted at ho
  split at ho
  · rename_i ds
    obtain ⟨v, rfl, h1⟩ := hl.one
    obtain ⟨a, xs, rfl, ha, ra⟩ := h1.list
    split at ho
    · rename_i ns hn
      cases ho
      refine cr_sortedI pins s σ S.H _ us Q I rv ⟨a, ns, rfl, by rw [← ints_rep (G := gx X Y) ra hn]; exact SqL.of ha, fun ns' pp h1 h2 hp => ?_⟩
      rw [srtI_uniq h1 h2]
      exact end_lst ok q (repAll_ints _) hp
    · split at ho
      · rename_i ss hs
        split at ho
        · rename_i h64
          cases ho
          refine cr_sortedS pins s σ S.H _ us Q I rv ⟨a, ss, rfl, by rw [← strs_rep (G := gx X Y) ra hs]; exact SqL.of ha, h64, fun ns' pp h1 h2 hp => ?_⟩
          rw [srtS_uniq h1 h2]
          exact end_lst ok q (repAll_strs _) hp
        · cases ho
      · split at ho
        · rename_i ps hp
          cases ho
          rw [pairsD_map hp] at ra
          obtain ⟨k, hk⟩ := keys_ex I
          obtain ⟨e1, e2⟩ := repAll_keys hk ra
          refine cr_sortedPQ pins s σ S.H _ us Q I rv ⟨a, xs, k, rfl, SqL.of ha, fun x hx => ?_, fun ys pp h1 h2 hpp => ?_⟩
          · exact rep_pair (e2 x hx)
          · have hy : ∀ y ∈ ys, Rep X.K S.H S.M y (pairD (k y)) := fun y hy => e2 y (h2.perm.mem_iff.mp hy)
            have e3 : ys.map k = isort leP ps := by
              refine srt_uniq (le := leP) leP_asm ?_ ?_ (isort_srt leP_tot leP_tr ps)
              · rw [← e1]
                exact (h2.perm.map _).trans (isort_perm _).symm
              · refine List.pairwise_map.mpr (List.Pairwise.imp (fun {x y} h => ?_) h1)
                have := SrtO.lexB_no.mp h
                rw [leP_iff]
                omega
            rw [← e3] at q
            exact end_lst ok q (repAll_pairs hy) hpp
        · cases ho
  · cases ho
end
end SM
namespace SM
open PySem PySem.Spec PyProof.Rows L2

/-! ## x += e, ints and texts -/
def aAddD : D → D → Option PV
  | .int i, .int j => some (.dat (.int (i + j)))
  | .str x, .str y => if x.length + y.length ≤ LIM then some (.dat (.str (x ++ y))) else none
  | _, _ => none
def aSubD : D → D → Option PV
  | .int i, .int j => some (.dat (.int (i - j)))
  | _, _ => none
@[simp] theorem aAddD_int (i j : Int) : aAddD (.int i) (.int j) = some (.dat (.int (i + j))) := rfl
@[simp] theorem aSubD_int (i j : Int) : aSubD (.int i) (.int j) = some (.dat (.int (i - j))) := rfl
@[simp] theorem aAddD_str (x y : Str) : aAddD (.str x) (.str y) = if x.length + y.length ≤ 16777216 then some (.dat (.str (x ++ y))) else none := (rfl)
section
variable {X : Cx} {Y : GY} {W : WX}
theorem ip_addD : OpD X Y (inplaceOp .Add) aAddD := by
  intro pins s σ H v w vv ww Q I rv rw' h
  obtain ⟨S, d, d', p, rfl, ok, h1, h2, ho, q⟩ := h
  unfold aAddD at ho
  split at ho
  · cases ho
    exact iop_add pins s σ S.H v w vv ww Q I rv rw' ⟨_, _, h1.int, h2.int, end_dat ok q (.int _)⟩
  · split at ho
    · rename_i hl
      cases ho
      exact iop_add_str pins s σ S.H v w vv ww Q I rv rw' ⟨_, _, h1.str, h2.str, by rw [line_eq]; exact hl, end_dat ok q (.str _)⟩
    · cases ho
  · cases ho
theorem ip_subD : OpD X Y (inplaceOp .Sub) aSubD := by
  intro pins s σ H v w vv ww Q I rv rw' h
  obtain ⟨S, d, d', p, rfl, ok, h1, h2, ho, q⟩ := h
  unfold aSubD at ho
  split at ho
  · cases ho
    exact iop_sub pins s σ S.H v w vv ww Q I rv rw' ⟨_, _, h1.int, h2.int, end_dat ok q (.int _)⟩
  · cases ho
theorem ds_aug {i : Nat} {x : Str} {y : Expr} {o : Opd} {op : Operator} {f : D → D → Option PV} {p2 pos : Pos} (nd : X.N.Nodup) (ho : OpD X Y (inplaceOp op) f) (h : DenO X Y W y o) (hi : i ∉ Y.fix := by first | decide | (dsimp only; decide)) (hN : X.N[i]? = some x := by rfl) (hx : Loc X.env.scope x := by first | exact Or.inl rfl | exact Or.inr rfl)
    (hf : X.fn x = true ∨ X.env.scope.names.lookup x = some .local := by first | exact .inl rfl | exact .inr rfl | assumption) : DenS X Y W (.AugAssign (.Name x p2) op y pos) (sSet i (sOp2 f (.nm i) o)) := by
  refine PS.weak (ps_aug (ti := fun v w H Q => rD2 (gx X Y) f v w H Q) nd hN hx h ho hf) fun D s H ⟨M, e, ok, p⟩ => ?_
  have p0 := PostS.bindE (R1 := Res (gx X Y)) p
  have p1 := Post.bind (R1 := ROp (gx X Y)) shift_res p0
  have hs : ∃ pv, e[i]? = some (some pv) := by
    cases q : e[i]? with
    | none =>
      rw [show opd (.nm i) e = .bad by rw [opd_nm_eq, q]; rfl] at p1
      exact p1.elim
    | some z =>
      cases z with
      | none =>
        rw [show opd (.nm i) e = .bad by rw [opd_nm_eq, q]; rfl] at p1
        exact p1.elim
      | some pv => exact ⟨pv, rfl⟩
  obtain ⟨pv, q⟩ := hs
  obtain ⟨v, hv, _⟩ := ok.slot i pv q
  rw [show opd (.nm i) e = .ok (.slot i) e by rw [opd_nm_eq, q]; rfl] at p1
  obtain ⟨po, e1, M1, ok1, f1, r1, p2⟩ := p1 v H M ok (Fr.refl _ _) hv
  refine ⟨v, hv, M1, e1, ok1, Post.mono (Post.bind (R1 := ROp (gx X Y)) shift_res p2) fun w H2 ⟨po2, e2, M2, ok2, f2, r2, p3⟩ => ?_⟩
  have k1 := PkP.fr ok1 f2 rfl r1.pkP
  have k2 := r2.pkP
  obtain ⟨d, d', pv2, q1, q2, q3, p4⟩ := fin2_cases (k := fun p e => .ok p e) (Post.eq_bind p3)
  exact ⟨⟨H2, M2, s, e2⟩, d, d', pv2, rfl, ok2, PkP.pk ok2 k1 q1, PkP.pk ok2 k2 q2, q3, Post.mono (post_any p4) fun z H3 ⟨a, e3, M3, ok3, f3, r3, p5⟩ => by
    have hc : a ≠ .clo := fun z => by
      subst z
      exact p5
    have p5' : PostS (gx X Y) W ⟨H, M, s, e⟩ (.ok .nx (e3.set i (some a))) D := by
      cases a <;> first | exact p5 | exact absurd rfl hc
    obtain ⟨ok6, f6⟩ := ok3.setS f3 (i := i) hi r3 hc
    exact p5' _ _ _ ok6 f6⟩
end
end SM
namespace SM
open PySem PySem.Spec PyProof.Rows L2

/-! ## text.index(sign) that is there -/
def aSIndex : D → List D → Option PV
  | .str x, [.str y] => (Txt.index0 x y).map fun k => .dat (.int (k : Nat))
  | _, _ => none
section
variable {X : Cx} {Y : GY} {W : WX}
theorem md_index : MtD X Y "str.index" aSIndex := by
  intro pins s σ H v vs vv us Q I rv rs h
  obtain ⟨S, d, ds, p, rfl, ok, h1, hl, ho, q⟩ := h
  unfold aSIndex at ho
  split at ho
  · rename_i a b
    obtain ⟨k, hk, rfl⟩ := Option.map_eq_some_iff.mp ho
    obtain ⟨w, rfl, h2⟩ := hl.one
    have e1 := h1.str
    have e2 := h2.str
    subst e1 e2
    obtain ⟨t, rfl⟩ := rv
    cases rs with
    | cons r1 rs =>
      cases rs
      obtain ⟨u, rfl⟩ := r1
      cases z : Builtin.Str.occurrences a b 0 a.length 1 with
      | nil =>
        unfold Txt.index0 at hk
        rw [z] at hk
        cases hk
      | cons j rest =>
        unfold Txt.index0 at hk
        rw [z] at hk
        cases hk
        exact PySem.SC.index z ⟨.int (k : Nat), S.H, I.tok _, ⟨_, rfl⟩, end_dat ok q (.int _)⟩
  · cases ho
end
@[simp] theorem aSIndex_str (x y : Str) : aSIndex (.str x) [.str y] = (Txt.index0 x y).map fun k => .dat (.int (k : Nat)) := rfl
/-! ## list.index(x) that is there -/
def isLst : D → Bool
  | .list _ => true
  | _ => false
/-- a method of a list that is looked at -/
def sMl (op : D → List D → Option PV) (a : Opd) (os : List Opd) : SE := fun e => (opd a e).bind fun pa e1 => if (pk e1 pa).any isLst then (opds os e1).bind fun ps e2 => finM op e2 (pk e2 pa) (pks e2 ps) else .bad
def aLIndex : D → List D → Option PV
  | .list ds, [d] => if SeqAt.shaped (.list ds) && SeqAt.shaped d then (ds.findIdx? fun z => PyData.eqv z d).map fun j => .dat (.int (j : Nat)) else none
  | _, _ => none
section
variable {X : Cx} {Y : GY} {W : WX}
theorem md_lindex (hu : X.A.units + 65 < cLine) : MtD X Y "list.index" aLIndex := by
  intro pins s σ H v vs vv us Q I rv rs h
  obtain ⟨S, d, ds, p, rfl, ok, h1, hl, ho, q⟩ := h
  unfold aLIndex at ho
  split at ho
  · rename_i es d
    split at ho
    · rename_i hs
      obtain ⟨j, hj, rfl⟩ := Option.map_eq_some_iff.mp ho
      rw [Bool.and_eq_true] at hs
      obtain ⟨w, rfl, h2⟩ := hl.one
      obtain ⟨a, xs, rfl, ha, ra⟩ := h1.list
      obtain ⟨hlt, hp, hn⟩ := List.findIdx?_eq_some_iff_getElem.mp hj
      refine mt_indexD hu pins s σ S.H _ _ vv us Q I rv rs ⟨a, w, d, es, j, es[j], rfl, rfl, h1.dp, h2.dp, hs.1, hs.2, List.getElem?_eq_getElem hlt, hp, fun m z hm hz => ?_, end_dat ok q (.int _)⟩
      have hm2 : m < es.length := by omega
      rw [List.getElem?_eq_getElem hm2] at hz
      cases hz
      have := hn m hm
      simpa using this
    · cases ho
  · cases ho
theorem de_ml {o a : Expr} {as : List Expr} {oo : Opd} {os : List Opd} {op : D → List D → Option PV} {name : Str} {id : String} {apos cpos : Pos} (slot : Slot "list" name id) (hty : typeOf (.builtin id) = pure (.type "method_descriptor")) (hm : MtD X Y id op) (ho : DenO X Y W o oo) (ha : DenA X Y W (a :: as) os)
    (hbase : attributeBase o name X.env (eval o X.env) = eval o X.env := by rfl)
    (hfew : ((backTo cpos (starEach (a :: as) X.env)).all (fun x => !x.1) && (backToKw cpos (keywordEach [] X.env)).all (fun x => x.1.isSome)
      && decide ((a :: as).length + ([] : List Keyword).length + (if ([] : List Keyword).isEmpty then 0 else 1) < 30)) = true := by rfl)
    (hline : (apos.endLine == cpos.line) = true := by rfl) (hs : starEach (a :: as) X.env = (false, eval a X.env) :: starEach as X.env := by rfl) (hplain : (backTo cpos (starEach as X.env)).any (·.1) = false := by rfl) :
    DenE X Y W (.Call (.Attribute o name apos) (a :: as) [] cpos) (sMl op oo os) := by
  refine PE.weak (pe_bm PySem.F.plainAttrs_list slot hty hm ho ha hbase hfew hline hs hplain) fun s H Q ⟨M, e, ok, p⟩ => ?_
  refine ⟨M, e, ok, Post.mono (Post.bind (R1 := ROp (gx X Y)) shift_res p) fun v H1 ⟨po, e1, M1, ok1, f1, r1, p1⟩ => ?_⟩
  split at p1
  · rename_i hstr
    obtain ⟨d, hd, hsd⟩ := Option.any_eq_true_iff_get _ _ |>.mp hstr |> fun ⟨h1, h2⟩ => (⟨_, (Option.some_get h1).symm, h2⟩ : ∃ d, pk e1 po = some d ∧ isLst d = true)
    have kd := PkP.pk ok1 r1.pkP hd
    refine ⟨?_, ?_⟩
    · cases d with
      | list x =>
        obtain ⟨a, xs, rfl, hx, _⟩ := kd.list
        exact .inl ⟨rfl, _, SqL.of hx⟩
      | _ => cases hsd
    refine ⟨M1, e1, ok1, Post.mono (Post.bind (R1 := RAs (gx X Y)) shift_res p1) fun vs H2 ⟨ps, e2, M2, ok2, f2, r2, p2⟩ => ?_⟩
    have k := PkP.fr ok1 f2 rfl r1.pkP
    have p2' : Post (gx X Y) W (Res (gx X Y)) ⟨H2, M2, s, e2⟩ (finM op e2 (pk e2 po) (pks e2 ps)) Q := p2
    unfold finM at p2'
    cases q : pk e2 po with
    | none =>
      rw [q] at p2'
      exact p2'.elim
    | some d' =>
      cases q2 : pks e2 ps with
      | none =>
        rw [q, q2] at p2'
        exact p2'.elim
      | some ds =>
        rw [q, q2] at p2'
        dsimp only at p2'
        cases q3 : op d' ds with
        | none =>
          rw [q3] at p2'
          exact p2'.elim
        | some pv =>
          rw [q3] at p2'
          exact ⟨⟨H2, M2, s, e2⟩, d', ds, pv, rfl, ok2, PkP.pk ok2 k q, pks_rep (S := ⟨H2, M2, s, e2⟩) ok2 r2 q2, q3, post_any p2'⟩
  · exact p1.elim
end
end SM
namespace SM
open PySem PySem.Spec PyProof.Rows L2 HotX
/-! ## walking while an exception is handled -/
section
variable {prog : Program} {w : World} {A : Around} {E : Value → Shared → Prop} {s : Shared}
theorem hot_set {x1 it : Addr} {h : Heap} {f : Obj → Obj} (hot : HotAt A x1 h) (hne : x1 ≠ it) : HotAt A x1 (h.update it f) := by
  obtain ⟨hh, o, vs, h1, d, c⟩ := hot
  exact ⟨hh, o, vs, (Heap.get?_update_other _ _ (Ne.symm hne)).trans h1, d, c⟩
theorem hot_push {x1 : Addr} {h : Heap} {o' : Obj} (hot : HotAt A x1 h) : HotAt A x1 (h.push o') := by
  obtain ⟨hh, o, vs, h1, d, c⟩ := hot
  exact ⟨hh, o, vs, Heap.get?_push_of_some _ h1, d, c⟩
theorem hot_lt {x1 : Addr} {h : Heap} (hot : HotAt A x1 h) : x1 < h.objs.size := by
  obtain ⟨_, o, vs, h1, _, _⟩ := hot
  exact Heap.lt_size h1
theorem list_end_hot {it l x1 : Addr} {i : Nat} {items : Array Value} {Q : Option Value → Shared → Prop} (hot : HotAt A x1 s.heap) (hne : x1 ≠ it) (hit : s.heap.IsListIter it l i) (hl : s.heap.IsList l items) (hx : items[i]? = none)
    (hQ : ∀ h', Heap.ExtBut it s.heap h' → Q none { s with heap := h' }) : wpAny (model prog w) A (pyNext (.ref it)) Q E s := by
  obtain ⟨oi, hoi, _, hdi⟩ := id hit
  obtain ⟨ol, hol, _, nl, hdl⟩ := hl
  unfold pyNext
  refine wpAny_bind (wpAny_attempt (wpAny_callSpecial?_slot (name := Str.ofString "__next__") hit.typeIs slot_listiter_next (wpAny_call_entry slot_listiter_next hit.typeIs entry_listiter_next ?body (args_listiter_next _))))
  show wpAny _ _ (field (.ref it) 0 >>= _) _ _ s
  refine wpAny_bind (wpAny_field hoi hdi (x := .ref l) rfl ?_)
  show wpAny _ _ (if (Value.ref l == Value.none) = true then _ else _) _ _ s
  rw [if_neg (by intro z; exact Bool.false_ne_true z)]
  show wpAny _ _ (field (.ref it) 1 >>= _) _ _ s
  refine wpAny_bind (wpAny_field hoi hdi (x := .int i 0) rfl ?_)
  show wpAny _ _ (seqItems? (.ref l) >>= _) _ _ s
  refine wpAny_bind (wpAny_seqItems hol hdl ?_)
  simp only [Int.toNat_natCast, hx]
  refine wpAny_bind (wpAny_rule (wpAny_bind (wpAny_setField hoi hdi (by simp) ?_)))
  have h2 := hot_set (f := Obj.mapFields (·.setIfInBounds 0 Value.none)) hot hne
  show wpAny _ _ (newExc (.type "StopIteration") [] >>= _) _ _ _
  refine wpAny_bind ?_
  simp only [newExc, newTuple]
  refine wpAny_bind (wpAny_newObj_type ?_ (by size_fits))
  refine wpAny_bind (m := firstArgMember _ _) (wpAny_of_eq (a := Value.none) (by first | rfl | (simp only [firstArgMember]; rfl)) ?_)
  refine wpAny_newObj_type ?_ (by size_fits)
  have h3 : HotAt A.in1 x1 (s.heap.update it (Obj.mapFields (·.setIfInBounds 0 Value.none))) := h2
  refine raiseNew_hot (hot_push (hot_push h3)) (Nat.ne_of_lt (hot_lt (hot_push h3))) (Heap.get?_push_size _ rfl) rfl (by first | (simp; done) | (simp; omega) | (simp only [Array.size_append]; simp; omega)) ?_
  refine wpAny_bind (wpAny_isInstance (T := "StopIteration") (b := true) ⟨_, Heap.get?_update_self _ (Heap.get?_push_size _ rfl) rfl, rfl⟩ isSubtype_stop ?_)
  refine wpAny_pure (hQ _ fun b o hb e => ?_)
  refine (Heap.get?_update_other _ _ (Nat.ne_of_gt (Heap.lt_size (o := o) ?_))).trans ?_
  · exact ((Heap.SameBut.update ..).extBut.push _) b o hb e
  · exact (((Heap.SameBut.update ..).extBut.push _).push _) b o hb e
theorem tup_end_hot {it t x1 : Addr} {i : Nat} {items : Array Value} {Q : Option Value → Shared → Prop} (hot : HotAt A x1 s.heap) (hne : x1 ≠ it) (hit : IsTupIter s.heap it t i) (ht : IsTup s.heap t items) (hx : items[i]? = none)
    (hQ : ∀ h', Heap.ExtBut it s.heap h' → Q none { s with heap := h' }) : wpAny (model prog w) A (pyNext (.ref it)) Q E s := by
  obtain ⟨oi, hoi, _, hdi⟩ := id hit
  obtain ⟨ol, hol, _, nl, hdl⟩ := ht
  unfold pyNext
  refine wpAny_bind (wpAny_attempt (wpAny_callSpecial?_slot (name := Str.ofString "__next__") hit.typeIs slot_tupleiter_next (wpAny_call_entry slot_tupleiter_next hit.typeIs entry_tupleiter_next ?body (args_tupleiter_next _))))
  show wpAny _ _ (field (.ref it) 0 >>= _) _ _ s
  refine wpAny_bind (wpAny_field hoi hdi (x := .ref t) rfl ?_)
  show wpAny _ _ (if (Value.ref t == Value.none) = true then _ else _) _ _ s
  rw [if_neg (by intro z; exact Bool.false_ne_true z)]
  show wpAny _ _ (field (.ref it) 1 >>= _) _ _ s
  refine wpAny_bind (wpAny_field hoi hdi (x := .int i 0) rfl ?_)
  show wpAny _ _ (seqItems? (.ref t) >>= _) _ _ s
  refine wpAny_bind (wpAny_seqItems hol hdl ?_)
  simp only [Int.toNat_natCast, hx]
  refine wpAny_bind (wpAny_rule (wpAny_bind (wpAny_setField hoi hdi (by simp) ?_)))
  have h3 : HotAt A.in1 x1 (s.heap.update it (Obj.mapFields (·.setIfInBounds 0 Value.none))) := hot_set hot hne
  show wpAny _ _ (newExc (.type "StopIteration") [] >>= _) _ _ _
  refine wpAny_bind ?_
  simp only [newExc, newTuple]
  refine wpAny_bind (wpAny_newObj_type ?_ (by size_fits))
  refine wpAny_bind (m := firstArgMember _ _) (wpAny_of_eq (a := Value.none) (by first | rfl | (simp only [firstArgMember]; rfl)) ?_)
  refine wpAny_newObj_type ?_ (by size_fits)
  refine raiseNew_hot (hot_push (hot_push h3)) (Nat.ne_of_lt (hot_lt (hot_push h3))) (Heap.get?_push_size _ rfl) rfl (by first | (simp; done) | (simp; omega) | (simp only [Array.size_append]; simp; omega)) ?_
  refine wpAny_bind (wpAny_isInstance (T := "StopIteration") (b := true) ⟨_, Heap.get?_update_self _ (Heap.get?_push_size _ rfl) rfl, rfl⟩ isSubtype_stop ?_)
  refine wpAny_pure (hQ _ fun b o hb e => ?_)
  refine (Heap.get?_update_other _ _ (Nat.ne_of_gt (Heap.lt_size (o := o) ?_))).trans ?_
  · exact ((Heap.SameBut.update ..).extBut.push _) b o hb e
  · exact (((Heap.SameBut.update ..).extBut.push _).push _) b o hb e
theorem unpackItems_hot {t x1 : Addr} {items : Array Value} {Q : List Value → Shared → Prop} (hot : HotAt A x1 s.heap) (ht : IsTup s.heap t items)
    (hQ : ∀ h', Heap.ExtBut s.heap.objs.size s.heap h' → Q items.toList { s with heap := h' }) : wpAny (model prog w) A (unpackItems (.ref t) items.size none) Q E s := by
  have hlt : t ≠ s.heap.objs.size := by
    obtain ⟨o, ho, _⟩ := ht
    exact Nat.ne_of_lt (Heap.lt_size ho)
  have hxt := hot_lt hot
  unfold unpackItems notIterableAtAll
  refine wpAny_bind (wpAny_bind (wpAny_specialOf ht.typeIs slot_tuple_iter.lookup (wpAny_pure ?_)))
  simp only [Bool.false_eq_true, if_false]
  refine wpAny_bind (wpAny_holding (iter_tuple ht ?_))
  refine wpAny_bind (wpAny_holding (draw_tuple hlt items.size 0 _ _ ⟨_, Heap.get?_push_size _ rfl, rfl, rfl⟩ (ht.push _) (by omega) fun h1 hit1 hs1 => ?_))
  rw [show List.take items.size (List.drop 0 items.toList) = items.toList from List.take_of_length_le (by simp), if_neg (by simp)]
  have ht1 : IsTup h1 t items := (ht.push _).extBut hs1.extBut hlt
  have hot1 : HotAt A x1 h1 := by
    obtain ⟨hh, o, vs, g1, d, c⟩ := hot
    exact ⟨hh, o, vs, hs1.extBut x1 o (Nat.ne_of_lt hxt) (Heap.get?_push_of_some _ g1), d, c⟩
  refine wpAny_bind (wpAny_holding (tup_end_hot (s := { s with heap := h1 }) hot1 (Nat.ne_of_lt hxt) hit1 ht1 (by simp) fun h2 he2 => ?_))
  simp only [Option.isSome_none, Bool.false_eq_true, if_false]
  exact wpAny_pure (hQ h2 fun b o hb e => he2 b o hb (hs1.extBut b o hb (Heap.get?_push_of_some _ e)))
theorem assign_tup_hot {env : Env} {elts : List Expr} {k : Nat} {pos : Pos} {t x1 : Addr} {items : Array Value} {Q : Unit → Shared → Prop} (hot : HotAt A x1 s.heap) (ht : IsTup s.heap t items) (hn : (assignEach elts env).length = items.size) (hstar : (assignEach elts env).findIdx? (·.1) = none)
    (h : ∀ h', Heap.ExtBut s.heap.objs.size s.heap h' → wpAny (model prog w) A (assignInOrder ((assignEach elts env).map (·.2)) items.toList) Q E { s with heap := h' }) : wpAny (model prog w) A (assign (.Tuple elts k pos) env (.ref t)) Q E s := by
  rw [assign_Tuple]
  refine wpAny_bind (wpAny_standAt ?_)
  unfold unpack
  rw [hn, hstar]
  exact wpAny_bind (wpAny_holding (unpackItems_hot hot ht h))
end
/-! ### contexts in which an exception is handled -/
def HotW (X : Cx) : Prop := ∀ (pins : List (Addr × Obj)) (σ : L2.St) (H : Hp) (s : Shared), Inv X pins σ H s → ∃ x1, HotAt X.A x1 s.heap ∧ ∀ b, FpOk X pins H b → x1 ≠ b
theorem hotW_blk {X : Cx} {pins : List (Addr × Obj)} {σ : L2.St} {H : Hp} {s : Shared} {scope : Scope} {ce : Env} {fp : List Addr} (c : L2H.HotC X) (I : Inv X pins σ H s) (hfp : ∀ b ∈ fp, FpOk X pins H b) : HotW (X.blk s H scope ce fp) := by
  obtain ⟨p, ⟨hh, vs, d, c2⟩, hp⟩ := c
  obtain ⟨g1, g2, g3, g4, g5⟩ := I.pin p (List.mem_append_left _ hp)
  have nfp : p.1 ∉ fp := fun z => (hfp _ z).2.2.2.2.2 p (List.mem_append_left _ hp) rfl
  have nst : p.1 ∉ frs X.stack := fun z => (List.mem_cons.mp (I.stkSub _ z)).elim g3 g4
  intro pins' σ' H' s' I'
  have k := I'.base.keep p.1 p.2 g1 g2 nst nfp
  refine ⟨p.1, ⟨hh, p.2, vs, k, d, c2⟩, fun b hb e => ?_⟩
  obtain ⟨_, _, _, h4, _⟩ := hb
  rcases h4 with z | z
  · exact nfp (by rw [e]; exact z)
  · exact absurd (Heap.lt_size g1) (by rw [e]; exact Nat.not_lt.mpr z)
structure TurnW (P : Program) (w : World) (K : PySem.W.Frag) (tg : Expr) (J : It) (fp : List Addr) (it : Addr) (tn : Nat → Heap → Prop) : Prop where
  mem : it ∈ fp
  obj : ∀ i h, tn i h → ∀ b ∈ fp, ∃ o, h.get? b = some o ∧ ∀ v, o.data ≠ .cell v
  keep : ∀ i h h', tn i h → (∀ b ∈ fp, ∀ o, h.get? b = some o → h'.get? b = some o) → tn i h'
  item : ∀ (X : Cx), X.prog = P → X.w = w → X.K = K → HotW X → ∀ (i : Nat) (pins : List (Addr × Obj)) (s : Shared) (σ : L2.St) (H : Hp) (E : Value → Shared → Prop), Inv X pins σ H s → (∀ b ∈ fp, FpOk X pins H b) → tn i s.heap → J.go i H →
    wpAny (model P w) X.A (pyNext (.ref it)) (fun r s1 => ∃ u, r = some u ∧ wpAny (model P w) X.A (letOwnedTupleGo tg (.ref it) u) (fun _ s2 => ∃ x H', Inv X pins σ H' s2 ∧ RelV x u ∧ J.yld i H x H' ∧ tn (i + 1) s2.heap ∧ ∀ b ∈ fp, H' b = none) E s1) E s
  done : ∀ (X : Cx), X.prog = P → X.w = w → X.K = K → HotW X → ∀ (i : Nat) (pins : List (Addr × Obj)) (s : Shared) (σ : L2.St) (H : Hp) (E : Value → Shared → Prop), Inv X pins σ H s → (∀ b ∈ fp, FpOk X pins H b) → tn i s.heap → J.stop i H →
    wpAny (model P w) X.A (pyNext (.ref it)) (fun r s1 => r = none ∧ Inv X pins σ H s1) E s
  self : ∀ (A : Around) (i : Nat) (s : Shared) (Q : Value → Shared → Prop) (E : Value → Shared → Prop), tn i s.heap → Q (.ref it) s → wpAny (model P w) A (pyIter (.ref it)) Q E s
theorem turn_listW {P : Program} {w : World} {K : PySem.W.Frag} {tg : Expr} (a it : Addr) : TurnW P w K tg (Itl K a) [it] it (fun i h => h.IsListIter it a i) := by
  have T := turn_list (P := P) (w := w) (K := K) (tg := tg) a it
  refine ⟨T.mem, T.obj, T.keep, ?_, ?_, T.self⟩
  · rintro X rfl rfl rfl hw i pins s σ H E I hf st ⟨xs, x, hq, hx⟩
    obtain ⟨its, rv, p, hz⟩ := I.list hq
    obtain ⟨u, hu, ru⟩ := rv.get hx
    obtain ⟨f0, f1, f2, f3, f4, f5⟩ := hf it T.mem
    refine wpAny_pyNext_list_item st p.isList (x := u) (by simpa using hu) fun h' st' sb => ⟨u, rfl, ?_⟩
    have I1 : Inv X pins σ H { s with heap := h' } := I.turned (t' := s.toks) (fun b o hb e => (sb.2 b hb).trans e) f0 f1 f3 f4 f5
    obtain ⟨o, e, c, d⟩ := id st'
    refine go_of (s := { s with heap := h' }) e c d (by decide) ⟨x, H, I1, ru, ⟨rfl, fun ys hy => ?_⟩, st', fun b hb => (hf b hb).1⟩
    rw [I.list_inj hy hq]
    exact hx
  · rintro X rfl rfl rfl hw i pins s σ H E I hf st ⟨xs, hq, hx⟩
    obtain ⟨its, rv, p, hz⟩ := I.list hq
    have ff := hf it T.mem
    obtain ⟨x1, hot, hne⟩ := hw _ _ _ _ I
    have hl := rv.length
    obtain ⟨f0, f1, f2, f3, f4, f5⟩ := ff
    exact list_end_hot hot (hne it (hf it T.mem)) st p.isList (by simp; omega) fun h' eb => ⟨rfl, I.turned (t' := s.toks) (fun b o hb e => eb b o hb e) f0 f1 f3 f4 f5⟩
def PIEW (X : Cx) (pins : List (Addr × Obj)) (σ : L2.St) (tg : Expr) (R : It → Hp → Prop) (itv : Value) (s2 : Shared) : Prop :=
  ∃ (it : Addr) (fp : List Addr) (tn : Nat → Heap → Prop) (J : It) (H' : Hp), itv = .ref it ∧ Inv X pins σ H' s2 ∧ TurnW X.prog X.w X.K tg J fp it tn ∧ tn 0 s2.heap ∧ (∀ b ∈ fp, FpOk X pins H' b) ∧ R J H'
structure PIW (X : Cx) (tg iter : Expr) (wi : TI) : Prop where
  run : ∀ (pins : List (Addr × Obj)) (s : Shared) (σ : L2.St) (H : Hp) (R : It → Hp → Prop), Inv X pins σ H s → wi σ H R → wpAny (model X.prog X.w) X.A (eval iter X.env) (fun v s1 => wpAny (model X.prog X.w) X.A (pyIter v) (PIEW X pins σ tg R) X.xe s1) X.xe s
theorem pi_listW {X : Cx} {tg l : Expr} {tl : TE} (hl : PE X l tl) : PIW X tg l (iList X.K tl) := ⟨fun pins s σ H R I h => thn (hl.run pins s σ H _ I h) fun v s1 ⟨x, H1, I1, r1, a, e, ⟨xs, hq⟩, q⟩ => by
  subst e
  cases r1
  obtain ⟨its, rv, p, hz⟩ := I1.list hq
  refine wpAny_pyIter_list p.isList ⟨s1.heap.objs.size, [s1.heap.objs.size], _, _, H1, rfl, ?_, turn_listW a _, ⟨_, Heap.get?_push_size _ rfl, rfl, rfl⟩, fun b hb => ?_, q⟩
  · exact I1.kept (t' := s1.toks) fun b o e => Heap.get?_push_of_some _ e
  · cases List.mem_singleton.mp hb
    exact I1.fpOk (Nat.le_refl _) (I1.hok.fresh (Nat.le_refl _))⟩
theorem pg_tupW {X : Cx} {es : List Expr} {k n : Nat} {t : TGs} {pos : Pos} (hw : HotW X) (h : PGs X es t) (hn : (assignEach es X.env).length = n := by rfl) (hst : (assignEach es X.env).findIdx? (·.1) = none := by rfl) : PG X (.Tuple es k pos) (gTup X.K n t) := ⟨fun pins s σ H v u Q I r ⟨a, xs, e1, hq, hl, hq2⟩ => by
  subst e1
  cases r
  obtain ⟨its, rv, ht, hz⟩ := I.tuple hq
  obtain ⟨x1, hot, _⟩ := hw _ _ _ _ I
  refine assign_tup_hot hot ht (by simp [hn, ← hl, rv.length]) hst fun h' hx => h.run pins _ σ H xs _ Q (I.kept (t' := s.toks) fun b o e => hx b o (Nat.ne_of_lt (Heap.lt_size e)) e) (by simpa using rv) hq2⟩
section
variable {X : Cx}
theorem lc_hot {pins : List (Addr × Obj)} {s : Shared} {σ : L2.St} {H : Hp} {Q : VK} {elt tg iter : Expr} {ifs : List Expr} {scope : Scope} {own : List (Str × Nat)} {pos pos' : Pos} {wi : TI} {g : TG} {tt : TT} {te : TE}
    (hot : L2H.HotC X) (hN : X.N.Nodup) (I : Inv X pins σ H s) (hi : PIW X tg iter wi) (ok : BlkOk X.N X.env.scope scope own)
    (hg : ∀ (s : Shared) (H : Hp) (C : Addr) (cl : List (Str × Addr)) (fp : List Addr), HotW (X.blk s H scope (compEnvC scope cl C X.env) fp) → PG (X.blk s H scope (compEnvC scope cl C X.env) fp) tg g)
    (ht : ∀ (s : Shared) (H : Hp) (C : Addr) (cl : List (Str × Addr)) (fp : List Addr), PTs (X.blk s H scope (compEnvC scope cl C X.env) fp) ifs tt)
    (he : ∀ (s : Shared) (H : Hp) (C : Addr) (cl : List (Str × Addr)) (fp : List Addr), PE (X.blk s H scope (compEnvC scope cl C X.env) fp) elt te) (hs : ∀ x, foldedSetIterable iter X.env x = pure x)
    (h : tLc wi g tt te (own.map (·.2)) σ H Q) :
    wpAny (model X.prog X.w) X.A (comprehension (.ListComp elt [⟨tg, iter, ifs, 0⟩] scope pos) scope X.env pos' (newList []) false (eval iter X.env) none) (fun u s' => ∃ v H', Inv X pins σ H' s' ∧ RelV v u ∧ Q v H') X.xe s := by
  have hfree : ∀ y ∈ scope.names, y.2 = .free → ∃ c, X.env.cells.lookup y.1 = some c := fun y hy e => (ok.free y hy e).elim (fun k => I.ok.has _ (.inl k)) fun k => I.ok.has _ (.inr k)
  refine wpAny_comprehension_free (use := none) rfl hs (closure_ok hfree) ok.kind (fun y hy e => (ok.uniq y hy).trans (by rw [e])) (thn (hi.run pins s σ H _ I h) fun xv s1 hx => thn hx fun itv s2 h2 => ?_)
  obtain ⟨it, fp, tn, J, H2, e, I2, T, st2, f2, q⟩ := h2
  subst e
  refine wpAny_newObj_type (newEnv_comp ?_) (by show 0 ≤ sizeLine; decide)
  generalize hD : s2.heap.objs.size = D
  have hDn : H2 D = none := I2.hok.fresh (Nat.le_of_eq hD)
  obtain ⟨W, ⟨m0, w0⟩, turn⟩ := q D hDn
  generalize hs3 : ({ s2 with heap := s2.heap.push { cls := .type "list", data := .seq ([] : List Value).toArray } } : Shared) = s3
  have I3 : Inv X pins σ (upd H2 D (.lst [])) s3 := by
    subst hs3
    refine I2.laid (t' := s2.toks) (fun b o e => Heap.get?_push_of_some _ e) (Nat.le_of_eq hD) ⟨Nat.zero_le _, [], 0, .nil, ?_⟩
    subst hD
    exact Heap.get?_push_size _ rfl
  have p3 : s3.heap = s2.heap.push { cls := .type "list", data := .seq ([] : List Value).toArray } := by rw [← hs3]
  have f3 : ∀ b ∈ fp, FpOk X pins (upd H2 D (.lst [])) b ∧ b < s3.heap.objs.size := fun b hb => by
    obtain ⟨o, e, _⟩ := T.obj _ _ st2 b hb
    have hlt := Heap.lt_size e
    refine ⟨⟨?_, (f2 b hb).2⟩, ?_⟩
    · rw [upd_ne (fun z => Nat.ne_of_lt hlt (z.trans hD.symm))]
      exact (f2 b hb).1
    · rw [p3, Heap.size_push]
      exact Nat.lt_succ_of_lt hlt
  have st3 : tn 0 s3.heap := T.keep _ _ _ st2 fun b _ o e => by
    rw [p3]
    exact Heap.get?_push_of_some _ e
  have I4 := block_start I3 ok hN f3
  have hw := hotW_blk (scope := scope) (ce := compEnvC scope (cellsFrom (s3.heap.objs.size + 1) scope.names (cloFrom X.env.cells scope.names [])) s3.heap.objs.size X.env) hot I3 (fun b hb => (f3 b hb).1)
  have pg := hg s3 (upd H2 D (.lst [])) s3.heap.objs.size (cellsFrom (s3.heap.objs.size + 1) scope.names (cloFrom X.env.cells scope.names [])) fp hw
  have pt := ht s3 (upd H2 D (.lst [])) s3.heap.objs.size (cellsFrom (s3.heap.objs.size + 1) scope.names (cloFrom X.env.cells scope.names [])) fp
  have pe := he s3 (upd H2 D (.lst [])) s3.heap.objs.size (cellsFrom (s3.heap.objs.size + 1) scope.names (cloFrom X.env.cells scope.names [])) fp
  show codeAny _ _ (.compStart (.ListComp elt [⟨tg, iter, ifs, 0⟩] scope pos) 0 (.ref it) (.ref D) (compEnvC scope (cellsFrom (s3.heap.objs.size + 1) scope.names (cloFrom X.env.cells scope.names [])) s3.heap.objs.size X.env)) (compPost (model X.prog X.w) X.A X.xe none _ (.ref D) s3.heap.objs.size) { s3 with heap := pushCells (s3.heap.push { cls := .type "dict", data := .dict #[] }) scope.names }
  generalize hce : compEnvC scope (cellsFrom (s3.heap.objs.size + 1) scope.names (cloFrom X.env.cells scope.names [])) s3.heap.objs.size X.env = ce at I4 hw pg pt pe ⊢
  have cL : ce.locals = s3.heap.objs.size := by rw [← hce]; rfl
  generalize hH3 : upd H2 D (.lst []) = H3 at I3 I4 hw pg pt pe w0 f3
  generalize hs4 : ({ s3 with heap := pushCells (s3.heap.push { cls := .type "dict", data := .dict #[] }) scope.names } : Shared) = s4 at I4 ⊢
  have st4 : tn 0 s4.heap := T.keep _ _ _ st3 fun b _ o e => by
    rw [← hs4]
    exact pushCells_keeps _ _ _ _ (Heap.get?_push_of_some _ e)
  have stat : ∀ {σ' : L2.St} {H' : Hp} {s' : Shared}, Inv (X.blk s3 H3 scope ce fp) [] σ' H' s' → (∀ b ∈ fp, H' b = none) → ∀ b ∈ fp, FpOk (X.blk s3 H3 scope ce fp) [] H' b := fun I' hn b hb =>
    ⟨hn b hb, (I'.ok.exf b hb).1, I'.ok.exfs b hb, .inl hb, fun x c e => (I'.ok.exf b hb).2 x c e, fun p hp => nomatch (show p ∈ ([] : List (Addr × Obj)) from hp)⟩
  have loop : codeAny (model X.prog X.w) X.A (.compLoop (.ListComp elt [⟨tg, iter, ifs, 0⟩] scope pos) 0 (.ref it) (.ref D) ce) (compPost (model X.prog X.w) X.A X.xe none (fun u s' => ∃ v H', Inv X pins σ H' s' ∧ RelV v u ∧ Q v H') (.ref D) s3.heap.objs.size) s4 := by
    refine compLoop_any (fun n s' => ∃ i H', Inv (X.blk s3 H3 scope ce fp) [] (wipe σ (own.map (·.2))) H' s' ∧ tn i s'.heap ∧ (∀ b ∈ fp, H' b = none) ∧ W i n H') ?_ m0 ⟨0, H3, I4, st4, fun b hb => (f3 b hb).1.1, w0⟩
    rintro n s5 ⟨i, H5, I5, st5, n5, w5⟩
    rcases turn i n H5 w5 with ⟨stop, qq⟩ | ⟨go, Nx, hNx, step⟩
    · refine thnF (T.done (X.blk s3 H3 scope ce fp) rfl rfl rfl hw i [] s5 _ H5 (fun _ _ => False) I5 (stat I5 n5) st5 stop) fun r s6 ⟨hr, I6⟩ => ?_
      subst hr
      have I7 : Inv X pins σ H5 s6 := I3.call' (ch := fp) I6.os I6.base I6.hok I6.bare fun b hb => by
        obtain ⟨⟨_, z1, _, z3, z4, z5⟩, _⟩ := f3 b hb
        exact ⟨z3, z1, z4, z5⟩
      obtain ⟨m, hn, _⟩ := I6.loc
      have nC : H5 s3.heap.objs.size = none := by
        rw [← cL]
        exact I6.free
      have hn : s6.heap.Ns s3.heap.objs.size m := by
        rw [← cL]
        exact hn
      obtain ⟨f0, f1, f2, f3', f4, f5⟩ := I3.fpOk (Nat.le_refl _) nC
      exact ⟨m, hn, fun h'' sb => ⟨.ref D, H5, I7.turned (t' := s6.toks) (fun b o hb e => (sb.2 b hb).trans e) f0 f1 f3' f4 f5, rfl, qq⟩⟩
    · refine thnF (T.item (X.blk s3 H3 scope ce fp) rfl rfl rfl hw i [] s5 _ H5 (fun _ _ => False) I5 (stat I5 n5) st5 go) fun r s6 ⟨u, hr, h6⟩ => ?_
      subst hr
      refine thnF h6 fun _ s7 ⟨x, H7, I7, r7, y7, st7, n7⟩ => ?_
      refine thnF (pg.run _ s7 _ H7 x u _ (I7.pinned (stat I7 n7) (T.obj _ _ st7)) r7 (step x H7 y7)) fun _ s8 ⟨σ8, H8, I8, hw8, q8⟩ => thnF (pt.run _ s8 σ8 H8 _ I8 q8) fun b s9 ⟨H9, I9, q9⟩ => ?_
      have fin : ∀ {s' : Shared} {H' : Hp}, Inv (X.blk s3 H3 scope ce fp) ([] ++ pinsAt fp s7.heap) σ8 H' s' → Nx H' → ∃ m, m < n ∧ ∃ i H', Inv (X.blk s3 H3 scope ce fp) [] (wipe σ (own.map (·.2))) H' s' ∧ tn i s'.heap ∧ (∀ b ∈ fp, H' b = none) ∧ W i m H' := fun {s' H'} I' nx => by
        obtain ⟨m', hm, w'⟩ := hNx H' nx
        have pin' : ∀ b ∈ fp, ∀ o, s7.heap.get? b = some o → s'.heap.get? b = some o ∧ H' b = none := fun b hb o e => by
          obtain ⟨z1, z2, _⟩ := I'.pin (b, o) (List.mem_append_right _ (List.mem_append_right _ (mem_pinsAt hb e)))
          exact ⟨z1, z2⟩
        refine ⟨m', hm, i + 1, H', (I'.unpinned (pins := [])).weak ?_ (fun j v e => ?_), T.keep _ _ _ st7 fun b hb o e => (pin' b hb o e).1, fun b hb => ?_, w'⟩
        · rw [← hw8, wipe_length]
        · rw [← hw8] at e
          exact (wipe_some e).1
        · obtain ⟨o, e, _⟩ := T.obj _ _ st7 b hb
          exact (pin' b hb o e).2
      cases b with
      | false =>
        rw [if_neg Bool.false_ne_true] at q9 ⊢
        exact fin I9 q9
      | true =>
        rw [if_pos rfl] at q9 ⊢
        refine thnF (pe.run _ s9 σ8 H9 _ I9 q9) fun z s10 ⟨yv, H10, I10, r10, acc, hD10, hz10, nx⟩ => ?_
        exact app_ok (X := X.blk s3 H3 scope ce fp) I10 hD10 hz10 r10 fun s11 I11 => fin I11 nx
  exact codeAny_compStart_list loop (T.self X.A 0 _ _ _ st4 loop)
theorem pe_lcW {elt tg iter : Expr} {ifs : List Expr} {scope : Scope} {own : List (Str × Nat)} {pos : Pos} {wi : TI} {g : TG} {tt : TT} {te : TE} (hot : L2H.HotC X) (hN : X.N.Nodup) (hi : PIW X tg iter wi) (ok : BlkOk X.N X.env.scope scope own)
    (hg : ∀ (s : Shared) (H : Hp) (C : Addr) (cl : List (Str × Addr)) (fp : List Addr), HotW (X.blk s H scope (compEnvC scope cl C X.env) fp) → PG (X.blk s H scope (compEnvC scope cl C X.env) fp) tg g)
    (ht : ∀ (s : Shared) (H : Hp) (C : Addr) (cl : List (Str × Addr)) (fp : List Addr), PTs (X.blk s H scope (compEnvC scope cl C X.env) fp) ifs tt)
    (he : ∀ (s : Shared) (H : Hp) (C : Addr) (cl : List (Str × Addr)) (fp : List Addr), PE (X.blk s H scope (compEnvC scope cl C X.env) fp) elt te) (hs : ∀ x, foldedSetIterable iter X.env x = pure x := by intro _; rfl) :
    PE X (.ListComp elt [⟨tg, iter, ifs, 0⟩] scope pos) (tLc wi g tt te (own.map (·.2))) := ⟨fun pins s σ H Q I h => by
  rw [eval_ListComp]
  exact lc_hot hot hN I hi ok hg ht he hs h⟩
end
/-! ## comprehensions in an except suite -/
theorem hotC_suite {X : Cx} {a : Addr} {oe : Obj} {cls : Value} {d : Option Addr} {pn : List (Addr × Obj)} (hz : L2N.Zn cls d oe) (hf : ∃ vs, oe.data = .fields vs) : L2H.HotC (X.suite a ((a, oe) :: pn)) := by
  obtain ⟨vs, e⟩ := hf
  exact ⟨(a, oe), ⟨rfl, vs, e, hz.2.2 vs e⟩, List.mem_cons_self⟩
def rowLK : PV → SEnv → Out (List D)
  | .dat (.list ds), e => .ok ds e
  | _, _ => .bad
def sRowL (f : SE) : SI := fun e => (f e).bind rowLK
@[simp] theorem sRowL_eq (f : SE) (e : SEnv) : sRowL f e = (f e).bind rowLK := rfl
@[simp] theorem rowLK_list (ds : List D) (e : SEnv) : rowLK (.dat (.list ds)) e = .ok ds e := rfl
section
variable {X : Cx} {Y : GY} {W : WX} {ws : List Nat}
def DenIW (X : Cx) (Y : GY) (W : WX) (tg x : Expr) (f : SI) : Prop := PIW X tg x (tO (gx X Y) W (RW (gx X Y)) f)
theorem diw_row {tg x : Expr} {f : SE} (h : DenE X Y W x f) : DenIW X Y W tg x (sRowL (sFrz f)) := ⟨fun pins s σ H R I ⟨M, e, ok, p⟩ => (pi_listW (de_frz h)).run pins s σ H R I ⟨M, e, ok, Post.mono (Post.bind (R1 := Res (gx X Y)) shift_rw p) fun v H1 ⟨a, e1, M1, ok1, f1, r1, p1⟩ => by
  unfold rowLK at p1
  split at p1
  · rename_i ds
    have r : Rep X.K H1 M1 v (.list ds) := r1.1
    cases r with
    | lst hz n rr => exact ⟨_, rfl, ⟨_, SqL.of hz⟩, post_here ok1 p1 _ (walk_list ok1 (.lst hz n rr))⟩
  · exact p1.elim⟩⟩
theorem dg_tupW {xs : List Expr} {k : Nat} {gs : SGs} {n : Nat} {pos : Pos} (hw : HotW X) (h : DenGs X Y ws xs gs) (hn : (assignEach xs X.env).length = n := by rfl) (hst : (assignEach xs X.env).findIdx? (·.1) = none := by rfl) : DenG X Y ws (.Tuple xs k pos) (gTp n gs) :=
  PG.weak (pg_tupW hw h hn hst) fun v s H Q ⟨M, e, d, e', ok, r, hg, q⟩ => by
    unfold gTp at hg
    split at hg
    · split at hg
      · rename_i ds hl
        cases r with
        | tup hz rr => exact ⟨_, _, rfl, hz.sq, rr.length.trans hl, M, e, ds, e', ok, rr, hg, q⟩
      · cases hg
    · cases hg
theorem de_lcW {elt tg iter : Expr} {ifs : List Expr} {scope : Scope} {own : List (Str × Nat)} {pos : Pos} {f : SI} {g : SG} {t : ST} {el : SE} (hot : L2H.HotC X) (nd : X.N.Nodup) (ok : BlkOk X.N X.env.scope scope own) (hi : DenIW X Y W tg iter f)
    (hg : ∀ (s : Shared) (H : Hp) (C : Addr) (cl : List (Str × Addr)) (fp : List Addr), HotW (X.blk s H scope (compEnvC scope cl C X.env) fp) → DenG (X.blk s H scope (compEnvC scope cl C X.env) fp) Y (own.map (·.2)) tg g)
    (ht : ∀ (s : Shared) (H : Hp) (C : Addr) (cl : List (Str × Addr)) (fp : List Addr), DenTs (X.blk s H scope (compEnvC scope cl C X.env) fp) Y WF ifs t)
    (he : ∀ (s : Shared) (H : Hp) (C : Addr) (cl : List (Str × Addr)) (fp : List Addr), DenE (X.blk s H scope (compEnvC scope cl C X.env) fp) Y WF elt el) (hf : ∀ i ∈ Y.fix, i ∉ own.map (·.2) := by first | decide | (dsimp only; decide)) (hs : ∀ x, foldedSetIterable iter X.env x = pure x := by intro _; rfl) :
    DenE X Y W (.ListComp elt [⟨tg, iter, ifs, 0⟩] scope pos) (sLc f g t el (own.map (·.2))) :=
  PE.weak (pe_lcW (g := tTg (gx X Y) (own.map fun (p : Str × Nat) => p.2) g) (tt := tO (gx X Y) WF (RB (gx X Y)) t) (te := tO (gx X Y) WF (Res (gx X Y)) (sFrz el)) hot nd hi ok hg ht (fun s H C cl fp => de_frz (he s H C cl fp)) hs) fun s H Q h => lc_read hf h
end
end SM
namespace SM
open PySem PySem.Spec PyProof.Rows L2
/-! ## enumerate over a text -/
def ItsE (x : Str) : It :=
  ⟨fun i _ => i < x.cps.size, fun i H v H' => ∃ (T : Addr) (c : Nat), v = .ref T ∧ H T = none ∧ x.cps[i]? = some c ∧ H' = upd H T (.tup [.int (i : Nat), .str ⟨#[c]⟩]), fun i _ => x.cps.size ≤ i⟩
theorem turn_enumS {P : Program} {w : World} {K : PySem.W.Frag} {elts : List Expr} {kk : Nat} {tpos : Pos} (e it : Addr) (x : Str) (t : Tok) :
    Turn P w K (.Tuple elts kk tpos) (ItsE x) [e, it] e (fun i h => (∃ old, IsEnum h e it ((i : Nat) : Int) old) ∧ h.IsStrIter it (strIterType x) x t i ∧ e ≠ it ∧ i ≤ x.cps.size) where
  mem := List.mem_cons_self
  obj := fun i h ⟨⟨old, he⟩, ⟨o, ho, hc, hd⟩, _, _⟩ b hb => by
    rcases List.mem_cons.mp hb with rfl | hb
    · exact ⟨_, he, fun v q => nomatch q⟩
    · cases List.mem_singleton.mp hb
      exact ⟨o, ho, fun v q => by rw [hd] at q; cases q⟩
  keep := fun i h h' ⟨⟨old, he⟩, ⟨o, ho, r⟩, hne, hle⟩ k => ⟨⟨old, k e List.mem_cons_self _ he⟩, ⟨o, k it (List.mem_cons_of_mem _ List.mem_cons_self) o ho, r⟩, hne, hle⟩
  item := by
    rintro X rfl rfl rfl hc i pins s σ H E I hf ⟨⟨old, he⟩, hit, hne, hle⟩ hg
    have D := Draws.text (prog := X.prog) (w := X.w) (A := X.A.in1) (I.ok.hd hc) it x t
    have hel : e < s.heap.objs.size := Heap.lt_size he
    have hil : it < s.heap.objs.size := by
      obtain ⟨_, q, _⟩ := hit
      exact Heap.lt_size q
    refine wpAny_pyNext_enum_itemD D he hit hg hne (fun z => hne (List.mem_singleton.mp z)) fun v h' tk ⟨c, u, hx, hv⟩ ho hit' hT hsz hk => ⟨_, rfl, wpAny_letOwnedTupleGo_enum (s := { s with heap := h', toks := tk + 1 }) ho fun h'' he' sb => ?_⟩
    subst hv
    have hT2 : h''.get? s.heap.objs.size = some { cls := .type "tuple", data := .seq #[.int i tk, .str ⟨#[c]⟩ u] } := (sb.2 _ (Nat.ne_of_gt hel)).trans hT
    have new : ObjOk X.prog X.w (upd H s.heap.objs.size (.tup [.int (i : Nat), .str ⟨#[c]⟩])) h'' s.heap.objs.size (.tup [.int (i : Nat), .str ⟨#[c]⟩]) :=
      ⟨by show 2 ≤ sizeLine; decide, [.int i tk, .str ⟨#[c]⟩ u], .cons ⟨_, rfl⟩ (.cons ⟨_, rfl⟩ .nil), ⟨_, hT2, rfl, _, rfl⟩⟩
    have I1 : Inv X pins σ (upd H s.heap.objs.size (.tup [.int (i : Nat), .str ⟨#[c]⟩])) { s with heap := h'', toks := tk + 1 } := by
      refine I.turnedNew (ch := [e, it]) (fun b ob hb q => ?_) hf (Nat.le_refl _) new
      have n1 : b ≠ e := fun z => hb (by simp [z])
      have n2 : b ≠ it := fun z => hb (by simp [z])
      exact (sb.2 b n1).trans (hk b ob n1 n2 q)
    refine ⟨.ref s.heap.objs.size, _, I1, rfl, ⟨_, c, rfl, I.hok.fresh (Nat.le_refl _), hx, rfl⟩, ⟨⟨.str ⟨#[c]⟩ u, ?_⟩, ?_, hne, hg⟩, fun b hb => ?_⟩
    · rw [show ((i + 1 : Nat) : Int) = (i : Int) + 1 by omega]
      exact he'
    · obtain ⟨o, q, r⟩ := hit'
      exact ⟨o, (sb.2 it (Ne.symm hne)).trans q, r⟩
    · have hb' : b < s.heap.objs.size := by
        rcases List.mem_cons.mp hb with rfl | hb
        · exact hel
        · cases List.mem_singleton.mp hb
          exact hil
      rw [upd_ne (Nat.ne_of_lt hb')]
      exact (hf b hb).1
  done := by
    rintro X rfl rfl rfl hc i pins s σ H E I hf ⟨⟨old, he⟩, hit, hne, hle⟩ hg
    have D := Draws.text (prog := X.prog) (w := X.w) (A := X.A.in1) (I.ok.hd hc) it x t
    obtain ⟨f0, f1, f2, f3, f4, f5⟩ := hf it (List.mem_cons_of_mem _ List.mem_cons_self)
    obtain rfl : i = x.cps.size := Nat.le_antisymm hle hg
    exact wpAny_pyNext_enum_endD D he hit fun h' eb => ⟨rfl, I.turned (t' := s.toks) (fun b o hb q => eb b o hb q) f0 f1 f3 f4 f5⟩
  self := fun A i s Q E ⟨⟨_, he⟩, _⟩ h => wpAny_pyIter_enum he h
def iEnumA (K : PySem.W.Frag) (ta : TA) : TI := fun σ H R => ta σ H fun vs H1 => (∃ a xs, vs = [.ref a] ∧ SqL K H1 a xs ∧ R (Ite K a) H1) ∨ ∃ x, vs = [.str x] ∧ R (ItsE x) H1
theorem pi_enumA {X : Cx} {e : Expr} {ta : TA} {p pos tpos : Pos} {elts : List Expr} {kk : Nat} (hg : Gl X "enumerate") (hm : X.mg "enumerate" = none) (ha : PA X [e] ta) (hs : starEach [e] X.env = [(false, eval e X.env)] := by rfl) :
    PI X (.Tuple elts kk tpos) (.Call (.Name "enumerate" p) [e] [] pos) (iEnumA X.K ta) := ⟨fun pins s σ H R I h => by
  refine Call_ (ld_blt I hg hm boot_enumerate (PyProof.Rows.callWith_type1 (thn (ha.run pos pins s σ H _ I h) fun us s1 ⟨vs, H1, I1, r1, q1⟩ => ?_) hs rfl))
  rcases q1 with ⟨a, xs, rfl, hq, q⟩ | ⟨x, rfl, q⟩
  · obtain ⟨u, rfl, rfl⟩ := r1.one
    obtain ⟨its, rv, p', hz⟩ := I1.list hq
    refine call_enumerate_list p'.isList fun h' he hit hsz hk => wpAny_pyIter_enum he ⟨s1.heap.objs.size + 1, [s1.heap.objs.size + 1, s1.heap.objs.size], _, _, H1, rfl, I1.kept (t' := s1.toks) hk, turn_enum a (s1.heap.objs.size + 1) s1.heap.objs.size, ⟨⟨.none, he⟩, hit, Nat.succ_ne_self _⟩, fun b hb => ?_, q⟩
    have hle : s1.heap.objs.size ≤ b := by
      rcases List.mem_cons.mp hb with rfl | hb
      · exact Nat.le_add_right _ _
      · cases List.mem_singleton.mp hb
        exact Nat.le_refl _
    exact I1.fpOk hle (I1.hok.fresh hle)
  · obtain ⟨u, rfl, ru⟩ := r1.one
    obtain ⟨t, rfl⟩ := ru
    refine call_enumerate_str fun h' he hit hsz hk => wpAny_pyIter_enum he ⟨s1.heap.objs.size + 1, [s1.heap.objs.size + 1, s1.heap.objs.size], _, _, H1, rfl, I1.kept (t' := s1.toks) hk, turn_enumS (s1.heap.objs.size + 1) s1.heap.objs.size x t, ⟨⟨.none, he⟩, hit, Nat.succ_ne_self _, Nat.zero_le _⟩, fun b hb => ?_, q⟩
    have hle : s1.heap.objs.size ≤ b := by
      rcases List.mem_cons.mp hb with rfl | hb
      · exact Nat.le_add_right _ _
      · cases List.mem_singleton.mp hb
        exact Nat.le_refl _
    exact I1.fpOk hle (I1.hok.fresh hle)⟩
theorem walk_enumS {G : GX} {S : SX} (x : Str) : Walk G S (ItsE x) (enDs 0 (strDs x)) := by
  have get : ∀ (i : Nat) (d : D), (enDs 0 (strDs x))[i]? = some d → ∃ c : Nat, x.cps[i]? = some c ∧ d = .tuple [.int (i : Nat), cpD c] := fun i d h => by
    rw [enDs_get, Nat.zero_add, strDs, List.getElem?_map, Array.getElem?_toList] at h
    cases q : x.cps[i]? with
    | none =>
      rw [q] at h
      cases h
    | some c =>
      rw [q] at h
      cases h
      exact ⟨c, rfl, rfl⟩
  refine ⟨fun S' i ok' f hi => ?_, fun S' i d ok' f hd => ?_, fun S' i d y H' ok' f hd z => ?_⟩
  · show x.cps.size ≤ i
    rw [hi, enDs_len, strDs, List.length_map, Array.length_toList]
    exact Nat.le_refl _
  · obtain ⟨c, hc, _⟩ := get i d hd
    exact (Array.getElem?_eq_some_iff.mp hc).1
  · obtain ⟨c, hc, rfl⟩ := get i d hd
    obtain ⟨T, c', rfl, hT, hc', rfl⟩ := z
    rw [hc] at hc'
    cases hc'
    exact yld_pair ok' hT (.int _) (.str _)
def enumAK (e : SEnv) : Option (List D) → Out (List D)
  | some [.list ds] => .ok (enDs 0 ds) e
  | some [.str x] => .ok (enDs 0 (strDs x)) e
  | _ => .bad
def sEnumA (os : List Opd) : SI := fun e => (opds os e).bind fun ps e1 => enumAK e1 (datAll ps)
@[simp] theorem sEnumA_eq (os : List Opd) (e : SEnv) : sEnumA os e = (opds os e).bind fun ps e1 => enumAK e1 (datAll ps) := rfl
@[simp] theorem enumAK_list (e : SEnv) (ds : List D) : enumAK e (some [.list ds]) = .ok (enDs 0 ds) e := rfl
@[simp] theorem enumAK_str (e : SEnv) (x : Str) : enumAK e (some [.str x]) = .ok (enDs 0 (strDs x)) e := rfl
theorem di_enumA {X : Cx} {Y : GY} {W : WX} {a : Expr} {os : List Opd} {p pos tpos : Pos} {elts : List Expr} {kk : Nat} (hm : X.mg "enumerate" = none) (ha : DenA X Y W [a] os) (hg : Gl X "enumerate" := by rfl) (hs : starEach [a] X.env = [(false, eval a X.env)] := by rfl) :
    DenI X Y W (.Tuple elts kk tpos) (.Call (.Name "enumerate" p) [a] [] pos) (sEnumA os) := by
  refine PI.weak (pi_enumA hg hm ha hs) fun s H Q ⟨M, e, ok, p⟩ => ⟨M, e, ok, Post.mono (Post.bind (R1 := RAs (gx X Y)) shift_rw p) fun vs H1 ⟨ps, e1, M1, ok1, f1, r1, p1⟩ => ?_⟩
  cases q : datAll ps with
  | none =>
    rw [q] at p1
    exact p1.elim
  | some ds =>
    rw [q] at p1
    have ra := datAll_rep r1 q
    unfold enumAK at p1
    split at p1
    · rename_i es heq
      cases heq
      obtain ⟨v, rfl, r⟩ := ra.un1
      cases r with
      | lst h n rr => exact .inl ⟨_, _, rfl, SqL.of h, post_here ok1 p1 _ (walk_enum ok1 (.lst h n rr))⟩
    · rename_i x heq
      cases heq
      obtain ⟨v, rfl, r⟩ := ra.un1
      cases r
      exact .inr ⟨x, rfl, post_here ok1 p1 _ (walk_enumS x)⟩
    · exact p1.elim
end SM
namespace SM
open PySem L2 TL

/-! ## more about slices, comprehensions, equality -/
theorem sIx_nn {n d : Nat} {i : Int} (h0 : 0 ≤ i) : HT.sIx n d (some i) = min i.toNat n := by
  obtain ⟨k, rfl⟩ := Int.eq_ofNat_of_zero_le h0
  rw [HT.sIx_nat]
  rfl
theorem cutL_nn {α : Type} {xs : List α} {i j : Int} (h0 : 0 ≤ i) (h1 : 0 ≤ j) : cutL xs (some i) (some j) = (xs.drop i.toNat).take (j.toNat - i.toNat) := by
  unfold cutL
  rw [sIx_nn h0, sIx_nn h1]
  apply List.ext_getElem?
  intro k
  simp only [List.getElem?_take, List.getElem?_drop]
  by_cases h : k < j.toNat - i.toNat
  · rw [if_pos h]
    by_cases h2 : i.toNat + k < xs.length
    · have e1 : min i.toNat xs.length = i.toNat := by omega
      rw [e1, if_pos (by omega)]
    · rw [List.getElem?_eq_none (by omega)]
      split
      · rw [List.getElem?_eq_none (by omega)]
      · rw [List.getElem?_eq_none (by omega)]
  · rw [if_neg h]
    split
    · rw [List.getElem?_eq_none (by omega)]
    · rfl
theorem cutL_to {α : Type} {xs : List α} {j : Int} (h1 : 0 ≤ j) : cutL xs none (some j) = xs.take j.toNat := by
  have : cutL xs none (some j) = cutL xs (some 0) (some j) := rfl
  rw [this, cutL_nn (by decide) h1]
  simp
theorem cutL_from {α : Type} {xs : List α} {i : Int} (h0 : 0 ≤ i) : cutL xs (some i) none = xs.drop i.toNat := by
  unfold cutL
  rw [sIx_nn h0]
  show (xs.drop (min i.toNat xs.length)).take (xs.length - min i.toNat xs.length) = _
  rw [List.take_of_length_le (by rw [List.length_drop]; omega)]
  by_cases h : i.toNat ≤ xs.length
  · rw [Nat.min_eq_left h]
  · rw [List.drop_of_length_le (by omega), List.drop_of_length_le (by omega)]
/-- [row[at] for at in range(..)] -/
theorem lc_row {f : SI} {a r : Nat} {e e1 : SEnv} {cs : List Nat} {lo : Int} {n : Nat} (hf : f e = .ok (rngDs lo n) e1) (hr : e1[r]? = some (some (.dat (.str (tx cs))))) (hne : a ≠ r) (hal : a < e1.length) (h0 : 0 ≤ lo) (h1 : lo.toNat + n ≤ cs.length) (hl : cs.length ≤ 16777216) :
    sLc f (gNm a) (sYes) (sOp2 aIx (.nm r) (.nm a)) [a] e = .ok (.own (((cs.drop lo.toNat).take n).map cpD)) (restE [a] e1 (wipeE e1 [a])) := by
  rw [rngDs_map] at hf
  rw [sLc_mapA (fun i : Nat => PyData.int (lo + (i : Nat))) (List.range n) (fun i => cpD (cs.getD (lo.toNat + i) 0)) hf (fun i hi => ?_) (by rw [List.length_range]; show n ≤ 16777216; omega)]
  · rw [range_part cpD cs lo.toNat n h1]
  · have hi := List.mem_range.mp hi
    have ix := aIx_tx (cs := cs) (i := lo + (i : Int)) (by omega) (by omega) hl
    have ei : (lo + (i : Int)).toNat = lo.toNat + i := by omega
    rw [ei] at ix
    have g1 : (e1.set a (some (PV.dat (.int (lo + (i : Int))))))[a]? = some (some (.dat (.int (lo + (i : Int))))) := List.getElem?_set_self hal
    have g2 : (e1.set a (some (PV.dat (.int (lo + (i : Int))))))[r]? = some (some (.dat (.str (tx cs)))) := by
      rw [List.getElem?_set_ne hne, hr]
    generalize cs.getD (lo.toNat + i) 0 = q at *
    simp [sYes, g1, g2, ix]
@[simp] theorem backO_ownS (ps : List PO) (e' : SEnv) (i : Nat) (ds : List D) : backO ps e' i (some (.own ds)) = (match posOf i ps with | some k => (e'[k]?).join | none => some (.own ds)) := backO_own ps e' i ds
@[simp] theorem backO_valsS (ps : List PO) (e' : SEnv) (i : Nat) (o : Option PV) (h : posOf i ps = none) : backO ps e' i o = o := backO_vals ps e' i o h
/-! ### texts told many times -/
def rep (k : Nat) (cs : List Nat) : List Nat := (List.replicate k cs).flatten
theorem rep_len (k : Nat) (cs : List Nat) : (rep k cs).length = k * cs.length := by
  unfold rep
  rw [List.length_flatten, List.map_replicate, List.sum_replicate_nat]
theorem rep_mem {k : Nat} {cs : List Nat} {c : Nat} (h : c ∈ rep k cs) : c ∈ cs := by
  unfold rep at h
  obtain ⟨l, h1, h2⟩ := List.mem_flatten.mp h
  rw [(List.mem_replicate.mp h1).2] at h2
  exact h2
theorem aMul_tx (cs : List Nat) (k : Nat) (h : cs.length * k ≤ 16777216) (h2 : k < 16777217) : aMul (.str (tx cs)) (.int k) = some (.dat (.str (tx (rep k cs)))) := by
  unfold aMul
  dsimp only
  rw [if_pos ?_]
  · rfl
  · rw [Bool.and_eq_true, Bool.and_eq_true, tx_len, Int.toNat_natCast]
    exact ⟨⟨decide_eq_true (by omega), decide_eq_true (by omega)⟩, decide_eq_true h⟩
@[simp] theorem raiseFK_dat (cls fld : Str) (d : D) (e : SEnv) : raiseFK cls fld (.dat d) e = .exc ⟨cls, some (fld, d)⟩ e := rfl
@[simp] theorem sRaiseF_eq (cls fld : Str) (f : SE) (e : SEnv) : sRaiseF cls fld f e = (f e).bind (raiseFK cls fld) := rfl
theorem bD_some_eq (b : Bool) : bD (some b) = some (.dat (.bool b)) := rfl
theorem eqv_nil (ds : List D) : PyData.eqv (.list ds) (.list []) = ds.isEmpty := by
  cases ds <;> rfl
/-- a list against the empty one -/
theorem aEq_listnil {ds : List D} (h : cmpOks 63 ds = true) : aEq (.list ds) (.list []) = some (.dat (.bool ds.isEmpty)) := by
  have hs := shaped_of (d := .list ds) (by simpa [cmpOk] using h)
  have hn : SeqAt.shaped (.list []) = true := shaped_of (by decide)
  rw [aEq_eq]
  simp [qEq, hs, hn, eqv_nil, bD_some_eq]
theorem aNe_listnil {ds : List D} (h : cmpOks 63 ds = true) : aNe (.list ds) (.list []) = some (.dat (.bool (!ds.isEmpty))) := by
  have hs := shaped_of (d := .list ds) (by simpa [cmpOk] using h)
  have hn : SeqAt.shaped (.list []) = true := shaped_of (by decide)
  rw [aNe_eq]
  simp [qEq, hs, hn, eqv_nil, bD_some_eq]
theorem cmpOks_ints {α : Type} (F : α → Int) (xs : List α) (n : Nat) : cmpOks n (xs.map fun x => PyData.int (F x)) = true := cmpOks_mapM n _ xs fun _ _ => by simp [cmpOk]
theorem i62 {i : Int} (h : -4611686018427387904 ≤ i) (h2 : i < 4611686018427387904) : in62 i = true := by
  rw [in62_eq, decide_eq_true h, decide_eq_true h2]
  rfl
theorem seq_split (f g h : SS) : sSeq f (sSeq g h) = sSeq (sSeq f g) h := by
  funext e
  show (f e).bind (seqK (sSeq g h)) = ((f e).bind (seqK g)).bind (seqK h)
  cases f e with
  | ok fl e1 => cases fl <;> rfl
  | exc x e1 => rfl
  | bad => rfl
/-- what is wanted of an end: nothing told, the first two names as they were, so many names -/
def shape : Out Fl → Option (Option (Option PV) × Option (Option PV) × Nat)
  | .ok .nx e => some (e[0]?, e[1]?, e.length)
  | _ => none
theorem of_shape {o : Out Fl} {x y : Option (Option PV)} {n : Nat} (h : shape o = some (x, y, n)) : ∃ e, o = .ok .nx e ∧ e[0]? = x ∧ e[1]? = y ∧ e.length = n := by
  unfold shape at h
  split at h
  · cases h
    exact ⟨_, rfl, rfl, rfl, rfl⟩
  · cases h
theorem shape_seq {f g : SS} {e : SEnv} {x} (h : shape ((f e).bind (seqK g)) = x) : shape (sSeq f g e) = x := h
theorem for_ix {f : SI} {g : SG} {b : SS} {e e1 : SEnv} {ds : List D} (P : Nat → SEnv → Prop) (hf : f e = .ok ds e1) (h0 : P 0 e1) (step : ∀ i d e, ds[i]? = some d → P i e → ∃ e1 e', g d e = some e1 ∧ (b e1 = .ok .nx e' ∨ b e1 = .ok .ct e') ∧ P (i + 1) e') : ∃ e', sFor f g b e = .ok .nx e' ∧ P ds.length e' := by
  obtain ⟨e', h1, h2⟩ := for_inv (g := g) (b := b) P ds step 0 e1 (Nat.zero_le _) h0
  refine ⟨e', ?_, h2⟩
  show (f e).bind _ = _
  rw [hf]
  rw [List.drop_zero] at h1
  exact h1
@[simp] theorem tryK_ok (hs : List Hd) (fl : Fl) (e : SEnv) : tryK hs (.ok fl e) = .ok fl e := rfl
@[simp] theorem sTry_eq (b : SS) (hs : List Hd) (e : SEnv) : sTry b hs e = tryK hs (b e) := rfl
theorem try_hit {b : SS} {hs : List Hd} {e e1 : SEnv} {x : Exn} (hb : b e = .exc x e1) : sTry b hs e = hdRun hs x e1 := by
  show tryK hs (b e) = _
  rw [hb]
  rfl
theorem hd_hit {h : Hd} {r : List Hd} {x : Exn} {e : SEnv} (q : h.tbl.lookup x.cls = some true) : hdRun (h :: r) x e = hdEnd h.i (h.g (inX h.i x e)) := by
  unfold hdRun
  rw [q]
theorem hd_miss {h : Hd} {r : List Hd} {x : Exn} {e : SEnv} (q : h.tbl.lookup x.cls = some false) : hdRun (h :: r) x e = hdRun r x e := by
  rw [hdRun, q]
@[simp] theorem parV3_eq (i j k : Nat) (p q r : PV) (e : SEnv) : parV3 i j k p q r e = if isClo p || isClo q || isClo r then .bad else .ok .nx (((e.set i (some p)).set j (some q)).set k (some r)) := rfl
@[simp] theorem sParV3_eq (i j k : Nat) (f g h : SE) (e : SEnv) : sParV3 i j k f g h e = (f e).bind fun p e1 => (g e1).bind fun q e2 => (h e2).bind fun r e3 => parV3 i j k p q r e3 := rfl
@[simp] theorem ofString_inj (a b : String) : (Str.ofString a = Str.ofString b) ↔ a = b := by
  constructor
  · intro h
    rw [Str.ofString_eq_toList, Str.ofString_eq_toList] at h
    have h2 : (a.toList.map Char.toNat) = (b.toList.map Char.toNat) := by
      have := congrArg (fun x : Str => x.cps.toList) h
      simpa using this
    have h3 : a.toList = b.toList := by
      have inj : ∀ x y : List Char, x.map Char.toNat = y.map Char.toNat → x = y := by
        intro x
        induction x with
        | nil =>
          intro y hy
          cases y with
          | nil => rfl
          | cons _ _ => simp at hy
        | cons c r ih =>
          intro y hy
          cases y with
          | nil => simp at hy
          | cons d t =>
            simp only [List.map_cons, List.cons.injEq] at hy
            rw [ih t hy.2, Char.toNat_inj.mp hy.1]
      exact inj _ _ h2
    exact String.toList_inj.mp h3
  · intro h
    rw [h]
theorem call1 {m f : SE} {e e1 r : SEnv} {d1 : D} {v : PV} (hf : f e = .ok (.dat d1) e1) (hm : m [some (.dat d1)] = .ok v r) : sCall 1 m [.ex f] e = .ok v e1 := by
  simp [hf, hm]
theorem call2 {m f g : SE} {e e1 e2 r : SEnv} {d1 d2 : D} {v : PV} (hf : f e = .ok (.dat d1) e1) (hg : g e1 = .ok (.dat d2) e2) (hm : m [some (.dat d1), some (.dat d2)] = .ok v r) : sCall 2 m [.ex f, .ex g] e = .ok v e2 := by
  simp [hf, hg, hm]
theorem ret_of {f : SE} {e e1 : SEnv} {v : PV} (h : f e = .ok v e1) : sRet f e = .ok (.rt v) e1 := by
  simp [h]
theorem set_of {i : Nat} {f : SE} {e e1 : SEnv} {d : D} (h : f e = .ok (.dat d) e1) : sSet i f e = .ok .nx (e1.set i (some (.dat d))) := by
  simp [h]
theorem mulK {x : Str} {k : Int} {d : D} (h : aMul (.str x) (.int k) = some (.dat d)) (e : SEnv) : sOp2 aMul (.ex (sC (.str x))) (.ex (sC (.int k))) e = .ok (.dat d) e := by
  simp [h]
theorem frz_of {f : SE} {e e1 : SEnv} {d : D} (h : f e = .ok (.dat d) e1) : sFrz f e = .ok (.dat d) e1 := by
  simp [h]
theorem add3 {e : SEnv} {K1 K2 K3 : SE} {a b c : D} {T : List D} {i : Nat} (h1 : K1 e = .ok (.dat a) e) (h2 : K2 e = .ok (.dat b) e) (h3 : K3 e = .ok (.dat c) e) (hT : T.length ≤ 1000) (he : e[i]? = some (some (.own T))) :
    sSet i (sOp2 aAdd (.nm i) (.ex (sLst [.ex K1, .ex K2, .ex K3]))) e = .ok .nx (e.set i (some (.own (T ++ ([a, b, c] : List D))))) := by
  have hl : T.length + 3 ≤ 16777216 := by omega
  simp [he, h1, h2, h3, hl]
theorem call0 {m : SE} {e r : SEnv} {v : PV} (hm : m [] = .ok v r) : sCall 0 m [] e = .ok v e := by
  simp [hm]
theorem nt_true {f : SE} {e e1 : SEnv} (h : f e = .ok (.dat (.bool true)) e1) : sNotT (sT f) e = .ok false e1 := by
  simp [h]
theorem if_skip {c : ST} {f : SS} {e e1 : SEnv} (h : c e = .ok false e1) : sIfS c f sNext e = .ok .nx e1 := by
  simp [h]
/-! ## loops turn by turn -/
theorem go_cons {g : SG} {b : SS} {d : D} {ds : List D} {e e1 e2 : SEnv} {o : Out Fl} (hg : g d e = some e1) (hb : b e1 = .ok .nx e2) (hr : sForGo g b ds e2 = o) : sForGo g b (d :: ds) e = o := by
  rw [sForGo_cons, hg]
  show (b e1).bind _ = _
  rw [hb]
  exact hr
theorem go_ret {g : SG} {b : SS} {d : D} {ds : List D} {e e1 e2 : SEnv} {v : PV} (hg : g d e = some e1) (hb : b e1 = .ok (.rt v) e2) : sForGo g b (d :: ds) e = .ok (.rt v) e2 := by
  rw [sForGo_cons, hg]
  show (b e1).bind _ = _
  rw [hb]
  rfl
theorem go_nil {g : SG} {b : SS} {e : SEnv} : sForGo g b [] e = .ok .nx e := rfl
theorem for_of {f : SI} {g : SG} {b : SS} {ds : List D} {e e1 : SEnv} {o : Out Fl} (hf : f e = .ok ds e1) (h : sForGo g b ds e1 = o) : sFor f g b e = o := by
  show (f e).bind _ = _
  rw [hf]
  exact h
theorem atI_last {α : Type} (xs : List α) (x : α) : atI (xs ++ [x]) (-1) = some x := by
  have h1 : (1 : Int) ≤ xs.length + 1 := by omega
  have h2 : (-1 + ((xs.length : Int) + 1)).toNat = xs.length := by omega
  unfold atI ixN
  simp [h1, h2]
theorem aIx_last (xs : List D) (x : D) : aIx (.list (xs ++ [x])) (.int (-1)) = some (.dat x) := by
  rw [aIx_list, atI_last]
  rfl
/-- l.append(x) -/
theorem app_of {i : Nat} {f : SE} {e : SEnv} {d : D} {F : List D} (hf : f e = .ok (.dat d) e) (he : e[i]? = some (some (.own F))) (hl : F.length < 16777216) : sDrop (sApp i [.ex f]) e = .ok .nx (e.set i (some (.own (F ++ [d])))) := by
  have ho : isOwn i e = true := by simp [he]
  have h1 : sApp i [.ex f] e = appK i e (some [d]) := by
    show (if isOwn i e then _ else _) = _
    rw [if_pos ho]
    simp [hf]
  rw [sDrop_eq, h1]
  have h2 : ownAt e i = some F := by simp [he]
  have h3 : F.length + 1 ≤ LIM := hl
  show Out.bind (ownAdd i [d] e (ownAt e i)) _ = _
  rw [h2]
  show Out.bind (if F.length + 1 ≤ LIM then _ else _) _ = _
  rw [if_pos h3]
  rfl
@[simp] theorem aNotIn_one (c : Nat) (y : Str) : aNotIn (.str ⟨#[c]⟩) (.str y) = some (.dat (.bool (!decide (c ∈ y.cps.toList)))) := rfl
end SM
namespace SM
open PySem L2
/-! ## trees of rows, plainly -/
inductive Tr where
  | nil : Tr
  | node : Nat → Tr → Nat → Tr → Tr
deriving DecidableEq
/-- the newcomer a and what stands ahead of it -/
def Fst (cs u : List Nat) (a : Nat) : Prop := (∃ x, cs = u ++ a :: x ∧ ∀ c ∈ x, c ∈ u ∨ c = a) ∧ a ∉ u
def Lst (cs : List Nat) (b : Nat) (v : List Nat) : Prop := Fst cs.reverse v.reverse b
theorem Lst.un {cs v : List Nat} {b : Nat} (h : Lst cs b v) : (∃ x, cs = x ++ b :: v ∧ ∀ c ∈ x, c ∈ v ∨ c = b) ∧ b ∉ v := by
  obtain ⟨⟨x, h1, h2⟩, h3⟩ := h
  refine ⟨⟨x.reverse, ?_, fun c hc => ?_⟩, fun z => h3 (List.mem_reverse.mpr z)⟩
  · have := congrArg List.reverse h1
    simpa using this
  · rcases h2 c (List.mem_reverse.mp hc) with z | z
    · exact .inl (List.mem_reverse.mp z)
    · exact .inr z
theorem Lst.of {cs v x : List Nat} {b : Nat} (h1 : cs = x ++ b :: v) (h2 : ∀ c ∈ x, c ∈ v ∨ c = b) (h3 : b ∉ v) : Lst cs b v := by
  refine ⟨⟨x.reverse, by simp [h1], fun c hc => ?_⟩, fun z => h3 (List.mem_reverse.mp z)⟩
  rcases h2 c (List.mem_reverse.mp hc) with z | z
  · exact .inl (List.mem_reverse.mpr z)
  · exact .inr z
theorem Fst.uniq {cs u u' : List Nat} {a a' : Nat} (h : Fst cs u a) (h' : Fst cs u' a') : u = u' ∧ a = a' := by
  obtain ⟨⟨x, h1, h2⟩, h3⟩ := h
  obtain ⟨⟨x', h1', h2'⟩, h3'⟩ := h'
  rw [h1] at h1'
  rcases List.append_eq_append_iff.mp h1' with ⟨as, e1, e2⟩ | ⟨as, e1, e2⟩
  · cases as with
    | nil =>
      rw [List.nil_append] at e2
      cases e2
      exact ⟨by simpa using e1.symm, rfl⟩
    | cons z as =>
      cases e2
      exfalso
      apply h3'
      rw [e1]
      rcases h2 a' (by simp) with q | q
      · exact List.mem_append_left _ q
      · rw [q]
        simp
  · cases as with
    | nil =>
      rw [List.nil_append] at e2
      cases e2
      exact ⟨by simpa using e1, rfl⟩
    | cons z as =>
      cases e2
      exfalso
      apply h3
      rw [e1]
      rcases h2' a (by simp) with q | q
      · exact List.mem_append_left _ q
      · rw [q]
        simp
theorem Lst.uniq {cs v v' : List Nat} {b b' : Nat} (h : Lst cs b v) (h' : Lst cs b' v') : v = v' ∧ b = b' := by
  obtain ⟨h1, h2⟩ := Fst.uniq h h'
  exact ⟨List.reverse_inj.mp h1, h2⟩
theorem Fst.mem {cs u : List Nat} {a : Nat} (h : Fst cs u a) (c : Nat) : c ∈ cs ↔ c ∈ u ∨ c = a := by
  obtain ⟨⟨x, h1, h2⟩, h3⟩ := h
  rw [h1, List.mem_append, List.mem_cons]
  constructor
  · rintro (z | z | z)
    · exact .inl z
    · exact .inr z
    · exact h2 c z
  · rintro (z | z)
    · exact .inl z
    · exact .inr (.inl z)
theorem Lst.mem {cs v : List Nat} {b : Nat} (h : Lst cs b v) (c : Nat) : c ∈ cs ↔ c ∈ v ∨ c = b := by
  have := Fst.mem h c
  rwa [List.mem_reverse, List.mem_reverse] at this
theorem Fst.lt {cs u : List Nat} {a : Nat} (h : Fst cs u a) : u.length < cs.length := by
  obtain ⟨⟨x, h1, h2⟩, h3⟩ := h
  rw [h1, List.length_append, List.length_cons]
  omega
theorem Lst.lt {cs v : List Nat} {b : Nat} (h : Lst cs b v) : v.length < cs.length := by
  have := Fst.lt h
  rwa [List.length_reverse, List.length_reverse] at this
/-- where the newcomer stands -/
def fAt (cs : List Nat) : Nat → Nat
  | 0 => 0
  | n + 1 => if cs.getD n 0 ∈ cs.take n then fAt cs n else n
def fIx (cs : List Nat) : Nat := fAt cs cs.length
theorem take_snoc {cs : List Nat} {n : Nat} (h : n < cs.length) : cs.take (n + 1) = cs.take n ++ [cs.getD n 0] := by
  rw [List.take_succ, List.getD_eq_getElem?_getD, List.getElem?_eq_getElem h]
  rfl
theorem fAt_spec {cs : List Nat} : ∀ n, n < cs.length → fAt cs (n + 1) ≤ n ∧ Fst (cs.take (n + 1)) (cs.take (fAt cs (n + 1))) (cs.getD (fAt cs (n + 1)) 0)
  | 0, h => by
    have e : fAt cs 1 = 0 := by
      unfold fAt
      rw [if_neg (by simp)]
    rw [e]
    refine ⟨Nat.le_refl _, ⟨⟨[], ?_, fun c hc => by cases hc⟩, by simp⟩⟩
    rw [take_snoc h]
  | n + 1, h => by
    obtain ⟨h1, ⟨⟨x, h2, h3⟩, h4⟩⟩ := fAt_spec (cs := cs) n (by omega)
    by_cases hm : cs.getD (n + 1) 0 ∈ cs.take (n + 1)
    · have e : fAt cs (n + 1 + 1) = fAt cs (n + 1) := by
        rw [fAt]
        rw [if_pos hm]
      rw [e]
      refine ⟨by omega, ⟨⟨x ++ [cs.getD (n + 1) 0], ?_, fun c hc => ?_⟩, h4⟩⟩
      · rw [take_snoc h]
        conv => lhs; rw [h2]
        simp
      · rcases List.mem_append.mp hc with z | z
        · exact h3 c z
        · obtain rfl := List.mem_singleton.mp z
          rw [h2] at hm
          rcases List.mem_append.mp hm with q | q
          · exact .inl q
          · rcases List.mem_cons.mp q with q | q
            · exact .inr q
            · exact h3 _ q
    · have e : fAt cs (n + 1 + 1) = n + 1 := by
        rw [fAt]
        rw [if_neg hm]
      rw [e]
      exact ⟨Nat.le_refl _, ⟨⟨[], take_snoc h, fun c hc => by cases hc⟩, hm⟩⟩
theorem fIx_spec {cs : List Nat} (h : cs ≠ []) : fIx cs < cs.length ∧ Fst cs (cs.take (fIx cs)) (cs.getD (fIx cs) 0) := by
  obtain ⟨n, hn⟩ : ∃ n, cs.length = n + 1 := by
    cases cs with
    | nil => exact absurd rfl h
    | cons a r => exact ⟨_, rfl⟩
  obtain ⟨h1, h2⟩ := fAt_spec (cs := cs) n (by omega)
  have e : fIx cs = fAt cs (n + 1) := by
    unfold fIx
    rw [hn]
  rw [List.take_of_length_le (Nat.le_of_eq hn)] at h2
  rw [e]
  exact ⟨by omega, h2⟩
theorem fst_ex {cs : List Nat} (h : cs ≠ []) : ∃ u a, Fst cs u a := ⟨_, _, (fIx_spec h).2⟩
theorem lst_ex {cs : List Nat} (h : cs ≠ []) : ∃ v b, Lst cs b v := by
  obtain ⟨u, a, hf⟩ := fst_ex (cs := cs.reverse) (by simpa using h)
  refine ⟨u.reverse, a, ?_⟩
  unfold Lst
  rwa [List.reverse_reverse]
def tr : Nat → List Nat → Tr
  | 0, _ => .nil
  | n + 1, cs => if cs = [] then .nil else .node (cs.getD (fIx cs) 0) (tr n (cs.take (fIx cs))) (cs.reverse.getD (fIx cs.reverse) 0) (tr n ((cs.reverse.take (fIx cs.reverse)).reverse))
theorem tr_nil : ∀ n, tr n [] = .nil
  | 0 => rfl
  | n + 1 => rfl
theorem tr_node {cs u v : List Nat} {a b : Nat} (n : Nat) (h1 : Fst cs u a) (h2 : Lst cs b v) : tr (n + 1) cs = .node a (tr n u) b (tr n v) := by
  have hne : cs ≠ [] := fun z => by
    have := h1.lt
    rw [z] at this
    exact absurd this (Nat.not_lt_zero _)
  obtain ⟨e1, e2⟩ := h1.uniq (fIx_spec hne).2
  have hr : Lst cs (cs.reverse.getD (fIx cs.reverse) 0) (cs.reverse.take (fIx cs.reverse)).reverse := by
    unfold Lst
    rw [List.reverse_reverse]
    exact (fIx_spec (cs := cs.reverse) (by simpa using hne)).2
  obtain ⟨e3, e4⟩ := h2.uniq hr
  rw [tr, if_neg hne, ← e1, ← e2, ← e3, ← e4]
theorem cov_erase {S u : List Nat} {cs : List Nat} {a : Nat} (hS : ∀ c ∈ cs, c ∈ S) (h : ∀ c, c ∈ cs ↔ c ∈ u ∨ c = a) (ha : a ∉ u) : (∀ c ∈ u, c ∈ S.erase a) ∧ (S.erase a).length + 1 = S.length := by
  refine ⟨fun c hc => (List.mem_erase_of_ne (fun z => ha (by rw [← z]; exact hc))).mpr (hS c ((h c).mpr (.inl hc))), ?_⟩
  have hm := hS a ((h a).mpr (.inr rfl))
  have := List.length_erase_of_mem hm
  have := List.length_pos_of_mem hm
  omega
theorem tr_stable : ∀ (n m : Nat) (S cs : List Nat), (∀ c ∈ cs, c ∈ S) → S.length ≤ n → S.length ≤ m → tr n cs = tr m cs
  | n, m, S, cs, hS, h1, h2 => by
    by_cases hne : cs = []
    · rw [hne, tr_nil, tr_nil]
    · obtain ⟨u, a, hf⟩ := fst_ex hne
      obtain ⟨v, b, hl⟩ := lst_ex hne
      obtain ⟨k1, k2⟩ := cov_erase hS hf.mem hf.2
      obtain ⟨k3, k4⟩ := cov_erase hS hl.mem hl.un.2
      match n, m with
      | 0, _ => omega
      | _ + 1, 0 => omega
      | n + 1, m + 1 => rw [tr_node n hf hl, tr_node m hf hl, tr_stable n m (S.erase a) u k1 (by omega) (by omega), tr_stable n m (S.erase b) v k3 (by omega) (by omega)]
def tt (cs : List Nat) : Tr := tr cs.length cs
theorem tr_tt {n : Nat} {S cs : List Nat} (hS : ∀ c ∈ cs, c ∈ S) (hn : S.length ≤ n) : tr n cs = tt cs := by
  have e1 := tr_stable n (n + cs.length) S cs hS hn (by omega)
  have e2 := tr_stable cs.length (n + cs.length) cs cs (fun _ h => h) (Nat.le_refl _) (by omega)
  unfold tt
  rw [e1, e2]
theorem tt_nil : tt [] = .nil := rfl
theorem tt_node {cs u v : List Nat} {a b : Nat} (h1 : Fst cs u a) (h2 : Lst cs b v) : tt cs = .node a (tt u) b (tt v) := by
  have e : tt cs = tr (cs.length + 1) cs := (tr_tt (S := cs) (fun _ h => h) (by omega)).symm
  have l1 := h1.lt
  have l2 := h2.lt
  rw [e, tr_node _ h1 h2, tr_tt (S := u) (fun _ h => h) (by omega), tr_tt (S := v) (fun _ h => h) (by omega)]
theorem tt_eq_nil {cs : List Nat} : tt cs = .nil ↔ cs = [] := by
  constructor
  · intro h
    apply Classical.byContradiction
    intro hne
    obtain ⟨u, a, hf⟩ := fst_ex hne
    obtain ⟨v, b, hl⟩ := lst_ex hne
    rw [tt_node hf hl] at h
    cases h
  · rintro rfl
    rfl
def Tr.has : Tr → Nat → Prop
  | .nil, _ => False
  | .node a l _ _, c => l.has c ∨ c = a
theorem tt_has : ∀ (n : Nat) (cs : List Nat), cs.length ≤ n → ∀ c, (tt cs).has c ↔ c ∈ cs
  | n, cs, hn, c => by
    by_cases hne : cs = []
    · rw [hne, tt_nil]
      simp [Tr.has]
    · obtain ⟨u, a, hf⟩ := fst_ex hne
      obtain ⟨v, b, hl⟩ := lst_ex hne
      have l1 := hf.lt
      match n with
      | 0 => omega
      | n + 1 => rw [tt_node hf hl, hf.mem, Tr.has, tt_has n u (by omega)]
theorem tt_mem {x y : List Nat} (h : tt x = tt y) (c : Nat) : c ∈ x ↔ c ∈ y := by
  rw [← tt_has _ x (Nat.le_refl _) c, ← tt_has _ y (Nat.le_refl _) c, h]
def Tr.mir : Tr → Tr
  | .nil => .nil
  | .node a l b r => .node b r.mir a l.mir
theorem Tr.mir_mir : ∀ t : Tr, t.mir.mir = t
  | .nil => rfl
  | .node a l b r => by rw [Tr.mir, Tr.mir, Tr.mir_mir l, Tr.mir_mir r]
theorem tt_rev : ∀ (n : Nat) (cs : List Nat), cs.length ≤ n → tt cs.reverse = (tt cs).mir
  | n, cs, hn => by
    by_cases hne : cs = []
    · rw [hne]
      rfl
    · obtain ⟨u, a, hf⟩ := fst_ex hne
      obtain ⟨v, b, hl⟩ := lst_ex hne
      have l1 := hf.lt
      have l2 := hl.lt
      match n with
      | 0 => omega
      | n + 1 =>
        have hl' : Lst cs.reverse a u.reverse := by
          unfold Lst
          rw [List.reverse_reverse, List.reverse_reverse]
          exact hf
        rw [tt_node hf hl, tt_node (cs := cs.reverse) hl hl', Tr.mir, tt_rev n u (by omega), tt_rev n v (by omega)]
theorem tt_revE {x y : List Nat} (h : tt x = tt y) : tt x.reverse = tt y.reverse := by
  rw [tt_rev _ x (Nat.le_refl _), tt_rev _ y (Nat.le_refl _), h]
theorem Fst.app {x z u : List Nat} {a : Nat} (h : Fst x u a) (hz : ∀ c ∈ z, c ∈ x) : Fst (x ++ z) u a := by
  have hm := h.mem
  obtain ⟨⟨w, h1, h2⟩, h3⟩ := h
  refine ⟨⟨w ++ z, by rw [h1]; simp, fun c hc => ?_⟩, h3⟩
  rcases List.mem_append.mp hc with q | q
  · exact h2 c q
  · exact (hm c).mp (hz c q)
theorem Lst.app {x z v : List Nat} {b : Nat} (h : Lst z b v) (hx : ∀ c ∈ x, c ∈ z) : Lst (x ++ z) b v := by
  unfold Lst at *
  rw [List.reverse_append]
  exact h.app fun c hc => List.mem_reverse.mpr (hx c (List.mem_reverse.mp hc))
theorem fst_app {x z u : List Nat} {a : Nat} (h : Fst (x ++ z) u a) : ((∀ c ∈ z, c ∈ x) ∧ Fst x u a) ∨ ∃ z1 w, u = x ++ z1 ∧ z = z1 ++ a :: w ∧ ∀ c ∈ w, c ∈ x ++ z1 ∨ c = a := by
  obtain ⟨⟨w, h1, h2⟩, h3⟩ := h
  rcases List.append_eq_append_iff.mp h1 with ⟨as, e1, e2⟩ | ⟨as, e1, e2⟩
  · exact .inr ⟨as, w, e1, e2, fun c hc => by rw [← e1]; exact h2 c hc⟩
  · cases as with
    | nil =>
      rw [List.nil_append] at e2
      rw [List.append_nil] at e1
      exact .inr ⟨[], w, by rw [e1, List.append_nil], e2.symm, fun c hc => by rw [List.append_nil, e1]; exact h2 c hc⟩
    | cons q as =>
      cases e2
      refine .inl ⟨fun c hc => ?_, ⟨as, e1, fun c hc => h2 c (List.mem_append_left _ hc)⟩, h3⟩
      rw [e1]
      rcases h2 c (List.mem_append_right _ hc) with q | q
      · exact List.mem_append_left _ q
      · rw [q]
        simp
/-- trees alike: so with the same behind -/
theorem tt_right : ∀ (n : Nat) (x y z : List Nat), x.length + y.length + z.length ≤ n → tt x = tt y → tt (x ++ z) = tt (y ++ z)
  | n, x, y, z, hn, h => by
    by_cases hx : x = []
    · have hy : y = [] := by
        rw [hx, tt_nil] at h
        exact tt_eq_nil.mp h.symm
      rw [hx, hy]
    · have hy : y ≠ [] := fun e => by
        rw [e, tt_nil] at h
        exact hx (tt_eq_nil.mp h)
      have hm := tt_mem h
      obtain ⟨u, a, hf⟩ := fst_ex hx
      obtain ⟨v, b, hl⟩ := lst_ex hx
      obtain ⟨u', a', hf'⟩ := fst_ex hy
      obtain ⟨v', b', hl'⟩ := lst_ex hy
      have q := h
      rw [tt_node hf hl, tt_node hf' hl'] at q
      injection q with q1 q2 q3 q4
      subst q1 q3
      have l1 := hf.lt
      have l2 := hl.lt
      have l3 := hf'.lt
      have l4 := hl'.lt
      obtain ⟨U, A, hF⟩ := fst_ex (cs := x ++ z) (fun e => hx (List.append_eq_nil_iff.mp e).1)
      have left : ∃ U', Fst (y ++ z) U' A ∧ tt U = tt U' := by
        rcases fst_app hF with ⟨hz, hF'⟩ | ⟨z1, w, rfl, rfl, hw⟩
        · obtain ⟨rfl, rfl⟩ := hf.uniq hF'
          exact ⟨u', hf'.app fun c hc => (hm c).mp (hz c hc), q2⟩
        · have hn' := hF.2
          refine ⟨y ++ z1, ⟨⟨w, by simp, fun c hc => ?_⟩, fun hc => hn' ?_⟩, ?_⟩
          · rcases hw c hc with e | e
            · rcases List.mem_append.mp e with e | e
              · exact .inl (List.mem_append_left _ ((hm c).mp e))
              · exact .inl (List.mem_append_right _ e)
            · exact .inr e
          · rcases List.mem_append.mp hc with e | e
            · exact List.mem_append_left _ ((hm A).mpr e)
            · exact List.mem_append_right _ e
          · rw [List.length_append, List.length_cons] at hn
            match n with
            | 0 => omega
            | n + 1 => exact tt_right n x y z1 (by omega) h
      have right : ∃ B V V', Lst (x ++ z) B V ∧ Lst (y ++ z) B V' ∧ tt V = tt V' := by
        have ih : tt (v ++ z) = tt (v' ++ z) := by
          match n with
          | 0 => omega
          | n + 1 => exact tt_right n v v' z (by omega) q4
        obtain ⟨⟨x1, e1, e2⟩, e3⟩ := hl.un
        obtain ⟨⟨y1, e1', e2'⟩, e3'⟩ := hl'.un
        by_cases hb : b ∈ z
        · have hvz : v ++ z ≠ [] := fun e => by
            rw [(List.append_eq_nil_iff.mp e).2] at hb
            cases hb
          have hvz' : v' ++ z ≠ [] := fun e => by
            rw [(List.append_eq_nil_iff.mp e).2] at hb
            cases hb
          obtain ⟨V, B, hL⟩ := lst_ex hvz
          obtain ⟨V', B', hL'⟩ := lst_ex hvz'
          obtain ⟨U1, A1, hF1⟩ := fst_ex hvz
          obtain ⟨U1', A1', hF1'⟩ := fst_ex hvz'
          rw [tt_node hF1 hL, tt_node hF1' hL'] at ih
          injection ih with i1 i2 i3 i4
          subst i3
          have g : ∀ {x1 v : List Nat}, (∀ c ∈ x1, c ∈ v ∨ c = b) → ∀ c ∈ x1 ++ [b], c ∈ v ++ z := fun {x1 v} e2 c hc => by
            rcases List.mem_append.mp hc with e | e
            · rcases e2 c e with e | e
              · exact List.mem_append_left _ e
              · rw [e]
                exact List.mem_append_right _ hb
            · rw [List.mem_singleton.mp e]
              exact List.mem_append_right _ hb
          refine ⟨B, V, V', ?_, ?_, i4⟩
          · have := hL.app (x := x1 ++ [b]) (g e2)
            rw [e1]
            simpa using this
          · have := hL'.app (x := y1 ++ [b]) (g e2')
            rw [e1']
            simpa using this
        · have g : ∀ {x x1 v : List Nat}, x = x1 ++ b :: v → (∀ c ∈ x1, c ∈ v ∨ c = b) → b ∉ v → Lst (x ++ z) b (v ++ z) := fun {x x1 v} e1 e2 e3 => by
            refine Lst.of (x := x1) (by rw [e1]; simp) (fun c hc => ?_) (fun e => ?_)
            · rcases e2 c hc with e | e
              · exact .inl (List.mem_append_left _ e)
              · exact .inr e
            · rcases List.mem_append.mp e with e | e
              · exact e3 e
              · exact hb e
          exact ⟨b, v ++ z, v' ++ z, g e1 e2 e3, g e1' e2' e3', ih⟩
      obtain ⟨U', hF', eU⟩ := left
      obtain ⟨B, V, V', hL, hL', eV⟩ := right
      rw [tt_node hF hL, tt_node hF' hL', eU, eV]
theorem tt_appR {x y : List Nat} (z : List Nat) (h : tt x = tt y) : tt (x ++ z) = tt (y ++ z) := tt_right _ x y z (Nat.le_refl _) h
theorem tt_appL {x y : List Nat} (z : List Nat) (h : tt x = tt y) : tt (z ++ x) = tt (z ++ y) := by
  have e := tt_revE (tt_appR z.reverse (tt_revE h))
  simpa using e
theorem tt_app {x y x' y' : List Nat} (h : tt x = tt y) (h' : tt x' = tt y') : tt (x ++ x') = tt (y ++ y') := (tt_appR x' h).trans (tt_appL y h')
/-- a row, anything of its deeds, the row again -/
theorem tt_hold {x y : List Nat} (h : ∀ c ∈ y, c ∈ x) : tt (x ++ y ++ x) = tt x := by
  by_cases hx : x = []
  · subst hx
    have : y = [] := List.eq_nil_iff_forall_not_mem.mpr fun c hc => by cases h c hc
    rw [this]
    rfl
  · obtain ⟨u, a, hf⟩ := fst_ex hx
    obtain ⟨v, b, hl⟩ := lst_ex hx
    have h1 : Fst (x ++ y ++ x) u a := by
      rw [List.append_assoc]
      exact hf.app fun c hc => (List.mem_append.mp hc).elim (h c) id
    have h2 : Lst (x ++ y ++ x) b v := hl.app fun c hc => (List.mem_append.mp hc).elim id (h c)
    rw [tt_node h1 h2, tt_node hf hl]
theorem tt_idem (x : List Nat) : tt (x ++ x) = tt x := by
  have := tt_hold (x := x) (y := []) (fun c hc => by cases hc)
  simpa using this
/-- a stretch doubled -/
theorem tt_dbl (p q r : List Nat) : tt (p ++ q ++ q ++ r) = tt (p ++ q ++ r) := by
  have e := tt_appR r (tt_appL p (tt_idem q))
  simpa using e
/-- deeds left out -/
theorem tt_filter (f : Nat → Bool) : ∀ (n : Nat) (x y : List Nat), x.length + y.length ≤ n → tt x = tt y → tt (x.filter f) = tt (y.filter f)
  | n, x, y, hn, h => by
    by_cases hx : x = []
    · have hy : y = [] := by
        rw [hx, tt_nil] at h
        exact tt_eq_nil.mp h.symm
      rw [hx, hy]
    · have hy : y ≠ [] := fun e => by
        rw [e, tt_nil] at h
        exact hx (tt_eq_nil.mp h)
      have side : ∀ x y : List Nat, x ≠ [] → y ≠ [] → x.length + y.length ≤ n → tt x = tt y → ∀ U A, Fst (x.filter f) U A → ∃ U', Fst (y.filter f) U' A ∧ tt U = tt U' := by
        intro x y hx hy hn h U A hF
        obtain ⟨u, a, hf⟩ := fst_ex hx
        obtain ⟨v, b, hl⟩ := lst_ex hx
        obtain ⟨u', a', hf'⟩ := fst_ex hy
        obtain ⟨v', b', hl'⟩ := lst_ex hy
        have q := h
        rw [tt_node hf hl, tt_node hf' hl'] at q
        injection q with q1 q2 q3 q4
        subst q1
        have l1 := hf.lt
        have l2 := hf'.lt
        have ih : tt (u.filter f) = tt (u'.filter f) := by
          match n with
          | 0 => omega
          | n + 1 => exact tt_filter f n u u' (by omega) q2
        have keep : ∀ {x u : List Nat}, Fst x u a → f a = true → Fst (x.filter f) (u.filter f) a := fun {x u} hf ha => by
          obtain ⟨⟨w, e1, e2⟩, e3⟩ := hf
          refine ⟨⟨w.filter f, ?_, fun c hc => ?_⟩, fun z => e3 (List.mem_filter.mp z).1⟩
          · rw [e1, List.filter_append, List.filter_cons_of_pos ha]
          · obtain ⟨z1, z2⟩ := List.mem_filter.mp hc
            rcases e2 c z1 with z | z
            · exact .inl (List.mem_filter.mpr ⟨z, z2⟩)
            · exact .inr z
        have drop : ∀ {x u U : List Nat} {A : Nat}, Fst x u a → ¬ f a = true → Fst (u.filter f) U A → Fst (x.filter f) U A := fun {x u U A} hf ha hF => by
          obtain ⟨⟨w, e1, e2⟩, e3⟩ := hf
          rw [e1, List.filter_append, List.filter_cons_of_neg ha]
          refine hF.app fun c hc => ?_
          obtain ⟨z1, z2⟩ := List.mem_filter.mp hc
          rcases e2 c z1 with z | z
          · exact List.mem_filter.mpr ⟨z, z2⟩
          · rw [z] at z2
            exact absurd z2 ha
        by_cases ha : f a = true
        · obtain ⟨rfl, rfl⟩ := hF.uniq (keep hf ha)
          exact ⟨u'.filter f, keep hf' ha, ih⟩
        · have hu : u.filter f ≠ [] := fun e => by
            have z := hF.mem A
            have hA := z.mpr (.inr rfl)
            obtain ⟨z1, z2⟩ := List.mem_filter.mp hA
            rcases (hf.mem A).mp z1 with z3 | z3
            · have : A ∈ u.filter f := List.mem_filter.mpr ⟨z3, z2⟩
              rw [e] at this
              cases this
            · rw [z3] at z2
              exact ha z2
          have hu' : u'.filter f ≠ [] := fun e => by
            rw [e, tt_nil] at ih
            exact hu (tt_eq_nil.mp ih)
          obtain ⟨U1, A1, g1⟩ := fst_ex hu
          obtain ⟨V1, B1, g2⟩ := lst_ex hu
          obtain ⟨U2, A2, g3⟩ := fst_ex hu'
          obtain ⟨V2, B2, g4⟩ := lst_ex hu'
          rw [tt_node g1 g2, tt_node g3 g4] at ih
          injection ih with i1 i2 i3 i4
          subst i1
          obtain ⟨rfl, rfl⟩ := hF.uniq (drop hf ha g1)
          exact ⟨U2, drop hf' ha g3, i2⟩
      by_cases hX : x.filter f = []
      · have hY : y.filter f = [] := by
          rw [List.filter_eq_nil_iff] at hX ⊢
          exact fun c hc => hX c ((tt_mem h c).mpr hc)
        rw [hX, hY]
      · obtain ⟨U, A, hF⟩ := fst_ex hX
        obtain ⟨V, B, hL⟩ := lst_ex hX
        obtain ⟨U', hF', eU⟩ := side x y hx hy hn h U A hF
        have hL2 : Fst (x.reverse.filter f) V.reverse B := by
          rw [List.filter_reverse]
          exact hL
        obtain ⟨W, hW, eW⟩ := side x.reverse y.reverse (by simpa using hx) (by simpa using hy) (by simpa using hn) (tt_revE h) V.reverse B hL2
        have hL' : Lst (y.filter f) B W.reverse := by
          unfold Lst
          rw [List.reverse_reverse, ← List.filter_reverse]
          exact hW
        have eV : tt V = tt W.reverse := by
          have := tt_revE eW
          rwa [List.reverse_reverse] at this
        rw [tt_node hF hL, tt_node hF' hL', eU, eV]
end SM
namespace SM
open PySem L2
/-! ## trees as data -/
def Tr.D : Tr → SM.D
  | .nil => .tuple []
  | .node a l b r => .tuple [cpD a, l.D, cpD b, r.D]
theorem cpD_eqv (a b : Nat) : PyData.eqv (cpD a) (cpD b) = decide (a = b) := by
  show (((⟨#[a]⟩ : Str)) == (⟨#[b]⟩ : Str)) = decide (a = b)
  by_cases h : a = b
  · subst h
    simp
  · rw [decide_eq_false h]
    apply beq_eq_false_iff_ne.mpr
    intro z
    apply h
    have := congrArg (fun x : Str => x.cps.toList) z
    simpa using this
theorem eqv_tr : ∀ t t' : Tr, PyData.eqv t.D t'.D = decide (t = t')
  | .nil, .nil => rfl
  | .nil, .node a l b r => by
    rw [Tr.D, Tr.D, PyData.eqv, PyData.eqvAll]
    rfl
  | .node a l b r, .nil => by
    rw [Tr.D, Tr.D, PyData.eqv, PyData.eqvAll]
    rfl
  | .node a l b r, .node a' l' b' r' => by
    rw [Tr.D, Tr.D, PyData.eqv, PyData.eqvAll, PyData.eqvAll, PyData.eqvAll, PyData.eqvAll, PyData.eqvAll, cpD_eqv, cpD_eqv, eqv_tr l l', eqv_tr r r', Bool.eq_iff_iff]
    simp
def Tr.fit : Nat → Tr → Prop
  | _, .nil => True
  | 0, .node _ _ _ _ => False
  | n + 1, .node a l b r => a < 0x110000 ∧ b < 0x110000 ∧ l.fit n ∧ r.fit n
theorem tt_fit : ∀ (n : Nat) (S cs : List Nat), (∀ c ∈ cs, c ∈ S) → S.length ≤ n → (∀ c ∈ S, c < 0x110000) → (tt cs).fit n
  | n, S, cs, hS, hn, hc => by
    by_cases hne : cs = []
    · rw [hne, tt_nil]
      cases n <;> trivial
    · obtain ⟨u, a, hf⟩ := fst_ex hne
      obtain ⟨v, b, hl⟩ := lst_ex hne
      obtain ⟨k1, k2⟩ := cov_erase hS hf.mem hf.2
      obtain ⟨k3, k4⟩ := cov_erase hS hl.mem hl.un.2
      match n with
      | 0 => omega
      | n + 1 =>
        rw [tt_node hf hl]
        exact ⟨hc a (hS a ((hf.mem a).mpr (.inr rfl))), hc b (hS b ((hl.mem b).mpr (.inr rfl))), tt_fit n (S.erase a) u k1 (by omega) (fun c h => hc c (List.mem_of_mem_erase h)), tt_fit n (S.erase b) v k3 (by omega) (fun c h => hc c (List.mem_of_mem_erase h))⟩
theorem cmp_tr : ∀ (n : Nat) (t : Tr), t.fit n → cmpOk (n + 1) t.D = true
  | n, .nil, _ => by rw [Tr.D, cmpOk, cmpOks]
  | 0, .node _ _ _ _, h => h.elim
  | n + 1, .node a l b r, ⟨h1, h2, h3, h4⟩ => by
    have e1 : cmpOk (n + 1) (cpD a) = true := by simp [cpD, cmpOk, okStr, h1]
    have e2 : cmpOk (n + 1) (cpD b) = true := by simp [cpD, cmpOk, okStr, h2]
    rw [Tr.D, cmpOk, cmpOks, cmpOks, cmpOks, cmpOks, cmpOks, e1, e2, cmp_tr n l h3, cmp_tr n r h4]
    rfl
theorem cmpOk_mono : ∀ (n m : Nat) (d : SM.D), n ≤ m → cmpOk n d = true → cmpOk m d = true
  | n, m, .none, _, _ => by simp [cmpOk]
  | n, m, .bool _, _, _ => by simp [cmpOk]
  | n, m, .int _, _, _ => by simp [cmpOk]
  | n, m, .str x, _, h => by
    simp only [cmpOk] at h ⊢
    exact h
  | n, m, .dict ds, _, h => by cases n <;> simp [cmpOk] at h
  | 0, m, .list ds, _, h => by simp [cmpOk] at h
  | 0, m, .tuple ds, _, h => by simp [cmpOk] at h
  | n + 1, 0, .list ds, h, _ => by omega
  | n + 1, 0, .tuple ds, h, _ => by omega
  | n + 1, m + 1, .list ds, h, k => by
    rw [cmpOk] at k ⊢
    exact go n m ds (by omega) k
  | n + 1, m + 1, .tuple ds, h, k => by
    rw [cmpOk] at k ⊢
    exact go n m ds (by omega) k
where
  go : ∀ (n m : Nat) (ds : List SM.D), n ≤ m → cmpOks n ds = true → cmpOks m ds = true
  | n, m, [], _, _ => by rw [cmpOks]
  | n, m, d :: ds, h, k => by
    rw [cmpOks, Bool.and_eq_true] at k ⊢
    exact ⟨cmpOk_mono n m d h k.1, go n m ds h k.2⟩
theorem D_tup : ∀ t : Tr, ∃ xs, t.D = .tuple xs
  | .nil => ⟨_, rfl⟩
  | .node _ _ _ _ => ⟨_, rfl⟩
theorem aEq_tr {t t' : Tr} (h : t.fit 60) (h' : t'.fit 60) : aEq t.D t'.D = some (.dat (.bool (decide (t = t')))) := by
  have s1 := shaped_of (cmpOk_mono 61 64 _ (by decide) (cmp_tr 60 t h))
  have s2 := shaped_of (cmpOk_mono 61 64 _ (by decide) (cmp_tr 60 t' h'))
  have e : qEq t.D t'.D = some (PyData.eqv t.D t'.D) := by
    obtain ⟨xs, hx⟩ := D_tup t
    obtain ⟨ys, hy⟩ := D_tup t'
    rw [hx] at s1 ⊢
    rw [hy] at s2 ⊢
    show (if SeqAt.shaped (.tuple xs) && SeqAt.shaped (.tuple ys) then some _ else none) = _
    rw [s1, s2]
    rfl
  rw [aEq_eq, e, eqv_tr]
  rfl
theorem fit_mono : ∀ (n m : Nat) (t : Tr), n ≤ m → t.fit n → t.fit m
  | n, m, .nil, _, _ => by cases m <;> trivial
  | 0, m, .node _ _ _ _, _, h => h.elim
  | n + 1, 0, .node _ _ _ _, h, _ => by omega
  | n + 1, m + 1, .node a l b r, h, ⟨h1, h2, h3, h4⟩ => ⟨h1, h2, fit_mono n m l (by omega) h3, fit_mono n m r (by omega) h4⟩
/-! ## find, rfind of a sign -/
theorem find_tx (cs : List Nat) (c : Nat) : (c ∉ cs ∧ Txt.find (tx cs) ⟨#[c]⟩ = -1) ∨ ∃ i : Nat, Txt.find (tx cs) ⟨#[c]⟩ = (i : Int) ∧ cs[i]? = some c ∧ ∀ k, k < i → cs[k]? ≠ some c := by
  have at_ : ∀ i, StrLaws.At (tx cs) ⟨#[c]⟩ (tx cs).length i ↔ cs[i]? = some c := fun i => StrLaws.subAt_one (tx cs) c i
  rcases PyProof.Rows.find_whole (tx cs) ⟨#[c]⟩ with ⟨h1, h2⟩ | ⟨i, h1, h2, h3⟩
  · refine .inl ⟨fun hm => ?_, h1⟩
    obtain ⟨i, hi⟩ := List.mem_iff_getElem?.mp hm
    exact h2 i ((at_ i).mpr hi)
  · exact .inr ⟨i, h1, (at_ i).mp h2, fun k hk e => h3 k hk ((at_ k).mpr e)⟩
theorem rfind_tx (cs : List Nat) (c : Nat) : (c ∉ cs ∧ Txt.rfind (tx cs) ⟨#[c]⟩ = -1) ∨ ∃ i : Nat, Txt.rfind (tx cs) ⟨#[c]⟩ = (i : Int) ∧ cs[i]? = some c ∧ ∀ k, i < k → cs[k]? ≠ some c := by
  have at_ : ∀ i, StrLaws.At (tx cs) ⟨#[c]⟩ (tx cs).length i ↔ cs[i]? = some c := fun i => StrLaws.subAt_one (tx cs) c i
  unfold Txt.rfind
  rcases StrLaws.last_spec (tx cs) ⟨#[c]⟩ with ⟨h1, h2⟩ | ⟨i, h1, h2, h3⟩
  · rw [h1]
    refine .inl ⟨fun hm => ?_, rfl⟩
    obtain ⟨i, hi⟩ := List.mem_iff_getElem?.mp hm
    exact h2 i ((at_ i).mpr hi)
  · rw [h1]
    exact .inr ⟨i, rfl, (at_ i).mp h2, fun k hk e => h3 k hk ((at_ k).mpr e)⟩
theorem maxOf_is {p : Int} : ∀ {ns : List Int}, p ∈ ns → (∀ n ∈ ns, n ≤ p) → maxOf ns = some p
  | [], h, _ => by cases h
  | [a], h, _ => by
    rw [List.mem_singleton.mp h]
    rfl
  | a :: b :: r, h, hl => by
    have e : maxOf (a :: b :: r) = (maxOf (b :: r)).map fun m => if a < m then m else a := rfl
    rw [e]
    have ha := hl a List.mem_cons_self
    by_cases hm : p ∈ b :: r
    · rw [maxOf_is hm fun n hn => hl n (List.mem_cons_of_mem _ hn), Option.map_some]
      congr 1
      split <;> omega
    · have hp : p = a := (List.mem_cons.mp h).resolve_right hm
      subst hp
      obtain ⟨q, hq, hq2⟩ := max_ex (b :: r) (by simp)
      rw [maxOf_is hq hq2, Option.map_some]
      congr 1
      have := hl q (List.mem_cons_of_mem _ hq)
      split <;> omega
where
  max_ex : ∀ (ns : List Int), ns ≠ [] → ∃ p ∈ ns, ∀ n ∈ ns, n ≤ p
  | [], h => absurd rfl h
  | [a], _ => ⟨a, List.mem_cons_self, fun n hn => by rw [List.mem_singleton.mp hn]; exact Int.le_refl _⟩
  | a :: b :: r, _ => by
    obtain ⟨p, h1, h2⟩ := max_ex (b :: r) (by simp)
    by_cases h : a ≤ p
    · exact ⟨p, List.mem_cons_of_mem _ h1, fun n hn => (List.mem_cons.mp hn).elim (fun e => e ▸ h) (h2 n)⟩
    · exact ⟨a, List.mem_cons_self, fun n hn => (List.mem_cons.mp hn).elim (fun e => e ▸ Int.le_refl _) (fun e => by have := h2 n e; omega)⟩
theorem minOf_is {p : Int} : ∀ {ns : List Int}, p ∈ ns → (∀ n ∈ ns, p ≤ n) → minOf ns = some p
  | [], h, _ => by cases h
  | [a], h, _ => by
    rw [List.mem_singleton.mp h]
    rfl
  | a :: b :: r, h, hl => by
    have e : minOf (a :: b :: r) = (minOf (b :: r)).map fun m => if m < a then m else a := rfl
    rw [e]
    have ha := hl a List.mem_cons_self
    by_cases hm : p ∈ b :: r
    · rw [minOf_is hm fun n hn => hl n (List.mem_cons_of_mem _ hn), Option.map_some]
      congr 1
      split <;> omega
    · have hp : p = a := (List.mem_cons.mp h).resolve_right hm
      subst hp
      obtain ⟨q, hq, hq2⟩ := min_ex (b :: r) (by simp)
      rw [minOf_is hq hq2, Option.map_some]
      congr 1
      have := hl q (List.mem_cons_of_mem _ hq)
      split <;> omega
where
  min_ex : ∀ (ns : List Int), ns ≠ [] → ∃ p ∈ ns, ∀ n ∈ ns, p ≤ n
  | [], h => absurd rfl h
  | [a], _ => ⟨a, List.mem_cons_self, fun n hn => by rw [List.mem_singleton.mp hn]; exact Int.le_refl _⟩
  | a :: b :: r, _ => by
    obtain ⟨p, h1, h2⟩ := min_ex (b :: r) (by simp)
    by_cases h : p ≤ a
    · exact ⟨p, List.mem_cons_of_mem _ h1, fun n hn => (List.mem_cons.mp hn).elim (fun e => e ▸ h) (h2 n)⟩
    · exact ⟨a, List.mem_cons_self, fun n hn => (List.mem_cons.mp hn).elim (fun e => e ▸ Int.le_refl _) (fun e => by have := h2 n e; omega)⟩
theorem first_max {L cs u : List Nat} {a : Nat} (h : Fst cs u a) (hL : ∀ c ∈ cs, c ∈ L) : maxOf (L.map fun c => Txt.find (tx cs) ⟨#[c]⟩) = some (u.length : Int) := by
  have hm := h.mem
  obtain ⟨⟨x, h1, h2⟩, h3⟩ := h
  have ga : cs[u.length]? = some a := by rw [h1]; simp
  have gu : ∀ k, k < u.length → cs[k]? = u[k]? := fun k hk => by rw [h1, List.getElem?_append_left hk]
  refine maxOf_is (List.mem_map.mpr ⟨a, hL a ((hm a).mpr (.inr rfl)), ?_⟩) fun n hn => ?_
  · rcases find_tx cs a with ⟨q, _⟩ | ⟨i, q1, q2, q3⟩
    · exact absurd ((hm a).mpr (.inr rfl)) q
    · rw [q1]
      have e1 : ¬ i < u.length := fun hi => by
        rw [gu i hi] at q2
        exact h3 (List.mem_of_getElem? q2)
      have e2 : ¬ u.length < i := fun hi => q3 _ hi ga
      omega
  · obtain ⟨c, hc, rfl⟩ := List.mem_map.mp hn
    rcases find_tx cs c with ⟨_, q⟩ | ⟨i, q1, q2, q3⟩
    · rw [q]
      omega
    · rw [q1]
      have hci : c ∈ cs := List.mem_of_getElem? q2
      rcases (hm c).mp hci with z | z
      · obtain ⟨k, hk⟩ := List.mem_iff_getElem?.mp z
        have hk2 : k < u.length := (List.getElem?_eq_some_iff.mp hk).1
        have : ¬ k < i := fun hi => q3 k hi (by rw [gu k hk2]; exact hk)
        omega
      · subst z
        have : ¬ u.length < i := fun hi => q3 _ hi ga
        omega
theorem last_min {L cs v : List Nat} {b : Nat} (h : Lst cs b v) (hL : ∀ c ∈ cs, c ∈ L) : minOf ((L.filter fun c => decide (c ∈ cs)).map fun c => Txt.rfind (tx cs) ⟨#[c]⟩) = some ((cs.length : Int) - 1 - v.length) := by
  have hm := h.mem
  have hlt := h.lt
  obtain ⟨⟨x, h1, h2⟩, h3⟩ := h.un
  have lx : x.length + 1 + v.length = cs.length := by rw [h1]; simp; omega
  have gb : cs[x.length]? = some b := by rw [h1]; simp
  have gv : ∀ k, cs[x.length + 1 + k]? = v[k]? := fun k => by
    rw [h1, List.getElem?_append_right (by omega)]
    have : x.length + 1 + k - x.length = k + 1 := by omega
    rw [this]
    rfl
  have e : (cs.length : Int) - 1 - v.length = (x.length : Int) := by omega
  rw [e]
  refine minOf_is (List.mem_map.mpr ⟨b, List.mem_filter.mpr ⟨hL b ((hm b).mpr (.inr rfl)), decide_eq_true ((hm b).mpr (.inr rfl))⟩, ?_⟩) fun n hn => ?_
  · rcases rfind_tx cs b with ⟨q, _⟩ | ⟨i, q1, q2, q3⟩
    · exact absurd ((hm b).mpr (.inr rfl)) q
    · rw [q1]
      have e1 : ¬ x.length < i := fun hi => by
        have := gv (i - x.length - 1)
        have e : x.length + 1 + (i - x.length - 1) = i := by omega
        rw [e, q2] at this
        exact h3 (List.mem_of_getElem? this.symm)
      have e2 : ¬ i < x.length := fun hi => q3 _ hi gb
      omega
  · obtain ⟨c, hc, rfl⟩ := List.mem_map.mp hn
    have hci : c ∈ cs := of_decide_eq_true (List.mem_filter.mp hc).2
    rcases rfind_tx cs c with ⟨q, _⟩ | ⟨i, q1, q2, q3⟩
    · exact absurd hci q
    · rw [q1]
      rcases (hm c).mp hci with z | z
      · obtain ⟨k, hk⟩ := List.mem_iff_getElem?.mp z
        have : ¬ i < x.length + 1 + k := fun hi => q3 _ hi (by rw [gv]; exact hk)
        omega
      · subst z
        have : ¬ i < x.length := fun hi => q3 _ hi gb
        omega
theorem aMax_ints {α : Type} (F : α → Int) {xs : List α} {m : Int} (h : maxOf (xs.map F) = some m) : aMax [.list (xs.map fun x => PyData.int (F x))] = some (.dat (.int m)) := by
  have e : intsOf (xs.map fun x => PyData.int (F x)) = some (xs.map F) := intsOf_map F xs
  show (intsOf (xs.map fun x => PyData.int (F x))).bind _ = _
  rw [e]
  show (maxOf (xs.map F)).map _ = _
  rw [h]
  rfl
theorem aMin_ints {α : Type} (F : α → Int) {xs : List α} {m : Int} (h : minOf (xs.map F) = some m) : aMin [.list (xs.map fun x => PyData.int (F x))] = some (.dat (.int m)) := by
  have e : intsOf (xs.map fun x => PyData.int (F x)) = some (xs.map F) := intsOf_map F xs
  show (intsOf (xs.map fun x => PyData.int (F x))).bind _ = _
  rw [e]
  show (minOf (xs.map F)).map _ = _
  rw [h]
  rfl
end SM
namespace SM
open PySem PySem.Spec PyProof.Rows L2
/-! ## sorted of a text -/
def chS (x : Str) : List Str := x.cps.toList.map fun c => (⟨#[c]⟩ : Str)
section
variable {X : Cx} {Y : GY} {W : WX}
theorem cr_sortedX (hc : X.calm = true) : CallR X (.builtin "sorted") (fun xs H Q => ∃ x : Str, xs = [.str x] ∧ x.cps.size < 64 ∧ ∀ ys p, ys.Perm (chS x) → sortedS ys = true → H p = none → Q (.ref p) (upd H p (.lst (ys.map V.str)))) := by
  rintro pins s σ H xs us Q I r ⟨x, rfl, h64, q⟩
  obtain ⟨u, rfl, rx⟩ := r.one
  obtain ⟨t, rfl⟩ := rx
  refine Calls.call_function_entry PyProof.Rows.kind_sorted PyProof.Rows.plain_sorted PyProof.Rows.entry_sorted (PyProof.Rows.args_sorted1 _) ?_
  unfold Builtin.«sorted»
  refine wpAny_bind (m := checkCount "sorted" 1 1 _) (wpAny_pure (wpAny_bind (wpAny_collect_str (A := X.A.in1) (I.ok.hd hc) x t (fun s' acc hk hg hd hos hacc => ?_) (by rw [sizeLine_eq]; omega))))
  obtain ⟨h', g', d', tk, os'⟩ := s'
  obtain rfl : g' = s.gens := hg
  obtain rfl : d' = s.drawn := hd
  obtain rfl : os' = s.os := hos
  have hk : ∀ b o, s.heap.get? b = some o → h'.get? b = some o := hk
  have lc : (chS x).length = x.cps.size := by rw [chS, List.length_map, Array.length_toList]
  have hal : acc.toList.length = (chS x).length := by rw [Array.length_toList, hacc.1, lc]
  have hS : StrsAre acc.toList (chS x) := strs_at hal fun j v e => by
    obtain ⟨c, u, e1, e2⟩ := hacc.2 j v (by rw [← Array.getElem?_toList]; exact e)
    exact ⟨⟨#[c]⟩, u, by rw [chS, List.getElem?_map, Array.getElem?_toList, e1]; rfl, e2⟩
  have I1 : Inv X pins σ H { s with heap := h', toks := tk } := I.kept hk
  refine wpAny_bind (wpAny_newList ?_ (by rw [hal, lc, sizeLine_eq]; omega))
  have hoL : (h'.push (seqObj "list" acc.toList.toArray 0)).get? h'.objs.size = some (seqObj "list" acc.toList.toArray 0) := Heap.get?_push_size _ rfl
  show wpAny _ _ _ _ _ { s with heap := h'.push (seqObj "list" acc.toList.toArray 0), toks := tk }
  refine wpAny_bind (wpAny_holding (wpAny_call_entry PyProof.Rows.slot_list_sort ⟨_, hoL, rfl⟩ PyProof.Rows.entry_list_sort
    (list_sort_treeK strKind_oneLt (s := { s with heap := h'.push (seqObj "list" acc.toList.toArray 0), toks := tk }) hoL hS.keysOf (fun v₁ v₂ rest e => keyKind_strs (by rw [← e]; exact hS)) (by rw [hal, lc]; exact h64) fun st' hp hs => ⟨_, rfl, ?_⟩) (PyProof.Rows.args_list_sort _)))
  obtain ⟨ys, g1, g2, g3⟩ := sorted_out_str hS hp hs
  obtain ⟨e', he'⟩ := PyProof.Rows.sortedHeap_at (vs := acc.toList) (out := (arrOf st').map (·.2)) hoL
  have hlen : (ys.map V.str).length ≤ sizeLine := by
    rw [List.length_map, g2.length_eq, lc, sizeLine_eq]
    omega
  refine wpAny_pure ⟨_, rfl, .ref h'.objs.size, upd H h'.objs.size (.lst (ys.map V.str)), I1.laid (t' := tk) (fun b u e => ?_) (Nat.le_refl _)
    (show ObjOk X.prog X.w _ _ _ (.lst (ys.map V.str)) from ⟨hlen, ((arrOf st').map (·.2)).toList, e', vals_of_strs g1, by rw [Array.toArray_toList]; exact he'⟩), rfl, q ys _ g2 g3 (I1.hok.fresh (Nat.le_refl _))⟩
  have hb : b < h'.objs.size := Heap.lt_size e
  rw [PyProof.Rows.sortedHeap_old (Nat.ne_of_lt hb) (by rw [size_push']; exact Nat.lt_succ_of_lt hb)]
  exact Heap.get?_push_of_some _ e
def aSortedA : List D → Option PV
  | [.str x] => if x.cps.size < 64 then some (.own ((isort leS (chS x)).map .str)) else none
  | ds => aSorted ds
theorem fd_sortedA (hc : X.calm = true) : FnD X Y (.builtin "sorted") aSortedA := by
  intro pins s σ H vs us Q I rv h
  obtain ⟨S, ds, p, rfl, ok, hl, ho, q⟩ := h
  unfold aSortedA at ho
  split at ho
  · rename_i x
    split at ho
    · rename_i h64
      cases ho
      obtain ⟨v, rfl, h1⟩ := hl.one
      obtain rfl := h1.str
      refine cr_sortedX hc pins s σ S.H _ us Q I rv ⟨x, rfl, h64, fun ys pp h1 h2 hp => ?_⟩
      rw [srtS_uniq h1 h2]
      exact end_lst ok q (repAll_strs _) hp
    · cases ho
  · exact fd_sorted pins s σ S.H vs us Q I rv ⟨S, _, p, rfl, ok, hl, ho, q⟩
end
@[simp] theorem aSortedA_list (ds : List D) : aSortedA [.list ds] = aSorted [.list ds] := rfl
/-! ### the signs of a row, ascending -/
def leN (a b : Nat) : Bool := decide (a ≤ b)
theorem leS_one (a b : Nat) : leS (⟨#[a]⟩ : Str) (⟨#[b]⟩ : Str) = leN a b := by
  show leL [a] [b] = decide (a ≤ b)
  rw [Bool.eq_iff_iff, decide_eq_true_eq]
  unfold leL
  rw [decide_eq_true_eq, List.cons_le_cons_iff]
  constructor
  · rintro (h | ⟨h, _⟩) <;> omega
  · intro h
    by_cases e : a = b
    · exact .inr ⟨e, List.le_refl _⟩
    · exact .inl (by omega)
theorem insB_map {α β : Type} {le : β → β → Bool} {le' : α → α → Bool} {f : α → β} (h : ∀ a b, le (f a) (f b) = le' a b) (x : α) : ∀ l : List α, insB le (f x) (l.map f) = (insB le' x l).map f
  | [] => rfl
  | y :: l => by
    rw [List.map_cons, insB, insB, h]
    cases le' x y
    · rw [if_neg Bool.false_ne_true, if_neg Bool.false_ne_true, insB_map h x l]
      rfl
    · rfl
theorem isort_map {α β : Type} {le : β → β → Bool} {le' : α → α → Bool} {f : α → β} (h : ∀ a b, le (f a) (f b) = le' a b) : ∀ l : List α, isort le (l.map f) = (isort le' l).map f
  | [] => rfl
  | x :: l => by
    rw [List.map_cons, isort, isort, isort_map h l, insB_map h]
theorem aSortedA_tx {cs : List Nat} (h : cs.length < 64) : aSortedA [.str (tx cs)] = some (.own ((isort leN cs).map cpD)) := by
  show (if (tx cs).cps.size < 64 then some (PV.own ((isort leS (chS (tx cs))).map .str)) else none) = _
  rw [if_pos (by show cs.toArray.size < 64; rw [List.size_toArray]; exact h)]
  have e : chS (tx cs) = cs.map fun c => (⟨#[c]⟩ : Str) := rfl
  rw [e, isort_map leS_one, List.map_map]
  rfl
end SM
namespace SM
open PySem L2
/-! ## a loop that may return -/
theorem go_find {g : SG} {b : SS} (P : Nat → SEnv → Prop) (F : Nat → Option PV) (ds : List D) (step : ∀ i d e, ds[i]? = some d → P i e → ∃ e1, g d e = some e1 ∧ ((F i = none ∧ ∃ e', (b e1 = .ok .nx e' ∨ b e1 = .ok .ct e') ∧ P (i + 1) e') ∨ ∃ v e', F i = some v ∧ b e1 = .ok (.rt v) e')) :
    ∀ (i : Nat) (e : SEnv), i ≤ ds.length → P i e → (((List.range' i (ds.length - i)).findSome? F = none ∧ ∃ e', sForGo g b (ds.drop i) e = .ok .nx e' ∧ P ds.length e') ∨ ∃ v e', (List.range' i (ds.length - i)).findSome? F = some v ∧ sForGo g b (ds.drop i) e = .ok (.rt v) e') := by
  intro i
  induction h : ds.length - i generalizing i with
  | zero =>
    intro e hi p
    have : i = ds.length := by omega
    subst this
    exact .inl ⟨rfl, e, by rw [List.drop_length]; rfl, p⟩
  | succ n ih =>
    intro e hi p
    have hlt : i < ds.length := by omega
    obtain ⟨e1, h1, h2⟩ := step i ds[i] e (List.getElem?_eq_getElem hlt) p
    rw [List.range'_succ, List.findSome?_cons, List.drop_eq_getElem_cons hlt, sForGo_cons, h1]
    rcases h2 with ⟨hF, e', hb, hP⟩ | ⟨v, e', hF, hb⟩
    · rw [hF]
      rcases ih (i + 1) (by omega) e' hlt hP with ⟨k1, e'', k2, k3⟩ | ⟨v, e'', k1, k2⟩
      · refine .inl ⟨k1, e'', ?_, k3⟩
        show (b e1).bind _ = _
        rcases hb with hb | hb <;> · rw [hb]; exact k2
      · refine .inr ⟨v, e'', k1, ?_⟩
        show (b e1).bind _ = _
        rcases hb with hb | hb <;> · rw [hb]; exact k2
    · rw [hF]
      refine .inr ⟨v, e', rfl, ?_⟩
      show (b e1).bind _ = _
      rw [hb]
      rfl
theorem for_find {f : SI} {g : SG} {b : SS} {e e1 : SEnv} {ds : List D} (P : Nat → SEnv → Prop) (F : Nat → Option PV) (hf : f e = .ok ds e1) (h0 : P 0 e1) (step : ∀ i d e, ds[i]? = some d → P i e → ∃ e1, g d e = some e1 ∧ ((F i = none ∧ ∃ e', (b e1 = .ok .nx e' ∨ b e1 = .ok .ct e') ∧ P (i + 1) e') ∨ ∃ v e', F i = some v ∧ b e1 = .ok (.rt v) e')) :
    ((List.range ds.length).findSome? F = none ∧ ∃ e', sFor f g b e = .ok .nx e' ∧ P ds.length e') ∨ ∃ v e', (List.range ds.length).findSome? F = some v ∧ sFor f g b e = .ok (.rt v) e' := by
  have := go_find (g := g) (b := b) P F ds step 0 e1 (Nat.zero_le _) h0
  rw [Nat.sub_zero, ← List.range_eq_range', List.drop_zero] at this
  rcases this with ⟨k1, e'', k2, k3⟩ | ⟨v, e'', k1, k2⟩
  · refine .inl ⟨k1, e'', ?_, k3⟩
    show (f e).bind _ = _
    rw [hf]
    exact k2
  · refine .inr ⟨v, e'', k1, ?_⟩
    show (f e).bind _ = _
    rw [hf]
    exact k2
/-- one test behind another -/
theorem if_go {c : ST} {f h : SS} {e e1 : SEnv} {o : Out Fl} (hc : c e = .ok true e1) (k : f e1 = o) : sIfS c f h e = o := by
  show Out.bind (c e) _ = _
  rw [hc]
  exact k
theorem if_no {c : ST} {f h : SS} {e e1 : SEnv} {o : Out Fl} (hc : c e = .ok false e1) (k : h e1 = o) : sIfS c f h e = o := by
  show Out.bind (c e) _ = _
  rw [hc]
  exact k
theorem seq_rt {f g : SS} {e e1 : SEnv} {v : PV} (h : f e = .ok (.rt v) e1) : sSeq f g e = .ok (.rt v) e1 := by
  show (f e).bind _ = _
  rw [h]
  rfl
end SM
namespace SM
open PySem PySem.Spec PyProof.Rows L2
open AutoSeq1 (wpAny_loadPart')
/-! ## enumerate over a tuple -/
set_option maxHeartbeats 1000000 in
theorem meets_enumerate_newO {v : Value} {o : Obj} {H : Heap → Prop} (B : Begins v o H) :
    Meets (Builtin.«enumerate.__new__» ⟨[.type "enumerate", v], []⟩) (fun _ R s => H s.heap ∧
      R (.ok (.ret (.ref (s.heap.push o).objs.size))) { s with heap := (s.heap.push o).push { cls := .type "enumerate", data := .fields #[.none, .bool false, .ref s.heap.objs.size, rawInt 0, .none, .none] } }) :=
  .of_wp fun prog w A R s h => by
    obtain ⟨hp, g, d, tk, os⟩ := s; obtain ⟨h1, h⟩ := h
    have hsub := sub_enumerate
    have q1 : ∀ {A' : Around} {E : Value → Shared → Prop} {Q : Value → Shared → Prop}, Q (.ref hp.objs.size) ⟨hp.push o, g, d, tk, os⟩ → wpAny (model prog w) A' (pyIter v) Q E ⟨hp, g, d, tk, os⟩ :=
      fun q => B.iter prog w _ _ ⟨hp, g, d, tk, os⟩ _ h1 q
    wp_walk using q1
    refine wpAny_stack_any fun st => wpAny_pure ?_
    split
    · rename_i c _ _ _ _ _
      cases (c == Value.type "enumerate")
      · wp_walk using q1
        exact ⟨_, rfl, h⟩
      · wp_walk using q1
        exact ⟨_, rfl, h⟩
    · wp_walk using q1
      exact ⟨_, rfl, h⟩
section
variable {prog : Program} {w : World} {A : Around} {E : Value → Shared → Prop} {s : Shared}
theorem enum_beginsO {v : Value} {o : Obj} {H : Heap → Prop} {Q : Value → Shared → Prop} (B : Begins v o H) (h1 : H s.heap)
    (h : ∀ h', IsEnum h' (s.heap.objs.size + 1) s.heap.objs.size 0 .none → h'.get? s.heap.objs.size = some o → h'.objs.size = s.heap.objs.size + 2 →
      (∀ b o, s.heap.get? b = some o → h'.get? b = some o) → Q (.ref (s.heap.objs.size + 1)) { s with heap := h' }) :
    wpAny (model prog w) A (call (.type "enumerate") [v]) Q E s := by
  refine callType_new F.called_enumerate (by decide) (F.typeCall_enumerate_1 _) (F.newCall_enumerate_1 _) (fun obj => F.args_object_init_2 obj _) F.entry_enumerate_new
    (meets_enumerate_newO B) ⟨h1, ?_⟩
  have hz : (s.heap.push o).objs.size = s.heap.objs.size + 1 := Heap.size_push ..
  show _ ∧ _
  rw [hz]
  have he : IsEnum ((s.heap.push o).push { cls := .type "enumerate", data := .fields #[.none, .bool false, .ref s.heap.objs.size, rawInt 0, .none, .none] }) (s.heap.objs.size + 1) s.heap.objs.size 0 .none := by
    have := Heap.get?_push_size (s.heap.push o) (o := { cls := .type "enumerate", data := .fields #[.none, .bool false, .ref s.heap.objs.size, rawInt 0, .none, .none] }) rfl
    rw [hz] at this; exact this
  refine ⟨⟨_, he, rfl⟩, h _ he (Heap.get?_push_of_some _ (Heap.get?_push_size _ B.free)) (by rw [Heap.size_push, hz]) fun b o x => Heap.get?_push_of_some _ (Heap.get?_push_of_some _ x)⟩
end
def ItpE (K : PySem.W.Frag) (n : Nat) (a : Addr) : It :=
  ⟨fun i H => ∃ (xs : List V) (x : V), SqT K H a xs ∧ xs.length = n ∧ xs[i]? = some x, fun i H v H' => ∃ T x, v = .ref T ∧ H T = none ∧ H' = upd H T (.tup [.int (i : Nat), x]) ∧ ∀ xs, SqT K H a xs → xs[i]? = some x, fun i H => ∃ xs : List V, SqT K H a xs ∧ xs.length = n ∧ n ≤ i⟩
theorem turn_enumT {P : Program} {w : World} {K : PySem.W.Frag} {elts : List Expr} {kk : Nat} {tpos : Pos} (n : Nat) (a e it : Addr) :
    Turn P w K (.Tuple elts kk tpos) (ItpE K n a) [e, it] e (fun i h => (∃ old, IsEnum h e it ((i : Nat) : Int) old) ∧ h.IsTupleIter it a i ∧ e ≠ it ∧ i ≤ n ∧ a ≠ e ∧ a ≠ it) where
  mem := List.mem_cons_self
  obj := fun i h ⟨⟨old, he⟩, ⟨o, ho, hc, hd⟩, _⟩ b hb => by
    rcases List.mem_cons.mp hb with rfl | hb
    · exact ⟨_, he, fun v q => nomatch q⟩
    · cases List.mem_singleton.mp hb
      exact ⟨o, ho, fun v q => by rw [hd] at q; cases q⟩
  keep := fun i h h' ⟨⟨old, he⟩, hi, r⟩ k => ⟨⟨old, k e List.mem_cons_self _ he⟩, hi.at fun o q => k it (List.mem_cons_of_mem _ List.mem_cons_self) o q, r⟩
  item := by
    rintro X rfl rfl rfl hc i pins s σ H E I hf ⟨⟨old, he⟩, hit, hne, hle, hae, hai⟩ ⟨xs, x, hq, hn, hx⟩
    obtain ⟨its, rv, p, hz⟩ := I.tuple hq
    obtain ⟨u, hu, ru⟩ := rv.get hx
    have hel : e < s.heap.objs.size := Heap.lt_size he
    have hil : it < s.heap.objs.size := by obtain ⟨_, q, _⟩ := hit; exact Heap.lt_size q
    have hlt : i < xs.length := (List.getElem?_eq_some_iff.mp hx).1
    have hil2 : i < its.toArray.size := by
      have := rv.length
      simp
      omega
    have D := Draws.tuple (prog := X.prog) (w := X.w) (A := X.A.in1) (I.ok.hd hc) it a hai its.toArray
    refine wpAny_pyNext_enum_itemD D he ⟨hit, show s.heap.IsTuple a its.toArray from p⟩ hil2 hne (fun z => ?_) fun v h' tk hv ho hst' hT hsz hk => ⟨_, rfl, wpAny_letOwnedTupleGo_enum (s := { s with heap := h', toks := tk + 1 }) ho fun h'' he' sb => ?_⟩
    · rcases List.mem_cons.mp z with z | z
      · exact hne z
      · exact hae (List.mem_singleton.mp z).symm
    have hv : its.toArray[i]? = some v := hv
    have hu' : its.toArray[i]? = some u := by simpa using hu
    obtain rfl : v = u := Option.some.inj (hv.symm.trans hu')
    obtain ⟨hit', _⟩ := hst'
    have hT2 : h''.get? s.heap.objs.size = some { cls := .type "tuple", data := .seq #[.int i tk, v] } := (sb.2 _ (Nat.ne_of_gt hel)).trans hT
    have new : ObjOk X.prog X.w (upd H s.heap.objs.size (.tup [.int (i : Nat), x])) h'' s.heap.objs.size (.tup [.int (i : Nat), x]) :=
      ⟨by show 2 ≤ sizeLine; decide, [.int i tk, v], .cons ⟨_, rfl⟩ (.cons ru .nil), ⟨_, hT2, rfl, _, rfl⟩⟩
    have I1 : Inv X pins σ (upd H s.heap.objs.size (.tup [.int (i : Nat), x])) { s with heap := h'', toks := tk + 1 } := by
      refine I.turnedNew (ch := [e, it]) (fun b ob hb q => ?_) hf (Nat.le_refl _) new
      have n1 : b ≠ e := fun z => hb (by simp [z])
      have n2 : b ≠ it := fun z => hb (by simp [z])
      exact (sb.2 b n1).trans (hk b ob n1 n2 q)
    refine ⟨.ref s.heap.objs.size, _, I1, rfl, ⟨_, x, rfl, I.hok.fresh (Nat.le_refl _), rfl, fun ys hy => by rw [I.tuple_inj hy hq]; exact hx⟩, ⟨⟨v, ?_⟩, hit'.at fun o q => (sb.2 it (Ne.symm hne)).trans q, hne, by omega, hae, hai⟩, fun b hb => ?_⟩
    · rw [show ((i + 1 : Nat) : Int) = (i : Int) + 1 by omega]
      exact he'
    · have hb' : b < s.heap.objs.size := by
        rcases List.mem_cons.mp hb with rfl | hb
        · exact hel
        · cases List.mem_singleton.mp hb
          exact hil
      rw [upd_ne (Nat.ne_of_lt hb')]
      exact (hf b hb).1
  done := by
    rintro X rfl rfl rfl hc i pins s σ H E I hf ⟨⟨old, he⟩, hit, hne, hle, hae, hai⟩ ⟨xs, hq, hn, hge⟩
    obtain ⟨its, rv, p, hz⟩ := I.tuple hq
    obtain rfl : i = its.toArray.size := by
      have := rv.length
      simp
      omega
    have D := Draws.tuple (prog := X.prog) (w := X.w) (A := X.A.in1) (I.ok.hd hc) it a hai its.toArray
    obtain ⟨f0, f1, f2, f3, f4, f5⟩ := hf it (List.mem_cons_of_mem _ List.mem_cons_self)
    exact wpAny_pyNext_enum_endD D he ⟨hit, show s.heap.IsTuple a its.toArray from p⟩ fun h' eb => ⟨rfl, I.turned (t' := s.toks) (fun b o hb q => eb b o hb q) f0 f1 f3 f4 f5⟩
  self := fun A i s Q E ⟨⟨_, he⟩, _⟩ h => wpAny_pyIter_enum he h
def iEnumB (K : PySem.W.Frag) (ta : TA) : TI := fun σ H R => ta σ H fun vs H1 => (∃ a xs, vs = [.ref a] ∧ SqL K H1 a xs ∧ R (Ite K a) H1) ∨ (∃ x, vs = [.str x] ∧ R (ItsE x) H1) ∨ ∃ a xs, vs = [.ref a] ∧ SqT K H1 a xs ∧ R (ItpE K xs.length a) H1
theorem pi_enumB {X : Cx} {e : Expr} {ta : TA} {p pos tpos : Pos} {elts : List Expr} {kk : Nat} (hg : Gl X "enumerate") (hm : X.mg "enumerate" = none) (ha : PA X [e] ta) (hs : starEach [e] X.env = [(false, eval e X.env)] := by rfl) :
    PI X (.Tuple elts kk tpos) (.Call (.Name "enumerate" p) [e] [] pos) (iEnumB X.K ta) := ⟨fun pins s σ H R I h => by
  refine Call_ (ld_blt I hg hm boot_enumerate (PyProof.Rows.callWith_type1 (thn (ha.run pos pins s σ H _ I h) fun us s1 ⟨vs, H1, I1, r1, q1⟩ => ?_) hs rfl))
  rcases q1 with ⟨a, xs, rfl, hq, q⟩ | ⟨x, rfl, q⟩ | ⟨a, xs, rfl, hq, q⟩
  · obtain ⟨u, rfl, rfl⟩ := r1.one
    obtain ⟨its, rv, p', hz⟩ := I1.list hq
    refine call_enumerate_list p'.isList fun h' he hit hsz hk => wpAny_pyIter_enum he ⟨s1.heap.objs.size + 1, [s1.heap.objs.size + 1, s1.heap.objs.size], _, _, H1, rfl, I1.kept (t' := s1.toks) hk, turn_enum a (s1.heap.objs.size + 1) s1.heap.objs.size, ⟨⟨.none, he⟩, hit, Nat.succ_ne_self _⟩, fun b hb => ?_, q⟩
    have hle : s1.heap.objs.size ≤ b := by
      rcases List.mem_cons.mp hb with rfl | hb
      · exact Nat.le_add_right _ _
      · cases List.mem_singleton.mp hb
        exact Nat.le_refl _
    exact I1.fpOk hle (I1.hok.fresh hle)
  · obtain ⟨u, rfl, ru⟩ := r1.one
    obtain ⟨t, rfl⟩ := ru
    refine call_enumerate_str fun h' he hit hsz hk => wpAny_pyIter_enum he ⟨s1.heap.objs.size + 1, [s1.heap.objs.size + 1, s1.heap.objs.size], _, _, H1, rfl, I1.kept (t' := s1.toks) hk, turn_enumS (s1.heap.objs.size + 1) s1.heap.objs.size x t, ⟨⟨.none, he⟩, hit, Nat.succ_ne_self _, Nat.zero_le _⟩, fun b hb => ?_, q⟩
    have hle : s1.heap.objs.size ≤ b := by
      rcases List.mem_cons.mp hb with rfl | hb
      · exact Nat.le_add_right _ _
      · cases List.mem_singleton.mp hb
        exact Nat.le_refl _
    exact I1.fpOk hle (I1.hok.fresh hle)
  · obtain ⟨u, rfl, rfl⟩ := r1.one
    obtain ⟨its, rv, p', hz⟩ := I1.tuple hq
    have hal : a < s1.heap.objs.size := by
      have pt : s1.heap.IsTuple a its.toArray := p'
      obtain ⟨o, ho, _⟩ := pt
      exact Heap.lt_size ho
    refine enum_beginsO (begins_tuple a its.toArray) (show s1.heap.IsTuple a its.toArray from p') fun h' he hit hsz hk => wpAny_pyIter_enum he ⟨s1.heap.objs.size + 1, [s1.heap.objs.size + 1, s1.heap.objs.size], _, _, H1, rfl, I1.kept (t' := s1.toks) hk, turn_enumT xs.length a (s1.heap.objs.size + 1) s1.heap.objs.size, ⟨⟨.none, he⟩, ⟨_, hit, rfl, rfl⟩, Nat.succ_ne_self _, Nat.zero_le _, Nat.ne_of_lt (Nat.lt_succ_of_lt hal), Nat.ne_of_lt hal⟩, fun b hb => ?_, q⟩
    have hle : s1.heap.objs.size ≤ b := by
      rcases List.mem_cons.mp hb with rfl | hb
      · exact Nat.le_add_right _ _
      · cases List.mem_singleton.mp hb
        exact Nat.le_refl _
    exact I1.fpOk hle (I1.hok.fresh hle)⟩
theorem walk_enumT {G : GX} {S : SX} {a : Addr} {n : Nat} {ds : List D} (ok : SOk G S) (hn : n = ds.length) (r : Rep G.K S.H S.M (.ref a) (.tuple ds)) : Walk G S (ItpE G.K n a) (enDs 0 ds) := by
  have at_ : ∀ S', SOk G S' → Fr G S S' → ∃ xs, SqT G.K S'.H a xs ∧ RepAll G.K S'.H S'.M xs ds := fun S' ok' f => by
    cases r.carry (f.carry ok) with
    | tup h rr => exact ⟨_, h.sq, rr⟩
  have get : ∀ (i : Nat) (d : D), (enDs 0 ds)[i]? = some d → ∃ d' : D, ds[i]? = some d' ∧ d = .tuple [.int (i : Nat), d'] := fun i d h => by
    rw [enDs_get, Nat.zero_add] at h
    cases q : ds[i]? with
    | none =>
      rw [q] at h
      cases h
    | some d' =>
      rw [q] at h
      cases h
      exact ⟨d', rfl, rfl⟩
  refine ⟨fun S' i ok' f hi => ?_, fun S' i d ok' f hd => ?_, fun S' i d x H' ok' f hd y => ?_⟩
  · obtain ⟨xs, h, rr⟩ := at_ S' ok' f
    refine ⟨xs, h, by rw [rr.length, hn], ?_⟩
    rw [hi, enDs_len, hn]
    exact Nat.le_refl _
  · obtain ⟨xs, h, rr⟩ := at_ S' ok' f
    obtain ⟨d', hd', rfl⟩ := get i d hd
    obtain ⟨v, hv, _⟩ := rr.get hd'
    exact ⟨xs, v, h, by rw [rr.length, hn], hv⟩
  · obtain ⟨xs, h, rr⟩ := at_ S' ok' f
    obtain ⟨d', hd', rfl⟩ := get i d hd
    obtain ⟨v, hv, rv⟩ := rr.get hd'
    obtain ⟨T, w, rfl, hT, rfl, y⟩ := y
    have : some v = some w := hv.symm.trans (y xs h)
    cases this
    exact yld_pair ok' hT (.int _) rv
def enumBK (e : SEnv) : Option (List D) → Out (List D)
  | some [.list ds] => .ok (enDs 0 ds) e
  | some [.str x] => .ok (enDs 0 (strDs x)) e
  | some [.tuple ds] => .ok (enDs 0 ds) e
  | _ => .bad
def sEnumB (os : List Opd) : SI := fun e => (opds os e).bind fun ps e1 => enumBK e1 (datAll ps)
@[simp] theorem sEnumB_eq (os : List Opd) (e : SEnv) : sEnumB os e = (opds os e).bind fun ps e1 => enumBK e1 (datAll ps) := rfl
@[simp] theorem enumBK_list (e : SEnv) (ds : List D) : enumBK e (some [.list ds]) = .ok (enDs 0 ds) e := rfl
@[simp] theorem enumBK_str (e : SEnv) (x : Str) : enumBK e (some [.str x]) = .ok (enDs 0 (strDs x)) e := rfl
@[simp] theorem enumBK_tuple (e : SEnv) (ds : List D) : enumBK e (some [.tuple ds]) = .ok (enDs 0 ds) e := rfl
theorem di_enumB {X : Cx} {Y : GY} {W : WX} {a : Expr} {os : List Opd} {p pos tpos : Pos} {elts : List Expr} {kk : Nat} (hm : X.mg "enumerate" = none) (ha : DenA X Y W [a] os) (hg : Gl X "enumerate" := by rfl) (hs : starEach [a] X.env = [(false, eval a X.env)] := by rfl) :
    DenI X Y W (.Tuple elts kk tpos) (.Call (.Name "enumerate" p) [a] [] pos) (sEnumB os) := by
  refine PI.weak (pi_enumB hg hm ha hs) fun s H Q ⟨M, e, ok, p⟩ => ⟨M, e, ok, Post.mono (Post.bind (R1 := RAs (gx X Y)) shift_rw p) fun vs H1 ⟨ps, e1, M1, ok1, f1, r1, p1⟩ => ?_⟩
  cases q : datAll ps with
  | none =>
    rw [q] at p1
    exact p1.elim
  | some ds =>
    rw [q] at p1
    have ra := datAll_rep r1 q
    unfold enumBK at p1
    split at p1
    · rename_i es heq
      cases heq
      obtain ⟨v, rfl, r⟩ := ra.un1
      cases r with
      | lst h n rr => exact .inl ⟨_, _, rfl, SqL.of h, post_here ok1 p1 _ (walk_enum ok1 (.lst h n rr))⟩
    · rename_i x heq
      cases heq
      obtain ⟨v, rfl, r⟩ := ra.un1
      cases r
      exact .inr (.inl ⟨x, rfl, post_here ok1 p1 _ (walk_enumS x)⟩)
    · rename_i es heq
      cases heq
      obtain ⟨v, rfl, r⟩ := ra.un1
      cases r with
      | tup h rr => exact .inr (.inr ⟨_, _, rfl, h.sq, post_here ok1 p1 _ (walk_enumT ok1 rr.length (.tup h rr))⟩)
    · exact p1.elim
end SM
/-! ## isinstance of a caught error that has a field -/
namespace SMW
open PySem PySem.W PySem.Spec PySem.Calls PyProof.Rows
section
variable {prog : Program} {w : World} {A : Around} {E : Value → Shared → Prop} {s : Shared} {K : Frag} {x D : Addr} {ox : Obj} {od : Option Obj}
theorem find_data {C : Addr} {name : Str} {a g : Value} (hc : (clsIn K C).isSome = true) (ha : findIn K (.ref C) name = some (some a)) (hg : specialIn K a "__get__" = some (some g)) (ht : takesIn K a = some true) : findObj K C od name = some (.bind g a) := by
  obtain ⟨cd, hc⟩ := Option.isSome_iff_exists.mp hc
  unfold findObj
  rw [hc, Option.bind_some, ha, Option.bind_some]
  simp [hg, ht]
theorem kin_classF {Q : Option Value → Shared → Prop} (hga : findIn K (.ref D) "__getattribute__" = some (some (.builtin "BaseException.__getattribute__"))) (hgt : findIn K (.ref D) "__getattr__" = some none) (hsub : subIn K (.ref D) (.type "BaseException") = some true)
    (hdct : hasDictIn K D = true) (ha : findIn K (.ref D) "__class__" = some (some (.builtin "object.__class__")))
    (hn : specialIn K (.builtin "object.__class__") "__get__" = some (some (.builtin "getset_descriptor.__get__"))) (htk : takesIn K (.builtin "object.__class__") = some true) (hm : mroIn K D (.type "object") = some true)
    (X : K.In s.heap) (I : InstAt s.heap x ox D od) (h : Q (some (.ref D)) { s with toks := s.toks + 1 }) : wpAny (model prog w) A (getAttr? (.ref x) "__class__") Q E s := by
  have hf : findObj K D od "__class__" = some (.bind (.builtin "getset_descriptor.__get__") (.builtin "object.__class__")) := find_data (by obtain ⟨cd, hc, _⟩ := any_some hdct; rw [hc]; rfl) ha hn htk
  obtain ⟨hp, g, d, t, os⟩ := s
  have L0 := I.type (M := model prog w)
  have L1 := looks_findIn (M := model prog w) X hga
  have L2 := looks_findIn (M := model prog w) X hgt
  have L3 := looks_find (M := model prog w) X I hf
  have sub : Looks (model prog w) hp (isInstance (.ref x) (.type "BaseException")) true := L0.andThen (looks_subIn X hsub)
  have hx0 : (false && onTheHeap (Value.builtin "BaseException.__getattribute__")) = false := rfl
  have hx2 : (Value.builtin "BaseException.__getattribute__" == Value.builtin "object.__getattribute__") = false := by decide +kernel
  have hx1 : (onTheHeap (Value.ref D) && Value.builtin "BaseException.__getattribute__" == Value.builtin "object.__getattribute__") = false := by rw [hx2]; rfl
  unfold getAttr? getAttrBy? getAttrBy
  refine wpAny_bind (wpAny_mkText (wpAny_bind (wpAny_attempt (wpAny_holding (wpAny_bind (L0.at (wpAny_bind (L1.at ?_))))))))
  show wpAny _ _ (if (onTheHeap (Value.ref D) && Value.builtin "BaseException.__getattribute__" == Value.builtin "object.__getattribute__") = true then _ else _) _ _ _
  rw [hx1, if_neg Bool.false_ne_true]
  unfold getAttrByItsOwn hookBefore
  refine wpAny_bind ?_
  rw [if_pos (show onTheHeap (Value.ref D) = true from rfl)]
  refine L2.at ?_
  refine wpAny_bind (wpAny_attempt (wpAny_holding ?_))
  unfold callGetattribute
  rw [hx0, if_neg Bool.false_ne_true]
  unfold boundAndCalled
  rw [PySem.F.excAttr_ValueError.ga.bind (.ref x)]
  refine wpAny_bind (wpAny_pure ?_)
  show wpAny _ _ (call (.builtin "BaseException.__getattribute__") [.ref x, .str "__class__" t]) _ _ _
  refine wpAny_call (codeAny_call_builtin PySem.F.excAttr_ValueError.ga.plain PySem.F.entry_bexc_ga ?_)
  refine @check_slot (model prog w) _ _ ⟨hp, g, d, t + 1, os⟩ "BaseException.__getattribute__" "BaseException" "__getattribute__" (.ref x) [.str "__class__" t] [] _ (by decide +kernel) (by decide +kernel) sub (PySem.F.args_bexc_ga (.ref x) (.str "__class__" t)) ?_
  unfold Builtin.«object.__getattribute__»
  refine wpAny_bind (wpAny_of_eq (a := ((Value.ref x : Value), [Value.str "__class__" t])) (by first | rfl | (simp only [slotArgs]; rfl)) ?_)
  refine wpAny_bind (wpAny_pure (wpAny_bind (L0.at (wpAny_bind (L3.at ?_)))))
  show wpAny _ _ (holding [Value.builtin "object.__class__"] (call (.builtin "getset_descriptor.__get__") [.builtin "object.__class__", .ref x, .ref D]) >>= ret) _ _ _
  refine wpAny_bind (wpAny_holding (wpAny_call (class_get (s := ⟨hp, g, d, t + 1, os⟩) (ox := ox) (od := od) X I hm ?_)))
  refine wpAny_pure ?_
  show wpAny _ _ (handedOut (.ref D)) _ _ _
  rw [handedOut_of (v := .ref D) rfl]
  first
    | exact wpAny_pure (wpAny_pure h)
    | exact wpAny_pure h
    | exact wpAny_pure (wpAny_bind (wpAny_pure (wpAny_pure h)))
theorem kitx_excF (hga : findIn K (.ref D) "__getattribute__" = some (some (.builtin "BaseException.__getattribute__"))) (hgt : findIn K (.ref D) "__getattr__" = some none) (hsub : subIn K (.ref D) (.type "BaseException") = some true) (hdct : hasDictIn K D = true) (ha : findIn K (.ref D) "__class__" = some (some (.builtin "object.__class__")))
    (hn : specialIn K (.builtin "object.__class__") "__get__" = some (some (.builtin "getset_descriptor.__get__"))) (htk : takesIn K (.builtin "object.__class__") = some true) (hm : mroIn K D (.type "object") = some true) :
    KitX K (.ref x) (.ref D) (fun h => InstAt h x ox D od) where
  ty := fun _ _ _ I => I.type
  it := fun _ _ X _ => by
    obtain ⟨cdD, hcD, _⟩ := any_some hdct
    unfold clsIn at hcD
    split at hcD
    · rename_i c' d' cd' sl' ho
      intro A' Q' E' s' k q
      unfold isType loadHead
      exact wpAny_bind (wpAny_loadPart (k _ _ (X _ _ ho)) (wpAny_pure q))
    · cases hcD
  ne := fun h tp dd its n sl X htp => by
    obtain ⟨cdD, hcD, _⟩ := any_some hdct
    refine Bool.eq_false_iff.mpr fun q => ?_
    have e : D = tp := Value.ref.inj (beq_iff_eq.mp q)
    subst e
    unfold clsIn at hcD
    split at hcD
    · rename_i c' d' cd' sl' ho
      have z := (X _ _ ho).symm.trans htp
      cases z
    · cases hcD
  ca := fun X I k => kin_classF hga hgt hsub hdct ha hn htk hm X I k
end
end SMW
namespace SM
open PySem PySem.Spec PyProof.Rows L2
section
variable {X : Cx} {Y : GY} {W : WX} {a : Addr} {oe : Obj} {cls : Value} {d : Option Addr} {pn : List (Addr × Obj)}
theorem call_isF {D dd : Addr} {fs : List (Str × V)} (C : ExcC X.K D) (hz : Zc (.ref D) (some dd) oe) (hf : ∃ vs, oe.data = .fields vs) : CallR (X.suite a ((a, oe) :: pn)) (.builtin "isinstance") (fun xs H Q => H dd = some (.xd fs) ∧ rIsE X.K D a xs H Q) := by
  intro pins s σ H xs us Q I r h
  obtain ⟨hdd, c, cv, b, rfl, hcv, e, q⟩ := h
  cases r with
  | cons rx rr =>
    cases rr with
    | cons rt rr =>
      cases rr
      cases rx
      have ec := hcv _ rt
      subst ec
      obtain ⟨hget, _⟩ := I.pin (a, oe) (List.mem_append.mpr (.inl List.mem_cons_self))
      obtain ⟨vs, hv⟩ := hf
      have hx : ObjOk X.prog X.w H s.heap dd (.xd fs) := I.hok dd _ hdd
      obtain ⟨mA, hns, hr⟩ := hx
      obtain ⟨od, ho, hl⟩ := lookIn_ns hns
      have J : PySem.W.InstAt s.heap a oe D (some od) := ⟨hget, hz.1, by unfold PySem.W.notCls; rw [hv] <;> rfl, by rw [hz.2]; exact ho⟩
      exact PySem.W.kia_one (SMW.kitx_excF C.hg C.hk C.hs C.hd C.ha C.hn C.ht C.hm) I.kIn J e (fun z => nomatch z) fun tk => ⟨.bl b, H, I.kept (t' := tk) fun _ _ z => z, rfl, q⟩
def rIsF (K : PySem.W.Frag) (a : Addr) (cls : Value) (d : Option Addr) : List V → Hp → VK → Prop := fun xs H Q => ∃ D, cls = .ref D ∧ ExcC K D ∧ (d = none ∨ ∃ dd fs, d = some dd ∧ H dd = some (.xd fs)) ∧ rIsE K D a xs H Q
theorem call_isFX (hz : L2N.Zn cls d oe) (hf : ∃ vs, oe.data = .fields vs) : CallR (X.suite a ((a, oe) :: pn)) (.builtin "isinstance") (rIsF X.K a cls d) := by
  intro pins s σ H xs us Q I r h
  obtain ⟨D, rfl, hC, h1 | ⟨dd, fs, rfl, hdd⟩, h⟩ := h
  · subst h1
    exact call_isE hC hz.zc hf pins s σ H xs us Q I r h
  · exact call_isF hC hz.zc hf pins s σ H xs us Q I r ⟨hdd, h⟩
def isFK (tbl : List (Str × Bool)) (e : SEnv) : Option (Option PV) → Out PV
  | some (some (.exn ⟨c, _⟩)) => match tbl.lookup c with
    | some b => .ok (.dat (.bool b)) e
    | none => .bad
  | _ => .bad
/-- isinstance(e, C), e at slot i, with a field or without -/
def sIsF (i : Nat) (tbl : List (Str × Bool)) : SE := fun e => isFK tbl e e[i]?
theorem de_isF {x c : Str} {C : Addr} {i : Nat} {tbl : List (Str × Bool)} {p px pc pos : Pos} (hz : L2N.Zn cls d oe) (hf : ∃ vs, oe.data = .fields vs) (hN : X.N[i]? = some x) (hv : Vis X.env.scope x) (hm : X.mg "isinstance" = none) (hmc : X.mg c = some (.ref C)) (ht : TabE X (.ref C) tbl)
    (hg : Gl X "isinstance" := by rfl) (hgc : Gl X c := by rfl) (hd : (x == ("__debug__" : Str)) = false := by decide) (hcd : (x == ("__classdict__" : Str)) = false := by decide) (hdc : (c == ("__debug__" : Str)) = false := by decide)
    (he : starEach [.Name x px, .Name c pc] X.env = (false, eval (.Name x px) X.env) :: starEach [.Name c pc] X.env := by rfl) (he2 : starEach [.Name c pc] X.env = (false, eval (.Name c pc) X.env) :: starEach [] X.env := by rfl) (hpl : (backTo pos (starEach [.Name c pc] X.env)).any (·.1) = false := by rfl) :
    DenE (X.suite a ((a, oe) :: pn)) (Y2 Y a cls d) W (.Call (.Name "isinstance" p) [.Name x px, .Name c pc] [] pos) (sIsF i tbl) := by
  have ha : PA (X.suite a ((a, oe) :: pn)) [.Name x px, .Name c pc] (tCons (tVar i) (tCons (tC (.ref C)) tNil)) := pa_cons (pe_var hN hv hd hcd) (pa_cons (pe_glob (v := .ref C) hgc hmc rfl hdc) pa_nil he2) he
  refine PE.weak (pe_callB (X := X.suite a ((a, oe) :: pn)) (call_isFX hz hf) hg hm rfl ha (by decide) (by decide) he hpl) fun s H Q ⟨M, e, ok, p⟩ => ?_
  have p : Post (gx X (Y2 Y a cls d)) W (Res (gx X (Y2 Y a cls d))) ⟨H, M, s, e⟩ (isFK tbl e e[i]?) Q := p
  unfold isFK at p
  split at p
  · rename_i cn fy q
    split at p
    · rename_i b hb
      obtain ⟨v, hv', a', c', d', e1, e2, e3⟩ := ok.slot i _ q
      cases e1
      subst e2
      obtain ⟨C0, h1, h2, h0, h3⟩ := e3
      obtain ⟨C1, k1, k2, k3⟩ := ht _ (lookup_mem hb)
      have h1 : X.mg cn = some (.ref C0) := h1
      rw [k1] at h1
      cases h1
      have hd' : d = none ∨ ∃ dd fs, d = some dd ∧ H dd = some (.xd fs) := by
        cases fy with
        | none => exact .inl (h0 rfl)
        | some fv =>
          obtain ⟨f', y⟩ := fv
          obtain ⟨dd, w, q1, q2, q3, q4⟩ := h3 f' y rfl
          exact .inr ⟨dd, _, q1, q2⟩
      exact ⟨.ref a, hv', C0, h2, k2, hd', .ref C, .ref C, b, rfl, fun u hu => hu, k3, post_here ok p _ (res_dat (.bl b))⟩
    · exact p.elim
  · exact p.elim
end
end SM
namespace Pk83
open PySem PySem.Spec PyProof.Rows L2 LamX SM
abbrev top (i : Nat) : Stmt := PySem.Challenge.pw_stretchtwice_k83_whole_stamps.main.body.getD i (.Pass ⟨0, 0, 0, 0⟩)
abbrev FnP (K : PySem.W.Frag) (x : Str) (st : Stmt) (fd : FuncData) : Prop := FunD K x x (defArgs st) (defBody st) (defScope st) [] [] (He.ga K x) fd
def tf : List He.Defn := [("_law_errors_right", none)]
def tabs (K : PySem.W.Frag) : List (Addr × Str) := [((He.cT K ("_law_errors_right", none)).2, (("_law_errors_right" : Str) ++ ".<locals>.") ++ "<lambda>")]
abbrev T (K : PySem.W.Frag) : TX := ⟨tabs K, [], none, []⟩
def tX_StretchError : List (Str × Bool) := [("InvalidMachine", true), ("InvalidNumber", true), ("InvalidRow", true), ("InvalidTree", true), ("NotFound", true), ("TooMany", true)]
def tE_InvalidMachine : List (Str × Bool) := [("InvalidMachine", true), ("InvalidNumber", false), ("InvalidRow", false), ("InvalidTree", false), ("NotFound", false), ("TooMany", false)]
def tE_InvalidNumber : List (Str × Bool) := [("InvalidMachine", false), ("InvalidNumber", true), ("InvalidRow", false), ("InvalidTree", false), ("NotFound", false), ("TooMany", false)]
def tE_InvalidRow : List (Str × Bool) := [("InvalidMachine", false), ("InvalidNumber", false), ("InvalidRow", true), ("InvalidTree", false), ("NotFound", false), ("TooMany", false)]
def tE_InvalidTree : List (Str × Bool) := [("InvalidMachine", false), ("InvalidNumber", false), ("InvalidRow", false), ("InvalidTree", true), ("NotFound", false), ("TooMany", false)]
def tE_NotFound : List (Str × Bool) := [("InvalidMachine", false), ("InvalidNumber", false), ("InvalidRow", false), ("InvalidTree", false), ("NotFound", true), ("TooMany", false)]
def tE_TooMany : List (Str × Bool) := [("InvalidMachine", false), ("InvalidNumber", false), ("InvalidRow", false), ("InvalidTree", false), ("NotFound", false), ("TooMany", true)]
structure Fs (P : Program) (K : PySem.W.Frag) (mg : Str → Option Value) : Prop where
  b_abs : mg "abs" = none
  b_all : mg "all" = none
  b_bool : mg "bool" = none
  b_enumerate : mg "enumerate" = none
  b_int : mg "int" = none
  b_isinstance : mg "isinstance" = none
  b_len : mg "len" = none
  b_list : mg "list" = none
  b_range : mg "range" = none
  b_str : mg "str" = none
  b_tuple : mg "tuple" = none
  b_zip : mg "zip" = none
  i_DEEDS : ∃ t, mg "DEEDS" = some (.str "abcdefgh" t)
  i_LETTERS : ∃ t, mg "LETTERS" = some (.int 800 t)
  i_LONG : ∃ t, mg "LONG" = some (.int 4000 t)
  i_ROW : ∃ t, mg "ROW" = some (.int 400 t)
  i_STAMP : ∃ t, mg "STAMP" = some (.int 1000000 t)
  g_InvalidMachine : mg "InvalidMachine" = some (.ref (He.ga K "InvalidMachine"))
  g_InvalidNumber : mg "InvalidNumber" = some (.ref (He.ga K "InvalidNumber"))
  g_InvalidRow : mg "InvalidRow" = some (.ref (He.ga K "InvalidRow"))
  g_InvalidTree : mg "InvalidTree" = some (.ref (He.ga K "InvalidTree"))
  g_NotFound : mg "NotFound" = some (.ref (He.ga K "NotFound"))
  g_StretchError : mg "StretchError" = some (.ref (He.ga K "StretchError"))
  g_TooMany : mg "TooMany" = some (.ref (He.ga K "TooMany"))
  x_InvalidNumber : ExO K mg "InvalidNumber"
  x_InvalidRow : ExO K mg "InvalidRow"
  tX_StretchError : ∀ p ∈ tX_StretchError, ∃ C, mg p.1 = some (.ref C) ∧ PySem.W.exmOne K (.ref C) (.ref (He.ga K "StretchError")) = some p.2
  tE_InvalidMachine : ∀ p ∈ tE_InvalidMachine, ∃ C, mg p.1 = some (.ref C) ∧ ExcC K C ∧ PySem.W.kitOne K (.ref C) (.ref (He.ga K "InvalidMachine")) = some p.2
  tE_InvalidNumber : ∀ p ∈ tE_InvalidNumber, ∃ C, mg p.1 = some (.ref C) ∧ ExcC K C ∧ PySem.W.kitOne K (.ref C) (.ref (He.ga K "InvalidNumber")) = some p.2
  tE_InvalidRow : ∀ p ∈ tE_InvalidRow, ∃ C, mg p.1 = some (.ref C) ∧ ExcC K C ∧ PySem.W.kitOne K (.ref C) (.ref (He.ga K "InvalidRow")) = some p.2
  tE_InvalidTree : ∀ p ∈ tE_InvalidTree, ∃ C, mg p.1 = some (.ref C) ∧ ExcC K C ∧ PySem.W.kitOne K (.ref C) (.ref (He.ga K "InvalidTree")) = some p.2
  tE_NotFound : ∀ p ∈ tE_NotFound, ∃ C, mg p.1 = some (.ref C) ∧ ExcC K C ∧ PySem.W.kitOne K (.ref C) (.ref (He.ga K "NotFound")) = some p.2
  tE_TooMany : ∀ p ∈ tE_TooMany, ∃ C, mg p.1 = some (.ref C) ∧ ExcC K C ∧ PySem.W.kitOne K (.ref C) (.ref (He.ga K "TooMany")) = some p.2
  xf_TooMany_limit : XfC K (He.ga K "TooMany")
  nx_TooMany_limit : PySem.W.findIn K (.ref (He.ga K "TooMany")) "limit" = some none
  mk_TooMany : ∀ (w : World) (base : Heap), MkF P w K mg base 1 "TooMany" "limit"
/-! ### is_whole -/
def N_is_whole : List Str := ["value", "low", "high"]
abbrev st_is_whole : Stmt := top 9
abbrev sc_is_whole : Scope := defScope st_is_whole
theorem S_is_whole : FnScope N_is_whole ["value", "low", "high"] (defScope st_is_whole) := C8.fnScope_by (by decide +kernel)
def b_is_whole : SS := sRet (sAndV (sOp1 (aIsi "int") (.nm 0)) (sAndV (sNotV (sOp1 (aIsi "bool") (.nm 0))) (sCh aLe aLe (.nm 1) (.nm 0) (.nm 2))))
def m_is_whole : SE := runF 3 0 [] b_is_whole
theorem c_is_whole {P : Program} {w : World} {K : PySem.W.Frag} {mg : Str → Option Value} {base : Heap} {fd : FuncData} (A : Fs P K mg) (F : FnP K "is_whole" st_is_whole fd) (g : mg "is_whole" = some (.ref (He.ga K "is_whole")))  : Cal P w K mg base (T K) 1 "is_whole" 3 m_is_whole := by
  refine cal_den 3 0 [] F g S_is_whole rfl rfl (fun _ _ _ _ _ _ us hl => match us, hl with | [_, _, _], _ => rfl) fun f cdv A1 outer s H E hr => ?_
  have tk := takes_def (P := P) (w := w) (K := K) (mg := mg) (base := base) (N := N_is_whole) (q := "is_whole") (sc := sc_is_whole) (f := f) (cd := cdv) (A := A1) (outer := outer) (s := s) (H := H) (E := E)
  have hp := passes_def (P := P) (w := w) (K := K) (mg := mg) (base := base) (N := N_is_whole) (q := "is_whole") (sc := sc_is_whole) (f := f) (cd := cdv) (A := A1) (outer := outer) (s := s) (H := H) (E := E)
  have nd := S_is_whole.nd
  exact db_one (ds_ret (de_and (de_isi A.b_isinstance A.b_int rfl (do_nm 0)) (de_and (de_not (de_isi A.b_isinstance A.b_bool rfl (do_nm 0))) (de_one (de_chain od_le od_le (do_nm 1) (do_nm 0) (do_nm 2))))))
/-! ### is_tuple_of -/
def N_is_tuple_of : List Str := ["value", "low", "high"]
abbrev st_is_tuple_of : Stmt := top 10
abbrev sc_is_tuple_of : Scope := defScope st_is_tuple_of
theorem S_is_tuple_of : FnScope N_is_tuple_of ["value", "low", "high"] (defScope st_is_tuple_of) := C8.fnScope_by (by decide +kernel)
def b_is_tuple_of : SS := sRet (sAndV (sOp1 (aIsi "tuple") (.nm 0)) (sCh aLe aLe (.nm 1) (.ex (sFn aLen [.nm 0])) (.nm 2)))
def m_is_tuple_of : SE := runF 3 0 [] b_is_tuple_of
theorem c_is_tuple_of {P : Program} {w : World} {K : PySem.W.Frag} {mg : Str → Option Value} {base : Heap} {fd : FuncData} (A : Fs P K mg) (F : FnP K "is_tuple_of" st_is_tuple_of fd) (g : mg "is_tuple_of" = some (.ref (He.ga K "is_tuple_of")))  : Cal P w K mg base (T K) 1 "is_tuple_of" 3 m_is_tuple_of := by
  refine cal_den 3 0 [] F g S_is_tuple_of rfl rfl (fun _ _ _ _ _ _ us hl => match us, hl with | [_, _, _], _ => rfl) fun f cdv A1 outer s H E hr => ?_
  have tk := takes_def (P := P) (w := w) (K := K) (mg := mg) (base := base) (N := N_is_tuple_of) (q := "is_tuple_of") (sc := sc_is_tuple_of) (f := f) (cd := cdv) (A := A1) (outer := outer) (s := s) (H := H) (E := E)
  have hp := passes_def (P := P) (w := w) (K := K) (mg := mg) (base := base) (N := N_is_tuple_of) (q := "is_tuple_of") (sc := sc_is_tuple_of) (f := f) (cd := cdv) (A := A1) (outer := outer) (s := s) (H := H) (E := E)
  have nd := S_is_tuple_of.nd
  exact db_one (ds_ret (de_and (de_isi A.b_isinstance A.b_tuple rfl (do_nm 0)) (de_one (de_chain od_le od_le (do_nm 1) (do_ex (de_callB fd_len A.b_len rfl (da_cons (do_nm 0) (da_nil)))) (do_nm 2)))))
/-! ### is_row -/
def N_is_row : List Str := ["value", "deed"]
abbrev st_is_row : Stmt := top 14
abbrev sc_is_row : Scope := defScope st_is_row
theorem S_is_row : FnScope N_is_row ["value"] (defScope st_is_row) := C8.fnScope_by (by decide +kernel)
def b_is_row : SS := sRet (sAndV (sOp1 (aIsi "str") (.nm 0)) (sAndV (sOp2 aLe (.ex (sFn aLen [.nm 0])) (.ex (sC (.int 4000)))) (sFn aAll [.ex (sLc (sRow (sFrz (sVar 0))) (gNm 1) (sYes) (sOp2 aIn (.nm 1) (.ex (sC (.str "abcdefgh")))) [1])])))
def m_is_row : SE := runF 1 1 [] b_is_row
theorem c_is_row {P : Program} {w : World} {K : PySem.W.Frag} {mg : Str → Option Value} {base : Heap} {fd : FuncData} (A : Fs P K mg) (F : FnP K "is_row" st_is_row fd) (g : mg "is_row" = some (.ref (He.ga K "is_row")))  : Cal P w K mg base (T K) 1 "is_row" 1 m_is_row := by
  refine cal_den 1 1 [] F g S_is_row rfl rfl (fun _ _ _ _ _ _ us hl => match us, hl with | [_], _ => rfl) fun f cdv A1 outer s H E hr => ?_
  have tk := takes_def (P := P) (w := w) (K := K) (mg := mg) (base := base) (N := N_is_row) (q := "is_row") (sc := sc_is_row) (f := f) (cd := cdv) (A := A1) (outer := outer) (s := s) (H := H) (E := E)
  have hp := passes_def (P := P) (w := w) (K := K) (mg := mg) (base := base) (N := N_is_row) (q := "is_row") (sc := sc_is_row) (f := f) (cd := cdv) (A := A1) (outer := outer) (s := s) (H := H) (E := E)
  have nd := S_is_row.nd
  exact db_one (ds_ret (de_and (de_isi A.b_isinstance A.b_str rfl (do_nm 0)) (de_and (de_cmp od_le (do_ex (de_callB fd_len A.b_len rfl (da_cons (do_nm 0) (da_nil)))) (do_ex (de_gint A.i_LONG)) (nomark _)) (de_one (de_callB (fd_all rfl) A.b_all rfl (da_cons (do_ex (de_lc (own := [("deed", 1)]) (g := gNm 1) (t := sYes) (el := sOp2 aIn (.nm 1) (.ex (sC (.str "abcdefgh")))) rfl nd (blkOk_by (N := N_is_row) (sc := sc_is_row) (by decide +kernel)) (di_row (de_var 0)) (fun _ _ _ _ _ => dg_nm 1 nd) (fun _ _ _ _ _ => dts_nil) (fun _ _ _ _ _ => de_cmp (od_in (u65 hr)) (do_nm 1) (do_ex (de_gstr A.i_DEEDS)) (by with_unfolding_all rfl)))) (da_nil)))))))
/-! ### need_row -/
def N_need_row : List Str := ["row"]
abbrev st_need_row : Stmt := top 15
abbrev sc_need_row : Scope := defScope st_need_row
theorem S_need_row : FnScope N_need_row ["row"] (defScope st_need_row) := C8.fnScope_by (by decide +kernel)
def b_need_row : SS := sIfS (sNotT (sT (sCall 1 m_is_row [.ex (sVar 0)]))) (sRaise ⟨"InvalidRow", none⟩) (sNext)
def m_need_row : SE := runF 1 0 [] b_need_row
theorem c_need_row {P : Program} {w : World} {K : PySem.W.Frag} {mg : Str → Option Value} {base : Heap} {fd : FuncData} (A : Fs P K mg) (F : FnP K "need_row" st_need_row fd) (g : mg "need_row" = some (.ref (He.ga K "need_row"))) (c_is_row : Cal P w K mg base (T K) 1 "is_row" 1 m_is_row) : Cal P w K mg base (T K) 2 "need_row" 1 m_need_row := by
  refine cal_den 1 0 [] F g S_need_row rfl rfl (fun _ _ _ _ _ _ us hl => match us, hl with | [_], _ => rfl) fun f cdv A1 outer s H E hr => ?_
  have tk := takes_def (P := P) (w := w) (K := K) (mg := mg) (base := base) (N := N_need_row) (q := "need_row") (sc := sc_need_row) (f := f) (cd := cdv) (A := A1) (outer := outer) (s := s) (H := H) (E := E)
  have hp := passes_def (P := P) (w := w) (K := K) (mg := mg) (base := base) (N := N_need_row) (q := "need_row") (sc := sc_need_row) (f := f) (cd := cdv) (A := A1) (outer := outer) (s := s) (H := H) (E := E)
  have nd := S_need_row.nd
  exact db_one (ds_if (dt_not (dt_val (de_calC c_is_row hr tk (da_cons (do_ex (de_var 0)) (da_nil))))) (db_one (ds_raiseC A.x_InvalidRow rfl tk)) (db_nil))
/-! ### is_letter -/
def N_is_letter : List Str := ["value"]
abbrev st_is_letter : Stmt := top 20
abbrev sc_is_letter : Scope := defScope st_is_letter
theorem S_is_letter : FnScope N_is_letter ["value"] (defScope st_is_letter) := C8.fnScope_by (by decide +kernel)
def b_is_letter : SS := sSeq (sIfS (sOrT (sNotT (sT (sCall 3 m_is_tuple_of [.ex (sVar 0), .ex (sC (.int 2)), .ex (sC (.int 2))]))) (sOrT (sNotT (sT (sOp1 (aIsi "str") (.ex (sOp2 aIx (.nm 0) (.ex (sC (.int 0)))))))) (sT (sOp2 aNe (.ex (sFn aLen [.ex (sOp2 aIx (.nm 0) (.ex (sC (.int 0))))])) (.ex (sC (.int 1))))))) (sRet (sC (.bool false))) (sNext)) (sRet (sAndV (sOp2 aIn (.ex (sOp2 aIx (.nm 0) (.ex (sC (.int 0))))) (.ex (sC (.str "abcdefgh")))) (sCall 3 m_is_whole [.ex (sOp2 aIx (.nm 0) (.ex (sC (.int 1)))), .ex (sC (.int 1)), .ex (sC (.int 1000000))])))
def m_is_letter : SE := runF 1 0 [] b_is_letter
theorem c_is_letter {P : Program} {w : World} {K : PySem.W.Frag} {mg : Str → Option Value} {base : Heap} {fd : FuncData} (A : Fs P K mg) (F : FnP K "is_letter" st_is_letter fd) (g : mg "is_letter" = some (.ref (He.ga K "is_letter"))) (c_is_tuple_of : Cal P w K mg base (T K) 1 "is_tuple_of" 3 m_is_tuple_of) (c_is_whole : Cal P w K mg base (T K) 1 "is_whole" 3 m_is_whole) : Cal P w K mg base (T K) 2 "is_letter" 1 m_is_letter := by
  refine cal_den 1 0 [] F g S_is_letter rfl rfl (fun _ _ _ _ _ _ us hl => match us, hl with | [_], _ => rfl) fun f cdv A1 outer s H E hr => ?_
  have tk := takes_def (P := P) (w := w) (K := K) (mg := mg) (base := base) (N := N_is_letter) (q := "is_letter") (sc := sc_is_letter) (f := f) (cd := cdv) (A := A1) (outer := outer) (s := s) (H := H) (E := E)
  have hp := passes_def (P := P) (w := w) (K := K) (mg := mg) (base := base) (N := N_is_letter) (q := "is_letter") (sc := sc_is_letter) (f := f) (cd := cdv) (A := A1) (outer := outer) (s := s) (H := H) (E := E)
  have nd := S_is_letter.nd
  exact db_cons (ds_if (dw_pt (dw_or (dt_not (dt_val (de_calC c_is_tuple_of hr tk (da_cons (do_ex (de_var 0)) (da_cons (do_ex (de_int)) (da_cons (do_ex (de_int)) (da_nil))))))) (dw_or (dt_not (dt_val (de_isi A.b_isinstance A.b_str rfl (do_ex (de_ix (do_nm 0) (do_ex (de_int))))))) (dw_or1 (dt_cmp (od_ne hr.units) (do_ex (de_callB fd_len A.b_len rfl (da_cons (do_ex (de_ix (do_nm 0) (do_ex (de_int)))) (da_nil)))) (do_ex (de_int)) (nomark _)))))) (db_one (ds_ret (de_bl))) (db_nil)) (db_one (ds_ret (de_and (de_cmp (od_in (u65 hr)) (do_ex (de_ix (do_nm 0) (do_ex (de_int)))) (do_ex (de_gstr A.i_DEEDS)) (by with_unfolding_all rfl)) (de_one (de_calC c_is_whole hr tk (da_cons (do_ex (de_ix (do_nm 0) (do_ex (de_int)))) (da_cons (do_ex (de_int)) (da_cons (do_ex (de_gint A.i_STAMP)) (da_nil)))))))))
/-! ### is_letters -/
def N_is_letters : List Str := ["value", "one"]
abbrev st_is_letters : Stmt := top 21
abbrev sc_is_letters : Scope := defScope st_is_letters
theorem S_is_letters : FnScope N_is_letters ["value"] (defScope st_is_letters) := C8.fnScope_by (by decide +kernel)
def b_is_letters : SS := sRet (sAndV (sCall 3 m_is_tuple_of [.ex (sVar 0), .ex (sC (.int 0)), .ex (sC (.int 800))]) (sFn aAll [.ex (sLc (sRow (sFrz (sVar 0))) (gNm 1) (sYes) (sCall 1 m_is_letter [.ex (sVar 1)]) [1])]))
def m_is_letters : SE := runF 1 1 [] b_is_letters
theorem c_is_letters {P : Program} {w : World} {K : PySem.W.Frag} {mg : Str → Option Value} {base : Heap} {fd : FuncData} (A : Fs P K mg) (F : FnP K "is_letters" st_is_letters fd) (g : mg "is_letters" = some (.ref (He.ga K "is_letters"))) (c_is_letter : Cal P w K mg base (T K) 2 "is_letter" 1 m_is_letter) (c_is_tuple_of : Cal P w K mg base (T K) 1 "is_tuple_of" 3 m_is_tuple_of) : Cal P w K mg base (T K) 3 "is_letters" 1 m_is_letters := by
  refine cal_den 1 1 [] F g S_is_letters rfl rfl (fun _ _ _ _ _ _ us hl => match us, hl with | [_], _ => rfl) fun f cdv A1 outer s H E hr => ?_
  have tk := takes_def (P := P) (w := w) (K := K) (mg := mg) (base := base) (N := N_is_letters) (q := "is_letters") (sc := sc_is_letters) (f := f) (cd := cdv) (A := A1) (outer := outer) (s := s) (H := H) (E := E)
  have hp := passes_def (P := P) (w := w) (K := K) (mg := mg) (base := base) (N := N_is_letters) (q := "is_letters") (sc := sc_is_letters) (f := f) (cd := cdv) (A := A1) (outer := outer) (s := s) (H := H) (E := E)
  have nd := S_is_letters.nd
  exact db_one (ds_ret (de_and (de_calC c_is_tuple_of hr tk (da_cons (do_ex (de_var 0)) (da_cons (do_ex (de_int)) (da_cons (do_ex (de_gint A.i_LETTERS)) (da_nil))))) (de_one (de_callB (fd_all rfl) A.b_all rfl (da_cons (do_ex (de_lc (own := [("one", 1)]) (g := gNm 1) (t := sYes) (el := sCall 1 m_is_letter [.ex (sVar 1)]) rfl nd (blkOk_by (N := N_is_letters) (sc := sc_is_letters) (by decide +kernel)) (di_row (de_var 0)) (fun _ _ _ _ _ => dg_nm 1 nd) (fun _ _ _ _ _ => dts_nil) (fun _ _ _ _ _ => de_calC c_is_letter hr takes0N (da_cons (do_ex (de_var 1)) (da_nil))))) (da_nil))))))
/-! ### need_letters -/
def N_need_letters : List Str := ["letters"]
abbrev st_need_letters : Stmt := top 22
abbrev sc_need_letters : Scope := defScope st_need_letters
theorem S_need_letters : FnScope N_need_letters ["letters"] (defScope st_need_letters) := C8.fnScope_by (by decide +kernel)
def b_need_letters : SS := sIfS (sNotT (sT (sCall 1 m_is_letters [.ex (sVar 0)]))) (sRaise ⟨"InvalidRow", none⟩) (sNext)
def m_need_letters : SE := runF 1 0 [] b_need_letters
theorem c_need_letters {P : Program} {w : World} {K : PySem.W.Frag} {mg : Str → Option Value} {base : Heap} {fd : FuncData} (A : Fs P K mg) (F : FnP K "need_letters" st_need_letters fd) (g : mg "need_letters" = some (.ref (He.ga K "need_letters"))) (c_is_letters : Cal P w K mg base (T K) 3 "is_letters" 1 m_is_letters) : Cal P w K mg base (T K) 4 "need_letters" 1 m_need_letters := by
  refine cal_den 1 0 [] F g S_need_letters rfl rfl (fun _ _ _ _ _ _ us hl => match us, hl with | [_], _ => rfl) fun f cdv A1 outer s H E hr => ?_
  have tk := takes_def (P := P) (w := w) (K := K) (mg := mg) (base := base) (N := N_need_letters) (q := "need_letters") (sc := sc_need_letters) (f := f) (cd := cdv) (A := A1) (outer := outer) (s := s) (H := H) (E := E)
  have hp := passes_def (P := P) (w := w) (K := K) (mg := mg) (base := base) (N := N_need_letters) (q := "need_letters") (sc := sc_need_letters) (f := f) (cd := cdv) (A := A1) (outer := outer) (s := s) (H := H) (E := E)
  have nd := S_need_letters.nd
  exact db_one (ds_if (dt_not (dt_val (de_calC c_is_letters hr tk (da_cons (do_ex (de_var 0)) (da_nil))))) (db_one (ds_raiseC A.x_InvalidRow rfl tk)) (db_nil))
/-! ### kept_in -/
def N_kept_in : List Str := ["letters", "found", "most", "deed", "stamp"]
abbrev st_kept_in : Stmt := top 23
abbrev sc_kept_in : Scope := defScope st_kept_in
theorem S_kept_in : FnScope N_kept_in ["letters"] (defScope st_kept_in) := C8.fnScope_by (by decide +kernel)
def b_kept_in : SS := sSeq (sParV 1 2 (sLst []) (sC (.int 0))) (sSeq (sFor (sRow (sFrz (sVar 0))) (gTp 2 (gsCons (gNm 3) (gsCons (gNm 4) (gsNil)))) (sIfS (sT (sOp2 aGt (.nm 4) (.nm 2))) (sSeq (sDrop (sApp 1 [.ex (sVar 3)])) (sSet 2 (sVar 4))) (sNext))) (sRet (sMs aJoin (.ex (sC (.str ""))) [.nm 1])))
def m_kept_in : SE := runF 1 4 [] b_kept_in
theorem c_kept_in {P : Program} {w : World} {K : PySem.W.Frag} {mg : Str → Option Value} {base : Heap} {fd : FuncData} (A : Fs P K mg) (F : FnP K "kept_in" st_kept_in fd) (g : mg "kept_in" = some (.ref (He.ga K "kept_in")))  : Cal P w K mg base (T K) 1 "kept_in" 1 m_kept_in := by
  refine cal_den 1 4 [] F g S_kept_in rfl rfl (fun _ _ _ _ _ _ us hl => match us, hl with | [_], _ => rfl) fun f cdv A1 outer s H E hr => ?_
  have tk := takes_def (P := P) (w := w) (K := K) (mg := mg) (base := base) (N := N_kept_in) (q := "kept_in") (sc := sc_kept_in) (f := f) (cd := cdv) (A := A1) (outer := outer) (s := s) (H := H) (E := E)
  have hp := passes_def (P := P) (w := w) (K := K) (mg := mg) (base := base) (N := N_kept_in) (q := "kept_in") (sc := sc_kept_in) (f := f) (cd := cdv) (A := A1) (outer := outer) (s := s) (H := H) (E := E)
  have nd := S_kept_in.nd
  exact db_cons (ds_parV (i := 1) (j := 2) rfl nd (de_lst (da_nil)) (de_int)) (db_cons (ds_for (ws := [3, 4]) hp rfl (di_row (de_var 0)) (dg_tup rfl (dgs_cons (dg_nm 3 nd) (dgs_cons (dg_nm 4 nd) (dgs_nil)))) (db_one (ds_if (dt_cmp od_gt (do_nm 4) (do_nm 2) (nomark _)) (db_cons (ds_expr (de_app (do_nm 1) (da_cons (do_ex (de_var 3)) (da_nil)))) (db_one (ds_set (i := 2) nd (de_var 4)))) (db_nil)))) (db_one (ds_ret (de_join (do_ex (de_str)) (da_cons (do_nm 1) (da_nil))))))
/-! ### stamped -/
def N_stamped : List Str := ["row", "place", "deed"]
abbrev st_stamped : Stmt := top 24
abbrev sc_stamped : Scope := defScope st_stamped
theorem S_stamped : FnScope N_stamped ["row"] (defScope st_stamped) := C8.fnScope_by (by decide +kernel)
def b_stamped : SS := sSeq (sDrop (sCall 1 m_need_row [.ex (sVar 0)])) (sSeq (sIfS (sT (sOp2 aGt (.ex (sFn aLen [.nm 0])) (.ex (sC (.int 400))))) (sRaiseF "TooMany" "limit" (sC (.int 400))) (sNext)) (sRet (sFn aTuple [.ex (sLc (sEnumB [.ex (sVar 0)]) (gTp 2 (gsCons (gNm 1) (gsCons (gNm 2) (gsNil)))) (sYes) (sTup [.ex (sVar 2), .ex (sOp2 aAdd (.nm 1) (.ex (sC (.int 1))))]) [1, 2])])))
def m_stamped : SE := runF 1 2 [] b_stamped
theorem c_stamped {P : Program} {w : World} {K : PySem.W.Frag} {mg : Str → Option Value} {base : Heap} {fd : FuncData} (A : Fs P K mg) (F : FnP K "stamped" st_stamped fd) (g : mg "stamped" = some (.ref (He.ga K "stamped"))) (c_need_row : Cal P w K mg base (T K) 2 "need_row" 1 m_need_row) : Cal P w K mg base (T K) 3 "stamped" 1 m_stamped := by
  refine cal_den 1 2 [] F g S_stamped rfl rfl (fun _ _ _ _ _ _ us hl => match us, hl with | [_], _ => rfl) fun f cdv A1 outer s H E hr => ?_
  have tk := takes_def (P := P) (w := w) (K := K) (mg := mg) (base := base) (N := N_stamped) (q := "stamped") (sc := sc_stamped) (f := f) (cd := cdv) (A := A1) (outer := outer) (s := s) (H := H) (E := E)
  have hp := passes_def (P := P) (w := w) (K := K) (mg := mg) (base := base) (N := N_stamped) (q := "stamped") (sc := sc_stamped) (f := f) (cd := cdv) (A := A1) (outer := outer) (s := s) (H := H) (E := E)
  have nd := S_stamped.nd
  exact db_cons (ds_expr (de_calC c_need_row hr tk (da_cons (do_ex (de_var 0)) (da_nil)))) (db_cons (ds_if (dt_cmp od_gt (do_ex (de_callB fd_len A.b_len rfl (da_cons (do_nm 0) (da_nil)))) (do_ex (de_gint A.i_ROW)) (nomark _)) (db_one (ds_raiseF (A.mk_TooMany _ _) rfl hr tk (de_gint A.i_ROW))) (db_nil)) (db_one (ds_ret (de_callTy (fd_tuple rfl) A.b_tuple rfl (da_cons (do_ex (de_lc (own := [("place", 1), ("deed", 2)]) (g := gTp 2 (gsCons (gNm 1) (gsCons (gNm 2) (gsNil)))) (t := sYes) (el := sTup [.ex (sVar 2), .ex (sOp2 aAdd (.nm 1) (.ex (sC (.int 1))))]) rfl nd (blkOk_by (N := N_stamped) (sc := sc_stamped) (by decide +kernel)) (di_enumB A.b_enumerate (da_cons (do_ex (de_var 0)) (da_nil))) (fun _ _ _ _ _ => dg_tup rfl (dgs_cons (dg_nm 1 nd) (dgs_cons (dg_nm 2 nd) (dgs_nil)))) (fun _ _ _ _ _ => dts_nil) (fun _ _ _ _ _ => de_tup (da_cons (do_ex (de_var 2)) (da_cons (do_ex (de_op od_add (do_nm 1) (do_ex (de_int)))) (da_nil)))))) (da_nil))))))
/-! ### kept -/
def N_kept : List Str := ["letters"]
abbrev st_kept : Stmt := top 25
abbrev sc_kept : Scope := defScope st_kept
theorem S_kept : FnScope N_kept ["letters"] (defScope st_kept) := C8.fnScope_by (by decide +kernel)
def b_kept : SS := sSeq (sDrop (sCall 1 m_need_letters [.ex (sVar 0)])) (sRet (sCall 1 m_kept_in [.ex (sVar 0)]))
def m_kept : SE := runF 1 0 [] b_kept
theorem c_kept {P : Program} {w : World} {K : PySem.W.Frag} {mg : Str → Option Value} {base : Heap} {fd : FuncData} (A : Fs P K mg) (F : FnP K "kept" st_kept fd) (g : mg "kept" = some (.ref (He.ga K "kept"))) (c_kept_in : Cal P w K mg base (T K) 1 "kept_in" 1 m_kept_in) (c_need_letters : Cal P w K mg base (T K) 4 "need_letters" 1 m_need_letters) : Cal P w K mg base (T K) 5 "kept" 1 m_kept := by
  refine cal_den 1 0 [] F g S_kept rfl rfl (fun _ _ _ _ _ _ us hl => match us, hl with | [_], _ => rfl) fun f cdv A1 outer s H E hr => ?_
  have tk := takes_def (P := P) (w := w) (K := K) (mg := mg) (base := base) (N := N_kept) (q := "kept") (sc := sc_kept) (f := f) (cd := cdv) (A := A1) (outer := outer) (s := s) (H := H) (E := E)
  have hp := passes_def (P := P) (w := w) (K := K) (mg := mg) (base := base) (N := N_kept) (q := "kept") (sc := sc_kept) (f := f) (cd := cdv) (A := A1) (outer := outer) (s := s) (H := H) (E := E)
  have nd := S_kept.nd
  exact db_cons (ds_expr (de_calC c_need_letters hr tk (da_cons (do_ex (de_var 0)) (da_nil)))) (db_one (ds_ret (de_calC c_kept_in hr tk (da_cons (do_ex (de_var 0)) (da_nil)))))
/-! ### told_again -/
def N_told_again : List Str := ["letters", "place", "length", "end"]
abbrev st_told_again : Stmt := top 26
abbrev sc_told_again : Scope := defScope st_told_again
theorem S_told_again : FnScope N_told_again ["letters", "place", "length"] (defScope st_told_again) := C8.fnScope_by (by decide +kernel)
def b_told_again : SS := sSeq (sDrop (sCall 1 m_need_letters [.ex (sVar 0)])) (sSeq (sIfS (sOrT (sNotT (sT (sCall 3 m_is_whole [.ex (sVar 1), .ex (sC (.int 0)), .ex (sFn aLen [.nm 0])]))) (sNotT (sT (sCall 3 m_is_whole [.ex (sVar 2), .ex (sC (.int 1)), .ex (sOp2 aSub (.ex (sFn aLen [.nm 0])) (.nm 1))])))) (sRaise ⟨"InvalidNumber", none⟩) (sNext)) (sSeq (sIfS (sT (sOp2 aGt (.ex (sOp2 aAdd (.ex (sFn aLen [.nm 0])) (.nm 2))) (.ex (sC (.int 800))))) (sRaiseF "TooMany" "limit" (sC (.int 800))) (sNext)) (sSeq (sSet 3 (sOp2 aAdd (.nm 1) (.nm 2))) (sRet (sOp2 aAdd (.ex (sOp2 aAdd (.ex (sSl (.nm 0) none (some (sVar 3)))) (.ex (sSl (.nm 0) (some (sVar 1)) (some (sVar 3)))))) (.ex (sSl (.nm 0) (some (sVar 3)) none)))))))
def m_told_again : SE := runF 3 1 [] b_told_again
theorem c_told_again {P : Program} {w : World} {K : PySem.W.Frag} {mg : Str → Option Value} {base : Heap} {fd : FuncData} (A : Fs P K mg) (F : FnP K "told_again" st_told_again fd) (g : mg "told_again" = some (.ref (He.ga K "told_again"))) (c_is_whole : Cal P w K mg base (T K) 1 "is_whole" 3 m_is_whole) (c_need_letters : Cal P w K mg base (T K) 4 "need_letters" 1 m_need_letters) : Cal P w K mg base (T K) 5 "told_again" 3 m_told_again := by
  refine cal_den 3 1 [] F g S_told_again rfl rfl (fun _ _ _ _ _ _ us hl => match us, hl with | [_, _, _], _ => rfl) fun f cdv A1 outer s H E hr => ?_
  have tk := takes_def (P := P) (w := w) (K := K) (mg := mg) (base := base) (N := N_told_again) (q := "told_again") (sc := sc_told_again) (f := f) (cd := cdv) (A := A1) (outer := outer) (s := s) (H := H) (E := E)
  have hp := passes_def (P := P) (w := w) (K := K) (mg := mg) (base := base) (N := N_told_again) (q := "told_again") (sc := sc_told_again) (f := f) (cd := cdv) (A := A1) (outer := outer) (s := s) (H := H) (E := E)
  have nd := S_told_again.nd
  exact db_cons (ds_expr (de_calC c_need_letters hr tk (da_cons (do_ex (de_var 0)) (da_nil)))) (db_cons (ds_if (dw_pt (dw_or (dt_not (dt_val (de_calC c_is_whole hr tk (da_cons (do_ex (de_var 1)) (da_cons (do_ex (de_int)) (da_cons (do_ex (de_callB fd_len A.b_len rfl (da_cons (do_nm 0) (da_nil)))) (da_nil))))))) (dw_or1 (dt_not (dt_val (de_calC c_is_whole hr tk (da_cons (do_ex (de_var 2)) (da_cons (do_ex (de_int)) (da_cons (do_ex (de_op od_sub (do_ex (de_callB fd_len A.b_len rfl (da_cons (do_nm 0) (da_nil)))) (do_nm 1))) (da_nil)))))))))) (db_one (ds_raiseC A.x_InvalidNumber rfl tk)) (db_nil)) (db_cons (ds_if (dt_cmp od_gt (do_ex (de_op od_add (do_ex (de_callB fd_len A.b_len rfl (da_cons (do_nm 0) (da_nil)))) (do_nm 2))) (do_ex (de_gint A.i_LETTERS)) (nomark _)) (db_one (ds_raiseF (A.mk_TooMany _ _) rfl hr tk (de_gint A.i_LETTERS))) (db_nil)) (db_cons (ds_set (i := 3) nd (de_op od_add (do_nm 1) (do_nm 2))) (db_one (ds_ret (de_op od_add (do_ex (de_op od_add (do_ex (de_sl (do_nm 0) dp_none (dp_some (de_var 3)))) (do_ex (de_sl (do_nm 0) (dp_some (de_var 1)) (dp_some (de_var 3)))))) (do_ex (de_sl (do_nm 0) (dp_some (de_var 3)) dp_none))))))))
/-! ### _law_cup -/
def N__law_cup : List Str := ["script", "cell"]
abbrev st__law_cup : Stmt := top 28
abbrev sc__law_cup : Scope := defScope st__law_cup
theorem S__law_cup : FnScope N__law_cup ["script"] (defScope st__law_cup) := C8.fnScope_by (by decide +kernel)
def b__law_cup : SS := sSeq (sSet 1 (sFn aAbs [.ex (sOp2 aIx (.ex (sOp2 aAdd (.ex (sScr 0)) (.ex (sLst [.ex (sC (.int 0))])))) (.ex (sC (.int 0))))])) (sRet (sLst [.ex (sIf (sT (sOp2 aGe (.nm 1) (.ex (sOp2 aPow (.ex (sC (.int 10))) (.ex (sC (.int 18))))))) (sOp2 aDiv (.nm 1) (.ex (sC (.int 469)))) (sC (.int 0))), .ex (sOp2 aAdd (.ex (sOp2 aMod (.ex (sFn aInt [.ex (sOp2 aAdd (.ex (sOp2 aMul (.nm 1) (.ex (sC (.int 670))))) (.ex (sC (.int 7243))))])) (.ex (sC (.int 1993969739))))) (.ex (sC (.int 459))))]))
def m__law_cup : SE := runF 1 1 [] b__law_cup
theorem c__law_cup {P : Program} {w : World} {K : PySem.W.Frag} {mg : Str → Option Value} {base : Heap} {fd : FuncData} (A : Fs P K mg) (F : FnP K "_law_cup" st__law_cup fd) (g : mg "_law_cup" = some (.ref (He.ga K "_law_cup")))  : Cal P w K mg base (T K) 1 "_law_cup" 1 m__law_cup := by
  refine cal_den 1 1 [] F g S__law_cup rfl rfl (fun _ _ _ _ _ _ us hl => match us, hl with | [_], _ => rfl) fun f cdv A1 outer s H E hr => ?_
  have tk := takes_def (P := P) (w := w) (K := K) (mg := mg) (base := base) (N := N__law_cup) (q := "_law_cup") (sc := sc__law_cup) (f := f) (cd := cdv) (A := A1) (outer := outer) (s := s) (H := H) (E := E)
  have hp := passes_def (P := P) (w := w) (K := K) (mg := mg) (base := base) (N := N__law_cup) (q := "_law_cup") (sc := sc__law_cup) (f := f) (cd := cdv) (A := A1) (outer := outer) (s := s) (H := H) (E := E)
  have nd := S__law_cup.nd
  exact db_cons (ds_set (i := 1) nd (de_callB fd_abs A.b_abs rfl (da_cons (do_ex (de_ix (do_ex (de_op od_add (do_ex (de_scr A.b_list (do_nm 0))) (do_ex (de_lst (da_cons (do_ex (de_int)) (da_nil)))))) (do_ex (de_int)))) (da_nil)))) (db_one (ds_ret (de_lst (da_cons (do_ex (de_if (dt_cmp od_ge (do_nm 1) (do_ex (de_op od_pow (do_ex (de_int)) (do_ex (de_int)))) (nomark _)) (de_op od_div (do_nm 1) (do_ex (de_int))) (de_int))) (da_cons (do_ex (de_op od_add (do_ex (de_op od_mod (do_ex (de_callTy fd_int A.b_int rfl (da_cons (do_ex (de_op od_add (do_ex (de_op od_mul (do_nm 1) (do_ex (de_int)))) (do_ex (de_int)))) (da_nil)))) (do_ex (de_int)))) (do_ex (de_int)))) (da_nil))))))
/-! ### _law_roll -/
def N__law_roll : List Str := ["cup", "many", "found", "deep"]
abbrev st__law_roll : Stmt := top 29
abbrev sc__law_roll : Scope := defScope st__law_roll
theorem S__law_roll : FnScope N__law_roll ["cup", "many"] (defScope st__law_roll) := C8.fnScope_by (by decide +kernel)
def b__law_roll : SS := sSeq (sIfS (sT (sOp2 aGt (.ex (sOp2 aIx (.nm 0) (.ex (sC (.int 0))))) (.ex (sC (.int 0))))) (sSeq (sSet 2 (sOp2 aMod (.ex (sFn aInt [.ex (sOp2 aIx (.nm 0) (.ex (sC (.int 0))))])) (.nm 1))) (sSeq (sPut 0 (.ex (sC (.int 0))) (sOp2 aDiv (.ex (sOp2 aIx (.nm 0) (.ex (sC (.int 0))))) (.nm 1))) (sRet (sMove 2)))) (sNext)) (sSeq (sPut 0 (.ex (sC (.int 1))) (sOp2 aMod (.ex (sFn aInt [.ex (sOp2 aAdd (.ex (sOp2 aMul (.ex (sOp2 aIx (.nm 0) (.ex (sC (.int 1))))) (.ex (sC (.int 30949))))) (.ex (sC (.int 8807))))])) (.ex (sC (.int 2147483549))))) (sSeq (sSet 3 (sOp2 aMod (.ex (sFn aInt [.ex (sOp2 aMul (.ex (sOp2 aIx (.nm 0) (.ex (sC (.int 1))))) (.ex (sOp2 aAdd (.ex (sOp2 aIx (.nm 0) (.ex (sC (.int 1))))) (.ex (sC (.int 683))))))])) (.ex (sC (.int 2147483543))))) (sRet (sOp2 aMod (.ex (sFn aInt [.ex (sOp2 aDiv (.nm 3) (.ex (sC (.int 1193))))])) (.nm 1)))))
def m__law_roll : SE := runF 2 2 [0] b__law_roll
theorem c__law_roll {P : Program} {w : World} {K : PySem.W.Frag} {mg : Str → Option Value} {base : Heap} {fd : FuncData} (A : Fs P K mg) (F : FnP K "_law_roll" st__law_roll fd) (g : mg "_law_roll" = some (.ref (He.ga K "_law_roll")))  : Cal P w K mg base (T K) 1 "_law_roll" 2 m__law_roll := by
  refine cal_den 2 2 [0] F g S__law_roll rfl rfl (fun _ _ _ _ _ _ us hl => match us, hl with | [_, _], _ => rfl) fun f cdv A1 outer s H E hr => ?_
  have tk := takes_def (P := P) (w := w) (K := K) (mg := mg) (base := base) (N := N__law_roll) (q := "_law_roll") (sc := sc__law_roll) (f := f) (cd := cdv) (A := A1) (outer := outer) (s := s) (H := H) (E := E)
  have hp := passes_def (P := P) (w := w) (K := K) (mg := mg) (base := base) (N := N__law_roll) (q := "_law_roll") (sc := sc__law_roll) (f := f) (cd := cdv) (A := A1) (outer := outer) (s := s) (H := H) (E := E)
  have nd := S__law_roll.nd
  exact db_cons (ds_if (dt_cmp od_gt (do_ex (de_ix (do_nm 0) (do_ex (de_int)))) (do_ex (de_int)) (nomark _)) (db_cons (ds_set (i := 2) nd (de_op od_mod (do_ex (de_callTy fd_int A.b_int rfl (da_cons (do_ex (de_ix (do_nm 0) (do_ex (de_int)))) (da_nil)))) (do_nm 1))) (db_cons (ds_put rfl (do_nm 0) (do_ex (de_int)) (de_op od_div (do_ex (de_ix (do_nm 0) (do_ex (de_int)))) (do_nm 1))) (db_one (ds_ret (de_move 2))))) (db_nil)) (db_cons (ds_put rfl (do_nm 0) (do_ex (de_int)) (de_op od_mod (do_ex (de_callTy fd_int A.b_int rfl (da_cons (do_ex (de_op od_add (do_ex (de_op od_mul (do_ex (de_ix (do_nm 0) (do_ex (de_int)))) (do_ex (de_int)))) (do_ex (de_int)))) (da_nil)))) (do_ex (de_int)))) (db_cons (ds_set (i := 3) nd (de_op od_mod (do_ex (de_callTy fd_int A.b_int rfl (da_cons (do_ex (de_op od_mul (do_ex (de_ix (do_nm 0) (do_ex (de_int)))) (do_ex (de_op od_add (do_ex (de_ix (do_nm 0) (do_ex (de_int)))) (do_ex (de_int)))))) (da_nil)))) (do_ex (de_int)))) (db_one (ds_ret (de_op od_mod (do_ex (de_callTy fd_int A.b_int rfl (da_cons (do_ex (de_op od_div (do_nm 3) (do_ex (de_int)))) (da_nil)))) (do_nm 1))))))
/-! ### _law_some -/
def N__law_some : List Str := ["cup", "things"]
abbrev st__law_some : Stmt := top 30
abbrev sc__law_some : Scope := defScope st__law_some
theorem S__law_some : FnScope N__law_some ["cup", "things"] (defScope st__law_some) := C8.fnScope_by (by decide +kernel)
def b__law_some : SS := sRet (sOp2 aIx (.nm 1) (.ex (sCall 2 m__law_roll [.nm 0, .ex (sFn aLen [.nm 1])])))
def m__law_some : SE := runF 2 0 [0] b__law_some
theorem c__law_some {P : Program} {w : World} {K : PySem.W.Frag} {mg : Str → Option Value} {base : Heap} {fd : FuncData} (A : Fs P K mg) (F : FnP K "_law_some" st__law_some fd) (g : mg "_law_some" = some (.ref (He.ga K "_law_some"))) (c__law_roll : Cal P w K mg base (T K) 1 "_law_roll" 2 m__law_roll) : Cal P w K mg base (T K) 2 "_law_some" 2 m__law_some := by
  refine cal_den 2 0 [0] F g S__law_some rfl rfl (fun _ _ _ _ _ _ us hl => match us, hl with | [_, _], _ => rfl) fun f cdv A1 outer s H E hr => ?_
  have tk := takes_def (P := P) (w := w) (K := K) (mg := mg) (base := base) (N := N__law_some) (q := "_law_some") (sc := sc__law_some) (f := f) (cd := cdv) (A := A1) (outer := outer) (s := s) (H := H) (E := E)
  have hp := passes_def (P := P) (w := w) (K := K) (mg := mg) (base := base) (N := N__law_some) (q := "_law_some") (sc := sc__law_some) (f := f) (cd := cdv) (A := A1) (outer := outer) (s := s) (H := H) (E := E)
  have nd := S__law_some.nd
  exact db_one (ds_ret (de_ix (do_nm 1) (do_ex (de_calC c__law_roll hr tk (da_cons (do_nm 0) (da_cons (do_ex (de_callB fd_len A.b_len rfl (da_cons (do_nm 1) (da_nil)))) (da_nil)))))))
/-! ### _law_kind -/
def N__law_kind : List Str := ["value"]
abbrev st__law_kind : Stmt := top 31
abbrev sc__law_kind : Scope := defScope st__law_kind
theorem S__law_kind : FnScope N__law_kind ["value"] (defScope st__law_kind) := C8.fnScope_by (by decide +kernel)
def b__law_kind : SS := sSeq (sIfS (sT (sOp1 (aIsi "bool") (.nm 0))) (sRet (sC (.int 0))) (sNext)) (sSeq (sIfS (sT (sOp1 (aIsi "tuple") (.nm 0))) (sRet (sC (.int 1))) (sNext)) (sRet (sIf (sT (sOp1 (aIsi "list") (.nm 0))) (sC (.int 2)) (sC (.int 3)))))
def m__law_kind : SE := runF 1 0 [] b__law_kind
theorem c__law_kind {P : Program} {w : World} {K : PySem.W.Frag} {mg : Str → Option Value} {base : Heap} {fd : FuncData} (A : Fs P K mg) (F : FnP K "_law_kind" st__law_kind fd) (g : mg "_law_kind" = some (.ref (He.ga K "_law_kind")))  : Cal P w K mg base (T K) 1 "_law_kind" 1 m__law_kind := by
  refine cal_den 1 0 [] F g S__law_kind rfl rfl (fun _ _ _ _ _ _ us hl => match us, hl with | [_], _ => rfl) fun f cdv A1 outer s H E hr => ?_
  have tk := takes_def (P := P) (w := w) (K := K) (mg := mg) (base := base) (N := N__law_kind) (q := "_law_kind") (sc := sc__law_kind) (f := f) (cd := cdv) (A := A1) (outer := outer) (s := s) (H := H) (E := E)
  have hp := passes_def (P := P) (w := w) (K := K) (mg := mg) (base := base) (N := N__law_kind) (q := "_law_kind") (sc := sc__law_kind) (f := f) (cd := cdv) (A := A1) (outer := outer) (s := s) (H := H) (E := E)
  have nd := S__law_kind.nd
  exact db_cons (ds_if (dt_val (de_isi A.b_isinstance A.b_bool rfl (do_nm 0))) (db_one (ds_ret (de_int))) (db_nil)) (db_cons (ds_if (dt_val (de_isi A.b_isinstance A.b_tuple rfl (do_nm 0))) (db_one (ds_ret (de_int))) (db_nil)) (db_one (ds_ret (de_if (dt_val (de_isi A.b_isinstance A.b_list rfl (do_nm 0))) (de_int) (de_int)))))
/-! ### _law_like -/
def N__law_like : List Str := ["one", "other", "left", "right"]
abbrev st__law_like : Stmt := top 32
abbrev sc__law_like : Scope := defScope st__law_like
theorem S__law_like : FnScope N__law_like ["one", "other"] (defScope st__law_like) := C8.fnScope_by (by decide +kernel)
def b__law_like (m__law_like : Nat → SE) (n : Nat) : SS := sSeq (sIfS (sT (sOp2 aNe (.ex (sCall 1 m__law_kind [.ex (sVar 0)])) (.ex (sCall 1 m__law_kind [.ex (sVar 1)])))) (sRet (sC (.bool false))) (sNext)) (sSeq (sIfS (sT (sOp2 aIn (.ex (sCall 1 m__law_kind [.ex (sVar 0)])) (.ex (sTup [.ex (sC (.int 1)), .ex (sC (.int 2))])))) (sRet (sAndV (sOp2 aEq (.ex (sFn aLen [.nm 0])) (.ex (sFn aLen [.nm 1]))) (sOp2 aEq (.ex (sLc (sZip [.ex (sVar 0), .ex (sVar 1)]) (gTp 2 (gsCons (gNm 2) (gsCons (gNm 3) (gsNil)))) (sNotT (sT (sCall 2 (m__law_like n) [.ex (sVar 2), .ex (sVar 3)]))) (sC (.int 1)) [2, 3])) (.ex (sLst []))))) (sNext)) (sRet (sOp2 aEq (.nm 0) (.nm 1))))
def m__law_like : Nat → SE
  | 0 => fun _ => .bad
  | n + 1 => runF 2 2 [] (sSeq (sIfS (sT (sOp2 aNe (.ex (sCall 1 m__law_kind [.ex (sVar 0)])) (.ex (sCall 1 m__law_kind [.ex (sVar 1)])))) (sRet (sC (.bool false))) (sNext)) (sSeq (sIfS (sT (sOp2 aIn (.ex (sCall 1 m__law_kind [.ex (sVar 0)])) (.ex (sTup [.ex (sC (.int 1)), .ex (sC (.int 2))])))) (sRet (sAndV (sOp2 aEq (.ex (sFn aLen [.nm 0])) (.ex (sFn aLen [.nm 1]))) (sOp2 aEq (.ex (sLc (sZip [.ex (sVar 0), .ex (sVar 1)]) (gTp 2 (gsCons (gNm 2) (gsCons (gNm 3) (gsNil)))) (sNotT (sT (sCall 2 (m__law_like n) [.ex (sVar 2), .ex (sVar 3)]))) (sC (.int 1)) [2, 3])) (.ex (sLst []))))) (sNext)) (sRet (sOp2 aEq (.nm 0) (.nm 1)))))
theorem c__law_like {P : Program} {w : World} {K : PySem.W.Frag} {mg : Str → Option Value} {base : Heap} {fd : FuncData} (A : Fs P K mg) (F : FnP K "_law_like" st__law_like fd) (g : mg "_law_like" = some (.ref (He.ga K "_law_like"))) (c__law_kind : Cal P w K mg base (T K) 1 "_law_kind" 1 m__law_kind) : ∀ n, Cal P w K mg base (T K) (2 + n) "_law_like" 2 (m__law_like n) := by
  intro n
  induction n with
  | zero => exact cal_bad (ps := ["one", "other"]) F g (fun _ _ _ _ _ _ us hl => match us, hl with | [_, _], _ => rfl)
  | succ n ih =>
    refine cal_den 2 2 [] F g S__law_like rfl rfl (fun _ _ _ _ _ _ us hl => match us, hl with | [_, _], _ => rfl) fun f cdv A1 outer s H E hr => ?_
    have tk := takes_def (P := P) (w := w) (K := K) (mg := mg) (base := base) (N := N__law_like) (q := "_law_like") (sc := sc__law_like) (f := f) (cd := cdv) (A := A1) (outer := outer) (s := s) (H := H) (E := E)
    have hp := passes_def (P := P) (w := w) (K := K) (mg := mg) (base := base) (N := N__law_like) (q := "_law_like") (sc := sc__law_like) (f := f) (cd := cdv) (A := A1) (outer := outer) (s := s) (H := H) (E := E)
    have nd := S__law_like.nd
    exact db_cons (ds_if (dt_cmp (od_ne hr.units) (do_ex (de_calC c__law_kind hr tk (da_cons (do_ex (de_var 0)) (da_nil)))) (do_ex (de_calC c__law_kind hr tk (da_cons (do_ex (de_var 1)) (da_nil)))) (nomark _)) (db_one (ds_ret (de_bl))) (db_nil)) (db_cons (ds_if (dt_cmp (od_in (u65 hr)) (do_ex (de_calC c__law_kind hr tk (da_cons (do_ex (de_var 0)) (da_nil)))) (do_ex (de_tup (da_cons (do_ex (de_int)) (da_cons (do_ex (de_int)) (da_nil))))) (by with_unfolding_all rfl)) (db_one (ds_ret (de_and (de_cmp (od_eq hr.units) (do_ex (de_callB fd_len A.b_len rfl (da_cons (do_nm 0) (da_nil)))) (do_ex (de_callB fd_len A.b_len rfl (da_cons (do_nm 1) (da_nil)))) (nomark _)) (de_one (de_cmp (od_eq hr.units) (do_ex (de_lc (own := [("left", 2), ("right", 3)]) (g := gTp 2 (gsCons (gNm 2) (gsCons (gNm 3) (gsNil)))) (t := sNotT (sT (sCall 2 (m__law_like n) [.ex (sVar 2), .ex (sVar 3)]))) (el := sC (.int 1)) rfl nd (blkOk_by (N := N__law_like) (sc := sc__law_like) (by decide +kernel)) (di_zip A.b_zip (da_cons (do_ex (de_var 0)) (da_cons (do_ex (de_var 1)) (da_nil)))) (fun _ _ _ _ _ => dg_tup rfl (dgs_cons (dg_nm 2 nd) (dgs_cons (dg_nm 3 nd) (dgs_nil)))) (fun _ _ _ _ _ => dts_one (dt_not (dt_val (de_calC (hle := Nat.le_refl _) ih hr takes0N (da_cons (do_ex (de_var 2)) (da_cons (do_ex (de_var 3)) (da_nil))))))) (fun _ _ _ _ _ => de_int))) (do_ex (de_lst (da_nil))) (nomark _)))))) (db_nil)) (db_one (ds_ret (de_cmp (od_eq hr.units) (do_nm 0) (do_nm 1) (nomark _)))))
/-! ### _law_row -/
def N__law_row : List Str := ["cup", "deeds", "most", "row", "turn"]
abbrev st__law_row : Stmt := top 33
abbrev sc__law_row : Scope := defScope st__law_row
theorem S__law_row : FnScope N__law_row ["cup", "deeds", "most"] (defScope st__law_row) := C8.fnScope_by (by decide +kernel)
def b__law_row : SS := sSeq (sSet 3 (sC (.str ""))) (sSeq (sFor (sRng1 [.ex (sCall 2 m__law_roll [.nm 0, .ex (sOp2 aAdd (.nm 2) (.ex (sC (.int 1))))])]) (gNm 4) (sSet 3 (sOp2 aAdd (.nm 3) (.ex (sCall 2 m__law_some [.nm 0, .ex (sVar 1)]))))) (sRet (sMove 3)))
def m__law_row : SE := runF 3 2 [0] b__law_row
theorem c__law_row {P : Program} {w : World} {K : PySem.W.Frag} {mg : Str → Option Value} {base : Heap} {fd : FuncData} (A : Fs P K mg) (F : FnP K "_law_row" st__law_row fd) (g : mg "_law_row" = some (.ref (He.ga K "_law_row"))) (c__law_roll : Cal P w K mg base (T K) 1 "_law_roll" 2 m__law_roll) (c__law_some : Cal P w K mg base (T K) 2 "_law_some" 2 m__law_some) : Cal P w K mg base (T K) 3 "_law_row" 3 m__law_row := by
  refine cal_den 3 2 [0] F g S__law_row rfl rfl (fun _ _ _ _ _ _ us hl => match us, hl with | [_, _, _], _ => rfl) fun f cdv A1 outer s H E hr => ?_
  have tk := takes_def (P := P) (w := w) (K := K) (mg := mg) (base := base) (N := N__law_row) (q := "_law_row") (sc := sc__law_row) (f := f) (cd := cdv) (A := A1) (outer := outer) (s := s) (H := H) (E := E)
  have hp := passes_def (P := P) (w := w) (K := K) (mg := mg) (base := base) (N := N__law_row) (q := "_law_row") (sc := sc__law_row) (f := f) (cd := cdv) (A := A1) (outer := outer) (s := s) (H := H) (E := E)
  have nd := S__law_row.nd
  exact db_cons (ds_set (i := 3) nd (de_str)) (db_cons (ds_for (ws := [4]) hp rfl (di_rng1 A.b_range (da_cons (do_ex (de_calC c__law_roll hr tk (da_cons (do_nm 0) (da_cons (do_ex (de_op od_add (do_nm 2) (do_ex (de_int)))) (da_nil))))) (da_nil))) (dg_nm 4 nd) (db_one (ds_set (i := 3) nd (de_op od_add (do_nm 3) (do_ex (de_calC c__law_some hr tk (da_cons (do_nm 0) (da_cons (do_ex (de_var 1)) (da_nil))))))))) (db_one (ds_ret (de_move 3))))
/-! ### _law_letters -/
def N__law_letters : List Str := ["cup", "most", "turn"]
abbrev st__law_letters : Stmt := top 34
abbrev sc__law_letters : Scope := defScope st__law_letters
theorem S__law_letters : FnScope N__law_letters ["cup", "most"] (defScope st__law_letters) := C8.fnScope_by (by decide +kernel)
def b__law_letters : SS := sRet (sFn aTuple [.ex (sLc (sRng1 [.ex (sCall 2 m__law_roll [.nm 0, .ex (sOp2 aAdd (.nm 1) (.ex (sC (.int 1))))])]) (gNm 2) (sYes) (sTup [.ex (sFrz (sCall 2 m__law_some [.nm 0, .ex (sC (.str "abch"))])), .ex (sOp2 aAdd (.ex (sC (.int 1))) (.ex (sCall 2 m__law_roll [.nm 0, .ex (sC (.int 9))])))]) [2])])
def m__law_letters : SE := runF 2 1 [0] b__law_letters
theorem c__law_letters {P : Program} {w : World} {K : PySem.W.Frag} {mg : Str → Option Value} {base : Heap} {fd : FuncData} (A : Fs P K mg) (F : FnP K "_law_letters" st__law_letters fd) (g : mg "_law_letters" = some (.ref (He.ga K "_law_letters"))) (c__law_roll : Cal P w K mg base (T K) 1 "_law_roll" 2 m__law_roll) (c__law_some : Cal P w K mg base (T K) 2 "_law_some" 2 m__law_some) : Cal P w K mg base (T K) 3 "_law_letters" 2 m__law_letters := by
  refine cal_den 2 1 [0] F g S__law_letters rfl rfl (fun _ _ _ _ _ _ us hl => match us, hl with | [_, _], _ => rfl) fun f cdv A1 outer s H E hr => ?_
  have tk := takes_def (P := P) (w := w) (K := K) (mg := mg) (base := base) (N := N__law_letters) (q := "_law_letters") (sc := sc__law_letters) (f := f) (cd := cdv) (A := A1) (outer := outer) (s := s) (H := H) (E := E)
  have hp := passes_def (P := P) (w := w) (K := K) (mg := mg) (base := base) (N := N__law_letters) (q := "_law_letters") (sc := sc__law_letters) (f := f) (cd := cdv) (A := A1) (outer := outer) (s := s) (H := H) (E := E)
  have nd := S__law_letters.nd
  exact db_one (ds_ret (de_callTy (fd_tuple rfl) A.b_tuple rfl (da_cons (do_ex (de_lc (own := [("turn", 2)]) (g := gNm 2) (t := sYes) (el := sTup [.ex (sFrz (sCall 2 m__law_some [.nm 0, .ex (sC (.str "abch"))])), .ex (sOp2 aAdd (.ex (sC (.int 1))) (.ex (sCall 2 m__law_roll [.nm 0, .ex (sC (.int 9))])))]) rfl nd (blkOk_by (N := N__law_letters) (sc := sc__law_letters) (by decide +kernel)) (di_rng1 A.b_range (da_cons (do_ex (de_calC c__law_roll hr tk (da_cons (do_nm 0) (da_cons (do_ex (de_op od_add (do_nm 1) (do_ex (de_int)))) (da_nil))))) (da_nil))) (fun _ _ _ _ _ => dg_nm 2 nd) (fun _ _ _ _ _ => dts_nil) (fun _ _ _ _ _ => de_tup (da_cons (do_ex (de_frz (de_calC c__law_some hr takes0N (da_cons (do_nm 0) (da_cons (do_ex (de_str)) (da_nil)))))) (da_cons (do_ex (de_op od_add (do_ex (de_int)) (do_ex (de_calC c__law_roll hr takes0N (da_cons (do_nm 0) (da_cons (do_ex (de_int)) (da_nil))))))) (da_nil)))))) (da_nil))))
/-! ### _law_error -/
def N__law_error : List Str := ["call", "e", "words", "word", "is_so"]
abbrev st__law_error : Stmt := top 35
abbrev sc__law_error : Scope := defScope st__law_error
theorem S__law_error : FnScope N__law_error ["call"] (defScope st__law_error) := C8.fnScope_by (by decide +kernel)
def h__law_error (act : SE) : SS := sSeq (sTry (sDrop (act)) [⟨tX_StretchError, (some 1), sSeq (sIfS (sT (sIsF 1 tE_TooMany)) (sRet (sOp2 aAdd (.ex (sC (.str "many"))) (.ex (sFn aStr [.ex (sXf 1 "TooMany" "limit")])))) (sNext)) (sSeq (sSet 2 (sLst [.ex (sTup [.ex (sC (.str "number")), .ex (sIsF 1 tE_InvalidNumber)]), .ex (sTup [.ex (sC (.str "row")), .ex (sIsF 1 tE_InvalidRow)]), .ex (sTup [.ex (sC (.str "tree")), .ex (sIsF 1 tE_InvalidTree)])])) (sSeq (sSet 2 (sOp2 aAdd (.nm 2) (.ex (sLst [.ex (sTup [.ex (sC (.str "machine")), .ex (sIsF 1 tE_InvalidMachine)]), .ex (sTup [.ex (sC (.str "found")), .ex (sIsF 1 tE_NotFound)]), .ex (sTup [.ex (sC (.str "other")), .ex (sC (.bool true))])])))) (sRet (sOp2 aIx (.ex (sLc (sRowL (sFrz (sVar 2))) (gTp 2 (gsCons (gNm 3) (gsCons (gNm 4) (gsNil)))) (sT (sVar 4)) (sVar 3) [3, 4])) (.ex (sC (.int 0)))))))⟩]) (sRet (sC (.str "")))
theorem c__law_error {P : Program} {w : World} {K : PySem.W.Frag} {mg : Str → Option Value} {base : Heap} {fd : FuncData} (A : Fs P K mg) (F : FnP K "_law_error" st__law_error fd) (g : mg "_law_error" = some (.ref (He.ga K "_law_error")))  : Help P w K mg base (tabs K) 6 "_law_error" 4 h__law_error := by
  refine help_den 4 F g S__law_error rfl rfl (by first | exact Or.inl rfl | exact Or.inr (Or.inl rfl)) rfl rfl (fun _ _ _ _ _ _ us hl => match us, hl with | [_], _ => rfl) fun cdv A1 outer s H f c' q held o hr act => ?_
  have tk : L2N.Takes (cxOf C8.CX0 P w K mg base N__law_error "_law_error" sc__law_error (He.ga K "_law_error") cdv A1 outer s H C8.E0).nox WF := takes0N
  have nd := S__law_error.nd
  exact db_cons (ds_try nd tk (fun W pn xe tk hp => db_one (ds_expr (act _ _ _ _ _ tk))) (.as_ rfl rfl (by dsimp only; decide) ⟨by rfl, by decide, .inl A.g_StretchError⟩ A.tX_StretchError (fun a oe cls d pn hz hf => db_cons (ds_if (dt_val (de_isF (i := 1) hz hf rfl (Or.inl rfl) A.b_isinstance A.g_TooMany A.tE_TooMany)) (db_one (ds_ret (de_op od_add (do_ex (de_str)) (do_ex (de_callTy fd_str A.b_str rfl (da_cons (do_ex (de_xf (i := 1) hz hf rfl (Or.inl rfl) A.g_TooMany A.xf_TooMany_limit A.nx_TooMany_limit)) (da_nil))))))) (db_nil)) (db_cons (ds_set (i := 2) nd (de_lst (da_cons (do_ex (de_tup (da_cons (do_ex (de_str)) (da_cons (do_ex (de_isF (i := 1) hz hf rfl (Or.inl rfl) A.b_isinstance A.g_InvalidNumber A.tE_InvalidNumber)) (da_nil))))) (da_cons (do_ex (de_tup (da_cons (do_ex (de_str)) (da_cons (do_ex (de_isF (i := 1) hz hf rfl (Or.inl rfl) A.b_isinstance A.g_InvalidRow A.tE_InvalidRow)) (da_nil))))) (da_cons (do_ex (de_tup (da_cons (do_ex (de_str)) (da_cons (do_ex (de_isF (i := 1) hz hf rfl (Or.inl rfl) A.b_isinstance A.g_InvalidTree A.tE_InvalidTree)) (da_nil))))) (da_nil)))))) (db_cons (ds_set (i := 2) nd (de_op od_add (do_nm 2) (do_ex (de_lst (da_cons (do_ex (de_tup (da_cons (do_ex (de_str)) (da_cons (do_ex (de_isF (i := 1) hz hf rfl (Or.inl rfl) A.b_isinstance A.g_InvalidMachine A.tE_InvalidMachine)) (da_nil))))) (da_cons (do_ex (de_tup (da_cons (do_ex (de_str)) (da_cons (do_ex (de_isF (i := 1) hz hf rfl (Or.inl rfl) A.b_isinstance A.g_NotFound A.tE_NotFound)) (da_nil))))) (da_cons (do_ex (de_tup (da_cons (do_ex (de_str)) (da_cons (do_ex (de_bl)) (da_nil))))) (da_nil)))))))) (db_one (ds_ret (de_ix (do_ex (de_lcW (own := [("word", 3), ("is_so", 4)]) (g := gTp 2 (gsCons (gNm 3) (gsCons (gNm 4) (gsNil)))) (t := sT (sVar 4)) (el := sVar 3) (hotC_suite hz hf) nd (blkOk_by (N := N__law_error) (sc := sc__law_error) (by decide +kernel)) (diw_row (de_var 2)) (fun _ _ _ _ _ hw => dg_tupW hw (dgs_cons (dg_nm 3 nd) (dgs_cons (dg_nm 4 nd) (dgs_nil)))) (fun _ _ _ _ _ => dts_one (dt_val (de_var 4))) (fun _ _ _ _ _ => de_var 3))) (do_ex (de_int)))))))) (.nil))) (db_one (ds_ret (de_str)))
/-! ### _law_kept -/
def N__law_kept : List Str := ["letters", "row", "place", "letter", "other"]
abbrev st__law_kept : Stmt := top 36
abbrev sc__law_kept : Scope := defScope st__law_kept
theorem S__law_kept : FnScope N__law_kept ["letters"] (defScope st__law_kept) := C8.fnScope_by (by decide +kernel)
def b__law_kept : SS := sSeq (sSet 1 (sC (.str ""))) (sSeq (sFor (sEnumB [.ex (sVar 0)]) (gTp 2 (gsCons (gNm 2) (gsCons (gNm 3) (gsNil)))) (sIfS (sT (sOp2 aEq (.ex (sLc (sRow (sFrz (sSl (.nm 0) none (some (sVar 2))))) (gNm 4) (sT (sOp2 aGe (.ex (sOp2 aIx (.nm 4) (.ex (sC (.int 1))))) (.ex (sOp2 aIx (.nm 3) (.ex (sC (.int 1))))))) (sC (.int 1)) [4])) (.ex (sLst [])))) (sSet 1 (sOp2 aAdd (.nm 1) (.ex (sOp2 aIx (.nm 3) (.ex (sC (.int 0))))))) (sNext))) (sRet (sMove 1)))
def m__law_kept : SE := runF 1 4 [] b__law_kept
theorem c__law_kept {P : Program} {w : World} {K : PySem.W.Frag} {mg : Str → Option Value} {base : Heap} {fd : FuncData} (A : Fs P K mg) (F : FnP K "_law_kept" st__law_kept fd) (g : mg "_law_kept" = some (.ref (He.ga K "_law_kept")))  : Cal P w K mg base (T K) 1 "_law_kept" 1 m__law_kept := by
  refine cal_den 1 4 [] F g S__law_kept rfl rfl (fun _ _ _ _ _ _ us hl => match us, hl with | [_], _ => rfl) fun f cdv A1 outer s H E hr => ?_
  have tk := takes_def (P := P) (w := w) (K := K) (mg := mg) (base := base) (N := N__law_kept) (q := "_law_kept") (sc := sc__law_kept) (f := f) (cd := cdv) (A := A1) (outer := outer) (s := s) (H := H) (E := E)
  have hp := passes_def (P := P) (w := w) (K := K) (mg := mg) (base := base) (N := N__law_kept) (q := "_law_kept") (sc := sc__law_kept) (f := f) (cd := cdv) (A := A1) (outer := outer) (s := s) (H := H) (E := E)
  have nd := S__law_kept.nd
  exact db_cons (ds_set (i := 1) nd (de_str)) (db_cons (ds_for (ws := [2, 3]) hp rfl (di_enumB A.b_enumerate (da_cons (do_ex (de_var 0)) (da_nil))) (dg_tup rfl (dgs_cons (dg_nm 2 nd) (dgs_cons (dg_nm 3 nd) (dgs_nil)))) (db_one (ds_if (dt_cmp (od_eq hr.units) (do_ex (de_lc (own := [("other", 4)]) (g := gNm 4) (t := sT (sOp2 aGe (.ex (sOp2 aIx (.nm 4) (.ex (sC (.int 1))))) (.ex (sOp2 aIx (.nm 3) (.ex (sC (.int 1))))))) (el := sC (.int 1)) rfl nd (blkOk_by (N := N__law_kept) (sc := sc__law_kept) (by decide +kernel)) (di_row (de_sl (do_nm 0) dp_none (dp_some (de_var 2)))) (fun _ _ _ _ _ => dg_nm 4 nd) (fun _ _ _ _ _ => dts_one (dt_cmp od_ge (do_ex (de_ix (do_nm 4) (do_ex (de_int)))) (do_ex (de_ix (do_nm 3) (do_ex (de_int)))) (nomark _))) (fun _ _ _ _ _ => de_int))) (do_ex (de_lst (da_nil))) (nomark _)) (db_one (ds_set (i := 1) nd (de_op od_add (do_nm 1) (do_ex (de_ix (do_nm 3) (do_ex (de_int))))))) (db_nil)))) (db_one (ds_ret (de_move 1))))
/-! ### _law_fixed_right -/
def N__law_fixed_right : List Str := ["told", "due", "values", "one"]
abbrev st__law_fixed_right : Stmt := top 37
abbrev sc__law_fixed_right : Scope := defScope st__law_fixed_right
theorem S__law_fixed_right : FnScope N__law_fixed_right [] (defScope st__law_fixed_right) := C8.fnScope_by (by decide +kernel)
def q_law_fixed_right_0 : SS := sSet 0 (sLst [.ex (sFrz (sCall 1 m_stamped [.ex (sC (.str "aba"))])), .ex (sFrz (sCall 1 m_stamped [.ex (sC (.str ""))])), .ex (sFrz (sCall 1 m_kept [.ex (sTup [.ex (sTup [.ex (sC (.str "a")), .ex (sC (.int 1))]), .ex (sTup [.ex (sC (.str "b")), .ex (sC (.int 2))]), .ex (sTup [.ex (sC (.str "a")), .ex (sC (.int 1))]), .ex (sTup [.ex (sC (.str "b")), .ex (sC (.int 2))]), .ex (sTup [.ex (sC (.str "a")), .ex (sC (.int 3))])])])), .ex (sFrz (sCall 1 m_kept [.ex (sTup [.ex (sTup [.ex (sC (.str "a")), .ex (sC (.int 5))]), .ex (sTup [.ex (sC (.str "b")), .ex (sC (.int 2))])])])), .ex (sFrz (sCall 1 m_kept [.ex (sTup [])]))])
def q_law_fixed_right_1 : SS := sSet 1 (sLst [.ex (sTup [.ex (sTup [.ex (sC (.str "a")), .ex (sC (.int 1))]), .ex (sTup [.ex (sC (.str "b")), .ex (sC (.int 2))]), .ex (sTup [.ex (sC (.str "a")), .ex (sC (.int 3))])]), .ex (sTup []), .ex (sC (.str "aba")), .ex (sC (.str "a")), .ex (sC (.str ""))])
def q_law_fixed_right_2 : SS := sSet 0 (sOp2 aAdd (.nm 0) (.ex (sLst [.ex (sFrz (sCall 1 m_kept [.ex (sTup [.ex (sTup [.ex (sC (.str "a")), .ex (sC (.int 2))]), .ex (sTup [.ex (sC (.str "b")), .ex (sC (.int 2))]), .ex (sTup [.ex (sC (.str "c")), .ex (sC (.int 1000000))]), .ex (sTup [.ex (sC (.str "d")), .ex (sC (.int 999999))])])])), .ex (sFrz (sCall 1 m_kept [.ex (sFrz (sCall 1 m_stamped [.ex (sOp2 aMul (.ex (sC (.str "h"))) (.ex (sC (.int 400))))]))])), .ex (sFn aLen [.ex (sCall 1 m_stamped [.ex (sOp2 aMul (.ex (sC (.str "h"))) (.ex (sC (.int 400))))])])])))
def q_law_fixed_right_3 : SS := sSet 1 (sOp2 aAdd (.nm 1) (.ex (sLst [.ex (sC (.str "ac")), .ex (sOp2 aMul (.ex (sC (.str "h"))) (.ex (sC (.int 400)))), .ex (sC (.int 400))])))
def q_law_fixed_right_4 : SS := sSet 0 (sOp2 aAdd (.nm 0) (.ex (sLst [.ex (sFrz (sCall 3 m_told_again [.ex (sFrz (sCall 1 m_stamped [.ex (sC (.str "ab"))])), .ex (sC (.int 0)), .ex (sC (.int 2))])), .ex (sFrz (sCall 3 m_told_again [.ex (sFrz (sCall 1 m_stamped [.ex (sC (.str "ab"))])), .ex (sC (.int 1)), .ex (sC (.int 1))])), .ex (sOp2 aIx (.ex (sCall 3 m_told_again [.ex (sFrz (sCall 1 m_stamped [.ex (sOp2 aMul (.ex (sC (.str "a"))) (.ex (sC (.int 400))))])), .ex (sC (.int 0)), .ex (sC (.int 400))])) (.ex (sC (.int 400))))])))
def q_law_fixed_right_5 : SS := sSet 1 (sOp2 aAdd (.nm 1) (.ex (sLst [.ex (sTup [.ex (sTup [.ex (sC (.str "a")), .ex (sC (.int 1))]), .ex (sTup [.ex (sC (.str "b")), .ex (sC (.int 2))]), .ex (sTup [.ex (sC (.str "a")), .ex (sC (.int 1))]), .ex (sTup [.ex (sC (.str "b")), .ex (sC (.int 2))])]), .ex (sTup [.ex (sTup [.ex (sC (.str "a")), .ex (sC (.int 1))]), .ex (sTup [.ex (sC (.str "b")), .ex (sC (.int 2))]), .ex (sTup [.ex (sC (.str "b")), .ex (sC (.int 2))])]), .ex (sTup [.ex (sC (.str "a")), .ex (sC (.int 1))])])))
def q_law_fixed_right_6 : SS := sIfS (sNotT (sT (sCall 2 (m__law_like 40) [.ex (sVar 0), .ex (sVar 1)]))) (sRet (sC (.bool false))) (sNext)
def q_law_fixed_right_7 : SS := sSet 2 (sLst [.ex (sTup []), .ex (sTup [.ex (sTup [.ex (sC (.str "a")), .ex (sC (.int 1))])]), .ex (sTup [.ex (sTup [.ex (sC (.str "h")), .ex (sC (.int 1000000))])]), .ex (sTup [.ex (sTup [.ex (sC (.str "a")), .ex (sC (.int 0))])]), .ex (sTup [.ex (sTup [.ex (sC (.str "a")), .ex (sC (.int 1000001))])]), .ex (sTup [.ex (sTup [.ex (sC (.str "i")), .ex (sC (.int 1))])]), .ex (sTup [.ex (sTup [.ex (sC (.str "a")), .ex (sC (.bool true))])]), .ex (sTup [.ex (sTup [.ex (sC (.str "a"))])]), .ex (sTup [.ex (sTup [.ex (sC (.str "a")), .ex (sC (.int 1)), .ex (sC (.int 1))])])])
def q_law_fixed_right_8 : SS := sSet 2 (sOp2 aAdd (.nm 2) (.ex (sLst [.ex (sFrz (sLst [.ex (sTup [.ex (sC (.str "a")), .ex (sC (.int 1))])])), .ex (sTup [.ex (sFrz (sLst [.ex (sC (.str "a")), .ex (sC (.int 1))]))]), .ex (sTup [.ex (sTup [.ex (sC (.str "ab")), .ex (sC (.int 1))])]), .ex (sTup [.ex (sTup [.ex (sC (.str "")), .ex (sC (.int 1))])]), .ex (sC .none), .ex (sOp2 aMul (.ex (sTup [.ex (sTup [.ex (sC (.str "a")), .ex (sC (.int 1))])])) (.ex (sC (.int 800)))), .ex (sOp2 aMul (.ex (sTup [.ex (sTup [.ex (sC (.str "a")), .ex (sC (.int 1))])])) (.ex (sC (.int 801)))), .ex (sTup [.ex (sTup [.ex (sC (.int 1)), .ex (sC (.str "a"))])]), .ex (sC (.str "a"))])))
def q_law_fixed_right_9 : SS := sSet 1 (sOp2 aAdd (.ex (sOp2 aAdd (.ex (sLst [.ex (sC (.bool true)), .ex (sC (.bool true)), .ex (sC (.bool true))])) (.ex (sOp2 aMul (.ex (sLst [.ex (sC (.bool false))])) (.ex (sC (.int 11))))))) (.ex (sLst [.ex (sC (.bool true)), .ex (sC (.bool false)), .ex (sC (.bool false)), .ex (sC (.bool false))])))
def q_law_fixed_right_10 : SS := sRet (sCall 2 (m__law_like 40) [.ex (sFrz (sLc (sRow (sFrz (sVar 2))) (gNm 3) (sYes) (sCall 1 m_is_letters [.ex (sVar 3)]) [3])), .ex (sVar 1)])
def b__law_fixed_right : SS := sSeq q_law_fixed_right_0 (sSeq q_law_fixed_right_1 (sSeq q_law_fixed_right_2 (sSeq q_law_fixed_right_3 (sSeq q_law_fixed_right_4 (sSeq q_law_fixed_right_5 (sSeq q_law_fixed_right_6 (sSeq q_law_fixed_right_7 (sSeq q_law_fixed_right_8 (sSeq q_law_fixed_right_9 q_law_fixed_right_10)))))))))
def m__law_fixed_right : SE := runF 0 4 [] b__law_fixed_right
theorem c__law_fixed_right {P : Program} {w : World} {K : PySem.W.Frag} {mg : Str → Option Value} {base : Heap} {fd : FuncData} (A : Fs P K mg) (F : FnP K "_law_fixed_right" st__law_fixed_right fd) (g : mg "_law_fixed_right" = some (.ref (He.ga K "_law_fixed_right"))) (c__law_like : ∀ n, Cal P w K mg base (T K) (2 + n) "_law_like" 2 (m__law_like n)) (c_is_letters : Cal P w K mg base (T K) 3 "is_letters" 1 m_is_letters) (c_kept : Cal P w K mg base (T K) 5 "kept" 1 m_kept) (c_stamped : Cal P w K mg base (T K) 3 "stamped" 1 m_stamped) (c_told_again : Cal P w K mg base (T K) 5 "told_again" 3 m_told_again) : Cal P w K mg base (T K) 43 "_law_fixed_right" 0 m__law_fixed_right := by
  refine cal_den 0 4 [] F g S__law_fixed_right rfl rfl (fun _ _ _ _ _ _ us hl => match us, hl with | [], _ => rfl) fun f cdv A1 outer s H E hr => ?_
  have tk := takes_def (P := P) (w := w) (K := K) (mg := mg) (base := base) (N := N__law_fixed_right) (q := "_law_fixed_right") (sc := sc__law_fixed_right) (f := f) (cd := cdv) (A := A1) (outer := outer) (s := s) (H := H) (E := E)
  have hp := passes_def (P := P) (w := w) (K := K) (mg := mg) (base := base) (N := N__law_fixed_right) (q := "_law_fixed_right") (sc := sc__law_fixed_right) (f := f) (cd := cdv) (A := A1) (outer := outer) (s := s) (H := H) (E := E)
  have nd := S__law_fixed_right.nd
  exact db_cons (ds_set (i := 0) nd (de_lst (da_cons (do_ex (de_frz (de_calC c_stamped hr tk (da_cons (do_ex (de_str)) (da_nil))))) (da_cons (do_ex (de_frz (de_calC c_stamped hr tk (da_cons (do_ex (de_str)) (da_nil))))) (da_cons (do_ex (de_frz (de_calC c_kept hr tk (da_cons (do_ex (de_tup (da_cons (do_ex (de_tup (da_cons (do_ex (de_str)) (da_cons (do_ex (de_int)) (da_nil))))) (da_cons (do_ex (de_tup (da_cons (do_ex (de_str)) (da_cons (do_ex (de_int)) (da_nil))))) (da_cons (do_ex (de_tup (da_cons (do_ex (de_str)) (da_cons (do_ex (de_int)) (da_nil))))) (da_cons (do_ex (de_tup (da_cons (do_ex (de_str)) (da_cons (do_ex (de_int)) (da_nil))))) (da_cons (do_ex (de_tup (da_cons (do_ex (de_str)) (da_cons (do_ex (de_int)) (da_nil))))) (da_nil)))))))) (da_nil))))) (da_cons (do_ex (de_frz (de_calC c_kept hr tk (da_cons (do_ex (de_tup (da_cons (do_ex (de_tup (da_cons (do_ex (de_str)) (da_cons (do_ex (de_int)) (da_nil))))) (da_cons (do_ex (de_tup (da_cons (do_ex (de_str)) (da_cons (do_ex (de_int)) (da_nil))))) (da_nil))))) (da_nil))))) (da_cons (do_ex (de_frz (de_calC c_kept hr tk (da_cons (do_ex (de_tup (da_nil))) (da_nil))))) (da_nil)))))))) (db_cons (ds_set (i := 1) nd (de_lst (da_cons (do_ex (de_tup (da_cons (do_ex (de_tup (da_cons (do_ex (de_str)) (da_cons (do_ex (de_int)) (da_nil))))) (da_cons (do_ex (de_tup (da_cons (do_ex (de_str)) (da_cons (do_ex (de_int)) (da_nil))))) (da_cons (do_ex (de_tup (da_cons (do_ex (de_str)) (da_cons (do_ex (de_int)) (da_nil))))) (da_nil)))))) (da_cons (do_ex (de_tup (da_nil))) (da_cons (do_ex (de_str)) (da_cons (do_ex (de_str)) (da_cons (do_ex (de_str)) (da_nil)))))))) (db_cons (ds_set (i := 0) nd (de_op od_add (do_nm 0) (do_ex (de_lst (da_cons (do_ex (de_frz (de_calC c_kept hr tk (da_cons (do_ex (de_tup (da_cons (do_ex (de_tup (da_cons (do_ex (de_str)) (da_cons (do_ex (de_int)) (da_nil))))) (da_cons (do_ex (de_tup (da_cons (do_ex (de_str)) (da_cons (do_ex (de_int)) (da_nil))))) (da_cons (do_ex (de_tup (da_cons (do_ex (de_str)) (da_cons (do_ex (de_int)) (da_nil))))) (da_cons (do_ex (de_tup (da_cons (do_ex (de_str)) (da_cons (do_ex (de_int)) (da_nil))))) (da_nil))))))) (da_nil))))) (da_cons (do_ex (de_frz (de_calC c_kept hr tk (da_cons (do_ex (de_frz (de_calC c_stamped hr tk (da_cons (do_ex (de_op od_mul (do_ex (de_str)) (do_ex (de_int)))) (da_nil))))) (da_nil))))) (da_cons (do_ex (de_callB fd_len A.b_len rfl (da_cons (do_ex (de_calC c_stamped hr tk (da_cons (do_ex (de_op od_mul (do_ex (de_str)) (do_ex (de_int)))) (da_nil)))) (da_nil)))) (da_nil)))))))) (db_cons (ds_set (i := 1) nd (de_op od_add (do_nm 1) (do_ex (de_lst (da_cons (do_ex (de_str)) (da_cons (do_ex (de_op od_mul (do_ex (de_str)) (do_ex (de_int)))) (da_cons (do_ex (de_int)) (da_nil)))))))) (db_cons (ds_set (i := 0) nd (de_op od_add (do_nm 0) (do_ex (de_lst (da_cons (do_ex (de_frz (de_calC c_told_again hr tk (da_cons (do_ex (de_frz (de_calC c_stamped hr tk (da_cons (do_ex (de_str)) (da_nil))))) (da_cons (do_ex (de_int)) (da_cons (do_ex (de_int)) (da_nil))))))) (da_cons (do_ex (de_frz (de_calC c_told_again hr tk (da_cons (do_ex (de_frz (de_calC c_stamped hr tk (da_cons (do_ex (de_str)) (da_nil))))) (da_cons (do_ex (de_int)) (da_cons (do_ex (de_int)) (da_nil))))))) (da_cons (do_ex (de_ix (do_ex (de_calC c_told_again hr tk (da_cons (do_ex (de_frz (de_calC c_stamped hr tk (da_cons (do_ex (de_op od_mul (do_ex (de_str)) (do_ex (de_int)))) (da_nil))))) (da_cons (do_ex (de_int)) (da_cons (do_ex (de_int)) (da_nil)))))) (do_ex (de_int)))) (da_nil)))))))) (db_cons (ds_set (i := 1) nd (de_op od_add (do_nm 1) (do_ex (de_lst (da_cons (do_ex (de_tup (da_cons (do_ex (de_tup (da_cons (do_ex (de_str)) (da_cons (do_ex (de_int)) (da_nil))))) (da_cons (do_ex (de_tup (da_cons (do_ex (de_str)) (da_cons (do_ex (de_int)) (da_nil))))) (da_cons (do_ex (de_tup (da_cons (do_ex (de_str)) (da_cons (do_ex (de_int)) (da_nil))))) (da_cons (do_ex (de_tup (da_cons (do_ex (de_str)) (da_cons (do_ex (de_int)) (da_nil))))) (da_nil))))))) (da_cons (do_ex (de_tup (da_cons (do_ex (de_tup (da_cons (do_ex (de_str)) (da_cons (do_ex (de_int)) (da_nil))))) (da_cons (do_ex (de_tup (da_cons (do_ex (de_str)) (da_cons (do_ex (de_int)) (da_nil))))) (da_cons (do_ex (de_tup (da_cons (do_ex (de_str)) (da_cons (do_ex (de_int)) (da_nil))))) (da_nil)))))) (da_cons (do_ex (de_tup (da_cons (do_ex (de_str)) (da_cons (do_ex (de_int)) (da_nil))))) (da_nil)))))))) (db_cons (ds_if (dt_not (dt_val (de_calC (c__law_like 40) hr tk (da_cons (do_ex (de_var 0)) (da_cons (do_ex (de_var 1)) (da_nil)))))) (db_one (ds_ret (de_bl))) (db_nil)) (db_cons (ds_set (i := 2) nd (de_lst (da_cons (do_ex (de_tup (da_nil))) (da_cons (do_ex (de_tup (da_cons (do_ex (de_tup (da_cons (do_ex (de_str)) (da_cons (do_ex (de_int)) (da_nil))))) (da_nil)))) (da_cons (do_ex (de_tup (da_cons (do_ex (de_tup (da_cons (do_ex (de_str)) (da_cons (do_ex (de_int)) (da_nil))))) (da_nil)))) (da_cons (do_ex (de_tup (da_cons (do_ex (de_tup (da_cons (do_ex (de_str)) (da_cons (do_ex (de_int)) (da_nil))))) (da_nil)))) (da_cons (do_ex (de_tup (da_cons (do_ex (de_tup (da_cons (do_ex (de_str)) (da_cons (do_ex (de_int)) (da_nil))))) (da_nil)))) (da_cons (do_ex (de_tup (da_cons (do_ex (de_tup (da_cons (do_ex (de_str)) (da_cons (do_ex (de_int)) (da_nil))))) (da_nil)))) (da_cons (do_ex (de_tup (da_cons (do_ex (de_tup (da_cons (do_ex (de_str)) (da_cons (do_ex (de_bl)) (da_nil))))) (da_nil)))) (da_cons (do_ex (de_tup (da_cons (do_ex (de_tup (da_cons (do_ex (de_str)) (da_nil)))) (da_nil)))) (da_cons (do_ex (de_tup (da_cons (do_ex (de_tup (da_cons (do_ex (de_str)) (da_cons (do_ex (de_int)) (da_cons (do_ex (de_int)) (da_nil)))))) (da_nil)))) (da_nil)))))))))))) (db_cons (ds_set (i := 2) nd (de_op od_add (do_nm 2) (do_ex (de_lst (da_cons (do_ex (de_frz (de_lst (da_cons (do_ex (de_tup (da_cons (do_ex (de_str)) (da_cons (do_ex (de_int)) (da_nil))))) (da_nil))))) (da_cons (do_ex (de_tup (da_cons (do_ex (de_frz (de_lst (da_cons (do_ex (de_str)) (da_cons (do_ex (de_int)) (da_nil)))))) (da_nil)))) (da_cons (do_ex (de_tup (da_cons (do_ex (de_tup (da_cons (do_ex (de_str)) (da_cons (do_ex (de_int)) (da_nil))))) (da_nil)))) (da_cons (do_ex (de_tup (da_cons (do_ex (de_tup (da_cons (do_ex (de_str)) (da_cons (do_ex (de_int)) (da_nil))))) (da_nil)))) (da_cons (do_ex (de_non)) (da_cons (do_ex (de_op od_mul (do_ex (de_tup (da_cons (do_ex (de_tup (da_cons (do_ex (de_str)) (da_cons (do_ex (de_int)) (da_nil))))) (da_nil)))) (do_ex (de_int)))) (da_cons (do_ex (de_op od_mul (do_ex (de_tup (da_cons (do_ex (de_tup (da_cons (do_ex (de_str)) (da_cons (do_ex (de_int)) (da_nil))))) (da_nil)))) (do_ex (de_int)))) (da_cons (do_ex (de_tup (da_cons (do_ex (de_tup (da_cons (do_ex (de_int)) (da_cons (do_ex (de_str)) (da_nil))))) (da_nil)))) (da_cons (do_ex (de_str)) (da_nil)))))))))))))) (db_cons (ds_set (i := 1) nd (de_op od_add (do_ex (de_op od_add (do_ex (de_lst (da_cons (do_ex (de_bl)) (da_cons (do_ex (de_bl)) (da_cons (do_ex (de_bl)) (da_nil)))))) (do_ex (de_op od_mul (do_ex (de_lst (da_cons (do_ex (de_bl)) (da_nil)))) (do_ex (de_int)))))) (do_ex (de_lst (da_cons (do_ex (de_bl)) (da_cons (do_ex (de_bl)) (da_cons (do_ex (de_bl)) (da_cons (do_ex (de_bl)) (da_nil))))))))) (db_one (ds_ret (de_calC (c__law_like 40) hr tk (da_cons (do_ex (de_frz (de_lc (own := [("one", 3)]) (g := gNm 3) (t := sYes) (el := sCall 1 m_is_letters [.ex (sVar 3)]) rfl nd (blkOk_by (N := N__law_fixed_right) (sc := sc__law_fixed_right) (by decide +kernel)) (di_row (de_var 2)) (fun _ _ _ _ _ => dg_nm 3 nd) (fun _ _ _ _ _ => dts_nil) (fun _ _ _ _ _ => de_calC c_is_letters hr takes0N (da_cons (do_ex (de_var 3)) (da_nil)))))) (da_cons (do_ex (de_var 1)) (da_nil)))))))))))))))
/-! ### _law_errors_right -/
def N__law_errors_right : List Str := ["words", "odd", "pairs", "place", "length"]
abbrev st__law_errors_right : Stmt := top 38
abbrev sc__law_errors_right : Scope := defScope st__law_errors_right
theorem S__law_errors_right : FnScope N__law_errors_right [] (defScope st__law_errors_right) := C8.fnScope_by (by decide +kernel)
def q_law_errors_right_0 : SS := sSet 0 (sLc (sRow (sFrz (sTup [.ex (sC .none), .ex (sC (.str "i")), .ex (sTup [.ex (sC (.str "a"))]), .ex (sOp2 aMul (.ex (sC (.str "a"))) (.ex (sC (.int 4001)))), .ex (sOp2 aMul (.ex (sC (.str "a"))) (.ex (sC (.int 401))))]))) (gNm 1) (sYes) (sLam [1] h__law_error 4 (sFrz (sCall 1 m_stamped [.ex (sVar 1)]))) [1])
def q_law_errors_right_1 : SS := sSet 0 (sOp2 aAdd (.nm 0) (.ex (sLc (sRow (sFrz (sTup [.ex (sC .none), .ex (sTup [.ex (sTup [.ex (sC (.str "a")), .ex (sC (.int 0))])]), .ex (sFrz (sLst [.ex (sTup [.ex (sC (.str "a")), .ex (sC (.int 1))])]))]))) (gNm 1) (sYes) (sLam [1] h__law_error 4 (sFrz (sCall 1 m_kept [.ex (sVar 1)]))) [1])))
def q_law_errors_right_2 : SS := sSet 0 (sOp2 aAdd (.nm 0) (.ex (sLc (sRow (sFrz (sTup [.ex (sC .none), .ex (sTup [.ex (sTup [.ex (sC (.str "a")), .ex (sC (.int 0))])])]))) (gNm 1) (sYes) (sLam [1] h__law_error 4 (sFrz (sCall 3 m_told_again [.ex (sVar 1), .ex (sC .none), .ex (sC .none)]))) [1])))
def q_law_errors_right_3 : SS := sSet 2 (sLst [.ex (sTup [.ex (sOp1 aNeg (.ex (sC (.int 1)))), .ex (sC (.int 1))]), .ex (sTup [.ex (sC (.int 0)), .ex (sC (.int 0))]), .ex (sTup [.ex (sC (.int 0)), .ex (sC (.int 3))]), .ex (sTup [.ex (sC (.int 2)), .ex (sC (.int 1))]), .ex (sTup [.ex (sC (.bool true)), .ex (sC (.int 1))]), .ex (sTup [.ex (sC (.int 0)), .ex (sC (.bool true))]), .ex (sTup [.ex (sC .none), .ex (sC (.int 1))]), .ex (sTup [.ex (sC (.int 0)), .ex (sC .none)]), .ex (sTup [.ex (sC (.int 1)), .ex (sC (.int 2))]), .ex (sTup [.ex (sC (.int 3)), .ex (sC (.int 1))])])
def q_law_errors_right_4 : SS := sSet 0 (sOp2 aAdd (.nm 0) (.ex (sLc (sRow (sFrz (sVar 2))) (gTp 2 (gsCons (gNm 3) (gsCons (gNm 4) (gsNil)))) (sYes) (sLam [3, 4] h__law_error 4 (sFrz (sCall 3 m_told_again [.ex (sFrz (sCall 1 m_stamped [.ex (sC (.str "ab"))])), .ex (sVar 3), .ex (sVar 4)]))) [3, 4])))
def q_law_errors_right_5 : SS := sSet 0 (sOp2 aAdd (.nm 0) (.ex (sLst [.ex (sFrz (sLam [] h__law_error 4 (sFrz (sCall 3 m_told_again [.ex (sFrz (sCall 3 m_told_again [.ex (sFrz (sCall 1 m_stamped [.ex (sOp2 aMul (.ex (sC (.str "a"))) (.ex (sC (.int 400))))])), .ex (sC (.int 0)), .ex (sC (.int 400))])), .ex (sC (.int 0)), .ex (sC (.int 1))]))))])))
def q_law_errors_right_6 : SS := sRet (sOp2 aEq (.nm 0) (.ex (sOp2 aAdd (.ex (sOp2 aAdd (.ex (sOp2 aAdd (.ex (sOp2 aAdd (.ex (sOp2 aMul (.ex (sLst [.ex (sC (.str "row"))])) (.ex (sC (.int 4))))) (.ex (sLst [.ex (sC (.str "many400"))])))) (.ex (sOp2 aMul (.ex (sLst [.ex (sC (.str "row"))])) (.ex (sC (.int 5))))))) (.ex (sOp2 aMul (.ex (sLst [.ex (sC (.str "number"))])) (.ex (sC (.int 10))))))) (.ex (sLst [.ex (sC (.str "many800"))])))))
def b__law_errors_right : SS := sSeq q_law_errors_right_0 (sSeq q_law_errors_right_1 (sSeq q_law_errors_right_2 (sSeq q_law_errors_right_3 (sSeq q_law_errors_right_4 (sSeq q_law_errors_right_5 q_law_errors_right_6)))))
def m__law_errors_right : SE := runF 0 5 [] b__law_errors_right
theorem c__law_errors_right {P : Program} {w : World} {K : PySem.W.Frag} {mg : Str → Option Value} {base : Heap} {fd : FuncData} (A : Fs P K mg) (F : FnP K "_law_errors_right" st__law_errors_right fd) (g : mg "_law_errors_right" = some (.ref (He.ga K "_law_errors_right"))) (c__law_error : Help P w K mg base (tabs K) 6 "_law_error" 4 h__law_error) (c_kept : Cal P w K mg base (T K) 5 "kept" 1 m_kept) (c_stamped : Cal P w K mg base (T K) 3 "stamped" 1 m_stamped) (c_told_again : Cal P w K mg base (T K) 5 "told_again" 3 m_told_again) (tb__law_errors_right : Maker K mg base (tabs K) "_law_errors_right") : Cal P w K mg base (T K) 8 "_law_errors_right" 0 m__law_errors_right := by
  refine cal_denL 0 5 [] F g S__law_errors_right rfl rfl (fun _ _ _ _ _ _ us hl => match us, hl with | [], _ => rfl) fun f A1 outer s H E hr => ?_
  have tk := takes_def (P := P) (w := w) (K := K) (mg := mg) (base := base) (N := N__law_errors_right) (q := "_law_errors_right") (sc := sc__law_errors_right) (f := f) (cd := (.ref (He.cT K ("_law_errors_right", none)).1)) (A := A1) (outer := outer) (s := s) (H := H) (E := E)
  have hp := passes_def (P := P) (w := w) (K := K) (mg := mg) (base := base) (N := N__law_errors_right) (q := "_law_errors_right") (sc := sc__law_errors_right) (f := f) (cd := (.ref (He.cT K ("_law_errors_right", none)).1)) (A := A1) (outer := outer) (s := s) (H := H) (E := E)
  have nd := S__law_errors_right.nd
  exact db_cons (ds_setLc (i := 0) (own := [("odd", 1)]) (g := gNm 1) (t := sYes) (el := sLam [1] h__law_error 4 (sFrz (sCall 1 m_stamped [.ex (sVar 1)]))) rfl nd (blkOk_by (N := N__law_errors_right) (sc := sc__law_errors_right) (by decide +kernel)) (di_row (de_tup (da_cons (do_ex (de_non)) (da_cons (do_ex (de_str)) (da_cons (do_ex (de_tup (da_cons (do_ex (de_str)) (da_nil)))) (da_cons (do_ex (de_op od_mul (do_ex (de_str)) (do_ex (de_int)))) (da_cons (do_ex (de_op od_mul (do_ex (de_str)) (do_ex (de_int)))) (da_nil)))))))) (fun _ _ _ _ _ => dg_nm 1 nd) (fun _ _ _ _ _ => dts_nil) (fun _ _ _ _ _ => de_lamC (r := 4) (lam := sFrz (sCall 1 m_stamped [.ex (sVar 1)])) [1] c__law_error tb__law_errors_right hr rfl rfl (LamX.lamS_by (by first | decide +kernel | rfl)) ⟨rfl, rfl⟩ (fun A0 outer0 s0 H0 E0 f0 c0 hr => de_frz (de_calC c_stamped hr takes_lam (da_cons (do_ex (de_var 1)) (da_nil)))))) (db_cons (ds_set (i := 0) nd (de_op od_add (do_nm 0) (do_ex (de_lc (own := [("odd", 1)]) (g := gNm 1) (t := sYes) (el := sLam [1] h__law_error 4 (sFrz (sCall 1 m_kept [.ex (sVar 1)]))) rfl nd (blkOk_by (N := N__law_errors_right) (sc := sc__law_errors_right) (by decide +kernel)) (di_row (de_tup (da_cons (do_ex (de_non)) (da_cons (do_ex (de_tup (da_cons (do_ex (de_tup (da_cons (do_ex (de_str)) (da_cons (do_ex (de_int)) (da_nil))))) (da_nil)))) (da_cons (do_ex (de_frz (de_lst (da_cons (do_ex (de_tup (da_cons (do_ex (de_str)) (da_cons (do_ex (de_int)) (da_nil))))) (da_nil))))) (da_nil)))))) (fun _ _ _ _ _ => dg_nm 1 nd) (fun _ _ _ _ _ => dts_nil) (fun _ _ _ _ _ => de_lamC (r := 4) (lam := sFrz (sCall 1 m_kept [.ex (sVar 1)])) [1] c__law_error tb__law_errors_right hr rfl rfl (LamX.lamS_by (by first | decide +kernel | rfl)) ⟨rfl, rfl⟩ (fun A0 outer0 s0 H0 E0 f0 c0 hr => de_frz (de_calC c_kept hr takes_lam (da_cons (do_ex (de_var 1)) (da_nil))))))))) (db_cons (ds_set (i := 0) nd (de_op od_add (do_nm 0) (do_ex (de_lc (own := [("odd", 1)]) (g := gNm 1) (t := sYes) (el := sLam [1] h__law_error 4 (sFrz (sCall 3 m_told_again [.ex (sVar 1), .ex (sC .none), .ex (sC .none)]))) rfl nd (blkOk_by (N := N__law_errors_right) (sc := sc__law_errors_right) (by decide +kernel)) (di_row (de_tup (da_cons (do_ex (de_non)) (da_cons (do_ex (de_tup (da_cons (do_ex (de_tup (da_cons (do_ex (de_str)) (da_cons (do_ex (de_int)) (da_nil))))) (da_nil)))) (da_nil))))) (fun _ _ _ _ _ => dg_nm 1 nd) (fun _ _ _ _ _ => dts_nil) (fun _ _ _ _ _ => de_lamC (r := 4) (lam := sFrz (sCall 3 m_told_again [.ex (sVar 1), .ex (sC .none), .ex (sC .none)])) [1] c__law_error tb__law_errors_right hr rfl rfl (LamX.lamS_by (by first | decide +kernel | rfl)) ⟨rfl, rfl⟩ (fun A0 outer0 s0 H0 E0 f0 c0 hr => de_frz (de_calC c_told_again hr takes_lam (da_cons (do_ex (de_var 1)) (da_cons (do_ex (de_non)) (da_cons (do_ex (de_non)) (da_nil))))))))))) (db_cons (ds_set (i := 2) nd (de_lst (da_cons (do_ex (de_tup (da_cons (do_ex (de_neg (do_ex (de_int)))) (da_cons (do_ex (de_int)) (da_nil))))) (da_cons (do_ex (de_tup (da_cons (do_ex (de_int)) (da_cons (do_ex (de_int)) (da_nil))))) (da_cons (do_ex (de_tup (da_cons (do_ex (de_int)) (da_cons (do_ex (de_int)) (da_nil))))) (da_cons (do_ex (de_tup (da_cons (do_ex (de_int)) (da_cons (do_ex (de_int)) (da_nil))))) (da_cons (do_ex (de_tup (da_cons (do_ex (de_bl)) (da_cons (do_ex (de_int)) (da_nil))))) (da_cons (do_ex (de_tup (da_cons (do_ex (de_int)) (da_cons (do_ex (de_bl)) (da_nil))))) (da_cons (do_ex (de_tup (da_cons (do_ex (de_non)) (da_cons (do_ex (de_int)) (da_nil))))) (da_cons (do_ex (de_tup (da_cons (do_ex (de_int)) (da_cons (do_ex (de_non)) (da_nil))))) (da_cons (do_ex (de_tup (da_cons (do_ex (de_int)) (da_cons (do_ex (de_int)) (da_nil))))) (da_cons (do_ex (de_tup (da_cons (do_ex (de_int)) (da_cons (do_ex (de_int)) (da_nil))))) (da_nil))))))))))))) (db_cons (ds_set (i := 0) nd (de_op od_add (do_nm 0) (do_ex (de_lc (own := [("place", 3), ("length", 4)]) (g := gTp 2 (gsCons (gNm 3) (gsCons (gNm 4) (gsNil)))) (t := sYes) (el := sLam [3, 4] h__law_error 4 (sFrz (sCall 3 m_told_again [.ex (sFrz (sCall 1 m_stamped [.ex (sC (.str "ab"))])), .ex (sVar 3), .ex (sVar 4)]))) rfl nd (blkOk_by (N := N__law_errors_right) (sc := sc__law_errors_right) (by decide +kernel)) (di_row (de_var 2)) (fun _ _ _ _ _ => dg_tup rfl (dgs_cons (dg_nm 3 nd) (dgs_cons (dg_nm 4 nd) (dgs_nil)))) (fun _ _ _ _ _ => dts_nil) (fun _ _ _ _ _ => de_lamC (r := 4) (lam := sFrz (sCall 3 m_told_again [.ex (sFrz (sCall 1 m_stamped [.ex (sC (.str "ab"))])), .ex (sVar 3), .ex (sVar 4)])) [3, 4] c__law_error tb__law_errors_right hr rfl rfl (LamX.lamS_by (by first | decide +kernel | rfl)) ⟨rfl, rfl⟩ (fun A0 outer0 s0 H0 E0 f0 c0 hr => de_frz (de_calC c_told_again hr takes_lam (da_cons (do_ex (de_frz (de_calC c_stamped hr takes_lam (da_cons (do_ex (de_str)) (da_nil))))) (da_cons (do_ex (de_var 3)) (da_cons (do_ex (de_var 4)) (da_nil))))))))))) (db_cons (ds_set (i := 0) nd (de_op od_add (do_nm 0) (do_ex (de_lst (da_cons (do_ex (de_frz (de_lamC (r := 4) (lam := sFrz (sCall 3 m_told_again [.ex (sFrz (sCall 3 m_told_again [.ex (sFrz (sCall 1 m_stamped [.ex (sOp2 aMul (.ex (sC (.str "a"))) (.ex (sC (.int 400))))])), .ex (sC (.int 0)), .ex (sC (.int 400))])), .ex (sC (.int 0)), .ex (sC (.int 1))])) [] c__law_error tb__law_errors_right hr rfl rfl (LamX.lamS_by (sc := sc__law_errors_right) (by decide +kernel)) ⟨rfl, rfl⟩ (fun A0 outer0 s0 H0 E0 f0 c0 hr => de_frz (de_calC c_told_again hr takes_lam (da_cons (do_ex (de_frz (de_calC c_told_again hr takes_lam (da_cons (do_ex (de_frz (de_calC c_stamped hr takes_lam (da_cons (do_ex (de_op od_mul (do_ex (de_str)) (do_ex (de_int)))) (da_nil))))) (da_cons (do_ex (de_int)) (da_cons (do_ex (de_int)) (da_nil))))))) (da_cons (do_ex (de_int)) (da_cons (do_ex (de_int)) (da_nil))))))))) (da_nil)))))) (db_one (ds_ret (de_cmp (od_eq hr.units) (do_nm 0) (do_ex (de_op od_add (do_ex (de_op od_add (do_ex (de_op od_add (do_ex (de_op od_add (do_ex (de_op od_mul (do_ex (de_lst (da_cons (do_ex (de_str)) (da_nil)))) (do_ex (de_int)))) (do_ex (de_lst (da_cons (do_ex (de_str)) (da_nil)))))) (do_ex (de_op od_mul (do_ex (de_lst (da_cons (do_ex (de_str)) (da_nil)))) (do_ex (de_int)))))) (do_ex (de_op od_mul (do_ex (de_lst (da_cons (do_ex (de_str)) (da_nil)))) (do_ex (de_int)))))) (do_ex (de_lst (da_cons (do_ex (de_str)) (da_nil)))))) (nomark _)))))))))
/-! ### _law_right -/
def N__law_right : List Str := ["cup", "row", "letters", "due", "place", "deed", "end", "again"]
abbrev st__law_right : Stmt := top 39
abbrev sc__law_right : Scope := defScope st__law_right
theorem S__law_right : FnScope N__law_right ["cup"] (defScope st__law_right) := C8.fnScope_by (by decide +kernel)
def q_law_right_0 : SS := sParV 1 2 (sCall 3 m__law_row [.nm 0, .ex (sC (.str "abch")), .ex (sC (.int 20))]) (sCall 2 m__law_letters [.nm 0, .ex (sC (.int 14))])
def q_law_right_1 : SS := sSet 3 (sFn aTuple [.ex (sLc (sEnumB [.ex (sVar 1)]) (gTp 2 (gsCons (gNm 4) (gsCons (gNm 5) (gsNil)))) (sYes) (sTup [.ex (sVar 5), .ex (sOp2 aAdd (.nm 4) (.ex (sC (.int 1))))]) [4, 5])])
def q_law_right_2 : SS := sIfS (sNotT (sT (sCall 2 (m__law_like 40) [.ex (sFrz (sLst [.ex (sFrz (sCall 1 m_stamped [.ex (sVar 1)])), .ex (sFrz (sCall 1 m_kept [.ex (sVar 3)])), .ex (sFrz (sCall 1 m_kept [.ex (sVar 2)])), .ex (sFrz (sCall 1 m_is_letters [.ex (sVar 2)]))])), .ex (sFrz (sLst [.ex (sVar 3), .ex (sVar 1), .ex (sFrz (sCall 1 m__law_kept [.ex (sVar 2)])), .ex (sC (.bool true))]))]))) (sRet (sC (.bool false))) (sNext)
def q_law_right_3 : SS := sIfS (sT (sOp2 aEq (.nm 2) (.ex (sTup [])))) (sRet (sC (.bool true))) (sNext)
def q_law_right_4 : SS := sSet 4 (sCall 2 m__law_roll [.nm 0, .ex (sFn aLen [.nm 2])])
def q_law_right_5 : SS := sSet 6 (sOp2 aAdd (.ex (sOp2 aAdd (.nm 4) (.ex (sC (.int 1))))) (.ex (sCall 2 m__law_roll [.nm 0, .ex (sOp2 aSub (.ex (sFn aLen [.nm 2])) (.nm 4))])))
def q_law_right_6 : SS := sSet 7 (sOp2 aAdd (.ex (sOp2 aAdd (.ex (sSl (.nm 2) none (some (sVar 6)))) (.ex (sSl (.nm 2) (some (sVar 4)) (some (sVar 6)))))) (.ex (sSl (.nm 2) (some (sVar 6)) none)))
def q_law_right_7 : SS := sRet (sCall 2 (m__law_like 40) [.ex (sFrz (sLst [.ex (sFrz (sCall 3 m_told_again [.ex (sVar 2), .ex (sVar 4), .ex (sOp2 aSub (.nm 6) (.nm 4))])), .ex (sFrz (sCall 1 m_kept [.ex (sVar 7)]))])), .ex (sFrz (sLst [.ex (sVar 7), .ex (sFrz (sCall 1 m__law_kept [.ex (sVar 2)]))]))])
def b__law_right : SS := sSeq q_law_right_0 (sSeq q_law_right_1 (sSeq q_law_right_2 (sSeq q_law_right_3 (sSeq q_law_right_4 (sSeq q_law_right_5 (sSeq q_law_right_6 q_law_right_7))))))
def m__law_right : SE := runF 1 7 [0] b__law_right
theorem c__law_right {P : Program} {w : World} {K : PySem.W.Frag} {mg : Str → Option Value} {base : Heap} {fd : FuncData} (A : Fs P K mg) (F : FnP K "_law_right" st__law_right fd) (g : mg "_law_right" = some (.ref (He.ga K "_law_right"))) (c__law_kept : Cal P w K mg base (T K) 1 "_law_kept" 1 m__law_kept) (c__law_letters : Cal P w K mg base (T K) 3 "_law_letters" 2 m__law_letters) (c__law_like : ∀ n, Cal P w K mg base (T K) (2 + n) "_law_like" 2 (m__law_like n)) (c__law_roll : Cal P w K mg base (T K) 1 "_law_roll" 2 m__law_roll) (c__law_row : Cal P w K mg base (T K) 3 "_law_row" 3 m__law_row) (c_is_letters : Cal P w K mg base (T K) 3 "is_letters" 1 m_is_letters) (c_kept : Cal P w K mg base (T K) 5 "kept" 1 m_kept) (c_stamped : Cal P w K mg base (T K) 3 "stamped" 1 m_stamped) (c_told_again : Cal P w K mg base (T K) 5 "told_again" 3 m_told_again) : Cal P w K mg base (T K) 43 "_law_right" 1 m__law_right := by
  refine cal_den 1 7 [0] F g S__law_right rfl rfl (fun _ _ _ _ _ _ us hl => match us, hl with | [_], _ => rfl) fun f cdv A1 outer s H E hr => ?_
  have tk := takes_def (P := P) (w := w) (K := K) (mg := mg) (base := base) (N := N__law_right) (q := "_law_right") (sc := sc__law_right) (f := f) (cd := cdv) (A := A1) (outer := outer) (s := s) (H := H) (E := E)
  have hp := passes_def (P := P) (w := w) (K := K) (mg := mg) (base := base) (N := N__law_right) (q := "_law_right") (sc := sc__law_right) (f := f) (cd := cdv) (A := A1) (outer := outer) (s := s) (H := H) (E := E)
  have nd := S__law_right.nd
  exact db_cons (ds_parV (i := 1) (j := 2) rfl nd (de_calC c__law_row hr tk (da_cons (do_nm 0) (da_cons (do_ex (de_str)) (da_cons (do_ex (de_int)) (da_nil))))) (de_calC c__law_letters hr tk (da_cons (do_nm 0) (da_cons (do_ex (de_int)) (da_nil))))) (db_cons (ds_set (i := 3) nd (de_callTy (fd_tuple rfl) A.b_tuple rfl (da_cons (do_ex (de_lc (own := [("place", 4), ("deed", 5)]) (g := gTp 2 (gsCons (gNm 4) (gsCons (gNm 5) (gsNil)))) (t := sYes) (el := sTup [.ex (sVar 5), .ex (sOp2 aAdd (.nm 4) (.ex (sC (.int 1))))]) rfl nd (blkOk_by (N := N__law_right) (sc := sc__law_right) (by decide +kernel)) (di_enumB A.b_enumerate (da_cons (do_ex (de_var 1)) (da_nil))) (fun _ _ _ _ _ => dg_tup rfl (dgs_cons (dg_nm 4 nd) (dgs_cons (dg_nm 5 nd) (dgs_nil)))) (fun _ _ _ _ _ => dts_nil) (fun _ _ _ _ _ => de_tup (da_cons (do_ex (de_var 5)) (da_cons (do_ex (de_op od_add (do_nm 4) (do_ex (de_int)))) (da_nil)))))) (da_nil)))) (db_cons (ds_if (dt_not (dt_val (de_calC (c__law_like 40) hr tk (da_cons (do_ex (de_frz (de_lst (da_cons (do_ex (de_frz (de_calC c_stamped hr tk (da_cons (do_ex (de_var 1)) (da_nil))))) (da_cons (do_ex (de_frz (de_calC c_kept hr tk (da_cons (do_ex (de_var 3)) (da_nil))))) (da_cons (do_ex (de_frz (de_calC c_kept hr tk (da_cons (do_ex (de_var 2)) (da_nil))))) (da_cons (do_ex (de_frz (de_calC c_is_letters hr tk (da_cons (do_ex (de_var 2)) (da_nil))))) (da_nil)))))))) (da_cons (do_ex (de_frz (de_lst (da_cons (do_ex (de_var 3)) (da_cons (do_ex (de_var 1)) (da_cons (do_ex (de_frz (de_calC c__law_kept hr tk (da_cons (do_ex (de_var 2)) (da_nil))))) (da_cons (do_ex (de_bl)) (da_nil)))))))) (da_nil)))))) (db_one (ds_ret (de_bl))) (db_nil)) (db_cons (ds_if (dt_cmp (od_eq hr.units) (do_nm 2) (do_ex (de_tup (da_nil))) (nomark _)) (db_one (ds_ret (de_bl))) (db_nil)) (db_cons (ds_set (i := 4) nd (de_calC c__law_roll hr tk (da_cons (do_nm 0) (da_cons (do_ex (de_callB fd_len A.b_len rfl (da_cons (do_nm 2) (da_nil)))) (da_nil))))) (db_cons (ds_set (i := 6) nd (de_op od_add (do_ex (de_op od_add (do_nm 4) (do_ex (de_int)))) (do_ex (de_calC c__law_roll hr tk (da_cons (do_nm 0) (da_cons (do_ex (de_op od_sub (do_ex (de_callB fd_len A.b_len rfl (da_cons (do_nm 2) (da_nil)))) (do_nm 4))) (da_nil))))))) (db_cons (ds_set (i := 7) nd (de_op od_add (do_ex (de_op od_add (do_ex (de_sl (do_nm 2) dp_none (dp_some (de_var 6)))) (do_ex (de_sl (do_nm 2) (dp_some (de_var 4)) (dp_some (de_var 6)))))) (do_ex (de_sl (do_nm 2) (dp_some (de_var 6)) dp_none)))) (db_one (ds_ret (de_calC (c__law_like 40) hr tk (da_cons (do_ex (de_frz (de_lst (da_cons (do_ex (de_frz (de_calC c_told_again hr tk (da_cons (do_ex (de_var 2)) (da_cons (do_ex (de_var 4)) (da_cons (do_ex (de_op od_sub (do_nm 6) (do_nm 4))) (da_nil))))))) (da_cons (do_ex (de_frz (de_calC c_kept hr tk (da_cons (do_ex (de_var 7)) (da_nil))))) (da_nil)))))) (da_cons (do_ex (de_frz (de_lst (da_cons (do_ex (de_var 7)) (da_cons (do_ex (de_frz (de_calC c__law_kept hr tk (da_cons (do_ex (de_var 2)) (da_nil))))) (da_nil)))))) (da_nil))))))))))))
/-! ### law -/
def N_law : List Str := ["script", "cup", "turn"]
abbrev st_law : Stmt := top 40
abbrev sc_law : Scope := defScope st_law
theorem S_law : FnScope N_law ["script"] (defScope st_law) := C8.fnScope_by (by decide +kernel)
def q_law_0 : SS := sIfS (sOrT (sNotT (sT (sCall 0 m__law_fixed_right []))) (sNotT (sT (sCall 0 m__law_errors_right [])))) (sRet (sC (.bool false))) (sNext)
def q_law_1 : SS := sSet 1 (sCall 1 m__law_cup [.nm 0])
def q_law_2_0 : SS := sIfS (sNotT (sT (sCall 1 m__law_right [.nm 1]))) (sRet (sC (.bool false))) (sNext)
def lb_law_2 : SS := q_law_2_0
def q_law_2 : SS := sFor (sRng1 [.ex (sC (.int 24))]) (gNm 2) (lb_law_2)
def b_law : SS := sSeq q_law_0 (sSeq q_law_1 (sSeq q_law_2 (sRet (sC (.bool true)))))
def m_law : SE := runF 1 2 [] b_law
theorem c_law {P : Program} {w : World} {K : PySem.W.Frag} {mg : Str → Option Value} {base : Heap} {fd : FuncData} (A : Fs P K mg) (F : FnP K "law" st_law fd) (g : mg "law" = some (.ref (He.ga K "law"))) (c__law_cup : Cal P w K mg base (T K) 1 "_law_cup" 1 m__law_cup) (c__law_errors_right : Cal P w K mg base (T K) 8 "_law_errors_right" 0 m__law_errors_right) (c__law_fixed_right : Cal P w K mg base (T K) 43 "_law_fixed_right" 0 m__law_fixed_right) (c__law_right : Cal P w K mg base (T K) 43 "_law_right" 1 m__law_right) : FnOk P w K mg base (L2N.CX P w) 44 (He.ga K "law") fd ["script"] (spF (g0 K mg (T K)) 1 m_law) := by
  refine law_fn 1 2 [] F S_law rfl rfl fun f A1 outer s H E hr => ?_
  have tk := takes_def (P := P) (w := w) (K := K) (mg := mg) (base := base) (N := N_law) (q := "law") (sc := sc_law) (f := f) (cd := (.ref (He.cT K ("law", none)).1)) (A := A1) (outer := outer) (s := s) (H := H) (E := E)
  have hp := passes_def (P := P) (w := w) (K := K) (mg := mg) (base := base) (N := N_law) (q := "law") (sc := sc_law) (f := f) (cd := (.ref (He.cT K ("law", none)).1)) (A := A1) (outer := outer) (s := s) (H := H) (E := E)
  have nd := S_law.nd
  exact db_cons (ds_if (dw_pt (dw_or (dt_not (dt_val (de_calC0 c__law_fixed_right hr tk))) (dw_or1 (dt_not (dt_val (de_calC0 c__law_errors_right hr tk)))))) (db_one (ds_ret (de_bl))) (db_nil)) (db_cons (ds_set (i := 1) nd (de_calC c__law_cup hr tk (da_cons (do_nm 0) (da_nil)))) (db_cons (ds_for (ws := [2]) hp rfl (di_rng1 A.b_range (da_cons (do_ex (de_int)) (da_nil))) (dg_nm 2 nd) (db_one (ds_if (dt_not (dt_val (de_calC c__law_right hr tk (da_cons (do_nm 1) (da_nil))))) (db_one (ds_ret (de_bl))) (db_nil)))) (db_one (ds_ret (de_bl)))))
end Pk83
namespace Pk83
open PySem PySem.Spec PyProof.Rows L2 LamX SM
def d_is_whole : He.DefD := ⟨("is_whole", none), "is_whole", "is_whole", defArgs st_is_whole, defBody st_is_whole, defScope st_is_whole, [], []⟩
def d_is_tuple_of : He.DefD := ⟨("is_tuple_of", none), "is_tuple_of", "is_tuple_of", defArgs st_is_tuple_of, defBody st_is_tuple_of, defScope st_is_tuple_of, [], []⟩
def d_is_row : He.DefD := ⟨("is_row", none), "is_row", "is_row", defArgs st_is_row, defBody st_is_row, defScope st_is_row, [], []⟩
def d_need_row : He.DefD := ⟨("need_row", none), "need_row", "need_row", defArgs st_need_row, defBody st_need_row, defScope st_need_row, [], []⟩
def d_is_letter : He.DefD := ⟨("is_letter", none), "is_letter", "is_letter", defArgs st_is_letter, defBody st_is_letter, defScope st_is_letter, [], []⟩
def d_is_letters : He.DefD := ⟨("is_letters", none), "is_letters", "is_letters", defArgs st_is_letters, defBody st_is_letters, defScope st_is_letters, [], []⟩
def d_need_letters : He.DefD := ⟨("need_letters", none), "need_letters", "need_letters", defArgs st_need_letters, defBody st_need_letters, defScope st_need_letters, [], []⟩
def d_kept_in : He.DefD := ⟨("kept_in", none), "kept_in", "kept_in", defArgs st_kept_in, defBody st_kept_in, defScope st_kept_in, [], []⟩
def d_stamped : He.DefD := ⟨("stamped", none), "stamped", "stamped", defArgs st_stamped, defBody st_stamped, defScope st_stamped, [], []⟩
def d_kept : He.DefD := ⟨("kept", none), "kept", "kept", defArgs st_kept, defBody st_kept, defScope st_kept, [], []⟩
def d_told_again : He.DefD := ⟨("told_again", none), "told_again", "told_again", defArgs st_told_again, defBody st_told_again, defScope st_told_again, [], []⟩
def d__law_cup : He.DefD := ⟨("_law_cup", none), "_law_cup", "_law_cup", defArgs st__law_cup, defBody st__law_cup, defScope st__law_cup, [], []⟩
def d__law_roll : He.DefD := ⟨("_law_roll", none), "_law_roll", "_law_roll", defArgs st__law_roll, defBody st__law_roll, defScope st__law_roll, [], []⟩
def d__law_some : He.DefD := ⟨("_law_some", none), "_law_some", "_law_some", defArgs st__law_some, defBody st__law_some, defScope st__law_some, [], []⟩
def d__law_kind : He.DefD := ⟨("_law_kind", none), "_law_kind", "_law_kind", defArgs st__law_kind, defBody st__law_kind, defScope st__law_kind, [], []⟩
def d__law_like : He.DefD := ⟨("_law_like", none), "_law_like", "_law_like", defArgs st__law_like, defBody st__law_like, defScope st__law_like, [], []⟩
def d__law_row : He.DefD := ⟨("_law_row", none), "_law_row", "_law_row", defArgs st__law_row, defBody st__law_row, defScope st__law_row, [], []⟩
def d__law_letters : He.DefD := ⟨("_law_letters", none), "_law_letters", "_law_letters", defArgs st__law_letters, defBody st__law_letters, defScope st__law_letters, [], []⟩
def d__law_error : He.DefD := ⟨("_law_error", none), "_law_error", "_law_error", defArgs st__law_error, defBody st__law_error, defScope st__law_error, [], []⟩
def d__law_kept : He.DefD := ⟨("_law_kept", none), "_law_kept", "_law_kept", defArgs st__law_kept, defBody st__law_kept, defScope st__law_kept, [], []⟩
def d__law_fixed_right : He.DefD := ⟨("_law_fixed_right", none), "_law_fixed_right", "_law_fixed_right", defArgs st__law_fixed_right, defBody st__law_fixed_right, defScope st__law_fixed_right, [], []⟩
def d__law_errors_right : He.DefD := ⟨("_law_errors_right", none), "_law_errors_right", "_law_errors_right", defArgs st__law_errors_right, defBody st__law_errors_right, defScope st__law_errors_right, [], []⟩
def d__law_right : He.DefD := ⟨("_law_right", none), "_law_right", "_law_right", defArgs st__law_right, defBody st__law_right, defScope st__law_right, [], []⟩
def d_law : He.DefD := ⟨("law", none), "law", "law", defArgs st_law, defBody st_law, defScope st_law, [], []⟩
def fn : List He.DefD := [d_is_whole, d_is_tuple_of, d_is_row, d_need_row, d_is_letter, d_is_letters, d_need_letters, d_kept_in, d_stamped, d_kept, d_told_again, d__law_cup, d__law_roll, d__law_some, d__law_kind, d__law_like, d__law_row, d__law_letters, d__law_error, d__law_kept, d__law_fixed_right, d__law_errors_right, d__law_right, d_law]
def fa : List He.Fa := [.free "abs", .free "all", .free "bool", .free "enumerate", .free "int", .free "isinstance", .free "len", .free "list", .free "range", .free "str", .free "tuple", .free "zip", .str "DEEDS" "abcdefgh", .int "LETTERS" 800, .int "LONG" 4000, .int "ROW" 400, .int "STAMP" 1000000, .glo "InvalidMachine", .glo "InvalidNumber", .glo "InvalidRow", .glo "InvalidTree", .glo "NotFound", .glo "StretchError", .glo "TooMany", .exc "InvalidNumber", .exc "InvalidRow", .exm "InvalidMachine" "StretchError" true, .exm "InvalidNumber" "StretchError" true, .exm "InvalidRow" "StretchError" true, .exm "InvalidTree" "StretchError" true, .exm "NotFound" "StretchError" true, .exm "TooMany" "StretchError" true, .free "super", .glo "is_whole", .glo "is_tuple_of", .glo "is_row", .glo "need_row", .glo "is_letter", .glo "is_letters", .glo "need_letters", .glo "kept_in", .glo "stamped", .glo "kept", .glo "told_again", .glo "_law_cup", .glo "_law_roll", .glo "_law_some", .glo "_law_kind", .glo "_law_like", .glo "_law_row", .glo "_law_letters", .glo "_law_error", .glo "_law_kept", .glo "_law_fixed_right", .glo "_law_errors_right", .glo "_law_right", .glo "law"]
abbrev R : PySem.W.OpenRow := PySem.W.OpenLaw.row PySem.Challenge.rw_stretchtwice_k83_whole_stamps
def exs (K : PySem.W.Frag) : List Bool := [excCB K (He.ga K "InvalidMachine"), decide (PySem.W.kitOne K (.ref (He.ga K "InvalidMachine")) (.ref (He.ga K "InvalidMachine")) = some true), excCB K (He.ga K "InvalidNumber"), decide (PySem.W.kitOne K (.ref (He.ga K "InvalidNumber")) (.ref (He.ga K "InvalidMachine")) = some false), excCB K (He.ga K "InvalidRow"), decide (PySem.W.kitOne K (.ref (He.ga K "InvalidRow")) (.ref (He.ga K "InvalidMachine")) = some false), excCB K (He.ga K "InvalidTree"), decide (PySem.W.kitOne K (.ref (He.ga K "InvalidTree")) (.ref (He.ga K "InvalidMachine")) = some false), excCB K (He.ga K "NotFound"), decide (PySem.W.kitOne K (.ref (He.ga K "NotFound")) (.ref (He.ga K "InvalidMachine")) = some false), excCB K (He.ga K "TooMany"), decide (PySem.W.kitOne K (.ref (He.ga K "TooMany")) (.ref (He.ga K "InvalidMachine")) = some false), decide (PySem.W.kitOne K (.ref (He.ga K "InvalidMachine")) (.ref (He.ga K "InvalidNumber")) = some false), decide (PySem.W.kitOne K (.ref (He.ga K "InvalidNumber")) (.ref (He.ga K "InvalidNumber")) = some true), decide (PySem.W.kitOne K (.ref (He.ga K "InvalidRow")) (.ref (He.ga K "InvalidNumber")) = some false), decide (PySem.W.kitOne K (.ref (He.ga K "InvalidTree")) (.ref (He.ga K "InvalidNumber")) = some false), decide (PySem.W.kitOne K (.ref (He.ga K "NotFound")) (.ref (He.ga K "InvalidNumber")) = some false), decide (PySem.W.kitOne K (.ref (He.ga K "TooMany")) (.ref (He.ga K "InvalidNumber")) = some false), decide (PySem.W.kitOne K (.ref (He.ga K "InvalidMachine")) (.ref (He.ga K "InvalidRow")) = some false), decide (PySem.W.kitOne K (.ref (He.ga K "InvalidNumber")) (.ref (He.ga K "InvalidRow")) = some false), decide (PySem.W.kitOne K (.ref (He.ga K "InvalidRow")) (.ref (He.ga K "InvalidRow")) = some true), decide (PySem.W.kitOne K (.ref (He.ga K "InvalidTree")) (.ref (He.ga K "InvalidRow")) = some false), decide (PySem.W.kitOne K (.ref (He.ga K "NotFound")) (.ref (He.ga K "InvalidRow")) = some false), decide (PySem.W.kitOne K (.ref (He.ga K "TooMany")) (.ref (He.ga K "InvalidRow")) = some false), decide (PySem.W.kitOne K (.ref (He.ga K "InvalidMachine")) (.ref (He.ga K "InvalidTree")) = some false), decide (PySem.W.kitOne K (.ref (He.ga K "InvalidNumber")) (.ref (He.ga K "InvalidTree")) = some false), decide (PySem.W.kitOne K (.ref (He.ga K "InvalidRow")) (.ref (He.ga K "InvalidTree")) = some false), decide (PySem.W.kitOne K (.ref (He.ga K "InvalidTree")) (.ref (He.ga K "InvalidTree")) = some true), decide (PySem.W.kitOne K (.ref (He.ga K "NotFound")) (.ref (He.ga K "InvalidTree")) = some false), decide (PySem.W.kitOne K (.ref (He.ga K "TooMany")) (.ref (He.ga K "InvalidTree")) = some false), decide (PySem.W.kitOne K (.ref (He.ga K "InvalidMachine")) (.ref (He.ga K "NotFound")) = some false), decide (PySem.W.kitOne K (.ref (He.ga K "InvalidNumber")) (.ref (He.ga K "NotFound")) = some false), decide (PySem.W.kitOne K (.ref (He.ga K "InvalidRow")) (.ref (He.ga K "NotFound")) = some false), decide (PySem.W.kitOne K (.ref (He.ga K "InvalidTree")) (.ref (He.ga K "NotFound")) = some false), decide (PySem.W.kitOne K (.ref (He.ga K "NotFound")) (.ref (He.ga K "NotFound")) = some true), decide (PySem.W.kitOne K (.ref (He.ga K "TooMany")) (.ref (He.ga K "NotFound")) = some false), decide (PySem.W.kitOne K (.ref (He.ga K "InvalidMachine")) (.ref (He.ga K "TooMany")) = some false), decide (PySem.W.kitOne K (.ref (He.ga K "InvalidNumber")) (.ref (He.ga K "TooMany")) = some false), decide (PySem.W.kitOne K (.ref (He.ga K "InvalidRow")) (.ref (He.ga K "TooMany")) = some false), decide (PySem.W.kitOne K (.ref (He.ga K "InvalidTree")) (.ref (He.ga K "TooMany")) = some false), decide (PySem.W.kitOne K (.ref (He.ga K "NotFound")) (.ref (He.ga K "TooMany")) = some false), decide (PySem.W.kitOne K (.ref (He.ga K "TooMany")) (.ref (He.ga K "TooMany")) = some true), xfB K (He.ga K "TooMany"), decide (PySem.W.findIn K (.ref (He.ga K "TooMany")) "limit" = some none), supB K R.prog.main.file "TooMany" "limit"]
def ex (K : PySem.W.Frag) : Bool := (exs K).all id
theorem ex_ok {K : PySem.W.Frag} (i : Nat) {b : Bool} (h : ex K = true) (e : (exs K)[i]? = some b := by rfl) : b = true := by
  have := List.all_eq_true.mp h b (List.mem_of_getElem? e)
  exact this
theorem facts {K : PySem.W.Frag} {h : Heap} {mg : Str → Option Value} (X : K.In h) (G : h.Ns mainGlobals mg) (cd : He.SaysD fa fn K) (he : ex K = true) : Fs R.prog K mg := by
  constructor
  · exact He.free_ok X G (cd.fact 0 (f := .free "abs") rfl)
  · exact He.free_ok X G (cd.fact 1 (f := .free "all") rfl)
  · exact He.free_ok X G (cd.fact 2 (f := .free "bool") rfl)
  · exact He.free_ok X G (cd.fact 3 (f := .free "enumerate") rfl)
  · exact He.free_ok X G (cd.fact 4 (f := .free "int") rfl)
  · exact He.free_ok X G (cd.fact 5 (f := .free "isinstance") rfl)
  · exact He.free_ok X G (cd.fact 6 (f := .free "len") rfl)
  · exact He.free_ok X G (cd.fact 7 (f := .free "list") rfl)
  · exact He.free_ok X G (cd.fact 8 (f := .free "range") rfl)
  · exact He.free_ok X G (cd.fact 9 (f := .free "str") rfl)
  · exact He.free_ok X G (cd.fact 10 (f := .free "tuple") rfl)
  · exact He.free_ok X G (cd.fact 11 (f := .free "zip") rfl)
  · exact He.str_ok X G (cd.fact 12 (f := .str "DEEDS" "abcdefgh") rfl)
  · exact He.int_ok X G (cd.fact 13 (f := .int "LETTERS" 800) rfl)
  · exact He.int_ok X G (cd.fact 14 (f := .int "LONG" 4000) rfl)
  · exact He.int_ok X G (cd.fact 15 (f := .int "ROW" 400) rfl)
  · exact He.int_ok X G (cd.fact 16 (f := .int "STAMP" 1000000) rfl)
  · exact He.glo_ok X G (cd.fact 17 (f := .glo "InvalidMachine") rfl)
  · exact He.glo_ok X G (cd.fact 18 (f := .glo "InvalidNumber") rfl)
  · exact He.glo_ok X G (cd.fact 19 (f := .glo "InvalidRow") rfl)
  · exact He.glo_ok X G (cd.fact 20 (f := .glo "InvalidTree") rfl)
  · exact He.glo_ok X G (cd.fact 21 (f := .glo "NotFound") rfl)
  · exact He.glo_ok X G (cd.fact 22 (f := .glo "StretchError") rfl)
  · exact He.glo_ok X G (cd.fact 23 (f := .glo "TooMany") rfl)
  · exact (let z := He.exc_ok (cd.fact 24 (f := .exc "InvalidNumber") rfl); ⟨He.glo_ok X G (cd.fact 18 (f := .glo "InvalidNumber") rfl), z.1, z.2.1, z.2.2.1, z.2.2.2⟩)
  · exact (let z := He.exc_ok (cd.fact 25 (f := .exc "InvalidRow") rfl); ⟨He.glo_ok X G (cd.fact 19 (f := .glo "InvalidRow") rfl), z.1, z.2.1, z.2.2.1, z.2.2.2⟩)
  · exact all_cons (⟨_, He.glo_ok X G (cd.fact 17 (f := .glo "InvalidMachine") rfl), He.exm_ok (cd.fact 26 (f := .exm "InvalidMachine" "StretchError" true) rfl)⟩) (all_cons (⟨_, He.glo_ok X G (cd.fact 18 (f := .glo "InvalidNumber") rfl), He.exm_ok (cd.fact 27 (f := .exm "InvalidNumber" "StretchError" true) rfl)⟩) (all_cons (⟨_, He.glo_ok X G (cd.fact 19 (f := .glo "InvalidRow") rfl), He.exm_ok (cd.fact 28 (f := .exm "InvalidRow" "StretchError" true) rfl)⟩) (all_cons (⟨_, He.glo_ok X G (cd.fact 20 (f := .glo "InvalidTree") rfl), He.exm_ok (cd.fact 29 (f := .exm "InvalidTree" "StretchError" true) rfl)⟩) (all_cons (⟨_, He.glo_ok X G (cd.fact 21 (f := .glo "NotFound") rfl), He.exm_ok (cd.fact 30 (f := .exm "NotFound" "StretchError" true) rfl)⟩) (all_cons (⟨_, He.glo_ok X G (cd.fact 23 (f := .glo "TooMany") rfl), He.exm_ok (cd.fact 31 (f := .exm "TooMany" "StretchError" true) rfl)⟩) (all_nil))))))
  · exact all_cons (⟨_, He.glo_ok X G (cd.fact 17 (f := .glo "InvalidMachine") rfl), excCB_ok (ex_ok 0 he), of_decide_eq_true (ex_ok 1 he)⟩) (all_cons (⟨_, He.glo_ok X G (cd.fact 18 (f := .glo "InvalidNumber") rfl), excCB_ok (ex_ok 2 he), of_decide_eq_true (ex_ok 3 he)⟩) (all_cons (⟨_, He.glo_ok X G (cd.fact 19 (f := .glo "InvalidRow") rfl), excCB_ok (ex_ok 4 he), of_decide_eq_true (ex_ok 5 he)⟩) (all_cons (⟨_, He.glo_ok X G (cd.fact 20 (f := .glo "InvalidTree") rfl), excCB_ok (ex_ok 6 he), of_decide_eq_true (ex_ok 7 he)⟩) (all_cons (⟨_, He.glo_ok X G (cd.fact 21 (f := .glo "NotFound") rfl), excCB_ok (ex_ok 8 he), of_decide_eq_true (ex_ok 9 he)⟩) (all_cons (⟨_, He.glo_ok X G (cd.fact 23 (f := .glo "TooMany") rfl), excCB_ok (ex_ok 10 he), of_decide_eq_true (ex_ok 11 he)⟩) (all_nil))))))
  · exact all_cons (⟨_, He.glo_ok X G (cd.fact 17 (f := .glo "InvalidMachine") rfl), excCB_ok (ex_ok 0 he), of_decide_eq_true (ex_ok 12 he)⟩) (all_cons (⟨_, He.glo_ok X G (cd.fact 18 (f := .glo "InvalidNumber") rfl), excCB_ok (ex_ok 2 he), of_decide_eq_true (ex_ok 13 he)⟩) (all_cons (⟨_, He.glo_ok X G (cd.fact 19 (f := .glo "InvalidRow") rfl), excCB_ok (ex_ok 4 he), of_decide_eq_true (ex_ok 14 he)⟩) (all_cons (⟨_, He.glo_ok X G (cd.fact 20 (f := .glo "InvalidTree") rfl), excCB_ok (ex_ok 6 he), of_decide_eq_true (ex_ok 15 he)⟩) (all_cons (⟨_, He.glo_ok X G (cd.fact 21 (f := .glo "NotFound") rfl), excCB_ok (ex_ok 8 he), of_decide_eq_true (ex_ok 16 he)⟩) (all_cons (⟨_, He.glo_ok X G (cd.fact 23 (f := .glo "TooMany") rfl), excCB_ok (ex_ok 10 he), of_decide_eq_true (ex_ok 17 he)⟩) (all_nil))))))
  · exact all_cons (⟨_, He.glo_ok X G (cd.fact 17 (f := .glo "InvalidMachine") rfl), excCB_ok (ex_ok 0 he), of_decide_eq_true (ex_ok 18 he)⟩) (all_cons (⟨_, He.glo_ok X G (cd.fact 18 (f := .glo "InvalidNumber") rfl), excCB_ok (ex_ok 2 he), of_decide_eq_true (ex_ok 19 he)⟩) (all_cons (⟨_, He.glo_ok X G (cd.fact 19 (f := .glo "InvalidRow") rfl), excCB_ok (ex_ok 4 he), of_decide_eq_true (ex_ok 20 he)⟩) (all_cons (⟨_, He.glo_ok X G (cd.fact 20 (f := .glo "InvalidTree") rfl), excCB_ok (ex_ok 6 he), of_decide_eq_true (ex_ok 21 he)⟩) (all_cons (⟨_, He.glo_ok X G (cd.fact 21 (f := .glo "NotFound") rfl), excCB_ok (ex_ok 8 he), of_decide_eq_true (ex_ok 22 he)⟩) (all_cons (⟨_, He.glo_ok X G (cd.fact 23 (f := .glo "TooMany") rfl), excCB_ok (ex_ok 10 he), of_decide_eq_true (ex_ok 23 he)⟩) (all_nil))))))
  · exact all_cons (⟨_, He.glo_ok X G (cd.fact 17 (f := .glo "InvalidMachine") rfl), excCB_ok (ex_ok 0 he), of_decide_eq_true (ex_ok 24 he)⟩) (all_cons (⟨_, He.glo_ok X G (cd.fact 18 (f := .glo "InvalidNumber") rfl), excCB_ok (ex_ok 2 he), of_decide_eq_true (ex_ok 25 he)⟩) (all_cons (⟨_, He.glo_ok X G (cd.fact 19 (f := .glo "InvalidRow") rfl), excCB_ok (ex_ok 4 he), of_decide_eq_true (ex_ok 26 he)⟩) (all_cons (⟨_, He.glo_ok X G (cd.fact 20 (f := .glo "InvalidTree") rfl), excCB_ok (ex_ok 6 he), of_decide_eq_true (ex_ok 27 he)⟩) (all_cons (⟨_, He.glo_ok X G (cd.fact 21 (f := .glo "NotFound") rfl), excCB_ok (ex_ok 8 he), of_decide_eq_true (ex_ok 28 he)⟩) (all_cons (⟨_, He.glo_ok X G (cd.fact 23 (f := .glo "TooMany") rfl), excCB_ok (ex_ok 10 he), of_decide_eq_true (ex_ok 29 he)⟩) (all_nil))))))
  · exact all_cons (⟨_, He.glo_ok X G (cd.fact 17 (f := .glo "InvalidMachine") rfl), excCB_ok (ex_ok 0 he), of_decide_eq_true (ex_ok 30 he)⟩) (all_cons (⟨_, He.glo_ok X G (cd.fact 18 (f := .glo "InvalidNumber") rfl), excCB_ok (ex_ok 2 he), of_decide_eq_true (ex_ok 31 he)⟩) (all_cons (⟨_, He.glo_ok X G (cd.fact 19 (f := .glo "InvalidRow") rfl), excCB_ok (ex_ok 4 he), of_decide_eq_true (ex_ok 32 he)⟩) (all_cons (⟨_, He.glo_ok X G (cd.fact 20 (f := .glo "InvalidTree") rfl), excCB_ok (ex_ok 6 he), of_decide_eq_true (ex_ok 33 he)⟩) (all_cons (⟨_, He.glo_ok X G (cd.fact 21 (f := .glo "NotFound") rfl), excCB_ok (ex_ok 8 he), of_decide_eq_true (ex_ok 34 he)⟩) (all_cons (⟨_, He.glo_ok X G (cd.fact 23 (f := .glo "TooMany") rfl), excCB_ok (ex_ok 10 he), of_decide_eq_true (ex_ok 35 he)⟩) (all_nil))))))
  · exact all_cons (⟨_, He.glo_ok X G (cd.fact 17 (f := .glo "InvalidMachine") rfl), excCB_ok (ex_ok 0 he), of_decide_eq_true (ex_ok 36 he)⟩) (all_cons (⟨_, He.glo_ok X G (cd.fact 18 (f := .glo "InvalidNumber") rfl), excCB_ok (ex_ok 2 he), of_decide_eq_true (ex_ok 37 he)⟩) (all_cons (⟨_, He.glo_ok X G (cd.fact 19 (f := .glo "InvalidRow") rfl), excCB_ok (ex_ok 4 he), of_decide_eq_true (ex_ok 38 he)⟩) (all_cons (⟨_, He.glo_ok X G (cd.fact 20 (f := .glo "InvalidTree") rfl), excCB_ok (ex_ok 6 he), of_decide_eq_true (ex_ok 39 he)⟩) (all_cons (⟨_, He.glo_ok X G (cd.fact 21 (f := .glo "NotFound") rfl), excCB_ok (ex_ok 8 he), of_decide_eq_true (ex_ok 40 he)⟩) (all_cons (⟨_, He.glo_ok X G (cd.fact 23 (f := .glo "TooMany") rfl), excCB_ok (ex_ok 10 he), of_decide_eq_true (ex_ok 41 he)⟩) (all_nil))))))
  · exact xfB_ok (ex_ok 42 he)
  · exact of_decide_eq_true (ex_ok 43 he)
  · exact fun w base => supB_ok (P := R.prog) (ex_ok 44 he) (He.glo_ok X G (cd.fact 23 (f := .glo "TooMany") rfl)) (He.free_ok X G (cd.fact 32 (f := .free "super") rfl)) (by kernel_rfl)
abbrev hk : PySem.W.Hook := SM.hookY 5 fa fn [] tf ex
def ob (s : PySem.W.SharedT) : He.AlX := SM.obsY 5 fa fn [] tf ex (HandSHeadRun.getT s)
theorem ob_eq (s : PySem.W.SharedT) : ob s = hk.obs s.abs := SM.obsY_eq (HandSHeadRun.getT_eq s)
def loose0 : List PySem.Str := ["StretchError", "InvalidNumber", "InvalidRow", "InvalidTree", "InvalidMachine", "NotFound", "TooMany", "is_whole", "is_tuple_of", "DEEDS", "LONG", "is_row", "need_row", "LETTERS", "ROW", "STAMP", "is_letter", "is_letters", "need_letters", "kept_in", "stamped", "kept", "told_again", "_law_cup", "_law_roll", "_law_some", "_law_kind", "_law_like", "_law_row", "_law_letters"]
def loose1 : List PySem.Str := ["_law_error", "_law_kept", "_law_fixed_right", "_law_errors_right", "_law_right"]
def loose : List PySem.Str := loose0 ++ loose1
theorem run (w : World) : HandSHeadRun.RunEq R (PySem.W.view R.prog [40]) hk ob 100000 loose w := by
  intro os
  kernel_rfl
end Pk83
namespace Pk83
open PySem SM L2
def isWhole : D → Int → Int → Bool
  | .int i, l, h => decide (l ≤ i) && decide (i ≤ h)
  | _, _, _ => false
theorem e_is_whole (d : D) (l h : Int) : m_is_whole [some (.dat d), some (.dat (.int l)), some (.dat (.int h))] = .ok (.dat (.bool (isWhole d l h))) [none, none, none] := by
  cases d <;> simp [m_is_whole, b_is_whole, isKind, kindD, isWhole]
theorem e_kind (d : D) : m__law_kind [some (.dat d)] = .ok (.dat (.int (match d with | .bool _ => 0 | .tuple _ => 1 | .list _ => 2 | _ => 3))) [none] := by
  cases d <;> simp [m__law_kind, b__law_kind, isKind, kindD]
theorem e_cup (ns : List Int) (hl : ns.length ≤ 63) : ∃ a b : Int, 0 ≤ a ∧ 0 ≤ b ∧ m__law_cup [some (.scr ns)] = .ok (.own [.int a, .int b]) [none] := by
  obtain ⟨h, t, ht⟩ : ∃ (h : Int) (t : List D), ns.map PyData.int ++ [.int 0] = .int h :: t := by
    cases ns with
    | nil => exact ⟨0, [], rfl⟩
    | cons n r => exact ⟨n, r.map PyData.int ++ [.int 0], rfl⟩
  have hl2 : ns.length + 1 ≤ 16777216 := by omega
  have hc : ∃ c : Int, 0 ≤ c ∧ (if h < 0 then -h else h) = c := ⟨_, by split <;> omega, rfl⟩
  obtain ⟨c, c0, hc⟩ := hc
  by_cases hb : 1000000000000000000 ≤ c
  · simp [m__law_cup, b__law_cup, hl2, ht, hc, hb, small64_eq, List.replicate]
    omega
  · simp [m__law_cup, b__law_cup, hl2, ht, hc, hb, small64_eq, List.replicate]
    omega
theorem e_roll (a b m : Int) (ha : 0 ≤ a) (hb : 0 ≤ b) (hm : 0 < m) (hm2 : m < 1073741824) : ∃ r a' b' : Int, (0 ≤ r ∧ r < m) ∧ 0 ≤ a' ∧ 0 ≤ b' ∧ m__law_roll [some (.own [.int a, .int b]), some (.dat (.int m))] = .ok (.dat (.int r)) [some (.own [.int a', .int b']), none] := by
  by_cases h : 0 < a
  · refine ⟨a % m, a / m, b, ⟨Int.emod_nonneg _ (by omega), Int.emod_lt_of_pos _ hm⟩, Int.ediv_nonneg ha (by omega), hb, ?_⟩
    simp [m__law_roll, b__law_roll, h, hm, hm2, outE_fst, List.replicate]
  · have hs : small64 ((b * 30949 + 8807) % 2147483549) = true := small64_of (Int.emod_nonneg _ (by decide)) (Int.lt_trans (Int.emod_lt_of_pos _ (by decide)) (by decide))
    refine ⟨((b * 30949 + 8807) % 2147483549 * ((b * 30949 + 8807) % 2147483549 + 683) % 2147483543 / 1193) % m, a, (b * 30949 + 8807) % 2147483549, ⟨Int.emod_nonneg _ (by omega), Int.emod_lt_of_pos _ hm⟩, ha, Int.emod_nonneg _ (by decide), ?_⟩
    have h2 : SM.small64 30949 = true := by decide
    simp [m__law_roll, b__law_roll, h, hm, hm2, outE_fst, List.replicate, hs, h2]
theorem zp_self : ∀ (ds : List D) (x : D), x ∈ zpDs ds ds → ∃ d ∈ ds, x = .tuple [d, d]
  | [], x, h => by simp [zpDs] at h
  | d :: ds, x, h => by
    have h : x ∈ PyData.tuple [d, d] :: zpDs ds ds := h
    rcases List.mem_cons.mp h with e | e
    · exact ⟨d, List.mem_cons_self, e⟩
    · obtain ⟨y, h1, h2⟩ := zp_self ds x e
      exact ⟨y, List.mem_cons_of_mem _ h1, h2⟩
theorem zp_self_len : ∀ (ds : List D), (zpDs ds ds).length = ds.length
  | [] => rfl
  | _ :: ds => congrArg (· + 1) (zp_self_len ds)
def fit : Nat → D → Bool
  | 0, _ => false
  | n + 1, .list ds => decide (ds.length ≤ 16777216) && ds.all (fit n)
  | n + 1, .tuple ds => decide (ds.length ≤ 16777216) && ds.all (fit n)
  | _ + 1, .dict _ => false
  | _ + 1, _ => true
theorem like_lc {n : Nat} {ds : List D} {x y : D} (hl : ds.length ≤ 16777216) (ih : ∀ d ∈ ds, m__law_like n [some (.dat d), some (.dat d)] = .ok (.dat (.bool true)) [none, none]) (hz : sZip [.ex (sVar 0), .ex (sVar 1)] [some (.dat x), some (.dat y), none, none] = .ok (zpDs ds ds) [some (.dat x), some (.dat y), none, none]) :
    sLc (sZip [.ex (sVar 0), .ex (sVar 1)]) (gTp 2 (gsCons (gNm 2) (gsCons (gNm 3) (gsNil)))) (sNotT (sT (sCall 2 (m__law_like n) [.ex (sVar 2), .ex (sVar 3)]))) (sC (.int 1)) [2, 3] [some (.dat x), some (.dat y), none, none] = .ok (.own []) [some (.dat x), some (.dat y), none, none] := by
  rw [sLc_pure (fun _ => none) hz (fun z hz => ?_) (by rw [zp_self_len]; exact hl)]
  · simp
  · obtain ⟨d, hd, rfl⟩ := zp_self _ _ hz
    simp [ih d hd]
theorem like_refl : ∀ (n : Nat) (d : D), fit n d = true → m__law_like n [some (.dat d), some (.dat d)] = .ok (.dat (.bool true)) [none, none]
  | 0, d, h => by cases h
  | n + 1, d, h => by
    have e1 := e_kind d
    cases d with
    | none => simp [m__law_like, e1]
    | bool b => simp [m__law_like, e1]
    | int i => simp [m__law_like, e1]
    | str x => simp [m__law_like, e1]
    | dict _ => cases h
    | list ds =>
      have h' : (decide (ds.length ≤ 16777216) && ds.all (fit n)) = true := h
      rw [Bool.and_eq_true, List.all_eq_true] at h'
      have lc := like_lc (n := n) (ds := ds) (x := .list ds) (y := .list ds) (of_decide_eq_true h'.1) (fun d hd => like_refl n d (h'.2 d hd)) rfl
      simp [m__law_like, e1, lc]
    | tuple ds =>
      have h' : (decide (ds.length ≤ 16777216) && ds.all (fit n)) = true := h
      rw [Bool.and_eq_true, List.all_eq_true] at h'
      have lc := like_lc (n := n) (ds := ds) (x := .tuple ds) (y := .tuple ds) (of_decide_eq_true h'.1) (fun d hd => like_refl n d (h'.2 d hd)) rfl
      simp [m__law_like, e1, lc]
def isRow (x : Str) : Bool := decide (x.length ≤ 4000) && x.cps.toList.all fun c => decide (c ∈ ("abcdefgh" : Str).cps.toList)
theorem e_is_row (x : Str) (hl : x.length ≤ 16777216) : m_is_row [some (.dat (.str x))] = .ok (.dat (.bool (isRow x))) [none] := by
  have lc : sLc (sRow (sFrz (sVar 0))) (gNm 1) (sYes) (sOp2 aIn (.nm 1) (.ex (sC (.str "abcdefgh")))) [1] [some (.dat (.str x)), none] = .ok (.own (x.cps.toList.map fun c => PyData.bool (decide (c ∈ ("abcdefgh" : Str).cps.toList)))) [some (.dat (.str x)), none] := by
    refine (sLc_mapA (f := sRow (sFrz (sVar 0))) cpD x.cps.toList (fun c => PyData.bool (decide (c ∈ ("abcdefgh" : Str).cps.toList))) (e1 := [some (.dat (.str x)), none]) rfl (fun c hc => ?_) (by rw [Array.length_toList]; exact hl)).trans ?_
    · simp [sYes]
    · simp
  by_cases h : x.length ≤ 4000
  · have h2 : (x.length : Int) ≤ 4000 := by omega
    simp [m_is_row, b_is_row, isKind, kindD, lc, hl, isRow, h, h2]
  · have h2 : ¬ (x.length : Int) ≤ 4000 := by omega
    simp [m_is_row, b_is_row, isKind, kindD, lc, hl, isRow, h, h2]
abbrev L8 : List Nat := [97, 98, 99, 100, 101, 102, 103, 104]
theorem l8 : ("abcdefgh" : Str).cps.toList = L8 := rfl
theorem isRow_tx {cs : List Nat} : isRow (tx cs) = (decide (cs.length ≤ 4000) && cs.all fun c => decide (c ∈ L8)) := by
  unfold isRow
  rw [tx_len, tx_cps]
  rfl
theorem e_need_row {cs : List Nat} (hl : cs.length ≤ 4000) (h : isRow (tx cs) = true) : m_need_row [some (.dat (.str (tx cs)))] = .ok (.dat .none) [none] := by
  have e := e_is_row (tx cs) (by rw [tx_len]; omega)
  simp [m_need_row, b_need_row, e, h]
theorem e_someT (a b : Int) (ds : List Nat) (ha : 0 ≤ a) (hb : 0 ≤ b) (h0 : 0 < ds.length) (h1 : ds.length < 1000000) : ∃ (c : Nat) (a' b' : Int), c ∈ ds ∧ 0 ≤ a' ∧ 0 ≤ b' ∧ m__law_some [some (.own [.int a, .int b]), some (.dat (.str (tx ds)))] = .ok (.dat (cpD c)) [some (.own [.int a', .int b']), none] := by
  obtain ⟨r, a', b', ⟨r0, r1⟩, ha', hb', e⟩ := e_roll a b ds.length ha hb (by omega) (by omega)
  have g : ds.length ≤ 16777216 := by omega
  have ix := aIx_tx (cs := ds) r0 r1 g
  have hm : ds.getD r.toNat 0 ∈ ds := by
    rw [List.getD_eq_getElem?_getD, List.getElem?_eq_getElem (by omega)]
    exact List.getElem_mem (by omega)
  generalize ds.getD r.toNat 0 = k at *
  refine ⟨k, a', b', hm, ha', hb', ?_⟩
  simp [m__law_some, b__law_some, e, g, ix, outE_fst]
theorem add_sign {cs : List Nat} {c : Nat} (h : cs.length ≤ 100000) : aAdd (.str (tx cs)) (cpD c) = some (.dat (.str (tx (cs ++ [c])))) := by
  have e : cpD c = .str (tx [c]) := rfl
  have g : cs.length + 1 ≤ 16777216 := by omega
  rw [e]
  simp [g]
theorem e_row (a b m : Int) (ds : List Nat) (ha : 0 ≤ a) (hb : 0 ≤ b) (hm : 0 ≤ m) (hm2 : m ≤ 1000) (hd : 0 < ds.length) (hd2 : ds.length ≤ 8) : ∃ (cs : List Nat) (a' b' : Int), cs.length ≤ m.toNat ∧ (∀ c ∈ cs, c ∈ ds) ∧ 0 ≤ a' ∧ 0 ≤ b' ∧
    m__law_row [some (.own [.int a, .int b]), some (.dat (.str (tx ds))), some (.dat (.int m))] = .ok (.dat (.str (tx cs))) [some (.own [.int a', .int b']), none, none] := by
  obtain ⟨r, a1, b1, ⟨r0, r1⟩, ha1, hb1, e1⟩ := e_roll a b (m + 1) ha hb (by omega) (by omega)
  have hf : sRng1 [.ex (sCall 2 m__law_roll [.nm 0, .ex (sOp2 aAdd (.nm 2) (.ex (sC (.int 1))))])] [some (.own [.int a, .int b]), some (.dat (.str (tx ds))), some (.dat (.int m)), some (.dat (.str (tx []))), none] = .ok (rngDs 0 r.toNat) [some (.own [.int a1, .int b1]), some (.dat (.str (tx ds))), some (.dat (.int m)), some (.dat (.str (tx []))), none] :=
    rng1_val (by simp [e1]) (i62 (by omega) (by omega))
  let P : Nat → SEnv → Prop := fun i e => ∃ (a b : Int) (cs : List Nat) (x4 : Option PV), cs.length ≤ i ∧ (∀ c ∈ cs, c ∈ ds) ∧ 0 ≤ a ∧ 0 ≤ b ∧ i ≤ r.toNat ∧ e = [some (.own [.int a, .int b]), some (.dat (.str (tx ds))), some (.dat (.int m)), some (.dat (.str (tx cs))), x4]
  obtain ⟨e', f1, a3, b3, cs, x4, c1, c2, ha3, hb3, _, rfl⟩ := for_ix (g := gNm 4) (b := sSet 3 (sOp2 aAdd (.nm 3) (.ex (sCall 2 m__law_some [.nm 0, .ex (sVar 1)])))) P hf ⟨a1, b1, [], none, by simp, by simp, ha1, hb1, Nat.zero_le _, rfl⟩ (by
    rintro i d e hd0 ⟨a, b, cs, x4, h1, h2, h3, h4, h5, rfl⟩
    obtain ⟨hi, rfl⟩ := rngDs_at hd0
    obtain ⟨c, a2, b2, hc, ha2, hb2, e2⟩ := e_someT a b ds h3 h4 hd (by omega)
    have ad := add_sign (cs := cs) (c := c) (by omega)
    have hce : ∃ z, cpD c = .str z := ⟨_, rfl⟩
    refine ⟨_, [some (.own [.int a2, .int b2]), some (.dat (.str (tx ds))), some (.dat (.int m)), some (.dat (.str (tx (cs ++ [c])))), some (.dat (.int (0 + (i : Int))))], rfl, .inl ?_, a2, b2, cs ++ [c], _, by simp; omega, fun x hx => ?_, ha2, hb2, by omega, rfl⟩
    · generalize cpD c = C at *
      simp [e2, ad, backO_own, backO_vals, posOf, isSlot]
    · rcases List.mem_append.mp hx with z | z
      · exact h2 x z
      · rw [List.mem_singleton.mp z]
        exact hc)
  rw [rngDs_len] at c1
  refine ⟨cs, a3, b3, by omega, c2, ha3, hb3, ?_⟩
  have f0 : sSet 3 (sC (.str "")) [some (.own [.int a, .int b]), some (.dat (.str (tx ds))), some (.dat (.int m)), none, none] = .ok .nx [some (.own [.int a, .int b]), some (.dat (.str (tx ds))), some (.dat (.int m)), some (.dat (.str (tx []))), none] := rfl
  have key : b__law_row [some (.own [.int a, .int b]), some (.dat (.str (tx ds))), some (.dat (.int m)), none, none] = .ok (.rt (.dat (.str (tx cs)))) [some (.own [.int a3, .int b3]), some (.dat (.str (tx ds))), some (.dat (.int m)), some (.dat (.str (tx cs))), x4] := seq_of f0 (seq_of f1 rfl)
  show outF 3 [0] (b__law_row [some (.own [.int a, .int b]), some (.dat (.str (tx ds))), some (.dat (.int m)), none, none]) = _
  rw [key]
  rfl
def isRt (o : Out Fl) : Bool := match o with
  | .ok (.rt (.dat (.bool b))) _ => b
  | _ => false
theorem of_isRt {o : Out Fl} (h : isRt o = true) : ∃ e, o = .ok (.rt (.dat (.bool true))) e := by
  unfold isRt at h
  split at h
  · subst h
    exact ⟨_, rfl⟩
  · cases h
theorem op2_of {op : D → D → Option PV} {f g : SE} {e : SEnv} {d d' r : D} (hf : f e = .ok (.dat d) e) (hg : g e = .ok (.dat d') e) (ho : op d d' = some (.dat r)) : sOp2 op (.ex f) (.ex g) e = .ok (.dat r) e := by
  simp [hf, hg, ho]
theorem sT_of {f : SE} {e : SEnv} {b : Bool} (h : f e = .ok (.dat (.bool b)) e) : sT f e = .ok b e := by
  simp [h]
theorem or_no {t u : ST} {e : SEnv} (h : t e = .ok false e) : sOrT t u e = u e := by
  show (t e).bind _ = _
  rw [h]
  rfl
theorem f1 (xs : List Nat) : (⟨xs.toArray⟩ : Str) = tx xs := rfl
theorem aAdd_tup (xs ys : List D) : aAdd (.tuple xs) (.tuple ys) = if xs.length + ys.length ≤ 16777216 then some (.dat (.tuple (xs ++ ys))) else none := (rfl)
/-! ## letters, plainly -/
def LD (p : Nat × Nat) : D := .tuple [cpD p.1, .int (p.2 : Nat)]
def LsD (ls : List (Nat × Nat)) : D := .tuple (ls.map LD)
def okL (p : Nat × Nat) : Prop := p.1 ∈ L8 ∧ 1 ≤ p.2 ∧ p.2 ≤ 1000000
def kp : Nat → List (Nat × Nat) → List Nat
  | _, [] => []
  | m, (c, n) :: r => if m < n then c :: kp n r else kp m r
def mx : Nat → List (Nat × Nat) → Nat
  | m, [] => m
  | m, (_, n) :: r => if m < n then mx n r else mx m r
theorem mx_ge : ∀ (ls : List (Nat × Nat)) (m : Nat), m ≤ mx m ls ∧ ∀ p ∈ ls, p.2 ≤ mx m ls
  | [], m => ⟨Nat.le_refl _, fun p h => nomatch h⟩
  | (c, n) :: r, m => by
    unfold mx
    by_cases h : m < n
    · rw [if_pos h]
      have ih := mx_ge r n
      refine ⟨by omega, fun p hp => ?_⟩
      rcases List.mem_cons.mp hp with rfl | hp
      · exact ih.1
      · exact ih.2 p hp
    · rw [if_neg h]
      have ih := mx_ge r m
      refine ⟨ih.1, fun p hp => ?_⟩
      rcases List.mem_cons.mp hp with rfl | hp
      · show n ≤ _
        omega
      · exact ih.2 p hp
theorem kp_cons (m c n : Nat) (r : List (Nat × Nat)) : kp m ((c, n) :: r) = if m < n then c :: kp n r else kp m r := rfl
theorem mx_cons (m c n : Nat) (r : List (Nat × Nat)) : mx m ((c, n) :: r) = if m < n then mx n r else mx m r := rfl
theorem kp_app : ∀ (xs ys : List (Nat × Nat)) (m : Nat), kp m (xs ++ ys) = kp m xs ++ kp (mx m xs) ys
  | [], ys, m => rfl
  | (c, n) :: r, ys, m => by
    rw [List.cons_append, kp_cons, kp_cons, mx_cons]
    by_cases h : m < n
    · rw [if_pos h, if_pos h, if_pos h, kp_app r ys n]
      rfl
    · rw [if_neg h, if_neg h, if_neg h, kp_app r ys m]
theorem kp_low : ∀ (ys : List (Nat × Nat)) (m : Nat), (∀ p ∈ ys, p.2 ≤ m) → kp m ys = [] ∧ mx m ys = m
  | [], m, _ => ⟨rfl, rfl⟩
  | (c, n) :: r, m, h => by
    have h1 : n ≤ m := h (c, n) List.mem_cons_self
    unfold kp mx
    rw [if_neg (by omega), if_neg (by omega)]
    exact kp_low r m fun p hp => h p (List.mem_cons_of_mem _ hp)
theorem mx_app : ∀ (xs ys : List (Nat × Nat)) (m : Nat), mx m (xs ++ ys) = mx (mx m xs) ys
  | [], ys, m => rfl
  | (c, n) :: r, ys, m => by
    rw [List.cons_append, mx_cons, mx_cons]
    by_cases h : m < n
    · rw [if_pos h, if_pos h]
      exact mx_app r ys n
    · rw [if_neg h, if_neg h]
      exact mx_app r ys m
theorem kp_again {ls : List (Nat × Nat)} {p e : Nat} (hp : p < e) (he : e ≤ ls.length) : kp 0 (ls.take e ++ (ls.drop p).take (e - p) ++ ls.drop e) = kp 0 ls := by
  have lo : ∀ q ∈ (ls.drop p).take (e - p), q.2 ≤ mx 0 (ls.take e) := fun q hq => by
    refine (mx_ge (ls.take e) 0).2 q ?_
    have te : ls.take e = ls.take p ++ (ls.drop p).take (e - p) := by
      have := List.take_add (l := ls) (i := p) (j := e - p)
      rw [show p + (e - p) = e by omega] at this
      exact this
    rw [te]
    exact List.mem_append.mpr (.inr hq)
  obtain ⟨k1, k2⟩ := kp_low _ _ lo
  rw [kp_app, kp_app, mx_app, k1, k2, List.append_nil, ← kp_app, List.take_append_drop]
/-- stamps of a row -/
def stL (cs : List Nat) : List (Nat × Nat) := (List.range cs.length).map fun i => (cs.getD i 0, i + 1)
theorem kp_up : ∀ (n k : Nat) (f : Nat → Nat), kp k ((List.range n).map fun i => (f i, k + i + 1)) = (List.range n).map f
  | 0, _, _ => rfl
  | n + 1, k, f => by
    rw [List.range_succ_eq_map, List.map_cons, List.map_cons, List.map_map, List.map_map]
    unfold kp
    rw [if_pos (by omega)]
    congr 1
    have ih := kp_up n (k + 1) fun i => f (i + 1)
    have e : ((fun i => (f i, k + i + 1)) ∘ Nat.succ) = fun i => (f (i + 1), k + 1 + i + 1) := by
      funext i
      show (f (i + 1), k + (i + 1) + 1) = _
      congr 1
      omega
    rw [e]
    exact ih
theorem kp_st (cs : List Nat) : kp 0 (stL cs) = cs := by
  have h := kp_up cs.length 0 fun i => cs.getD i 0
  have e : stL cs = (List.range cs.length).map fun i => (cs.getD i 0, 0 + i + 1) := by
    unfold stL
    congr 1
    funext i
    rw [Nat.zero_add]
  rw [e, h]
  have := range_whole (F := id) cs
  rw [List.map_id] at this
  exact this
theorem kp_len : ∀ (ls : List (Nat × Nat)) (m : Nat), (kp m ls).length ≤ ls.length
  | [], _ => Nat.le_refl _
  | (c, n) :: r, m => by
    unfold kp
    split
    · have := kp_len r n
      simp only [List.length_cons]
      omega
    · have := kp_len r m
      simp only [List.length_cons]
      omega
/-! ## the program -/
theorem e_tup (ds : List D) (l h : Int) (hl : ds.length ≤ 16777216) : m_is_tuple_of [some (.dat (.tuple ds)), some (.dat (.int l)), some (.dat (.int h))] = .ok (.dat (.bool (decide (l ≤ (ds.length : Int)) && decide ((ds.length : Int) ≤ h)))) [none, none, none] := by
  simp [m_is_tuple_of, b_is_tuple_of, isKind, kindD, hl]
theorem e_is_letter {p : Nat × Nat} (h : okL p) : m_is_letter [some (.dat (LD p))] = .ok (.dat (.bool true)) [none] := by
  obtain ⟨c, n⟩ := p
  obtain ⟨h1, h2, h3⟩ := h
  have t := e_tup [cpD c, .int (n : Nat)] 2 2 (by show 2 ≤ 16777216; decide)
  have w := e_is_whole (.int (n : Nat)) 1 1000000
  have hw : isWhole (.int (n : Nat)) 1 1000000 = true := by
    have h2 : 1 ≤ n := h2
    have h3 : n ≤ 1000000 := h3
    simp [isWhole]
    omega
  rw [hw] at w
  have t : m_is_tuple_of [some (.dat (.tuple [cpD c, .int (n : Nat)])), some (.dat (.int 2)), some (.dat (.int 2))] = .ok (.dat (.bool true)) [none, none, none] := t
  have ix0 : aIx (.tuple [cpD c, .int (n : Nat)]) (.int 0) = some (.dat (cpD c)) := rfl
  have ix1 : aIx (.tuple [cpD c, .int (n : Nat)]) (.int 1) = some (.dat (.int (n : Nat))) := rfl
  have e1 : aLen [cpD c] = some (.dat (.int 1)) := rfl
  have e2 : aIn (cpD c) (.str "abcdefgh") = some (.dat (.bool true)) := by
    rw [aIn_cpD]
    exact congrArg (fun b => some (PV.dat (.bool b))) (decide_eq_true h1)
  have e3 : aIsi "str" (cpD c) = some (.dat (.bool true)) := rfl
  show outF 1 [] (b_is_letter [some (.dat (.tuple [cpD c, .int (n : Nat)]))]) = _
  generalize cpD c = C at *
  simp [b_is_letter, t, w, ix0, ix1, e1, e2, e3]
theorem LsD_len {ls : List (Nat × Nat)} : (ls.map LD).length = ls.length := List.length_map ..
theorem e_is_letters {ls : List (Nat × Nat)} (h : ∀ p ∈ ls, okL p) (hl : ls.length ≤ 800) : m_is_letters [some (.dat (LsD ls))] = .ok (.dat (.bool true)) [none] := by
  have t := e_tup (ls.map LD) 0 800 (by rw [LsD_len]; omega)
  have hb : (decide ((0 : Int) ≤ ((ls.map LD).length : Int)) && decide (((ls.map LD).length : Int) ≤ 800)) = true := by
    rw [LsD_len]
    simp
    omega
  rw [hb] at t
  have k := sLc_mapA (f := sRow (sFrz (sVar 0))) (g := gNm 1) (t := sYes) (el := sCall 1 m_is_letter [.ex (sVar 1)]) (ws := [1]) (e := [some (.dat (LsD ls)), none]) (e1 := [some (.dat (LsD ls)), none]) LD ls (fun _ => PyData.bool true) rfl (fun p hp => by
    have e := e_is_letter (h p hp)
    generalize LD p = P at *
    generalize LsD ls = Z at *
    simp [sYes, e]) (by show _ ≤ 16777216; omega)
  have k : sLc (sRow (sFrz (sVar 0))) (gNm 1) (sYes) (sCall 1 m_is_letter [.ex (sVar 1)]) [1] [some (.dat (LsD ls)), none] = .ok (.own (ls.map fun _ => PyData.bool true)) [some (.dat (LsD ls)), none] := k
  have al : aAll [.list (ls.map fun _ => PyData.bool true)] = some (.dat (.bool true)) := by
    rw [aAll_list, blsOf_map]
    show some (PV.dat (.bool _)) = _
    congr 3
    simp
  show outF 1 [] (b_is_letters [some (.dat (LsD ls)), none]) = _
  unfold b_is_letters
  have t : m_is_tuple_of [some (.dat (LsD ls)), some (.dat (.int 0)), some (.dat (.int 800))] = .ok (.dat (.bool true)) [none, none, none] := t
  generalize sLc _ _ _ _ _ = K at *
  generalize ls.map (fun _ => PyData.bool true) = B at *
  generalize LsD ls = Z at *
  simp [t, k, al]
theorem e_need_letters {ls : List (Nat × Nat)} (h : ∀ p ∈ ls, okL p) (hl : ls.length ≤ 800) : m_need_letters [some (.dat (LsD ls))] = .ok (.dat .none) [none] := by
  have e := e_is_letters h hl
  generalize LsD ls = Z at *
  simp [m_need_letters, b_need_letters, e]
abbrev KB : SS := sIfS (sT (sOp2 aGt (.nm 4) (.nm 2))) (sSeq (sDrop (sApp 1 [.ex (sVar 3)])) (sSet 2 (sVar 4))) (sNext)
theorem kept_go {Z : D} : ∀ (ls : List (Nat × Nat)) (acc : List Nat) (m : Nat) (x3 x4 : Option PV), acc.length + ls.length ≤ 100000 → ∃ (m' : Nat) (y3 y4 : Option PV), sForGo (gTp 2 (gsCons (gNm 3) (gsCons (gNm 4) (gsNil)))) KB (ls.map LD) [some (.dat Z), some (.own (acc.map cpD)), some (.dat (.int (m : Nat))), x3, x4] = .ok .nx [some (.dat Z), some (.own ((acc ++ kp m ls).map cpD)), some (.dat (.int (m' : Nat))), y3, y4]
  | [], acc, m, x3, x4, _ => ⟨m, x3, x4, by rw [kp, List.append_nil]; rfl⟩
  | (c, n) :: r, acc, m, x3, x4, hl => by
    rw [List.length_cons] at hl
    by_cases h : m < n
    · obtain ⟨m', y3, y4, ih⟩ := kept_go r (acc ++ [c]) n (some (.dat (cpD c))) (some (.dat (.int (n : Nat)))) (by rw [List.length_append, List.length_singleton]; omega)
      refine ⟨m', y3, y4, ?_⟩
      have h' : (m : Int) < (n : Nat) := by omega
      have e : kp m ((c, n) :: r) = c :: kp n r := by rw [kp, if_pos h]
      rw [e, show acc ++ c :: kp n r = acc ++ [c] ++ kp n r by simp]
      refine go_cons (e1 := [some (.dat Z), some (.own (acc.map cpD)), some (.dat (.int (m : Nat))), some (.dat (cpD c)), some (.dat (.int (n : Nat)))]) rfl ?_ ih
      have t : sT (sOp2 aGt (.nm 4) (.nm 2)) [some (.dat Z), some (.own (acc.map cpD)), some (.dat (.int (m : Nat))), some (.dat (cpD c)), some (.dat (.int (n : Nat)))] = .ok true [some (.dat Z), some (.own (acc.map cpD)), some (.dat (.int (m : Nat))), some (.dat (cpD c)), some (.dat (.int (n : Nat)))] := by
        simp [h']
      have a := app_of (i := 1) (f := sVar 3) (e := [some (.dat Z), some (.own (acc.map cpD)), some (.dat (.int (m : Nat))), some (.dat (cpD c)), some (.dat (.int (n : Nat)))]) (d := cpD c) (F := acc.map cpD) (by simp) rfl (by rw [List.length_map]; omega)
      refine if_go t (seq_of a ?_)
      rw [List.map_append]
      simp
    · obtain ⟨m', y3, y4, ih⟩ := kept_go r acc m (some (.dat (cpD c))) (some (.dat (.int (n : Nat)))) (by omega)
      refine ⟨m', y3, y4, ?_⟩
      have h' : ¬ (m : Int) < (n : Nat) := by omega
      have e : kp m ((c, n) :: r) = kp m r := by rw [kp, if_neg h]
      rw [e]
      refine go_cons (e1 := [some (.dat Z), some (.own (acc.map cpD)), some (.dat (.int (m : Nat))), some (.dat (cpD c)), some (.dat (.int (n : Nat)))]) rfl ?_ ih
      have t : sT (sOp2 aGt (.nm 4) (.nm 2)) [some (.dat Z), some (.own (acc.map cpD)), some (.dat (.int (m : Nat))), some (.dat (cpD c)), some (.dat (.int (n : Nat)))] = .ok false [some (.dat Z), some (.own (acc.map cpD)), some (.dat (.int (m : Nat))), some (.dat (cpD c)), some (.dat (.int (n : Nat)))] := by
        simp [h']
      exact if_no t rfl
theorem e_kept_in {ls : List (Nat × Nat)} (hl : ls.length ≤ 800) : m_kept_in [some (.dat (LsD ls))] = .ok (.dat (.str (tx (kp 0 ls)))) [none] := by
  obtain ⟨m', y3, y4, k⟩ := kept_go (Z := LsD ls) ls [] 0 none none (by simp; omega)
  rw [List.nil_append, List.map_nil] at k
  have kl := kp_len ls 0
  have s0 : sParV 1 2 (sLst []) (sC (.int 0)) [some (.dat (LsD ls)), none, none, none, none] = .ok .nx [some (.dat (LsD ls)), some (.own []), some (.dat (.int ((0 : Nat) : Int))), none, none] := rfl
  have s1 : sFor (sRow (sFrz (sVar 0))) (gTp 2 (gsCons (gNm 3) (gsCons (gNm 4) (gsNil)))) KB [some (.dat (LsD ls)), some (.own []), some (.dat (.int ((0 : Nat) : Int))), none, none] = .ok .nx [some (.dat (LsD ls)), some (.own ((kp 0 ls).map cpD)), some (.dat (.int (m' : Nat))), y3, y4] := for_of rfl k
  have js : aJoin (.str "") [.list ((kp 0 ls).map cpD)] = some (.dat (.str (tx (kp 0 ls)))) := join_signs _ (by omega)
  have s2 : sRet (sMs aJoin (.ex (sC (.str ""))) [.nm 1]) [some (.dat (LsD ls)), some (.own ((kp 0 ls).map cpD)), some (.dat (.int (m' : Nat))), y3, y4] = .ok (.rt (.dat (.str (tx (kp 0 ls))))) [some (.dat (LsD ls)), some (.own ((kp 0 ls).map cpD)), some (.dat (.int (m' : Nat))), y3, y4] := by
    generalize (kp 0 ls).map cpD = F at *
    generalize LsD ls = Z at *
    simp [js]
  have key : b_kept_in [some (.dat (LsD ls)), none, none, none, none] = _ := seq_of s0 (seq_of s1 s2)
  show outF 1 [] (b_kept_in [some (.dat (LsD ls)), none, none, none, none]) = _
  rw [key]
  rfl
theorem e_kept {ls : List (Nat × Nat)} (h : ∀ p ∈ ls, okL p) (hl : ls.length ≤ 800) : m_kept [some (.dat (LsD ls))] = .ok (.dat (.str (tx (kp 0 ls)))) [none] := by
  have e1 := e_need_letters h hl
  have e2 := e_kept_in hl
  generalize LsD ls = Z at *
  simp [m_kept, b_kept, e1, e2]
def enumD (cs : List Nat) : List D := (List.range cs.length).map fun i : Nat => .tuple [.int (i : Nat), cpD (cs.getD i 0)]
theorem enDs_signs (cs : List Nat) : enDs 0 (cs.map cpD) = enumD cs := by
  apply List.ext_getElem?
  intro i
  rw [enDs_get, List.getElem?_map]
  unfold enumD
  rw [List.getElem?_map]
  by_cases h : i < cs.length
  · rw [List.getElem?_range h, List.getElem?_eq_getElem h]
    simp [List.getD_eq_getElem?_getD, List.getElem?_eq_getElem h]
  · rw [List.getElem?_eq_none (by omega), List.getElem?_eq_none (by rw [List.length_range]; omega)]
    rfl
theorem LsD_st (cs : List Nat) : LsD (stL cs) = .tuple ((List.range cs.length).map fun i : Nat => (.tuple [cpD (cs.getD i 0), .int ((i : Int) + 1)] : D)) := by
  unfold LsD stL
  rw [List.map_map]
  rfl
theorem e_stamped {cs : List Nat} (hl : cs.length ≤ 400) (hr : isRow (tx cs) = true) : m_stamped [some (.dat (.str (tx cs)))] = .ok (.dat (LsD (stL cs))) [none] := by
  have n1 := e_need_row (cs := cs) (by omega) hr
  have g : cs.length ≤ 16777216 := by omega
  have g4 : ¬ (400 : Int) < cs.length := by omega
  have en := enDs_signs cs
  rw [← strDs_tx] at en
  have s0 : sDrop (sCall 1 m_need_row [.ex (sVar 0)]) [some (.dat (.str (tx cs))), none, none] = .ok .nx [some (.dat (.str (tx cs))), none, none] := by
    simp [n1]
  have s1 : sIfS (sT (sOp2 aGt (.ex (sFn aLen [.nm 0])) (.ex (sC (.int 400))))) (sRaiseF "TooMany" "limit" (sC (.int 400))) (sNext) [some (.dat (.str (tx cs))), none, none] = .ok .nx [some (.dat (.str (tx cs))), none, none] := by
    simp [g, g4]
  have hf : sEnumB [.ex (sVar 0)] [some (.dat (.str (tx cs))), none, none] = .ok (enumD cs) [some (.dat (.str (tx cs))), none, none] := by
    simp [en]
  have k := sLc_mapA (g := gTp 2 (gsCons (gNm 1) (gsCons (gNm 2) (gsNil)))) (t := sYes) (el := sTup [.ex (sVar 2), .ex (sOp2 aAdd (.nm 1) (.ex (sC (.int 1))))]) (ws := [1, 2]) (fun i : Nat => (.tuple [.int (i : Nat), cpD (cs.getD i 0)] : D)) (List.range cs.length) (fun i : Nat => (.tuple [cpD (cs.getD i 0), .int ((i : Int) + 1)] : D)) hf (fun i hi => by
    generalize cs.getD i 0 = c
    simp [sYes]) (by rw [List.length_range]; exact g)
  have k : sLc (sEnumB [.ex (sVar 0)]) (gTp 2 (gsCons (gNm 1) (gsCons (gNm 2) (gsNil)))) (sYes) (sTup [.ex (sVar 2), .ex (sOp2 aAdd (.nm 1) (.ex (sC (.int 1))))]) [1, 2] [some (.dat (.str (tx cs))), none, none] = .ok (.own ((List.range cs.length).map fun i : Nat => (.tuple [cpD (cs.getD i 0), .int ((i : Int) + 1)] : D))) [some (.dat (.str (tx cs))), none, none] := k
  have s2 : sRet (sFn aTuple [.ex (sLc (sEnumB [.ex (sVar 0)]) (gTp 2 (gsCons (gNm 1) (gsCons (gNm 2) (gsNil)))) (sYes) (sTup [.ex (sVar 2), .ex (sOp2 aAdd (.nm 1) (.ex (sC (.int 1))))]) [1, 2])]) [some (.dat (.str (tx cs))), none, none] = .ok (.rt (.dat (LsD (stL cs)))) [some (.dat (.str (tx cs))), none, none] := by
    rw [LsD_st]
    generalize sLc _ _ _ _ _ = K at *
    generalize (List.range cs.length).map (fun i : Nat => (.tuple [cpD (cs.getD i 0), .int ((i : Int) + 1)] : D)) = F at *
    simp [k]
  have key : b_stamped [some (.dat (.str (tx cs))), none, none] = _ := seq_of s0 (seq_of s1 s2)
  show outF 1 [] (b_stamped [some (.dat (.str (tx cs))), none, none]) = _
  rw [key]
  rfl
def again (ls : List (Nat × Nat)) (p e : Nat) : List (Nat × Nat) := ls.take e ++ (ls.drop p).take (e - p) ++ ls.drop e
theorem again_D (ls : List (Nat × Nat)) (p e : Nat) : ((ls.map LD).take e ++ ((ls.map LD).drop p).take (e - p)) ++ (ls.map LD).drop e = (again ls p e).map LD := by
  unfold again
  rw [List.map_append, List.map_append, List.map_take, List.map_take, List.map_drop, List.map_drop]
theorem e_told {ls : List (Nat × Nat)} {p l : Nat} (h : ∀ q ∈ ls, okL q) (h1 : 1 ≤ l) (h2 : p + l ≤ ls.length) (h3 : ls.length + l ≤ 800) : m_told_again [some (.dat (LsD ls)), some (.dat (.int (p : Nat))), some (.dat (.int (l : Nat)))] = .ok (.dat (LsD (again ls p (p + l)))) [none, none, none] := by
  have e1 := e_need_letters h (by omega)
  have w1 := e_is_whole (.int (p : Nat)) 0 ls.length
  have w2 := e_is_whole (.int (l : Nat)) 1 ((ls.length : Int) - (p : Nat))
  have b1 : isWhole (.int (p : Nat)) 0 ls.length = true := by simp [isWhole]; omega
  have b2 : isWhole (.int (l : Nat)) 1 ((ls.length : Int) - (p : Nat)) = true := by simp [isWhole]; omega
  rw [b1] at w1
  rw [b2] at w2
  have ln : aLen [LsD ls] = some (.dat (.int (ls.length : Nat))) := by
    show aLen [.tuple (ls.map LD)] = _
    rw [show aLen [.tuple (ls.map LD)] = some (.dat (.int ((ls.map LD).length : Nat))) from rfl, LsD_len]
  have g8 : ¬ (800 : Int) < (ls.length : Int) + (l : Nat) := by omega
  have c1 : aSl (LsD ls) none (some (((p + l : Nat) : Int))) = some (.dat (.tuple ((ls.map LD).take (p + l)))) := by
    show some (PV.dat (.tuple (cutL (ls.map LD) none (some (((p + l : Nat) : Int)))))) = _
    rw [cutL_to (by omega), Int.toNat_natCast]
  have c2 : aSl (LsD ls) (some ((p : Nat) : Int)) (some (((p + l : Nat) : Int))) = some (.dat (.tuple (((ls.map LD).drop p).take (p + l - p)))) := by
    show some (PV.dat (.tuple (cutL (ls.map LD) (some ((p : Nat) : Int)) (some (((p + l : Nat) : Int)))))) = _
    rw [cutL_nn (by omega) (by omega), Int.toNat_natCast, Int.toNat_natCast]
  have c3 : aSl (LsD ls) (some (((p + l : Nat) : Int))) none = some (.dat (.tuple ((ls.map LD).drop (p + l)))) := by
    show some (PV.dat (.tuple (cutL (ls.map LD) (some (((p + l : Nat) : Int))) none))) = _
    rw [cutL_from (by omega), Int.toNat_natCast]
  have ad := again_D ls p (p + l)
  have lA : ((ls.map LD).take (p + l)).length ≤ 800 := by rw [List.length_take, LsD_len]; omega
  have lB : (((ls.map LD).drop p).take (p + l - p)).length ≤ 800 := by rw [List.length_take, List.length_drop, LsD_len]; omega
  have lC : ((ls.map LD).drop (p + l)).length ≤ 800 := by rw [List.length_drop, LsD_len]; omega
  have hz : LsD (again ls p (p + l)) = .tuple ((again ls p (p + l)).map LD) := rfl
  rw [hz, ← ad]
  have hs : ((p : Nat) : Int) + ((l : Nat) : Int) = ((p + l : Nat) : Int) := by omega
  show outF 3 [] (b_told_again [some (.dat (LsD ls)), some (.dat (.int (p : Nat))), some (.dat (.int (l : Nat))), none]) = _
  generalize (ls.map LD).take (p + l) = A at *
  generalize ((ls.map LD).drop p).take (p + l - p) = B at *
  generalize (ls.map LD).drop (p + l) = C at *
  generalize LsD ls = Z at *
  have g1 : A.length + B.length ≤ 16777216 := by omega
  have g2 : A.length + B.length + C.length ≤ 16777216 := by omega
  generalize ((p + l : Nat) : Int) = j at *
  generalize ((p : Nat) : Int) = jp at *
  generalize ((l : Nat) : Int) = jl at *
  generalize ((ls.length : Nat) : Int) = jn at *
  clear hz ad
  simp [b_told_again, e1, w1, w2, ln, g8, hs, c1, c2, c3, aAdd_tup, g1, g2]
/-! ## the law's own way -/
def free (pre : List (Nat × Nat)) (n : Nat) : Bool := (pre.filter fun o => decide (n ≤ o.2)).isEmpty
/-- the letters kept, behind those of pre -/
def lk : List (Nat × Nat) → List (Nat × Nat) → List Nat
  | _, [] => []
  | pre, (c, n) :: r => if free pre n then c :: lk (pre ++ [(c, n)]) r else lk (pre ++ [(c, n)]) r
theorem lk_cons (pre : List (Nat × Nat)) (c n : Nat) (r : List (Nat × Nat)) : lk pre ((c, n) :: r) = if free pre n then c :: lk (pre ++ [(c, n)]) r else lk (pre ++ [(c, n)]) r := rfl
theorem free_iff {pre : List (Nat × Nat)} {n : Nat} : free pre n = true ↔ ∀ o ∈ pre, o.2 < n := by
  unfold free
  rw [List.isEmpty_iff, List.filter_eq_nil_iff]
  simp
theorem kp_lk : ∀ (ls pre : List (Nat × Nat)) (m : Nat), (∀ p ∈ ls, 1 ≤ p.2) → (∀ k, 1 ≤ k → (m < k ↔ ∀ o ∈ pre, o.2 < k)) → kp m ls = lk pre ls
  | [], _, _, _, _ => rfl
  | (c, n) :: r, pre, m, h1, h2 => by
    have hn : 1 ≤ n := h1 (c, n) List.mem_cons_self
    have hr : ∀ p ∈ r, 1 ≤ p.2 := fun p hp => h1 p (List.mem_cons_of_mem _ hp)
    rw [kp_cons, lk_cons]
    by_cases h : m < n
    · have hf : free pre n = true := free_iff.mpr ((h2 n hn).mp h)
      rw [if_pos h, if_pos hf, kp_lk r (pre ++ [(c, n)]) n hr fun k hk => ?_]
      constructor
      · intro hlt o ho
        rcases List.mem_append.mp ho with z | z
        · exact Nat.lt_trans ((h2 n hn).mp h o z) hlt
        · rw [List.mem_singleton.mp z]
          exact hlt
      · intro ho
        exact ho (c, n) (List.mem_append.mpr (.inr List.mem_cons_self))
    · have hf : ¬ free pre n = true := fun z => h ((h2 n hn).mpr (free_iff.mp z))
      rw [if_neg h, if_neg hf, kp_lk r (pre ++ [(c, n)]) m hr fun k hk => ?_]
      constructor
      · intro hlt o ho
        rcases List.mem_append.mp ho with z | z
        · exact (h2 k hk).mp hlt o z
        · rw [List.mem_singleton.mp z]
          show n < k
          omega
      · intro ho
        exact (h2 k hk).mpr fun o z => ho o (List.mem_append.mpr (.inl z))
abbrev LKB : SS := sIfS (sT (sOp2 aEq (.ex (sLc (sRow (sFrz (sSl (.nm 0) none (some (sVar 2))))) (gNm 4) (sT (sOp2 aGe (.ex (sOp2 aIx (.nm 4) (.ex (sC (.int 1))))) (.ex (sOp2 aIx (.nm 3) (.ex (sC (.int 1))))))) (sC (.int 1)) [4])) (.ex (sLst [])))) (sSet 1 (sOp2 aAdd (.nm 1) (.ex (sOp2 aIx (.nm 3) (.ex (sC (.int 0))))))) (sNext)
theorem lk_test {ls : List (Nat × Nat)} {i c n : Nat} {T : Str} (hl : ls.length ≤ 800) (x4 : Option PV) : sT (sOp2 aEq (.ex (sLc (sRow (sFrz (sSl (.nm 0) none (some (sVar 2))))) (gNm 4) (sT (sOp2 aGe (.ex (sOp2 aIx (.nm 4) (.ex (sC (.int 1))))) (.ex (sOp2 aIx (.nm 3) (.ex (sC (.int 1))))))) (sC (.int 1)) [4])) (.ex (sLst []))) [some (.dat (LsD ls)), some (.dat (.str T)), some (.dat (.int (i : Nat))), some (.dat (LD (c, n))), x4] = .ok (free (ls.take i) n) [some (.dat (LsD ls)), some (.dat (.str T)), some (.dat (.int (i : Nat))), some (.dat (LD (c, n))), keepD x4] := by
  have c1 : aSl (LsD ls) none (some ((i : Nat) : Int)) = some (.dat (.tuple ((ls.take i).map LD))) := by
    show some (PV.dat (.tuple (cutL (ls.map LD) none (some ((i : Nat) : Int))))) = _
    rw [cutL_to (by omega), Int.toNat_natCast, ← List.map_take]
  have hf : sRow (sFrz (sSl (.nm 0) none (some (sVar 2)))) [some (.dat (LsD ls)), some (.dat (.str T)), some (.dat (.int (i : Nat))), some (.dat (LD (c, n))), x4] = .ok ((ls.take i).map LD) [some (.dat (LsD ls)), some (.dat (.str T)), some (.dat (.int (i : Nat))), some (.dat (LD (c, n))), x4] := by
    generalize LsD ls = Z at *
    generalize LD (c, n) = Y at *
    generalize (ls.take i).map LD = F at *
    generalize ((i : Nat) : Int) = j at *
    simp [c1]
  have k := sLc_filA (g := gNm 4) (t := sT (sOp2 aGe (.ex (sOp2 aIx (.nm 4) (.ex (sC (.int 1))))) (.ex (sOp2 aIx (.nm 3) (.ex (sC (.int 1))))))) (el := sC (.int 1)) (ws := [4]) LD (ls.take i) (fun o => decide (n ≤ o.2)) (fun _ => PyData.int 1) hf (fun o ho => by
    obtain ⟨c', n'⟩ := o
    have i1 : aIx (LD (c', n')) (.int 1) = some (.dat (.int (n' : Nat))) := rfl
    have i2 : aIx (LD (c, n)) (.int 1) = some (.dat (.int (n : Nat))) := rfl
    generalize LsD ls = Z at *
    generalize LD (c, n) = Y at *
    generalize LD (c', n') = Y' at *
    by_cases h : n ≤ n'
    · have h' : (n : Int) ≤ (n' : Nat) := by omega
      simp [i1, i2, h, h']
    · have h' : ¬ (n : Int) ≤ (n' : Nat) := by omega
      simp [i1, i2, h, h']) (by rw [List.length_take]; show _ ≤ 16777216; omega)
  have k : sLc (sRow (sFrz (sSl (.nm 0) none (some (sVar 2))))) (gNm 4) (sT (sOp2 aGe (.ex (sOp2 aIx (.nm 4) (.ex (sC (.int 1))))) (.ex (sOp2 aIx (.nm 3) (.ex (sC (.int 1))))))) (sC (.int 1)) [4] [some (.dat (LsD ls)), some (.dat (.str T)), some (.dat (.int (i : Nat))), some (.dat (LD (c, n))), x4] = .ok (.own (((ls.take i).filter fun o => decide (n ≤ o.2)).map fun _ => PyData.int 1)) [some (.dat (LsD ls)), some (.dat (.str T)), some (.dat (.int (i : Nat))), some (.dat (LD (c, n))), keepD x4] := k
  have q := aEq_listnil (ds := ((ls.take i).filter fun o => decide (n ≤ o.2)).map fun _ => PyData.int 1) (cmpOks_mapM 63 _ _ fun o ho => rfl)
  rw [List.isEmpty_map] at q
  have q : aEq (.list (((ls.take i).filter fun o => decide (n ≤ o.2)).map fun _ => PyData.int 1)) (.list []) = some (.dat (.bool (free (ls.take i) n))) := q
  generalize sLc _ _ _ _ _ = K at *
  generalize ((ls.take i).filter fun o => decide (n ≤ o.2)).map (fun _ => PyData.int 1) = F at *
  generalize LsD ls = Z at *
  generalize LD (c, n) = Y at *
  simp [k, q]
theorem lk_go {ls : List (Nat × Nat)} (hl : ls.length ≤ 800) : ∀ (r pre : List (Nat × Nat)) (acc : List Nat) (x2 x3 x4 : Option PV), pre ++ r = ls → acc.length + r.length ≤ 100000 → ∃ (y2 y3 y4 : Option PV), sForGo (gTp 2 (gsCons (gNm 2) (gsCons (gNm 3) (gsNil)))) LKB (enDs pre.length (r.map LD)) [some (.dat (LsD ls)), some (.dat (.str (tx acc))), x2, x3, x4] = .ok .nx [some (.dat (LsD ls)), some (.dat (.str (tx (acc ++ lk pre r)))), y2, y3, y4]
  | [], pre, acc, x2, x3, x4, _, _ => ⟨x2, x3, x4, by rw [lk, List.append_nil]; rfl⟩
  | (c, n) :: r, pre, acc, x2, x3, x4, he, ha => by
    rw [List.length_cons] at ha
    have tk : ls.take pre.length = pre := by
      rw [← he]
      exact List.take_left' rfl
    have t := lk_test (ls := ls) (i := pre.length) (c := c) (n := n) (T := tx acc) hl x4
    rw [tk] at t
    have en : enDs pre.length (((c, n) :: r).map LD) = .tuple [.int (pre.length : Nat), LD (c, n)] :: enDs (pre ++ [(c, n)]).length (r.map LD) := by
      rw [List.length_append, List.length_singleton]
      rfl
    rw [en]
    have he' : (pre ++ [(c, n)]) ++ r = ls := by
      rw [← he]
      simp
    cases hf : free pre n with
    | true =>
      rw [hf] at t
      obtain ⟨y2, y3, y4, ih⟩ := lk_go hl r (pre ++ [(c, n)]) (acc ++ [c]) (some (.dat (.int (pre.length : Nat)))) (some (.dat (LD (c, n)))) (keepD x4) he' (by rw [List.length_append, List.length_singleton]; omega)
      refine ⟨y2, y3, y4, ?_⟩
      rw [lk_cons, if_pos hf, show acc ++ c :: lk (pre ++ [(c, n)]) r = acc ++ [c] ++ lk (pre ++ [(c, n)]) r by simp]
      refine go_cons (e1 := [some (.dat (LsD ls)), some (.dat (.str (tx acc))), some (.dat (.int (pre.length : Nat))), some (.dat (LD (c, n))), x4]) rfl (if_go t ?_) ih
      have i2 : aIx (LD (c, n)) (.int 0) = some (.dat (cpD c)) := rfl
      have ad := add_sign (cs := acc) (c := c) (by omega)
      generalize LsD ls = Z at *
      generalize LD (c, n) = Y at *
      generalize cpD c = C at *
      simp [i2, ad]
    | false =>
      rw [hf] at t
      obtain ⟨y2, y3, y4, ih⟩ := lk_go hl r (pre ++ [(c, n)]) acc (some (.dat (.int (pre.length : Nat)))) (some (.dat (LD (c, n)))) (keepD x4) he' (by omega)
      refine ⟨y2, y3, y4, ?_⟩
      rw [lk_cons, hf, if_neg Bool.false_ne_true]
      exact go_cons (e1 := [some (.dat (LsD ls)), some (.dat (.str (tx acc))), some (.dat (.int (pre.length : Nat))), some (.dat (LD (c, n))), x4]) rfl (if_no t rfl) ih
theorem e_law_kept {ls : List (Nat × Nat)} (h : ∀ p ∈ ls, okL p) (hl : ls.length ≤ 800) : m__law_kept [some (.dat (LsD ls))] = .ok (.dat (.str (tx (kp 0 ls)))) [none] := by
  obtain ⟨y2, y3, y4, k⟩ := lk_go hl ls [] [] none none none rfl (by simp; omega)
  rw [List.nil_append, ← kp_lk ls [] 0 (fun p hp => (h p hp).2.1) (fun k hk => ⟨fun _ o ho => (nomatch ho), fun _ => hk⟩)] at k
  have s0 : sSet 1 (sC (.str "")) [some (.dat (LsD ls)), none, none, none, none] = .ok .nx [some (.dat (LsD ls)), some (.dat (.str (tx []))), none, none, none] := rfl
  have s1 : sFor (sEnumB [.ex (sVar 0)]) (gTp 2 (gsCons (gNm 2) (gsCons (gNm 3) (gsNil)))) LKB [some (.dat (LsD ls)), some (.dat (.str (tx []))), none, none, none] = .ok .nx [some (.dat (LsD ls)), some (.dat (.str (tx (kp 0 ls)))), y2, y3, y4] := for_of rfl k
  have key : b__law_kept [some (.dat (LsD ls)), none, none, none, none] = .ok (.rt (.dat (.str (tx (kp 0 ls))))) [some (.dat (LsD ls)), some (.dat (.str (tx (kp 0 ls)))), y2, y3, y4] := seq_of s0 (seq_of s1 rfl)
  show outF 1 [] (b__law_kept [some (.dat (LsD ls)), none, none, none, none]) = _
  rw [key]
  rfl
abbrev ABCH : List Nat := [97, 98, 99, 104]
theorem e_letters (a b : Int) (ha : 0 ≤ a) (hb : 0 ≤ b) : ∃ (ls : List (Nat × Nat)) (a' b' : Int), ls.length ≤ 14 ∧ (∀ p ∈ ls, okL p) ∧ 0 ≤ a' ∧ 0 ≤ b' ∧
    m__law_letters [some (.own [.int a, .int b]), some (.dat (.int 14))] = .ok (.dat (LsD ls)) [some (.own [.int a', .int b']), none] := by
  obtain ⟨r, a1, b1, ⟨r0, r1⟩, ha1, hb1, e1⟩ := e_roll a b 15 ha hb (by decide) (by decide)
  have hf : sRng1 [.ex (sCall 2 m__law_roll [.nm 0, .ex (sOp2 aAdd (.nm 1) (.ex (sC (.int 1))))])] [some (.own [.int a, .int b]), some (.dat (.int 14)), none] = .ok (rngDs 0 r.toNat) [some (.own [.int a1, .int b1]), some (.dat (.int 14)), none] :=
    rng1_val (by simp [e1]) (i62 (by omega) (by omega))
  let P : Nat → List D → SEnv → Prop := fun i acc e => ∃ (a b : Int) (ls : List (Nat × Nat)), acc = ls.map LD ∧ ls.length = i ∧ (∀ p ∈ ls, okL p) ∧ 0 ≤ a ∧ 0 ≤ b ∧ i ≤ r.toNat ∧ e = [some (.own [.int a, .int b]), some (.dat (.int 14)), none]
  have step : ∀ i d acc e, (rngDs 0 r.toNat)[i]? = some d → P i acc e → ∃ o e', turn (gNm 2) sYes (sTup [.ex (sFrz (sCall 2 m__law_some [.nm 0, .ex (sC (.str "abch"))])), .ex (sOp2 aAdd (.ex (sC (.int 1))) (.ex (sCall 2 m__law_roll [.nm 0, .ex (sC (.int 9))])))]) [2] d e = .ok o e' ∧ P (i + 1) (acc ++ o.toList) e' := by
    rintro i d acc e hd ⟨a, b, ls, e1, e2, e3, h1, h2, h3, e4⟩
    obtain ⟨hi, hd⟩ := rngDs_at hd
    obtain ⟨c, a2, b2, hc, ha2, hb2, q1⟩ := e_someT a b ABCH h1 h2 (by decide) (by decide)
    obtain ⟨n, a3, b3, ⟨n0, n1⟩, ha3, hb3, q2⟩ := e_roll a2 b2 9 ha2 hb2 (by decide) (by decide)
    obtain ⟨k, rfl⟩ := Int.eq_ofNat_of_zero_le n0
    have q1 : m__law_some [some (.own [.int a, .int b]), some (.dat (.str "abch"))] = .ok (.dat (cpD c)) [some (.own [.int a2, .int b2]), none] := q1
    subst e1 e4 hd
    have hk : (1 : Int) + (k : Nat) = ((1 + k : Nat) : Int) := by omega
    refine ⟨some (LD (c, 1 + k)), [some (.own [.int a3, .int b3]), some (.dat (.int 14)), none], ?_, a3, b3, ls ++ [(c, 1 + k)], by simp, by simp [e2], fun p hp => ?_, ha3, hb3, by omega, rfl⟩
    · unfold LD
      rw [← hk]
      generalize cpD c = C at *
      simp [q1, q2, backO_own, sYes]
    · rcases List.mem_append.mp hp with z | z
      · exact e3 p z
      · rw [List.mem_singleton.mp z]
        refine ⟨?_, by show 1 ≤ 1 + k; omega, by show 1 + k ≤ 1000000; omega⟩
        revert hc
        have : ∀ c ∈ ABCH, c ∈ L8 := by decide
        exact this c
  have lim : ∀ i acc e, P i acc e → acc.length < LIM := by
    rintro i acc e ⟨a, b, cs, e1, e2, e3, h1, h2, h3, e4⟩
    subst e1
    rw [List.length_map]
    show cs.length < 16777216
    omega
  obtain ⟨out, e', h1, a', b', ls, e2, h2, h3, ha', hb', h4, e3⟩ := sLc_inv P hf ⟨a1, b1, [], rfl, rfl, by simp, ha1, hb1, Nat.zero_le _, by simp⟩ step lim
  subst e2 e3
  rw [rngDs_len] at h2
  refine ⟨ls, a', b', by omega, h3, ha', hb', ?_⟩
  have hz : LsD ls = .tuple (ls.map LD) := rfl
  rw [hz]
  show outF 2 [0] (b__law_letters [some (.own [.int a, .int b]), some (.dat (.int 14)), none]) = _
  unfold b__law_letters
  generalize sLc _ _ _ _ _ = K at *
  have lg : (ls.map LD).length ≤ 16777216 := by rw [LsD_len]; omega
  generalize ls.map LD = F at *
  simp at h1
  simp [h1, outE_fst, List.replicate]
theorem eqv_nilT (ds : List D) : PyData.eqv (.tuple ds) (.tuple []) = ds.isEmpty := by
  cases ds <;> rfl
theorem aEq_tupnil {ds : List D} (h : cmpOks 63 ds = true) : aEq (.tuple ds) (.tuple []) = some (.dat (.bool ds.isEmpty)) := by
  have hs := shaped_of (d := .tuple ds) (by simpa [cmpOk] using h)
  have hn : SeqAt.shaped (.tuple []) = true := shaped_of (by decide)
  rw [aEq_eq]
  simp [qEq, hs, hn, eqv_nilT, bD_some_eq]
theorem row_of {cs : List Nat} (h : ∀ c ∈ cs, c ∈ L8) (hl : cs.length ≤ 400) : isRow (tx cs) = true := by
  rw [isRow_tx, Bool.and_eq_true, List.all_eq_true]
  exact ⟨decide_eq_true (by omega), fun c hc => decide_eq_true (h c hc)⟩
theorem st_ok {cs : List Nat} (h : ∀ c ∈ cs, c ∈ L8) (hl : cs.length ≤ 400) : ∀ p ∈ stL cs, okL p := fun p hp => by
  obtain ⟨i, hi, rfl⟩ := List.mem_map.mp hp
  have hi := List.mem_range.mp hi
  refine ⟨h _ ?_, by show 1 ≤ i + 1; omega, by show i + 1 ≤ 1000000; omega⟩
  show cs.getD i 0 ∈ cs
  rw [List.getD_eq_getElem?_getD, List.getElem?_eq_getElem hi]
  exact List.getElem_mem hi
theorem st_len (cs : List Nat) : (stL cs).length = cs.length := by
  unfold stL
  simp
theorem again_ok {ls : List (Nat × Nat)} {p e : Nat} (h : ∀ q ∈ ls, okL q) : ∀ q ∈ again ls p e, okL q := fun q hq => by
  unfold again at hq
  rcases List.mem_append.mp hq with hq | hq
  · rcases List.mem_append.mp hq with hq | hq
    · exact h q (List.mem_of_mem_take hq)
    · exact h q (List.mem_of_mem_drop (List.mem_of_mem_take hq))
  · exact h q (List.mem_of_mem_drop hq)
theorem again_len {ls : List (Nat × Nat)} {p e : Nat} (hp : p ≤ e) (he : e ≤ ls.length) : (again ls p e).length = ls.length + (e - p) := by
  unfold again
  simp
  omega
theorem fitL (ls : List (Nat × Nat)) (n : Nat) (hl : ls.length ≤ 1000) : fit (n + 3) (LsD ls) = true := by
  have g : ls.length ≤ 16777216 := by omega
  simp [LsD, fit, g, LD, cpD]
/-! ## a turn -/
def Er (a b : Int) (x1 x2 x3 x4 x5 x6 x7 : Option PV) : SEnv := [some (.own [.int a, .int b]), x1, x2, x3, x4, x5, x6, x7]
theorem r1 {a b : Int} {cs : List Nat} {x2 : Option PV} (hl : cs.length ≤ 400) : q_law_right_1 (Er a b (some (.dat (.str (tx cs)))) x2 none none none none none) = .ok .nx (Er a b (some (.dat (.str (tx cs)))) x2 (some (.dat (LsD (stL cs)))) none none none none) := by
  have g : cs.length ≤ 16777216 := by omega
  have en := enDs_signs cs
  rw [← strDs_tx] at en
  have hf : sEnumB [.ex (sVar 1)] (Er a b (some (.dat (.str (tx cs)))) x2 none none none none none) = .ok (enumD cs) (Er a b (some (.dat (.str (tx cs)))) x2 none none none none none) := by
    simp [Er, en]
  have k := sLc_mapA (g := gTp 2 (gsCons (gNm 4) (gsCons (gNm 5) (gsNil)))) (t := sYes) (el := sTup [.ex (sVar 5), .ex (sOp2 aAdd (.nm 4) (.ex (sC (.int 1))))]) (ws := [4, 5]) (fun i : Nat => (.tuple [.int (i : Nat), cpD (cs.getD i 0)] : D)) (List.range cs.length) (fun i : Nat => (.tuple [cpD (cs.getD i 0), .int ((i : Int) + 1)] : D)) hf (fun i hi => by
    generalize cs.getD i 0 = c
    simp [Er, sYes]) (by rw [List.length_range]; exact g)
  have k : sLc (sEnumB [.ex (sVar 1)]) (gTp 2 (gsCons (gNm 4) (gsCons (gNm 5) (gsNil)))) (sYes) (sTup [.ex (sVar 5), .ex (sOp2 aAdd (.nm 4) (.ex (sC (.int 1))))]) [4, 5] (Er a b (some (.dat (.str (tx cs)))) x2 none none none none none) = .ok (.own ((List.range cs.length).map fun i : Nat => (.tuple [cpD (cs.getD i 0), .int ((i : Int) + 1)] : D))) (Er a b (some (.dat (.str (tx cs)))) x2 none none none none none) := k
  rw [LsD_st]
  unfold q_law_right_1
  generalize sLc _ _ _ _ _ = K at *
  generalize (List.range cs.length).map (fun i : Nat => (.tuple [cpD (cs.getD i 0), .int ((i : Int) + 1)] : D)) = F at *
  unfold Er at *
  simp [k]
theorem r2 {a b : Int} {S L K R : D} {x4 x5 x6 x7 : Option PV} (h1 : m_stamped [some (.dat R)] = .ok (.dat S) [none]) (h2 : m_kept [some (.dat S)] = .ok (.dat R) [none]) (h3 : m_kept [some (.dat L)] = .ok (.dat K) [none]) (h4 : m_is_letters [some (.dat L)] = .ok (.dat (.bool true)) [none]) (h5 : m__law_kept [some (.dat L)] = .ok (.dat K) [none])
    (k : m__law_like 40 [some (.dat (.list [S, R, K, .bool true])), some (.dat (.list [S, R, K, .bool true]))] = .ok (.dat (.bool true)) [none, none]) : q_law_right_2 (Er a b (some (.dat R)) (some (.dat L)) (some (.dat S)) x4 x5 x6 x7) = .ok .nx (Er a b (some (.dat R)) (some (.dat L)) (some (.dat S)) x4 x5 x6 x7) := by
  unfold q_law_right_2 Er
  simp [h1, h2, h3, h4, h5, k]
theorem r7 {a b p e l : Int} {R L S W K : D} {x5 : Option PV} (hel : e - p = l) (h1 : m_told_again [some (.dat L), some (.dat (.int p)), some (.dat (.int l))] = .ok (.dat W) [none, none, none]) (h2 : m_kept [some (.dat W)] = .ok (.dat K) [none]) (h3 : m__law_kept [some (.dat L)] = .ok (.dat K) [none]) (k : m__law_like 40 [some (.dat (.list [W, K])), some (.dat (.list [W, K]))] = .ok (.dat (.bool true)) [none, none]) : q_law_right_7 (Er a b (some (.dat R)) (some (.dat L)) (some (.dat S)) (some (.dat (.int p))) x5 (some (.dat (.int e))) (some (.dat W))) = .ok (.rt (.dat (.bool true))) (Er a b (some (.dat R)) (some (.dat L)) (some (.dat S)) (some (.dat (.int p))) x5 (some (.dat (.int e))) (some (.dat W))) := by
  unfold q_law_right_7 Er
  simp [hel, h1, h2, h3, k]
theorem right (a b : Int) (ha : 0 ≤ a) (hb : 0 ≤ b) : ∃ a' b', 0 ≤ a' ∧ 0 ≤ b' ∧ m__law_right [some (.own [.int a, .int b])] = .ok (.dat (.bool true)) [some (.own [.int a', .int b'])] := by
  obtain ⟨U, a1, b1, hl1, hc1, ha1, hb1, q1⟩ := e_row a b 20 ABCH ha hb (by decide) (by decide) (by decide) (by decide)
  obtain ⟨ls, a2, b2, hl2, hok, ha2, hb2, q2⟩ := e_letters a1 b1 ha1 hb1
  have lU : U.length ≤ 20 := hl1
  have cU : ∀ c ∈ U, c ∈ L8 := fun c hc => by
    have : ∀ c ∈ ABCH, c ∈ L8 := by decide
    exact this c (hc1 c hc)
  have rU := row_of cU (by omega)
  have q1 : m__law_row [some (.own [.int a, .int b]), some (.dat (.str "abch")), some (.dat (.int 20))] = .ok (.dat (.str (tx U))) [some (.own [.int a1, .int b1]), none, none] := q1
  have s0 : q_law_right_0 (Er a b none none none none none none none) = .ok .nx (Er a2 b2 (some (.dat (.str (tx U)))) (some (.dat (LsD ls))) none none none none none) := by
    generalize LsD ls = L at *
    simp [q_law_right_0, Er, q1, q2, backO_own, backO_vals, posOf, isSlot]
  have s1 := r1 (a := a2) (b := b2) (cs := U) (x2 := some (.dat (LsD ls))) (by omega)
  have oS := st_ok cU (by omega)
  have k1 := e_stamped (cs := U) (by omega) rU
  have k2 := e_kept oS (by rw [st_len]; omega)
  rw [kp_st] at k2
  have k3 := e_kept hok (by omega)
  have k4 := e_is_letters hok (by omega)
  have k5 := e_law_kept hok (by omega)
  have lk1 := like_refl 40 (.list [LsD (stL U), .str (tx U), .str (tx (kp 0 ls)), .bool true]) (by
    have h := fitL (stL U) 36 (by rw [st_len]; omega)
    show (decide (4 ≤ 16777216) && [LsD (stL U), .str (tx U), .str (tx (kp 0 ls)), .bool true].all (fit 39)) = true
    simp [h, fit])
  have s2 := r2 (a := a2) (b := b2) (x4 := none) (x5 := none) (x6 := none) (x7 := none) k1 k2 k3 k4 k5 lk1
  have q0 : aEq (LsD ls) (.tuple []) = some (.dat (.bool ls.isEmpty)) := by
    have := aEq_tupnil (ds := ls.map LD) (cmpOks_mapM 63 LD _ fun p hp => by
      have h1 := (hok p hp).1
      have h2 : p.1 < 1114112 := by
        revert h1
        have : ∀ c ∈ L8, c < 1114112 := by decide
        exact this _
      simp [LD, cpD, cmpOk, cmpOks, okStr, h2])
    rw [List.isEmpty_map] at this
    exact this
  by_cases hn : ls = []
  · subst hn
    have s3 : q_law_right_3 (Er a2 b2 (some (.dat (.str (tx U)))) (some (.dat (LsD []))) (some (.dat (LsD (stL U)))) none none none none) = .ok (.rt (.dat (.bool true))) (Er a2 b2 (some (.dat (.str (tx U)))) (some (.dat (LsD []))) (some (.dat (LsD (stL U)))) none none none none) := rfl
    refine ⟨a2, b2, ha2, hb2, ?_⟩
    have key : b__law_right (Er a b none none none none none none none) = _ := seq_of s0 (seq_of s1 (seq_of s2 (seq_rt s3)))
    show outF 1 [0] (b__law_right (Er a b none none none none none none none)) = _
    rw [key]
    rfl
  · have hpos : 0 < ls.length := List.length_pos_iff.mpr hn
    have he : ls.isEmpty = false := by
      cases ls with
      | nil => exact absurd rfl hn
      | cons _ _ => rfl
    rw [he] at q0
    have s3 : q_law_right_3 (Er a2 b2 (some (.dat (.str (tx U)))) (some (.dat (LsD ls))) (some (.dat (LsD (stL U)))) none none none none) = .ok .nx (Er a2 b2 (some (.dat (.str (tx U)))) (some (.dat (LsD ls))) (some (.dat (LsD (stL U)))) none none none none) := by
      generalize LsD (stL U) = S at *
      generalize LsD ls = L at *
      simp [q_law_right_3, Er, q0]
    have ln : aLen [LsD ls] = some (.dat (.int (ls.length : Nat))) := by
      rw [show aLen [LsD ls] = some (.dat (.int ((ls.map LD).length : Nat))) from rfl, LsD_len]
    obtain ⟨p, a3, b3, ⟨p0, p1⟩, ha3, hb3, qp⟩ := e_roll a2 b2 ls.length ha2 hb2 (by omega) (by omega)
    obtain ⟨t, a4, b4, ⟨t0, t1⟩, ha4, hb4, qt⟩ := e_roll a3 b3 (ls.length - p) ha3 hb3 (by omega) (by omega)
    obtain ⟨pn, rfl⟩ := Int.eq_ofNat_of_zero_le p0
    obtain ⟨tn, rfl⟩ := Int.eq_ofNat_of_zero_le t0
    have hj : (pn : Int) + 1 + (tn : Int) = ((pn + 1 + tn : Nat) : Int) := by omega
    have s4 : q_law_right_4 (Er a2 b2 (some (.dat (.str (tx U)))) (some (.dat (LsD ls))) (some (.dat (LsD (stL U)))) none none none none) = .ok .nx (Er a3 b3 (some (.dat (.str (tx U)))) (some (.dat (LsD ls))) (some (.dat (LsD (stL U)))) (some (.dat (.int (pn : Int)))) none none none) := by
      generalize LsD (stL U) = S at *
      generalize LsD ls = L at *
      simp [q_law_right_4, Er, ln, qp, backO_own, backO_vals, posOf, isSlot]
    have s5 : q_law_right_5 (Er a3 b3 (some (.dat (.str (tx U)))) (some (.dat (LsD ls))) (some (.dat (LsD (stL U)))) (some (.dat (.int (pn : Int)))) none none none) = .ok .nx (Er a4 b4 (some (.dat (.str (tx U)))) (some (.dat (LsD ls))) (some (.dat (LsD (stL U)))) (some (.dat (.int (pn : Int)))) none (some (.dat (.int ((pn + 1 + tn : Nat) : Int)))) none) := by
      generalize LsD (stL U) = S at *
      generalize LsD ls = L at *
      rw [← hj]
      simp [q_law_right_5, Er, ln, qt, backO_own, backO_vals, posOf, isSlot]
    have c1 : aSl (LsD ls) none (some (((pn + 1 + tn : Nat) : Int))) = some (.dat (.tuple ((ls.map LD).take (pn + 1 + tn)))) := by
      show some (PV.dat (.tuple (cutL (ls.map LD) none (some (((pn + 1 + tn : Nat) : Int)))))) = _
      rw [cutL_to (by omega), Int.toNat_natCast]
    have c2 : aSl (LsD ls) (some ((pn : Nat) : Int)) (some (((pn + 1 + tn : Nat) : Int))) = some (.dat (.tuple (((ls.map LD).drop pn).take (pn + 1 + tn - pn)))) := by
      show some (PV.dat (.tuple (cutL (ls.map LD) (some ((pn : Nat) : Int)) (some (((pn + 1 + tn : Nat) : Int)))))) = _
      rw [cutL_nn (by omega) (by omega), Int.toNat_natCast, Int.toNat_natCast]
    have c3 : aSl (LsD ls) (some (((pn + 1 + tn : Nat) : Int))) none = some (.dat (.tuple ((ls.map LD).drop (pn + 1 + tn)))) := by
      show some (PV.dat (.tuple (cutL (ls.map LD) (some (((pn + 1 + tn : Nat) : Int))) none))) = _
      rw [cutL_from (by omega), Int.toNat_natCast]
    have s6 : q_law_right_6 (Er a4 b4 (some (.dat (.str (tx U)))) (some (.dat (LsD ls))) (some (.dat (LsD (stL U)))) (some (.dat (.int (pn : Int)))) none (some (.dat (.int ((pn + 1 + tn : Nat) : Int)))) none) = .ok .nx (Er a4 b4 (some (.dat (.str (tx U)))) (some (.dat (LsD ls))) (some (.dat (LsD (stL U)))) (some (.dat (.int (pn : Int)))) none (some (.dat (.int ((pn + 1 + tn : Nat) : Int)))) (some (.dat (LsD (again ls pn (pn + 1 + tn)))))) := by
      have ad := again_D ls pn (pn + 1 + tn)
      have lA : ((ls.map LD).take (pn + 1 + tn)).length ≤ 800 := by rw [List.length_take, LsD_len]; omega
      have lB : (((ls.map LD).drop pn).take (pn + 1 + tn - pn)).length ≤ 800 := by rw [List.length_take, List.length_drop, LsD_len]; omega
      have lC : ((ls.map LD).drop (pn + 1 + tn)).length ≤ 800 := by rw [List.length_drop, LsD_len]; omega
      have hz : LsD (again ls pn (pn + 1 + tn)) = .tuple ((again ls pn (pn + 1 + tn)).map LD) := rfl
      rw [hz, ← ad]
      clear hz ad qt qp hj s3 s4 s5 s2 lk1 k1 k2 k3 k4 k5 q2 s0 s1
      generalize (ls.map LD).take (pn + 1 + tn) = A at *
      generalize ((ls.map LD).drop pn).take (pn + 1 + tn - pn) = B at *
      generalize (ls.map LD).drop (pn + 1 + tn) = C at *
      generalize LsD (stL U) = S at *
      generalize LsD ls = L at *
      have g1 : A.length + B.length ≤ 16777216 := by omega
      have g2 : A.length + B.length + C.length ≤ 16777216 := by omega
      generalize ((pn + 1 + tn : Nat) : Int) = j at *
      generalize ((pn : Nat) : Int) = jp at *
      simp [q_law_right_6, Er, c1, c2, c3, aAdd_tup, g1, g2]
    have t1 := e_told (ls := ls) (p := pn) (l := 1 + tn) hok (by omega) (by omega) (by omega)
    rw [show pn + (1 + tn) = pn + 1 + tn by omega] at t1
    have t2 := e_kept (again_ok (p := pn) (e := pn + 1 + tn) hok) (by rw [again_len (by omega) (by omega)]; omega)
    have ka : kp 0 (again ls pn (pn + 1 + tn)) = kp 0 ls := kp_again (by omega) (by omega)
    rw [ka] at t2
    have lk2 := like_refl 40 (.list [LsD (again ls pn (pn + 1 + tn)), .str (tx (kp 0 ls))]) (by
      have h := fitL (again ls pn (pn + 1 + tn)) 36 (by rw [again_len (by omega) (by omega)]; omega)
      show (decide (2 ≤ 16777216) && [LsD (again ls pn (pn + 1 + tn)), .str (tx (kp 0 ls))].all (fit 39)) = true
      simp [h, fit])
    have s7 := r7 (a := a4) (b := b4) (p := (pn : Int)) (e := ((pn + 1 + tn : Nat) : Int)) (l := ((1 + tn : Nat) : Int)) (R := .str (tx U)) (S := LsD (stL U)) (x5 := none) (by omega) t1 t2 k5 lk2
    refine ⟨a4, b4, ha4, hb4, ?_⟩
    have key : b__law_right (Er a b none none none none none none none) = _ := seq_of s0 (seq_of s1 (seq_of s2 (seq_of s3 (seq_of s4 (seq_of s5 (seq_of s6 s7))))))
    show outF 1 [0] (b__law_right (Er a b none none none none none none none)) = _
    rw [key]
    rfl
/-! ## the fixed part -/
def Ef (x0 x1 x2 : Option PV) : SEnv := [x0, x1, x2, none]
def T0 : List D := [LsD [(97, 1), (98, 2), (97, 3)], LsD [], .str "aba", .str "a", .str ""]
def H4 : D := .str (tx (rep 400 [104]))
def A4 : D := .str (tx (rep 400 [97]))
def SA : List (Nat × Nat) := stL (rep 400 [97])
def WA : List (Nat × Nat) := again SA 0 400
def T1 : List D := [.str "ac", H4, .int 400]
def T2 : List D := [LsD [(97, 1), (98, 2), (97, 1), (98, 2)], LsD [(97, 1), (98, 2), (98, 2)], LD (97, 1)]
theorem lenA : (rep 400 [97]).length = 400 := by rw [rep_len]; rfl
theorem lenH : (rep 400 [104]).length = 400 := by rw [rep_len]; rfl
theorem memA : ∀ c ∈ rep 400 [97], c ∈ L8 := fun c hc => by
  have := rep_mem hc
  revert this
  revert c
  decide
theorem memH : ∀ c ∈ rep 400 [104], c ∈ L8 := fun c hc => by
  have := rep_mem hc
  revert this
  revert c
  decide
theorem mulA : aMul (.str "a") (.int 400) = some (.dat A4) := aMul_tx [97] 400 (by decide) (by decide)
theorem mulH : aMul (.str "h") (.int 400) = some (.dat H4) := aMul_tx [104] 400 (by decide) (by decide)
theorem stA : m_stamped [some (.dat A4)] = .ok (.dat (LsD SA)) [none] := e_stamped (by rw [lenA]; decide) (row_of memA (by rw [lenA]; decide))
theorem stH : m_stamped [some (.dat H4)] = .ok (.dat (LsD (stL (rep 400 [104])))) [none] := e_stamped (by rw [lenH]; decide) (row_of memH (by rw [lenH]; decide))
theorem kpH : m_kept [some (.dat (LsD (stL (rep 400 [104]))))] = .ok (.dat H4) [none] := by
  have := e_kept (st_ok memH (by rw [lenH]; decide)) (by rw [st_len, lenH]; decide)
  rw [kp_st] at this
  exact this
theorem SA_len : SA.length = 400 := by
  unfold SA
  rw [st_len, lenA]
theorem SA_ok : ∀ p ∈ SA, okL p := st_ok memA (by rw [lenA]; decide)
theorem tdA : m_told_again [some (.dat (LsD SA)), some (.dat (.int 0)), some (.dat (.int 400))] = .ok (.dat (LsD WA)) [none, none, none] := e_told (p := 0) (l := 400) SA_ok (by decide) (by rw [SA_len]; decide) (by rw [SA_len]; decide)
theorem WA_len : WA.length = 800 := by
  unfold WA
  rw [again_len (by decide) (by rw [SA_len]; decide), SA_len]
theorem WA_ok : ∀ p ∈ WA, okL p := again_ok SA_ok
theorem ixA : aIx (LsD WA) (.int 400) = some (.dat (LD (97, 1))) := by kernel_rfl
theorem lnH : aLen [LsD (stL (rep 400 [104]))] = some (.dat (.int 400)) := by
  rw [show aLen [LsD (stL (rep 400 [104]))] = some (.dat (.int (((stL (rep 400 [104])).map LD).length : Nat))) from rfl, LsD_len, st_len, lenH]
  rfl
theorem g01 : sSeq q_law_fixed_right_0 q_law_fixed_right_1 (Ef none none none) = .ok .nx (Ef (some (.own T0)) (some (.own T0)) none) := by kernel_rfl
theorem kAC : m_kept [some (.dat (LsD [(97, 2), (98, 2), (99, 1000000), (100, 999999)]))] = .ok (.dat (.str "ac")) [none] := by kernel_rfl
theorem g2 {T : List D} {H S : D} {x1 : Option PV} (hT : T.length ≤ 1000) (hm : aMul (.str "h") (.int 400) = some (.dat H)) (h1 : m_stamped [some (.dat H)] = .ok (.dat S) [none]) (h2 : m_kept [some (.dat S)] = .ok (.dat H) [none]) (h3 : aLen [S] = some (.dat (.int 400))) : q_law_fixed_right_2 (Ef (some (.own T)) x1 none) = .ok .nx (Ef (some (.own (T ++ [.str "ac", H, .int 400]))) x1 none) := by
  have k := kAC
  have e : LsD [(97, 2), (98, 2), (99, 1000000), (100, 999999)] = .tuple [.tuple [.str "a", .int 2], .tuple [.str "b", .int 2], .tuple [.str "c", .int 1000000], .tuple [.str "d", .int 999999]] := rfl
  rw [e] at k
  have g : T.length + 3 ≤ 16777216 := by omega
  unfold q_law_fixed_right_2 Ef
  simp [k, hm, h1, h2, h3, g]
theorem g3 {T : List D} {H : D} {x0 : Option PV} (hT : T.length ≤ 1000) (hm : aMul (.str "h") (.int 400) = some (.dat H)) : q_law_fixed_right_3 (Ef x0 (some (.own T)) none) = .ok .nx (Ef x0 (some (.own (T ++ [.str "ac", H, .int 400]))) none) := by
  have g : T.length + 3 ≤ 16777216 := by omega
  unfold q_law_fixed_right_3 Ef
  simp [hm, g]
theorem sAB : m_stamped [some (.dat (.str "ab"))] = .ok (.dat (LsD [(97, 1), (98, 2)])) [none] := by kernel_rfl
theorem tAB1 : m_told_again [some (.dat (LsD [(97, 1), (98, 2)])), some (.dat (.int 0)), some (.dat (.int 2))] = .ok (.dat (LsD [(97, 1), (98, 2), (97, 1), (98, 2)])) [none, none, none] := by kernel_rfl
theorem tAB2 : m_told_again [some (.dat (LsD [(97, 1), (98, 2)])), some (.dat (.int 1)), some (.dat (.int 1))] = .ok (.dat (LsD [(97, 1), (98, 2), (98, 2)])) [none, none, none] := by kernel_rfl
theorem g4 {T : List D} {A S W AB X Y Z : D} {x1 : Option PV} (hT : T.length ≤ 1000) (hm : aMul (.str "a") (.int 400) = some (.dat A)) (h1 : m_stamped [some (.dat A)] = .ok (.dat S) [none]) (h2 : m_told_again [some (.dat S), some (.dat (.int 0)), some (.dat (.int 400))] = .ok (.dat W) [none, none, none]) (h3 : aIx W (.int 400) = some (.dat Z))
    (h4 : m_stamped [some (.dat (.str "ab"))] = .ok (.dat AB) [none]) (h5 : m_told_again [some (.dat AB), some (.dat (.int 0)), some (.dat (.int 2))] = .ok (.dat X) [none, none, none]) (h6 : m_told_again [some (.dat AB), some (.dat (.int 1)), some (.dat (.int 1))] = .ok (.dat Y) [none, none, none]) :
    q_law_fixed_right_4 (Ef (some (.own T)) x1 none) = .ok .nx (Ef (some (.own (T ++ [X, Y, Z]))) x1 none) := by
  have g : T.length + 3 ≤ 16777216 := by omega
  unfold q_law_fixed_right_4 Ef
  simp [hm, h1, h2, h3, h4, h5, h6, g]
theorem g5 {T : List D} {x0 : Option PV} (hT : T.length ≤ 1000) : q_law_fixed_right_5 (Ef x0 (some (.own T)) none) = .ok .nx (Ef x0 (some (.own (T ++ T2))) none) := by
  have g : T.length + 3 ≤ 16777216 := by omega
  have e : T2 = [.tuple [.tuple [.str "a", .int 1], .tuple [.str "b", .int 2], .tuple [.str "a", .int 1], .tuple [.str "b", .int 2]], .tuple [.tuple [.str "a", .int 1], .tuple [.str "b", .int 2], .tuple [.str "b", .int 2]], .tuple [.str "a", .int 1]] := rfl
  rw [e]
  unfold q_law_fixed_right_5 Ef
  simp [g]
theorem g6 {T : List D} (k : m__law_like 40 [some (.dat (.list T)), some (.dat (.list T))] = .ok (.dat (.bool true)) [none, none]) : q_law_fixed_right_6 (Ef (some (.own T)) (some (.own T)) none) = .ok .nx (Ef (some (.dat (.list T))) (some (.dat (.list T))) none) := by
  unfold q_law_fixed_right_6 Ef
  generalize m__law_like 40 = M at *
  simp [k]
def V8 : D := LsD (List.replicate 800 (97, 1))
def V9 : D := LsD (List.replicate 801 (97, 1))
def VB1 : List (D × Bool) := [(.tuple [], true), (LsD [(97, 1)], true), (LsD [(104, 1000000)], true), (LsD [(97, 0)], false), (LsD [(97, 1000001)], false), (LsD [(105, 1)], false), (.tuple [.tuple [.str "a", .bool true]], false), (.tuple [.tuple [.str "a"]], false), (.tuple [.tuple [.str "a", .int 1, .int 1]], false)]
def VB2 (v8 v9 : D) : List (D × Bool) := [(.list [.tuple [.str "a", .int 1]], false), (.tuple [.list [.str "a", .int 1]], false), (.tuple [.tuple [.str "ab", .int 1]], false), (.tuple [.tuple [.str "", .int 1]], false), (.none, false), (v8, true), (v9, false), (.tuple [.tuple [.int 1, .str "a"]], false), (.str "a", false)]
theorem vb1 : ∀ p ∈ VB1, m_is_letters [some (.dat p.1)] = .ok (.dat (.bool p.2)) [none] := by
  refine List.forall_mem_cons.mpr ⟨by kernel_rfl, List.forall_mem_cons.mpr ⟨by kernel_rfl, List.forall_mem_cons.mpr ⟨by kernel_rfl, List.forall_mem_cons.mpr ⟨by kernel_rfl, List.forall_mem_cons.mpr ⟨by kernel_rfl, List.forall_mem_cons.mpr ⟨by kernel_rfl, List.forall_mem_cons.mpr ⟨by kernel_rfl, List.forall_mem_cons.mpr ⟨by kernel_rfl, List.forall_mem_cons.mpr ⟨by kernel_rfl, fun p h => nomatch h⟩⟩⟩⟩⟩⟩⟩⟩⟩
theorem vb2 {v8 v9 : D} (h8 : m_is_letters [some (.dat v8)] = .ok (.dat (.bool true)) [none]) (h9 : m_is_letters [some (.dat v9)] = .ok (.dat (.bool false)) [none]) : ∀ p ∈ VB2 v8 v9, m_is_letters [some (.dat p.1)] = .ok (.dat (.bool p.2)) [none] := by
  refine List.forall_mem_cons.mpr ⟨by kernel_rfl, List.forall_mem_cons.mpr ⟨by kernel_rfl, List.forall_mem_cons.mpr ⟨by kernel_rfl, List.forall_mem_cons.mpr ⟨by kernel_rfl, List.forall_mem_cons.mpr ⟨by kernel_rfl, List.forall_mem_cons.mpr ⟨h8, List.forall_mem_cons.mpr ⟨h9, List.forall_mem_cons.mpr ⟨by kernel_rfl, List.forall_mem_cons.mpr ⟨by kernel_rfl, fun p h => nomatch h⟩⟩⟩⟩⟩⟩⟩⟩⟩
theorem mul8 : aMul (.tuple [.tuple [.str "a", .int 1]]) (.int 800) = some (.dat V8) := by kernel_rfl
theorem mul9 : aMul (.tuple [.tuple [.str "a", .int 1]]) (.int 801) = some (.dat V9) := by kernel_rfl
theorem v8_ok : m_is_letters [some (.dat V8)] = .ok (.dat (.bool true)) [none] := e_is_letters (fun p hp => by
  rw [(List.mem_replicate.mp hp).2]
  exact ⟨by decide, by decide, by decide⟩) (by rw [List.length_replicate]; decide)
theorem v9_no : m_is_letters [some (.dat V9)] = .ok (.dat (.bool false)) [none] := by
  have t := e_tup ((List.replicate 801 (97, 1)).map LD) 0 800 (by rw [LsD_len, List.length_replicate]; decide)
  rw [LsD_len, List.length_replicate] at t
  have t : m_is_tuple_of [some (.dat V9), some (.dat (.int 0)), some (.dat (.int 800))] = .ok (.dat (.bool false)) [none, none, none] := t
  generalize V9 = V at *
  simp [m_is_letters, b_is_letters, t]
theorem g7 {x0 x1 : Option PV} : q_law_fixed_right_7 (Ef x0 x1 none) = .ok .nx (Ef x0 x1 (some (.own (VB1.map (·.1))))) := by
  have e : VB1.map (·.1) = [.tuple [], .tuple [.tuple [.str "a", .int 1]], .tuple [.tuple [.str "h", .int 1000000]], .tuple [.tuple [.str "a", .int 0]], .tuple [.tuple [.str "a", .int 1000001]], .tuple [.tuple [.str "i", .int 1]], .tuple [.tuple [.str "a", .bool true]], .tuple [.tuple [.str "a"]], .tuple [.tuple [.str "a", .int 1, .int 1]]] := rfl
  rw [e]
  unfold q_law_fixed_right_7 Ef
  simp
theorem g8 {x0 x1 : Option PV} {v8 v9 : D} {T : List D} (hT : T.length ≤ 1000) (h8 : aMul (.tuple [.tuple [.str "a", .int 1]]) (.int 800) = some (.dat v8)) (h9 : aMul (.tuple [.tuple [.str "a", .int 1]]) (.int 801) = some (.dat v9)) : q_law_fixed_right_8 (Ef x0 x1 (some (.own T))) = .ok .nx (Ef x0 x1 (some (.own (T ++ (VB2 v8 v9).map (·.1))))) := by
  have e : (VB2 v8 v9).map (·.1) = [.list [.tuple [.str "a", .int 1]], .tuple [.list [.str "a", .int 1]], .tuple [.tuple [.str "ab", .int 1]], .tuple [.tuple [.str "", .int 1]], .none, v8, v9, .tuple [.tuple [.int 1, .str "a"]], .str "a"] := rfl
  have g : T.length + 9 ≤ 16777216 := by omega
  rw [e]
  unfold q_law_fixed_right_8 Ef
  simp [g, h8, h9]
def VD : List D := [.bool true, .bool true, .bool true, .bool false, .bool false, .bool false, .bool false, .bool false, .bool false, .bool false, .bool false, .bool false, .bool false, .bool false, .bool true, .bool false, .bool false, .bool false]
theorem g9 {x0 x2 : Option PV} {x1 : PV} : q_law_fixed_right_9 (Ef x0 (some x1) x2) = .ok .nx (Ef x0 (some (.own VD)) x2) := by rfl
theorem g10 {x0 : Option PV} {VB : List (D × Bool)} (hl : VB.length ≤ 1000) (h : ∀ p ∈ VB, m_is_letters [some (.dat p.1)] = .ok (.dat (.bool p.2)) [none]) (hd : VB.map (fun p => PyData.bool p.2) = VD) (k : m__law_like 40 [some (.dat (.list VD)), some (.dat (.list VD))] = .ok (.dat (.bool true)) [none, none]) : ∃ e, q_law_fixed_right_10 (Ef x0 (some (.own VD)) (some (.own (VB.map (·.1))))) = .ok (.rt (.dat (.bool true))) e := by
  have lc := sLc_mapA (f := sRow (sFrz (sVar 2))) (g := gNm 3) (t := sYes) (el := sCall 1 m_is_letters [.ex (sVar 3)]) (ws := [3]) (e := Ef x0 (some (.own VD)) (some (.own (VB.map (·.1))))) (e1 := Ef x0 (some (.own VD)) (some (.dat (.list (VB.map (·.1)))))) (·.1) VB (fun p => PyData.bool p.2) (by
    generalize VB.map (·.1) = W
    rfl) (fun p hp => by
    have e := h p hp
    generalize VB.map (·.1) = W
    unfold Ef
    simp [sYes, e]) (by show _ ≤ 16777216; omega)
  rw [hd] at lc
  have lc : sLc (sRow (sFrz (sVar 2))) (gNm 3) (sYes) (sCall 1 m_is_letters [.ex (sVar 3)]) [3] (Ef x0 (some (.own VD)) (some (.own (VB.map (·.1))))) = .ok (.own VD) (Ef x0 (some (.own VD)) (some (.dat (.list (VB.map (·.1)))))) := lc
  generalize VB.map (·.1) = W at *
  refine ⟨Ef x0 (some (.dat (.list VD))) (some (.dat (.list W))), ?_⟩
  unfold q_law_fixed_right_10
  generalize sLc _ _ _ _ _ = K at *
  generalize VD = V at *
  generalize m__law_like 40 = M at *
  unfold Ef at *
  simp [lc, k]
theorem fixed : m__law_fixed_right [] = .ok (.dat (.bool true)) [] := by
  have lkT := like_refl 40 (.list (T0 ++ [.str "ac", H4, .int 400] ++ T2)) (by kernel_rfl)
  have lkV := like_refl 40 (.list VD) (by kernel_rfl)
  have hV : ∀ p ∈ VB1 ++ VB2 V8 V9, m_is_letters [some (.dat p.1)] = .ok (.dat (.bool p.2)) [none] := fun p hp => (List.mem_append.mp hp).elim (vb1 p) (vb2 v8_ok v9_no p)
  obtain ⟨e, h10⟩ := g10 (x0 := some (.dat (.list (T0 ++ [.str "ac", H4, .int 400] ++ T2)))) (VB := VB1 ++ VB2 V8 V9) (by decide) hV rfl lkV
  rw [List.map_append] at h10
  have key : b__law_fixed_right [none, none, none, none] = .ok (.rt (.dat (.bool true))) e := by
    unfold b__law_fixed_right
    rw [seq_split]
    exact seq_of g01 (seq_of (g2 (by decide) mulH stH kpH lnH) (seq_of (g3 (by decide) mulH) (seq_of (g4 (by decide) mulA stA tdA ixA sAB tAB1 tAB2) (seq_of (g5 (by decide)) (seq_of (g6 lkT) (seq_of g7 (seq_of (g8 (by decide) mul8 mul9) (seq_of g9 h10))))))))
  show outF 0 [] (b__law_fixed_right [none, none, none, none]) = _
  rw [key]
  rfl
/-! ## the errors -/
def W20 : List D := [.str "row", .str "row", .str "row", .str "row", .str "many400", .str "row", .str "row", .str "row", .str "row", .str "row", .str "number", .str "number", .str "number", .str "number", .str "number", .str "number", .str "number", .str "number", .str "number", .str "number"]
def PR : D := .list [.tuple [.int (-1), .int 1], .tuple [.int 0, .int 0], .tuple [.int 0, .int 3], .tuple [.int 2, .int 1], .tuple [.bool true, .int 1], .tuple [.int 0, .bool true], .tuple [.none, .int 1], .tuple [.int 0, .none], .tuple [.int 1, .int 2], .tuple [.int 3, .int 1]]
def Ex (x0 : Option PV) : SEnv := [x0, none, some (.dat PR), none, none]
theorem x04 : sSeq (sSeq (sSeq (sSeq q_law_errors_right_0 q_law_errors_right_1) q_law_errors_right_2) q_law_errors_right_3) q_law_errors_right_4 [none, none, none, none, none] = .ok .nx (Ex (some (.own W20))) := by
  kernel_rfl
theorem lam_many {lam : SE} {e e2 : SEnv} (h : lam (datE e) = .exc ⟨"TooMany", some ("limit", .int 800)⟩ e2) : sLam [] h__law_error 4 lam e = .ok (.dat (.str "many800")) e := by
  unfold sLam
  have z : frzE [] e = e := rfl
  rw [z, h]
  rfl
theorem td_many {ls : List (Nat × Nat)} (h : ∀ q ∈ ls, okL q) (hl : ls.length = 800) : ∃ e, m_told_again [some (.dat (LsD ls)), some (.dat (.int 0)), some (.dat (.int 1))] = .exc ⟨"TooMany", some ("limit", .int 800)⟩ e := by
  have e1 := e_need_letters h (by omega)
  have w1 := e_is_whole (.int 0) 0 ls.length
  have w2 := e_is_whole (.int 1) 1 ((ls.length : Int) - 0)
  have b1 : isWhole (.int 0) 0 ls.length = true := by simp [isWhole]
  have b2 : isWhole (.int 1) 1 ((ls.length : Int) - 0) = true := by simp [isWhole]; omega
  rw [b1] at w1
  rw [b2] at w2
  have ln : aLen [LsD ls] = some (.dat (.int (ls.length : Nat))) := by
    rw [show aLen [LsD ls] = some (.dat (.int ((ls.map LD).length : Nat))) from rfl, LsD_len]
  have g8 : (800 : Int) < (ls.length : Int) + 1 := by omega
  have hz : (ls.length : Int) - 0 = ls.length := by omega
  rw [hz] at w2
  have key : b_told_again [some (.dat (LsD ls)), some (.dat (.int 0)), some (.dat (.int 1)), none] = .exc ⟨"TooMany", some ("limit", .int 800)⟩ [some (.dat (LsD ls)), some (.dat (.int 0)), some (.dat (.int 1)), none] := by
    generalize LsD ls = Z at *
    generalize ((ls.length : Nat) : Int) = jn at *
    simp [b_told_again, e1, w1, w2, ln, g8]
  exact ⟨_, congrArg (outF 3 []) key⟩
theorem call3 {m f g h : SE} {e e1 e2 e3 r : SEnv} {d1 d2 d3 : D} {v : PV} (hf : f e = .ok (.dat d1) e1) (hg : g e1 = .ok (.dat d2) e2) (hh : h e2 = .ok (.dat d3) e3) (hm : m [some (.dat d1), some (.dat d2), some (.dat d3)] = .ok v r) : sCall 3 m [.ex f, .ex g, .ex h] e = .ok v e3 := by
  simp [hf, hg, hh, hm]
theorem call3x {m f g h : SE} {e e1 e2 e3 r : SEnv} {d1 d2 d3 : D} {x : Exn} (hf : f e = .ok (.dat d1) e1) (hg : g e1 = .ok (.dat d2) e2) (hh : h e2 = .ok (.dat d3) e3) (hm : m [some (.dat d1), some (.dat d2), some (.dat d3)] = .exc x r) : sCall 3 m [.ex f, .ex g, .ex h] e = .exc x e3 := by
  simp [hf, hg, hh, hm]
theorem frz_x {f : SE} {e e1 : SEnv} {x : Exn} (h : f e = .exc x e1) : sFrz f e = .exc x e1 := by
  simp [h]
theorem add1 {K : SE} {e : SEnv} {T : List D} {d : D} {i : Nat} (hk : K e = .ok (.dat d) e) (hT : T.length ≤ 1000) (he : e[i]? = some (some (.own T))) : sSet i (sOp2 aAdd (.nm i) (.ex (sLst [.ex (sFrz K)]))) e = .ok .nx (e.set i (some (.own (T ++ [d])))) := by
  have g : T.length + 1 ≤ 16777216 := by omega
  simp [hk, he, g]
theorem x5 {T : List D} {A S W : D} {x : SEnv} (hT : T.length ≤ 1000) (hm : aMul (.str "a") (.int 400) = some (.dat A)) (h1 : m_stamped [some (.dat A)] = .ok (.dat S) [none]) (h2 : m_told_again [some (.dat S), some (.dat (.int 0)), some (.dat (.int 400))] = .ok (.dat W) [none, none, none]) (h3 : m_told_again [some (.dat W), some (.dat (.int 0)), some (.dat (.int 1))] = .exc ⟨"TooMany", some ("limit", .int 800)⟩ x) :
    q_law_errors_right_5 (Ex (some (.own T))) = .ok .nx (Ex (some (.own (T ++ [.str "many800"])))) :=
  add1 (T := T) (lam_many (frz_x (call3x (frz_of (call3 (frz_of (call1 (mulK hm _) h1)) rfl rfl h2)) rfl rfl h3))) hT rfl
theorem x6 : ∃ e, q_law_errors_right_6 (Ex (some (.own (W20 ++ [.str "many800"])))) = .ok (.rt (.dat (.bool true))) e := of_isRt (by kernel_rfl)
theorem errs : m__law_errors_right [] = .ok (.dat (.bool true)) [] := by
  obtain ⟨x, h3⟩ := td_many WA_ok WA_len
  obtain ⟨e, h6⟩ := x6
  have key : b__law_errors_right [none, none, none, none, none] = .ok (.rt (.dat (.bool true))) e := by
    unfold b__law_errors_right
    rw [seq_split, seq_split, seq_split, seq_split]
    exact seq_of x04 (seq_of (x5 (by decide) mulA stA tdA h3) h6)
  show outF 0 [] (b__law_errors_right [none, none, none, none, none]) = _
  rw [key]
  rfl
/-! ## the law -/
theorem lw0 (x0 : Option PV) (h : x0 = some (.scr ns)) : q_law_0 [x0, none, none] = .ok .nx [x0, none, none] := by
  subst h
  have c : sCall 0 m__law_fixed_right [] [some (.scr ns), none, none] = .ok (.dat (.bool true)) [some (.scr ns), none, none] := call0 fixed
  have d : sCall 0 m__law_errors_right [] [some (.scr ns), none, none] = .ok (.dat (.bool true)) [some (.scr ns), none, none] := call0 errs
  exact if_skip ((or_no (nt_true c)).trans (nt_true d))
theorem lw1 {ns : List Int} {a b : Int} (hc : m__law_cup [some (.scr ns)] = .ok (.own [.int a, .int b]) [none]) : q_law_1 [some (.scr ns), none, none] = .ok .nx [some (.scr ns), some (.own [.int a, .int b]), none] := by
  simp [q_law_1, hc]
theorem lw2 {ns : List Int} {a b a' b' : Int} {x : Option PV} (q : m__law_right [some (.own [.int a, .int b])] = .ok (.dat (.bool true)) [some (.own [.int a', .int b'])]) : lb_law_2 [some (.scr ns), some (.own [.int a, .int b]), some (.dat d)] = .ok .nx [some (.scr ns), some (.own [.int a', .int b']), some (.dat d)] := by
  have c : sCall 1 m__law_right [.nm 1] [some (.scr ns), some (.own [.int a, .int b]), some (.dat d)] = .ok (.dat (.bool true)) [some (.scr ns), some (.own [.int a', .int b']), some (.dat d)] := by
    simp [q]
  exact if_skip (nt_true c)
theorem lw3 {ns : List Int} (rt : ∀ a b : Int, 0 ≤ a → 0 ≤ b → ∃ a' b', 0 ≤ a' ∧ 0 ≤ b' ∧ m__law_right [some (.own [.int a, .int b])] = .ok (.dat (.bool true)) [some (.own [.int a', .int b'])]) {a b : Int} (ha : 0 ≤ a) (hb : 0 ≤ b) : ∃ e', q_law_2 [some (.scr ns), some (.own [.int a, .int b]), none] = .ok .nx e' ∧ ∃ (a' b' : Int) (x : Option PV), 0 ≤ a' ∧ 0 ≤ b' ∧ e' = [some (.scr ns), some (.own [.int a', .int b']), x] := by
  refine for_run (fun e => ∃ (a' b' : Int) (x : Option PV), 0 ≤ a' ∧ 0 ≤ b' ∧ e = [some (.scr ns), some (.own [.int a', .int b']), x]) rfl ⟨a, b, none, ha, hb, rfl⟩ fun d hd e he => ?_
  obtain ⟨a, b, x, ha, hb, rfl⟩ := he
  obtain ⟨a', b', ha', hb', q⟩ := rt a b ha hb
  exact ⟨_, [some (.scr ns), some (.own [.int a', .int b']), some (.dat d)], rfl, .inl (lw2 (x := x) q), a', b', _, ha', hb', rfl⟩
theorem lw4 {ns : List Int} {e1 e2 e3 : SEnv} (s0 : q_law_0 [some (.scr ns), none, none] = .ok .nx e1) (s1 : q_law_1 e1 = .ok .nx e2) (s2 : q_law_2 e2 = .ok .nx e3) : b_law [some (.scr ns), none, none] = .ok (.rt (.dat (.bool true))) e3 := seq_of s0 (seq_of s1 (seq_of s2 rfl))
theorem lw5 {ns : List Int} {e : SEnv} (h : b_law [some (.scr ns), none, none] = .ok (.rt (.dat (.bool true))) e) : m_law [some (.scr ns)] = .ok (.dat (.bool true)) (outE 1 [] e) := by
  show outF 1 [] (b_law [some (.scr ns), none, none]) = _
  rw [h]
  rfl
theorem law_of (rt : ∀ a b : Int, 0 ≤ a → 0 ≤ b → ∃ a' b', 0 ≤ a' ∧ 0 ≤ b' ∧ m__law_right [some (.own [.int a, .int b])] = .ok (.dat (.bool true)) [some (.own [.int a', .int b'])]) (ns : List Int) (hl : ns.length ≤ 63) : ∃ e, m_law [some (.scr ns)] = .ok (.dat (.bool true)) e := by
  obtain ⟨a, b, ha, hb, hc⟩ := e_cup ns hl
  obtain ⟨e', s2, _⟩ := lw3 (ns := ns) rt ha hb
  exact ⟨_, lw5 (lw4 (lw0 _ rfl) (lw1 hc) s2)⟩
theorem law_true (ns : List Int) (hl : ns.length ≤ 63) : ∃ e, m_law [some (.scr ns)] = .ok (.dat (.bool true)) e := law_of right ns hl
end Pk83
namespace Pk83
open PySem PySem.Spec PyProof.Rows L2 LamX SM
theorem law_at {w : World} {K : PySem.W.Frag} {h : Heap} {mg : Str → Option Value} {f0 : Addr} (KX : K.In h) (G : h.Ns mainGlobals mg) (c : He.SaysX fa fn [] tf ex w h K) (hmg : mg ("law" : Str) = some (.ref f0)) : LawAtS PySem.Challenge.rw_stretchtwice_k83_whole_stamps w K (L2N.CX PySem.Challenge.rw_stretchtwice_k83_whole_stamps.prog w) 44 63 "script" mg f0 h := by
  have cd := c.t.d
  have A : Fs R.prog K mg := facts KX G cd c.more
  obtain ⟨fd_is_whole, F_is_whole⟩ := cd.def_ 0 (d := d_is_whole) rfl
  obtain ⟨fd_is_tuple_of, F_is_tuple_of⟩ := cd.def_ 1 (d := d_is_tuple_of) rfl
  obtain ⟨fd_is_row, F_is_row⟩ := cd.def_ 2 (d := d_is_row) rfl
  obtain ⟨fd_need_row, F_need_row⟩ := cd.def_ 3 (d := d_need_row) rfl
  obtain ⟨fd_is_letter, F_is_letter⟩ := cd.def_ 4 (d := d_is_letter) rfl
  obtain ⟨fd_is_letters, F_is_letters⟩ := cd.def_ 5 (d := d_is_letters) rfl
  obtain ⟨fd_need_letters, F_need_letters⟩ := cd.def_ 6 (d := d_need_letters) rfl
  obtain ⟨fd_kept_in, F_kept_in⟩ := cd.def_ 7 (d := d_kept_in) rfl
  obtain ⟨fd_stamped, F_stamped⟩ := cd.def_ 8 (d := d_stamped) rfl
  obtain ⟨fd_kept, F_kept⟩ := cd.def_ 9 (d := d_kept) rfl
  obtain ⟨fd_told_again, F_told_again⟩ := cd.def_ 10 (d := d_told_again) rfl
  obtain ⟨fd__law_cup, F__law_cup⟩ := cd.def_ 11 (d := d__law_cup) rfl
  obtain ⟨fd__law_roll, F__law_roll⟩ := cd.def_ 12 (d := d__law_roll) rfl
  obtain ⟨fd__law_some, F__law_some⟩ := cd.def_ 13 (d := d__law_some) rfl
  obtain ⟨fd__law_kind, F__law_kind⟩ := cd.def_ 14 (d := d__law_kind) rfl
  obtain ⟨fd__law_like, F__law_like⟩ := cd.def_ 15 (d := d__law_like) rfl
  obtain ⟨fd__law_row, F__law_row⟩ := cd.def_ 16 (d := d__law_row) rfl
  obtain ⟨fd__law_letters, F__law_letters⟩ := cd.def_ 17 (d := d__law_letters) rfl
  obtain ⟨fd__law_error, F__law_error⟩ := cd.def_ 18 (d := d__law_error) rfl
  obtain ⟨fd__law_kept, F__law_kept⟩ := cd.def_ 19 (d := d__law_kept) rfl
  obtain ⟨fd__law_fixed_right, F__law_fixed_right⟩ := cd.def_ 20 (d := d__law_fixed_right) rfl
  obtain ⟨fd__law_errors_right, F__law_errors_right⟩ := cd.def_ 21 (d := d__law_errors_right) rfl
  obtain ⟨fd__law_right, F__law_right⟩ := cd.def_ 22 (d := d__law_right) rfl
  obtain ⟨fd_law, F_law⟩ := cd.def_ 23 (d := d_law) rfl
  have g_is_whole : mg "is_whole" = some (.ref (He.ga K "is_whole")) := He.glo_ok KX G (cd.fact 33 (f := .glo "is_whole") rfl)
  have g_is_tuple_of : mg "is_tuple_of" = some (.ref (He.ga K "is_tuple_of")) := He.glo_ok KX G (cd.fact 34 (f := .glo "is_tuple_of") rfl)
  have g_is_row : mg "is_row" = some (.ref (He.ga K "is_row")) := He.glo_ok KX G (cd.fact 35 (f := .glo "is_row") rfl)
  have g_need_row : mg "need_row" = some (.ref (He.ga K "need_row")) := He.glo_ok KX G (cd.fact 36 (f := .glo "need_row") rfl)
  have g_is_letter : mg "is_letter" = some (.ref (He.ga K "is_letter")) := He.glo_ok KX G (cd.fact 37 (f := .glo "is_letter") rfl)
  have g_is_letters : mg "is_letters" = some (.ref (He.ga K "is_letters")) := He.glo_ok KX G (cd.fact 38 (f := .glo "is_letters") rfl)
  have g_need_letters : mg "need_letters" = some (.ref (He.ga K "need_letters")) := He.glo_ok KX G (cd.fact 39 (f := .glo "need_letters") rfl)
  have g_kept_in : mg "kept_in" = some (.ref (He.ga K "kept_in")) := He.glo_ok KX G (cd.fact 40 (f := .glo "kept_in") rfl)
  have g_stamped : mg "stamped" = some (.ref (He.ga K "stamped")) := He.glo_ok KX G (cd.fact 41 (f := .glo "stamped") rfl)
  have g_kept : mg "kept" = some (.ref (He.ga K "kept")) := He.glo_ok KX G (cd.fact 42 (f := .glo "kept") rfl)
  have g_told_again : mg "told_again" = some (.ref (He.ga K "told_again")) := He.glo_ok KX G (cd.fact 43 (f := .glo "told_again") rfl)
  have g__law_cup : mg "_law_cup" = some (.ref (He.ga K "_law_cup")) := He.glo_ok KX G (cd.fact 44 (f := .glo "_law_cup") rfl)
  have g__law_roll : mg "_law_roll" = some (.ref (He.ga K "_law_roll")) := He.glo_ok KX G (cd.fact 45 (f := .glo "_law_roll") rfl)
  have g__law_some : mg "_law_some" = some (.ref (He.ga K "_law_some")) := He.glo_ok KX G (cd.fact 46 (f := .glo "_law_some") rfl)
  have g__law_kind : mg "_law_kind" = some (.ref (He.ga K "_law_kind")) := He.glo_ok KX G (cd.fact 47 (f := .glo "_law_kind") rfl)
  have g__law_like : mg "_law_like" = some (.ref (He.ga K "_law_like")) := He.glo_ok KX G (cd.fact 48 (f := .glo "_law_like") rfl)
  have g__law_row : mg "_law_row" = some (.ref (He.ga K "_law_row")) := He.glo_ok KX G (cd.fact 49 (f := .glo "_law_row") rfl)
  have g__law_letters : mg "_law_letters" = some (.ref (He.ga K "_law_letters")) := He.glo_ok KX G (cd.fact 50 (f := .glo "_law_letters") rfl)
  have g__law_error : mg "_law_error" = some (.ref (He.ga K "_law_error")) := He.glo_ok KX G (cd.fact 51 (f := .glo "_law_error") rfl)
  have g__law_kept : mg "_law_kept" = some (.ref (He.ga K "_law_kept")) := He.glo_ok KX G (cd.fact 52 (f := .glo "_law_kept") rfl)
  have g__law_fixed_right : mg "_law_fixed_right" = some (.ref (He.ga K "_law_fixed_right")) := He.glo_ok KX G (cd.fact 53 (f := .glo "_law_fixed_right") rfl)
  have g__law_errors_right : mg "_law_errors_right" = some (.ref (He.ga K "_law_errors_right")) := He.glo_ok KX G (cd.fact 54 (f := .glo "_law_errors_right") rfl)
  have g__law_right : mg "_law_right" = some (.ref (He.ga K "_law_right")) := He.glo_ok KX G (cd.fact 55 (f := .glo "_law_right") rfl)
  have g_law : mg "law" = some (.ref (He.ga K "law")) := He.glo_ok KX G (cd.fact 56 (f := .glo "law") rfl)
  have e := hmg.symm.trans g_law
  cases e
  have b := FunD.bindsA (ps := ["script"]) F_law fun _ _ _ _ _ _ us hl => match us, hl with | [_], _ => rfl
  refine ⟨fd_law, tf.map (He.cT K), spF (g0 K mg (T K)) 1 m_law, fun p hp => ?_, fun p hp => ?_, fun p hp => ?_, fun s v => b s [v] rfl, fun H a ns hlen hbits hH hS => law_sp (fun p hp => ?_) hS (law_true ns hlen), fun base hK hN hTB => ?_⟩
  · obtain ⟨d, hd, rfl⟩ := List.mem_map.mp hp
    exact c.empty d hd
  · obtain ⟨d, hd, rfl⟩ := List.mem_map.mp hp
    exact c.out d hd
  · obtain ⟨d, hd, rfl⟩ := List.mem_map.mp hp
    exact PySem.W.codeHd_of_K KX (c.hd d hd)
  · have key : ∀ q ∈ tf, H (He.cT K q).2 = some (.tbl #[]) := fun q hq => hH (He.cT K q) (List.mem_map.mpr ⟨q, hq, rfl⟩)
    exact (all_cons (p := fun p : Addr × Str => H p.1 = some (.tbl #[])) (key ("_law_errors_right", none) (by decide)) (all_nil) : ∀ p ∈ tabs K, H p.1 = some (.tbl #[])) p hp
  · have hd : ∀ q ∈ tf, TabB base mg (He.cT K q).1 (He.cT K q).2 := fun q hq => hTB (He.cT K q) (List.mem_map.mpr ⟨q, hq, rfl⟩)
    have tb__law_errors_right : Maker K mg base (tabs K) "_law_errors_right" := ⟨hd ("_law_errors_right", none) (by decide), List.mem_cons_self, all_cons (fun _ => rfl) (all_nil)⟩
    have c_is_whole := c_is_whole (P := PySem.Challenge.rw_stretchtwice_k83_whole_stamps.prog) (w := w) (base := base) A F_is_whole g_is_whole
    have c_is_tuple_of := c_is_tuple_of (P := PySem.Challenge.rw_stretchtwice_k83_whole_stamps.prog) (w := w) (base := base) A F_is_tuple_of g_is_tuple_of
    have c_is_row := c_is_row (P := PySem.Challenge.rw_stretchtwice_k83_whole_stamps.prog) (w := w) (base := base) A F_is_row g_is_row
    have c_need_row := c_need_row (P := PySem.Challenge.rw_stretchtwice_k83_whole_stamps.prog) (w := w) (base := base) A F_need_row g_need_row c_is_row
    have c_is_letter := c_is_letter (P := PySem.Challenge.rw_stretchtwice_k83_whole_stamps.prog) (w := w) (base := base) A F_is_letter g_is_letter c_is_tuple_of c_is_whole
    have c_is_letters := c_is_letters (P := PySem.Challenge.rw_stretchtwice_k83_whole_stamps.prog) (w := w) (base := base) A F_is_letters g_is_letters c_is_letter c_is_tuple_of
    have c_need_letters := c_need_letters (P := PySem.Challenge.rw_stretchtwice_k83_whole_stamps.prog) (w := w) (base := base) A F_need_letters g_need_letters c_is_letters
    have c_kept_in := c_kept_in (P := PySem.Challenge.rw_stretchtwice_k83_whole_stamps.prog) (w := w) (base := base) A F_kept_in g_kept_in
    have c_stamped := c_stamped (P := PySem.Challenge.rw_stretchtwice_k83_whole_stamps.prog) (w := w) (base := base) A F_stamped g_stamped c_need_row
    have c_kept := c_kept (P := PySem.Challenge.rw_stretchtwice_k83_whole_stamps.prog) (w := w) (base := base) A F_kept g_kept c_kept_in c_need_letters
    have c_told_again := c_told_again (P := PySem.Challenge.rw_stretchtwice_k83_whole_stamps.prog) (w := w) (base := base) A F_told_again g_told_again c_is_whole c_need_letters
    have c__law_cup := c__law_cup (P := PySem.Challenge.rw_stretchtwice_k83_whole_stamps.prog) (w := w) (base := base) A F__law_cup g__law_cup
    have c__law_roll := c__law_roll (P := PySem.Challenge.rw_stretchtwice_k83_whole_stamps.prog) (w := w) (base := base) A F__law_roll g__law_roll
    have c__law_some := c__law_some (P := PySem.Challenge.rw_stretchtwice_k83_whole_stamps.prog) (w := w) (base := base) A F__law_some g__law_some c__law_roll
    have c__law_kind := c__law_kind (P := PySem.Challenge.rw_stretchtwice_k83_whole_stamps.prog) (w := w) (base := base) A F__law_kind g__law_kind
    have c__law_like := c__law_like (P := PySem.Challenge.rw_stretchtwice_k83_whole_stamps.prog) (w := w) (base := base) A F__law_like g__law_like c__law_kind
    have c__law_row := c__law_row (P := PySem.Challenge.rw_stretchtwice_k83_whole_stamps.prog) (w := w) (base := base) A F__law_row g__law_row c__law_roll c__law_some
    have c__law_letters := c__law_letters (P := PySem.Challenge.rw_stretchtwice_k83_whole_stamps.prog) (w := w) (base := base) A F__law_letters g__law_letters c__law_roll c__law_some
    have c__law_error := c__law_error (P := PySem.Challenge.rw_stretchtwice_k83_whole_stamps.prog) (w := w) (base := base) A F__law_error g__law_error
    have c__law_kept := c__law_kept (P := PySem.Challenge.rw_stretchtwice_k83_whole_stamps.prog) (w := w) (base := base) A F__law_kept g__law_kept
    have c__law_fixed_right := c__law_fixed_right (P := PySem.Challenge.rw_stretchtwice_k83_whole_stamps.prog) (w := w) (base := base) A F__law_fixed_right g__law_fixed_right c__law_like c_is_letters c_kept c_stamped c_told_again
    have c__law_errors_right := c__law_errors_right (P := PySem.Challenge.rw_stretchtwice_k83_whole_stamps.prog) (w := w) (base := base) A F__law_errors_right g__law_errors_right c__law_error c_kept c_stamped c_told_again tb__law_errors_right
    have c__law_right := c__law_right (P := PySem.Challenge.rw_stretchtwice_k83_whole_stamps.prog) (w := w) (base := base) A F__law_right g__law_right c__law_kept c__law_letters c__law_like c__law_roll c__law_row c_is_letters c_kept c_stamped c_told_again
    have c_law := c_law (P := PySem.Challenge.rw_stretchtwice_k83_whole_stamps.prog) (w := w) (base := base) A F_law g_law c__law_cup c__law_errors_right c__law_fixed_right c__law_right
    exact c_law
end Pk83
open PySem PySem.W PySem.Calls PyProof.Rows in
theorem PySem.Challenge.cw_stretchtwice_k83_whole_stamps_holds : PySem.Challenge.rw_stretchtwice_k83_whole_stamps.Holds := by
  w_on; o_law
  refine HandSHeadRun.head_any (r := OpenLaw.row PySem.Challenge.rw_stretchtwice_k83_whole_stamps) (q := view (OpenLaw.row PySem.Challenge.rw_stretchtwice_k83_whole_stamps).prog [40]) (H := Pk83.hk) (ob := Pk83.ob) (M := 100000) (loose := Pk83.loose) (d := HandSHeadRun.topDef (OpenLaw.row PySem.Challenge.rw_stretchtwice_k83_whole_stamps).prog 40) (kwd := []) Pk83.ob_eq
    (by kernel_rfl) (fun s => by kernel_rfl) Pk83.run (by kernel_rfl) (by kernel_rfl) (by kernel_rfl) (by rfl) (by first | assumption | decide +kernel) (by decide +kernel) ⟨rfl, rfl, rfl, rfl, rfl, by decide +kernel⟩ ?hw ?hc
  case hw => w_witness2
  case hc =>
    refine LamX.walk_ofTsE (l := PySem.Challenge.rw_stretchtwice_k83_whole_stamps) (n := 63) (k := 44) (x := "script") (CX := fun w => L2N.CX (PySem.Challenge.rw_stretchtwice_k83_whole_stamps).prog w) rfl (by decide) (by kernel_rfl) ⟨rfl, by decide, by decide⟩ ?F (fun _ _ _ _ _ ⟨_, _, _, _, _, _, _, _, _, _, _, _, z⟩ => z)
    intro w mg f0 h Y G hmg0
    obtain ⟨K, KX, c⟩ := Y
    have hmg : mg ("law" : PySem.Str) = some (.ref f0) := by
      have e : (HandSHeadRun.topDef (OpenLaw.row PySem.Challenge.rw_stretchtwice_k83_whole_stamps).prog 40).name = ("law" : PySem.Str) := by kernel_rfl
      rw [← e]
      exact hmg0
    exact ⟨K, KX, Pk83.law_at KX G c hmg⟩
