import PyProof.Rows.All
import HandS.ForMost
import HandS.Deep
import HandS.SortInts
import HandS.TupSets
import HandS.Codes
import KE.SortData
import KE.DataCmp
import KE.DataIsa
import HandS.TupAny
import HandS.TupLe
import HandS.IsInst
import HandS.Text
import HandS.Zip
import HandS.NoneIn
import HandS.Rev
import KE.GoesEnum
import HandS.Dict
import HandS.Conv
import HandS.ExcValue
import KE.KDictSum
import HandS.Style
import PyProof.ListCopy
import HandS.Star
import HandS.SortKw
import HandS.Strs
import HandS.TupMul
import HandS.Iter
import HandS.Sort
import HandS.ForExc
import HandS.WordsExc
import HandS.CallSlots
import HandS.ExcInit
import HandS.FStr
import KE.KExcSuper
import KE.KSuper
import HandS.ExcField
import HandS.DictTup
import PyProof.DictMoreH
import Wide.FinOn
import PySem.Challenge.RW_rebut_k23_trees
set_option Elab.async false
set_option linter.all false
set_option maxRecDepth 100000
set_option maxHeartbeats 4000000
namespace DL
open PySem PySem.Spec L2
open PyProof.Rows hiding St

/-! ### outcomes -/
abbrev D := PyData
structure Exn where
  cls : Str
  fld : Option (Str × Int)
/-- pick m k: any number below m -/
inductive Res (α : Type) where
  | bot | ok (a : α) | err (x : Exn) | pick (m : Int) (k : Int → Res α)
def Res.bind {α β : Type} (r : Res α) (f : α → Res β) : Res β := match r with
  | .ok a => f a
  | .err x => .err x
  | .bot => .bot
  | .pick m k => .pick m fun i => (k i).bind f
instance : Monad Res where
  pure := .ok
  bind := Res.bind
theorem ok_bind {α β : Type} (a : α) (f : α → Res β) : (Res.ok a >>= f) = f a := rfl
theorem err_bind {α β : Type} (x : Exn) (f : α → Res β) : (Res.err x >>= f) = .err x := rfl
theorem bot_bind {α β : Type} (f : α → Res β) : (Res.bot >>= f) = .bot := rfl
theorem pick_bind {α β : Type} (m : Int) (k : Int → Res α) (f : α → Res β) : (Res.pick m k >>= f) = .pick m fun i => k i >>= f := rfl
theorem pure_ok {α : Type} (a : α) : (pure a : Res α) = .ok a := rfl
theorem Res.bind_assoc {α β γ : Type} (r : Res α) (f : α → Res β) (g : β → Res γ) : ((r >>= f) >>= g) = (r >>= fun a => f a >>= g) := by
  induction r with
  | pick m k ih =>
    rw [pick_bind, pick_bind, pick_bind]
    congr 1
    funext i
    exact ih i
  | _ => rfl
def Res.wp {α : Type} (r : Res α) (Q : α → Prop) (E : Exn → Prop) : Prop :=
  match r with
  | .ok a => Q a
  | .err x => E x
  | .bot => False
  | .pick m k => 0 < m ∧ ∀ i, 0 ≤ i → i < m → (k i).wp Q E
theorem wp_ok {α : Type} {a : α} {Q : α → Prop} {E : Exn → Prop} : (Res.ok a).wp Q E = Q a := rfl
theorem wp_pick {α : Type} {m : Int} {k : Int → Res α} {Q : α → Prop} {E : Exn → Prop} : (Res.pick m k).wp Q E = (0 < m ∧ ∀ i, 0 ≤ i → i < m → (k i).wp Q E) := rfl
theorem wp_bind {α β : Type} (r : Res α) (f : α → Res β) (Q : β → Prop) (E : Exn → Prop) : (r >>= f).wp Q E = r.wp (fun a => (f a).wp Q E) E := by
  induction r with
  | pick m k ih =>
    rw [pick_bind, wp_pick, wp_pick]
    congr 1
    apply forall_congr
    intro i
    rw [ih i]
  | _ => rfl
theorem wp_mono {α : Type} {r : Res α} {Q Q' : α → Prop} {E E' : Exn → Prop} (h : r.wp Q E) (hQ : ∀ a, Q a → Q' a) (hE : ∀ x, E x → E' x) : r.wp Q' E' := by
  induction r with
  | ok a => exact hQ a h
  | err x => exact hE x h
  | bot => exact h
  | pick m k ih => exact ⟨h.1, fun i h0 h1 => ih i (h.2 i h0 h1)⟩
/-- what may come out -/
def Res.can {α : Type} (r : Res α) (a : α) : Prop :=
  match r with
  | .ok b => b = a
  | .err _ => False
  | .bot => False
  | .pick m k => ∃ i, 0 ≤ i ∧ i < m ∧ (k i).can a
theorem can_bind {α β : Type} {r : Res α} {f : α → Res β} {b : β} (h : (r >>= f).can b) : ∃ a, r.can a ∧ (f a).can b := by
  induction r with
  | ok a => exact ⟨a, rfl, h⟩
  | err x => exact h.elim
  | bot => exact h.elim
  | pick m k ih =>
    obtain ⟨i, h0, h1, h2⟩ := h
    obtain ⟨a, g1, g2⟩ := ih i h2
    exact ⟨a, ⟨i, h0, h1, g1⟩, g2⟩
theorem wp_and_can {α : Type} {r : Res α} {Q : α → Prop} {E : Exn → Prop} (h : r.wp Q E) : r.wp (fun a => Q a ∧ r.can a) E := by
  induction r with
  | ok a => exact ⟨h, rfl⟩
  | err x => exact h
  | bot => exact h
  | pick m k ih => exact ⟨h.1, fun i h0 h1 => wp_mono (ih i (h.2 i h0 h1)) (fun a ⟨q, c⟩ => ⟨q, i, h0, h1, c⟩) fun _ h => h⟩
/-- it never raises -/
def Res.quiet {α : Type} (r : Res α) : Prop :=
  match r with
  | .ok _ => True
  | .err _ => False
  | .bot => True
  | .pick _ k => ∀ i, (k i).quiet
theorem quiet_bind {α β : Type} {r : Res α} {f : α → Res β} (h1 : r.quiet) (h2 : ∀ a, (f a).quiet) : (r >>= f).quiet := by
  induction r with
  | ok a => exact h2 a
  | err x => exact h1.elim
  | bot => exact True.intro
  | pick m k ih => exact fun i => ih i (h1 i)
theorem wp_quiet {α : Type} {r : Res α} {Q : α → Prop} {E E' : Exn → Prop} (hn : r.quiet) (h : r.wp Q E) : r.wp Q E' := by
  induction r with
  | ok a => exact h
  | err x => exact hn.elim
  | bot => exact h
  | pick m k ih => exact ⟨h.1, fun i h0 h1 => ih i (hn i) (h.2 i h0 h1)⟩
/-- one thing that may come out -/
theorem wp_some {α : Type} {r : Res α} {Q : α → Prop} {E : Exn → Prop} (hn : r.quiet) (h : r.wp Q E) : ∃ a, Q a := by
  induction r with
  | ok a => exact ⟨a, h⟩
  | err x => exact hn.elim
  | bot => exact h.elim
  | pick m k ih => exact ih 0 (hn 0) (h.2 0 (Int.le_refl _) h.1)
/-- one result alone -/
def Res.dt {α : Type} : Res α → Res α
  | .pick _ _ => .bot
  | r => r
def dtF {α β : Type} (f : β → Res α) (x : β) : Res α := (f x).dt
theorem dt_wp {α : Type} {r : Res α} {Q : α → Prop} {E : Exn → Prop} (h : r.dt.wp Q E) : r.wp Q E ∧ ∀ m k, r ≠ .pick m k := by
  cases r with
  | pick m k => exact h.elim
  | _ => exact ⟨h, fun _ _ z => by cases z⟩

/-! ### how data lies in the abstract heap; Fz: the lists that are not changed any more -/
abbrev FZ := Addr → Prop
/-- a list that is not changed any more: frozen, locked, or the module's own -/
def LsF (K : PySem.W.Frag) (Fz : FZ) (H : Hp) (a : Addr) (xs : List V) : Prop := (H a = some (.lst xs) ∧ Fz a) ∨ (∃ o, H a = some (.frz o (.lst xs))) ∨
    ∃ (o : Obj) (its : Array Value) (n : Nat), K.lookup a = some o ∧ o.cls = .type "list" ∧ o.dict = none ∧ o.data = .seq its n ∧ its.size ≤ sizeLine ∧ Vals xs its.toList
theorem LsF.sq {K : PySem.W.Frag} {Fz : FZ} {H : Hp} {a : Addr} {xs : List V} (h : LsF K Fz H a xs) : SqL K H a xs := by
  rcases h with ⟨h, _⟩ | ⟨o, h⟩ | h
  · exact .inl (.inl h)
  · exact .inl (.inr ⟨o, h⟩)
  · exact .inr h
/-- a tuple of whole numbers is no constant of the module: it may be a key -/
def allI : List PyData → Bool
  | [] => true
  | .int _ :: r => allI r
  | _ :: _ => false
structure TupF (K : PySem.W.Frag) (H : Hp) (a : Addr) (xs : List V) (ds : List PyData) : Prop where
  sq : SqT K H a xs
  pl : allI ds = true → H a = some (.tup xs)
theorem TupF.of {K : PySem.W.Frag} {H : Hp} {a : Addr} {xs : List V} {ds : List PyData} (h : H a = some (.tup xs)) : TupF K H a xs ds := ⟨.inl (.inl h), fun _ => h⟩
/-- a dict's key as data -/
def kyD : Key → PyData
  | .inl i => .int i
  | .inr x => .str x
def kyT (k : List Key) : PyData := .tuple (k.map kyD)
abbrev HeldF (Fz : FZ) (H : Hp) (a : Addr) (u : HO) : Prop := H a = some u ∧ Fz a
/-- a dict as data: are its keys tuples, the keys, the values -/
def dcD (t : Bool) (ks vs : List PyData) : PyData := .dict [(.bool t, .tuple ks), (.none, .tuple vs)]
/-- the draws' state: a list of five, the numbers' list, four whole numbers -/
def PoolAt (b a : Addr) (h : Heap) : Prop := ∃ (i1 i2 i3 i4 : Int) (t1 t2 t3 t4 : Tok) (n : Nat), h.get? a = some { cls := .type "list", data := .seq #[.ref b, .int i1 t1, .int i2 t2, .int i3 t3, .int i4 t4] n } ∧ 0 ≤ i1
def isPool : PyData → Bool
  | .dict [] => true
  | .dict [(.int _, _)] => true
  | _ => false
mutual
inductive Rep (K : PySem.W.Frag) (Fz : FZ) (H : Hp) : V → PyData → Prop
  | non : Rep K Fz H .non .none
  | bl (b : Bool) : Rep K Fz H (.bl b) (.bool b)
  | int (i : Int) : Rep K Fz H (.int i) (.int i)
  | str (x : Str) : Rep K Fz H (.str x) (.str x)
  | lst {a : Addr} {xs : List V} {ds : List PyData} : LsF K Fz H a xs → ds.length ≤ sizeLine → RepAll K Fz H xs ds → Rep K Fz H (.ref a) (.list ds)
  | tup {a : Addr} {xs : List V} {ds : List PyData} : TupF K H a xs ds → ds.length ≤ sizeLine → RepAll K Fz H xs ds → Rep K Fz H (.ref a) (.tuple ds)
  | dck {a : Addr} {kvs : List (Key × V)} {ks vs : List PyData} : HeldF Fz H a (.dK kvs) → ks = kvs.map (fun p => kyD p.1) → RepAll K Fz H (kvs.map (·.2)) vs → Rep K Fz H (.ref a) (.dict [(.bool false, .tuple ks), (.none, .tuple vs)])
  | dct {a : Addr} {kvs : List (List Key × V)} {ks vs : List PyData} : HeldF Fz H a (.dT kvs) → ks = kvs.map (fun p => kyT p.1) → RepAll K Fz H (kvs.map (·.2)) vs → Rep K Fz H (.ref a) (.dict [(.bool true, .tuple ks), (.none, .tuple vs)])
  | pool {a b : Addr} {xs : List V} {ds : List PyData} : HeldF Fz H a (.ext (PoolAt b a)) → LsF K Fz H b xs → ds.length ≤ sizeLine → allI ds = true → RepAll K Fz H xs ds → Rep K Fz H (.ref a) (.dict [])
  | nl {b : Addr} {xs : List V} {ds : List PyData} : LsF K Fz H b xs → ds.length ≤ sizeLine → RepAll K Fz H xs ds → Rep K Fz H (.ref b) (.dict [(.int b, .list ds)])
inductive RepAll (K : PySem.W.Frag) (Fz : FZ) (H : Hp) : List V → List PyData → Prop
  | nil : RepAll K Fz H [] []
  | cons {v : V} {vs : List V} {d : PyData} {ds : List PyData} : Rep K Fz H v d → RepAll K Fz H vs ds → RepAll K Fz H (v :: vs) (d :: ds)
end
mutual
def nodc : PyData → Bool
  | .dict _ => false
  | .list xs => nodcAll xs
  | .tuple xs => nodcAll xs
  | .none => true
  | .bool _ => true
  | .int _ => true
  | .str _ => true
def nodcAll : List PyData → Bool
  | [] => true
  | x :: xs => nodc x && nodcAll xs
end
mutual
theorem Rep.dp {K : PySem.W.Frag} {Fz : FZ} {H : Hp} : ∀ {v : V} {d : PyData}, Rep K Fz H v d → nodc d = true → Dp K H v d
  | _, _, .non, _ => .non
  | _, _, .bl b, _ => .bl b
  | _, _, .int i, _ => .int i
  | _, _, .str x, _ => .str x
  | _, _, .lst h _ r, n => .lst h.sq (r.dp (by rw [nodc] at n; exact n))
  | _, _, .tup h _ r, n => .tup h.sq (r.dp (by rw [nodc] at n; exact n))
  | _, _, .dck _ _ _, n => by rw [nodc] at n; cases n
  | _, _, .dct _ _ _, n => by rw [nodc] at n; cases n
  | _, _, .pool _ _ _ _ _, n => by rw [nodc] at n; cases n
  | _, _, .nl _ _ _, n => by rw [nodc] at n; cases n
theorem RepAll.dp {K : PySem.W.Frag} {Fz : FZ} {H : Hp} : ∀ {vs : List V} {ds : List PyData}, RepAll K Fz H vs ds → nodcAll ds = true → DpAll K H vs ds
  | _, _, .nil, _ => .nil
  | _, _, .cons h r, n => by
    rw [nodcAll, Bool.and_eq_true] at n
    exact .cons (h.dp n.1) (r.dp n.2)
end
mutual
theorem nodc_lay : ∀ d : PyData, d.canLay0 = true → nodc d = true
  | .none, _ => rfl
  | .bool _, _ => rfl
  | .int _, _ => rfl
  | .str _, _ => rfl
  | .list xs, h => by
    rw [nodc]
    exact nodcAll_lay xs (by simpa [PyData.canLay0] using h)
  | .tuple xs, h => by
    rw [nodc]
    exact nodcAll_lay xs (by simpa [PyData.canLay0] using h)
  | .dict _, h => by simp [PyData.canLay0] at h
theorem nodcAll_lay : ∀ ds : List PyData, PyData.canLayAll0 ds = true → nodcAll ds = true
  | [], _ => rfl
  | d :: ds, h => by
    rw [PyData.canLayAll0, Bool.and_eq_true] at h
    rw [nodcAll, nodc_lay d h.1, nodcAll_lay ds h.2]
    rfl
end
theorem nodc_shaped {d : PyData} (h : SeqAt.shaped d = true) : nodc d = true := nodc_lay d (SeqAt.canLay_of_shaped h)

/-- what stood is there; the frozen ones stay frozen, newly frozen ones are new -/
structure Grow (Fz : FZ) (H : Hp) (Fz' : FZ) (H' : Hp) : Prop where
  same : Same H H'
  sub : ∀ a, Fz a → Fz' a
  new : ∀ a, Fz' a → Fz a ∨ H a = none
  live : (∀ a, Fz a → H a ≠ none) → ∀ a, Fz' a → H' a ≠ none
abbrev Live (Fz : FZ) (H : Hp) : Prop := ∀ a, Fz a → H a ≠ none
theorem Grow.refl {Fz : FZ} {H : Hp} : Grow Fz H Fz H := ⟨fun _ _ e => e, fun _ h => h, fun _ h => .inl h, fun l => l⟩
theorem none_of_same {H H' : Hp} (s : Same H H') {a : Addr} (h : H' a = none) : H a = none := by
  cases q : H a with
  | none => rfl
  | some o => rw [s a o q] at h; cases h
theorem Grow.trans {F1 F2 F3 : FZ} {H1 H2 H3 : Hp} (a : Grow F1 H1 F2 H2) (b : Grow F2 H2 F3 H3) : Grow F1 H1 F3 H3 :=
  ⟨fun x o e => b.same x o (a.same x o e), fun x h => b.sub x (a.sub x h), fun x h => (b.new x h).elim (a.new x) fun z => .inr (none_of_same a.same z), fun l => b.live (a.live l)⟩
theorem Grow.of_same {Fz : FZ} {H H' : Hp} (s : Same H H') : Grow Fz H Fz H' := ⟨s, fun _ h => h, fun _ h => .inl h, fun l a h z => l a h (none_of_same s z)⟩
theorem same_upd {H : Hp} {p : Addr} {o : HO} (h : H p = none) : Same H (upd H p o) := fun b x e => by
  rw [upd_ne (ne_of_none e h)]
  exact e
theorem Grow.nw {Fz : FZ} {H : Hp} {p : Addr} {o : HO} (h : H p = none) : Grow Fz H Fz (upd H p o) := .of_same (same_upd h)
/-- a new list, frozen at once -/
theorem Grow.frz {Fz : FZ} {H : Hp} {p : Addr} {o : HO} (h : H p = none) : Grow Fz H (fun a => Fz a ∨ a = p) (upd H p o) :=
  ⟨same_upd h, fun _ h => .inl h, fun _ z => z.elim .inl fun e => .inr (e ▸ h), fun l a z e => by
    rcases z with z | z
    · exact l a z (none_of_same (same_upd h) e)
    · subst z
      rw [upd_same] at e
      cases e⟩
/-- what Rep leans on stands -/
def Stay (Fz : FZ) (H H' : Hp) : Prop := ∀ a o, H a = some o → (Fz a ∨ (∃ xs, o = .tup xs) ∨ ∃ u v, o = .frz u v) → H' a = some o
theorem Stay.of_same {Fz : FZ} {H H' : Hp} (s : Same H H') : Stay Fz H H' := fun a o e _ => s a o e
theorem Stay.write {Fz : FZ} {H : Hp} {p : Addr} {o o' : HO} (hp : ¬ Fz p) (he : H p = some o) (hn : (∀ xs, o ≠ .tup xs) ∧ ∀ u v, o ≠ .frz u v) : Stay Fz H (upd H p o') := fun a u e h => by
  have hne : a ≠ p := fun z => by
    subst z
    rw [he] at e
    have e := Option.some.inj e
    subst e
    rcases h with h | ⟨xs, h⟩ | ⟨u, v, h⟩
    · exact hp h
    · exact hn.1 _ h
    · exact hn.2 _ _ h
  rw [upd_ne hne]
  exact e
theorem SqT.stay {K : PySem.W.Frag} {Fz : FZ} {H H' : Hp} {a : Addr} {xs : List V} (s : Stay Fz H H') (h : SqT K H a xs) : SqT K H' a xs := by
  rcases h with (h | ⟨o, h⟩) | h
  · exact .inl (.inl (s _ _ h (.inr (.inl ⟨_, rfl⟩))))
  · exact .inl (.inr ⟨o, s _ _ h (.inr (.inr ⟨_, _, rfl⟩))⟩)
  · exact .inr h
theorem LsF.stay {K : PySem.W.Frag} {Fz Fz' : FZ} {H H' : Hp} {a : Addr} {xs : List V} (s : Stay Fz H H') (f : ∀ a, Fz a → Fz' a) (h : LsF K Fz H a xs) : LsF K Fz' H' a xs := by
  rcases h with ⟨h, z⟩ | ⟨o, h⟩ | h
  · exact .inl ⟨s _ _ h (.inl z), f _ z⟩
  · exact .inr (.inl ⟨o, s _ _ h (.inr (.inr ⟨_, _, rfl⟩))⟩)
  · exact .inr (.inr h)
theorem TupF.stay {K : PySem.W.Frag} {Fz : FZ} {H H' : Hp} {a : Addr} {xs : List V} {ds : List PyData} (s : Stay Fz H H') (h : TupF K H a xs ds) : TupF K H' a xs ds := ⟨SqT.stay s h.sq, fun e => s _ _ (h.pl e) (.inr (.inl ⟨_, rfl⟩))⟩
theorem HeldF.stay {Fz Fz' : FZ} {H H' : Hp} {a : Addr} {u : HO} (s : Stay Fz H H') (f : ∀ a, Fz a → Fz' a) (h : HeldF Fz H a u) : HeldF Fz' H' a u := ⟨s _ _ h.1 (.inl h.2), f _ h.2⟩
mutual
theorem Rep.stay {K : PySem.W.Frag} {Fz Fz' : FZ} {H H' : Hp} (s : Stay Fz H H') (f : ∀ a, Fz a → Fz' a) : ∀ {v : V} {d : PyData}, Rep K Fz H v d → Rep K Fz' H' v d
  | _, _, .non => .non
  | _, _, .bl b => .bl b
  | _, _, .int i => .int i
  | _, _, .str x => .str x
  | _, _, .lst h z r => .lst (h.stay s f) z (r.stay s f)
  | _, _, .tup h z r => .tup (h.stay s) z (r.stay s f)
  | _, _, .dck h e r => .dck (HeldF.stay s f h) e (r.stay s f)
  | _, _, .dct h e r => .dct (HeldF.stay s f h) e (r.stay s f)
  | _, _, .pool h l z i r => .pool (HeldF.stay s f h) (l.stay s f) z i (r.stay s f)
  | _, _, .nl l z r => .nl (l.stay s f) z (r.stay s f)
theorem RepAll.stay {K : PySem.W.Frag} {Fz Fz' : FZ} {H H' : Hp} (s : Stay Fz H H') (f : ∀ a, Fz a → Fz' a) : ∀ {vs : List V} {ds : List PyData}, RepAll K Fz H vs ds → RepAll K Fz' H' vs ds
  | _, _, .nil => .nil
  | _, _, .cons h r => .cons (h.stay s f) (r.stay s f)
end
theorem Rep.grow {K : PySem.W.Frag} {Fz Fz' : FZ} {H H' : Hp} (g : Grow Fz H Fz' H') {v : V} {d : PyData} (h : Rep K Fz H v d) : Rep K Fz' H' v d := h.stay (.of_same g.same) g.sub
theorem RepAll.grow {K : PySem.W.Frag} {Fz Fz' : FZ} {H H' : Hp} (g : Grow Fz H Fz' H') {vs : List V} {ds : List PyData} (h : RepAll K Fz H vs ds) : RepAll K Fz' H' vs ds := h.stay (.of_same g.same) g.sub

/- no list within -/
mutual
def flat : PyData → Bool
  | .none => true
  | .bool _ => true
  | .int _ => true
  | .str _ => true
  | .tuple xs => flatAll xs
  | .list _ => false
  | .dict _ => false
def flatAll : List PyData → Bool
  | [] => true
  | x :: xs => flat x && flatAll xs
end
mutual
theorem Rep.flat {K : PySem.W.Frag} {Fz Fz' : FZ} {H : Hp} : ∀ {v : V} {d : PyData}, Rep K Fz H v d → flat d = true → Rep K Fz' H v d
  | _, _, .non, _ => .non
  | _, _, .bl b, _ => .bl b
  | _, _, .int i, _ => .int i
  | _, _, .str x, _ => .str x
  | _, _, .lst h z r, e => by
    rw [DL.flat] at e
    cases e
  | _, _, .tup h z r, e => .tup h z (r.flat (by rw [DL.flat] at e; exact e))
  | _, _, .dck h q r, e => by rw [DL.flat] at e; cases e
  | _, _, .dct h q r, e => by rw [DL.flat] at e; cases e
  | _, _, .pool _ _ _ _ _, e => by rw [DL.flat] at e; cases e
  | _, _, .nl _ _ _, e => by rw [DL.flat] at e; cases e
theorem RepAll.flat {K : PySem.W.Frag} {Fz Fz' : FZ} {H : Hp} : ∀ {vs : List V} {ds : List PyData}, RepAll K Fz H vs ds → flatAll ds = true → RepAll K Fz' H vs ds
  | _, _, .nil, _ => .nil
  | _, _, .cons h r, e => by
    rw [DL.flatAll, Bool.and_eq_true] at e
    exact .cons (h.flat e.1) (r.flat e.2)
end
theorem RepAll.length {K : PySem.W.Frag} {Fz : FZ} {H : Hp} : ∀ {vs : List V} {ds : List PyData}, RepAll K Fz H vs ds → vs.length = ds.length
  | _, _, .nil => rfl
  | _, _, .cons _ r => by rw [List.length_cons, List.length_cons, r.length]
theorem RepAll.get {K : PySem.W.Frag} {Fz : FZ} {H : Hp} : ∀ {vs : List V} {ds : List PyData} {i : Nat} {d : PyData}, RepAll K Fz H vs ds → ds[i]? = some d → ∃ v, vs[i]? = some v ∧ Rep K Fz H v d
  | _, _, _, _, .nil, e => by simp at e
  | _, _, 0, _, .cons h r, e => by
    simp at e
    subst e
    exact ⟨_, rfl, h⟩
  | _, _, i + 1, d, .cons h r, e => by
    obtain ⟨v, h1, h2⟩ := r.get (i := i) (d := d) (by simpa using e)
    exact ⟨v, by simpa using h1, h2⟩
theorem RepAll.app {K : PySem.W.Frag} {Fz : FZ} {H : Hp} : ∀ {vs ws : List V} {ds es : List PyData}, RepAll K Fz H vs ds → RepAll K Fz H ws es → RepAll K Fz H (vs ++ ws) (ds ++ es)
  | _, _, _, _, .nil, s => s
  | _, _, _, _, .cons h r, s => .cons h (r.app s)
theorem RepAll.drop {K : PySem.W.Frag} {Fz : FZ} {H : Hp} : ∀ {vs : List V} {ds : List PyData} (n : Nat), RepAll K Fz H vs ds → RepAll K Fz H (vs.drop n) (ds.drop n)
  | _, _, 0, r => r
  | _, _, _ + 1, .nil => .nil
  | _, _, n + 1, .cons _ r => r.drop n
theorem RepAll.take {K : PySem.W.Frag} {Fz : FZ} {H : Hp} : ∀ {vs : List V} {ds : List PyData} (n : Nat), RepAll K Fz H vs ds → RepAll K Fz H (vs.take n) (ds.take n)
  | _, _, 0, _ => .nil
  | _, _, _ + 1, .nil => .nil
  | _, _, n + 1, .cons h r => .cons h (r.take n)

/-! ### the state of a def: by slot, a value or a list of its own -/
inductive SV where
  | val (d : PyData)
  | own (xs : List PyData)
  | ownd (t : Bool) (ks vs : List PyData)
def SV.d : SV → PyData
  | .val d => d
  | .own xs => .list xs
  | .ownd t ks vs => dcD t ks vs
abbrev DSt := List (Option SV)
abbrev XK' := XK
/-- the slots at S, to be read -/
def RdOn (K : PySem.W.Frag) (S : List Nat) (Fz : FZ) (H : Hp) (σ : St) (δ : DSt) : Prop :=
  σ.length = δ.length ∧ ∀ i ∈ S, ∀ s, δ[i]? = some (some s) → ∃ v, σ[i]? = some (some v) ∧ Rep K Fz H v s.d
theorem RdOn.left {K : PySem.W.Frag} {S T : List Nat} {Fz : FZ} {H : Hp} {σ : St} {δ : DSt} (h : RdOn K (S ++ T) Fz H σ δ) : RdOn K S Fz H σ δ := ⟨h.1, fun i hi => h.2 i (List.mem_append_left _ hi)⟩
theorem RdOn.right {K : PySem.W.Frag} {S T : List Nat} {Fz : FZ} {H : Hp} {σ : St} {δ : DSt} (h : RdOn K (S ++ T) Fz H σ δ) : RdOn K T Fz H σ δ := ⟨h.1, fun i hi => h.2 i (List.mem_append_right _ hi)⟩
theorem RdOn.grow {K : PySem.W.Frag} {S : List Nat} {Fz Fz' : FZ} {H H' : Hp} {σ : St} {δ : DSt} (g : Grow Fz H Fz' H') (h : RdOn K S Fz H σ δ) : RdOn K S Fz' H' σ δ := ⟨h.1, fun i hi s e => by
  obtain ⟨v, h1, h2⟩ := h.2 i hi s e
  exact ⟨v, h1, h2.grow g⟩⟩
/-- how a raised exception lies -/
def ExR (mg : Str → Option Value) (x : Exn) (c : Value) (oe : Option Addr) (H : Hp) : Prop :=
  mg x.cls = some c ∧ match x.fld with
    | none => True
    | some (f, i) => ∃ a, oe = some a ∧ H a = some (.xd [(f, .int i)])
/-- what is wished of an exception, by the slots at that time -/
abbrev WS := List (Option V) → XK
/-- what is wanted of an expression's outcome -/
def EOK (K : PySem.W.Frag) (mg : Str → Option Value) (W : XK) (Fz : FZ) (H : Hp) (r : Res PyData) (Q : VK) : Prop :=
  r.wp (fun d => ∀ v H' Fz', Grow Fz H Fz' H' → Rep K Fz' H' v d → Q v H') (fun x => ∀ c oe H' Fz', Grow Fz H Fz' H' → ExR mg x c oe H' → W c oe H')
def AOK (K : PySem.W.Frag) (mg : Str → Option Value) (W : XK) (Fz : FZ) (H : Hp) (r : Res (List PyData)) (Q : List V → Hp → Prop) : Prop :=
  r.wp (fun ds => ∀ vs H' Fz', Grow Fz H Fz' H' → RepAll K Fz' H' vs ds → Q vs H') (fun x => ∀ c oe H' Fz', Grow Fz H Fz' H' → ExR mg x c oe H' → W c oe H')
def BOK (K : PySem.W.Frag) (mg : Str → Option Value) (W : XK) (Fz : FZ) (H : Hp) (r : Res Bool) (Q : Bool → Hp → Prop) : Prop :=
  r.wp (fun b => ∀ H' Fz', Grow Fz H Fz' H' → Q b H') (fun x => ∀ c oe H' Fz', Grow Fz H Fz' H' → ExR mg x c oe H' → W c oe H')
/-- a new list of one's own: not frozen -/
def LOK (K : PySem.W.Frag) (mg : Str → Option Value) (W : XK) (Fz : FZ) (H : Hp) (r : Res (List PyData)) (Q : VK) : Prop :=
  r.wp (fun ds => ∀ p vs H' Fz', Grow Fz H Fz' H' → H p = none → ¬ Fz' p → H' p = some (.lst vs) → ds.length ≤ sizeLine → RepAll K Fz' H' vs ds → Q (.ref p) H') (fun x => ∀ c oe H' Fz', Grow Fz H Fz' H' → ExR mg x c oe H' → W c oe H')

structure DE (X : Cx) (W : WS) (S : List Nat) (e : Expr) (t : TE) (f : DSt → Res PyData) : Prop where
  pe : PE X e t
  ok : ∀ Fz σ H δ Q, RdOn X.K S Fz H σ δ → Live Fz H → EOK X.K X.mg (W σ) Fz H (f δ) Q → t σ H Q
structure DF (X : Cx) (W : WS) (S : List Nat) (e : Expr) (t : TE) (f : DSt → Res (List PyData)) : Prop where
  pe : PE X e t
  ok : ∀ Fz σ H δ Q, RdOn X.K S Fz H σ δ → Live Fz H → LOK X.K X.mg (W σ) Fz H (f δ) Q → t σ H Q
structure DA (X : Cx) (W : WS) (S : List Nat) (es : List Expr) (t : TA) (f : DSt → Res (List PyData)) : Prop where
  pe : PA X es t
  len : ∀ δ ds, (f δ).can ds → ds.length = es.length
  ok : ∀ Fz σ H δ Q, RdOn X.K S Fz H σ δ → Live Fz H → AOK X.K X.mg (W σ) Fz H (f δ) Q → t σ H Q
structure DT (X : Cx) (W : WS) (S : List Nat) (e : Expr) (t : TT) (f : DSt → Res Bool) : Prop where
  pe : PT X e t
  ok : ∀ Fz σ H δ Q, RdOn X.K S Fz H σ δ → Live Fz H → BOK X.K X.mg (W σ) Fz H (f δ) Q → t σ H Q
structure DW (X : Cx) (W : WS) (S : List Nat) (e : Expr) (t : TT) (f : DSt → Res Bool) : Prop where
  pe : PW X e t
  ok : ∀ Fz σ H δ Q, RdOn X.K S Fz H σ δ → Live Fz H → BOK X.K X.mg (W σ) Fz H (f δ) Q → t σ H Q

/-! ### expressions -/
section
variable {X : Cx} {W : WS} {U : XK} {S T : List Nat} {e a b c : Expr} {es : List Expr} {pos : Pos} {t ta tb : TE}
theorem EOK.mono {K : PySem.W.Frag} {mg : Str → Option Value} {Fz Fz' : FZ} {H H' : Hp} {r : Res PyData} {Q Q' : VK} (h : EOK K mg U Fz H r Q) (g : Grow Fz H Fz' H') (q : ∀ v H' Fz'', Grow Fz H Fz'' H' → Q v H' → Q' v H') : EOK K mg U Fz' H' r Q' :=
  wp_mono h (fun d hd v H2 F2 g2 r2 => q v H2 F2 (g.trans g2) (hd v H2 F2 (g.trans g2) r2)) fun x hx c oe H2 F2 g2 r2 => hx c oe H2 F2 (g.trans g2) r2
/-- a slot's value -/
def vr (i : Nat) (δ : DSt) : Res PyData := match δ[i]? with
  | some (some s) => .ok s.d
  | _ => .bot
theorem de_var {i : Nat} {x : Str} (hN : X.N[i]? = some x) (hv : Vis X.env.scope x) (hd : (x == ("__debug__" : Str)) = false := by decide) (hcd : (x == ("__classdict__" : Str)) = false := by decide) : DE X W [i] (.Name x pos) (tVar i) (vr i) := by
  refine ⟨pe_var (i := i) hN hv hd hcd, fun Fz σ H δ Q hr hl h => ?_⟩
  unfold vr at h
  split at h
  · rename_i s e
    obtain ⟨v, h1, h2⟩ := hr.2 i (by simp) s e
    exact ⟨v, h1, h v H Fz .refl h2⟩
  · exact h.elim
theorem de_const {v : V} {d : PyData} (hp : PE X e (tC v)) (hv : ∀ K Fz H, Rep K Fz H v d) : DE X W [] e (tC v) (fun _ => .ok d) :=
  ⟨hp, fun Fz σ H δ Q _ _ h => h v H Fz .refl (hv _ _ _)⟩
theorem de_int {i : Int} {j} : DE X W [] (.Constant (.int i) j pos) (tC (.int i)) (fun _ => .ok (.int i)) := de_const pe_int fun _ _ _ => .int i
theorem de_bl {i : Bool} {j} : DE X W [] (.Constant (.bool i) j pos) (tC (.bl i)) (fun _ => .ok (.bool i)) := de_const pe_bl fun _ _ _ => .bl i
theorem de_str {i : Str} {j} : DE X W [] (.Constant (.str i) j pos) (tC (.str i)) (fun _ => .ok (.str i)) := de_const pe_str fun _ _ _ => .str i
theorem de_non {j} : DE X W [] (.Constant .none j pos) (tC .non) (fun _ => .ok .none) := de_const pe_non fun _ _ _ => .non

/-- two expressions from the left -/
theorem two {fa fb : DSt → Res PyData} (ha : ∀ Fz σ H δ Q, RdOn X.K S Fz H σ δ → Live Fz H → EOK X.K X.mg (W σ) Fz H (fa δ) Q → ta σ H Q) (hb : ∀ Fz σ H δ Q, RdOn X.K T Fz H σ δ → Live Fz H → EOK X.K X.mg (W σ) Fz H (fb δ) Q → tb σ H Q)
    {Fz : FZ} {σ : L2.St} {H : Hp} {δ : DSt} {R : V → V → Hp → Prop} (hr : RdOn X.K (S ++ T) Fz H σ δ) (hl : Live Fz H) (h : (fa δ).wp (fun x => (fb δ).wp (fun y => ∀ v u H' Fz', Grow Fz H Fz' H' → Live Fz' H' → Rep X.K Fz' H' v x → Rep X.K Fz' H' u y → R v u H')
      (fun x => ∀ c oe H' Fz', Grow Fz H Fz' H' → ExR X.mg x c oe H' → W σ c oe H')) (fun x => ∀ c oe H' Fz', Grow Fz H Fz' H' → ExR X.mg x c oe H' → W σ c oe H')) :
    ta σ H fun v H1 => tb σ H1 fun u H2 => R v u H2 := by
  refine ha Fz σ H δ _ hr.left hl (wp_mono h (fun x hx v H1 F1 g1 r1 => ?_) fun x hx => hx)
  refine hb F1 σ H1 δ _ (hr.right.grow g1) (g1.live hl) (wp_mono hx (fun y hy u H2 F2 g2 r2 => ?_) fun x hx c oe H2 F2 g2 r2 => hx c oe H2 F2 (g1.trans g2) r2)
  exact hy v u H2 F2 (g1.trans g2) (g2.live (g1.live hl)) (r1.grow g2) r2

/-- a two-place operation on data -/
structure OpD (X : Cx) (f : Value → Value → Sem Value) (r : R2) (g : PyData → PyData → Res PyData) : Prop where
  op : OpR X f r
  ok : ∀ Fz H x y v u Q, Live Fz H → Rep X.K Fz H v x → Rep X.K Fz H u y → EOK X.K X.mg (fun _ _ _ => False) Fz H (g x y) Q → r v u H Q
theorem eok_weak {K : PySem.W.Frag} {mg : Str → Option Value} {Fz Fz0 : FZ} {H H0 : Hp} {r : Res PyData} {Q : VK} (hn : Exn → r.quiet) (g : Grow Fz0 H0 Fz H) (h : r.wp (fun d => ∀ v H' Fz', Grow Fz0 H0 Fz' H' → Rep K Fz' H' v d → Q v H') (fun x => ∀ c oe H' Fz', Grow Fz0 H0 Fz' H' → ExR mg x c oe H' → U c oe H')) :
    EOK K mg (fun _ _ _ => False) Fz H r Q := by
  exact wp_quiet (hn ⟨"", none⟩) (wp_mono h (fun d h v H' F' g' r' => h v H' F' (g.trans g') r') fun x h => h)
/-- a pure operation: it never raises -/
abbrev NoErr (g : PyData → PyData → Res PyData) : Prop := ∀ x y, Exn → (g x y).quiet
variable {r : R2}
theorem tOp_ok {g : PyData → PyData → Res PyData} {fa fb : DSt → Res PyData} {f : Value → Value → Sem Value} (ho : OpD X f r g) (hn : NoErr g) (ha : DE X W S a ta fa) (hb : DE X W T b tb fb) :
    ∀ Fz σ H δ Q, RdOn X.K (S ++ T) Fz H σ δ → Live Fz H → EOK X.K X.mg (W σ) Fz H (do let x ← fa δ; let y ← fb δ; g x y) Q → tOp r ta tb σ H Q := fun Fz σ H δ Q hd hl h => by
  unfold EOK at h
  rw [wp_bind] at h
  refine two ha.ok hb.ok hd hl (wp_mono h (fun x hx => ?_) fun x hx => hx)
  rw [wp_bind] at hx
  refine wp_mono hx (fun y hy v u H' F' g' l' r1 r2 => ?_) fun x hx => hx
  exact ho.ok F' H' x y v u Q l' r1 r2 (eok_weak (hn x y) g' hy)
theorem de_op {op : Operator} {g : PyData → PyData → Res PyData} {fa fb : DSt → Res PyData} (ho : OpD X (binaryOp op) r g) (hn : NoErr g) (ha : DE X W S a ta fa) (hb : DE X W T b tb fb) : DE X W (S ++ T) (.BinOp a op b pos) (tOp r ta tb) (fun δ => do let x ← fa δ; let y ← fb δ; g x y) :=
  ⟨pe_op ho.op ha.pe hb.pe, tOp_ok ho hn ha hb⟩
theorem de_cmp {op : CmpOp} {g : PyData → PyData → Res PyData} {fa fb : DSt → Res PyData} (ho : OpD X (compareOp op) r g) (hn : NoErr g) (hm : behindInMarks op b = false) (ha : DE X W S a ta fa) (hb : DE X W T b tb fb) : DE X W (S ++ T) (.Compare a [op] [b] pos) (tOp r ta tb) (fun δ => do let x ← fa δ; let y ← fb δ; g x y) :=
  ⟨pe_cmpR ho.op ha.pe hb.pe hm, tOp_ok ho hn ha hb⟩
/-- the answer True or False of a datum -/
def asB (d : PyData) : Res Bool := match d with
  | .bool b => .ok b
  | _ => .bot
theorem asB_ok {t : TE} {f : DSt → Res PyData} {Fz : FZ} {σ : L2.St} {H : Hp} {δ : DSt} {Q : Bool → Hp → Prop} (q : ∀ Q, EOK X.K X.mg (W σ) Fz H (f δ) Q → t σ H Q) (h : BOK X.K X.mg (W σ) Fz H (do let x ← f δ; asB x) Q) : t σ H fun x H1 => ∃ c, x = .bl c ∧ Q c H1 := by
  unfold BOK at h
  rw [wp_bind] at h
  refine q _ (wp_mono h (fun x hx v H' F' g' r' => ?_) fun x hx => hx)
  cases x with
  | bool k =>
    cases r'
    exact ⟨k, rfl, hx H' F' g'⟩
  | _ => exact hx.elim
theorem dt_cmp {op : CmpOp} {g : PyData → PyData → Res PyData} {fa fb : DSt → Res PyData} (ho : OpD X (compareOp op) r g) (hn : NoErr g) (hm : behindInMarks op b = false) (ha : DE X W S a ta fa) (hb : DE X W T b tb fb) : DT X W (S ++ T) (.Compare a [op] [b] pos) (tTest (tOp r ta tb)) (fun δ => do let z ← (do let x ← fa δ; let y ← fb δ; g x y); asB z) :=
  ⟨pt_cmpR ho.op ha.pe hb.pe hm, fun Fz σ H δ Q hd hl h => asB_ok (f := fun δ => do let x ← fa δ; let y ← fb δ; g x y) (tOp_ok ho hn ha hb Fz σ H δ · hd hl) h⟩
theorem dt_val {f : DSt → Res PyData} (h : DE X W S e t f) (he : ∀ whole, PySem.isTrue e X.env whole = (do let v ← whole; standAt e.pos; holding [v] (truthy v)) := by intro _; rfl) : DT X W S e (tB t) (fun δ => do let x ← f δ; asB x) :=
  ⟨pt_val h.pe he, fun Fz σ H δ Q hd hl hq => asB_ok (h.ok Fz σ H δ · hd hl) hq⟩
/-- a one-place operation -/
def negD (x : PyData) : Res PyData := match x with | .int i => .ok (.int (-i)) | _ => .bot
theorem de_neg {f : DSt → Res PyData} (h : DE X W S e t f) : DE X W S (.UnaryOp .USub e pos) (tUn (rU fun i => .int (-i)) t) (fun δ => do let x ← f δ; negD x) := by
  refine ⟨pe_un un_neg h.pe, fun Fz σ H δ Q hd hl hq => ?_⟩
  unfold EOK at hq
  rw [wp_bind] at hq
  refine h.ok Fz σ H δ _ hd hl (wp_mono hq (fun x hx v H' F' g' r' => ?_) fun x hx => hx)
  cases x with
  | int i =>
    cases r'
    exact ⟨i, rfl, hx _ H' F' g' (.int _)⟩
  | _ => exact hx.elim
/-! ### and, or, not, a if c else b -/
variable {tA tB' : TT} {rest : List Expr}
theorem dw_and1 {f : DSt → Res Bool} (h : DT X W S a tA f) : DW X W S (.BoolOp .And [a] pos) tA f := ⟨pw_and1 h.pe, h.ok⟩
theorem dw_or1 {f : DSt → Res Bool} (h : DT X W S a tA f) : DW X W S (.BoolOp .Or [a] pos) tA f := ⟨pw_or1 h.pe, h.ok⟩
theorem DW.dt {f : DSt → Res Bool} (h : DW X W S a tA f) : DT X W S a tA f := ⟨h.pe.pt, h.ok⟩
theorem BOK.bind {K : PySem.W.Frag} {mg : Str → Option Value} {Fz : FZ} {H : Hp} {r : Res Bool} {f : Bool → Res Bool} {Q : Bool → Hp → Prop} (h : BOK K mg U Fz H (r >>= f) Q) :
    BOK K mg U Fz H r (fun b H1 => ∃ F1, Grow Fz H F1 H1 ∧ BOK K mg U F1 H1 (f b) Q) := by
  unfold BOK at h
  rw [wp_bind] at h
  refine wp_mono h (fun b hb H1 F1 g1 => ⟨F1, g1, ?_⟩) fun x hx => hx
  exact wp_mono hb (fun c hc H2 F2 g2 => hc H2 F2 (g1.trans g2)) fun x hx c oe H2 F2 g2 => hx c oe H2 F2 (g1.trans g2)
theorem BOK.at {K : PySem.W.Frag} {mg : Str → Option Value} {Fz : FZ} {H : Hp} {b : Bool} {Q : Bool → Hp → Prop} (h : BOK K mg U Fz H (.ok b) Q) : Q b H := h H Fz .refl
theorem dw_and {f g : DSt → Res Bool} (ha : DT X W S a tA f) (hb : DW X W T (.BoolOp .And (b :: rest) pos) tB' g) : DW X W (S ++ T) (.BoolOp .And (a :: b :: rest) pos) (tAnd tA tB') (fun δ => do let x ← f δ; if x then g δ else .ok false) := by
  refine ⟨pw_and ha.pe hb.pe, fun Fz σ H δ Q hd hl hq => ?_⟩
  refine ha.ok Fz σ H δ _ hd.left hl (wp_mono hq.bind (fun b hb' H1 F1 g1 => ?_) fun x hx => hx)
  obtain ⟨F2, g2, q2⟩ := hb' H1 F1 g1
  cases b with
  | true => exact hb.ok F2 σ H1 δ _ (hd.right.grow g2) (g2.live hl) q2
  | false => exact q2.at
theorem dw_or {f g : DSt → Res Bool} (ha : DT X W S a tA f) (hb : DW X W T (.BoolOp .Or (b :: rest) pos) tB' g) : DW X W (S ++ T) (.BoolOp .Or (a :: b :: rest) pos) (tOr tA tB') (fun δ => do let x ← f δ; if x then .ok true else g δ) := by
  refine ⟨pw_or ha.pe hb.pe, fun Fz σ H δ Q hd hl hq => ?_⟩
  refine ha.ok Fz σ H δ _ hd.left hl (wp_mono hq.bind (fun b hb' H1 F1 g1 => ?_) fun x hx => hx)
  obtain ⟨F2, g2, q2⟩ := hb' H1 F1 g1
  cases b with
  | false => exact hb.ok F2 σ H1 δ _ (hd.right.grow g2) (g2.live hl) q2
  | true => exact q2.at
theorem dt_not {f : DSt → Res Bool} (ha : DT X W S a tA f) : DT X W S (.UnaryOp .Not a pos) (tNot tA) (fun δ => do let x ← f δ; .ok (!x)) := by
  refine ⟨pt_not ha.pe, fun Fz σ H δ Q hd hl hq => ?_⟩
  refine ha.ok Fz σ H δ _ hd hl (wp_mono hq.bind (fun b hb' H1 F1 g1 => ?_) fun x hx => hx)
  obtain ⟨F2, g2, q2⟩ := hb' H1 F1 g1
  exact q2.at
theorem EOK.bind {K : PySem.W.Frag} {mg : Str → Option Value} {Fz : FZ} {H : Hp} {r : Res PyData} {f : PyData → Res PyData} {Q : VK} (h : EOK K mg U Fz H (r >>= f) Q) :
    EOK K mg U Fz H r (fun v H1 => ∃ F1 d, Grow Fz H F1 H1 ∧ Rep K F1 H1 v d ∧ EOK K mg U F1 H1 (f d) Q) := by
  unfold EOK at h
  rw [wp_bind] at h
  refine wp_mono h (fun b hb v H1 F1 g1 r1 => ⟨F1, b, g1, r1, ?_⟩) fun x hx => hx
  exact wp_mono hb (fun c hc v2 H2 F2 g2 => hc v2 H2 F2 (g1.trans g2)) fun x hx c oe H2 F2 g2 => hx c oe H2 F2 (g1.trans g2)
theorem EOK.bindB {K : PySem.W.Frag} {mg : Str → Option Value} {Fz : FZ} {H : Hp} {r : Res Bool} {f : Bool → Res PyData} {Q : VK} (h : EOK K mg U Fz H (r >>= f) Q) :
    BOK K mg U Fz H r (fun b H1 => ∃ F1, Grow Fz H F1 H1 ∧ EOK K mg U F1 H1 (f b) Q) := by
  unfold EOK at h
  rw [wp_bind] at h
  refine wp_mono h (fun b hb H1 F1 g1 => ⟨F1, g1, ?_⟩) fun x hx => hx
  exact wp_mono hb (fun c hc v2 H2 F2 g2 => hc v2 H2 F2 (g1.trans g2)) fun x hx c oe H2 F2 g2 => hx c oe H2 F2 (g1.trans g2)
theorem EOK.at {K : PySem.W.Frag} {mg : Str → Option Value} {Fz : FZ} {H : Hp} {d : PyData} {v : V} {Q : VK} (h : EOK K mg U Fz H (.ok d) Q) (r : Rep K Fz H v d) : Q v H := h v H Fz .refl r
/-- and, or, not of values True and False -/
def andV (x : PyData) (k : Res PyData) : Res PyData := match x with | .bool true => k | .bool false => .ok (.bool false) | _ => .bot
def orV (x : PyData) (k : Res PyData) : Res PyData := match x with | .bool true => .ok (.bool true) | .bool false => k | _ => .bot
def notV (x : PyData) : Res PyData := match x with | .bool b => .ok (.bool (!b)) | _ => .bot
theorem de_one {op} {f : DSt → Res PyData} (h : DE X W S a ta f) : DE X W S (.BoolOp op [a] pos) ta f := ⟨pe_one h.pe, h.ok⟩
theorem de_and {f g : DSt → Res PyData} (ha : DE X W S a ta f) (hb : DE X W T (.BoolOp .And (b :: rest) pos) tb g) : DE X W (S ++ T) (.BoolOp .And (a :: b :: rest) pos) (tAndV ta tb) (fun δ => do let x ← f δ; andV x (g δ)) := by
  refine ⟨pe_and ha.pe hb.pe, fun Fz σ H δ Q hd hl hq => ?_⟩
  refine ha.ok Fz σ H δ _ hd.left hl (wp_mono hq.bind (fun d hb' v H1 F1 g1 r1 => ?_) fun x hx => hx)
  obtain ⟨F2, d2, g2, r2, q2⟩ := hb' v H1 F1 g1 r1
  cases d2 with
  | bool k =>
    cases r2
    refine ⟨k, rfl, ?_⟩
    cases k with
    | true => exact hb.ok F2 σ H1 δ _ (hd.right.grow g2) (g2.live hl) q2
    | false => exact q2.at (.bl _)
  | _ => exact q2.elim
theorem de_or {f g : DSt → Res PyData} (ha : DE X W S a ta f) (hb : DE X W T (.BoolOp .Or (b :: rest) pos) tb g) : DE X W (S ++ T) (.BoolOp .Or (a :: b :: rest) pos) (tOrV ta tb) (fun δ => do let x ← f δ; orV x (g δ)) := by
  refine ⟨pe_or ha.pe hb.pe, fun Fz σ H δ Q hd hl hq => ?_⟩
  refine ha.ok Fz σ H δ _ hd.left hl (wp_mono hq.bind (fun d hb' v H1 F1 g1 r1 => ?_) fun x hx => hx)
  obtain ⟨F2, d2, g2, r2, q2⟩ := hb' v H1 F1 g1 r1
  cases d2 with
  | bool k =>
    cases r2
    refine ⟨k, rfl, ?_⟩
    cases k with
    | false => exact hb.ok F2 σ H1 δ _ (hd.right.grow g2) (g2.live hl) q2
    | true => exact q2.at (.bl _)
  | _ => exact q2.elim
theorem de_not {f : DSt → Res PyData} (ha : DE X W S a ta f) : DE X W S (.UnaryOp .Not a pos) (tNotV ta) (fun δ => do let x ← f δ; notV x) := by
  refine ⟨pe_not ha.pe, fun Fz σ H δ Q hd hl hq => ?_⟩
  refine ha.ok Fz σ H δ _ hd hl (wp_mono hq.bind (fun d hb' v H1 F1 g1 r1 => ?_) fun x hx => hx)
  obtain ⟨F2, d2, g2, r2, q2⟩ := hb' v H1 F1 g1 r1
  cases d2 with
  | bool k =>
    cases r2
    exact ⟨k, rfl, q2.at (.bl _)⟩
  | _ => exact q2.elim
theorem RdOn.left3 {K : PySem.W.Frag} {S T U : List Nat} {Fz : FZ} {H : Hp} {σ : L2.St} {δ : DSt} (h : RdOn K (S ++ (T ++ U)) Fz H σ δ) : RdOn K U Fz H σ δ := h.right.right
theorem de_ifExp {U : List Nat} {h : DSt → Res Bool} {f g : DSt → Res PyData} (hc : DT X W U c tA h) (ha : DE X W S a ta f) (hb : DE X W T b tb g) : DE X W (U ++ (S ++ T)) (.IfExp c a b pos) (tIf tA ta tb) (fun δ => do let x ← h δ; if x then f δ else g δ) := by
  refine ⟨pe_ifExp hc.pe ha.pe hb.pe, fun Fz σ H δ Q hd hl hq => ?_⟩
  refine hc.ok Fz σ H δ _ hd.left hl (wp_mono hq.bindB (fun b hb' H1 F1 g1 => ?_) fun x hx => hx)
  obtain ⟨F2, g2, q2⟩ := hb' H1 F1 g1
  cases b with
  | true => exact ha.ok F2 σ H1 δ _ (hd.right.left.grow g2) (g2.live hl) q2
  | false => exact hb.ok F2 σ H1 δ _ (hd.right.right.grow g2) (g2.live hl) q2
end
end DL

set_option Elab.async false
set_option linter.all false
set_option maxRecDepth 100000
set_option maxHeartbeats 4000000
namespace DL
open PySem PySem.Spec L2
open PyProof.Rows hiding St
section
variable {X : Cx} {W : WS} {U : XK} {S T : List Nat} {e a b c : Expr} {es : List Expr} {pos : Pos}
/-! ### operators on data -/
theorem OpD.of {f : Value → Value → Sem Value} {g : PyData → PyData → Res PyData} {r : R2} (h : OpR X f r) (q : ∀ Fz H x y v u Q, Live Fz H → Rep X.K Fz H v x → Rep X.K Fz H u y → EOK X.K X.mg (fun _ _ _ => False) Fz H (g x y) Q → r v u H Q) : OpD X f r g := ⟨h, q⟩
/-- a rule for ints -/
def opI2 (C : Int → Int → Bool) (g : Int → Int → PyData) (x y : PyData) : Res PyData := match x, y with
  | .int i, .int j => if C i j = true then .ok (g i j) else .bot
  | _, _ => .bot
theorem opD_int {f : Value → Value → Sem Value} {C : Int → Int → Prop} {Cb : Int → Int → Bool} {g : Int → Int → V} {gd : Int → Int → PyData} (h : OpR X f (rI C g)) (hc : ∀ i j, Cb i j = true → C i j) (hg : ∀ K Fz H i j, Rep K Fz H (g i j) (gd i j)) : OpD X f (rI C g) (opI2 Cb gd) := by
  refine .of h fun Fz H x y v u Q hl r1 r2 q => ?_
  unfold opI2 at q
  cases x with
  | int i =>
    cases y with
    | int j =>
      cases r1
      cases r2
      by_cases hij : Cb i j = true
      · simp only [hij, if_true] at q
        exact ⟨i, j, rfl, rfl, hc i j hij, q _ H Fz .refl (hg _ _ _ _ _)⟩
      · simp only [hij, if_false] at q
        exact q.elim
    | _ => exact q.elim
  | _ => exact q.elim
theorem opR_c {f : Value → Value → Sem Value} {g : Int → Int → V} (h : OpR X f (rI0 g)) : OpR X f (rI (fun _ _ => True) g) := by
  intro pins s σ H x y v u Q I rx ry q
  obtain ⟨i, j, e1, e2, _, q⟩ := q
  exact h pins s σ H x y v u Q I rx ry ⟨i, j, e1, e2, q⟩
abbrev subD := opI2 (fun _ _ => true) fun i j => .int (i - j)
theorem od_sub : OpD X (binaryOp .Sub) (rI (fun _ _ => True) fun i j => .int (i - j)) subD := opD_int (opR_c op_sub) (fun _ _ _ => trivial) fun _ _ _ _ _ => .int _
abbrev mulB (i j : Int) : Bool := decide ((-(2 ^ 64) < i ∧ i < 2 ^ 64) ∨ (-(2 ^ 64) < j ∧ j < 2 ^ 64))
abbrev fdivB (_ j : Int) : Bool := decide (0 < j ∧ j < 1073741824)
abbrev fdivD := opI2 fdivB fun i j => .int (i / j)
theorem od_fdiv : OpD X (binaryOp .FloorDiv) (rI CDiv fun i j => .int (i / j)) fdivD := opD_int op_fdiv (fun i j h => show 0 < j ∧ j < 1073741824 from of_decide_eq_true h) fun _ _ _ _ _ => .int _
abbrev modD := opI2 (fun _ j => decide (0 < j)) fun i j => .int (i % j)
theorem od_mod : OpD X (binaryOp .Mod) (rI (fun _ j => 0 < j) fun i j => .int (i % j)) modD := opD_int op_mod (fun i j h => of_decide_eq_true h) fun _ _ _ _ _ => .int _
abbrev shrD := opI2 (fun _ j => decide (0 ≤ j)) fun i j => .int (i / 2 ^ j.toNat)
theorem od_shr : OpD X (binaryOp .RShift) (rI (fun _ j => 0 ≤ j) fun i j => .int (i / 2 ^ j.toNat)) shrD := opD_int op_shr (fun i j h => of_decide_eq_true h) fun _ _ _ _ _ => .int _
abbrev powB (i j : Int) : Bool := decide (0 ≤ j ∧ j ≤ 1000000 ∧ i.natAbs < 2 ^ 64)
abbrev shlD := opI2 powB fun i j => .int (i * 2 ^ j.toNat)
theorem od_shl : OpD X (binaryOp .LShift) (rI CPow fun i j => .int (i * 2 ^ j.toNat)) shlD := opD_int op_shl (fun i j h => show 0 ≤ j ∧ j ≤ 1000000 ∧ i.natAbs < 2 ^ 64 from of_decide_eq_true h) fun _ _ _ _ _ => .int _
abbrev powD := opI2 powB fun i j => .int (i ^ j.toNat)
theorem od_pow : OpD X (binaryOp .Pow) (rI CPow fun i j => .int (i ^ j.toNat)) powD := opD_int op_pow (fun i j h => show 0 ≤ j ∧ j ≤ 1000000 ∧ i.natAbs < 2 ^ 64 from of_decide_eq_true h) fun _ _ _ _ _ => .int _
abbrev andD := opI2 (fun _ _ => true) fun i j => .int (Builtin.bitAnd i j)
theorem od_and : OpD X (binaryOp .BitAnd) (rI (fun _ _ => True) fun i j => .int (Builtin.bitAnd i j)) andD := opD_int (opR_c op_and) (fun _ _ _ => trivial) fun _ _ _ _ _ => .int _
theorem opI2_ne {C : Int → Int → Bool} {g : Int → Int → PyData} : NoErr (opI2 C g) := fun x y z => by
  unfold opI2
  split
  · split <;> exact True.intro
  · exact True.intro

/-- a + b: whole numbers, texts, tuples, lists -/
def addD (x y : PyData) : Res PyData := match x, y with
  | .int i, .int j => .ok (.int (i + j))
  | .str i, .str j => if i.length + j.length ≤ sizeLine then .ok (.str (i ++ j)) else .bot
  | .tuple xs, .tuple ys => if xs.length + ys.length ≤ sizeLine then .ok (.tuple (xs ++ ys)) else .bot
  | .list xs, .list ys => if xs.length + ys.length ≤ sizeLine then .ok (.list (xs ++ ys)) else .bot
  | _, _ => .bot
theorem addD_ne : NoErr addD := fun x y z => by
  unfold addD
  split <;> first
    | exact True.intro
    | (split <;> exact True.intro)
/-- xs + ys of two lists that are read -/
def rCatL (K : PySem.W.Frag) : R2 := fun x y H Q => ∃ l b xs zs, x = .ref l ∧ y = .ref b ∧ SqL K H l xs ∧ SqL K H b zs ∧ xs.length + zs.length ≤ sizeLine ∧ ∀ p, H p = none → Q (.ref p) (upd H p (.lst (xs ++ zs)))
theorem op_catL : OpR X (binaryOp .Add) (rCatL X.K) := by
  intro pins s σ H x y v u Q I rx ry h
  obtain ⟨l, b, xs, zs, rfl, rfl, hH, hB, hz, q⟩ := h
  cases rx
  cases ry
  obtain ⟨its, r, pl, hl⟩ := I.list hH
  obtain ⟨its2, r2, pl2, hl2⟩ := I.list hB
  obtain ⟨⟨cls, dd, data, sl⟩, ho, hc, n, hd⟩ := pl.isList
  obtain ⟨⟨cls2, dd2, data2, sl2⟩, ho2, hc2, n2, hd2⟩ := pl2.isList
  simp only at hc hd hc2 hd2
  subst hc hd hc2 hd2
  have ea : its.toArray ++ its2.toArray = (its ++ its2).toArray := by simp
  refine concat_meets ⟨_, ho, rfl⟩ ⟨_, ho2, rfl⟩ noFill_list_add seq_list_add PySem.F.slot_list_add PySem.F.entry_list_add (PySem.F.args_list_add_2 _ _) (list_addW l b its.toArray its2.toArray n n2 dd dd2 sl sl2 (by rw [List.size_toArray, List.size_toArray, ← r.length, ← r2.length]; exact hz)) ⟨ho, ho2, ?_⟩
  rw [ea]
  exact ⟨.ref _, _, I.lnew (t' := s.toks) (r.append r2) (by rw [List.length_append]; omega), rfl, q _ I.fresh⟩
theorem RepAll.nil_iff {K : PySem.W.Frag} {Fz : FZ} {H : Hp} {vs : List V} {ds : List PyData} (r : RepAll K Fz H vs ds) : vs = [] ↔ ds = [] := by
  cases r <;> simp
abbrev rAddD (K : PySem.W.Frag) : R2 := fun x y H Q => (rI0 (fun i j => .int (i + j)) x y H Q ∨ ∃ i j, x = .str i ∧ y = .str j ∧ i.length + j.length ≤ sizeLine ∧ Q (.str (i ++ j)) H) ∨ rCatA K x y H Q ∨ rCatL K x y H Q
theorem od_add : OpD X (binaryOp .Add) (rAddD X.K) addD := by
  refine .of (.or (.or op_add op_add_str) (.or op_catA op_catL)) fun Fz H x y v u Q hl r1 r2 q => ?_
  unfold addD at q
  cases x with
  | int i =>
    cases y with
    | int j =>
      cases r1
      cases r2
      exact .inl (.inl ⟨i, j, rfl, rfl, q _ H Fz .refl (.int _)⟩)
    | _ => exact q.elim
  | str i =>
    cases y with
    | str j =>
      cases r1
      cases r2
      by_cases hz : i.length + j.length ≤ sizeLine
      · simp only [hz, if_true] at q
        exact .inl (.inr ⟨i, j, rfl, rfl, hz, q _ H Fz .refl (.str _)⟩)
      · simp only [hz, if_false] at q
        exact q.elim
    | _ => exact q.elim
  | tuple xs =>
    cases y with
    | tuple ys =>
      by_cases hz : xs.length + ys.length ≤ sizeLine
      · simp only [hz, if_true] at q
        have r1' := r1
        have r2' := r2
        cases r1 with
        | tup h1 z1 a1 =>
          cases r2 with
          | tup h2 z2 a2 =>
            refine .inr (.inl ⟨_, _, _, _, rfl, rfl, h1.sq, h2.sq, by rw [a1.length, a2.length]; exact hz, fun e => ?_, fun e1 e2 => ?_, fun e1 e2 p np => ?_⟩)
            · refine q _ H Fz .refl ?_
              rw [a1.nil_iff.mp e, List.nil_append]
              exact r2'
            · refine q _ H Fz .refl ?_
              rw [a2.nil_iff.mp e2, List.append_nil]
              exact r1'
            · refine q _ _ Fz (.nw np) (.tup (.of upd_same) (by rw [List.length_append]; exact hz) ?_)
              exact (a1.app a2).grow (.nw np)
      · simp only [hz, if_false] at q
        exact q.elim
    | _ => exact q.elim
  | list xs =>
    cases y with
    | list ys =>
      by_cases hz : xs.length + ys.length ≤ sizeLine
      · simp only [hz, if_true] at q
        cases r1 with
        | lst h1 z1 a1 =>
          cases r2 with
          | lst h2 z2 a2 =>
            refine .inr (.inr ⟨_, _, _, _, rfl, rfl, h1.sq, h2.sq, by rw [a1.length, a2.length]; exact hz, fun p np => ?_⟩)
            refine q _ _ _ (.frz np) (.lst (.inl ⟨upd_same, .inr rfl⟩) (by rw [List.length_append]; exact hz) ?_)
            exact (a1.app a2).grow (.frz np)
      · simp only [hz, if_false] at q
        exact q.elim
    | _ => exact q.elim
  | _ => exact q.elim

/-- a * b of whole numbers (one within 64 bits), a list or tuple is not served -/
abbrev mulD := opI2 mulB fun i j => .int (i * j)
theorem od_mul : OpD X (binaryOp .Mult) (rI CMul fun i j => .int (i * j)) mulD := opD_int op_mul (fun i j h => show (-(2 ^ 64) < i ∧ i < 2 ^ 64) ∨ (-(2 ^ 64) < j ∧ j < 2 ^ 64) from of_decide_eq_true h) fun _ _ _ _ _ => .int _

/-! ### comparisons of data -/
def eqD (x y : PyData) : Res PyData := if SeqAt.shaped x && SeqAt.shaped y then .ok (.bool (PyData.eqv x y)) else .bot
def neD (x y : PyData) : Res PyData := if SeqAt.shaped x && SeqAt.shaped y then .ok (.bool (!PyData.eqv x y)) else .bot
theorem od_eq (hu : X.A.units + 64 < cLine) : OpD X (compareOp .Eq) (rEqD X.K) eqD := by
  refine .of (op_eqD hu) fun Fz H x y v u Q hl r1 r2 q => ?_
  unfold eqD at q
  split at q
  · rename_i hz
    rw [Bool.and_eq_true] at hz
    exact ⟨x, y, r1.dp (nodc_shaped hz.1), r2.dp (nodc_shaped hz.2), hz.1, hz.2, q _ H Fz .refl (.bl _)⟩
  · exact q.elim
theorem od_ne (hu : X.A.units + 64 < cLine) : OpD X (compareOp .NotEq) (rNeD X.K) neD := by
  refine .of (op_neD hu) fun Fz H x y v u Q hl r1 r2 q => ?_
  unfold neD at q
  split at q
  · rename_i hz
    rw [Bool.and_eq_true] at hz
    exact ⟨x, y, r1.dp (nodc_shaped hz.1), r2.dp (nodc_shaped hz.2), hz.1, hz.2, q _ H Fz .refl (.bl _)⟩
  · exact q.elim
theorem eqD_ne : NoErr eqD := fun x y z => by
  unfold eqD
  split <;> exact True.intro
theorem neD_ne : NoErr neD := fun x y z => by
  unfold neD
  split <;> exact True.intro
/-- < and its like, of data that are alike -/
def cmpOk (x y : PyData) : Bool := PySem.W.alike x y && (match x with | .none => false | _ => true) && decide (x.depth ≤ 64) && nodc x && nodc y
def ltD (x y : PyData) : Res PyData := if cmpOk x y then .ok (.bool (PySem.W.dataLt x y)) else .bot
def gtD (x y : PyData) : Res PyData := if cmpOk x y then .ok (.bool (PySem.W.dataLt y x)) else .bot
def leD (x y : PyData) : Res PyData := if cmpOk x y then .ok (.bool (!PySem.W.dataLt y x)) else .bot
def geD (x y : PyData) : Res PyData := if cmpOk x y then .ok (.bool (!PySem.W.dataLt x y)) else .bot
def rCmpD (K : PySem.W.Frag) (g : PyData → PyData → Bool) : R2 := fun x y H Q => ∃ d e, Dp K H x d ∧ Dp K H y e ∧ cmpOk d e = true ∧ Q (.bl (g d e)) H
theorem cmpOk_iff {A : Around} (hu : A.units + 64 < cLine) {x y : PyData} (h : cmpOk x y = true) : PySem.W.alike x y = true ∧ x ≠ .none ∧ A.units + min x.depth y.depth < cLine := by
  unfold cmpOk at h
  rw [Bool.and_eq_true, Bool.and_eq_true, Bool.and_eq_true, Bool.and_eq_true, decide_eq_true_eq] at h
  obtain ⟨⟨⟨⟨h1, h2⟩, h3⟩, _⟩, _⟩ := h
  refine ⟨h1, (fun e => by subst e; cases h2), ?_⟩
  have := Nat.min_le_left x.depth y.depth
  omega
theorem cmpOk_nd {x y : PyData} (h : cmpOk x y = true) : nodc x = true ∧ nodc y = true := by
  unfold cmpOk at h
  rw [Bool.and_eq_true, Bool.and_eq_true] at h
  exact ⟨h.1.2, h.2⟩
theorem op_ltD (hu : X.A.units + 64 < cLine) : OpR X (compareOp .Lt) (rCmpD X.K fun d e => PySem.W.dataLt d e) := by
  intro pins s σ H x y v u Q I rx ry h
  obtain ⟨d, e, hd, he, sd, q⟩ := h
  obtain ⟨as, r1⟩ := Dp.reads I d x v hd rx
  obtain ⟨bs, r2⟩ := Dp.reads I e y u he ry
  obtain ⟨h1, h2, h3⟩ := cmpOk_iff hu sd
  exact PySem.W.lt_data r1 r2 h1 h2 h3 ⟨.bl _, H, I, rfl, q⟩
theorem op_gtD (hu : X.A.units + 64 < cLine) : OpR X (compareOp .Gt) (rCmpD X.K fun d e => PySem.W.dataLt e d) := by
  intro pins s σ H x y v u Q I rx ry h
  obtain ⟨d, e, hd, he, sd, q⟩ := h
  obtain ⟨as, r1⟩ := Dp.reads I d x v hd rx
  obtain ⟨bs, r2⟩ := Dp.reads I e y u he ry
  obtain ⟨h1, h2, h3⟩ := cmpOk_iff hu sd
  exact PySem.W.gt_data r1 r2 h1 h2 h3 ⟨.bl _, H, I, rfl, q⟩
theorem op_leD (hu : X.A.units + 64 < cLine) : OpR X (compareOp .LtE) (rCmpD X.K fun d e => !PySem.W.dataLt e d) := by
  intro pins s σ H x y v u Q I rx ry h
  obtain ⟨d, e, hd, he, sd, q⟩ := h
  obtain ⟨as, r1⟩ := Dp.reads I d x v hd rx
  obtain ⟨bs, r2⟩ := Dp.reads I e y u he ry
  obtain ⟨h1, h2, h3⟩ := cmpOk_iff hu sd
  exact PySem.W.le_data r1 r2 h1 h2 h3 ⟨.bl _, H, I, rfl, q⟩
theorem op_geD (hu : X.A.units + 64 < cLine) : OpR X (compareOp .GtE) (rCmpD X.K fun d e => !PySem.W.dataLt d e) := by
  intro pins s σ H x y v u Q I rx ry h
  obtain ⟨d, e, hd, he, sd, q⟩ := h
  obtain ⟨as, r1⟩ := Dp.reads I d x v hd rx
  obtain ⟨bs, r2⟩ := Dp.reads I e y u he ry
  obtain ⟨h1, h2, h3⟩ := cmpOk_iff hu sd
  exact PySem.W.ge_data r1 r2 h1 h2 h3 ⟨.bl _, H, I, rfl, q⟩
theorem cmpD_of {f : Value → Value → Sem Value} {g : PyData → PyData → Bool} (h : OpR X f (rCmpD X.K g)) : OpD X f (rCmpD X.K g) (fun x y => if cmpOk x y then .ok (.bool (g x y)) else .bot) := by
  refine .of h fun Fz H x y v u Q hl r1 r2 q => ?_
  try dsimp only at q
  split at q
  · rename_i hz
    exact ⟨x, y, r1.dp (cmpOk_nd hz).1, r2.dp (cmpOk_nd hz).2, hz, q _ H Fz .refl (.bl _)⟩
  · exact q.elim
theorem cmpD_ne {g : PyData → PyData → Bool} : NoErr (fun x y => if cmpOk x y then .ok (.bool (g x y)) else .bot) := fun x y z => by
  dsimp only
  split <;> exact True.intro
theorem od_lt (hu : X.A.units + 64 < cLine) : OpD X (compareOp .Lt) (rCmpD X.K fun d e => PySem.W.dataLt d e) ltD := cmpD_of (op_ltD hu)
theorem od_gt (hu : X.A.units + 64 < cLine) : OpD X (compareOp .Gt) (rCmpD X.K fun d e => PySem.W.dataLt e d) gtD := cmpD_of (op_gtD hu)
theorem od_le (hu : X.A.units + 64 < cLine) : OpD X (compareOp .LtE) (rCmpD X.K fun d e => !PySem.W.dataLt e d) leD := cmpD_of (op_leD hu)
theorem od_ge (hu : X.A.units + 64 < cLine) : OpD X (compareOp .GtE) (rCmpD X.K fun d e => !PySem.W.dataLt d e) geD := cmpD_of (op_geD hu)
theorem ltD_ne : NoErr ltD := cmpD_ne
theorem gtD_ne : NoErr gtD := cmpD_ne
theorem leD_ne : NoErr leD := cmpD_ne
theorem geD_ne : NoErr geD := cmpD_ne
/-- x is None, x is not None -/
def isNone : PyData → Bool | .none => true | _ => false
def isD (x y : PyData) : Res PyData := match y with | .none => .ok (.bool (isNone x)) | .bool b => (match x with | .bool a => .ok (.bool (a == b)) | _ => .bot) | _ => .bot
def isnD (x y : PyData) : Res PyData := match y with | .none => .ok (.bool (!isNone x)) | .bool b => (match x with | .bool a => .ok (.bool (!(a == b))) | _ => .bot) | _ => .bot
theorem isD_ne : NoErr isD := fun x y z => by
  unfold isD
  split
  · exact True.intro
  · split <;> exact True.intro
  · exact True.intro
theorem isnD_ne : NoErr isnD := fun x y z => by
  unfold isnD
  split
  · exact True.intro
  · split <;> exact True.intro
  · exact True.intro
theorem Rep.non_iff {K : PySem.W.Frag} {Fz : FZ} {H : Hp} {v : V} {d : PyData} (r : Rep K Fz H v d) : decide (v = .non) = isNone d := by
  cases r <;> rfl

abbrev rIsD : R2 := fun x y H Q => (y = .non ∧ Q (.bl (decide (x = .non))) H) ∨ ∃ a b, x = .bl a ∧ y = .bl b ∧ Q (.bl (decide (a = b))) H
theorem od_is : OpD X (compareOp .Is) rIsD isD := by
  refine .of (op_isN.or op_is_bl) fun Fz H x y v u Q hl r1 r2 q => ?_
  unfold isD at q
  cases y with
  | none =>
    cases r2
    exact .inl ⟨rfl, by rw [r1.non_iff]; exact q _ H Fz .refl (.bl _)⟩
  | bool b =>
    cases x with
    | bool a =>
      cases r1
      cases r2
      exact .inr ⟨a, b, rfl, rfl, by rw [show decide (a = b) = (a == b) by cases a <;> cases b <;> rfl]; exact q _ H Fz .refl (.bl _)⟩
    | _ => exact q.elim
  | _ => exact q.elim
abbrev rIsnD : R2 := fun x y H Q => (y = .non ∧ Q (.bl (!decide (x = .non))) H) ∨ ∃ a b, x = .bl a ∧ y = .bl b ∧ Q (.bl (!decide (a = b))) H
theorem od_isn : OpD X (compareOp .IsNot) rIsnD isnD := by
  refine .of (op_notN.or op_isnot_bl) fun Fz H x y v u Q hl r1 r2 q => ?_
  unfold isnD at q
  cases y with
  | none =>
    cases r2
    exact .inl ⟨rfl, by rw [r1.non_iff]; exact q _ H Fz .refl (.bl _)⟩
  | bool b =>
    cases x with
    | bool a =>
      cases r1
      cases r2
      exact .inr ⟨a, b, rfl, rfl, by rw [show decide (a = b) = (a == b) by cases a <;> cases b <;> rfl]; exact q _ H Fz .refl (.bl _)⟩
    | _ => exact q.elim
  | _ => exact q.elim

/-! ### x in xs -/
def inD (x y : PyData) : Res PyData := match y with
  | .list ds => if SeqAt.shaped x && SeqAt.shaped (.list ds) then .ok (.bool (ds.any fun z => PyData.eqv z x)) else .bot
  | .tuple ds => if SeqAt.shaped x && SeqAt.shaped (.tuple ds) then .ok (.bool (ds.any fun z => PyData.eqv z x)) else .bot
  | _ => .bot
def ninD (x y : PyData) : Res PyData := match y with
  | .list ds => if SeqAt.shaped x && SeqAt.shaped (.list ds) then .ok (.bool (!ds.any fun z => PyData.eqv z x)) else .bot
  | .tuple ds => if SeqAt.shaped x && SeqAt.shaped (.tuple ds) then .ok (.bool (!ds.any fun z => PyData.eqv z x)) else .bot
  | _ => .bot
theorem inD_ne : NoErr inD := fun x y z => by
  unfold inD
  split <;> first
    | exact True.intro
    | (split <;> exact True.intro)
theorem ninD_ne : NoErr ninD := fun x y z => by
  unfold ninD
  split <;> first
    | exact True.intro
    | (split <;> exact True.intro)
def rInT (K : PySem.W.Frag) (neg : Bool) : R2 := fun x y H Q => ∃ d ds, Dp K H x d ∧ Dp K H y (.tuple ds) ∧ SeqAt.shaped d = true ∧ SeqAt.shaped (.tuple ds) = true ∧ Q (.bl (if neg then !ds.any fun z => PyData.eqv z d else ds.any fun z => PyData.eqv z d)) H
theorem room_in_t {A : Around} {d : PyData} {ds : List PyData} (h : SeqAt.shaped d = true) (hu : A.units + 65 < cLine) : A.units + 1 + min (PyData.depthAll ds) d.depth < cLine := by
  have h1 := SeqAt.depth_of_shaped h
  have h2 : min (PyData.depthAll ds) d.depth ≤ d.depth := Nat.min_le_right _ _
  omega
theorem op_inT (hu : X.A.units + 65 < cLine) : OpR X (compareOp .In) (rInT X.K false) := by
  intro pins s σ H x y v u Q I rx ry h
  obtain ⟨d, ds, hd, he, sd, se, q⟩ := h
  obtain ⟨as, r1⟩ := Dp.reads I d x v hd rx
  obtain ⟨bs, r2⟩ := Dp.reads I (.tuple ds) y u he ry
  exact SeqAt.in_tuple_reads r2 r1 (SeqAt.canLay_of_shaped se) (SeqAt.canLay_of_shaped sd) (room_in_t sd hu) ⟨.bl _, H, I, rfl, q⟩
theorem op_ninT (hu : X.A.units + 65 < cLine) : OpR X (compareOp .NotIn) (rInT X.K true) := by
  intro pins s σ H x y v u Q I rx ry h
  obtain ⟨d, ds, hd, he, sd, se, q⟩ := h
  obtain ⟨as, r1⟩ := Dp.reads I d x v hd rx
  obtain ⟨bs, r2⟩ := Dp.reads I (.tuple ds) y u he ry
  exact SeqAt.notIn_tuple_reads r2 r1 (SeqAt.canLay_of_shaped se) (SeqAt.canLay_of_shaped sd) (room_in_t sd hu) ⟨.bl _, H, I, rfl, q⟩
abbrev rInA (K : PySem.W.Frag) : R2 := fun x y H Q => rInD K x y H Q ∨ rInT K false x y H Q
theorem od_in (hu : X.A.units + 65 < cLine) : OpD X (compareOp .In) (rInA X.K) inD := by
  refine .of ((op_inD hu).or (op_inT hu)) fun Fz H x y v u Q hl r1 r2 q => ?_
  unfold inD at q
  cases y with
  | list ds =>
    dsimp only at q
    split at q
    · rename_i hz
      rw [Bool.and_eq_true] at hz
      exact .inl ⟨x, ds, r1.dp (nodc_shaped hz.1), r2.dp (nodc_shaped hz.2), hz.1, hz.2, q _ H Fz .refl (.bl _)⟩
    · exact q.elim
  | tuple ds =>
    dsimp only at q
    split at q
    · rename_i hz
      rw [Bool.and_eq_true] at hz
      exact .inr ⟨x, ds, r1.dp (nodc_shaped hz.1), r2.dp (nodc_shaped hz.2), hz.1, hz.2, q _ H Fz .refl (.bl _)⟩
    · exact q.elim
  | _ => exact q.elim
abbrev rNinA (K : PySem.W.Frag) : R2 := fun x y H Q => rNotInD K x y H Q ∨ rInT K true x y H Q
theorem od_nin (hu : X.A.units + 65 < cLine) : OpD X (compareOp .NotIn) (rNinA X.K) ninD := by
  refine .of ((op_notInD hu).or (op_ninT hu)) fun Fz H x y v u Q hl r1 r2 q => ?_
  unfold ninD at q
  cases y with
  | list ds =>
    dsimp only at q
    split at q
    · rename_i hz
      rw [Bool.and_eq_true] at hz
      exact .inl ⟨x, ds, r1.dp (nodc_shaped hz.1), r2.dp (nodc_shaped hz.2), hz.1, hz.2, q _ H Fz .refl (.bl _)⟩
    · exact q.elim
  | tuple ds =>
    dsimp only at q
    split at q
    · rename_i hz
      rw [Bool.and_eq_true] at hz
      exact .inr ⟨x, ds, r1.dp (nodc_shaped hz.1), r2.dp (nodc_shaped hz.2), hz.1, hz.2, q _ H Fz .refl (.bl _)⟩
    · exact q.elim
  | _ => exact q.elim
end
end DL

set_option Elab.async false
set_option linter.all false
set_option maxRecDepth 100000
set_option maxHeartbeats 4000000
namespace DL
open PySem PySem.Spec L2
open PyProof.Rows hiding St
section
variable {X : Cx} {W : WS} {U : XK} {S T : List Nat} {e a b c : Expr} {es : List Expr} {pos p : Pos} {te ta tb : TE} {t : TA}
theorem AOK.at {K : PySem.W.Frag} {mg : Str → Option Value} {Fz : FZ} {H : Hp} {ds : List PyData} {vs : List V} {Q : List V → Hp → Prop} (h : AOK K mg U Fz H (.ok ds) Q) (r : RepAll K Fz H vs ds) : Q vs H := h vs H Fz .refl r
theorem da_nil : DA X W [] [] tNil (fun _ => .ok []) := ⟨pa_nil, fun _ ds h => by cases (show [] = ds from h); rfl, fun Fz σ H δ Q _ _ h => h.at .nil⟩
theorem da_cons {f : DSt → Res PyData} {g : DSt → Res (List PyData)} (ha : DE X W S e te f) (hr : DA X W T es t g) (hs : starEach (e :: es) X.env = (false, eval e X.env) :: starEach es X.env := by rfl) : DA X W (S ++ T) (e :: es) (tCons te t) (fun δ => do let x ← f δ; let xs ← g δ; .ok (x :: xs)) := by
  refine ⟨pa_cons ha.pe hr.pe hs, fun δ ds h => ?_, fun Fz σ H δ Q hd hl h => ?_⟩
  · obtain ⟨x, _, h⟩ := can_bind h
    obtain ⟨xs, hg, h⟩ := can_bind h
    cases (show x :: xs = ds from h)
    rw [List.length_cons, List.length_cons, hr.len δ xs hg]
  unfold AOK at h
  rw [wp_bind] at h
  refine ha.ok Fz σ H δ _ hd.left hl (wp_mono h (fun x hx v H1 F1 g1 r1 => ?_) fun x hx => hx)
  rw [wp_bind] at hx
  refine hr.ok F1 σ H1 δ _ (hd.right.grow g1) (g1.live hl) (wp_mono hx (fun xs hxs vs H2 F2 g2 r2 => ?_) fun x hx c oe H2 F2 g2 => hx c oe H2 F2 (g1.trans g2))
  exact hxs (v :: vs) H2 F2 (g1.trans g2) (.cons (r1.grow g2) r2)
/-- a tuple, a list of written items -/
def tupD (ds : List PyData) : Res PyData := if ds.length ≤ sizeLine then .ok (.tuple ds) else .bot
theorem de_tup {x1} {f : DSt → Res (List PyData)} (h : DA X W S es t f) : DE X W S (.Tuple es x1 pos) (tTup t) (fun δ => do let xs ← f δ; tupD xs) := by
  refine ⟨pe_tup h.pe, fun Fz σ H δ Q hd hl hq => ?_⟩
  unfold EOK at hq
  rw [wp_bind] at hq
  refine h.ok Fz σ H δ _ hd hl (wp_mono hq (fun ds hx vs H1 F1 g1 r1 => ?_) fun x hx => hx)
  unfold tupD at hx
  split at hx
  · rename_i hz
    exact ⟨by rw [r1.length]; exact hz, fun p np => hx _ _ F1 (g1.trans (.nw np)) (.tup (.of upd_same) hz (r1.grow (.nw np)))⟩
  · exact hx.elim
def lstD (ds : List PyData) : Res (List PyData) := if ds.length ≤ sizeLine then .ok ds else .bot
theorem notFz {Fz Fz' : FZ} {H H' : Hp} (g : Grow Fz H Fz' H') (hl : Live Fz H) {p : Addr} (np : H' p = none) : ¬ Fz' p := fun z => g.live hl p z np
theorem df_lst {f : DSt → Res (List PyData)} (h : DA X W S es t f) : DF X W S (.List es pos) (tLst t) (fun δ => do let xs ← f δ; lstD xs) := by
  refine ⟨pe_lst h.pe, fun Fz σ H δ Q hd hl hq => ?_⟩
  unfold LOK at hq
  rw [wp_bind] at hq
  refine h.ok Fz σ H δ _ hd hl (wp_mono hq (fun ds hx vs H1 F1 g1 r1 => ?_) fun x hx => hx)
  unfold lstD at hx
  split at hx
  · rename_i hz
    exact ⟨by rw [r1.length]; exact hz, fun p np => hx p vs _ F1 (g1.trans (.nw np)) (none_of_same g1.same np) (notFz g1 hl np) upd_same hz (r1.grow (.nw np))⟩
  · exact hx.elim
/-- a new list as a value -/
theorem de_of_df {f : DSt → Res (List PyData)} (h : DF X W S e te f) : DE X W S e te (fun δ => do let xs ← f δ; .ok (.list xs)) := by
  refine ⟨h.pe, fun Fz σ H δ Q hd hl hq => ?_⟩
  unfold EOK at hq
  rw [wp_bind] at hq
  refine h.ok Fz σ H δ _ hd hl (wp_mono hq (fun ds hx p vs H1 F1 g1 np nf e z r1 => ?_) fun x hx => hx)
  have g2 : Grow Fz H (fun a => F1 a ∨ a = p) H1 := ⟨g1.same, fun a h => .inl (g1.sub a h), fun a z => z.elim (g1.new a) fun e' => .inr (e' ▸ np), fun l a z q => by
    rcases z with z | z
    · exact g1.live l a z q
    · subst z
      rw [e] at q
      cases q⟩
  exact hx _ _ _ g2 (.lst (.inl ⟨e, .inr rfl⟩) z (r1.stay (.of_same fun _ _ e => e) fun _ h => .inl h))

/-! ### built-ins -/
abbrev E0 : XK := fun _ _ _ => False
structure CallD (X : Cx) (f : Value) (r : List V → Hp → VK → Prop) (g : List PyData → Res PyData) : Prop where
  call : CallR X f r
  ok : ∀ Fz H ds vs Q, Live Fz H → RepAll X.K Fz H vs ds → EOK X.K X.mg E0 Fz H (g ds) Q → r vs H Q
  ne : ∀ ds, Exn → (g ds).quiet
structure CallF (X : Cx) (f : Value) (r : List V → Hp → VK → Prop) (g : List PyData → Res (List PyData)) : Prop where
  call : CallR X f r
  ok : ∀ Fz H ds vs Q, Live Fz H → RepAll X.K Fz H vs ds → LOK X.K X.mg E0 Fz H (g ds) Q → r vs H Q
  ne : ∀ ds, Exn → (g ds).quiet
variable {id : String} {r : List V → Hp → VK → Prop} {x : Str} {fv : Value}
theorem tCB_ok {f : DSt → Res (List PyData)} {g : List PyData → Res PyData} (c : CallD X fv r g) (ha : DA X W S es t f) :
    ∀ Fz σ H δ Q, RdOn X.K S Fz H σ δ → Live Fz H → EOK X.K X.mg (W σ) Fz H (do let ds ← f δ; g ds) Q → t σ H fun vs H1 => r vs H1 Q := fun Fz σ H δ Q hd hl h => by
  unfold EOK at h
  rw [wp_bind] at h
  refine ha.ok Fz σ H δ _ hd hl (wp_mono h (fun ds hx vs H1 F1 g1 r1 => ?_) fun x hx => hx)
  exact c.ok F1 H1 ds vs Q (g1.live hl) r1 (eok_weak (c.ne ds) g1 hx)
theorem tCF_ok {f : DSt → Res (List PyData)} {g : List PyData → Res (List PyData)} (c : CallF X fv r g) (ha : DA X W S es t f) :
    ∀ Fz σ H δ Q, RdOn X.K S Fz H σ δ → Live Fz H → LOK X.K X.mg (W σ) Fz H (do let ds ← f δ; g ds) Q → t σ H fun vs H1 => r vs H1 Q := fun Fz σ H δ Q hd hl h => by
  unfold LOK at h
  rw [wp_bind] at h
  refine ha.ok Fz σ H δ _ hd hl (wp_mono h (fun ds hx vs H1 F1 g1 r1 => ?_) fun x hx => hx)
  refine c.ok F1 H1 ds vs Q (g1.live hl) r1 ?_
  exact wp_quiet (c.ne ds ⟨"", none⟩) (wp_mono hx (fun ys hx p vs' H2 F2 g2 np nf e z r2 => hx p vs' H2 F2 (g1.trans g2) (none_of_same g1.same np) nf e z r2) fun x h => h)
theorem de_cb {f : DSt → Res (List PyData)} {g : List PyData → Res PyData} (c : CallD X (.builtin id) r g) (hg : Gl X x) (hm : X.mg x = none) (hv : bootBuiltins x = some (.builtin id)) (ha : DA X W S (e :: es) t f) (hn : x ≠ "__name__" := by decide) (hdb : (x == ("__debug__" : Str)) = false := by decide)
    (he : starEach (e :: es) X.env = (false, eval e X.env) :: starEach es X.env := by rfl) (hpl : (backTo pos (starEach es X.env)).any (·.1) = false := by rfl) : DE X W S (.Call (.Name x p) (e :: es) [] pos) (tCB r t) (fun δ => do let ds ← f δ; g ds) :=
  ⟨pe_callB c.call hg hm hv ha.pe hn hdb he hpl, tCB_ok c ha⟩
theorem df_cb {f : DSt → Res (List PyData)} {g : List PyData → Res (List PyData)} (c : CallF X (.builtin id) r g) (hg : Gl X x) (hm : X.mg x = none) (hv : bootBuiltins x = some (.builtin id)) (ha : DA X W S (e :: es) t f) (hn : x ≠ "__name__" := by decide) (hdb : (x == ("__debug__" : Str)) = false := by decide)
    (he : starEach (e :: es) X.env = (false, eval e X.env) :: starEach es X.env := by rfl) (hpl : (backTo pos (starEach es X.env)).any (·.1) = false := by rfl) : DF X W S (.Call (.Name x p) (e :: es) [] pos) (tCB r t) (fun δ => do let ds ← f δ; g ds) :=
  ⟨pe_callB c.call hg hm hv ha.pe hn hdb he hpl, tCF_ok c ha⟩
theorem de_cty {f : DSt → Res (List PyData)} {g : List PyData → Res PyData} (c : CallD X (.type id) r g) (hg : Gl X x) (hm : X.mg x = none) (hv : bootBuiltins x = some (.type id)) (ha : DA X W S (e :: es) t f) (hn : x ≠ "__name__" := by decide) (hdb : (x == ("__debug__" : Str)) = false := by decide)
    (he : starEach (e :: es) X.env = (false, eval e X.env) :: starEach es X.env := by rfl) (hpl : (backTo pos (starEach es X.env)).any (·.1) = false := by rfl) : DE X W S (.Call (.Name x p) (e :: es) [] pos) (tCB r t) (fun δ => do let ds ← f δ; g ds) :=
  ⟨pe_callTy c.call hg hm hv ha.pe hn hdb he hpl, tCB_ok c ha⟩
theorem df_cty {f : DSt → Res (List PyData)} {g : List PyData → Res (List PyData)} (c : CallF X (.type id) r g) (hg : Gl X x) (hm : X.mg x = none) (hv : bootBuiltins x = some (.type id)) (ha : DA X W S (e :: es) t f) (hn : x ≠ "__name__" := by decide) (hdb : (x == ("__debug__" : Str)) = false := by decide)
    (he : starEach (e :: es) X.env = (false, eval e X.env) :: starEach es X.env := by rfl) (hpl : (backTo pos (starEach es X.env)).any (·.1) = false := by rfl) : DF X W S (.Call (.Name x p) (e :: es) [] pos) (tCB r t) (fun δ => do let ds ← f δ; g ds) :=
  ⟨pe_callTy c.call hg hm hv ha.pe hn hdb he hpl, tCF_ok c ha⟩

def intD (ds : List PyData) : Res PyData := match ds with | [.int i] => .ok (.int i) | [.bool k] => .ok (.int (if k then 1 else 0)) | _ => .bot
theorem cd_int : CallD X (.type "int") (fun xs H Q => (∃ i, xs = [.int i] ∧ Q (.int i) H) ∨ ∃ k, xs = [.bl k] ∧ Q (.int (if k then 1 else 0)) H) intD := by
  refine ⟨call_int1, fun Fz H ds vs Q hl r q => ?_, fun ds z => by unfold intD; split <;> exact True.intro⟩
  unfold intD at q
  split at q
  · cases r with | cons h r => cases h; cases r; exact .inl ⟨_, rfl, q.at (.int _)⟩
  · cases r with | cons h r => cases h; cases r; exact .inr ⟨_, rfl, q.at (.int _)⟩
  · exact q.elim
def absD (ds : List PyData) : Res PyData := match ds with | [.int i] => .ok (.int (if i < 0 then -i else i)) | _ => .bot
theorem cd_abs : CallD X (.builtin "abs") (fun xs H Q => ∃ i, xs = [.int i] ∧ Q (.int (if i < 0 then -i else i)) H) absD := by
  refine ⟨call_abs, fun Fz H ds vs Q hl r q => ?_, fun ds z => by unfold absD; split <;> exact True.intro⟩
  unfold absD at q
  split at q
  · cases r with | cons h r => cases h; cases r; exact ⟨_, rfl, q.at (.int _)⟩
  · exact q.elim
def maxD2 (ds : List PyData) : Res PyData := match ds with | [.int i, .int j] => .ok (.int (if j > i then j else i)) | _ => .bot
theorem cd_max2 (hc : X.calm = true) : CallD X (.builtin "max") (fun xs H Q => ∃ i j, xs = [.int i, .int j] ∧ Q (.int (if j > i then j else i)) H) maxD2 := by
  refine ⟨call_max2 hc, fun Fz H ds vs Q hl r q => ?_, fun ds z => by unfold maxD2; split <;> exact True.intro⟩
  unfold maxD2 at q
  split at q
  · cases r with | cons h r => cases h; cases r with | cons h r => cases h; cases r; exact ⟨_, _, rfl, q.at (.int _)⟩
  · exact q.elim
def minD2 (ds : List PyData) : Res PyData := match ds with | [.int i, .int j] => .ok (.int (if j < i then j else i)) | _ => .bot
theorem cd_min2 (hc : X.calm = true) : CallD X (.builtin "min") (fun xs H Q => ∃ i j, xs = [.int i, .int j] ∧ Q (.int (if j < i then j else i)) H) minD2 := by
  refine ⟨call_min2 hc, fun Fz H ds vs Q hl r q => ?_, fun ds z => by unfold minD2; split <;> exact True.intro⟩
  unfold minD2 at q
  split at q
  · cases r with | cons h r => cases h; cases r with | cons h r => cases h; cases r; exact ⟨_, _, rfl, q.at (.int _)⟩
  · exact q.elim
def lenD (ds : List PyData) : Res PyData := match ds with | [.list xs] => .ok (.int xs.length) | [.tuple xs] => .ok (.int xs.length) | [.str x] => if x.length ≤ sizeLine then .ok (.int x.length) else .bot | _ => .bot
theorem cd_len : CallD X (.builtin "len") (fun xs H Q => ∃ x n, xs = [x] ∧ LenV X.K x H n ∧ Q (.int n) H) lenD := by
  refine ⟨call_len, fun Fz H ds vs Q hl r q => ?_, fun ds z => by
    unfold lenD
    split <;> first
      | exact True.intro
      | (split <;> exact True.intro)⟩
  unfold lenD at q
  split at q
  · cases r with
    | cons h r =>
      cases r
      cases h with
      | lst h z rr => exact ⟨_, _, rfl, .inl ⟨_, h.sq, rr.length.symm⟩, q.at (.int _)⟩
  · cases r with
    | cons h r =>
      cases r
      cases h with
      | tup h z rr => exact ⟨_, _, rfl, .inr ⟨_, h.sq, rr.length.symm⟩, q.at (.int _)⟩
  · split at q
    · rename_i hz
      cases r with | cons h r => cases h; cases r; exact ⟨_, _, rfl, ⟨hz, rfl⟩, q.at (.int _)⟩
    · exact q.elim
  · exact q.elim
/-- all True or False -/
def allBl : List PyData → Option (List Bool)
  | [] => some []
  | .bool b :: r => (allBl r).map (b :: ·)
  | _ :: _ => none
theorem allBl_vs {K : PySem.W.Frag} {Fz : FZ} {H : Hp} : ∀ {vs : List V} {ds : List PyData} {bs : List Bool}, RepAll K Fz H vs ds → allBl ds = some bs → vs = bs.map V.bl
  | _, _, _, .nil, e => by cases e; rfl
  | _, _, _, .cons (d := d) h r, e => by
    cases d with
    | bool b =>
      cases h
      rw [allBl] at e
      cases q : allBl _ with
      | none => rw [q] at e; cases e
      | some bs =>
        rw [q] at e
        cases e
        rw [allBl_vs r q]
        rfl
    | _ => cases e
def allD (ds : List PyData) : Res PyData := match ds with | [.list xs] => (match allBl xs with | some bs => .ok (.bool (bs.all _root_.id)) | none => .bot) | _ => .bot
def anyD (ds : List PyData) : Res PyData := match ds with | [.list xs] => (match allBl xs with | some bs => .ok (.bool (bs.any _root_.id)) | none => .bot) | _ => .bot
theorem cd_all (hc : X.calm = true) : CallD X (.builtin "all") (rAll X.K) allD := by
  refine ⟨cr_all hc, fun Fz H ds vs Q hl r q => ?_, fun ds z => by
    unfold allD
    split <;> first
      | exact True.intro
      | (split <;> exact True.intro)⟩
  unfold allD at q
  split at q
  · split at q
    · rename_i bs hb
      cases r with
      | cons h r =>
        cases r
        cases h with
        | lst h z rr => exact ⟨_, bs, rfl, by rw [← allBl_vs rr hb]; exact h.sq, q.at (.bl _)⟩
    · exact q.elim
  · exact q.elim
theorem cd_any (hc : X.calm = true) : CallD X (.builtin "any") (rAny X.K) anyD := by
  refine ⟨cr_any hc, fun Fz H ds vs Q hl r q => ?_, fun ds z => by
    unfold anyD
    split <;> first
      | exact True.intro
      | (split <;> exact True.intro)⟩
  unfold anyD at q
  split at q
  · split at q
    · rename_i bs hb
      cases r with
      | cons h r =>
        cases r
        cases h with
        | lst h z rr => exact ⟨_, bs, rfl, by rw [← allBl_vs rr hb]; exact h.sq, q.at (.bl _)⟩
    · exact q.elim
  · exact q.elim
def tupleD (ds : List PyData) : Res PyData := match ds with | [.list xs] => .ok (.tuple xs) | [.tuple xs] => .ok (.tuple xs) | _ => .bot
theorem cd_tuple : CallD X (.type "tuple") (fun xs H Q => ∃ p ys, xs = [.ref p] ∧ ((SqL X.K H p ys ∧ ∀ l, H l = none → Q (.ref l) (upd H l (.tup ys))) ∨ (SqT X.K H p ys ∧ Q (.ref p) H))) tupleD := by
  refine ⟨call_tuple_of, fun Fz H ds vs Q hl r q => ?_, fun ds z => by unfold tupleD; split <;> exact True.intro⟩
  unfold tupleD at q
  split at q
  · cases r with
    | cons h r =>
      cases r
      cases h with
      | lst h z rr => exact ⟨_, _, rfl, .inl ⟨h.sq, fun l nl => q _ _ Fz (.nw nl) (.tup (.of upd_same) z (rr.grow (.nw nl)))⟩⟩
  · cases r with
    | cons h r =>
      cases r
      cases h with
      | tup h z rr => exact ⟨_, _, rfl, .inr ⟨h.sq, q.at (.tup h z rr)⟩⟩
  · exact q.elim
def listD (ds : List PyData) : Res (List PyData) := match ds with | [.list xs] => .ok xs | [.tuple xs] => .ok xs | _ => .bot
theorem cf_list : CallF X (.type "list") (fun xs H Q => ∃ p ys, xs = [.ref p] ∧ (SqL X.K H p ys ∨ SqT X.K H p ys) ∧ ∀ l, H l = none → Q (.ref l) (upd H l (.lst ys))) listD := by
  refine ⟨call_list_of, fun Fz H ds vs Q hl r q => ?_, fun ds z => by unfold listD; split <;> exact True.intro⟩
  unfold listD at q
  split at q
  · cases r with
    | cons h r =>
      cases r
      cases h with
      | lst h z rr => exact ⟨_, _, rfl, .inl h.sq, fun l nl => q l _ _ Fz (.nw nl) nl (notFz (H' := H) .refl hl nl) upd_same z (rr.grow (.nw nl))⟩
  · cases r with
    | cons h r =>
      cases r
      cases h with
      | tup h z rr => exact ⟨_, _, rfl, .inr h.sq, fun l nl => q l _ _ Fz (.nw nl) nl (notFz (H' := H) .refl hl nl) upd_same z (rr.grow (.nw nl))⟩
  · exact q.elim

/-! ### a[i], a[lo:hi] -/
def ixD (x y : PyData) : Res PyData := match x, y with
  | .list xs, .int i => (match atI xs i with | some d => .ok d | none => .bot)
  | .tuple xs, .int i => (match atI xs i with | some d => .ok d | none => .bot)
  | .str z, .int i => if z.length ≤ sizeLine then (match atI z.cps.toList i with | some c => .ok (.str ⟨#[c]⟩) | none => .bot) else .bot
  | _, _ => .bot
theorem ixD_ne : NoErr ixD := fun x y z => by
  unfold ixD
  split
  · split <;> exact True.intro
  · split <;> exact True.intro
  · split
    · split <;> exact True.intro
    · exact True.intro
  · exact True.intro
theorem atI_rep {K : PySem.W.Frag} {Fz : FZ} {H : Hp} {vs : List V} {ds : List PyData} {i : Int} {d : PyData} (r : RepAll K Fz H vs ds) (h : atI ds i = some d) : ∃ v, atI vs i = some v ∧ Rep K Fz H v d := by
  unfold atI at h ⊢
  rw [r.length]
  cases q : ixN ds.length i with
  | none => rw [q] at h; cases h
  | some j =>
    rw [q] at h
    exact r.get h
theorem de_ix {fa fb : DSt → Res PyData} (hs : PlainIx b) (ha : DE X W S a ta fa) (hb : DE X W T b tb fb) : DE X W (S ++ T) (.Subscript a b pos) (tOp (rIx X.K) ta tb) (fun δ => do let x ← fa δ; let y ← fb δ; ixD x y) := by
  refine ⟨pe_ix ix_seq ha.pe hb.pe hs, fun Fz σ H δ Q hd hl h => ?_⟩
  unfold EOK at h
  rw [wp_bind] at h
  refine two ha.ok hb.ok hd hl (wp_mono h (fun x hx => ?_) fun x hx => hx)
  rw [wp_bind] at hx
  refine wp_mono hx (fun y hy v u H' F' g' l' r1 r2 => ?_) fun x hx => hx
  have q : EOK X.K X.mg E0 F' H' (ixD x y) Q := eok_weak (ixD_ne x y) g' hy
  unfold ixD at q
  cases y with
  | int i =>
    cases r2
    cases x with
    | list xs =>
      dsimp only at q
      split at q
      · rename_i d hd'
        cases r1 with
        | lst h z rr =>
          obtain ⟨v, h1, h2⟩ := atI_rep rr hd'
          exact .inl ⟨_, _, i, v, rfl, rfl, h.sq, h1, q.at h2⟩
      · exact q.elim
    | tuple xs =>
      dsimp only at q
      split at q
      · rename_i d hd'
        cases r1 with
        | tup h z rr =>
          obtain ⟨v, h1, h2⟩ := atI_rep rr hd'
          exact .inr (.inl ⟨_, _, i, v, rfl, rfl, h.sq, h1, q.at h2⟩)
      · exact q.elim
    | str z =>
      dsimp only at q
      split at q
      · rename_i hz
        split at q
        · rename_i c hc
          cases r1
          exact .inr (.inr ⟨z, i, c, rfl, rfl, hz, hc, q.at (.str _)⟩)
        · exact q.elim
      · exact q.elim
    | _ => exact q.elim
  | _ => cases x <;> exact q.elim
/-- a part of a slice -/
structure DO (X : Cx) (W : WS) (S : List Nat) (e : Option Expr) (t : TO) (f : DSt → Res (Option Int)) : Prop where
  pe : PO X e t
  ok : ∀ Fz σ H δ (Q : Option Int → Hp → Prop), RdOn X.K S Fz H σ δ → Live Fz H → (f δ).wp (fun o => ∀ H' Fz', Grow Fz H Fz' H' → Q o H') (fun x => ∀ c oe H' Fz', Grow Fz H Fz' H' → ExR X.mg x c oe H' → W σ c oe H') → t σ H Q
theorem do_none : DO X W [] none tNoPart (fun _ => .ok none) := ⟨po_none, fun Fz σ H δ Q _ _ h => h H Fz .refl⟩
def asI (d : PyData) : Res (Option Int) := match d with | .int i => .ok (some i) | _ => .bot
theorem do_some {f : DSt → Res PyData} (h : DE X W S e te f) : DO X W S (some e) (tPart te) (fun δ => do let x ← f δ; asI x) := by
  refine ⟨po_some h.pe, fun Fz σ H δ Q hd hl hq => ?_⟩
  rw [wp_bind] at hq
  refine h.ok Fz σ H δ _ hd hl (wp_mono hq (fun x hx v H' F' g' r' => ?_) fun x hx => hx)
  cases x with
  | int i =>
    cases r'
    exact ⟨i, rfl, hx H' F' g'⟩
  | _ => exact hx.elim
def cutD (xs : List PyData) (lo hi : Option Int) : List PyData := (xs.drop (HT.sIx xs.length 0 lo)).take (HT.sIx xs.length xs.length hi - HT.sIx xs.length 0 lo)
theorem cut_rep {K : PySem.W.Frag} {Fz : FZ} {H : Hp} {vs : List V} {ds : List PyData} (r : RepAll K Fz H vs ds) (lo hi : Option Int) : RepAll K Fz H (cutV vs lo hi) (cutD ds lo hi) := by
  unfold cutV cutD
  rw [r.length]
  exact (r.drop _).take _
theorem cutD_length (xs : List PyData) (lo hi : Option Int) : (cutD xs lo hi).length ≤ xs.length := by
  unfold cutD
  rw [List.length_take, List.length_drop]
  omega
theorem cutD_whole (xs : List PyData) (lo hi : Option Int) (h : HT.sIx xs.length 0 lo = 0 ∧ HT.sIx xs.length xs.length hi = xs.length) : cutD xs lo hi = xs := by
  unfold cutD
  rw [h.1, h.2, List.drop_zero, Nat.sub_zero, List.take_length]
def sliceD (x : PyData) (lo hi : Option Int) : Res PyData := match x with
  | .list xs => .ok (.list (cutD xs lo hi))
  | .tuple xs => .ok (.tuple (cutD xs lo hi))
  | .str z => if z.length ≤ sizeLine then .ok (.str (cutS z lo hi)) else .bot
  | _ => .bot
variable {lo hi : Option Expr} {tl th : TO} {U : List Nat} {p2 : Pos}
abbrev rSlAll (K : PySem.W.Frag) : V → Option Int → Option Int → Hp → VK → Prop := fun x lo hi H Q => rSlL K x lo hi H Q ∨ rSlA K x lo hi H Q ∨ rSlS x lo hi H Q
theorem de_slice {f : DSt → Res PyData} {fl fh : DSt → Res (Option Int)} (ha : DE X W S a ta f) (hlo : DO X W T lo tl fl) (hhi : DO X W U hi th fh) : DE X W (S ++ (T ++ U)) (.Subscript a (.Slice lo hi none p2) pos) (tSl (rSlAll X.K) ta tl th) (fun δ => do let x ← f δ; let l ← fl δ; let u ← fh δ; sliceD x l u) := by
  refine ⟨pe_slice (sl_list.or (sl_tupA.or sl_str)) ha.pe hlo.pe hhi.pe, fun Fz σ H δ Q hd hl h => ?_⟩
  unfold EOK at h
  rw [wp_bind] at h
  refine ha.ok Fz σ H δ _ hd.left hl (wp_mono h (fun x hx v H1 F1 g1 r1 => ?_) fun x hx => hx)
  rw [wp_bind] at hx
  refine hlo.ok F1 σ H1 δ _ (hd.right.left.grow g1) (g1.live hl) (wp_mono hx (fun l hx H2 F2 g2 => ?_) fun x hx c oe H2 F2 g2 => hx c oe H2 F2 (g1.trans g2))
  rw [wp_bind] at hx
  refine hhi.ok F2 σ H2 δ _ (hd.right.right.grow (g1.trans g2)) (g2.live (g1.live hl)) (wp_mono hx (fun u hx H3 F3 g3 => ?_) fun x hx c oe H3 F3 g3 => hx c oe H3 F3 (g1.trans (g2.trans g3)))
  have r3 := r1.grow (g2.trans g3)
  have g := g1.trans (g2.trans g3)
  unfold sliceD at hx
  cases x with
  | list xs =>
    cases r3 with
    | lst hh z rr =>
      refine .inl ⟨_, _, rfl, hh.sq, fun p np => hx _ _ _ (g.trans (.frz np)) (.lst (.inl ⟨upd_same, .inr rfl⟩) (Nat.le_trans (cutD_length _ _ _) z) ((cut_rep rr l u).grow (.frz np)))⟩
  | tuple xs =>
    have r3' := r3
    cases r3 with
    | tup hh z rr =>
      refine .inr (.inl ⟨_, _, rfl, hh.sq, fun hw => ?_, fun hw p np => hx _ _ _ (g.trans (.nw np)) (.tup (.of upd_same) (Nat.le_trans (cutD_length _ _ _) z) ((cut_rep rr l u).grow (.nw np)))⟩)
      rw [rr.length] at hw
      refine hx _ _ _ g ?_
      rw [cutD_whole _ _ _ hw]
      exact r3'
  | str z =>
    dsimp only at hx
    split at hx
    · rename_i hz
      cases r3
      exact .inr (.inr ⟨z, rfl, hz, hx _ _ _ g (.str _)⟩)
    · exact hx.elim
  | _ => exact hx.elim

/-! ### isinstance(x, T) -/
def tyN : PyData → String
  | .none => "NoneType" | .bool _ => "bool" | .int _ => "int" | .str _ => "str" | .list _ => "list" | .tuple _ => "tuple" | .dict _ => "dict"
theorem Rep.ty {K : PySem.W.Frag} {Fz : FZ} {H : Hp} {v : V} {d : PyData} (r : Rep K Fz H v d) (np : isPool d = false) : TyX K H v (.type (tyN d)) := by
  cases r with
  | non => exact .base .non
  | bl b => exact .base (.bl b)
  | int i => exact .base (.int i)
  | str x => exact .base (.str x)
  | lst h _ _ =>
    rcases h with ⟨h, _⟩ | ⟨o, h⟩ | ⟨o, its, n, h, hc, _⟩
    · exact .base (.lst h)
    · exact .base (.frz h)
    · exact .kList h hc
  | dck h _ _ => exact .base (.dK h.1)
  | dct h _ _ => exact .base (.dT h.1)
  | pool _ _ _ _ _ => cases np
  | nl _ _ _ => cases np
  | tup h _ _ =>
    rcases h.sq with (h | ⟨o, h⟩) | ⟨o, its, n, h, hc, _⟩
    · exact .base (.tup h)
    · exact .fTuple h
    · exact .kTuple h hc
def isiD (T : String) (d : PyData) : Res PyData := if isPool d = true then .bot else match kitB (tyN d) T with | some b => .ok (.bool b) | none => .bot
theorem de_isi {f : DSt → Res PyData} {T : String} {nm : Str} {p3 : Pos} (hg : Gl X "isinstance") (hm : X.mg "isinstance" = none) (hg2 : Gl X nm) (hm2 : X.mg nm = none) (hv : bootBuiltins nm = some (.type T)) (ha : DE X W S e te f) (hn : nm ≠ "__name__" := by decide) (hdb : (nm == ("__debug__" : Str)) = false := by decide)
    (hs : starEach [e, .Name nm p3] X.env = (false, eval e X.env) :: starEach [.Name nm p3] X.env := by rfl) (hs2 : starEach [.Name nm p3] X.env = (false, eval (.Name nm p3) X.env) :: starEach [] X.env := by rfl) (hpl : (backTo pos (starEach [.Name nm p3] X.env)).any (·.1) = false := by rfl) :
    DE X W S (.Call (.Name "isinstance" p) [e, .Name nm p3] [] pos) (tCB (rIsi X.K) (tCons te (tCons (tC (.ty T)) tNil))) (fun δ => do let x ← f δ; isiD T x) := by
  refine ⟨pe_callB call_isi hg hm (by decide +kernel) (pa_cons ha.pe (pa_cons (pe_bltn hg2 hm2 hv rfl hn hdb) pa_nil hs2) hs) (by decide) (by decide) hs hpl, fun Fz σ H δ Q hd hl h => ?_⟩
  unfold EOK at h
  rw [wp_bind] at h
  refine ha.ok Fz σ H δ _ hd hl (wp_mono h (fun x hx v H1 F1 g1 r1 => ?_) fun x hx => hx)
  unfold isiD at hx
  split at hx
  · exact hx.elim
  · rename_i np
    split at hx
    · rename_i b hb
      exact ⟨v, .ty T, _, .type T, b, rfl, .ty T, r1.ty (by simpa using np), kit_ty hb, hx _ _ _ g1 (.bl _)⟩
    · exact hx.elim

/-! ### truth -/
def truD (d : PyData) : Res Bool := match d with
  | .none => .ok false | .bool b => .ok b | .int i => .ok (i != 0) | .str x => if x.length ≤ sizeLine then .ok ((x.length : Int) != 0) else .bot
  | .list xs => .ok (!xs.isEmpty) | .tuple xs => .ok (!xs.isEmpty) | .dict _ => .bot
theorem isEmpty_rep {K : PySem.W.Frag} {Fz : FZ} {H : Hp} {vs : List V} {ds : List PyData} (r : RepAll K Fz H vs ds) : (!ds.isEmpty) = !vs.isEmpty := by
  cases r <;> rfl
theorem dt_truth {f : DSt → Res PyData} (ha : DE X W S e te f) (he : ∀ whole, PySem.isTrue e X.env whole = (do let v ← whole; standAt e.pos; holding [v] (truthy v)) := by intro _; rfl) : DT X W S e (fun σ H Q => te σ H fun x H' => ∃ k, TruV X.K x H' k ∧ Q k H') (fun δ => do let x ← f δ; truD x) := by
  refine ⟨pt_truth ha.pe he, fun Fz σ H δ Q hd hl h => ?_⟩
  unfold BOK at h
  rw [wp_bind] at h
  refine ha.ok Fz σ H δ _ hd hl (wp_mono h (fun x hx v H1 F1 g1 r1 => ?_) fun x hx => hx)
  unfold truD at hx
  cases r1 with
  | non => exact ⟨_, rfl, hx _ _ g1⟩
  | bl b => exact ⟨_, rfl, hx _ _ g1⟩
  | int b => exact ⟨_, rfl, hx _ _ g1⟩
  | str b =>
    dsimp only at hx
    split at hx
    · rename_i hz
      exact ⟨_, ⟨hz, rfl⟩, hx _ _ g1⟩
    · exact hx.elim
  | lst h z rr => exact ⟨_, .inl ⟨_, h.sq, isEmpty_rep rr⟩, hx _ _ g1⟩
  | tup h z rr => exact ⟨_, .inr (.inl ⟨_, h.sq, isEmpty_rep rr⟩), hx _ _ g1⟩
  | dck h _ _ => exact hx.elim
  | dct h _ _ => exact hx.elim
  | pool _ _ _ _ _ => exact hx.elim
  | nl _ _ _ => exact hx.elim
end
end DL

set_option Elab.async false
set_option linter.all false
set_option maxRecDepth 100000
set_option maxHeartbeats 4000000
namespace DL
open PySem PySem.Spec L2
open PyProof.Rows hiding St

/-! ### targets -/
def bindN : List Nat → List PyData → DSt → Res DSt
  | [], [], δ => .ok δ
  | i :: is, d :: ds, δ => bindN is ds (δ.set i (some (.val d)))
  | _, _, _ => .bot
inductive Pat where
  | nm (i : Nat)
  | tp (is : List Nat)
def Pat.slots : Pat → List Nat
  | .nm i => [i]
  | .tp is => is
def bindP : Pat → PyData → DSt → Res DSt
  | .nm i, d, δ => .ok (δ.set i (some (.val d)))
  | .tp is, .tuple ds, δ => bindN is ds δ
  | .tp is, .list ds, δ => bindN is ds δ
  | .tp _, _, _ => .bot
/-- a relation of states that a store keeps -/
abbrev Sets (K : PySem.W.Frag) (Fz : FZ) (H : Hp) (is : List Nat) (P : St → DSt → Prop) : Prop := ∀ σ δ i v d, i ∈ is → P σ δ → Rep K Fz H v d → P (σ.set i (some v)) (δ.set i (some (.val d)))
structure DG (X : Cx) (tg : Expr) (g : TG) (p : Pat) : Prop where
  pe : PG X tg g
  ok : ∀ Fz H (P : L2.St → DSt → Prop) x d σ δ (Q : L2.St → Hp → Prop), Sets X.K Fz H p.slots P → P σ δ → Rep X.K Fz H x d → (bindP p d δ).wp (fun δ' => ∀ σ', P σ' δ' → Q σ' H) (fun _ => False) → g x σ H Q
structure DGs (X : Cx) (tgs : List Expr) (g : TGs) (is : List Nat) : Prop where
  pe : PGs X tgs g
  ok : ∀ Fz H (P : L2.St → DSt → Prop) xs ds σ δ (Q : L2.St → Hp → Prop), Sets X.K Fz H is P → P σ δ → RepAll X.K Fz H xs ds → (bindN is ds δ).wp (fun δ' => ∀ σ', P σ' δ' → Q σ' H) (fun _ => False) → g xs σ H Q
section
variable {X : Cx} {W : WS} {U : XK} {S T : List Nat} {e a b c tg : Expr} {es tgs : List Expr} {pos p : Pos} {te ta tb : TE} {t : TA}
theorem dg_name {i : Nat} {x : Str} (hN : X.N.Nodup) (hi : X.N[i]? = some x) (hx : L2.Loc X.env.scope x) (hf : X.fn x = true ∨ X.env.scope.names.lookup x = some .local := by first | exact .inl rfl | exact .inr rfl | assumption) : DG X (.Name x pos) (gName i) (.nm i) :=
  ⟨pg_name hN hi hx hf, fun Fz H P x d σ δ Q hs hp r h => h _ (hs σ δ i x d (by simp [Pat.slots]) hp r)⟩
theorem dgs_nil : DGs X [] gNil [] := ⟨pgs_nil, fun Fz H P xs ds σ δ Q hs hp r h => by
  cases r with
  | nil => exact ⟨rfl, h _ hp⟩
  | cons _ _ => exact h.elim⟩
theorem dgs_cons {i : Nat} {x : Str} {is : List Nat} {g : TGs} (hN : X.N.Nodup) (hi : X.N[i]? = some x) (hx : L2.Loc X.env.scope x) (hr : DGs X tgs g is) (hf : X.fn x = true ∨ X.env.scope.names.lookup x = some .local := by first | exact .inl rfl | exact .inr rfl | assumption) : DGs X (.Name x pos :: tgs) (gCons (gName i) g) (i :: is) := by
  refine ⟨pgs_cons (pg_name hN hi hx hf) hr.pe, fun Fz H P xs ds σ δ Q hs hp r h => ?_⟩
  cases r with
  | nil => exact h.elim
  | cons h1 r =>
    exact ⟨_, _, rfl, hr.ok Fz H P _ _ _ _ Q (fun σ δ j v d hj => hs σ δ j v d (List.mem_cons_of_mem _ hj)) (hs σ δ i _ _ List.mem_cons_self hp h1) r h⟩
theorem bindN_len : ∀ (is : List Nat) (ds : List PyData) (δ : DSt) (Q : DSt → Prop), (bindN is ds δ).wp Q (fun _ => False) → ds.length = is.length
  | [], [], _, _, _ => rfl
  | _ :: is, _ :: ds, δ, Q, h => by rw [List.length_cons, List.length_cons, bindN_len is ds _ Q h]
  | [], _ :: _, _, _, h => h.elim
  | _ :: _, [], _, _, h => h.elim
theorem pg_or {tg : Expr} {g1 g2 : TG} (h1 : PG X tg g1) (h2 : PG X tg g2) : PG X tg (fun v σ H Q => g1 v σ H Q ∨ g2 v σ H Q) :=
  ⟨fun pins s σ H v u Q I r hw => hw.elim (h1.run pins s σ H v u Q I r) (h2.run pins s σ H v u Q I r)⟩
/-- a tuple or a list -/
abbrev gBoth (K : PySem.W.Frag) (n : Nat) (t : TGs) : TG := fun v σ H Q => gTup K n t v σ H Q ∨ gUnl K n t v σ H Q
theorem dg_tup {is : List Nat} {g : TGs} {kk : Nat} {n : Nat} (hc : X.calm = true) (h : DGs X tgs g is) (hn : is.length = n) (hlen : tgs.length = n := by rfl) (h2 : ∀ (pg : PGs X tgs g), PG X (.Tuple tgs kk pos) (gTup X.K n g) := by intro pg; exact pg_tup rfl pg) (h3 : ∀ (pg : PGs X tgs g), PG X (.Tuple tgs kk pos) (gUnl X.K n g) := by intro pg; exact pg_unl rfl pg) : DG X (.Tuple tgs kk pos) (gBoth X.K n g) (.tp is) := by
  refine ⟨pg_or (h2 h.pe) (h3 h.pe), fun Fz H P x d σ δ Q hs hp r q => ?_⟩
  cases d with
  | tuple ds =>
    cases r with
    | tup hh z rr =>
      exact .inl ⟨_, _, rfl, hh.sq, by rw [rr.length, bindN_len _ _ _ _ q, hn], h.ok Fz H P _ _ σ δ Q hs hp rr q⟩
  | list ds =>
    cases r with
    | lst hh z rr =>
      exact .inr ⟨_, _, rfl, hh.sq, by rw [rr.length, bindN_len _ _ _ _ q, hn], h.ok Fz H P _ _ σ δ Q hs hp rr q⟩
  | _ => exact q.elim

/-! ### what is walked -/
structure Serves (K : PySem.W.Frag) (Fz1 : FZ) (H1 : Hp) (J : It) (ds : List PyData) : Prop where
  item : ∀ Fz2 H2, Stay Fz1 H1 H2 → (∀ a, Fz1 a → Fz2 a) → Live Fz2 H2 → ∀ (i : Nat) d, ds[i]? = some d → J.go i H2 ∧ ∀ x H3, J.yld i H2 x H3 → ∃ Fz3, Grow Fz2 H2 Fz3 H3 ∧ Rep K Fz3 H3 x d
  stop : ∀ Fz2 H2, Stay Fz1 H1 H2 → (∀ a, Fz1 a → Fz2 a) → Live Fz2 H2 → J.stop ds.length H2
/-- what is wanted of a source -/
def IOK (K : PySem.W.Frag) (mg : Str → Option Value) (W : XK) (Fz : FZ) (H : Hp) (r : Res (List PyData)) (R : It → Hp → Prop) : Prop :=
  r.wp (fun ds => ∀ J H1 Fz1, Grow Fz H Fz1 H1 → Serves K Fz1 H1 J ds → R J H1) (fun x => ∀ c oe H' Fz', Grow Fz H Fz' H' → ExR mg x c oe H' → W c oe H')
structure DI (X : Cx) (W : WS) (S : List Nat) (tg iter : Expr) (wi : TI) (g : DSt → Res (List PyData)) : Prop where
  pe : PI X tg iter wi
  ok : ∀ Fz σ H δ R, RdOn X.K S Fz H σ δ → Live Fz H → IOK X.K X.mg (W σ) Fz H (g δ) R → wi σ H R
/-- .. whatever changes meanwhile: a range -/
structure DR (X : Cx) (W : WS) (S : List Nat) (tg iter : Expr) (wi : TI) (g : DSt → Res (List PyData)) : Prop where
  pe : PI X tg iter wi
  ok : ∀ Fz σ H δ (R : It → Hp → Prop), RdOn X.K S Fz H σ δ → Live Fz H → (g δ).wp (fun ds => ∀ J H1 Fz1, Grow Fz H Fz1 H1 → (∀ Fz2 H2, Serves X.K Fz2 H2 J ds) → R J H1) (fun x => ∀ c oe H' Fz', Grow Fz H Fz' H' → ExR X.mg x c oe H' → W σ c oe H') → wi σ H R
theorem DR.di {iter : Expr} {wi : TI} {g : DSt → Res (List PyData)} (h : DR X W S tg iter wi g) : DI X W S tg iter wi g :=
  ⟨h.pe, fun Fz σ H δ R hd hl q => h.ok Fz σ H δ R hd hl (wp_mono q (fun ds hx J H1 F1 g1 s => hx J H1 F1 g1 (s F1 H1)) fun x hx => hx)⟩
theorem serves_list {K : PySem.W.Frag} {Fz : FZ} {H : Hp} {a : Addr} {xs : List V} {ds : List PyData} (h : LsF K Fz H a xs) (rr : RepAll K Fz H xs ds) : Serves K Fz H (Itl K a) ds where
  item := fun Fz2 H2 s f l i d e => by
    obtain ⟨v, h1, h2⟩ := rr.get e
    have hq := (h.stay s f).sq (K := K)
    exact ⟨⟨xs, v, hq, h1⟩, fun x H3 ⟨e1, e2⟩ => by
      subst e1
      have := e2 xs hq
      rw [h1] at this
      cases this
      exact ⟨Fz2, .refl, h2.stay s f⟩⟩
  stop := fun Fz2 H2 s f l => ⟨xs, (h.stay s f).sq, by rw [rr.length]; exact Nat.le_refl _⟩
theorem serves_tup {K : PySem.W.Frag} {Fz : FZ} {H : Hp} {a : Addr} {xs : List V} {ds : List PyData} (h : SqT K H a xs) (rr : RepAll K Fz H xs ds) : Serves K Fz H (Itt K a) ds where
  item := fun Fz2 H2 s f l i d e => by
    obtain ⟨v, h1, h2⟩ := rr.get e
    have hq := SqT.stay s h
    exact ⟨⟨xs, v, hq, h1⟩, fun x H3 ⟨e1, e2⟩ => by
      subst e1
      have := e2 xs hq
      rw [h1] at this
      cases this
      exact ⟨Fz2, .refl, h2.stay s f⟩⟩
  stop := fun Fz2 H2 s f l => ⟨xs, SqT.stay s h, by rw [rr.length]; exact Nat.le_refl _⟩
/-- a list, a tuple or a text -/
def iSeq (K : PySem.W.Frag) (tl : TE) : TI := fun σ H R => tl σ H fun x H1 => (∃ a, x = .ref a ∧ (∃ xs, SqL K H1 a xs) ∧ R (Itl K a) H1) ∨ (∃ a, x = .ref a ∧ (∃ xs, SqT K H1 a xs) ∧ R (Itt K a) H1) ∨ ∃ z, x = .str z ∧ R (Its z) H1
theorem pi_seq {l : Expr} {tl : TE} (hl : PE X l tl) : PI X tg l (iSeq X.K tl) := by
  refine ⟨fun pins s σ H R I h => ?_⟩
  refine thn (hl.run pins s σ H _ I h) fun v s1 ⟨x, H1, I1, r1, q1⟩ => ?_
  rcases q1 with ⟨a, e, ⟨xs, hq⟩, q⟩ | ⟨a, e, ⟨xs, hq⟩, q⟩ | ⟨z, e, q⟩
  · subst e
    cases r1
    obtain ⟨its, rv, p, hz⟩ := I1.list hq
    refine wpAny_pyIter_list p.isList ?_
    refine ⟨s1.heap.objs.size, [s1.heap.objs.size], _, _, H1, rfl, I1.kept (t' := s1.toks) fun b o e => Heap.get?_push_of_some _ e, turn_list a _, ⟨_, Heap.get?_push_size _ rfl, rfl, rfl⟩, fun b hb => ?_, q⟩
    have e : b = s1.heap.objs.size := by simpa using hb
    subst e
    exact I1.fpOk (Nat.le_refl _) (I1.hok.fresh (Nat.le_refl _))
  · subst e
    cases r1
    obtain ⟨its, rv, p, hz⟩ := I1.tuple hq
    refine wpAny_pyIter_tuple (show s1.heap.IsTuple a its.toArray from p) ?_
    refine ⟨s1.heap.objs.size, [s1.heap.objs.size], _, _, H1, rfl, I1.kept (t' := s1.toks) fun b o e => Heap.get?_push_of_some _ e, turn_tuple a _, ⟨_, Heap.get?_push_size _ rfl, rfl, rfl⟩, fun b hb => ?_, q⟩
    have e : b = s1.heap.objs.size := by simpa using hb
    subst e
    exact I1.fpOk (Nat.le_refl _) (I1.hok.fresh (Nat.le_refl _))
  · subst e
    obtain ⟨t, rfl⟩ := r1
    cases ha : z.cps.all (· < 128)
    · exact wpAny_pyIter_wide ha (pi_one (tk := s1.toks) I1 _ (turn_str _ z t "str_iterator" (.inr rfl)) ⟨_, Heap.get?_push_size _ rfl, rfl, rfl⟩ q)
    · exact wpAny_pyIter_ascii ha (pi_one (tk := s1.toks) I1 _ (turn_str _ z t "str_ascii_iterator" (.inl rfl)) ⟨_, Heap.get?_push_size _ rfl, rfl, rfl⟩ q)
def seqD (d : PyData) : Res (List PyData) := match d with
  | .list xs => .ok xs
  | .tuple xs => .ok xs
  | .str z => .ok (z.cps.toList.map fun c => .str ⟨#[c]⟩)
  | _ => .bot
theorem IOK.at {K : PySem.W.Frag} {mg : Str → Option Value} {Fz : FZ} {H : Hp} {ds : List PyData} {J : It} {R : It → Hp → Prop} (h : IOK K mg U Fz H (.ok ds) R) (s : Serves K Fz H J ds) : R J H := h J H Fz .refl s
theorem di_seq {f : DSt → Res PyData} (h : DE X W S e te f) : DI X W S tg e (iSeq X.K te) (fun δ => do let x ← f δ; seqD x) := by
  refine ⟨pi_seq h.pe, fun Fz σ H δ R hd hl q => ?_⟩
  unfold IOK at q
  rw [wp_bind] at q
  refine h.ok Fz σ H δ _ hd hl (wp_mono q (fun x hx v H1 F1 g1 r1 => ?_) fun x hx => hx)
  unfold seqD at hx
  cases r1 with
  | lst h z rr => exact .inl ⟨_, rfl, ⟨_, h.sq⟩, hx _ _ _ g1 (serves_list h rr)⟩
  | tup h z rr => exact .inr (.inl ⟨_, rfl, ⟨_, h.sq⟩, hx _ _ _ g1 (serves_tup h.sq rr)⟩)
  | str z =>
    refine .inr (.inr ⟨z, rfl, hx _ _ _ g1 ⟨fun F2 H2 s f l i d e => ?_, fun F2 H2 s f l => ?_⟩⟩)
    · rw [List.getElem?_map] at e
      cases q : z.cps.toList[i]? with
      | none => rw [q] at e; cases e
      | some c =>
        rw [q] at e
        cases e
        rw [Array.getElem?_toList] at q
        refine ⟨(Array.getElem?_eq_some_iff.mp q).1, fun x H3 ⟨e1, c', e2, e3⟩ => ?_⟩
        subst e1 e3
        rw [q] at e2
        cases e2
        exact ⟨F2, .refl, .str _⟩
    · show z.cps.size ≤ _
      rw [List.length_map, Array.length_toList]
      exact Nat.le_refl _
  | _ => exact hx.elim
/-! ranges -/
def rngL (lo hi : Int) : List PyData := (List.range (hi - lo).toNat).map fun (k : Nat) => PyData.int (lo + (k : Int))
theorem serves_rng {K : PySem.W.Frag} (lo hi : Int) (Fz : FZ) (H : Hp) : Serves K Fz H (Itr lo (hi - lo).toNat) (rngL lo hi) where
  item := fun Fz2 H2 s f l i d e => by
    unfold rngL at e
    rw [List.getElem?_map] at e
    cases q : (List.range (hi - lo).toNat)[i]? with
    | none => rw [q] at e; cases e
    | some c =>
      rw [q] at e
      cases e
      obtain ⟨h1, h2⟩ := List.getElem?_eq_some_iff.mp q
      rw [List.getElem_range] at h2
      subst h2
      rw [List.length_range] at h1
      exact ⟨h1, fun x H3 ⟨e1, e2⟩ => by
        subst e1 e2
        exact ⟨Fz2, .refl, .int _⟩⟩
  stop := fun Fz2 H2 s f l => by
    show _ ≤ _
    unfold rngL
    rw [List.length_map, List.length_range]
    exact Nat.le_refl _
def in62 (i : Int) : Bool := decide (-(2 ^ 62) ≤ i ∧ i < 2 ^ 62)
def rng1D (ds : List PyData) : Res (List PyData) := match ds with | [.int j] => if in62 j then .ok (rngL 0 j) else .bot | _ => .bot
def rng2D (ds : List PyData) : Res (List PyData) := match ds with | [.int i, .int j] => if in62 i && in62 j then .ok (rngL i j) else .bot | _ => .bot
theorem dr_range1 {f : DSt → Res (List PyData)} (hg : Gl X "range") (hm : X.mg "range" = none) (ha : DA X W S [a] t f) (hs : starEach [a] X.env = [(false, eval a X.env)] := by rfl) : DR X W S tg (.Call (.Name "range" p) [a] [] pos) (iRng1 t) (fun δ => do let ds ← f δ; rng1D ds) := by
  refine ⟨pi_range1 hg hm ha.pe hs, fun Fz σ H δ R hd hl q => ?_⟩
  rw [wp_bind] at q
  refine ha.ok Fz σ H δ _ hd hl (wp_mono q (fun ds hx vs H1 F1 g1 r1 => ?_) fun x hx => hx)
  unfold rng1D at hx
  split at hx
  · rename_i j
    split at hx
    · rename_i hj
      have hj := of_decide_eq_true hj
      cases r1 with
      | cons h r =>
        cases h
        cases r
        refine ⟨j, rfl, hj.1, hj.2, ?_⟩
        have := hx (Itr 0 (j - 0).toNat) H1 F1 g1 (fun _ _ => serves_rng 0 j _ _)
        rwa [Int.sub_zero] at this
    · exact hx.elim
  · exact hx.elim
theorem dr_range2 {f : DSt → Res (List PyData)} (hg : Gl X "range") (hm : X.mg "range" = none) (ha : DA X W S [a, b] t f) (hs : starEach [a, b] X.env = [(false, eval a X.env), (false, eval b X.env)] := by rfl) (hs2 : starEach [b] X.env = [(false, eval b X.env)] := by rfl) : DR X W S tg (.Call (.Name "range" p) [a, b] [] pos) (iRng2 t) (fun δ => do let ds ← f δ; rng2D ds) := by
  refine ⟨pi_range2 hg hm ha.pe hs hs2, fun Fz σ H δ R hd hl q => ?_⟩
  rw [wp_bind] at q
  refine ha.ok Fz σ H δ _ hd hl (wp_mono q (fun ds hx vs H1 F1 g1 r1 => ?_) fun x hx => hx)
  unfold rng2D at hx
  split at hx
  · rename_i i j
    split at hx
    · rename_i hj
      rw [Bool.and_eq_true] at hj
      have h1 := of_decide_eq_true hj.1
      have h2 := of_decide_eq_true hj.2
      cases r1 with
      | cons h r =>
        cases h
        cases r with
        | cons h r =>
          cases h
          cases r
          exact ⟨i, j, rfl, ⟨h1.1, h1.2, h2.1, h2.2⟩, hx _ H1 F1 g1 (fun _ _ => serves_rng i j _ _)⟩
    · exact hx.elim
  · exact hx.elim
end
/-! enumerate of a tuple -/
theorem meets_enumerate_newT (v : Value) (o : Obj) (P : Heap → Prop) (B : Begins v o P) :
    Meets (Builtin.«enumerate.__new__» ⟨[.type "enumerate", v], []⟩) (fun _ R s => P s.heap ∧
      R (.ok (.ret (.ref (s.heap.push o).objs.size))) { s with heap := (s.heap.push o).push { cls := .type "enumerate", data := .fields #[.none, .bool false, .ref s.heap.objs.size, rawInt 0, .none, .none] } }) :=
  .of_wp fun prog w A R s h => by
    obtain ⟨hp, g, d, tk, os⟩ := s; obtain ⟨h1, h⟩ := h
    have hsub := sub_enumerate
    have q1 : ∀ {A' : Around} {E : Value → Shared → Prop} {Q : Value → Shared → Prop}, Q (.ref hp.objs.size) ⟨hp.push o, g, d, tk, os⟩ → wpAny (model prog w) A' (pyIter v) Q E ⟨hp, g, d, tk, os⟩ :=
      fun q => B.iter prog w _ _ ⟨hp, g, d, tk, os⟩ _ h1 q
    wp_walk using q1
    refine wpAny_stack_any fun st => wpAny_pure ?_
    split
    · rename_i c _ _ _ _ _
      cases (c == Value.type "enumerate")
      · wp_walk using q1
        exact ⟨_, rfl, h⟩
      · wp_walk using q1
        exact ⟨_, rfl, h⟩
    · wp_walk using q1
      exact ⟨_, rfl, h⟩
theorem call_enumerate_tuple {prog : Program} {w : World} {A : Around} {E : Value → Shared → Prop} {s : Shared} {l : Addr} {items : Array Value} {Q : Value → Shared → Prop} (hL : s.heap.IsTuple l items)
    (h : ∀ h', IsEnum h' (s.heap.objs.size + 1) s.heap.objs.size 0 .none → h'.IsTupleIter s.heap.objs.size l 0 → h'.objs.size = s.heap.objs.size + 2 →
      (∀ b o, s.heap.get? b = some o → h'.get? b = some o) → Q (.ref (s.heap.objs.size + 1)) { s with heap := h' }) :
    wpAny (model prog w) A (call (.type "enumerate") [.ref l]) Q E s := by
  refine callType_new F.called_enumerate (by decide) (F.typeCall_enumerate_1 _) (F.newCall_enumerate_1 _) (fun obj => F.args_object_init_2 obj _) F.entry_enumerate_new
    (meets_enumerate_newT _ _ _ (begins_tuple l items)) ⟨hL, ?_⟩
  have hz : (s.heap.push { cls := .type "tuple_iterator", data := .fields #[.ref l, .int 0 0] }).objs.size = s.heap.objs.size + 1 := Heap.size_push ..
  show _ ∧ _
  rw [hz]
  have he : IsEnum ((s.heap.push { cls := .type "tuple_iterator", data := .fields #[.ref l, .int 0 0] }).push
      { cls := .type "enumerate", data := .fields #[.none, .bool false, .ref s.heap.objs.size, rawInt 0, .none, .none] }) (s.heap.objs.size + 1) s.heap.objs.size 0 .none := by
    have := Heap.get?_push_size (s.heap.push { cls := .type "tuple_iterator", data := .fields #[.ref l, .int 0 0] })
      (o := { cls := .type "enumerate", data := .fields #[.none, .bool false, .ref s.heap.objs.size, rawInt 0, .none, .none] }) rfl
    rw [hz] at this; exact this
  refine ⟨⟨_, he, rfl⟩, h _ he ⟨_, Heap.get?_push_of_some _ (Heap.get?_push_size _ rfl), rfl, rfl⟩ (by rw [Heap.size_push, hz]) fun b o x => Heap.get?_push_of_some _ (Heap.get?_push_of_some _ x)⟩
def IteT (K : PySem.W.Frag) (a : Addr) : It :=
  ⟨fun i H => ∃ (xs : List V) (x : V), SqT K H a xs ∧ xs[i]? = some x, fun i H v H' => ∃ T x, v = .ref T ∧ H T = none ∧ H' = upd H T (.tup [.int (i : Nat), x]) ∧ ∀ xs, SqT K H a xs → xs[i]? = some x, fun i H => ∃ xs : List V, SqT K H a xs ∧ xs.length = i⟩
theorem cls_ne {h : Heap} {a b : Addr} {o o' : Obj} (e : h.get? a = some o) (e' : h.get? b = some o') (n : o.cls ≠ o'.cls) : a ≠ b := by
  intro z
  subst z
  rw [e] at e'
  cases e'
  exact n rfl
theorem turn_enumT {P : Program} {w : World} {K : PySem.W.Frag} {elts : List Expr} {kk : Nat} {tpos : Pos} (a e it : Addr) :
    Turn P w K (.Tuple elts kk tpos) (IteT K a) [e, it] e (fun i h => (∃ old, IsEnum h e it ((i : Nat) : Int) old) ∧ h.IsTupleIter it a i ∧ e ≠ it) where
  mem := by simp
  obj := fun i h st b hb => by
    obtain ⟨⟨old, he⟩, ⟨o, ho, hc, hd⟩, _⟩ := st
    have e' : b = e ∨ b = it := by simpa using hb
    rcases e' with z | z
    · rw [z]; exact ⟨_, he, fun v q => nomatch q⟩
    · rw [z]; exact ⟨o, ho, fun v q => by rw [hd] at q; cases q⟩
  keep := fun i h h' st k => let ⟨⟨old, he⟩, hi, hne⟩ := st; ⟨⟨old, k e (by simp) _ he⟩, hi.at fun o q => k it (by simp) o q, hne⟩
  item := by
    intro X hP hw hK hc i pins s σ H E I hf st hg
    subst hP hw hK
    obtain ⟨⟨old, he⟩, hit, hne⟩ := st
    obtain ⟨xs, x, hq, hx⟩ := hg
    obtain ⟨its, rv, p, hz⟩ := I.tuple hq
    obtain ⟨u, hu, ru⟩ := rv.get hx
    have hel : e < s.heap.objs.size := Heap.lt_size he
    have hil : it < s.heap.objs.size := by obtain ⟨_, q, _⟩ := hit; exact Heap.lt_size q
    have p' : s.heap.IsTuple a its.toArray := p
    obtain ⟨oi, hoi, hci, _⟩ := id hit
    obtain ⟨ot, hot, hct, _⟩ := id p'
    have hat : a ≠ it := cls_ne hot hoi (by rw [hct, hci]; decide +kernel)
    have hae : e ≠ a := cls_ne he hot (by rw [hct]; show Value.type "enumerate" ≠ .type "tuple"; decide +kernel)
    have hh : X.A.in1.handled = none := I.ok.hd hc
    have D := Draws.tuple (prog := X.prog) (w := X.w) hh it a hat its.toArray
    have hlt : i < its.toArray.size := by
      rw [List.size_toArray, ← rv.length]
      exact (List.getElem?_eq_some_iff.mp hx).1
    refine wpAny_pyNext_enum_itemD D he ⟨hit, p'⟩ hlt hne (by simp [hne, hae]) fun y h' tk hy ho hit' hT hsz hk => ?_
    have hyu : y = u := by
      have z : its.toArray[i]? = some u := by simpa using hu
      rw [z] at hy
      exact (Option.some.inj hy).symm
    subst hyu
    refine ⟨_, rfl, wpAny_letOwnedTupleGo_enum (s := { s with heap := h', toks := tk + 1 }) ho fun h'' he' sb => ?_⟩
    have hT2 : h''.get? s.heap.objs.size = some { cls := .type "tuple", data := .seq #[.int i tk, y] } := (sb.2 _ (Nat.ne_of_gt hel)).trans hT
    have new : ObjOk X.prog X.w (upd H s.heap.objs.size (.tup [.int (i : Nat), x])) h'' s.heap.objs.size (.tup [.int (i : Nat), x]) :=
      ⟨by show 2 ≤ sizeLine; decide, [.int i tk, y], .cons ⟨_, rfl⟩ (.cons ru .nil), ⟨_, hT2, rfl, _, rfl⟩⟩
    have I1 : Inv X pins σ (upd H s.heap.objs.size (.tup [.int (i : Nat), x])) { s with heap := h'', toks := tk + 1 } :=
      I.turnedNew (ch := [e, it]) (fun b ob hb q => (sb.2 b (fun z => hb (by simp [z]))).trans (hk b ob (fun z => hb (by simp [z])) (fun z => hb (by simp [z])) q)) hf (Nat.le_refl _) new
    refine ⟨.ref s.heap.objs.size, _, I1, rfl, ⟨_, x, rfl, I.hok.fresh (Nat.le_refl _), rfl, fun ys hy => by rw [I.tuple_inj hy hq]; exact hx⟩, ⟨⟨y, ?_⟩, hit'.1.at fun o q => (sb.2 it (Ne.symm hne)).trans q, hne⟩, fun b hb => ?_⟩
    · have e1 : ((i + 1 : Nat) : Int) = (i : Int) + 1 := by omega
      rw [e1]; exact he'
    · have hb' : b < s.heap.objs.size := by
        have e' : b = e ∨ b = it := by simpa using hb
        rcases e' with z | z
        · rw [z]; exact hel
        · rw [z]; exact hil
      rw [upd_ne (Nat.ne_of_lt hb')]
      exact (hf b hb).1
  done := by
    intro X hP hw hK hc i pins s σ H E I hf st hg
    subst hP hw hK
    obtain ⟨⟨old, he⟩, hit, hne⟩ := st
    obtain ⟨xs, hq, hx⟩ := hg
    obtain ⟨its, rv, p, hz⟩ := I.tuple hq
    obtain ⟨f0, f1, f2, f3, f4, f5⟩ := hf it (by simp)
    have p' : s.heap.IsTuple a its.toArray := p
    obtain ⟨oi, hoi, hci, _⟩ := id hit
    obtain ⟨ot, hot, hct, _⟩ := id p'
    have hat : a ≠ it := cls_ne hot hoi (by rw [hct, hci]; decide +kernel)
    have hh : X.A.in1.handled = none := I.ok.hd hc
    have D := Draws.tuple (prog := X.prog) (w := X.w) hh it a hat its.toArray
    have hi : i = its.toArray.size := by rw [List.size_toArray, ← rv.length]; exact hx.symm
    subst hi
    exact wpAny_pyNext_enum_endD D he ⟨hit, p'⟩ fun h' eb => ⟨rfl, I.turned (t' := s.toks) (fun b o hb q => eb b o hb q) f0 f1 f3 f4 f5⟩
  self := fun A i s Q E st h => let ⟨⟨_, he⟩, _⟩ := st; wpAny_pyIter_enum he h
section
variable {X : Cx} {W : WS} {U : XK} {S T : List Nat} {e a b c tg : Expr} {es tgs : List Expr} {pos p tpos : Pos} {te ta tb : TE} {t : TA} {kk : Nat}
/-- enumerate of a list or a tuple -/
def iEnumA (K : PySem.W.Frag) (ta : TA) : TI := fun σ H R => ta σ H fun vs H1 => (∃ a xs, vs = [.ref a] ∧ SqL K H1 a xs ∧ R (Ite K a) H1) ∨ ∃ a xs, vs = [.ref a] ∧ SqT K H1 a xs ∧ R (IteT K a) H1
theorem pi_enumA {elts : List Expr} (hg : Gl X "enumerate") (hm : X.mg "enumerate" = none) (ha : PA X [e] t) (hs : starEach [e] X.env = [(false, eval e X.env)] := by rfl) :
    PI X (.Tuple elts kk tpos) (.Call (.Name "enumerate" p) [e] [] pos) (iEnumA X.K t) := by
  refine ⟨fun pins s σ H R I h => ?_⟩
  refine Call_ (ld_blt I hg hm boot_enumerate (PyProof.Rows.callWith_type1 (thn (ha.run pos pins s σ H _ I h) fun us s1 ⟨vs, H1, I1, r1, q1⟩ => ?_) hs rfl))
  rcases q1 with ⟨a, xs, ex, hq, q⟩ | ⟨a, xs, ex, hq, q⟩
  · subst ex
    cases r1 with
    | cons r rr =>
      cases rr
      cases r
      obtain ⟨its, rv, p', hz⟩ := I1.list hq
      refine call_enumerate_list p'.isList fun h' he hit hsz hk => wpAny_pyIter_enum he ?_
      have I2 : Inv X pins σ H1 { s1 with heap := h' } := I1.kept (t' := s1.toks) hk
      refine ⟨s1.heap.objs.size + 1, [s1.heap.objs.size + 1, s1.heap.objs.size], _, _, H1, rfl, I2, turn_enum a (s1.heap.objs.size + 1) s1.heap.objs.size, ⟨⟨.none, he⟩, hit, Nat.succ_ne_self _⟩, fun b hb => ?_, q⟩
      have e' : b = s1.heap.objs.size + 1 ∨ b = s1.heap.objs.size := by simpa using hb
      have hle : s1.heap.objs.size ≤ b := by
        rcases e' with z | z
        · rw [z]; exact Nat.le_add_right _ _
        · rw [z]; exact Nat.le_refl _
      exact I1.fpOk hle (I1.hok.fresh hle)
  · subst ex
    cases r1 with
    | cons r rr =>
      cases rr
      cases r
      obtain ⟨its, rv, p', hz⟩ := I1.tuple hq
      refine call_enumerate_tuple (show s1.heap.IsTuple a its.toArray from p') fun h' he hit hsz hk => wpAny_pyIter_enum he ?_
      have I2 : Inv X pins σ H1 { s1 with heap := h' } := I1.kept (t' := s1.toks) hk
      refine ⟨s1.heap.objs.size + 1, [s1.heap.objs.size + 1, s1.heap.objs.size], _, _, H1, rfl, I2, turn_enumT a (s1.heap.objs.size + 1) s1.heap.objs.size, ⟨⟨.none, he⟩, hit, Nat.succ_ne_self _⟩, fun b hb => ?_, q⟩
      have e' : b = s1.heap.objs.size + 1 ∨ b = s1.heap.objs.size := by simpa using hb
      have hle : s1.heap.objs.size ≤ b := by
        rcases e' with z | z
        · rw [z]; exact Nat.le_add_right _ _
        · rw [z]; exact Nat.le_refl _
      exact I1.fpOk hle (I1.hok.fresh hle)
/-- the pairs of enumerate -/
def enumL (k : Nat) : List PyData → List PyData
  | [] => []
  | d :: ds => .tuple [.int (k : Nat), d] :: enumL (k + 1) ds
theorem enumL_get : ∀ (ds : List PyData) (k i : Nat) (d : PyData), (enumL k ds)[i]? = some d → ∃ x, ds[i]? = some x ∧ d = .tuple [.int ((k + i : Nat) : Nat), x]
  | [], k, i, d, h => by simp [enumL] at h
  | y :: ds, k, 0, d, h => by
    simp [enumL] at h
    exact ⟨y, rfl, by rw [← h]; rfl⟩
  | y :: ds, k, i + 1, d, h => by
    rw [enumL, List.getElem?_cons_succ] at h
    obtain ⟨x, h1, h2⟩ := enumL_get ds (k + 1) i d h
    exact ⟨x, by simpa using h1, by rw [h2, show k + 1 + i = k + (i + 1) by omega]⟩
theorem enumL_len : ∀ (ds : List PyData) (k : Nat), (enumL k ds).length = ds.length
  | [], _ => rfl
  | _ :: ds, k => by rw [enumL, List.length_cons, List.length_cons, enumL_len ds]
theorem two_le : 2 ≤ sizeLine := by rw [sizeLine_eq]; decide
theorem serves_enumL {K : PySem.W.Frag} {Fz : FZ} {H : Hp} {a : Addr} {xs : List V} {ds : List PyData} (h : LsF K Fz H a xs) (rr : RepAll K Fz H xs ds) : Serves K Fz H (Ite K a) (enumL 0 ds) where
  item := fun Fz2 H2 s f l i d e => by
    obtain ⟨x, e1, e2⟩ := enumL_get ds 0 i d e
    obtain ⟨v, h1, h2⟩ := rr.get e1
    have hq := (h.stay s f).sq (K := K)
    refine ⟨⟨xs, v, hq, h1⟩, fun y H3 ⟨T, z, ey, nT, eH, hz⟩ => ?_⟩
    have := hz xs hq
    rw [h1] at this
    cases this
    subst ey eH e2
    refine ⟨Fz2, .nw nT, .tup (.of upd_same) two_le (.cons ?_ (.cons ((h2.stay s f).grow (.nw nT)) .nil))⟩
    rw [Nat.zero_add]
    exact .int _
  stop := fun Fz2 H2 s f l => ⟨xs, (h.stay s f).sq, by rw [rr.length, enumL_len]; exact Nat.le_refl _⟩
theorem serves_enumT {K : PySem.W.Frag} {Fz : FZ} {H : Hp} {a : Addr} {xs : List V} {ds : List PyData} (h : SqT K H a xs) (rr : RepAll K Fz H xs ds) : Serves K Fz H (IteT K a) (enumL 0 ds) where
  item := fun Fz2 H2 s f l i d e => by
    obtain ⟨x, e1, e2⟩ := enumL_get ds 0 i d e
    obtain ⟨v, h1, h2⟩ := rr.get e1
    have hq := SqT.stay s h
    refine ⟨⟨xs, v, hq, h1⟩, fun y H3 ⟨T, z, ey, nT, eH, hz⟩ => ?_⟩
    have := hz xs hq
    rw [h1] at this
    cases this
    subst ey eH e2
    refine ⟨Fz2, .nw nT, .tup (.of upd_same) two_le (.cons ?_ (.cons ((h2.stay s f).grow (.nw nT)) .nil))⟩
    rw [Nat.zero_add]
    exact .int _
  stop := fun Fz2 H2 s f l => ⟨xs, SqT.stay s h, by rw [rr.length, enumL_len]⟩
def enumD (ds : List PyData) : Res (List PyData) := match ds with | [.list xs] => .ok (enumL 0 xs) | [.tuple xs] => .ok (enumL 0 xs) | _ => .bot
theorem di_enum {elts : List Expr} {f : DSt → Res (List PyData)} (hg : Gl X "enumerate") (hm : X.mg "enumerate" = none) (ha : DA X W S [e] t f) (hs : starEach [e] X.env = [(false, eval e X.env)] := by rfl) :
    DI X W S (.Tuple elts kk tpos) (.Call (.Name "enumerate" p) [e] [] pos) (iEnumA X.K t) (fun δ => do let ds ← f δ; enumD ds) := by
  refine ⟨pi_enumA hg hm ha.pe hs, fun Fz σ H δ R hd hl q => ?_⟩
  unfold IOK at q
  rw [wp_bind] at q
  refine ha.ok Fz σ H δ _ hd hl (wp_mono q (fun ds hx vs H1 F1 g1 r1 => ?_) fun x hx => hx)
  unfold enumD at hx
  split at hx
  · cases r1 with
    | cons h r =>
      cases r
      cases h with
      | lst h z rr => exact .inl ⟨_, _, rfl, h.sq, hx _ _ _ g1 (serves_enumL h rr)⟩
  · cases r1 with
    | cons h r =>
      cases r
      cases h with
      | tup h z rr => exact .inr ⟨_, _, rfl, h.sq, hx _ _ _ g1 (serves_enumT h.sq rr)⟩
  · exact hx.elim
/-- zip of two lists, of two tuples -/
def zipL : List PyData → List PyData → List PyData
  | x :: xs, y :: ys => .tuple [x, y] :: zipL xs ys
  | _, _ => []
theorem zipL_get : ∀ (xs ys : List PyData) (i : Nat) (d : PyData), (zipL xs ys)[i]? = some d → ∃ x y, xs[i]? = some x ∧ ys[i]? = some y ∧ d = .tuple [x, y]
  | x :: xs, y :: ys, 0, d, h => by
    simp [zipL] at h
    exact ⟨x, y, rfl, rfl, h.symm⟩
  | x :: xs, y :: ys, i + 1, d, h => by
    rw [zipL, List.getElem?_cons_succ] at h
    obtain ⟨a, b, h1, h2, h3⟩ := zipL_get xs ys i d h
    exact ⟨a, b, by simpa using h1, by simpa using h2, h3⟩
  | [], _, i, d, h => by simp [zipL] at h
  | _ :: _, [], i, d, h => by simp [zipL] at h
theorem zipL_len : ∀ (xs ys : List PyData), (zipL xs ys).length = min xs.length ys.length
  | x :: xs, y :: ys => by rw [zipL, List.length_cons, List.length_cons, List.length_cons, zipL_len xs ys]; omega
  | [], _ => by simp [zipL]
  | _ :: _, [] => by simp [zipL]
theorem serves_zipL {K : PySem.W.Frag} {Fz : FZ} {H : Hp} {a b : Addr} {xs ys : List V} {ds es : List PyData} (h : LsF K Fz H a xs) (rr : RepAll K Fz H xs ds) (h' : LsF K Fz H b ys) (rr' : RepAll K Fz H ys es) : Serves K Fz H (Itz K a b) (zipL ds es) where
  item := fun Fz2 H2 s f l i d e => by
    obtain ⟨x, y, e1, e2, e3⟩ := zipL_get ds es i d e
    obtain ⟨v, h1, h2⟩ := rr.get e1
    obtain ⟨v', h1', h2'⟩ := rr'.get e2
    have hq := (h.stay s f).sq (K := K)
    have hq' := (h'.stay s f).sq (K := K)
    refine ⟨⟨xs, ys, v, v', hq, hq', h1, h1'⟩, fun u H3 ⟨T, z, z', eu, nT, eH, hz, hz'⟩ => ?_⟩
    have k1 := hz xs hq
    have k2 := hz' ys hq'
    rw [h1] at k1
    rw [h1'] at k2
    cases k1
    cases k2
    subst eu eH e3
    exact ⟨Fz2, .nw nT, .tup (.of upd_same) two_le (.cons ((h2.stay s f).grow (.nw nT)) (.cons ((h2'.stay s f).grow (.nw nT)) .nil))⟩
  stop := fun Fz2 H2 s f l => ⟨xs, ys, (h.stay s f).sq, (h'.stay s f).sq, by rw [rr.length, rr'.length, zipL_len]; omega⟩
theorem serves_zipT {K : PySem.W.Frag} {Fz : FZ} {H : Hp} {a b : Addr} {xs ys : List V} {ds es : List PyData} (h : SqT K H a xs) (rr : RepAll K Fz H xs ds) (h' : SqT K H b ys) (rr' : RepAll K Fz H ys es) : Serves K Fz H (RZ.ItzT K a b) (zipL ds es) where
  item := fun Fz2 H2 s f l i d e => by
    obtain ⟨x, y, e1, e2, e3⟩ := zipL_get ds es i d e
    obtain ⟨v, h1, h2⟩ := rr.get e1
    obtain ⟨v', h1', h2'⟩ := rr'.get e2
    have hq := SqT.stay s h
    have hq' := SqT.stay s h'
    refine ⟨⟨xs, ys, v, v', hq, hq', h1, h1'⟩, fun u H3 ⟨T, z, z', eu, nT, eH, hz, hz'⟩ => ?_⟩
    have k1 := hz xs hq
    have k2 := hz' ys hq'
    rw [h1] at k1
    rw [h1'] at k2
    cases k1
    cases k2
    subst eu eH e3
    exact ⟨Fz2, .nw nT, .tup (.of upd_same) two_le (.cons ((h2.stay s f).grow (.nw nT)) (.cons ((h2'.stay s f).grow (.nw nT)) .nil))⟩
  stop := fun Fz2 H2 s f l => ⟨xs, ys, SqT.stay s h, SqT.stay s h', by rw [rr.length, rr'.length, zipL_len]; omega⟩
def zipD (ds : List PyData) : Res (List PyData) := match ds with | [.list xs, .list ys] => .ok (zipL xs ys) | [.tuple xs, .tuple ys] => .ok (zipL xs ys) | _ => .bot
theorem di_zip {elts : List Expr} {f : DSt → Res (List PyData)} {e2 : Expr} (hg : Gl X "zip") (hm : X.mg "zip" = none) (ha : DA X W S [e, e2] t f)
    (hs : starEach [e, e2] X.env = (false, eval e X.env) :: starEach [e2] X.env := by rfl) (hpl : (backTo pos (starEach [e2] X.env)).any (·.1) = false := by rfl) :
    DI X W S (.Tuple elts kk tpos) (.Call (.Name "zip" p) [e, e2] [] pos) (RZ.iZipA X.K t) (fun δ => do let ds ← f δ; zipD ds) := by
  refine ⟨RZ.pi_zipA hg hm ha.pe hs hpl, fun Fz σ H δ R hd hl q => ?_⟩
  unfold IOK at q
  rw [wp_bind] at q
  refine ha.ok Fz σ H δ _ hd hl (wp_mono q (fun ds hx vs H1 F1 g1 r1 => ?_) fun x hx => hx)
  unfold zipD at hx
  split at hx
  · cases r1 with
    | cons h r =>
      cases r with
      | cons h' r =>
        cases r
        cases h with
        | lst h z rr =>
          cases h' with
          | lst h' z' rr' => exact ⟨_, _, _, _, rfl, .inl ⟨h.sq, h'.sq, hx _ _ _ g1 (serves_zipL h rr h' rr')⟩⟩
  · cases r1 with
    | cons h r =>
      cases r with
      | cons h' r =>
        cases r
        cases h with
        | tup h z rr =>
          cases h' with
          | tup h' z' rr' => exact ⟨_, _, _, _, rfl, .inr ⟨h.sq, h'.sq, hx _ _ _ g1 (serves_zipT h.sq rr h'.sq rr')⟩⟩
  · exact hx.elim
end
end DL

set_option Elab.async false
set_option linter.all false
set_option maxRecDepth 100000
set_option maxHeartbeats 4000000
namespace DL
open PySem PySem.Spec L2
open PyProof.Rows hiding St

/-! ### comprehensions -/
/-- what may not raise -/
def nE {α : Type} : Res α → Res α
  | .ok a => .ok a
  | .pick m k => .pick m fun i => nE (k i)
  | .err _ => .bot
  | .bot => .bot
theorem nE_quiet {α : Type} (r : Res α) : (nE r).quiet := by
  induction r with
  | pick m k ih => exact fun i => ih i
  | _ => exact True.intro
theorem nE_wpA {α : Type} {r : Res α} {Q : α → Prop} {E E' : Exn → Prop} (h : (nE r).wp Q E) : r.wp Q E' := by
  induction r with
  | ok a => exact h
  | err x => exact h.elim
  | bot => exact h.elim
  | pick m k ih => exact ⟨h.1, fun i h0 h1 => ih i (h.2 i h0 h1)⟩
/-- no choice -/
def Res.one {α : Type} : Res α → Prop
  | .pick _ _ => False
  | _ => True
theorem nE_wp {α : Type} {r : Res α} {Q : α → Prop} {E : Exn → Prop} (ho : r.one) (h : (nE r).wp Q E) : ∃ a, r = .ok a ∧ Q a := by
  cases r with
  | ok a => exact ⟨a, rfl, h⟩
  | err x => exact h.elim
  | bot => exact h.elim
  | pick m k => exact ho.elim
theorem bindN_one : ∀ (is : List Nat) (ds : List PyData) (δ : DSt), (bindN is ds δ).one
  | [], [], _ => True.intro
  | [], _ :: _, _ => True.intro
  | _ :: _, [], _ => True.intro
  | i :: is, d :: ds, δ => bindN_one is ds _
theorem bindP_one (p : Pat) (d : PyData) (δ : DSt) : (bindP p d δ).one := by
  cases p with
  | nm i => exact True.intro
  | tp is => cases d <;> first | exact True.intro | exact bindN_one _ _ _
theorem nEb {p : Pat} {d : PyData} {δ : DSt} {Q : DSt → Prop} {E : Exn → Prop} (h : (nE (bindP p d δ)).wp Q E) : ∃ δ', bindP p d δ = .ok δ' ∧ Q δ' := nE_wp (bindP_one p d δ) h
theorem lstD_wp {ys : List PyData} {Q : List PyData → Prop} {E : Exn → Prop} (h : (lstD ys).wp Q E) : ys.length ≤ sizeLine ∧ Q ys := by
  unfold lstD at h
  split at h
  · rename_i hz
    exact ⟨hz, h⟩
  · exact h.elim
def wipeD (δ : DSt) : List Nat → DSt
  | [] => δ
  | v :: vs => (wipeD δ vs).set v none
theorem wipeD_length (δ : DSt) : ∀ vs : List Nat, (wipeD δ vs).length = δ.length
  | [] => rfl
  | v :: vs => by unfold wipeD; rw [List.length_set, wipeD_length δ vs]
theorem wipeD_some {δ : DSt} {i : Nat} {x : SV} : ∀ {vs : List Nat}, (wipeD δ vs)[i]? = some (some x) → δ[i]? = some (some x) ∧ i ∉ vs
  | [], h => ⟨h, by simp⟩
  | v :: vs, h => by
    unfold wipeD at h
    by_cases hi : v = i
    · subst hi
      by_cases hv : v < (wipeD δ vs).length
      · rw [List.getElem?_set_self hv] at h; cases h
      · rw [List.getElem?_eq_none (by simpa using hv)] at h; cases h
    · rw [List.getElem?_set_ne hi] at h
      obtain ⟨h1, h2⟩ := wipeD_some h
      exact ⟨h1, by simp only [List.mem_cons, not_or]; exact ⟨fun e => hi e.symm, h2⟩⟩
theorem RdOn.wipe {K : PySem.W.Frag} {S vs : List Nat} {Fz : FZ} {H : Hp} {σ : St} {δ : DSt} (h : RdOn K S Fz H σ δ) : RdOn K S Fz H (wipe σ vs) (wipeD δ vs) :=
  ⟨by rw [wipe_length, wipeD_length, h.1], fun i hi s e => by
    obtain ⟨e1, e2⟩ := wipeD_some e
    obtain ⟨v, h1, h2⟩ := h.2 i hi s e1
    exact ⟨v, by rw [wipe_out e2]; exact h1, h2⟩⟩
theorem wipe_in {σ : St} {i : Nat} : ∀ {vs : List Nat}, i ∈ vs → i < σ.length → (wipe σ vs)[i]? = some none
  | v :: vs, h, hl => by
    unfold L2.wipe
    by_cases hv : v = i
    · subst hv
      rw [List.getElem?_set_self (by rw [wipe_length]; exact hl)]
    · rw [List.getElem?_set_ne hv]
      exact wipe_in ((List.mem_cons.mp h).resolve_left fun e => hv e.symm) hl
theorem wipe_set {σ : St} {vs : List Nat} {i : Nat} {x : Option V} (h : i ∈ vs) : wipe (σ.set i x) vs = wipe σ vs := by
  apply List.ext_getElem?
  intro j
  by_cases hj : j ∈ vs
  · by_cases hl : j < σ.length
    · rw [wipe_in hj (by rw [List.length_set]; exact hl), wipe_in hj hl]
    · rw [List.getElem?_eq_none (by rw [wipe_length, List.length_set]; omega), List.getElem?_eq_none (by rw [wipe_length]; omega)]
  · rw [wipe_out hj, wipe_out hj, List.getElem?_set_ne (fun e => hj (by rw [← e]; exact h))]
theorem wipe_wipe {σ : St} {vs : List Nat} : wipe (wipe σ vs) vs = wipe σ vs := by
  apply List.ext_getElem?
  intro j
  by_cases hj : j ∈ vs
  · by_cases hl : j < σ.length
    · rw [wipe_in hj (by rw [wipe_length]; exact hl), wipe_in hj hl]
    · rw [List.getElem?_eq_none (by rw [wipe_length, wipe_length]; omega), List.getElem?_eq_none (by rw [wipe_length]; omega)]
  · rw [wipe_out hj]
theorem RdOn.sets {K : PySem.W.Frag} {S is : List Nat} {Fz : FZ} {H : Hp} : Sets K Fz H is (fun σ δ => RdOn K S Fz H σ δ) := fun σ δ i v d hi hr r =>
  ⟨by rw [List.length_set, List.length_set]; exact hr.1, fun j hj s e => by
    by_cases hij : i = j
    · subst hij
      by_cases hl : i < δ.length
      · rw [List.getElem?_set_self hl] at e
        cases e
        exact ⟨v, List.getElem?_set_self (by rw [hr.1]; exact hl), r⟩
      · rw [List.getElem?_eq_none (by rw [List.length_set]; omega)] at e
        cases e
    · rw [List.getElem?_set_ne hij] at e
      obtain ⟨v', h1, h2⟩ := hr.2 j hj s e
      exact ⟨v', by rw [List.getElem?_set_ne hij]; exact h1, h2⟩⟩
structure DTs (X : Cx) (W : WS) (S : List Nat) (es : List Expr) (t : TT) (f : DSt → Res Bool) : Prop where
  pe : PTs X es t
  ok : ∀ Fz σ H δ Q, RdOn X.K S Fz H σ δ → Live Fz H → BOK X.K X.mg (W σ) Fz H (f δ) Q → t σ H Q
theorem dts_nil {X : Cx} {W : WS} : DTs X W [] [] tYes (fun _ => .ok true) := ⟨pts_nil, fun Fz σ H δ Q _ _ h => h.at⟩
theorem dts_one {X : Cx} {W : WS} {S : List Nat} {c : Expr} {t : TT} {f : DSt → Res Bool} (h : DT X W S c t f) : DTs X W S [c] t f := ⟨pts_one h.pe, h.ok⟩
/-- the items of a comprehension -/
def lcGo (p : Pat) (δ : DSt) (ft : DSt → Res Bool) (fe : DSt → Res PyData) : List PyData → Res (List PyData)
  | [] => .ok []
  | x :: r => do
    let δ1 ← nE (bindP p x δ)
    let b ← nE (ft δ1)
    if b then do
      let y ← nE (fe δ1)
      let ys ← lcGo p δ ft fe r
      .ok (y :: ys)
    else lcGo p δ ft fe r
def lcF (g : DSt → Res (List PyData)) (p : Pat) (vs : List Nat) (ft : DSt → Res Bool) (fe : DSt → Res PyData) (δ : DSt) : Res (List PyData) := do
  let xs ← g δ
  let ys ← lcGo p (wipeD δ vs) ft fe xs
  lstD ys
theorem lcGo_quiet {p : Pat} {δ : DSt} {ft : DSt → Res Bool} {fe : DSt → Res PyData} : ∀ (xs : List PyData), (lcGo p δ ft fe xs).quiet
  | [] => True.intro
  | y :: r => by
    unfold lcGo
    refine quiet_bind (nE_quiet _) fun δ1 => quiet_bind (nE_quiet _) fun b => ?_
    cases b with
    | true => exact quiet_bind (nE_quiet _) fun y => quiet_bind (lcGo_quiet r) fun ys => True.intro
    | false => exact lcGo_quiet r
section
variable {X : Cx} {W : WS} {U : XK} {S S1 S2 T : List Nat} {elt tg iter : Expr} {ifs : List Expr} {scope : Scope} {own : List (Str × Nat)} {pos : Pos} {wi : TI} {gg : TG} {tt : TT} {te : TE}
theorem same_upd2 {H1 H : Hp} {D : Addr} {o : HO} (s : Same H1 H) (n : H1 D = none) : Same H1 (upd H D o) := fun b x e => by
  rw [upd_ne (ne_of_none e n)]
  exact s b x e
theorem df_lc {g : DSt → Res (List PyData)} {p : Pat} {ft : DSt → Res Bool} {fe : DSt → Res PyData} (hc : X.calm = true) (hN : X.N.Nodup) (hi : DI X W S tg iter wi g) (ok : BlkOk X.N X.env.scope scope own)
    (hg : ∀ (s : Shared) (H : Hp) (C : Addr) (cl : List (Str × Addr)) (fp : List Addr), DG (X.blk s H scope (compEnvC scope cl C X.env) fp) tg gg p) (hp : ∀ i ∈ p.slots, i ∈ own.map (·.2))
    (ht : ∀ (s : Shared) (H : Hp) (C : Addr) (cl : List (Str × Addr)) (fp : List Addr), DTs (X.blk s H scope (compEnvC scope cl C X.env) fp) (fun _ => E0) S1 ifs tt ft)
    (he : ∀ (s : Shared) (H : Hp) (C : Addr) (cl : List (Str × Addr)) (fp : List Addr), DE (X.blk s H scope (compEnvC scope cl C X.env) fp) (fun _ => E0) S2 elt te fe) (hs : ∀ x, foldedSetIterable iter X.env x = pure x := by intro _; rfl) :
    DF X W (S ++ (S1 ++ S2)) (.ListComp elt [⟨tg, iter, ifs, 0⟩] scope pos) (tLc wi gg tt te (own.map (·.2))) (lcF g p (own.map (·.2)) ft fe) := by
  refine ⟨pe_lc hc hN hi.pe ok (fun s H C cl fp => (hg s H C cl fp).pe) (fun s H C cl fp => (ht s H C cl fp).pe) (fun s H C cl fp => (he s H C cl fp).pe) hs, fun Fz σ H δ Q hd hl hq => ?_⟩
  have hg' := (hg X.s_0 X.H_0 0 [] []).ok
  have ht' := (ht X.s_0 X.H_0 0 [] []).ok
  have he' := (he X.s_0 X.H_0 0 [] []).ok
  generalize own.map (·.2) = vs at *
  unfold LOK lcF at hq
  rw [wp_bind] at hq
  refine hi.ok Fz σ H δ _ hd.left hl (wp_mono hq (fun ds hx J H1 F1 g1 sv => ?_) fun x hx => hx)
  rw [wp_bind] at hx
  have hrd : RdOn X.K (S1 ++ S2) F1 H1 (wipe σ vs) (wipeD δ vs) := (hd.right.grow g1).wipe
  have l1 : Live F1 H1 := g1.live hl
  intro Dd nD
  have nH : H Dd = none := none_of_same g1.same nD
  refine ⟨fun i m H => m = ds.length - i ∧ i ≤ ds.length ∧ ∃ Fi acc ya, Grow F1 H1 Fi H ∧ ¬ Fi Dd ∧ H Dd = some (.lst acc) ∧ RepAll X.K Fi H acc ya ∧ (lcGo p (wipeD δ vs) ft fe (ds.drop i)).wp (fun rest => (lstD (ya ++ rest)).wp _ _) _,
    ⟨ds.length, by omega, Nat.zero_le _, F1, [], [], .nw nD, fun z => l1 _ z nD, upd_same, .nil, hx⟩, ?_⟩
  rintro i m H2 ⟨rfl, hi2, Fi, acc, ya, g2, nF, eD, ra, hrest⟩
  by_cases hlt : i < ds.length
  · have hdd : ds.drop i = ds[i] :: ds.drop (i + 1) := List.drop_eq_getElem_cons hlt
    rw [hdd] at hrest
    unfold lcGo at hrest
    rw [wp_bind] at hrest
    obtain ⟨δ1, hb, hrest⟩ := nEb hrest
    rw [wp_bind] at hrest
    obtain ⟨go, yl⟩ := sv.item Fi H2 (.of_same g2.same) g2.sub (g2.live l1) i ds[i] (List.getElem?_eq_getElem hlt)
    refine .inr ⟨go, fun H' => ∃ Fi acc ya, Grow F1 H1 Fi H' ∧ ¬ Fi Dd ∧ H' Dd = some (.lst acc) ∧ RepAll X.K Fi H' acc ya ∧ (lcGo p (wipeD δ vs) ft fe (ds.drop (i + 1))).wp (fun rest => (lstD (ya ++ rest)).wp _ _) _,
      fun H' h' => ⟨ds.length - (i + 1), by omega, rfl, hlt, h'⟩, fun x H3 hy => ?_⟩
    obtain ⟨F3, g3, r3⟩ := yl x H3 hy
    have g13 := g2.trans g3
    have nF3 : ¬ F3 Dd := fun z => (g3.new _ z).elim nF fun e => by rw [eD] at e; cases e
    refine hg' F3 H3 (fun σ2 δ2 => RdOn X.K (S1 ++ S2) F3 H3 σ2 δ2 ∧ wipe σ2 vs = wipe σ vs) x ds[i] (wipe σ vs) (wipeD δ vs) _ (fun σ δ j v d hj hP r => ⟨RdOn.sets σ δ j v d hj hP.1 r, by rw [wipe_set (hp j hj)]; exact hP.2⟩) ⟨hrd.grow g13, wipe_wipe⟩ r3 ?_
    rw [hb]
    intro σ2 ⟨hr2, hw2⟩
    refine ⟨hw2, ?_⟩
    refine ht' F3 σ2 H3 δ1 _ hr2.left (g13.live l1) (wp_mono (nE_wpA hrest) (fun bt hbt H4 F4 g4 => ?_) fun x h => h)
    have nF4 : ¬ F4 Dd := fun z => (g4.new _ z).elim nF3 fun e => by rw [g3.same _ _ eD] at e; cases e
    cases bt with
    | true =>
      simp only [if_true] at hbt ⊢
      rw [wp_bind] at hbt
      refine he' F4 σ2 H4 δ1 _ (hr2.right.grow g4) (g4.live (g13.live l1)) (wp_mono (nE_wpA hbt) (fun y hy v H5 F5 g5 r5 => ?_) fun x h => h)
      rw [wp_bind] at hy
      have nF5 : ¬ F5 Dd := fun z => (g5.new _ z).elim nF4 fun e => by rw [g4.same _ _ (g3.same _ _ eD)] at e; cases e
      have g35 := g3.trans (g4.trans g5)
      have eD5 := g35.same _ _ eD
      have g15 := g2.trans g35
      have st : Stay F5 H5 (upd H5 Dd (.lst (acc ++ [v]))) := .write nF5 eD5 ⟨(fun _ h => by cases h), (fun _ _ h => by cases h)⟩
      obtain ⟨rest', hf⟩ := wp_some (lcGo_quiet _) hy
      have hlen2 : (ya ++ (y :: rest')).length ≤ sizeLine := (lstD_wp hf).1
      have la := ra.length
      refine ⟨acc, eD5, ?_, F5, acc ++ [v], ya ++ [y], ⟨same_upd2 g15.same nD, g15.sub, g15.new, fun l a z e => ?_⟩, nF5, upd_same, ?_, wp_mono hy (fun rest h => by rw [List.append_assoc]; exact h) fun x h => h⟩
      · rw [List.length_append, List.length_cons] at hlen2
        omega
      · by_cases hz : a = Dd
        · subst hz; exact nF5 z
        · rw [upd_ne hz] at e
          exact g15.live l a z e
      · exact ((ra.grow g35).app (.cons r5 .nil)).stay st fun _ h => h
    | false =>
      simp only [Bool.false_eq_true, if_false] at hbt ⊢
      have g34 := g3.trans g4
      exact ⟨F4, acc, ya, g2.trans g34, nF4, g34.same _ _ eD, ra.grow g34, hbt⟩
  · have e : i = ds.length := by omega
    subst e
    rw [List.drop_length] at hrest
    have hrest : (lstD (ya ++ [])).wp _ _ := hrest
    rw [List.append_nil] at hrest
    obtain ⟨hlen, hfin⟩ := lstD_wp hrest
    exact .inl ⟨sv.stop Fi H2 (.of_same g2.same) g2.sub (g2.live l1), hfin Dd acc H2 Fi (g1.trans g2) nH nF eD hlen ra⟩

/-! ### calls of the text's own functions -/
def spD (K : PySem.W.Frag) (mg : Str → Option Value) (n : Nat) (g : List PyData → Res PyData) : Sp := fun vs H Q E => ∃ ds Fz, ds.length = n ∧ Live Fz H ∧ RepAll K Fz H vs ds ∧ EOK K mg E Fz H (g ds) Q
theorem spD_len {K : PySem.W.Frag} {mg : Str → Option Value} {n : Nat} {g : List PyData → Res PyData} {vs : List V} {H : Hp} {Q : VK} {E : XK} (h : spD K mg n g vs H Q E) : vs.length = n := by
  obtain ⟨ds, Fz, h1, _, h2, _⟩ := h
  rw [h2.length, h1]
end
end DL

set_option Elab.async false
set_option linter.all false
set_option maxRecDepth 100000
set_option maxHeartbeats 4000000
namespace DL
open PySem PySem.Spec L2
open PyProof.Rows hiding St

/-! ### a def's state -/
def SV.isOwn : SV → Bool
  | .val _ => false
  | .own _ => true
  | .ownd _ _ _ => true
/-- the thing of one's own at a -/
def OwnOb (K : PySem.W.Frag) (Fz : FZ) (H : Hp) (a : Addr) : SV → Prop
  | .val _ => False
  | .own xs => ∃ vs, H a = some (.lst vs) ∧ xs.length ≤ sizeLine ∧ RepAll K Fz H vs xs
  | .ownd false ks ds => ∃ kvs : List (Key × V), H a = some (.dK kvs) ∧ ks = kvs.map (fun p => kyD p.1) ∧ RepAll K Fz H (kvs.map (·.2)) ds
  | .ownd true ks ds => ∃ kvs : List (List Key × V), H a = some (.dT kvs) ∧ ks = kvs.map (fun p => kyT p.1) ∧ RepAll K Fz H (kvs.map (·.2)) ds
theorem OwnOb.mut {K : PySem.W.Frag} {Fz : FZ} {H : Hp} {a : Addr} {s : SV} (h : OwnOb K Fz H a s) : ∃ o, H a = some o ∧ (∀ xs, o ≠ .tup xs) ∧ ∀ u v, o ≠ .frz u v := by
  match s, h with
  | .own xs, ⟨vs, h, _⟩ => exact ⟨_, h, (fun _ e => by cases e), (fun _ _ e => by cases e)⟩
  | .ownd false ks ds, ⟨vs, h, _⟩ => exact ⟨_, h, (fun _ e => by cases e), (fun _ _ e => by cases e)⟩
  | .ownd true ks ds, ⟨vs, h, _⟩ => exact ⟨_, h, (fun _ e => by cases e), (fun _ _ e => by cases e)⟩
theorem OwnOb.keep {K : PySem.W.Frag} {Fz Fz' : FZ} {H H' : Hp} {a : Addr} {s : SV} (h : OwnOb K Fz H a s) (st : Stay Fz H H') (f : ∀ a, Fz a → Fz' a) (e : H' a = H a) : OwnOb K Fz' H' a s := by
  match s, h with
  | .own xs, ⟨vs, h, z, r⟩ => exact ⟨vs, e.trans h, z, r.stay st f⟩
  | .ownd false ks ds, ⟨vs, h, z, r⟩ => exact ⟨vs, e.trans h, z, r.stay st f⟩
  | .ownd true ks ds, ⟨vs, h, z, r⟩ => exact ⟨vs, e.trans h, z, r.stay st f⟩
theorem OwnOb.same {K : PySem.W.Frag} {Fz Fz' : FZ} {H H' : Hp} {a : Addr} {s : SV} (h : OwnOb K Fz H a s) (g : Same H H') (f : ∀ a, Fz a → Fz' a) : OwnOb K Fz' H' a s := by
  obtain ⟨o, ho, _⟩ := h.mut
  exact h.keep (.of_same g) f ((g _ _ ho).trans ho.symm)
theorem OwnOb.rep {K : PySem.W.Frag} {Fz Fz' : FZ} {H : Hp} {a : Addr} {s : SV} (h : OwnOb K Fz H a s) (f : ∀ a, Fz a → Fz' a) (q : Fz' a) : Rep K Fz' H (.ref a) s.d := by
  match s, h with
  | .own xs, ⟨vs, h, z, r⟩ => exact .lst (.inl ⟨h, q⟩) z (r.stay (.of_same fun _ _ e => e) f)
  | .ownd false ks ds, ⟨vs, h, z, r⟩ => exact .dck ⟨h, q⟩ z (r.stay (.of_same fun _ _ e => e) f)
  | .ownd true ks ds, ⟨vs, h, z, r⟩ => exact .dct ⟨h, q⟩ z (r.stay (.of_same fun _ _ e => e) f)
structure Rel (K : PySem.W.Frag) (H0 : Hp) (Fz0 Fz : FZ) (H : Hp) (σ : St) (δ : DSt) : Prop where
  same : Same H0 H
  sub0 : ∀ a, Fz0 a → Fz a
  new0 : ∀ a, Fz a → Fz0 a ∨ H0 a = none
  live : Live Fz H
  len : σ.length = δ.length
  val : ∀ (i : Nat) d, δ[i]? = some (some (.val d)) → ∃ v, σ[i]? = some (some v) ∧ Rep K Fz H v d
  own : ∀ (i : Nat) s, δ[i]? = some (some s) → s.isOwn = true → ∃ a, σ[i]? = some (some (.ref a)) ∧ H0 a = none ∧ ¬ Fz a ∧ OwnOb K Fz H a s
  sep : ∀ (i j : Nat) s u a, i ≠ j → δ[i]? = some (some s) → s.isOwn = true → δ[j]? = some (some u) → u.isOwn = true → σ[i]? = some (some (.ref a)) → σ[j]? ≠ some (some (.ref a))
/-- the addresses of the things of one's own at S -/
def ownA (σ : St) (δ : DSt) (S : List Nat) (a : Addr) : Prop := ∃ i ∈ S, ∃ s, δ[i]? = some (some s) ∧ s.isOwn = true ∧ σ[i]? = some (some (.ref a))
abbrev withOwn (Fz : FZ) (σ : St) (δ : DSt) (S : List Nat) : FZ := fun a => Fz a ∨ ownA σ δ S a
/-- things of one's own at S become frozen -/
def frzS : Option SV → Option SV
  | some (.own xs) => some (.val (.list xs))
  | some (.ownd t ks vs) => some (.val (dcD t ks vs))
  | s => s
def freeze (S : List Nat) : Nat → DSt → DSt
  | _, [] => []
  | k, s :: r => (if S.contains k then frzS s else s) :: freeze S (k + 1) r
theorem freeze_get (S : List Nat) : ∀ (δ : DSt) (k i : Nat), (freeze S k δ)[i]? = (δ[i]?).map fun s => if S.contains (k + i) then frzS s else s
  | [], _, _ => by simp [freeze]
  | s :: r, k, 0 => by simp [freeze]
  | s :: r, k, i + 1 => by
    rw [freeze, List.getElem?_cons_succ, List.getElem?_cons_succ, freeze_get S r (k + 1) i, show k + 1 + i = k + (i + 1) by omega]
theorem freeze_len (S : List Nat) : ∀ (δ : DSt) (k : Nat), (freeze S k δ).length = δ.length
  | [], _ => rfl
  | s :: r, k => by rw [freeze, List.length_cons, List.length_cons, freeze_len S r]
theorem frzS_some {s : SV} : frzS (some s) = some (.val s.d) := by
  cases s <;> rfl
theorem freeze_some {S : List Nat} {δ : DSt} {i : Nat} {s : SV} (e : (freeze S 0 δ)[i]? = some (some s)) : ∃ s', δ[i]? = some (some s') ∧ (i ∈ S ∧ s = .val s'.d ∨ i ∉ S ∧ s' = s) := by
  rw [freeze_get, Nat.zero_add] at e
  cases q : δ[i]? with
  | none => rw [q] at e; cases e
  | some o =>
    rw [q] at e
    have e := Option.some.inj (show some (if S.contains i then frzS o else o) = some (some s) from e)
    by_cases hi : i ∈ S
    · rw [if_pos (by simpa using hi)] at e
      cases o with
      | none => cases e
      | some s' =>
        rw [frzS_some] at e
        exact ⟨s', rfl, .inl ⟨hi, (Option.some.inj e).symm⟩⟩
    · rw [if_neg (by simpa using hi)] at e
      subst e
      exact ⟨s, rfl, .inr ⟨hi, rfl⟩⟩
theorem freeze_own {S : List Nat} {δ : DSt} {i : Nat} {s : SV} (e : (freeze S 0 δ)[i]? = some (some s)) (ho : s.isOwn = true) : i ∉ S ∧ δ[i]? = some (some s) := by
  obtain ⟨s', e', h | h⟩ := freeze_some e
  · rw [h.2] at ho; cases ho
  · exact ⟨h.1, h.2 ▸ e'⟩
section
variable {K : PySem.W.Frag} {H0 H H1 : Hp} {Fz0 Fz F1 : FZ} {σ : St} {δ : DSt} {S : List Nat}
theorem Rel.own_ne (r : Rel K H0 Fz0 Fz H σ δ) {i : Nat} {s : SV} {a : Addr} (e : δ[i]? = some (some s)) (ho : s.isOwn = true) (ea : σ[i]? = some (some (.ref a))) : ¬ Fz a ∧ H a ≠ none := by
  obtain ⟨a', h1, h2, h3, h4⟩ := r.own i s e ho
  rw [ea] at h1
  cases h1
  obtain ⟨o, h5, _⟩ := h4.mut
  exact ⟨h3, by rw [h5]; exact fun h => by cases h⟩
theorem Rel.ownLive (r : Rel K H0 Fz0 Fz H σ δ) : Live (withOwn Fz σ δ S) H := fun a z => by
  rcases z with z | ⟨i, _, s, e, ho, e2⟩
  · exact r.live a z
  · exact (r.own_ne e ho e2).2
theorem Rel.rd (r : Rel K H0 Fz0 Fz H σ δ) : RdOn K S (withOwn Fz σ δ S) H σ δ := ⟨r.len, fun i hi s e => by
  by_cases ho : s.isOwn = true
  · obtain ⟨a, h1, _, _, h2⟩ := r.own i s e ho
    exact ⟨.ref a, h1, h2.rep (fun _ h => .inl h) (.inr ⟨i, hi, s, e, ho, h1⟩)⟩
  · cases s with
    | val d =>
      obtain ⟨v, h1, h2⟩ := r.val i d e
      exact ⟨v, h1, h2.stay (.of_same fun _ _ e => e) fun _ h => .inl h⟩
    | _ => exact absurd rfl ho⟩
/-- behind an expression -/
theorem Rel.up (r : Rel K H0 Fz0 Fz H σ δ) (g : Same H H1) : Rel K H0 Fz0 Fz H1 σ δ :=
  ⟨fun a o e => g a o (r.same a o e), r.sub0, r.new0, fun a z e => r.live a z (none_of_same g e), r.len, fun i d e => by
    obtain ⟨v, h1, h2⟩ := r.val i d e
    exact ⟨v, h1, h2.stay (.of_same g) fun _ h => h⟩, fun i s e ho => by
    obtain ⟨a, h1, h3, h4, h5⟩ := r.own i s e ho
    exact ⟨a, h1, h3, h4, h5.same g fun _ h => h⟩, r.sep⟩
/-- .. with what was read frozen -/
theorem Rel.frz (r : Rel K H0 Fz0 Fz H σ δ) (g : Grow (withOwn Fz σ δ S) H F1 H1) : Rel K H0 Fz0 F1 H1 σ (freeze S 0 δ) := by
  have sub : ∀ a, Fz a → F1 a := fun a h => g.sub a (.inl h)
  refine ⟨fun a o e => g.same a o (r.same a o e), fun a h => sub a (r.sub0 a h), fun a z => ?_, g.live r.ownLive, by rw [freeze_len]; exact r.len, fun i d e => ?_, fun i s e ho => ?_, fun i j s u a hij e1 o1 e2 o2 h1 h2 => ?_⟩
  · rcases g.new a z with (z | ⟨i, _, s, e, ho, e2⟩) | z
    · exact r.new0 a z
    · obtain ⟨a', h1, h3, _⟩ := r.own i s e ho
      rw [e2] at h1
      cases h1
      exact .inr h3
    · exact .inr (none_of_same r.same z)
  · obtain ⟨s', e', hh⟩ := freeze_some e
    by_cases ho : s'.isOwn = true
    · rcases hh with ⟨hi, q⟩ | ⟨_, q⟩
      · cases q
        obtain ⟨a, h1, _, _, h3⟩ := r.own i s' e' ho
        exact ⟨.ref a, h1, (h3.same g.same sub).rep (fun _ h => h) (g.sub a (.inr ⟨i, hi, s', e', ho, h1⟩))⟩
      · rw [q] at ho; cases ho
    · cases s' with
      | val d' =>
        have hd : d' = d := by
          rcases hh with ⟨_, q⟩ | ⟨_, q⟩
          · cases q; rfl
          · cases q; rfl
        subst hd
        obtain ⟨v, h1, h2⟩ := r.val i d' e'
        exact ⟨v, h1, h2.stay (.of_same g.same) sub⟩
      | _ => exact absurd rfl ho
  · obtain ⟨hi, e'⟩ := freeze_own e ho
    obtain ⟨a, h1, h3, h4, h5⟩ := r.own i s e' ho
    refine ⟨a, h1, h3, fun z => ?_, h5.same g.same sub⟩
    rcases g.new a z with (z | ⟨j, hj, u, ej, oj, ej2⟩) | z
    · exact h4 z
    · have hij : i ≠ j := fun q => hi (q ▸ hj)
      exact r.sep i j s u a hij e' ho ej oj h1 ej2
    · exact (r.own_ne e' ho h1).2 z
  · exact r.sep i j s u a hij (freeze_own e1 o1).2 o1 (freeze_own e2 o2).2 o2 h1 h2
theorem set_get {α : Type} {l : List (Option α)} {i j : Nat} {x y : α} (h : (l.set i (some x))[j]? = some (some y)) : (i = j ∧ i < l.length ∧ x = y) ∨ (i ≠ j ∧ l[j]? = some (some y)) := by
  by_cases hij : i = j
  · subst hij
    by_cases hl : i < l.length
    · rw [List.getElem?_set_self hl] at h
      cases h
      exact .inl ⟨rfl, hl, rfl⟩
    · rw [List.getElem?_eq_none (by rw [List.length_set]; omega)] at h
      cases h
  · rw [List.getElem?_set_ne hij] at h
    exact .inr ⟨hij, h⟩
theorem Rel.setVal (r : Rel K H0 Fz0 Fz H σ δ) {v : V} {d : PyData} (rv : Rep K Fz H v d) (i : Nat) : Rel K H0 Fz0 Fz H (σ.set i (some v)) (δ.set i (some (.val d))) := by
  refine ⟨r.same, r.sub0, r.new0, r.live, by rw [List.length_set, List.length_set]; exact r.len, fun j d' e => ?_, fun j s e ho => ?_, fun j k s u a hjk e1 o1 e2 o2 h1 h2 => ?_⟩
  · rcases set_get e with ⟨rfl, hl, q⟩ | ⟨hij, e⟩
    · cases q
      exact ⟨v, List.getElem?_set_self (by rw [r.len]; exact hl), rv⟩
    · obtain ⟨v', h1, h2⟩ := r.val j d' e
      exact ⟨v', by rw [List.getElem?_set_ne hij]; exact h1, h2⟩
  · rcases set_get e with ⟨rfl, hl, q⟩ | ⟨hij, e⟩
    · rw [← q] at ho; cases ho
    · obtain ⟨a, h1, h2⟩ := r.own j s e ho
      exact ⟨a, by rw [List.getElem?_set_ne hij]; exact h1, h2⟩
  · rcases set_get e1 with ⟨_, _, q⟩ | ⟨hij, e1⟩
    · rw [← q] at o1; cases o1
    · rcases set_get e2 with ⟨_, _, q⟩ | ⟨hik, e2⟩
      · rw [← q] at o2; cases o2
      · rw [List.getElem?_set_ne hij] at h1
        rw [List.getElem?_set_ne hik] at h2
        exact r.sep j k s u a hjk e1 o1 e2 o2 h1 h2
theorem Rel.setOwn (r : Rel K H0 Fz0 Fz H σ δ) {p : Addr} {s : SV} (n0 : H0 p = none) (nf : ¬ Fz p) (rv : OwnOb K Fz H p s) (ap : ∀ (j : Nat) u, δ[j]? = some (some u) → u.isOwn = true → σ[j]? ≠ some (some (.ref p))) (i : Nat) :
    Rel K H0 Fz0 Fz H (σ.set i (some (.ref p))) (δ.set i (some s)) := by
  have io : s.isOwn = true := by
    cases s with
    | val d => exact rv.elim
    | _ => rfl
  refine ⟨r.same, r.sub0, r.new0, r.live, by rw [List.length_set, List.length_set]; exact r.len, fun j d' e => ?_, fun j s' e' ho => ?_, fun j k s' u a hjk e1 o1 e2 o2 h1 h2 => ?_⟩
  · rcases set_get e with ⟨rfl, hl, q⟩ | ⟨hij, e⟩
    · rw [q] at io; cases io
    · obtain ⟨v', h1, h2⟩ := r.val j d' e
      exact ⟨v', by rw [List.getElem?_set_ne hij]; exact h1, h2⟩
  · rcases set_get e' with ⟨rfl, hl, q⟩ | ⟨hij, e'⟩
    · subst q
      exact ⟨p, List.getElem?_set_self (by rw [r.len]; exact hl), n0, nf, rv⟩
    · obtain ⟨a, h1, h2⟩ := r.own j s' e' ho
      exact ⟨a, by rw [List.getElem?_set_ne hij]; exact h1, h2⟩
  · rcases set_get e1 with ⟨rfl, hl1, q⟩ | ⟨hij, e1⟩
    · rcases set_get e2 with ⟨rfl, _, q⟩ | ⟨hik, e2⟩
      · exact hjk rfl
      · rw [List.getElem?_set_self (by rw [r.len]; exact hl1)] at h1
        cases h1
        rw [List.getElem?_set_ne hik] at h2
        exact ap k u e2 o2 h2
    · rcases set_get e2 with ⟨rfl, hl2, q⟩ | ⟨hik, e2⟩
      · rw [List.getElem?_set_self (by rw [r.len]; exact hl2)] at h2
        cases h2
        rw [List.getElem?_set_ne hij] at h1
        exact ap j s' e1 o1 h1
      · rw [List.getElem?_set_ne hij] at h1
        rw [List.getElem?_set_ne hik] at h2
        exact r.sep j k s' u a hjk e1 o1 e2 o2 h1 h2
theorem Rel.apart (r : Rel K H0 Fz0 Fz H σ δ) {p : Addr} (np : H p = none) : ∀ (j : Nat) u, δ[j]? = some (some u) → u.isOwn = true → σ[j]? ≠ some (some (.ref p)) := fun j u e ho q => (r.own_ne e ho q).2 np
/-- the thing at slot i is changed -/
theorem Rel.write (r : Rel K H0 Fz0 Fz H σ δ) {i : Nat} {a : Addr} {s s' : SV} {o : HO} (e : δ[i]? = some (some s)) (ho : s.isOwn = true) (ea : σ[i]? = some (some (.ref a))) (rv : (∀ H', Stay Fz H H' → H' a = some o → OwnOb K Fz H' a s')) :
    Rel K H0 Fz0 Fz (upd H a o) σ (δ.set i (some s')) := by
  obtain ⟨a', h1, h3, h4, h5⟩ := r.own i s e ho
  rw [ea] at h1
  cases h1
  obtain ⟨o1, h2, hm1, hm2⟩ := h5.mut
  have st : Stay Fz H (upd H a o) := .write h4 h2 ⟨hm1, hm2⟩
  have rv' := rv _ st upd_same
  have io : s'.isOwn = true := by
    cases s' with
    | val d => exact rv'.elim
    | _ => rfl
  refine ⟨same_upd2 r.same h3, r.sub0, r.new0, fun b z q => ?_, by rw [List.length_set]; exact r.len, fun j d' e' => ?_, fun j u e' oj => ?_, fun j k u1 u2 b hjk e1 o1 e2 o2 h1 h2' => ?_⟩
  · by_cases hb : b = a
    · subst hb; exact h4 z
    · rw [upd_ne hb] at q
      exact r.live b z q
  · rcases set_get e' with ⟨rfl, hl, q⟩ | ⟨hij, e'⟩
    · rw [q] at io; cases io
    · obtain ⟨v', h1, h2⟩ := r.val j d' e'
      exact ⟨v', h1, h2.stay st fun _ h => h⟩
  · rcases set_get e' with ⟨rfl, hl, q⟩ | ⟨hij, e'⟩
    · subst q
      exact ⟨a, ea, h3, h4, rv'⟩
    · obtain ⟨b, k1, k3, k4, k6⟩ := r.own j u e' oj
      have hne : b ≠ a := fun q => by
        subst q
        exact r.sep i j s u b hij e ho e' oj ea k1
      exact ⟨b, k1, k3, k4, k6.keep st (fun _ h => h) (upd_ne hne)⟩
  · have f : ∀ {j : Nat} {z : SV}, (δ.set i (some s'))[j]? = some (some z) → z.isOwn = true → ∃ z', δ[j]? = some (some z') ∧ z'.isOwn = true := fun {j z} q oz => by
      rcases set_get q with ⟨rfl, _, _⟩ | ⟨_, q⟩
      · exact ⟨s, e, ho⟩
      · exact ⟨z, q, oz⟩
    obtain ⟨z1, q1, p1⟩ := f e1 o1
    obtain ⟨z2, q2, p2⟩ := f e2 o2
    exact r.sep j k z1 z2 b hjk q1 p1 q2 p2 h1 h2'
end

/-! ### statements -/
inductive Out where
  | nx (δ : DSt) | rt (d : PyData) | bk (δ : DSt) | ct (δ : DSt)
def OOK (K : PySem.W.Frag) (H0 : Hp) (Fz0 : FZ) (Dn : Ends) : Out → Prop
  | .nx δ => ∀ Fz H σ, Rel K H0 Fz0 Fz H σ δ → Dn.nx σ H
  | .rt d => ∀ Fz H v, Grow Fz0 H0 Fz H → Rep K Fz H v d → Dn.rt v H
  | .bk δ => ∀ Fz H σ, Rel K H0 Fz0 Fz H σ δ → Dn.bk σ H
  | .ct δ => ∀ Fz H σ, Rel K H0 Fz0 Fz H σ δ → Dn.ct σ H
def XOK (mg : Str → Option Value) (W : XK) (H0 : Hp) (Fz0 : FZ) (x : Exn) : Prop := ∀ c oe H Fz, Grow Fz0 H0 Fz H → ExR mg x c oe H → W c oe H
def SOK (K : PySem.W.Frag) (mg : Str → Option Value) (W : XK) (H0 : Hp) (Fz0 : FZ) (r : Res Out) (Dn : Ends) : Prop := r.wp (OOK K H0 Fz0 Dn) (XOK mg W H0 Fz0)
structure DS (X : Cx) (W : WS) (st : Stmt) (t : TS) (f : DSt → Res Out) : Prop where
  pe : PS X st t
  ok : ∀ H0 Fz0 Fz H σ δ Dn, Rel X.K H0 Fz0 Fz H σ δ → SOK X.K X.mg (W σ) H0 Fz0 (f δ) Dn → t Dn σ H
structure DSs (X : Cx) (W : WS) (st : List Stmt) (t : TS) (f : DSt → Res Out) : Prop where
  pe : PSs X st t
  ok : ∀ H0 Fz0 Fz H σ δ Dn, Rel X.K H0 Fz0 Fz H σ δ → SOK X.K X.mg (W σ) H0 Fz0 (f δ) Dn → t Dn σ H
/-- where an expression at a def's state stands -/
theorem Rel.grow0 {K : PySem.W.Frag} {H0 H H1 : Hp} {Fz0 Fz F1 : FZ} {σ : St} {δ : DSt} {S : List Nat} (r : Rel K H0 Fz0 Fz H σ δ) (g : Grow (withOwn Fz σ δ S) H F1 H1) : Grow Fz0 H0 F1 H1 :=
  let q := r.frz g
  ⟨q.same, q.sub0, q.new0, fun _ => q.live⟩
section
variable {X : Cx} {W : WS} {U : XK} {S T : List Nat} {e a b c tg : Expr} {es tgs : List Expr} {pos p : Pos} {te ta tb : TE} {tt : TT} {ts ts' : TS} {st : Stmt} {rest : List Stmt}
theorem atE {f : DSt → Res PyData} {H0 H : Hp} {Fz0 Fz : FZ} {σ : L2.St} {δ : DSt} {Q : VK} (he : DE X W S e te f) (r : Rel X.K H0 Fz0 Fz H σ δ) (h : (f δ).wp (fun d => ∀ v H1 F1, Grow (withOwn Fz σ δ S) H F1 H1 → Rep X.K F1 H1 v d → Q v H1) (XOK X.mg (W σ) H0 Fz0)) : te σ H Q :=
  he.ok _ σ H δ Q r.rd r.ownLive (wp_mono h (fun d hd v H1 F1 g r1 => hd v H1 F1 g r1) fun x hx c oe H1 F1 g q => hx c oe H1 F1 (r.grow0 g) q)
theorem atF {f : DSt → Res (List PyData)} {H0 H : Hp} {Fz0 Fz : FZ} {σ : L2.St} {δ : DSt} {Q : VK} (he : DF X W S e te f) (r : Rel X.K H0 Fz0 Fz H σ δ) (h : (f δ).wp (fun ds => ∀ p vs H1 F1, Grow (withOwn Fz σ δ S) H F1 H1 → H p = none → ¬ F1 p → H1 p = some (.lst vs) → ds.length ≤ sizeLine → RepAll X.K F1 H1 vs ds → Q (.ref p) H1) (XOK X.mg (W σ) H0 Fz0)) : te σ H Q :=
  he.ok _ σ H δ Q r.rd r.ownLive (wp_mono h (fun d hd p vs H1 F1 g => hd p vs H1 F1 g) fun x hx c oe H1 F1 g q => hx c oe H1 F1 (r.grow0 g) q)
theorem atT {f : DSt → Res Bool} {H0 H : Hp} {Fz0 Fz : FZ} {σ : L2.St} {δ : DSt} {Q : Bool → Hp → Prop} (he : DT X W S e tt f) (r : Rel X.K H0 Fz0 Fz H σ δ) (h : (f δ).wp (fun b => ∀ H1, Rel X.K H0 Fz0 Fz H1 σ δ → Q b H1) (XOK X.mg (W σ) H0 Fz0)) : tt σ H Q :=
  he.ok _ σ H δ Q r.rd r.ownLive (wp_mono h (fun d hd H1 F1 g => hd H1 (r.up g.same)) fun x hx c oe H1 F1 g q => hx c oe H1 F1 (r.grow0 g) q)

theorem dss_nil : DSs X W [] tNext (fun δ => .ok (.nx δ)) := ⟨pss_nil, fun H0 Fz0 Fz H σ δ Dn r h => h Fz H σ r⟩
def seqF (f g : DSt → Res Out) (δ : DSt) : Res Out := do
  match ← f δ with
  | .nx δ' => g δ'
  | o => .ok o
theorem dss_cons {f g : DSt → Res Out} (h1 : DS X (fun _ => U) st ts f) (h2 : DSs X (fun _ => U) rest ts' g) : DSs X (fun _ => U) (st :: rest) (tSeq ts ts') (seqF f g) := by
  refine ⟨pss_cons h1.pe h2.pe, fun H0 Fz0 Fz H σ δ Dn r h => ?_⟩
  unfold SOK seqF at h
  rw [wp_bind] at h
  refine h1.ok H0 Fz0 Fz H σ δ _ r (wp_mono h (fun o ho => ?_) fun x hx => hx)
  cases o with
  | nx δ' => exact fun F H' σ' r' => h2.ok H0 Fz0 F H' σ' δ' Dn r' ho
  | rt d => exact ho
  | bk δ' => exact ho
  | ct δ' => exact ho
theorem dss_one {f : DSt → Res Out} (h1 : DS X W st ts f) : DSs X W [st] ts f := ⟨pss_one h1.pe, h1.ok⟩
theorem ds_pass : DS X W (.Pass pos) tNext (fun δ => .ok (.nx δ)) := ⟨ps_pass, fun H0 Fz0 Fz H σ δ Dn r h => h Fz H σ r⟩
theorem ds_break : DS X W (.Break pos) tBreak (fun δ => .ok (.bk δ)) := ⟨ps_break, fun H0 Fz0 Fz H σ δ Dn r h => h Fz H σ r⟩
theorem ds_continue : DS X W (.Continue pos) tCont (fun δ => .ok (.ct δ)) := ⟨ps_continue, fun H0 Fz0 Fz H σ δ Dn r h => h Fz H σ r⟩
/-- target = e -/
def asgF (S : List Nat) (f : DSt → Res PyData) (p : Pat) (δ : DSt) : Res Out := do
  let d ← f δ
  let δ' ← nE (bindP p d (if flat d then δ else freeze S 0 δ))
  .ok (.nx δ')
theorem Rel.setsVal {K : PySem.W.Frag} {H0 H : Hp} {Fz0 Fz : FZ} {is : List Nat} : Sets K Fz H is (fun σ δ => Rel K H0 Fz0 Fz H σ δ) := fun σ δ i v d _ hr rv => hr.setVal rv i
theorem asg_ok {f : DSt → Res PyData} {g : TG} {p : Pat} (he : DE X W S e te f) (hg : DG X tg g p) : ∀ H0 Fz0 Fz H σ δ Dn, Rel X.K H0 Fz0 Fz H σ δ → SOK X.K X.mg (W σ) H0 Fz0 (asgF S f p δ) Dn → tAsg te g Dn σ H := fun H0 Fz0 Fz H σ δ Dn r h => by
  unfold SOK asgF at h
  rw [wp_bind] at h
  refine atE he r (wp_mono h (fun d hd v H1 F1 g1 r1 => ?_) fun x hx => hx)
  rw [wp_bind] at hd
  obtain ⟨δ', hb, hd⟩ := nEb hd
  by_cases hf : flat d = true
  · rw [if_pos hf] at hb
    refine hg.ok Fz H1 _ v d σ δ _ Rel.setsVal (r.up g1.same) (r1.flat hf) ?_
    rw [hb]
    exact fun σ' r' => hd Fz H1 σ' r'
  · rw [if_neg hf] at hb
    refine hg.ok F1 H1 _ v d σ (freeze S 0 δ) _ Rel.setsVal (r.frz g1) r1 ?_
    rw [hb]
    exact fun σ' r' => hd F1 H1 σ' r'
theorem ds_asg {f : DSt → Res PyData} {g : TG} {p : Pat} (hg : DG X tg g p) (he : DE X W S e te f) (hs : swapsWithSole [tg] e pos.line X.env = pure false := by rfl) (hw : swappedStores [tg] e X.env = pure none := by rfl) (h1 : (assignEach [tg] X.env).map (·.2) = [assign tg X.env] := by rfl) : DS X W (.Assign [tg] e pos) (tAsg te g) (asgF S f p) :=
  ⟨ps_asg he.pe hg.pe hs hw h1, asg_ok he hg⟩
/-- x = e -/
theorem ds_set {i : Nat} {x : Str} {pos' : Pos} {f : DSt → Res PyData} (hN : X.N.Nodup) (hi : X.N[i]? = some x) (hx : L2.Loc X.env.scope x) (he : DE X W S e te f) (hs : swapsWith e (some (.Name x pos')) pos.line X.env = pure false := by rfl) (hf : X.fn x = true ∨ X.env.scope.names.lookup x = some .local := by first | exact .inl rfl | exact .inr rfl | assumption) :
    DS X W (.Assign [.Name x pos'] e pos) (tAsg te (gName i)) (asgF S f (.nm i)) :=
  ⟨ps_set hN hi hx he.pe hs hf, asg_ok he (dg_name (pos := pos') hN hi hx hf)⟩
/-- x = a new list -/
def asgO (S : List Nat) (f : DSt → Res (List PyData)) (i : Nat) (δ : DSt) : Res Out := do
  let xs ← f δ
  .ok (.nx ((if flatAll xs then δ else freeze S 0 δ).set i (some (.own xs))))
theorem asgO_ok {i : Nat} {f : DSt → Res (List PyData)} (he : DF X W S e te f) : ∀ H0 Fz0 Fz H σ δ Dn, Rel X.K H0 Fz0 Fz H σ δ → SOK X.K X.mg (W σ) H0 Fz0 (asgO S f i δ) Dn → tAsg te (gName i) Dn σ H := fun H0 Fz0 Fz H σ δ Dn r h => by
  unfold SOK asgO at h
  rw [wp_bind] at h
  refine atF he r (wp_mono h (fun ds hd p vs H1 F1 g1 np nf e z r1 => ?_) fun x hx => hx)
  have n0 : H0 p = none := none_of_same r.same np
  by_cases hf : flatAll ds = true
  · rw [if_pos hf] at hd
    exact hd Fz H1 _ ((r.up g1.same).setOwn (s := .own ds) n0 (fun q => r.live p q np) ⟨vs, e, z, r1.flat hf⟩ (r.apart np) i)
  · rw [if_neg hf] at hd
    exact hd F1 H1 _ ((r.frz g1).setOwn (s := .own ds) n0 nf ⟨vs, e, z, r1⟩ (fun j u ej oj => r.apart np j u (freeze_own ej oj).2 oj) i)
theorem ds_setO {i : Nat} {x : Str} {pos' : Pos} {f : DSt → Res (List PyData)} (hN : X.N.Nodup) (hi : X.N[i]? = some x) (hx : L2.Loc X.env.scope x) (he : DF X W S e te f) (hs : swapsWith e (some (.Name x pos')) pos.line X.env = pure false := by rfl) (hf : X.fn x = true ∨ X.env.scope.names.lookup x = some .local := by first | exact .inl rfl | exact .inr rfl | assumption) :
    DS X W (.Assign [.Name x pos'] e pos) (tAsg te (gName i)) (asgO S f i) :=
  ⟨ps_set hN hi hx he.pe hs hf, asgO_ok he⟩
/-- x = [.. for ..] on one line -/
theorem ds_setLc {S1 S2 : List Nat} {elt iter : Expr} {ifs : List Expr} {scope : Scope} {own : List (Str × Nat)} {wi : TI} {gg : TG} {tte : TT} {i : Nat} {y : Str} {py spos : Pos} {g : DSt → Res (List PyData)} {p : Pat} {ft : DSt → Res Bool} {fe : DSt → Res PyData}
    (hy : X.N[i]? = some y) (hyl : X.env.scope.names.lookup y = some .local) (hsw : swapsWith (.ListComp elt [⟨tg, iter, ifs, 0⟩] scope pos) (some (.Name y py)) spos.line X.env = pure true)
    (hc : X.calm = true) (hN : X.N.Nodup) (hi : DI X W S tg iter wi g) (ok : BlkOk X.N X.env.scope scope own)
    (hg : ∀ (s : Shared) (H : Hp) (C : Addr) (cl : List (Str × Addr)) (fp : List Addr), DG (X.blk s H scope (compEnvC scope cl C X.env) fp) tg gg p) (hp : ∀ i ∈ p.slots, i ∈ own.map (·.2))
    (ht : ∀ (s : Shared) (H : Hp) (C : Addr) (cl : List (Str × Addr)) (fp : List Addr), DTs (X.blk s H scope (compEnvC scope cl C X.env) fp) (fun _ => E0) S1 ifs tte ft)
    (he : ∀ (s : Shared) (H : Hp) (C : Addr) (cl : List (Str × Addr)) (fp : List Addr), DE (X.blk s H scope (compEnvC scope cl C X.env) fp) (fun _ => E0) S2 elt te fe) (hs : ∀ x, foldedSetIterable iter X.env x = pure x := by intro _; rfl) :
    DS X W (.Assign [.Name y py] (.ListComp elt [⟨tg, iter, ifs, 0⟩] scope pos) spos) (tAsg (tLc wi gg tte te (own.map (·.2))) (gName i)) (asgO (S ++ (S1 ++ S2)) (lcF g p (own.map (·.2)) ft fe) i) :=
  ⟨ps_setLc hc hN hy hyl hsw hi.pe ok (fun s H C cl fp => (hg s H C cl fp).pe) (fun s H C cl fp => (ht s H C cl fp).pe) (fun s H C cl fp => (he s H C cl fp).pe) hs, asgO_ok (df_lc (pos := pos) hc hN hi ok hg hp ht he hs)⟩
theorem ds_ret {f : DSt → Res PyData} (he : DE X W S e te f) : DS X W (.Return (some e) pos) (tRet te) (fun δ => do let d ← f δ; .ok (.rt d)) := by
  refine ⟨ps_ret he.pe, fun H0 Fz0 Fz H σ δ Dn r h => ?_⟩
  unfold SOK at h
  rw [wp_bind] at h
  exact atE he r (wp_mono h (fun d hd v H1 F1 g1 r1 => hd F1 H1 v (r.grow0 g1) r1) fun x hx => hx)
theorem ds_retN : DS X W (.Return none pos) tRetN (fun δ => .ok (.rt .none)) :=
  ⟨ps_retN, fun H0 Fz0 Fz H σ δ Dn r h => h Fz H .non ⟨r.same, r.sub0, r.new0, fun _ => r.live⟩ .non⟩
/-- an expression alone -/
theorem ds_expr {f : DSt → Res PyData} (he : DE X W S e te f) (hs : swapsWith e none pos.line X.env = pure false := by rfl) : DS X W (.Expr e pos) (tDrop te) (fun δ => do let _ ← f δ; .ok (.nx δ)) := by
  refine ⟨ps_expr he.pe hs, fun H0 Fz0 Fz H σ δ Dn r h => ?_⟩
  unfold SOK at h
  rw [wp_bind] at h
  exact atE he r (wp_mono h (fun d hd v H1 F1 g1 r1 => hd Fz H1 σ (r.up g1.same)) fun x hx => hx)
theorem ds_if {c : Expr} {a b : List Stmt} {h : DSt → Res Bool} {f g : DSt → Res Out} (hc : DT X W S c tt h) (ha : DSs X W a ts f) (hb : DSs X W b ts' g) : DS X W (.If c a b pos) (tIfS tt ts ts') (fun δ => do let x ← h δ; if x then f δ else g δ) := by
  refine ⟨ps_if hc.pe ha.pe hb.pe, fun H0 Fz0 Fz H σ δ Dn r q => ?_⟩
  unfold SOK at q
  rw [wp_bind] at q
  refine atT hc r (wp_mono q (fun x hx H1 r1 => ?_) fun x hx => hx)
  cases x with
  | true => exact ha.ok H0 Fz0 Fz H1 σ δ Dn r1 hx
  | false => exact hb.ok H0 Fz0 Fz H1 σ δ Dn r1 hx
/-- xs.append(e) -/
def appF (i : Nat) (S : List Nat) (f : DSt → Res PyData) (δ : DSt) : Res Out :=
  match δ[i]? with
  | some (some (.own _)) => do
    let d ← f δ
    let δ' := if flat d then δ else freeze S 0 δ
    match δ'[i]? with
    | some (some (.own xs)) => if xs.length < sizeLine then .ok (.nx (δ'.set i (some (.own (xs ++ [d]))))) else .bot
    | _ => .bot
  | _ => .bot
theorem ds_append {i : Nat} {x : Str} {f : DSt → Res PyData} {apos cpos xpos : Pos} (hN : X.N[i]? = some x) (hv : Vis X.env.scope x) (he : DE X W S e te f)
    (hbase : attributeBase (.Name x xpos) "append" X.env (eval (.Name x xpos) X.env) = eval (.Name x xpos) X.env := by rfl)
    (hfew : ((backTo cpos (starEach [e] X.env)).all (fun x => !x.1) && (backToKw cpos (keywordEach [] X.env)).all (fun x => x.1.isSome)
      && decide ([e].length + ([] : List Keyword).length + (if ([] : List Keyword).isEmpty then 0 else 1) < 30)) = true := by rfl)
    (hline : (apos.endLine == cpos.line) = true := by rfl) (hs : starEach [e] X.env = (false, eval e X.env) :: starEach [] X.env := by rfl) (hplain : (backTo cpos (starEach [] X.env)).any (·.1) = false := by rfl)
    (hsw : swapsWith (.Call (.Attribute (.Name x xpos) "append" apos) [e] [] cpos) none pos.line X.env = pure false := by rfl) (hd : (x == ("__debug__" : Str)) = false := by decide) (hcd : (x == ("__classdict__" : Str)) = false := by decide) :
    DS X W (.Expr (.Call (.Attribute (.Name x xpos) "append" apos) [e] [] cpos) pos) (tDrop (tBM X.K "list" rAppend (tVar i) (tCons te tNil))) (appF i S f) := by
  refine ⟨ps_expr (pe_bm PySem.F.plainAttrs_list PySem.F.slot_list_append PySem.F.type_list_append mt_append (pe_var (i := i) hN hv hd hcd) (pa_cons he.pe pa_nil hs) hbase hfew hline hs hplain) hsw, fun H0 Fz0 Fz H σ δ Dn r h => ?_⟩
  unfold SOK appF at h
  split at h
  · rename_i xs0 e1
    obtain ⟨a, e2, e4, e5, vs, e3, e6, e7⟩ := r.own i _ e1 rfl
    rw [wp_bind] at h
    refine ⟨.ref a, e2, .inl ⟨rfl, _, .of e3⟩, ?_⟩
    refine atE he r (wp_mono h (fun d hd v H1 F1 g1 r1 => ?_) fun x hx => hx)
    have fin : ∀ (F : FZ) (δ' : DSt), Rel X.K H0 Fz0 F H1 σ δ' → Rep X.K F H1 v d → (match δ'[i]? with
        | some (some (.own xs)) => if xs.length < sizeLine then (.ok (.nx (δ'.set i (some (.own (xs ++ [d]))))) : Res Out) else .bot
        | _ => .bot).wp (OOK X.K H0 Fz0 Dn) (XOK X.mg (W σ) H0 Fz0) → rAppend (.ref a) [v] H1 fun _ H2 => Dn.nx σ H2 := fun F δ' r' rv q => by
      split at q
      · rename_i xs e1'
        obtain ⟨a', k2, k4, k5, vs', k3, k6, k7⟩ := r'.own i _ e1' rfl
        rw [e2] at k2
        cases k2
        split at q
        · rename_i hz
          have l := k7.length
          exact ⟨a, vs', v, rfl, rfl, k3, by omega, q F _ σ (r'.write e1' rfl e2 fun H' st q => ⟨_, q, by rw [List.length_append, List.length_singleton]; omega, (k7.app (.cons rv .nil)).stay st fun _ h => h⟩)⟩
        · exact q.elim
      · exact q.elim
    by_cases hf : flat d = true
    · simp only [hf, if_true] at hd
      exact fin Fz δ (r.up g1.same) (r1.flat hf) hd
    · simp only [hf, if_false] at hd
      exact fin F1 _ (r.frz g1) r1 hd
  · exact h.elim
/-- a for loop -/
def forGo (p : Pat) (body : DSt → Res Out) : List PyData → DSt → Res Out
  | [], δ => .ok (.nx δ)
  | x :: r, δ => do
    let δ1 ← nE (bindP p x δ)
    match ← body δ1 with
    | .nx δ2 => forGo p body r δ2
    | .ct δ2 => forGo p body r δ2
    | .bk δ2 => .ok (.nx δ2)
    | .rt d => .ok (.rt d)
def forF (S : List Nat) (g : DSt → Res (List PyData)) (p : Pat) (body : DSt → Res Out) (δ : DSt) : Res Out := do
  let xs ← g δ
  forGo p body xs (freeze S 0 δ)
theorem freeze_nil : ∀ (δ : DSt) (k : Nat), freeze [] k δ = δ
  | [], _ => rfl
  | s :: r, k => by rw [freeze, freeze_nil r]; simp
/-- the part of the heap that stays through a loop -/
noncomputable def baseH (H0 : Hp) (Fz : FZ) (H : Hp) : Hp := fun a => open Classical in if H0 a ≠ none ∨ Fz a ∨ (∃ xs, H a = some (.tup xs)) ∨ (∃ u v, H a = some (.frz u v)) then H a else none
variable {K : PySem.W.Frag} {H0 H : Hp} {Fz0 Fz : FZ} {σ : L2.St} {δ : DSt}
theorem base_some {a : Addr} {o : HO} (h : H a = some o) (q : H0 a ≠ none ∨ Fz a ∨ (∃ xs, H a = some (.tup xs)) ∨ (∃ u v, H a = some (.frz u v))) : baseH H0 Fz H a = some o := by
  unfold baseH
  rw [if_pos q]
  exact h
theorem base_same0 (s : Same H0 H) : Same H0 (baseH H0 Fz H) := fun a o e => base_some (s a o e) (.inl (by rw [e]; exact fun h => by cases h))
theorem base_same : Same (baseH H0 Fz H) H := fun a o e => by
  unfold baseH at e
  split at e
  · exact e
  · cases e
theorem base_none {a : Addr} (s : Same H0 H) (h : baseH H0 Fz H a = none) : H0 a = none := none_of_same (base_same0 s) h
theorem Rel.rebase (r : Rel K H0 Fz0 Fz H σ δ) : Rel K (baseH H0 Fz H) Fz Fz H σ δ :=
  ⟨base_same, fun _ h => h, fun _ h => .inl h, r.live, r.len, r.val, (fun i s e ho => by
    obtain ⟨a, h1, h3, h4, h5⟩ := r.own i s e ho
    refine ⟨a, h1, ?_, h4, h5⟩
    obtain ⟨o, h2, m1, m2⟩ := h5.mut
    unfold baseH
    rw [if_neg]
    rintro (h | h | ⟨_, h⟩ | ⟨_, _, h⟩)
    · exact h h3
    · exact h4 h
    · rw [h2] at h; exact m1 _ (Option.some.inj h)
    · rw [h2] at h; exact m2 _ _ (Option.some.inj h)), r.sep⟩
theorem Rel.unbase {F' : FZ} {H' : Hp} {σ' : L2.St} {δ' : DSt} (r : Rel K H0 Fz0 Fz H σ δ) (q : Rel K (baseH H0 Fz H) Fz F' H' σ' δ') : Rel K H0 Fz0 F' H' σ' δ' :=
  ⟨fun a o e => q.same a o (base_same0 r.same a o e), fun a h => q.sub0 a (r.sub0 a h), fun a h => (q.new0 a h).elim (r.new0 a) fun z => .inr (base_none r.same z), q.live, q.len, q.val, fun i s e ho => by
    obtain ⟨a, h1, h3, h4⟩ := q.own i s e ho
    exact ⟨a, h1, base_none r.same h3, h4⟩, q.sep⟩
theorem Rel.ungrow {F' : FZ} {H' : Hp} (r : Rel K H0 Fz0 Fz H σ δ) (q : Grow Fz (baseH H0 Fz H) F' H') : Grow Fz0 H0 F' H' :=
  ⟨fun a o e => q.same a o (base_same0 r.same a o e), fun a h => q.sub a (r.sub0 a h), fun a h => (q.new a h).elim (r.new0 a) fun z => .inr (base_none r.same z), fun _ => q.live fun a h => by
    obtain ⟨o, e⟩ : ∃ o, H a = some o := by
      cases z : H a with
      | none => exact absurd z (r.live a h)
      | some o => exact ⟨o, rfl⟩
    rw [base_some e (.inr (.inl h))]
    exact fun h => by cases h⟩
theorem SOK.rebase {mg : Str → Option Value} {x : Res Out} {Dn : Ends} (r : Rel K H0 Fz0 Fz H σ δ) (h : SOK K mg U H0 Fz0 x Dn) : SOK K mg U (baseH H0 Fz H) Fz x Dn := by
  refine wp_mono h (fun o ho => ?_) fun x hx c oe H' F' g q => hx c oe H' F' (r.ungrow g) q
  cases o with
  | nx δ' => exact fun F' H' σ' q => ho F' H' σ' (r.unbase q)
  | rt d => exact fun F' H' v g q => ho F' H' v (r.ungrow g) q
  | bk δ' => exact fun F' H' σ' q => ho F' H' σ' (r.unbase q)
  | ct δ' => exact fun F' H' σ' q => ho F' H' σ' (r.unbase q)
theorem base_stay {H' : Hp} (s : Same (baseH H0 Fz H) H') : Stay Fz H H' := fun a o e h => s a o (base_some e (by
  rcases h with h | ⟨xs, h⟩ | ⟨u, v, h⟩
  · exact .inr (.inl h)
  · exact .inr (.inr (.inl ⟨xs, h ▸ e⟩))
  · exact .inr (.inr (.inr ⟨u, v, h ▸ e⟩))))
theorem for_core {g : TG} {p : Pat} {body : DSt → Res Out} {tb : TS} {sts : List Stmt} (hg : DG X tg g p) (hb : DSs X (fun _ => U) sts tb body) {Dn : Ends} {J : It} {ds : List PyData}
    (sv : Serves X.K Fz H J ds) (r : Rel X.K H0 Fz0 Fz H σ δ) (h : SOK X.K X.mg U H0 Fz0 (forGo p body ds δ) Dn) :
    ∃ Wv : Nat → Nat → L2.St → Hp → Prop, (∃ m, Wv 0 m σ H) ∧ ∀ i m σ H, Wv i m σ H →
      (J.stop i H ∧ Dn.nx σ H) ∨ (J.go i H ∧ ∃ N : L2.St → Hp → Prop, (∀ σ' H', N σ' H' → ∃ m', m' < m ∧ Wv (i + 1) m' σ' H') ∧ ∀ x H', J.yld i H x H' → g x σ H' fun σ2 H2 => tb { Dn with nx := N, ct := N, bk := Dn.nx } σ2 H2) := by
  have h' := h.rebase r
  have r' := r.rebase
  clear h
  refine ⟨fun i m σ2 H2 => m = ds.length - i ∧ i ≤ ds.length ∧ ∃ F2 δ2, Rel X.K (baseH H0 Fz H) Fz F2 H2 σ2 δ2 ∧ SOK X.K X.mg U (baseH H0 Fz H) Fz (forGo p body (ds.drop i) δ2) Dn,
    ⟨ds.length, by omega, Nat.zero_le _, Fz, δ, r', h'⟩, ?_⟩
  rintro i m σ2 H2 ⟨rfl, hi, F2, δ2, r2, q2⟩
  have st : Stay Fz H H2 := base_stay r2.same
  by_cases hlt : i < ds.length
  · have hdd : ds.drop i = ds[i] :: ds.drop (i + 1) := List.drop_eq_getElem_cons hlt
    rw [hdd] at q2
    obtain ⟨go, yl⟩ := sv.item F2 H2 st r2.sub0 r2.live i ds[i] (List.getElem?_eq_getElem hlt)
    refine .inr ⟨go, fun σ' H' => ∃ F3 δ3, Rel X.K (baseH H0 Fz H) Fz F3 H' σ' δ3 ∧ SOK X.K X.mg U (baseH H0 Fz H) Fz (forGo p body (ds.drop (i + 1)) δ3) Dn,
      fun σ' H' hN => ⟨ds.length - (i + 1), by omega, rfl, hlt, hN⟩, fun x H3 hy => ?_⟩
    obtain ⟨F3, g3, r3⟩ := yl x H3 hy
    unfold SOK forGo at q2
    rw [wp_bind] at q2
    obtain ⟨δ1, hb1, q2⟩ := nEb q2
    have g3' : Grow (withOwn F2 σ2 δ2 []) H2 (withOwn F3 σ2 δ2 []) H3 := ⟨g3.same, fun a h => h.elim (fun h => .inl (g3.sub a h)) .inr, fun a h => h.elim (fun h => (g3.new a h).elim (fun z => .inl (.inl z)) .inr) fun ⟨_, h, _⟩ => (by simp at h), fun l a h => h.elim (g3.live r2.live a) fun ⟨_, h, _⟩ => (by simp at h)⟩
    have r4 : Rel X.K (baseH H0 Fz H) Fz F3 H3 σ2 δ2 := by
      have := r2.frz (S := []) (F1 := F3) ⟨g3.same, fun a h => h.elim (fun h => g3.sub a h) fun ⟨_, h, _⟩ => (by simp at h), fun a h => (g3.new a h).elim (fun z => .inl (.inl z)) .inr, fun _ => g3.live r2.live⟩
      rwa [freeze_nil] at this
    refine hg.ok F3 H3 _ x ds[i] σ2 δ2 _ Rel.setsVal r4 r3 ?_
    rw [hb1]
    intro σ5 r5
    rw [wp_bind] at q2
    refine hb.ok _ _ F3 H3 σ5 δ1 _ r5 (wp_mono q2 (fun o ho => ?_) fun x hx => hx)
    cases o with
    | nx δ' => exact fun F' H' σ' q => ⟨F', δ', q, ho⟩
    | rt d => exact ho
    | bk δ' => exact ho
    | ct δ' => exact fun F' H' σ' q => ⟨F', δ', q, ho⟩
  · have e : i = ds.length := by omega
    subst e
    rw [List.drop_length] at q2
    exact .inl ⟨sv.stop F2 H2 st r2.sub0 r2.live, q2 F2 H2 σ2 r2⟩
theorem ds_for {iter : Expr} {body : List Stmt} {wi : TI} {g : TG} {p : Pat} {tb : TS} {f : DSt → Res (List PyData)} {fb : DSt → Res Out} (hp : PassesOwn (model X.prog X.w) X.A X.env X.xe) (hc : X.calm = true) (hi : DI X (fun _ => U) S tg iter wi f) (hg : DG X tg g p) (hb : DSs X (fun _ => U) body tb fb)
    (hs : ∀ x, foldedSetIterable iter X.env x = pure x := by intro _; rfl) : DS X (fun _ => U) (.For tg iter body [] pos) (tFor wi g tb) (forF S f p fb) := by
  refine ⟨ps_for hp hc hi.pe hg.pe hb.pe hs, fun H0 Fz0 Fz H σ δ Dn r h => ?_⟩
  unfold SOK forF at h
  rw [wp_bind] at h
  refine hi.ok _ σ H δ _ r.rd r.ownLive (wp_mono h (fun ds hd J H1 F1 g1 sv => ?_) fun x hx c oe H1 F1 g q => hx c oe H1 F1 (r.grow0 g) q)
  exact for_core hg hb sv (r.frz g1) hd
/-- .. over a range: nothing is frozen -/
def forR (g : DSt → Res (List PyData)) (p : Pat) (body : DSt → Res Out) (δ : DSt) : Res Out := do
  let xs ← g δ
  forGo p body xs δ
theorem ds_forR {iter : Expr} {body : List Stmt} {wi : TI} {g : TG} {p : Pat} {tb : TS} {f : DSt → Res (List PyData)} {fb : DSt → Res Out} (hp : PassesOwn (model X.prog X.w) X.A X.env X.xe) (hc : X.calm = true) (hi : DR X (fun _ => U) S tg iter wi f) (hg : DG X tg g p) (hb : DSs X (fun _ => U) body tb fb)
    (hs : ∀ x, foldedSetIterable iter X.env x = pure x := by intro _; rfl) : DS X (fun _ => U) (.For tg iter body [] pos) (tFor wi g tb) (forR f p fb) := by
  refine ⟨ps_for hp hc hi.pe hg.pe hb.pe hs, fun H0 Fz0 Fz H σ δ Dn r h => ?_⟩
  unfold SOK forR at h
  rw [wp_bind] at h
  refine hi.ok _ σ H δ _ r.rd r.ownLive (wp_mono h (fun ds hd J H1 F1 g1 sv => ?_) fun x hx c oe H1 F1 g q => hx c oe H1 F1 (r.grow0 g) q)
  exact for_core hg hb (sv Fz H1) (r.up g1.same) hd
/-- a while loop, of at most n turns -/
def whileGo (c : DSt → Res Bool) (body : DSt → Res Out) : Nat → DSt → Res Out
  | 0, _ => .bot
  | n + 1, δ => do
    let b ← c δ
    if b then do
      match ← body δ with
      | .nx δ2 => whileGo c body n δ2
      | .ct δ2 => whileGo c body n δ2
      | .bk δ2 => .ok (.nx δ2)
      | .rt d => .ok (.rt d)
    else .ok (.nx δ)
theorem ds_while {c : Expr} {body : List Stmt} {tb : TS} {fc : DSt → Res Bool} {fb : DSt → Res Out} (fuel : DSt → Nat) (hp : PassesOwn (model X.prog X.w) X.A X.env X.xe) (hc : DT X (fun _ => U) S c tt fc) (hb : DSs X (fun _ => U) body tb fb) : DS X (fun _ => U) (.While c body [] pos) (tWhile tt tb) (fun δ => whileGo fc fb (fuel δ) δ) := by
  refine ⟨ps_while hp hc.pe hb.pe, fun H0 Fz0 Fz H σ δ Dn r h => ?_⟩
  refine ⟨fun m σ H => ∃ F δ, Rel X.K H0 Fz0 F H σ δ ∧ SOK X.K X.mg U H0 Fz0 (whileGo fc fb m δ) Dn, ⟨_, Fz, δ, r, h⟩, ?_⟩
  rintro m σ H ⟨F, δ, r, h⟩
  cases m with
  | zero => exact h.elim
  | succ m =>
    unfold SOK whileGo at h
    rw [wp_bind] at h
    refine atT hc r (wp_mono h (fun b hb' H1 r1 => ?_) fun x hx => hx)
    cases b with
    | false => exact hb' F H1 σ r1
    | true =>
      refine ⟨fun σ' H' => ∃ F δ, Rel X.K H0 Fz0 F H' σ' δ ∧ SOK X.K X.mg U H0 Fz0 (whileGo fc fb m δ) Dn, fun σ' H' q => ⟨m, Nat.lt_succ_self _, q⟩, ?_⟩
      have hb' : Res.wp (Res.bind (fb δ) _) _ _ := hb'
      have hb' := (wp_bind (fb δ) _ _ _).mp hb'
      refine hb.ok _ _ F H1 σ δ _ r1 (wp_mono hb' (fun o ho => ?_) fun x hx => hx)
      cases o with
      | nx δ' => exact fun F' H' σ' q => ⟨F', δ', q, ho⟩
      | rt d => exact ho
      | bk δ' => exact ho
      | ct δ' => exact fun F' H' σ' q => ⟨F', δ', q, ho⟩
end
end DL

set_option Elab.async false
set_option linter.all false
set_option maxRecDepth 100000
set_option maxHeartbeats 4000000
namespace DL
open PySem PySem.Spec L2
open PyProof.Rows hiding St

/-! ### the text's own functions -/
/-- the function x of n arguments, as a function of data -/
structure FD (P : Program) (w : World) (K : PySem.W.Frag) (mg : Str → Option Value) (base : Heap) (k n : Nat) (x : Str) (g : List PyData → Res PyData) : Prop where
  ex : ∃ (f : Addr) (fd : FuncData) (ps : List Str), FnOk P w K mg base CX0 k f fd ps (spD K mg n g) ∧ mg x = some (.ref f) ∧ PySem.W.keepIn K (.ref f) = true ∧ Binds K fd ps []
theorem FD.mono {P : Program} {w : World} {K : PySem.W.Frag} {mg : Str → Option Value} {base : Heap} {k j n : Nat} {x : Str} {g : List PyData → Res PyData} (h : FD P w K mg base k n x g) (hk : k ≤ j) : FD P w K mg base j n x g := by
  obtain ⟨f, fd, ps, F, h1, h2, h3⟩ := h.ex
  exact ⟨f, fd, ps, F.mono hk, h1, h2, h3⟩
theorem de_call {X : Cx} {W : WS} {S : List Nat} {pos : Pos} {k j n : Nat} {x : Str} {e : Expr} {es : List Expr} {t : TA} {p : Pos} {g : List PyData → Res PyData} {f : DSt → Res (List PyData)} (c : FD X.prog X.w X.K X.mg X.base k n x g) (hr : Room j X.A) (hk : k ≤ j) (hg : Gl X x) (hn : (e :: es).length = n) (ha : DA X W S (e :: es) t f)
    (hdb : (x == ("__debug__" : Str)) = false := by decide) (he : starEach (e :: es) X.env = (false, eval e X.env) :: starEach es X.env := by rfl) (hpl : (backTo pos (starEach es X.env)).any (·.1) = false := by rfl) :
    DE X W S (.Call (.Name x p) (e :: es) [] pos) (tCall (spD X.K X.mg n g) [] L2.E0 t) (fun δ => do let ds ← f δ; nE (g ds)) := by
  obtain ⟨fa, fd, ps, F, hm, kp, hb⟩ := c.ex
  refine ⟨pe_call F (hr.mono hk) hg hm kp hb .nil pass0 ha.pe hdb he hpl, fun Fz σ H δ Q hd hl hq => ?_⟩
  unfold EOK at hq
  rw [wp_bind] at hq
  refine ha.ok Fz σ H δ _ hd hl (wp_mono (wp_and_can hq) (fun ds ⟨hq, hcan⟩ vs H1 F1 g1 r1 => ?_) fun x hx => hx)
  refine ⟨ds, F1, (ha.len δ ds hcan).trans hn, g1.live hl, by rw [List.append_nil]; exact r1, ?_⟩
  exact wp_mono (nE_wpA hq) (fun d hq2 v H2 F2 g2 r2 => hq2 v H2 F2 (g1.trans g2) r2) fun _ h => h
/-- the state at the entry -/
def startD (n : Nat) (ds : List PyData) : DSt := ds.map (fun d => some (.val d)) ++ List.replicate (n - ds.length) none
/-- a body as a function -/
def fnK : Out → Res PyData
  | .rt d => .ok d
  | .nx _ => .ok .none
  | _ => .bot
def fnD (n : Nat) (g : DSt → Res Out) (ds : List PyData) : Res PyData := nE (g (startD n ds)) >>= fnK
theorem startD_get {n : Nat} {ds : List PyData} {i : Nat} {s : SV} (h : (startD n ds)[i]? = some (some s)) : ∃ d, s = .val d ∧ ds[i]? = some d := by
  unfold startD at h
  by_cases hi : i < ds.length
  · rw [List.getElem?_append_left (by rw [List.length_map]; exact hi), List.getElem?_map] at h
    rw [List.getElem?_eq_getElem hi] at h ⊢
    cases h
    exact ⟨_, rfl, rfl⟩
  · rw [List.getElem?_append_right (by rw [List.length_map]; omega)] at h
    obtain ⟨_, h⟩ := List.getElem?_eq_some_iff.mp h
    rw [List.getElem_replicate] at h
    cases h
theorem fn_of {P : Program} {w : World} {K : PySem.W.Frag} {mg : Str → Option Value} {base : Heap} {x : Str} {st : Stmt} {f : Addr} {fd : FuncData} {N ps : List Str} {k : Nat} (F : Fun K x x st f fd) (S : FnScope N ps (defScope st)) {g : DSt → Res Out}
    (hbody : ∀ (cdv : Value) (A : Around) (outer : List Env) (s : Shared) (H : Hp) (E : XK), Room k (A.deeper (envOfC x (defScope st) s.heap.objs.size f cdv)) →
      ∃ t, DSs (cxOf CX0 P w K mg base N x (defScope st) f cdv A outer s H E).nox (fun _ => E0) (defBody st) t g) : FnOk P w K mg base CX0 (k + 1) f fd ps (spD K mg ps.length (fnD N.length g)) := by
  refine F.ok S (fun vs H Q E h => spD_len h) (fun cdv A outer s H vs Q E hr h => ?_)
  obtain ⟨t, ht⟩ := hbody cdv A outer s H E hr
  refine ⟨t, ht.pe, ?_⟩
  obtain ⟨ds, Fz, hl, live, ra, q⟩ := h
  have lv := ra.length
  refine ht.ok H Fz Fz H (start N vs) (startD N.length ds) _ ⟨fun _ _ e => e, fun _ h => h, fun _ h => .inl h, live, ?_, fun i d e => ?_, fun i s e ho => ?_, fun i j s u a hij e o1 _ _ _ => ?_⟩ ?_
  · unfold L2.start startD
    rw [List.length_append, List.length_append, List.length_map, List.length_map, List.length_replicate, List.length_replicate, lv]
  · obtain ⟨d', h1, h2⟩ := startD_get e
    cases h1
    obtain ⟨v, h3, h4⟩ := ra.get h2
    refine ⟨v, ?_, h4⟩
    have hi : i < vs.length := (List.getElem?_eq_some_iff.mp h3).1
    unfold L2.start
    rw [List.getElem?_append_left (by rw [List.length_map]; exact hi), List.getElem?_map, h3]
    rfl
  · obtain ⟨d', h1, h2⟩ := startD_get e
    cases h1
    cases ho
  · obtain ⟨d', h1, h2⟩ := startD_get e
    cases h1
    cases o1
  · unfold fnD EOK at q
    rw [wp_bind] at q
    unfold SOK
    refine wp_mono (nE_wpA q) (fun o q => ?_) fun x h => h
    cases o with
    | nx δ' => exact fun F' H' σ' r => q .non H' F' ⟨r.same, r.sub0, r.new0, fun _ => r.live⟩ .non
    | rt d => exact fun F' H' v g r => q v H' F' g r
    | bk δ' => exact q.elim
    | ct δ' => exact q.elim
theorem fd_of {P : Program} {w : World} {K : PySem.W.Frag} {mg : Str → Option Value} {base : Heap} {x : Str} {st : Stmt} {f : Addr} {fd : FuncData} {N ps : List Str} {k : Nat} (F : Fun K x x st f fd) (hm : mg x = some (.ref f)) (b : Binds K fd ps []) (S : FnScope N ps (defScope st)) {g : DSt → Res Out}
    (hbody : ∀ (cdv : Value) (A : Around) (outer : List Env) (s : Shared) (H : Hp) (E : XK), Room k (A.deeper (envOfC x (defScope st) s.heap.objs.size f cdv)) →
      ∃ t, DSs (cxOf CX0 P w K mg base N x (defScope st) f cdv A outer s H E).nox (fun _ => E0) (defBody st) t g) : FD P w K mg base (k + 1) ps.length x (fnD N.length g) :=
  ⟨f, fd, ps, fn_of F S hbody, hm, F.kp, b⟩
section
variable {X : Cx} {W : WS} {U : XK} {S T : List Nat} {e a b c tg : Expr} {es tgs : List Expr} {pos p : Pos} {te ta tb : TE}
/-- x += e of whole numbers -/
theorem ds_augI {i : Nat} {x : Str} {pos' : Pos} {f : DSt → Res PyData} {op : Operator} {h : Int → Int → Int} (hN : X.N.Nodup) (hi : X.N[i]? = some x) (hx : L2.Loc X.env.scope x) (ho : PIp X op (ipI h)) (he : DE X W S e te f) (hf : X.fn x = true ∨ X.env.scope.names.lookup x = some .local := by first | exact .inl rfl | exact .inr rfl | assumption) :
    DS X W (.AugAssign (.Name x pos') op e pos) (tAug i te (ipI h)) (fun δ => do let x ← vr i δ; let y ← f δ; match x, y with | .int m, .int n => .ok (.nx (δ.set i (some (.val (.int (h m n)))))) | _, _ => .bot) := by
  refine ⟨ps_aug hN hi hx he.pe ho hf, fun H0 Fz0 Fz H σ δ Dn r q => ?_⟩
  unfold SOK at q
  rw [wp_bind] at q
  unfold vr at q
  split at q
  · rename_i s es
    rw [wp_ok, wp_bind] at q
    obtain ⟨v, e1, hv⟩ : ∃ v, σ[i]? = some (some v) ∧ ∀ m, s.d = .int m → v = .int m := by
      cases s with
      | own xs =>
        obtain ⟨a, h1, _⟩ := r.own i _ es rfl
        exact ⟨_, h1, fun m z => by cases z⟩
      | ownd t ks vs =>
        obtain ⟨a, h1, _⟩ := r.own i _ es rfl
        exact ⟨_, h1, fun m z => by cases z⟩
      | val d =>
        obtain ⟨v, e1, e2⟩ := r.val i d es
        refine ⟨v, e1, fun m z => ?_⟩
        have z : d = .int m := z
        subst z
        cases e2
        rfl
    refine ⟨v, e1, ?_⟩
    refine atE he r (wp_mono q (fun y hy u H1 F1 g1 r1 => ?_) fun x hx => hx)
    cases hs : s.d with
    | int m =>
      rw [hs] at hy
      cases y with
      | int n =>
        cases r1
        exact ⟨m, n, hv m hs, rfl, hy Fz H1 _ ((r.up g1.same).setVal (.int _) i)⟩
      | _ => exact hy.elim
    | _ => rw [hs] at hy; cases y <;> exact hy.elim
  · exact q.elim
end
end DL

set_option Elab.async false
set_option linter.all false
set_option maxRecDepth 100000
set_option maxHeartbeats 4000000
namespace DL
open PySem PySem.Spec L2
open PyProof.Rows hiding St

/-! ### short words for what is printed -/
abbrev cN : DSt → Res PyData := fun _ => .ok .none
abbrev cB (b : Bool) : DSt → Res PyData := fun _ => .ok (.bool b)
abbrev cI (i : Int) : DSt → Res PyData := fun _ => .ok (.int i)
abbrev cS (x : Str) : DSt → Res PyData := fun _ => .ok (.str x)
abbrev b2 (g : PyData → PyData → Res PyData) (fa fb : DSt → Res PyData) : DSt → Res PyData := fun δ => do let x ← fa δ; let y ← fb δ; g x y
abbrev u1 (g : PyData → Res PyData) (f : DSt → Res PyData) : DSt → Res PyData := fun δ => do let x ← f δ; g x
abbrev u1A (g : List PyData → Res PyData) (f : DSt → Res (List PyData)) : DSt → Res PyData := fun δ => do let x ← f δ; g x
abbrev u1L (g : List PyData → Res (List PyData)) (f : DSt → Res (List PyData)) : DSt → Res (List PyData) := fun δ => do let x ← f δ; g x
abbrev u1LE (g : PyData → Res (List PyData)) (f : DSt → Res PyData) : DSt → Res (List PyData) := fun δ => do let x ← f δ; g x
abbrev andF (f g : DSt → Res PyData) : DSt → Res PyData := fun δ => do let x ← f δ; andV x (g δ)
abbrev orF (f g : DSt → Res PyData) : DSt → Res PyData := fun δ => do let x ← f δ; orV x (g δ)
abbrev ifE (h : DSt → Res Bool) (f g : DSt → Res PyData) : DSt → Res PyData := fun δ => do let x ← h δ; if x then f δ else g δ
abbrev aNil : DSt → Res (List PyData) := fun _ => .ok []
abbrev aCons (f : DSt → Res PyData) (g : DSt → Res (List PyData)) : DSt → Res (List PyData) := fun δ => do let x ← f δ; let xs ← g δ; .ok (x :: xs)
abbrev asL (f : DSt → Res (List PyData)) : DSt → Res PyData := fun δ => do let xs ← f δ; .ok (.list xs)
abbrev oN : DSt → Res (Option Int) := fun _ => .ok none
abbrev oS (f : DSt → Res PyData) : DSt → Res (Option Int) := fun δ => do let x ← f δ; asI x
abbrev slF (f : DSt → Res PyData) (fl fh : DSt → Res (Option Int)) : DSt → Res PyData := fun δ => do let x ← f δ; let l ← fl δ; let u ← fh δ; sliceD x l u
abbrev callF (g : List PyData → Res PyData) (f : DSt → Res (List PyData)) : DSt → Res PyData := fun δ => do let ds ← f δ; nE (g ds)
abbrev tB2 (g : PyData → PyData → Res PyData) (fa fb : DSt → Res PyData) : DSt → Res Bool := fun δ => do let z ← (do let x ← fa δ; let y ← fb δ; g x y); asB z
abbrev tTr (f : DSt → Res PyData) : DSt → Res Bool := fun δ => do let x ← f δ; truD x
abbrev tNt (f : DSt → Res Bool) : DSt → Res Bool := fun δ => do let x ← f δ; .ok (!x)
abbrev tAnd' (f g : DSt → Res Bool) : DSt → Res Bool := fun δ => do let x ← f δ; if x then g δ else .ok false
abbrev tOr' (f g : DSt → Res Bool) : DSt → Res Bool := fun δ => do let x ← f δ; if x then .ok true else g δ
abbrev tY : DSt → Res Bool := fun _ => .ok true
abbrev sNil : DSt → Res Out := fun δ => .ok (.nx δ)
abbrev sBk : DSt → Res Out := fun δ => .ok (.bk δ)
abbrev sCt : DSt → Res Out := fun δ => .ok (.ct δ)
abbrev sRtN : DSt → Res Out := fun _ => .ok (.rt .none)
abbrev sRt (f : DSt → Res PyData) : DSt → Res Out := fun δ => do let d ← f δ; .ok (.rt d)
abbrev sEx (f : DSt → Res PyData) : DSt → Res Out := fun δ => do let _ ← f δ; .ok (.nx δ)
def ifS (h : DSt → Res Bool) (f g : DSt → Res Out) : DSt → Res Out := fun δ => do let x ← h δ; if x then f δ else g δ
abbrev augF (h : Int → Int → Int) (i : Nat) (f : DSt → Res PyData) : DSt → Res Out := fun δ => do let x ← vr i δ; let y ← f δ; match x, y with | .int m, .int n => .ok (.nx (δ.set i (some (.val (.int (h m n)))))) | _, _ => .bot
abbrev whF (fuel : DSt → Nat) (c : DSt → Res Bool) (b : DSt → Res Out) : DSt → Res Out := fun δ => whileGo c b (fuel δ) δ
theorem hu64 {A : Around} {k : Nat} (hr : Room k A) : A.units + 64 < cLine := by have := hr.un; omega
theorem hu65 {A : Around} {k : Nat} (hr : Room k A) : A.units + 65 < cLine := by have := hr.un; omega
theorem hu66 {A : Around} {k : Nat} (hr : Room k A) : A.units + 130 < cLine := by have := hr.un; omega
section
variable {X : Cx} {W : WS} {U : XK} {S T U : List Nat} {e a b c : Expr} {pos : Pos} {te ta tb tc : TE} {r r' : R2}
theorem dv (i : Nat) {x : Str} (hN : X.N[i]? = some x := by rfl) (hv : Vis X.env.scope x := by first | exact .inl rfl | exact .inr (.inl rfl) | exact .inr (.inr rfl)) (hd : (x == ("__debug__" : Str)) = false := by decide) (hcd : (x == ("__classdict__" : Str)) = false := by decide) : DE X W [i] (.Name x pos) (tVar i) (vr i) := de_var hN hv hd hcd
/-! ### a < b < c -/
abbrev chF (g g' : PyData → PyData → Res PyData) (fa fb fc : DSt → Res PyData) : DSt → Res PyData := fun δ => do
  let x ← fa δ
  let y ← fb δ
  let z ← g x y
  andV z (do let w ← fc δ; g' y w)
theorem tChain_ok {op op' : Value → Value → Sem Value} {g g' : PyData → PyData → Res PyData} {fa fb fc : DSt → Res PyData} (ho : OpD X op r g) (hn : NoErr g) (ho' : OpD X op' r' g') (hn' : NoErr g') (ha : DE X W S a ta fa) (hb : DE X W T b tb fb) (hc : DE X W U c tc fc) :
    ∀ Fz σ H δ Q, RdOn X.K (S ++ (T ++ U)) Fz H σ δ → Live Fz H → EOK X.K X.mg (W σ) Fz H (chF g g' fa fb fc δ) Q → tChain r r' ta tb tc σ H Q := fun Fz σ H δ Q hd hl h => by
  unfold EOK at h
  rw [wp_bind] at h
  refine ha.ok Fz σ H δ _ hd.left hl (wp_mono h (fun x hx v H1 F1 g1 r1 => ?_) fun x hx => hx)
  rw [wp_bind] at hx
  refine hb.ok F1 σ H1 δ _ (hd.right.left.grow g1) (g1.live hl) (wp_mono hx (fun y hy u H2 F2 g2 r2 => ?_) fun x hx c oe H2 F2 g2 => hx c oe H2 F2 (g1.trans g2))
  have g12 := g1.trans g2
  rw [wp_bind] at hy
  refine ho.ok F2 H2 x y v u _ (g2.live (g1.live hl)) (r1.grow g2) r2 (wp_quiet (hn x y ⟨"", none⟩) (wp_mono hy (fun z hy v3 H3 F3 g3 r3 => ?_) fun x h => h))
  cases z with
  | bool k =>
    cases r3
    refine ⟨k, rfl, ?_⟩
    cases k with
    | false => exact hy _ H3 F3 (g12.trans g3) (.bl _)
    | true =>
      have g13 := g12.trans g3
      have hy : ((fc δ) >>= fun w => g' y w).wp _ _ := hy
      rw [wp_bind] at hy
      refine hc.ok F3 σ H3 δ _ (hd.right.right.grow g13) (g13.live hl) (wp_mono hy (fun w hw v4 H4 F4 g4 r4 => ?_) fun x hx c oe H4 F4 g4 => hx c oe H4 F4 (g13.trans g4))
      exact ho'.ok F4 H4 y w u v4 Q (g4.live (g13.live hl)) (r2.grow (g3.trans g4)) r4 (eok_weak (hn' y w) (g13.trans g4) hw)
  | _ => exact hy.elim
theorem de_chain {op op' : CmpOp} {g g' : PyData → PyData → Res PyData} {fa fb fc : DSt → Res PyData} (ho : OpD X (compareOp op) r g) (hn : NoErr g) (ho' : OpD X (compareOp op') r' g') (hn' : NoErr g') (ha : DE X W S a ta fa) (hb : DE X W T b tb fb) (hc : DE X W U c tc fc)
    (hm : lastMarks [op, op'] [b, c] = false := by with_unfolding_all rfl) : DE X W (S ++ (T ++ U)) (.Compare a [op, op'] [b, c] pos) (tChain r r' ta tb tc) (chF g g' fa fb fc) :=
  ⟨pe_chain ho.op ho'.op ha.pe hb.pe hc.pe hm, tChain_ok ho hn ho' hn' ha hb hc⟩
abbrev tCh (g g' : PyData → PyData → Res PyData) (fa fb fc : DSt → Res PyData) : DSt → Res Bool := fun δ => do let z ← chF g g' fa fb fc δ; asB z
theorem dt_chain {op op' : CmpOp} {g g' : PyData → PyData → Res PyData} {fa fb fc : DSt → Res PyData} (ho : OpD X (compareOp op) r g) (hn : NoErr g) (ho' : OpD X (compareOp op') r' g') (hn' : NoErr g') (ha : DE X W S a ta fa) (hb : DE X W T b tb fb) (hc : DE X W U c tc fc)
    (hm : lastMarks [op, op'] [b, c] = false := by with_unfolding_all rfl) : DT X W (S ++ (T ++ U)) (.Compare a [op, op'] [b, c] pos) (tTest (tChain r r' ta tb tc)) (tCh g g' fa fb fc) :=
  ⟨pt_chain ho.op ho'.op ha.pe hb.pe hc.pe hm, fun Fz σ H δ Q hd hl h => asB_ok (f := chF g g' fa fb fc) (tChain_ok ho hn ho' hn' ha hb hc Fz σ H δ · hd hl) h⟩
/-- a module's whole number -/
theorem de_gi {x : Str} {i : Int} (hg : Gl X x) (hm : ∃ t, X.mg x = some (.int i t)) (hd : (x == ("__debug__" : Str)) = false := by decide) : DE X W [] (.Name x pos) (tC (.int i)) (fun _ => .ok (.int i)) := by
  obtain ⟨t, hm⟩ := hm
  exact de_const (pe_glob hg hm ⟨t, rfl⟩ hd) fun _ _ _ => .int i
end
/-! ### the same where the written part is told (within a comprehension) -/
section
variable {X : Cx} {W : WS} {U : XK} {S T U : List Nat} {e a b c tg : Expr} {es tgs : List Expr} {pos p p2 tpos : Pos} {te ta tb tc : TE} {t : TA} {K : PySem.W.Frag} {mg : Str → Option Value} {kk : Nat}
theorem od_addK (K) (hK : X.K = K := by rfl) : OpD X (binaryOp .Add) (rAddD K) addD := by subst hK; exact od_add
theorem od_eqK (K) (hu : X.A.units + 64 < cLine) (hK : X.K = K := by rfl) : OpD X (compareOp .Eq) (rEqD K) eqD := by subst hK; exact od_eq hu
theorem od_neK (K) (hu : X.A.units + 64 < cLine) (hK : X.K = K := by rfl) : OpD X (compareOp .NotEq) (rNeD K) neD := by subst hK; exact od_ne hu
theorem od_ltK (K) (hu : X.A.units + 64 < cLine) (hK : X.K = K := by rfl) : OpD X (compareOp .Lt) (rCmpD K fun d e => PySem.W.dataLt d e) ltD := by subst hK; exact od_lt hu
theorem od_gtK (K) (hu : X.A.units + 64 < cLine) (hK : X.K = K := by rfl) : OpD X (compareOp .Gt) (rCmpD K fun d e => PySem.W.dataLt e d) gtD := by subst hK; exact od_gt hu
theorem od_leK (K) (hu : X.A.units + 64 < cLine) (hK : X.K = K := by rfl) : OpD X (compareOp .LtE) (rCmpD K fun d e => !PySem.W.dataLt e d) leD := by subst hK; exact od_le hu
theorem od_geK (K) (hu : X.A.units + 64 < cLine) (hK : X.K = K := by rfl) : OpD X (compareOp .GtE) (rCmpD K fun d e => !PySem.W.dataLt d e) geD := by subst hK; exact od_ge hu
theorem od_inK (K) (hu : X.A.units + 65 < cLine) (hK : X.K = K := by rfl) : OpD X (compareOp .In) (rInA K) inD := by subst hK; exact od_in hu
theorem od_ninK (K) (hu : X.A.units + 65 < cLine) (hK : X.K = K := by rfl) : OpD X (compareOp .NotIn) (rNinA K) ninD := by subst hK; exact od_nin hu
theorem cd_lenK (K) (hK : X.K = K := by rfl) : CallD X (.builtin "len") (fun xs H Q => ∃ x n, xs = [x] ∧ LenV K x H n ∧ Q (.int n) H) lenD := by subst hK; exact cd_len
theorem cd_allK (K) (hc : X.calm = true) (hK : X.K = K := by rfl) : CallD X (.builtin "all") (rAll K) allD := by subst hK; exact cd_all hc
theorem cd_anyK (K) (hc : X.calm = true) (hK : X.K = K := by rfl) : CallD X (.builtin "any") (rAny K) anyD := by subst hK; exact cd_any hc
theorem cd_tupleK (K) (hK : X.K = K := by rfl) : CallD X (.type "tuple") (fun xs H Q => ∃ p ys, xs = [.ref p] ∧ ((SqL K H p ys ∧ ∀ l, H l = none → Q (.ref l) (upd H l (.tup ys))) ∨ (SqT K H p ys ∧ Q (.ref p) H))) tupleD := by subst hK; exact cd_tuple
theorem cf_listK (K) (hK : X.K = K := by rfl) : CallF X (.type "list") (fun xs H Q => ∃ p ys, xs = [.ref p] ∧ (SqL K H p ys ∨ SqT K H p ys) ∧ ∀ l, H l = none → Q (.ref l) (upd H l (.lst ys))) listD := by subst hK; exact cf_list
theorem de_ixK (K) {fa fb : DSt → Res PyData} (hs : PlainIx b) (ha : DE X W S a ta fa) (hb : DE X W T b tb fb) (hK : X.K = K := by rfl) : DE X W (S ++ T) (.Subscript a b pos) (tOp (rIx K) ta tb) (b2 ixD fa fb) := by subst hK; exact de_ix hs ha hb
theorem de_sliceK (K) {lo hi : Option Expr} {tl th : TO} {f : DSt → Res PyData} {fl fh : DSt → Res (Option Int)} (ha : DE X W S a ta f) (hlo : DO X W T lo tl fl) (hhi : DO X W U hi th fh) (hK : X.K = K := by rfl) : DE X W (S ++ (T ++ U)) (.Subscript a (.Slice lo hi none p2) pos) (tSl (rSlAll K) ta tl th) (slF f fl fh) := by subst hK; exact de_slice ha hlo hhi
theorem de_isiK (K) {f : DSt → Res PyData} {T : String} {nm : Str} {p3 : Pos} (hg : Gl X "isinstance") (hm : X.mg "isinstance" = none) (hg2 : Gl X nm) (hm2 : X.mg nm = none) (hv : bootBuiltins nm = some (.type T)) (ha : DE X W S e te f) (hK : X.K = K := by rfl) (hn : nm ≠ "__name__" := by decide) (hdb : (nm == ("__debug__" : Str)) = false := by decide)
    (hs : starEach [e, .Name nm p3] X.env = (false, eval e X.env) :: starEach [.Name nm p3] X.env := by rfl) (hs2 : starEach [.Name nm p3] X.env = (false, eval (.Name nm p3) X.env) :: starEach [] X.env := by rfl) (hpl : (backTo pos (starEach [.Name nm p3] X.env)).any (·.1) = false := by rfl) :
    DE X W S (.Call (.Name "isinstance" p) [e, .Name nm p3] [] pos) (tCB (rIsi K) (tCons te (tCons (tC (.ty T)) tNil))) (u1 (isiD T) f) := by subst hK; exact de_isi hg hm hg2 hm2 hv ha hn hdb hs hs2 hpl
theorem dt_truthK (K) {f : DSt → Res PyData} (ha : DE X W S e te f) (hK : X.K = K := by rfl) (he : ∀ whole, PySem.isTrue e X.env whole = (do let v ← whole; standAt e.pos; holding [v] (truthy v)) := by intro _; rfl) : DT X W S e (fun σ H Q => te σ H fun x H' => ∃ k, TruV K x H' k ∧ Q k H') (tTr f) := by subst hK; exact dt_truth ha he
theorem de_callK (K) (mg) {k j n : Nat} {x : Str} {g : List PyData → Res PyData} {f : DSt → Res (List PyData)} (c : FD X.prog X.w K mg X.base k n x g) (hr : Room j X.A) (hk : k ≤ j) (hg : Gl X x) (hn : (e :: es).length = n) (ha : DA X W S (e :: es) t f) (hK : X.K = K := by rfl) (hM : X.mg = mg := by rfl)
    (hdb : (x == ("__debug__" : Str)) = false := by decide) (he : starEach (e :: es) X.env = (false, eval e X.env) :: starEach es X.env := by rfl) (hpl : (backTo pos (starEach es X.env)).any (·.1) = false := by rfl) :
    DE X W S (.Call (.Name x p) (e :: es) [] pos) (tCall (spD K mg n g) [] L2.E0 t) (callF g f) := by subst hK hM; exact de_call c hr hk hg hn ha hdb he hpl
theorem di_seqK (K) {f : DSt → Res PyData} (h : DE X W S e te f) (hK : X.K = K := by rfl) : DI X W S tg e (iSeq K te) (u1LE seqD f) := by subst hK; exact di_seq h
theorem di_enumK (K) {elts : List Expr} {f : DSt → Res (List PyData)} (hg : Gl X "enumerate") (hm : X.mg "enumerate" = none) (ha : DA X W S [e] t f) (hK : X.K = K := by rfl) (hs : starEach [e] X.env = [(false, eval e X.env)] := by rfl) :
    DI X W S (.Tuple elts kk tpos) (.Call (.Name "enumerate" p) [e] [] pos) (iEnumA K t) (u1L enumD f) := by subst hK; exact di_enum hg hm ha hs
theorem di_zipK (K) {elts : List Expr} {f : DSt → Res (List PyData)} {e2 : Expr} (hg : Gl X "zip") (hm : X.mg "zip" = none) (ha : DA X W S [e, e2] t f) (hK : X.K = K := by rfl)
    (hs : starEach [e, e2] X.env = (false, eval e X.env) :: starEach [e2] X.env := by rfl) (hpl : (backTo pos (starEach [e2] X.env)).any (·.1) = false := by rfl) :
    DI X W S (.Tuple elts kk tpos) (.Call (.Name "zip" p) [e, e2] [] pos) (RZ.iZipA K t) (u1L zipD f) := by subst hK; exact di_zip hg hm ha hs hpl
theorem dg_tupK (K) {is : List Nat} {g : TGs} {n : Nat} (hc : X.calm = true) (h : DGs X tgs g is) (hn : is.length = n) (hK : X.K = K := by rfl) (hlen : tgs.length = n := by rfl) (h2 : ∀ (pg : PGs X tgs g), PG X (.Tuple tgs kk pos) (gTup X.K n g) := by intro pg; exact pg_tup rfl pg) (h3 : ∀ (pg : PGs X tgs g), PG X (.Tuple tgs kk pos) (gUnl X.K n g) := by intro pg; exact pg_unl rfl pg) : DG X (.Tuple tgs kk pos) (gBoth K n g) (.tp is) := by subst hK; exact dg_tup hc h hn hlen h2 h3
end
structure TxtF (K : PySem.W.Frag) (mg : Str → Option Value) (x : Str) (st : Stmt) (ps : List Str) : Prop where
  ex : ∃ f fd, Fun K x x st f fd ∧ mg x = some (.ref f) ∧ Binds K fd ps []
end DL
/-! ### the law -/
namespace Law
open PySem PySem.Spec L2 DL
open PyProof.Rows hiding St
def spLaw (K : PySem.W.Frag) : Sp := fun vs H Q _ => ∃ (a : Addr) (ns : List Int), vs = [.ref a] ∧ Only H ∧ SqL K H a (ns.map V.int) ∧ ns.length ≤ 63 ∧ ∀ H', Q (.bl true) H'
theorem rep_ints {K : PySem.W.Frag} {Fz : FZ} {H : Hp} : ∀ ns : List Int, RepAll K Fz H (ns.map V.int) (ns.map PyData.int)
  | [] => .nil
  | n :: ns => .cons (.int n) (rep_ints ns)
theorem law_ok {P : Program} {w : World} {K : PySem.W.Frag} {mg : Str → Option Value} {base : Heap} {f : Addr} {fd : FuncData} {k : Nat} {x : Str} {g : List PyData → Res PyData} (c : FnOk P w K mg base CX0 k f fd [x] (spD K mg 1 g))
    (h : ∀ ns : List Int, ns.length ≤ 63 → g [.list (ns.map .int)] = .ok (.bool true)) : FnOk P w K mg base CX0 k f fd [x] (spLaw K) :=
  c.imp fun vs H Q E ⟨a, ns, e, hO, hS, hl, q⟩ => by
    subst e
    refine ⟨[.list (ns.map .int)], fun _ => False, rfl, fun _ z => z.elim, .cons (.lst (xs := ns.map V.int) ?_ ?_ (rep_ints ns)) .nil, ?_⟩
    · rcases hS with (hS | hS) | hS
      · rcases hO a with z | ⟨o, xs, z⟩
        · rw [z] at hS; cases hS
        · rw [z] at hS; cases hS
      · exact .inr (.inl hS)
      · exact .inr (.inr hS)
    · rw [List.length_map, sizeLine_eq]
      omega
    · rw [h ns hl]
      intro v H' F' g' r
      cases r
      exact q H'
end Law

set_option Elab.async false
set_option linter.all false
set_option maxRecDepth 100000
set_option maxHeartbeats 4000000
namespace DL
open PySem PySem.Spec L2
open PyProof.Rows hiding St

/-! ### sorting tuples some of which are empty -/
theorem call_tuple_lt {prog : Program} {w : World} {A : Around} {s : Shared} {E : Value → Shared → Prop} {Q : Value → Shared → Prop} {l b : Addr} {items items2 : Array Value} {e r : Nat → Bool} (hl : s.heap.IsTuple l items) (hb : s.heap.IsTuple b items2)
    (he : ∀ j (h1 : j < items.size) (h2 : j < items2.size), SeqAt.EqAt A.in1 s items[j] items2[j] (e j)) (hr : ∀ j (h1 : j < items.size) (h2 : j < items2.size), e j = false → SeqAt.RcLt A.in1 s items[j] items2[j] (r j))
    (h : Q (.bool (SeqAt.firstLt e r (decide (items.size < items2.size)) (List.range (min items.size items2.size)))) s) : wpAny (model prog w) A (call (.builtin "tuple.__lt__") [.ref l, .ref b]) Q E s := by
  obtain ⟨⟨cls, dd, data, sl⟩, ho, hc, n, hd⟩ := id hl
  obtain ⟨⟨cls2, dd2, data2, sl2⟩, ho2, hc2, n2, hd2⟩ := id hb
  simp only at hc hd hc2 hd2
  subst hc hd hc2 hd2
  exact call_meets F.slot_tuple_lt ⟨_, ho, rfl⟩ F.entry_tuple_lt (F.args_tuple_lt_2 _ _) (SeqAt.tuple_ltAt l b items items2 n n2 dd dd2 sl sl2 e r) ⟨ho, ho2, he, hr, h⟩
section
variable {prog : Program} {w : World} {A : Around} {E : Value → Shared → Prop} {s : Shared}
theorem oneLt_tuples {xs ys : List PyData} {a b : Value} {as bs : List Addr} {Q : Bool → Shared → Prop} (ra : Reads s.heap a (.tuple xs) as) (rb : Reads s.heap b (.tuple ys) bs) (h : PySem.W.alike (.tuple xs) (.tuple ys) = true)
    (hu : A.units + min (PyData.tuple xs).depth (PyData.tuple ys).depth < cLine) (hq : Q (PySem.W.dataLt (.tuple xs) (.tuple ys)) s) : wpAny (model prog w) A (oneLt' true a b) Q E s := by
  have hal : PySem.W.alikeAll xs ys = true := by simpa [PySem.W.alike] using h
  cases ra with
  | @tuple l o vs n _ as₁ h1 h2 h3 h4 =>
    cases rb with
    | @tuple l' o' vs' n' _ bs₁ k1 k2 k3 k4 =>
      have n1 : vs.size = xs.length := by simpa using SeqAt.ReadsAll.length _ _ _ h4
      have n2 : vs'.size = ys.length := by simpa using SeqAt.ReadsAll.length _ _ _ k4
      rw [PySem.W.dataLt_tuple, ← PySem.W.firstLt_toks xs ys hal, ← n1, ← n2] at hq
      rw [oneLt'_eq]
      simp only [if_true]
      refine wpAny_bind (wpAny_cRoomFor (SeqAt.room_here hu) ?_)
      refine wpAny_bind (wpAny_callSpecialIfBound?_slot (T := "tuple") ⟨_, h1, h2⟩ F.slot_tuple_lt (call_tuple_lt (e := SeqAt.pairEq xs ys) (r := fun j => PySem.W.dataLt (xs.getD j .none) (ys.getD j .none)) ⟨_, h1, h2, _, h3⟩ ⟨_, k1, k2, _, k3⟩ (fun j j1 j2 => ?_) (fun j j1 j2 hj => ?_) ?_))
      · have := PySem.W.eqAt_alikeAll xs ys A.in1 s vs.toList vs'.toList _ _ h4 k4 hal (SeqAt.room_in hu) j (by simpa using j1) (by simpa using j2)
        simpa using this
      · have := PySem.W.rcLt_alikeAll xs ys A.in1 s vs.toList vs'.toList _ _ h4 k4 hal (SeqAt.room_in hu) j (by simpa using j1) (by simpa using j2) hj
        simpa using this
      · exact wpAny_truthy_bool hq
theorem keyLt'_general (x y : Value) : keyLt' general' x y = oneLt' false x y := rfl
theorem keyKind_eqM (keys : Array Value) : keyKind' keys = (do
    let firsts ← keys.mapM firstOfTuple'
    if firsts.all (·.isSome) then do
      rule "list.sort.keys-are-tuples"
      return tuples' ((← oneTypeOnly' (firsts.filterMap _root_.id)).any (· != .type "tuple"))
    else if (firsts[0]?.bind _root_.id).isSome then return general'
    else return if (← oneTypeOnly' keys).isSome then oneType' else general') := rfl
/-- the first items, where there is one -/
theorem firsts_mixed {M : Model} : ∀ {vs : List Value} {ds : List PyData} {Q : List (Option Value) → Shared → Prop}, PySem.W.EachIs (fun v d => ∃ as, Reads s.heap v d as) vs ds → (∀ d ∈ ds, ∃ xs, d = .tuple xs) →
    (∀ fs : List (Option Value), fs.map (·.isSome) = ds.map (fun d => match d with | .tuple (_ :: _) => true | _ => false) → Q fs s) → wpAny M A (vs.mapM firstOfTuple') Q E s
  | _, _, Q, .nil, _, h => by rw [List.mapM_nil]; exact wpAny_pure (h [] rfl)
  | v :: vs, d :: ds, Q, .cons ⟨as, r⟩ t, ht, h => by
    obtain ⟨xs, rfl⟩ := ht d List.mem_cons_self
    rw [List.mapM_cons]
    refine wpAny_bind ?_
    rw [PySem.W.kas_first_eq]
    cases r with
    | @tuple a o ws n _ _ ho hc hd hr =>
      refine wpAny_bind (PySem.W.Looks.here (show PySem.W.Looks M s.heap (typeOf (.ref a)) o.cls from (PySem.W.Looks.ld ho).andThen .now) ?_)
      rw [hc, if_neg (by first | decide | simp)]
      refine wpAny_bind (listItems_at ho hd (wpAny_pure ?_))
      refine wpAny_bind (firsts_mixed (vs := vs) (ds := ds) t (fun d hd => ht d (List.mem_cons_of_mem _ hd)) fun fs hfs => wpAny_pure (h _ ?_))
      rw [List.map_cons, List.map_cons, hfs]
      congr 1
      cases xs with
      | nil =>
        cases hz : ws.toList with
        | nil =>
          have : ws[0]? = none := by rw [← Array.getElem?_toList, hz]; rfl
          rw [this]
          rfl
        | cons _ _ => rw [hz] at hr; cases hr
      | cons y ys =>
        cases hz : ws.toList with
        | nil => rw [hz] at hr; cases hr
        | cons z zs =>
          have : ws[0]? = some z := by rw [← Array.getElem?_toList, hz]; rfl
          rw [this]
          rfl
theorem SortsAt_mixed {vs : List Value} {ds : List PyData} (e : PySem.W.EachIs (fun v d => ∃ as, Reads s.heap v d as) vs ds) (hal : PySem.W.AllAlike ds) (ht : ∀ d ∈ ds, ∃ xs, d = .tuple xs) (he : .tuple [] ∈ ds) (hu : ∀ d, d ∈ ds → A.units + d.depth < cLine) : PySem.W.SortsAt prog w A s (PySem.W.dataKind s.heap ds) vs := by
  have room : ∀ {d d' : PyData}, d ∈ ds → A.units + min d.depth d'.depth < cLine := fun {d d'} hd => Nat.lt_of_le_of_lt (Nat.add_le_add_left (Nat.min_le_left _ _) _) (hu d hd)
  refine ⟨fun v hv => ?_, ?_⟩
  · obtain ⟨d, hd, as, r⟩ := e.left v hv
    exact ⟨_, PySem.W.dataKind_some hal hd r⟩
  have lt : ∀ (f : Bool) (kd : SortKind), (∀ x y, keyLt' kd x y = oneLt' f x y) → H.LtAt prog w A s (PySem.W.dataKind s.heap ds) kd := fun f kd hk E x y a b Q ha hb hq => by
    obtain ⟨d, as, hd, ra, rfl⟩ := PySem.W.dataKind_inv ha
    obtain ⟨d', as', hd', rb, rfl⟩ := PySem.W.dataKind_inv hb
    rw [hk]
    obtain ⟨xs, rfl⟩ := ht d hd
    obtain ⟨ys, rfl⟩ := ht d' hd'
    cases f with
    | true => exact oneLt_tuples ra rb (hal _ hd _ hd') (room hd) hq
    | false => exact PySem.W.oneLt_alike (fun z => by cases z) ra rb (hal _ hd _ hd') (fun z => by cases z) (room hd) hq
  cases ds with
  | nil => cases he
  | cons d₀ ds₀ =>
    obtain ⟨x₀, e₀⟩ := ht d₀ List.mem_cons_self
    have notall : ∀ fs : List (Option Value), fs.map (·.isSome) = (d₀ :: ds₀).map (fun d => match d with | .tuple (_ :: _) => true | _ => false) → ¬ (fs.toArray.all (·.isSome)) = true := fun fs hfs z => by
      have z : fs.all (·.isSome) = true := by simpa using z
      have hm : false ∈ (d₀ :: ds₀).map (fun d => match d with | .tuple (_ :: _) => true | _ => false) := List.mem_map.mpr ⟨_, he, rfl⟩
      rw [← hfs] at hm
      obtain ⟨f, hf, q⟩ := List.mem_map.mp hm
      have := List.all_eq_true.mp z f hf
      rw [q] at this
      cases this
    cases x₀ with
    | cons y ys =>
      subst e₀
      refine ⟨general', lt false _ fun x y => keyLt'_general x y, fun h2 E Q hq => ?_⟩
      rw [keyKind_eqM, List.mapM_toArray, map_eq_pure_bind]
      refine wpAny_bind (wpAny_bind (firsts_mixed e ht fun fs hfs => wpAny_pure ?_))
      rw [if_neg (notall fs hfs)]
      cases fs with
      | nil => cases hfs
      | cons f fs =>
        rw [List.map_cons, List.map_cons] at hfs
        injection hfs with hf _
        have hf : f.isSome = true := hf
        rw [if_pos (show (((f :: fs).toArray[0]?).bind _root_.id).isSome = true by simpa using hf)]
        exact wpAny_pure hq
    | nil =>
      subst e₀
      refine ⟨oneType', lt true _ fun x y => keyLt'_oneType x y, fun h2 E Q hq => ?_⟩
      rw [keyKind_eqM, List.mapM_toArray, map_eq_pure_bind]
      refine wpAny_bind (wpAny_bind (firsts_mixed e ht fun fs hfs => wpAny_pure ?_))
      rw [if_neg (notall fs hfs)]
      cases fs with
      | nil => cases hfs
      | cons f fs =>
        rw [List.map_cons, List.map_cons] at hfs
        injection hfs with hf _
        have hf : f.isSome = false := hf
        rw [if_neg (show ¬ (((f :: fs).toArray[0]?).bind _root_.id).isSome = true by simpa using hf)]
        rw [oneTypeOnly'_eq, List.mapM_toArray, map_eq_pure_bind]
        refine wpAny_bind (wpAny_bind (wpAny_bind (PySem.W.kas_mapM (r := Value.type "tuple") _ (fun v hv Q' hq => ?_) (wpAny_pure ?_))))
        · obtain ⟨d, hd, as, r⟩ := e.left v hv
          obtain ⟨xs, rfl⟩ := ht d hd
          exact (PySem.W.looks_reads r).here hq
        · obtain ⟨v, vs', rfl⟩ : ∃ v vs', vs = v :: vs' := by
            cases e with
            | cons _ _ => exact ⟨_, _, rfl⟩
          have hall : ((List.map (fun _ => Value.type "tuple") (v :: vs')).toArray.all fun x => x == Value.type "tuple") = true := by
            simp only [List.all_toArray, List.all_map, List.all_eq_true]
            intro _ _
            rfl
          have h0 : (List.map (fun _ => Value.type "tuple") (v :: vs')).toArray[0]? = some (Value.type "tuple") := by simp
          rw [h0]
          simp only [hall, if_true]
          exact wpAny_pure (wpAny_pure hq)
end
/-- what can be sorted: all alike; tuples, or nothing of tuples and None -/
def isTup : PyData → Bool | .tuple _ => true | _ => false
def isNon : PyData → Bool | .none => true | _ => false
def sortOk (ds : List PyData) : Bool := ds.all (fun d => ds.all fun d' => PySem.W.alike d d') && (ds.all isTup || ds.all fun d => !isTup d && !isNon d) && ds.all (fun d => decide (d.depth ≤ 64)) && ds.all nodc
theorem sorts_any {prog : Program} {w : World} {A : Around} {s : Shared} {vs : List Value} {ds : List PyData} (e : PySem.W.EachIs (fun v d => ∃ as, Reads s.heap v d as) vs ds) (hk : sortOk ds = true) (hu : A.units + 64 < cLine) : PySem.W.SortsAt prog w A s (PySem.W.dataKind s.heap ds) vs := by
  unfold sortOk at hk
  rw [Bool.and_eq_true, Bool.and_eq_true, Bool.and_eq_true, Bool.or_eq_true, List.all_eq_true, List.all_eq_true, List.all_eq_true, List.all_eq_true] at hk
  obtain ⟨⟨⟨h1, h2⟩, h3⟩, _⟩ := hk
  have hal : PySem.W.AllAlike ds := fun d hd d' hd' => List.all_eq_true.mp (h1 d hd) d' hd'
  have hu' : ∀ d, d ∈ ds → A.units + d.depth < cLine := fun d hd => by
    have := of_decide_eq_true (h3 d hd)
    omega
  rcases h2 with h2 | h2
  · have ht : ∀ d ∈ ds, ∃ xs, d = .tuple xs := fun d hd => by
      have := h2 d hd
      cases d with
      | tuple xs => exact ⟨xs, rfl⟩
      | _ => cases this
    by_cases hm : ∀ d ∈ ds, ∃ x r, d = .tuple (x :: r)
    · exact .data e hal (.inl hm) hu'
    · refine SortsAt_mixed e hal ht ?_ hu'
      apply Classical.byContradiction
      intro hn
      refine hm fun d hd => ?_
      obtain ⟨xs, rfl⟩ := ht d hd
      cases xs with
      | nil => exact absurd hd hn
      | cons x r => exact ⟨x, r, rfl⟩
  · refine .data e hal (.inr fun d hd => ?_) hu'
    have := h2 d hd
    cases d with
    | tuple xs => cases this
    | none => cases this
    | _ => exact ⟨(fun z => by cases z), (fun xs z => by cases z)⟩

/-! ### sorted(xs) -/
/-- the sorted data -/
def sortL (ds : List PyData) : List PyData := ds.mergeSort (PySem.W.dataLe false _root_.id)
theorem zip_rep {K : PySem.W.Frag} {Fz : FZ} {H : Hp} : ∀ {vs : List V} {ds : List PyData}, RepAll K Fz H vs ds → ∀ p ∈ vs.zip ds, Rep K Fz H p.1 p.2
  | _, _, .nil, _, h => by simp at h
  | _, _, .cons h r, p, hp => by
    rw [List.zip_cons_cons] at hp
    rcases List.mem_cons.mp hp with rfl | hp
    · exact h
    · exact zip_rep r p hp
theorem rep_of_zip {K : PySem.W.Frag} {Fz : FZ} {H : Hp} : ∀ {ps : List (V × PyData)}, (∀ p ∈ ps, Rep K Fz H p.1 p.2) → RepAll K Fz H (ps.map (·.1)) (ps.map (·.2))
  | [], _ => .nil
  | p :: ps, h => .cons (h p List.mem_cons_self) (rep_of_zip fun q hq => h q (List.mem_cons_of_mem _ hq))
theorem zip_snd {K : PySem.W.Frag} {Fz : FZ} {H : Hp} : ∀ {vs : List V} {ds : List PyData}, RepAll K Fz H vs ds → (vs.zip ds).map (·.2) = ds
  | _, _, .nil => rfl
  | _, _, .cons h r => by rw [List.zip_cons_cons, List.map_cons, zip_snd r]
theorem each_zip {R : V → Value → Prop} : ∀ {vs : List V} {us : List Value} {ds : List PyData}, Paired R vs us → vs.length = ds.length → PySem.W.EachIs (fun (v : Value) (b : V × PyData) => R b.1 v) us (vs.zip ds)
  | _, _, [], .nil, _ => .nil
  | _, _, d :: ds, .cons r t, h => .cons r (each_zip t (by simpa using h))
  | _, _, _ :: _, .nil, h => by simp at h
  | _, _, [], .cons _ _, h => by simp at h
theorem vals_of_each : ∀ {us : List Value} {ps : List (V × PyData)}, PySem.W.EachIs (fun (v : Value) (b : V × PyData) => RelV b.1 v) us ps → Vals (ps.map (·.1)) us
  | _, _, .nil => .nil
  | _, _, .cons r t => .cons r (vals_of_each t)
theorem each_reads {X : Cx} {pins : List (Addr × Obj)} {σ : L2.St} {H : Hp} {s : Shared} (I : Inv X pins σ H s) : ∀ {vs : List V} {us : List Value} {ds : List PyData}, Vals vs us → DpAll X.K H vs ds → PySem.W.EachIs (fun (v : Value) (b : V × PyData) => ∃ as, Reads s.heap v b.2 as) us (vs.zip ds)
  | _, _, _, .nil, .nil => .nil
  | _, _, _, .cons r t, .cons h q => .cons (Dp.reads I _ _ _ h r) (each_reads I t q)
theorem mergeSort_snd (ps : List (V × PyData)) : (ps.mergeSort (PySem.W.dataLe false (·.2))).map (·.2) = sortL (ps.map (·.2)) := by
  unfold sortL
  rw [List.map_mergeSort]
  intro a _ b _
  rfl
section
variable {X : Cx} {W : WS} {U : XK} {S T : List Nat} {e a b c : Expr} {es : List Expr} {pos p : Pos} {te ta tb : TE} {t : TA}
/-- the items xs, which lie as ds, in their order in a new list -/
def rSortV (K : PySem.W.Frag) (ok : Addr → List V → Hp → Prop) : List V → Hp → VK → Prop := fun vs H Q => ∃ (a : Addr) (xs : List V) (ds : List PyData), vs = [V.ref a] ∧ ok a xs H ∧ DpAll K H xs ds ∧ sortOk ds = true ∧ xs.length ≤ sizeLine ∧
  ∀ l, H l = none → Q (.ref l) (upd H l (.lst (((xs.zip ds).mergeSort (PySem.W.dataLe false (·.2))).map (·.1))))
theorem dp_len {K : PySem.W.Frag} {H : Hp} : ∀ {vs : List V} {ds : List PyData}, DpAll K H vs ds → vs.length = ds.length
  | _, _, .nil => rfl
  | _, _, .cons _ r => by rw [List.length_cons, List.length_cons, dp_len r]
theorem cr_sortedV (hu : X.A.units + 130 < cLine) : CallR X (.builtin "sorted") (rSortV X.K fun a xs H => SqL X.K H a xs) := by
  intro pins s σ H vs us Q I r h
  obtain ⟨a, xs, ds, rfl, hs, hd, hk, hz, q⟩ := h
  obtain ⟨its, rv, hl, _⟩ := I.list hs
  rw [Vals.ref1 r]
  have hlen : xs.length = ds.length := dp_len hd
  have er := each_reads I rv hd
  have e := each_zip (R := RelV) rv hlen
  have hal : PySem.W.AllAlike ((xs.zip ds).map (·.2)) := by
    rw [show (xs.zip ds).map (·.2) = ds by rw [List.map_snd_zip]; omega]
    unfold sortOk at hk
    rw [Bool.and_eq_true, Bool.and_eq_true, Bool.and_eq_true, List.all_eq_true] at hk
    exact fun d hd d' hd' => List.all_eq_true.mp (hk.1.1.1 d hd) d' hd'
  have hsnd : (xs.zip ds).map (·.2) = ds := by rw [List.map_snd_zip]; omega
  have er' : PySem.W.EachIs (fun v (b : V × PyData) => ∃ as, Reads (PySem.W.sortingHeap (PySem.W.copyHeap s.heap its) (s.heap.objs.size + 1) its) v b.2 as) its (xs.zip ds) := er.mono fun _ _ ⟨as, r⟩ => ⟨as, PyProof.Rows.Reads.keeps (fun _ _ => PySem.W.sorting_copy_old) r⟩
  have S : PySem.W.SortsAt X.prog X.w X.A.in1.in1 { s with heap := PySem.W.sortingHeap (PySem.W.copyHeap s.heap its) (s.heap.objs.size + 1) its } (PySem.W.dataKind (PySem.W.sortingHeap (PySem.W.copyHeap s.heap its) (s.heap.objs.size + 1) its) ((xs.zip ds).map (·.2))) its :=
    sorts_any (s := { s with heap := PySem.W.sortingHeap (PySem.W.copyHeap s.heap its) (s.heap.objs.size + 1) its }) (PySem.W.each_map (R := fun v d => ∃ as, Reads (PySem.W.sortingHeap (PySem.W.copyHeap s.heap its) (s.heap.objs.size + 1) its) v d as) (fun b : V × PyData => b.2) er') (by rw [hsnd]; exact hk) (by show X.A.units + 1 + 1 + 64 < _; omega)
  refine PySem.W.sorted_vals hl.isList S (by rw [← rv.length]; exact hz) ?_
  have ho := PySem.W.sortVals_data (h' := PySem.W.sortingHeap (PySem.W.copyHeap s.heap its) (s.heap.objs.size + 1) its) false e er' hal
  have hv := vals_of_each ho
  obtain ⟨ep, he'⟩ := PyProof.Rows.sortedAll_at s.heap its (List.toArray (PySem.W.sortVals (PySem.W.dataKind (PySem.W.sortingHeap (PySem.W.copyHeap s.heap its) (s.heap.objs.size + 1) its) ((xs.zip ds).map (·.2))) false its its))
  have hlen2 : (((xs.zip ds).mergeSort (PySem.W.dataLe false (·.2))).map (·.1)).length ≤ sizeLine := by
    rw [List.length_map, List.length_mergeSort, List.length_zip, ← hlen, Nat.min_self]
    exact hz
  exact ⟨.ref _, upd H (s.heap.objs.size + 1) (.lst _), I.laid (t' := s.toks) (fun _ _ => PyProof.Rows.sortedAll_old) (Nat.le_succ _) ⟨hlen2, _, ep, hv, he'⟩, rfl, q _ (I.hok.fresh (Nat.le_succ _))⟩
def sortedD (ds : List PyData) : Res (List PyData) := match ds with | [.list xs] => if sortOk xs then .ok (sortL xs) else .bot | _ => .bot
theorem nodcAll_all : ∀ {ds : List PyData}, ds.all nodc = true → nodcAll ds = true
  | [], _ => rfl
  | d :: ds, h => by
    rw [List.all_cons, Bool.and_eq_true] at h
    rw [nodcAll, h.1, nodcAll_all h.2]
    rfl
theorem sortOk_nd {ds : List PyData} (h : sortOk ds = true) : nodcAll ds = true := by
  unfold sortOk at h
  rw [Bool.and_eq_true] at h
  exact nodcAll_all h.2
theorem sortL_len (xs : List PyData) : (sortL xs).length = xs.length := List.length_mergeSort _
theorem cf_sorted (hu : X.A.units + 130 < cLine) : CallF X (.builtin "sorted") (rSortV X.K fun a xs H => SqL X.K H a xs) sortedD := by
  refine ⟨cr_sortedV hu, fun Fz H ds vs Q hl r q => ?_, fun ds z => by
    unfold sortedD
    split
    · split <;> exact True.intro
    · exact True.intro⟩
  unfold sortedD at q
  split at q
  · split at q
    · rename_i xs hk
      cases r with
      | cons h r =>
        cases r
        cases h with
        | lst h z rr =>
          refine ⟨_, _, _, rfl, h.sq, rr.dp (sortOk_nd hk), hk, by rw [rr.length]; exact z, fun l nl => ?_⟩
          refine q l _ _ Fz (.nw nl) nl (notFz (H' := H) .refl hl nl) upd_same (by rw [sortL_len]; exact z) (RepAll.grow (.nw nl) ?_)
          have hh := rep_of_zip (ps := ((_ : List V).zip xs).mergeSort (PySem.W.dataLe false (fun p : V × PyData => p.2))) (fun p hp => zip_rep rr p ((List.mergeSort_perm _ _).mem_iff.mp hp))
          rw [mergeSort_snd, zip_snd rr] at hh
          exact hh
    · exact q.elim
  · exact q.elim
theorem cf_sortedK (K) (hu : X.A.units + 130 < cLine) (hK : X.K = K := by rfl) : CallF X (.builtin "sorted") (rSortV K fun a xs H => SqL K H a xs) sortedD := by subst hK; exact cf_sorted hu
end
end DL

set_option Elab.async false
set_option linter.all false
set_option maxRecDepth 100000
set_option maxHeartbeats 4000000
namespace DL
open PySem PySem.Spec L2
open PyProof.Rows hiding St

/-! ### sorted(d): the keys in order -/
theorem dp_keys {K : PySem.W.Frag} {H : Hp} : ∀ ks : List Key, DpAll K H (ks.map kV) (ks.map kyD)
  | [] => .nil
  | .inl i :: ks => .cons (.int i) (dp_keys ks)
  | .inr x :: ks => .cons (.str x) (dp_keys ks)
theorem dp_keysT {K : PySem.W.Frag} {H : Hp} {kvs : List (List Key × V)} {bs : List Addr} (h : IsKeys H kvs bs) : DpAll K H (bs.map V.ref) (kvs.map fun p => kyT p.1) := by
  unfold IsKeys at h
  induction h with
  | nil => exact .nil
  | cons h t ih => exact .cons (.tup (.inl (.inl h)) (dp_keys _)) ih
section
variable {X : Cx} {W : WS} {U : XK} {S T : List Nat} {e a b c : Expr} {es : List Expr} {pos p : Pos} {te ta tb : TE} {t : TA}
/-- list.sort of the items collected -/
theorem sort_new {pins : List (Addr × Obj)} {σ : L2.St} {H : Hp} {s : Shared} {E : Value → Shared → Prop} (I : Inv X pins σ H s) {h' : Heap} {tk : Nat} (kp : ∀ b o, s.heap.get? b = some o → h'.get? b = some o) {xs : List V} {its : List Value} {ds : List PyData} (rv : Vals xs its) (hd : DpAll X.K H xs ds) (hk : sortOk ds = true) (hz : xs.length ≤ sizeLine) (hu : X.A.units + 130 < cLine) {Q : VK}
    (q : ∀ l, H l = none → Q (.ref l) (upd H l (.lst (((xs.zip ds).mergeSort (PySem.W.dataLe false (·.2))).map (·.1))))) :
    wpAny (model X.prog X.w) X.A.in1 (call (.builtin "list.sort") [.ref h'.objs.size]) (fun _ s' => EP X pins σ Q (.ref h'.objs.size) s') E { s with heap := h'.push (seqObj "list" its.toArray 0), toks := tk } := by
  have hlen : xs.length = ds.length := dp_len hd
  have er := each_reads I rv hd
  have e := each_zip (R := RelV) rv hlen
  have hal : PySem.W.AllAlike ((xs.zip ds).map (·.2)) := by
    rw [show (xs.zip ds).map (·.2) = ds by rw [List.map_snd_zip]; omega]
    unfold sortOk at hk
    rw [Bool.and_eq_true, Bool.and_eq_true, Bool.and_eq_true, List.all_eq_true] at hk
    exact fun d hd d' hd' => List.all_eq_true.mp (hk.1.1.1 d hd) d' hd'
  have hsnd : (xs.zip ds).map (·.2) = ds := by rw [List.map_snd_zip]; omega
  have ho : (h'.push (seqObj "list" its.toArray 0)).get? h'.objs.size = some (seqObj "list" its.toArray 0) := Heap.get?_push_size _ rfl
  have k2 : ∀ b o, s.heap.get? b = some o → (h'.push (seqObj "list" its.toArray 0)).get? b = some o := fun b o z => Heap.get?_push_of_some _ (kp b o z)
  have lt : ∀ b o, s.heap.get? b = some o → b ≠ h'.objs.size := fun b o z => Nat.ne_of_lt (Heap.lt_size (kp b o z))
  have k3 : ∀ b o, s.heap.get? b = some o → (PySem.W.sortingHeap (h'.push (seqObj "list" its.toArray 0)) h'.objs.size its).get? b = some o := fun b o z => PySem.W.sortingHeap_old (lt b o z) (k2 b o z)
  have er' : PySem.W.EachIs (fun v (b : V × PyData) => ∃ as, Reads (PySem.W.sortingHeap (h'.push (seqObj "list" its.toArray 0)) h'.objs.size its) v b.2 as) its (xs.zip ds) := er.mono fun _ _ ⟨as, r⟩ => ⟨as, PyProof.Rows.Reads.keeps k3 r⟩
  have S : PySem.W.SortsAt X.prog X.w X.A.in1.in1 { s with heap := PySem.W.sortingHeap (h'.push (seqObj "list" its.toArray 0)) h'.objs.size its, toks := tk } (PySem.W.dataKind (PySem.W.sortingHeap (h'.push (seqObj "list" its.toArray 0)) h'.objs.size its) ((xs.zip ds).map (·.2))) its :=
    sorts_any (s := { s with heap := PySem.W.sortingHeap (h'.push (seqObj "list" its.toArray 0)) h'.objs.size its, toks := tk }) (PySem.W.each_map (R := fun v d => ∃ as, Reads (PySem.W.sortingHeap (h'.push (seqObj "list" its.toArray 0)) h'.objs.size its) v d as) (fun b : V × PyData => b.2) er') (by rw [hsnd]; exact hk) (by show X.A.units + 1 + 1 + 64 < _; omega)
  refine wpAny_call_entry_kw slot_list_sort ⟨_, ho, rfl⟩ entry_list_sort ?_ (args_list_sort _)
  refine PySem.W.list_sort_vals (s := { s with heap := h'.push (seqObj "list" its.toArray 0), toks := tk }) ho S (by rw [← rv.length]; exact hz) ?_
  have hs := PySem.W.sortVals_data (h' := PySem.W.sortingHeap (h'.push (seqObj "list" its.toArray 0)) h'.objs.size its) false e er' hal
  have hv := vals_of_each hs
  obtain ⟨ep, he'⟩ := PyProof.Rows.sortedHeap_at (vs := its) (out := List.toArray (PySem.W.sortVals (PySem.W.dataKind (PySem.W.sortingHeap (h'.push (seqObj "list" its.toArray 0)) h'.objs.size its) ((xs.zip ds).map (·.2))) false its its)) ho
  have hlen2 : (((xs.zip ds).mergeSort (PySem.W.dataLe false (·.2))).map (·.1)).length ≤ sizeLine := by
    rw [List.length_map, List.length_mergeSort, List.length_zip, ← hlen, Nat.min_self]
    exact hz
  have hn : H h'.objs.size = none := (I.hok.kept kp).fresh (Nat.le_refl _)
  have hp : s.heap.get? h'.objs.size = none := by
    cases z : s.heap.get? h'.objs.size with
    | none => rfl
    | some o => exact absurd rfl (lt _ _ z)
  exact ⟨_, rfl, .ref _, upd H h'.objs.size (.lst _), I.laidN (t' := tk) (fun b o z => (PyProof.Rows.sortedHeap_old (lt b o z) (Heap.lt_size (k2 b o z))).trans (k2 b o z)) hp hn ⟨hlen2, _, ep, hv, he'⟩, rfl, q _ hn⟩
/-- the keys of the dict at a: as data; and whatever stands for them -/
def DKeys (K : PySem.W.Frag) (H : Hp) (a : Addr) (n : Nat) (ks : List PyData) (R : List V → Prop) : Prop :=
  (∃ kvs : List (Key × V), H a = some (.dK kvs) ∧ ks = kvs.map (fun p => kyD p.1) ∧ R (kvs.map fun p => kV p.1)) ∨
  ∃ kvs : List (List Key × V), H a = some (.dT kvs) ∧ ks = kvs.map (fun p => kyT p.1) ∧ ∀ bs, IsKeys H kvs bs → R (bs.map V.ref)
def rSortDc (K : PySem.W.Frag) : List V → Hp → VK → Prop := fun vs H Q => ∃ (a : Addr) (ks : List PyData), vs = [V.ref a] ∧ sortOk ks = true ∧
  DKeys K H a ks.length ks fun xs => ∀ l, H l = none → Q (.ref l) (upd H l (.lst (((xs.zip ks).mergeSort (PySem.W.dataLe false (·.2))).map (·.1))))
theorem cr_sortedDc (hu : X.A.units + 130 < cLine) (hc : X.calm = true) : CallR X (.builtin "sorted") (rSortDc X.K) := by
  intro pins s σ H vs us Q I r h
  obtain ⟨d, ks, rfl, hk, h⟩ := h
  rw [Vals.ref1 r]
  refine PySem.Calls.call_function_entry kind_sorted plain_sorted entry_sorted (args_sorted1 _) ?_
  unfold Builtin.«sorted»
  refine wpAny_bind (m := checkCount "sorted" 1 1 _) (wpAny_pure ?_)
  have hh := I.ok.hd hc
  rcases h with ⟨kvs, hd, rfl, q⟩ | ⟨kvs, hd, rfl, q⟩
  · obtain ⟨hz, nm, tab, pd, dof⟩ := dk_of I.hok hd
    obtain ⟨epo, at_⟩ := dof.dictAt
    have same_len := pd.length
    refine wpAny_bind (PySem.W.kdu_collect (A := X.A.in1) (PySem.W.kdl_dict (knd := mixKind X.prog X.w) (kvs := tab) (ep := epo) nm) hh at_ (by omega) fun hp tk got hkp all => ?_)
    have gl : got.toList.length = kvs.length := by rw [Array.length_toList, all.1, same_len]
    refine wpAny_bind (wpAny_newList ?_ (by omega))
    have rv : Vals (kvs.map fun kv => kV kv.1) got.toList := vals_of_at (by rw [List.length_map, gl]) fun j x u hx hu => by
      obtain ⟨k, y, hk1, hk2⟩ := all.2 j u (by rw [← Array.getElem?_toList, hu])
      rw [List.getElem?_map] at hx
      have hks := congrArg (fun l : List Key => l[j]?) pd.keys
      simp only [List.getElem?_map, hk1, Option.map_some] at hks
      cases hp : kvs[j]? with
      | none => rw [hp] at hx; cases hx
      | some pr =>
        rw [hp] at hx hks
        cases hx
        cases Option.some.inj hks
        exact keyIs_rel hk2
    have kd : DpAll X.K H (kvs.map fun kv => kV kv.1) (kvs.map fun p => kyD p.1) := by
      have h0 := dp_keys (K := X.K) (H := H) (kvs.map (·.1))
      rwa [List.map_map, List.map_map] at h0
    exact wpAny_bind (wpAny_holding (wpAny_mono (sort_new (E := X.xe) I (h' := hp) (tk := tk) hkp rv kd hk (by rw [List.length_map]; exact hz) hu q) (fun _ _ x => wpAny_pure ⟨_, rfl, x⟩) fun _ _ e => e))
  · obtain ⟨hz, nm, tab, pd, ob, ens, epo, ho, ex, dat, hens, _⟩ := (show ObjOk X.prog X.w H s.heap d (.dT kvs) from I.hok d _ hd)
    have n1 := size_of_entries hens
    have n2 : kvs.length = tab.length := Paired.length pd
    refine wpAny_bind (PySem.W.kdu_collect (A := X.A.in1) (kdl_raw nm ex dat) hh ho (by omega) fun hp tk got hkp all => ?_)
    have gl : got.toList.length = tab.length := by rw [Array.length_toList, all.1, n1]
    refine wpAny_bind (wpAny_newList ?_ (by omega))
    have rv : Vals ((tab.map fun x => x.2.1).map V.ref) got.toList := vals_of_at (by rw [List.length_map, List.length_map, gl]) fun j x u hx hu => by
      obtain ⟨en, e1, e2⟩ := all.2 j u (by rw [← Array.getElem?_toList, hu])
      have e3 := entry_at hens j
      rw [List.getElem?_map, List.getElem?_map] at hx
      cases hb : tab[j]? with
      | none => rw [hb] at hx; cases hx
      | some row =>
        rw [hb] at hx e3
        cases hx
        rw [e1] at e3
        rw [e2, Option.some.inj e3]
        rfl
    exact wpAny_bind (wpAny_holding (wpAny_mono (sort_new (E := X.xe) I (h' := hp) (tk := tk) hkp rv (dp_keysT (isKeys_of pd)) hk (by rw [List.length_map, List.length_map]; omega) hu (q _ (isKeys_of pd))) (fun _ _ x => wpAny_pure ⟨_, rfl, x⟩) fun _ _ e => e))
end
end DL

set_option Elab.async false
set_option linter.all false
set_option maxRecDepth 100000
set_option maxHeartbeats 4000000
namespace DL
open PySem PySem.Spec L2
open PyProof.Rows hiding St

/-! ### dicts as data -/
def keqA : PyData → PyData → Bool
  | .int i, .int j => decide (i = j)
  | .str x, .str y => decide (x = y)
  | _, _ => false
def keqs : List PyData → List PyData → Bool
  | [], [] => true
  | x :: xs, y :: ys => keqA x y && keqs xs ys
  | _, _ => false
def keq : PyData → PyData → Bool
  | .tuple xs, .tuple ys => keqs xs ys
  | x, y => keqA x y
theorem keqA_ky (a b : Key) : keqA (kyD a) (kyD b) = decide (a = b) := by
  cases a <;> cases b <;> simp [kyD, keqA]
theorem keq_ky (a b : Key) : keq (kyD a) (kyD b) = decide (a = b) := by
  rw [← keqA_ky]
  cases a <;> cases b <;> rfl
theorem keqs_ky : ∀ a b : List Key, keqs (a.map kyD) (b.map kyD) = decide (a = b)
  | [], [] => by simp [keqs]
  | [], _ :: _ => by simp [keqs]
  | _ :: _, [] => by simp [keqs]
  | x :: xs, y :: ys => by
    rw [List.map_cons, List.map_cons, keqs, keqA_ky, keqs_ky xs ys]
    simp
theorem keq_kyT (a b : List Key) : keq (kyT a) (kyT b) = decide (a = b) := keqs_ky a b
/-- may k be a key of a dict whose keys are tuples (t), or not -/
def keyOk (t : Bool) (k : PyData) : Bool := match t, k with
  | false, .int _ => true
  | false, .str _ => true
  | true, .tuple ds => allI ds
  | _, _ => false
theorem key_f {K : PySem.W.Frag} {Fz : FZ} {H : Hp} {v : V} {k : PyData} (r : Rep K Fz H v k) (h : keyOk false k = true) : ∃ k', k = kyD k' ∧ v = kV k' := by
  cases r with
  | int i => exact ⟨.inl i, rfl, rfl⟩
  | str x => exact ⟨.inr x, rfl, rfl⟩
  | _ => cases h
theorem ints_keys {K : PySem.W.Frag} {Fz : FZ} {H : Hp} : ∀ {vs : List V} {ds : List PyData}, RepAll K Fz H vs ds → allI ds = true → ∃ ks : List Key, ds = ks.map kyD ∧ vs = ks.map kV
  | _, _, .nil, _ => ⟨[], rfl, rfl⟩
  | _, _, .cons (d := d) h r, e => by
    cases d with
    | int i =>
      obtain ⟨ks, h1, h2⟩ := ints_keys r (by simpa [allI] using e)
      cases h
      exact ⟨.inl i :: ks, by rw [h1]; rfl, by rw [h2]; rfl⟩
    | _ => simp [allI] at e
theorem key_t {K : PySem.W.Frag} {Fz : FZ} {H : Hp} {v : V} {k : PyData} (r : Rep K Fz H v k) (h : keyOk true k = true) : ∃ k' b, k = kyT k' ∧ v = .ref b ∧ H b = some (.tup (k'.map kV)) := by
  cases r with
  | tup hh z rr =>
    obtain ⟨ks, h1, h2⟩ := ints_keys rr h
    exact ⟨ks, _, by rw [h1]; rfl, rfl, by rw [← h2]; exact hh.pl h⟩
  | _ => cases h
theorem keyOk_flat {t : Bool} {k : PyData} (h : keyOk t k = true) : flat k = true := by
  have all : ∀ ds : List PyData, allI ds = true → flatAll ds = true := by
    intro ds
    induction ds with
    | nil => exact fun _ => rfl
    | cons d ds ih =>
      intro h
      cases d with
      | int i =>
        rw [allI] at h
        rw [flatAll, ih h]
        rfl
      | _ => simp [allI] at h
  cases t <;> cases k <;> first | rfl | (cases h; done) | skip
  rw [flat]
  exact all _ h
def lookD : List PyData → List PyData → PyData → Option PyData
  | k :: ks, v :: vs, x => if keq k x then some v else lookD ks vs x
  | _, _, _ => none
def replD : List PyData → List PyData → PyData → PyData → List PyData
  | k :: ks, v :: vs, x, y => (if keq k x then y else v) :: replD ks vs x y
  | _, _, _, _ => []
def hasK (ks : List PyData) (x : PyData) : Bool := ks.any fun k => keq k x
/-- the keys behind d[x] = .. -/
def putKs (ks : List PyData) (x : PyData) : List PyData := if hasK ks x then ks else ks ++ [x]
def putVs (ks vs : List PyData) (x y : PyData) : List PyData := if hasK ks x then replD ks vs x y else vs ++ [y]
section
variable {κ : Type} [DecidableEq κ] {enc : κ → PyData} (he : ∀ a b, keq (enc a) (enc b) = decide (a = b)) {K : PySem.W.Frag} {Fz : FZ} {H : Hp}
include he
theorem has_val (k : κ) : ∀ kvs : List (κ × V), hasK (kvs.map fun p => enc p.1) (enc k) = (valV kvs k).isSome
  | [] => rfl
  | p :: kvs => by
    have ih := has_val k kvs
    unfold hasK at ih ⊢
    rw [List.map_cons, List.any_cons, ih, he]
    by_cases e : p.1 = k
    · rw [valV_pos e]; simp [e]
    · rw [valV_neg e]; simp [e]
theorem look_val (k : κ) : ∀ {kvs : List (κ × V)} {vs : List PyData} {d : PyData}, RepAll K Fz H (kvs.map (·.2)) vs → lookD (kvs.map fun p => enc p.1) vs (enc k) = some d → ∃ v, valV kvs k = some v ∧ Rep K Fz H v d
  | [], _, _, r, e => by cases r; simp [lookD] at e
  | p :: kvs, _, d, r, e => by
    cases r with
    | cons h r =>
      rw [List.map_cons, lookD, he] at e
      by_cases q : p.1 = k
      · rw [if_pos (by simpa using q)] at e
        cases e
        exact ⟨p.2, valV_pos q, h⟩
      · rw [if_neg (by simpa using q)] at e
        obtain ⟨v, h1, h2⟩ := look_val k r e
        exact ⟨v, by rw [valV_neg q]; exact h1, h2⟩
theorem repl_val (k : κ) {v : V} {y : PyData} (ry : Rep K Fz H v y) : ∀ {kvs : List (κ × V)} {vs : List PyData}, RepAll K Fz H (kvs.map (·.2)) vs → RepAll K Fz H ((kvs.map fun kv => if kv.1 = k then (kv.1, v) else kv).map (·.2)) (replD (kvs.map fun p => enc p.1) vs (enc k) y)
  | [], _, r => by cases r; exact .nil
  | p :: kvs, _, r => by
    cases r with
    | cons h r =>
      rw [List.map_cons, List.map_cons, List.map_cons, replD, he]
      refine .cons ?_ (repl_val k ry r)
      by_cases q : p.1 = k
      · rw [if_pos q, if_pos (by simpa using q)]; exact ry
      · rw [if_neg q, if_neg (by simpa using q)]; exact h
theorem put_val (k : κ) {v : V} {y : PyData} (ry : Rep K Fz H v y) {kvs : List (κ × V)} {vs : List PyData} (r : RepAll K Fz H (kvs.map (·.2)) vs) :
    putKs (kvs.map fun p => enc p.1) (enc k) = (putK kvs k v).map (fun p => enc p.1) ∧ RepAll K Fz H ((putK kvs k v).map (·.2)) (putVs (kvs.map fun p => enc p.1) vs (enc k) y) := by
  unfold putKs putVs putK
  rw [has_val he, valV_any]
  by_cases q : (valV kvs k).isSome = true
  · rw [if_pos q, if_pos q, if_pos q]
    refine ⟨?_, repl_val he k ry r⟩
    rw [List.map_map]
    apply List.map_congr_left
    intro p _
    by_cases z : p.1 = k
    · simp [z]
    · simp [z]
  · rw [if_neg q, if_neg q, if_neg q]
    refine ⟨by rw [List.map_append]; rfl, ?_⟩
    rw [List.map_append]
    exact r.app (.cons ry .nil)
end
/-- the parts of a dict -/
def dcO : PyData → Option (Bool × List PyData × List PyData)
  | .dict [(.bool t, .tuple ks), (.none, .tuple vs)] => some (t, ks, vs)
  | _ => none
theorem dcO_some {d : PyData} {t : Bool} {ks vs : List PyData} (h : dcO d = some (t, ks, vs)) : d = dcD t ks vs := by
  unfold dcO at h
  split at h
  · cases h; rfl
  · cases h
theorem dcO_dc (t : Bool) (ks vs : List PyData) : dcO (dcD t ks vs) = some (t, ks, vs) := rfl
/-- a dict that is read, at a key -/
theorem dget_of {K : PySem.W.Frag} {Fz : FZ} {H : Hp} {v u : V} {t : Bool} {ks vs : List PyData} {k : PyData} (r : Rep K Fz H v (dcD t ks vs)) (rk : Rep K Fz H u k) (hk : keyOk t k = true) : ∃ a o, v = .ref a ∧ DGet H a u o ∧ o.isSome = hasK ks k ∧ ∀ d, lookD ks vs k = some d → ∃ w, o = some w ∧ Rep K Fz H w d := by
  unfold dcD at r
  cases r with
  | @dck a kvs _ _ hh e rr =>
    obtain ⟨k', rfl, rfl⟩ := key_f rk hk
    subst e
    exact ⟨a, valV kvs k', rfl, .k hh.1, (has_val keq_ky k' kvs).symm, fun d hd => look_val keq_ky k' rr hd⟩
  | @dct a kvs _ _ hh e rr =>
    obtain ⟨k', b, rfl, rfl, hb⟩ := key_t rk hk
    subst e
    exact ⟨a, valV kvs k', rfl, .t hh.1 hb, (has_val keq_kyT k' kvs).symm, fun d hd => look_val keq_kyT k' rr hd⟩
section
variable {X : Cx} {W : WS} {U : XK} {S T U : List Nat} {e a b c : Expr} {es : List Expr} {pos p : Pos} {te ta tb : TE} {t : TA}
/-! ### k in d -/
def rInDc (neg : Bool) : R2 := fun y x H Q => ∃ a o, x = .ref a ∧ DGet H a y o ∧ Q (.bl (if neg then !o.isSome else o.isSome)) H
theorem op_inDc (hu : X.A.units + 65 < cLine) : OpR X (compareOp .In) (rInDc false) := by
  intro pins s σ H x y v u Q I rx ry h
  obtain ⟨a, o, rfl, g, q⟩ := h
  cases ry
  exact d_in (by omega) I g rx fun s3 I3 => ⟨.bl o.isSome, H, I3, rfl, q⟩
theorem op_ninDc (hu : X.A.units + 65 < cLine) : OpR X (compareOp .NotIn) (rInDc true) := by
  intro pins s σ H x y v u Q I rx ry h
  obtain ⟨a, o, rfl, g, q⟩ := h
  cases ry
  exact d_notIn (by omega) I g rx fun s3 I3 => ⟨.bl (!o.isSome), H, I3, rfl, q⟩
def inA (x y : PyData) : Res PyData := match dcO y with
  | some (t, ks, _) => if keyOk t x then .ok (.bool (hasK ks x)) else .bot
  | none => inD x y
def ninA (x y : PyData) : Res PyData := match dcO y with
  | some (t, ks, _) => if keyOk t x then .ok (.bool (!hasK ks x)) else .bot
  | none => ninD x y
theorem inA_ne : NoErr inA := fun x y z => by
  unfold inA
  split
  · split <;> exact True.intro
  · exact inD_ne x y z
theorem ninA_ne : NoErr ninA := fun x y z => by
  unfold ninA
  split
  · split <;> exact True.intro
  · exact ninD_ne x y z
theorem od_inA (K) (hu : X.A.units + 65 < cLine) (hK : X.K = K := by rfl) : OpD X (compareOp .In) (fun x y H Q => rInA K x y H Q ∨ rInDc false x y H Q) inA := by
  subst hK
  refine .of ((od_in hu).op.or (op_inDc hu)) fun Fz H x y v u Q hl r1 r2 q => ?_
  unfold inA at q
  split at q
  · rename_i t ks vs hd
    split at q
    · rename_i hk
      rw [dcO_some hd] at r2
      obtain ⟨a, o, e, g, ho, _⟩ := dget_of r2 r1 hk
      exact .inr ⟨a, o, e, g, q _ H Fz .refl (by rw [if_neg (by decide), ho]; exact .bl _)⟩
    · exact q.elim
  · exact .inl ((od_in hu).ok Fz H x y v u Q hl r1 r2 q)
theorem od_ninA (K) (hu : X.A.units + 65 < cLine) (hK : X.K = K := by rfl) : OpD X (compareOp .NotIn) (fun x y H Q => rNinA K x y H Q ∨ rInDc true x y H Q) ninA := by
  subst hK
  refine .of ((od_nin hu).op.or (op_ninDc hu)) fun Fz H x y v u Q hl r1 r2 q => ?_
  unfold ninA at q
  split at q
  · rename_i t ks vs hd
    split at q
    · rename_i hk
      rw [dcO_some hd] at r2
      obtain ⟨a, o, e, g, ho, _⟩ := dget_of r2 r1 hk
      exact .inr ⟨a, o, e, g, q _ H Fz .refl (by rw [if_pos rfl, ho]; exact .bl _)⟩
    · exact q.elim
  · exact .inl ((od_nin hu).ok Fz H x y v u Q hl r1 r2 q)
/-! ### d[k] -/
def ixA (x y : PyData) : Res PyData := match dcO x with
  | some (t, ks, vs) => if keyOk t y then (match lookD ks vs y with | some d => .ok d | none => .bot) else .bot
  | none => ixD x y
theorem ixA_ne : NoErr ixA := fun x y z => by
  unfold ixA
  split
  · split
    · split <;> exact True.intro
    · exact True.intro
  · exact ixD_ne x y z
theorem vr_one (i : Nat) (δ : DSt) : (vr i δ).one := by
  unfold vr
  split <;> exact True.intro
theorem pe_or2 {t1 t2 : TE} (h1 : PE X e t1) (h2 : PE X e t2) : PE X e (fun σ H Q => t1 σ H Q ∨ t2 σ H Q) := ⟨fun pins s σ H Q I h => h.elim (h1.run pins s σ H Q I) (h2.run pins s σ H Q I)⟩
theorem de_ixA (K) {fa fb : DSt → Res PyData} (hu : X.A.units + 65 < cLine) (hs : PlainIx b) (ha : DE X W S a ta fa) (hb : DE X W T b tb fb) (hK : X.K = K := by rfl) (ho : ∀ δ, (fa δ).one := by intro δ; exact vr_one _ δ) :
    DE X W (S ++ T) (.Subscript a b pos) (fun σ H Q => tOp (rIx K) ta tb σ H Q ∨ tDGet ta tb σ H Q) (b2 ixA fa fb) := by
  subst hK
  have d1 := de_ix (pos := pos) hs ha hb
  refine ⟨pe_or2 d1.pe (pe_dget (by omega) ha.pe hb.pe hs), fun Fz σ H δ Q hd hl h => ?_⟩
  by_cases hx : ∃ x t ks vs, fa δ = .ok x ∧ dcO x = some (t, ks, vs)
  · obtain ⟨x, t, ks, vs, e1, e2⟩ := hx
    refine .inr ?_
    unfold EOK b2 at h
    rw [e1, ok_bind, wp_bind] at h
    refine two ha.ok hb.ok hd hl ?_
    rw [e1, wp_ok]
    refine wp_mono h (fun y hy v u H' F' g' l' r1 r2 => ?_) fun x hx => hx
    have q : EOK X.K X.mg E0 F' H' (ixA x y) Q := eok_weak (ixA_ne x y) g' hy
    unfold ixA at q
    rw [e2] at q
    dsimp only at q
    split at q
    · rename_i hk
      rw [dcO_some e2] at r1
      obtain ⟨a', o, e, g, ho, lk⟩ := dget_of r1 r2 hk
      split at q
      · rename_i d hdd
        obtain ⟨w, rfl, rw'⟩ := lk d hdd
        exact ⟨a', w, e, g, q.at rw'⟩
      · exact q.elim
    · exact q.elim
  · refine .inl (d1.ok Fz σ H δ Q hd hl ?_)
    have : b2 ixA fa fb δ = (do let x ← fa δ; let y ← fb δ; ixD x y) := by
      unfold b2
      cases hfa : fa δ with
      | ok x =>
        rw [ok_bind, ok_bind]
        have e : (fun y => ixA x y) = fun y => ixD x y := by
          funext y
          unfold ixA
          cases hdc : dcO x with
          | none => rfl
          | some q => exact absurd ⟨x, q.1, q.2.1, q.2.2, hfa, hdc⟩ hx
        rw [e]
      | err _ => rfl
      | bot => rfl
      | pick m k =>
        have := ho δ
        rw [hfa] at this
        exact this.elim
    rw [← this]
    exact h
/-! ### sorted of a list or a dict -/
def sortedA (ds : List PyData) : Res (List PyData) := match ds with
  | [d] => (match dcO d with
    | some (_, ks, _) => if sortOk ks && ks.all (fun k => match k with | .tuple xs => decide (xs.length ≤ sizeLine) | _ => true) && decide (ks.length ≤ sizeLine) then .ok (sortL ks) else .bot
    | none => sortedD [d])
  | _ => .bot
theorem CallF.or {f : Value} {r r' : List V → Hp → VK → Prop} {g : List PyData → Res (List PyData)} (c : CallR X f r) (c' : CallR X f r') (ok : ∀ Fz H ds vs Q, Live Fz H → RepAll X.K Fz H vs ds → LOK X.K X.mg E0 Fz H (g ds) Q → r vs H Q ∨ r' vs H Q) (ne : ∀ ds, Exn → (g ds).quiet) : CallF X f (fun vs H Q => r vs H Q ∨ r' vs H Q) g :=
  ⟨c.or c', ok, ne⟩
theorem rep_keys {K : PySem.W.Frag} {Fz : FZ} {H : Hp} : ∀ ks : List Key, RepAll K Fz H (ks.map kV) (ks.map kyD)
  | [] => .nil
  | .inl i :: ks => .cons (.int i) (rep_keys ks)
  | .inr x :: ks => .cons (.str x) (rep_keys ks)
theorem rep_keysT {K : PySem.W.Frag} {Fz : FZ} {H : Hp} {kvs : List (List Key × V)} {bs : List Addr} (h : IsKeys H kvs bs) (hz : ∀ p ∈ kvs, p.1.length ≤ sizeLine) : RepAll K Fz H (bs.map V.ref) (kvs.map fun p => kyT p.1) := by
  unfold IsKeys at h
  induction h with
  | nil => exact .nil
  | cons h t ih => exact .cons (.tup (.of h) (by rw [List.length_map]; exact hz _ List.mem_cons_self) (rep_keys _)) (ih fun p hp => hz p (List.mem_cons_of_mem _ hp))
theorem cf_sortedA (K) (hu : X.A.units + 130 < cLine) (hc : X.calm = true) (hK : X.K = K := by rfl) : CallF X (.builtin "sorted") (fun vs H Q => rSortV K (fun a xs H => SqL K H a xs) vs H Q ∨ rSortDc K vs H Q) sortedA := by
  subst hK
  refine .or (cf_sorted hu).call (cr_sortedDc hu hc) (fun Fz H ds vs Q hl r q => ?_) fun ds z => ?_
  · unfold sortedA at q
    split at q
    · split at q
      · rename_i d t ks vs' hd
        split at q
        · rename_i hk
          rw [Bool.and_eq_true, Bool.and_eq_true, decide_eq_true_eq] at hk
          obtain ⟨⟨hk1, hk2⟩, hk3⟩ := hk
          rw [dcO_some hd] at r
          have fin : ∀ (xs : List V), RepAll X.K Fz H xs ks → ∀ l, H l = none → Q (.ref l) (upd H l (.lst (((xs.zip ks).mergeSort (PySem.W.dataLe false (·.2))).map (·.1)))) := fun xs rr l nl => by
            refine q l _ _ Fz (.nw nl) nl (notFz (H' := H) .refl hl nl) upd_same (by rw [sortL_len]; exact hk3) (RepAll.grow (.nw nl) ?_)
            have hh := rep_of_zip (ps := (xs.zip ks).mergeSort (PySem.W.dataLe false (fun p : V × PyData => p.2))) (fun p hp => zip_rep rr p ((List.mergeSort_perm _ _).mem_iff.mp hp))
            rw [mergeSort_snd, zip_snd rr] at hh
            exact hh
          cases r with
          | cons h r =>
            cases r
            unfold dcD at h
            cases h with
            | @dck a kvs _ _ hh e rr =>
              refine .inr ⟨a, ks, rfl, hk1, .inl ⟨kvs, hh.1, e, fin _ ?_⟩⟩
              have := rep_keys (K := X.K) (Fz := Fz) (H := H) (kvs.map (·.1))
              rw [List.map_map, List.map_map] at this
              rw [e]
              exact this
            | @dct a kvs _ _ hh e rr =>
              refine .inr ⟨a, ks, rfl, hk1, .inr ⟨kvs, hh.1, e, fun bs hb => fin _ ?_⟩⟩
              rw [e]
              refine rep_keysT hb fun p hp => ?_
              rw [e] at hk2
              have := List.all_eq_true.mp hk2 _ (List.mem_map_of_mem hp)
              unfold kyT at this
              have := of_decide_eq_true this
              rwa [List.length_map] at this
        · exact q.elim
      · exact .inl ((cf_sorted hu).ok Fz H _ vs Q hl r q)
    · exact q.elim
  · unfold sortedA
    split
    · split
      · split <;> exact True.intro
      · exact (cf_sorted (X := X) hu).ne _ z
    · exact True.intro
/-! ### x = {}, d[k] = v -/
def newD (i : Nat) (tk : Bool) (δ : DSt) : Res Out := .ok (.nx (δ.set i (some (.ownd tk [] []))))
theorem ds_setD {i : Nat} {x : Str} {pos' : Pos} (tk : Bool) (hN : X.N.Nodup) (hi : X.N[i]? = some x) (hx : L2.Loc X.env.scope x) (hf : X.fn x = true ∨ X.env.scope.names.lookup x = some .local := by first | exact .inl rfl | exact .inr rfl | assumption) (hs : swapsWith (.Dict [] [] p) (some (.Name x pos')) pos.line X.env = pure false := by rfl) :
    DS X W (.Assign [.Name x pos'] (.Dict [] [] p) pos) (tAsg (if tk then tDNewT else tDNewK) (gName i)) (newD i tk) := by
  refine ⟨ps_set hN hi hx (by cases tk; exact pe_dnewK; exact pe_dnewT) hs hf, fun H0 Fz0 Fz H σ δ Dn r h => ?_⟩
  cases tk with
  | false =>
    refine fun p np => h Fz _ _ (((r.up (same_upd np)).setOwn (s := .ownd false [] []) (none_of_same r.same np) (fun q => r.live p q np) ⟨[], upd_same, rfl, .nil⟩ (r.apart np) i))
  | true =>
    refine fun p np => h Fz _ _ (((r.up (same_upd np)).setOwn (s := .ownd true [] []) (none_of_same r.same np) (fun q => r.live p q np) ⟨[], upd_same, rfl, .nil⟩ (r.apart np) i))
def putF (i : Nat) (S : List Nat) (fv : DSt → Res PyData) (fk : DSt → Res PyData) (δ : DSt) : Res Out :=
  match δ[i]? with
  | some (some (.ownd _ _ _)) => do
    let v ← fv δ
    let δ1 := if flat v then δ else freeze S 0 δ
    let k ← fk δ1
    match δ1[i]? with
    | some (some (.ownd t ks vs)) => if keyOk t k && decide (ks.length < sizeLine) then .ok (.nx (δ1.set i (some (.ownd t (putKs ks k) (putVs ks vs k v))))) else .bot
    | _ => .bot
  | _ => .bot
theorem ds_put {i : Nat} {x : Str} {key value : Expr} {xpos pos' : Pos} {tk tv : TE} {fk fv : DSt → Res PyData} (hu : X.A.units + 65 < cLine) (hN : X.N[i]? = some x) (hv : Vis X.env.scope x) (he : DE X W S value tv fv) (hk : DE X W T key tk fk) (hs : swapsWith value (some (.Subscript (.Name x xpos) key pos')) pos.line X.env = pure false := by rfl) (hd : (x == ("__debug__" : Str)) = false := by decide) (hcd : (x == ("__classdict__" : Str)) = false := by decide) :
    DS X W (.Assign [.Subscript (.Name x xpos) key pos'] value pos) (sDPut (tVar i) tk tv) (putF i S fv fk) := by
  refine ⟨ps_dput (by omega) (pe_var (i := i) hN hv hd hcd) hk.pe he.pe hs, fun H0 Fz0 Fz H σ δ Dn r h => ?_⟩
  unfold SOK putF at h
  split at h
  · rename_i t0 ks0 vs0 e1
    obtain ⟨a, e2, _⟩ := r.own i _ e1 rfl
    rw [wp_bind] at h
    refine atE he r (wp_mono h (fun v hv v' H1 F1 g1 r1 => ?_) fun x hx => hx)
    have fin : ∀ (F : FZ) (δ' : DSt), Rel X.K H0 Fz0 F H1 σ δ' → Rep X.K F H1 v' v → (do
        let k ← fk δ'
        match δ'[i]? with
        | some (some (.ownd t ks vs)) => if keyOk t k && decide (ks.length < sizeLine) then (.ok (.nx (δ'.set i (some (.ownd t (putKs ks k) (putVs ks vs k v))))) : Res Out) else .bot
        | _ => .bot).wp (OOK X.K H0 Fz0 Dn) (XOK X.mg (W σ) H0 Fz0) → (tVar i) σ H1 fun x H2 => tk σ H2 fun y H3 => ∃ a H4, x = .ref a ∧ DPut H3 a y v' H4 ∧ Dn.nx σ H4 := fun F δ' r' rv q => by
      refine ⟨.ref a, e2, ?_⟩
      rw [wp_bind] at q
      refine atE hk r' (wp_mono q (fun k hk' u H2 F2 g2 r2 => ?_) fun x hx => hx)
      split at hk'
      · rename_i t ks vs e3
        split at hk'
        · rename_i hok
          rw [Bool.and_eq_true, decide_eq_true_eq] at hok
          have r3 := r'.up g2.same
          have ru : Rep X.K F H2 u k := r2.flat (keyOk_flat hok.1)
          have rv2 : Rep X.K F H2 v' v := rv.stay (.of_same g2.same) fun _ h => h
          obtain ⟨a', k2, k4, k5, ob⟩ := r3.own i _ e3 rfl
          rw [e2] at k2
          cases k2
          cases t with
          | false =>
            obtain ⟨kvs, hh, rfl, rr⟩ := ob
            obtain ⟨k', rfl, rfl⟩ := key_f ru hok.1
            rw [List.length_map] at hok
            refine ⟨a, _, rfl, DPut.k hh hok.2, ?_⟩
            obtain ⟨p1, p2⟩ := put_val keq_ky k' rv2 rr
            exact hk' F _ σ (r3.write e3 rfl e2 fun H' st z => ⟨_, z, p1, p2.stay st fun _ h => h⟩)
          | true =>
            obtain ⟨kvs, hh, rfl, rr⟩ := ob
            obtain ⟨k', b, rfl, rfl, hb⟩ := key_t ru hok.1
            rw [List.length_map] at hok
            refine ⟨a, _, rfl, DPut.t hh hb hok.2, ?_⟩
            obtain ⟨p1, p2⟩ := put_val keq_kyT k' rv2 rr
            exact hk' F _ σ (r3.write e3 rfl e2 fun H' st z => ⟨_, z, p1, p2.stay st fun _ h => h⟩)
        · exact hk'.elim
      · exact hk'.elim
    by_cases hf : flat v = true
    · simp only [hf, if_true] at hv
      exact fin Fz δ (r.up g1.same) (r1.flat hf) hv
    · simp only [hf, if_false] at hv
      exact fin F1 _ (r.frz g1) r1 hv
  · exact h.elim
end
end DL

set_option Elab.async false
set_option linter.all false
set_option maxRecDepth 100000
set_option maxHeartbeats 4000000
namespace DL
open PySem PySem.Spec L2
open PyProof.Rows hiding St
open PySem.SeqAt
open PySem.MeetsSeq PySem.MeetsSeq2 PySem.MeetsSeq3
open HT

/-! ### a[::-1] of a tuple -/
section
variable {prog : Program} {w : World} {A : Around} {E : Value → Shared → Prop} {s : Shared}
theorem back_pick (xs : Array Value) : ((List.range xs.size).filterMap fun (m : Nat) => xs[(((xs.size : Int) - 1) + (m : Int) * (-1)).toNat]?).toArray = xs.toList.reverse.toArray := by
  congr 1
  obtain ⟨l⟩ := xs
  show (List.range l.length).filterMap (fun (m : Nat) => l.toArray[(((l.length : Int) - 1) + (m : Int) * (-1)).toNat]?) = l.reverse
  have h : ∀ n, n ≤ l.length → (List.range n).filterMap (fun (m : Nat) => l.toArray[(((l.length : Int) - 1) + (m : Int) * (-1)).toNat]?) = (l.reverse).take n := by
    intro n
    induction n with
    | zero => intro _; rfl
    | succ n ih =>
      intro hn
      rw [List.range_succ, List.filterMap_append, ih (by omega), List.take_succ]
      congr 1
      have e : (((l.length : Int) - 1) + (n : Int) * (-1)).toNat = l.length - 1 - n := by omega
      rw [List.filterMap_cons, List.filterMap_nil, e, List.getElem?_reverse (by omega)]
      rw [List.getElem?_toArray]
      cases l[l.length - 1 - n]? <;> rfl
  rw [h l.length (Nat.le_refl _), List.take_of_length_le (by rw [List.length_reverse]; exact Nat.le_refl _)]
theorem applied_back {sl : Addr} {vs : Value} {n : Nat} {Q : Int × Int × Nat → Shared → Prop} (hs : s.heap.IsSliceOf sl .none .none vs) (ps : IsPart vs (some (-1))) (h : Q ((n : Int) - 1, -1, n) s) : wpAny (model prog w) A (Builtin.Slice.sliceApplied (.ref sl) (pure (n : Int))) Q E s := by
  obtain ⟨os, hos, hcs, hds⟩ := id hs
  unfold Builtin.Slice.sliceApplied Builtin.Slice.sliceFields
  refine wpAny_bind (wpAny_bind (wpAny_field hos hds (x := .none) rfl (wpAny_bind (wpAny_field hos hds (x := .none) rfl (wpAny_bind (wpAny_field hos hds (x := vs) rfl (wpAny_pure ?_)))))))
  refine wpAny_bind (slicePart_ ps ?_)
  show wpAny _ _ (if ((-1 : Int) == 0) = true then _ else _) _ _ s
  rw [if_neg (by decide)]
  refine wpAny_bind (slicePart_none (wpAny_bind (slicePart_none (wpAny_bind (wpAny_pure ?_)))))
  have e : Builtin.Slice.slicePlaces ((n : Int) - 1) (-1) (-1) = n := by
    unfold Builtin.Slice.slicePlaces
    rw [if_neg (by decide)]
    by_cases hn : n = 0
    · subst hn; rfl
    · rw [if_pos (by omega)]
      show ((((n : Int) - 1 - -1 - 1) / 1) + 1).toNat = n
      rw [Int.ediv_one]
      omega
  show wpAny _ _ (pure ((n : Int) - 1, (-1 : Int), Builtin.Slice.slicePlaces ((n : Int) - 1) (-1) (-1))) _ _ s
  rw [e]
  exact wpAny_pure h
theorem get_back {t sl : Addr} {items : Array Value} {vs : Value} {Q : Value → Shared → Prop} (ht : IsTup s.heap t items) (hs : s.heap.IsSliceOf sl .none .none vs) (ps : IsPart vs (some (-1)))
    (h : Q (.ref s.heap.objs.size) { s with heap := s.heap.push { cls := .type "tuple", data := .seq items.toList.reverse.toArray } }) (hsz : items.size ≤ sizeLine) : wpAny (model prog w) A (getItem (.ref t) (.ref sl)) Q E s := by
  have hok : sizeOk (.seq items.toList.reverse.toArray) := by
    show items.toList.reverse.toArray.size ≤ sizeLine
    rw [List.size_toArray, List.length_reverse, Array.length_toList]
    exact hsz
  obtain ⟨os, hos, hcs, hds⟩ := id hs
  have hTs : s.TypeIs (.ref sl) "slice" := ⟨os, hos, hcs⟩
  unfold getItem
  try with_reducible refine wpAny_holding ?_
  first | refine wpAny_bind (wpAny_pure ?_) | skip
  refine wpAny_bind (wpAny_sequenceKey ht.typeIs (by decide) ?_)
  refine wpAny_bind (wpAny_callSpecial?_slot (name := Str.ofString "__getitem__") ht.typeIs PyProof.Rows.slot_tuple_getitem
    (wpAny_call_entry PyProof.Rows.slot_tuple_getitem ht.typeIs entry_tuple_getitem ?_ (args_tuple_getitem _ _)))
  show wpAny _ _ (Builtin.Tuple.tupleItemsOf (.ref t) >>= _) _ _ s
  refine wpAny_bind (tupleItemsOf_ ht ?_)
  refine wpAny_bind (wpAny_typeOf hTs ?_)
  rw [if_pos (by decide)]
  refine wpAny_bind (applied_back hs ps ?_)
  show wpAny _ _ (if ((((items.size : Int) - 1) == 0 && (-1 : Int) == 1 && items.size == items.size) = true) then _ else _) _ _ s
  rw [if_neg (by rw [show ((-1 : Int) == 1) = false by decide, Bool.and_false, Bool.false_and]; exact Bool.false_ne_true), back_pick]
  first
    | exact wpAny_bind (m := Builtin.Tuple.tupleExact _) (wpAny_newObj_type (wpAny_pure ⟨_, rfl, wpAny_pure h⟩) hok)
    | exact wpAny_bind (m := Builtin.Tuple.tupleExact _) (wpAny_newObj_type (wpAny_bind (wpAny_pure (wpAny_pure ⟨_, rfl, wpAny_pure h⟩))) hok)
    | exact wpAny_bind (wpAny_bind (m := Builtin.Tuple.tupleExact _) (wpAny_newObj_type (wpAny_pure (wpAny_pure ⟨_, rfl, wpAny_pure h⟩)) hok))
    | exact wpAny_bind (wpAny_bind (m := Builtin.Tuple.tupleExact _) (wpAny_newObj_type (wpAny_pure ⟨_, rfl, wpAny_pure h⟩) hok))
end
section
variable {X : Cx} {W : WS} {U : XK} {S : List Nat} {e : Expr} {te : TE} {k : Nat} {p1 p2 p3 pos : Pos}
def tRevT (K : PySem.W.Frag) (te : TE) : TE := fun σ H Q => te σ H fun x H1 => ∃ a xs, x = .ref a ∧ SqT K H1 a xs ∧ ∀ p, H1 p = none → Q (.ref p) (upd H1 p (.tup xs.reverse))
theorem pe_revT (he : PE X e te) : PE X (.Subscript e (.Slice none none (some (.UnaryOp .USub (.Constant (.int 1) k p1) p2)) p3) pos) (tRevT X.K te) := by
  refine ⟨fun pins s σ H Q I h => ?_⟩
  refine Subscript_ (thn (he.run pins s σ H _ I h) fun v s1 ⟨x, H1, I1, r1, a, xs, ex, hx, q⟩ => ?_)
  subst ex
  cases r1
  have hst : PO X (some (.UnaryOp .USub (.Constant (.int 1) k p1) p2)) (tPart (tUn (rU fun i => .int (-i)) (tC (.int 1)))) := po_some (pe_un un_neg pe_int)
  refine wpAny_Slice ?_
  rw [evalPart_none]
  refine wpAny_pure (wpAny_pure ?_)
  refine thn (hst.run pins s1 σ H1 (fun o H4 => o = some (-1) ∧ H4 = H1) I1 ⟨1, rfl, -1, rfl, rfl, rfl⟩) fun vs s4 ⟨o, H4, I4, ps, eo, e4⟩ => ?_
  subst eo e4
  have I5 : Inv X pins σ H4 { s4 with heap := s4.heap.push { cls := .type "slice", data := .fields #[.none, .none, vs] } } := I4.kept (t' := s4.toks) fun b ob q => Heap.get?_push_of_some _ q
  obtain ⟨its, r, ht, hz⟩ := I5.tuple hx
  have hlen := r.length
  refine tail_any (ops := [.ref a, .ref s4.heap.objs.size]) (IsTup.typeIs ht) (PyProof.Rows.slot_tuple_getitem.lookup) ?_ (by with_unfolding_all rfl)
  refine get_back ht (Heap.IsSliceOf.new _ .none .none vs) ps ?_ (by rw [List.size_toArray]; omega)
  refine ⟨.ref _, _, I5.laid (t' := s4.toks) (o := .tup xs.reverse) (fun b ob q => Heap.get?_push_of_some _ q) (Nat.le_refl _) ?_, rfl, q _ (I5.hok.fresh (Nat.le_refl _))⟩
  exact ⟨by rw [List.length_reverse]; exact hz, _, r.reverse, _, Heap.get?_push_size _ rfl, rfl, 0, rfl⟩
theorem RepAll.rev {K : PySem.W.Frag} {Fz : FZ} {H : Hp} : ∀ {vs : List V} {ds : List PyData}, RepAll K Fz H vs ds → RepAll K Fz H vs.reverse ds.reverse
  | _, _, .nil => .nil
  | _, _, .cons h r => by
    rw [List.reverse_cons, List.reverse_cons]
    exact r.rev.app (.cons h .nil)
def revD (d : PyData) : Res PyData := match d with
  | .list xs => .ok (.list xs.reverse)
  | .tuple xs => .ok (.tuple xs.reverse)
  | _ => .bot
theorem de_revK (K) {f : DSt → Res PyData} (ha : DE X W S e te f) (hK : X.K = K := by rfl) : DE X W S (.Subscript e (.Slice none none (some (.UnaryOp .USub (.Constant (.int 1) k p1) p2)) p3) pos) (fun σ H Q => tRevL K te σ H Q ∨ tRevT K te σ H Q) (u1 revD (dtF f)) := by
  subst hK
  refine ⟨pe_or2 (pe_revL ha.pe) (pe_revT ha.pe), fun Fz σ H δ Q hd hl h => ?_⟩
  unfold EOK u1 dtF at h
  rw [wp_bind] at h
  cases hf : f δ with
  | pick m k => rw [hf] at h; exact h.elim
  | bot => rw [hf] at h; exact h.elim
  | err x =>
    rw [hf] at h
    exact .inl (ha.ok Fz σ H δ _ hd hl (by rw [hf]; exact h))
  | ok d =>
    rw [hf] at h
    cases d with
    | list xs =>
      refine .inl (ha.ok Fz σ H δ _ hd hl ?_)
      rw [hf]
      intro v H1 F1 g1 r1
      cases r1 with
      | lst hh z rr => exact ⟨_, _, rfl, hh.sq, fun p np => h _ _ _ (g1.trans (.frz np)) (.lst (.inl ⟨upd_same, .inr rfl⟩) (by rw [List.length_reverse]; exact z) (RepAll.grow (.frz np) rr.rev))⟩
    | tuple xs =>
      refine .inr (ha.ok Fz σ H δ _ hd hl ?_)
      rw [hf]
      intro v H1 F1 g1 r1
      cases r1 with
      | tup hh z rr => exact ⟨_, _, rfl, hh.sq, fun p np => h _ _ _ (g1.trans (.nw np)) (.tup (.of upd_same) (by rw [List.length_reverse]; exact z) (RepAll.grow (.nw np) rr.rev))⟩
    | _ => exact h.elim
end
end DL

set_option Elab.async false
set_option linter.all false
set_option maxRecDepth 100000
set_option maxHeartbeats 4000000
namespace DL
open PySem PySem.Spec L2
open PyProof.Rows hiding St

/-! ### sorted of a tuple -/
section
variable {prog : Program} {w : World} {A : Around} {E : Value → Shared → Prop} {s : Shared}
theorem collect_tup {t : Addr} {items : Array Value} {R : List Value → Shared → Prop} (ht : IsTup s.heap t items) (hz : items.size ≤ sizeLine)
    (h : ∀ h', (∀ b o, s.heap.get? b = some o → h'.get? b = some o) → R items.toList { s with heap := h' }) : wpAny (model prog w) A (collect (.ref t)) R E s := by
  obtain ⟨o, ho, hc, n, hd⟩ := id ht
  have lt := Heap.lt_size ho
  unfold collect
  refine wpAny_bind (wpAny_runValue (codeAny_builtin entry_proto_collect' ?_))
  rw [Around.under_plainId PySem.F.plain_proto_collect _]
  show wpAny _ A.in1 (newList [] >>= fun l => again (.builtin "list.__iadd__" ⟨[l, .ref t], []⟩)) _ _ s
  refine wpAny_bind (wpAny_newObj_type ?_)
  refine wpAny_pure ⟨plainId_quiet PySem.F.plain_list_iadd _, codeAny_builtin entry_list_iadd' ?_⟩
  rw [Around.under_plainId PySem.F.plain_list_iadd _]
  have hS : (s.heap.push { cls := .type "list", data := .seq ([] : List Value).toArray }).get? s.heap.objs.size = some { cls := .type "list", data := .seq #[] } := Heap.get?_push_size _ rfl
  show wpAny _ A.in1 (Builtin.List.listExtendWith (.ref s.heap.objs.size) (.ref t) (.ref s.heap.objs.size)) _ _ _
  have key := wpAny_extend_seq (A := A) (prog := prog) (w := w) (s := { s with heap := s.heap.push { cls := .type "list", data := .seq ([] : List Value).toArray } })
    (R := fun (q : Result) (s' : Shared) => q = .ok (.ret (.ref s.heap.objs.size)) ∧ s' = { s with heap := (s.heap.push { cls := .type "list", data := .seq ([] : List Value).toArray }).update s.heap.objs.size (Obj.mapSeq (· ++ items)) })
    s.heap.objs.size t (.ref s.heap.objs.size) 0 (.inr rfl) hS (Heap.get?_push_of_some _ ho) hc hd ⟨rfl, rfl⟩ hz
  have up := Heap.get?_update_self (Obj.mapSeq (· ++ items)) hS rfl
  have ks : ∀ b u, s.heap.get? b = some u → ((s.heap.push { cls := .type "list", data := .seq ([] : List Value).toArray }).update s.heap.objs.size (Obj.mapSeq (· ++ items))).get? b = some u := fun b u e =>
    (Heap.get?_update_other _ _ (Nat.ne_of_gt (Heap.lt_size e))).trans (Heap.get?_push_of_some _ e)
  have fin : wpAny (model prog w) A (do
      let o ← load s.heap.objs.size
      match o.data with
      | .seq xs _ => pure xs.toList
      | _ => unsupported "internal:collect") R E { s with heap := (s.heap.push { cls := .type "list", data := .seq ([] : List Value).toArray }).update s.heap.objs.size (Obj.mapSeq (· ++ items)) } := by
    refine wpAny_bind (wpAny_load up ?_)
    have := h _ ks
    show wpAny _ A (pure ((#[] : Array Value) ++ items).toList) R E _
    rw [show ((#[] : Array Value) ++ items).toList = items.toList by simp]
    exact wpAny_pure this
  refine wpAny_mono key (fun fn s' x => ?_) fun e s' x => ?_
  · cases fn with
    | done f =>
      obtain ⟨e, rfl⟩ := x
      cases e
      exact fin
    | again c₁ =>
      refine ⟨x.1, codeAny_mono x.2 fun q s₂ y => ?_⟩
      obtain ⟨rfl, rfl⟩ := y
      exact fin
  · obtain ⟨e', _⟩ := x
    cases e'
end
section
variable {X : Cx} {W : WS} {U : XK} {S T : List Nat} {e a b c : Expr} {es : List Expr} {pos p : Pos} {te ta tb : TE} {t : TA}
theorem cr_sortedTu (hu : X.A.units + 130 < cLine) : CallR X (.builtin "sorted") (rSortV X.K fun a xs H => SqT X.K H a xs) := by
  intro pins s σ H vs us Q I r h
  obtain ⟨d, xs, ds, rfl, hs, hd, hk, hz, q⟩ := h
  rw [Vals.ref1 r]
  obtain ⟨its, rv, ht, _⟩ := I.tuple hs
  refine PySem.Calls.call_function_entry kind_sorted plain_sorted entry_sorted (args_sorted1 _) ?_
  unfold Builtin.«sorted»
  refine wpAny_bind (m := checkCount "sorted" 1 1 _) (wpAny_pure ?_)
  have hl := rv.length
  refine wpAny_bind (collect_tup (A := X.A.in1) ht (by rw [List.size_toArray]; omega) fun hp hkp => ?_)
  refine wpAny_bind (wpAny_newList ?_ (by show its.length ≤ _; omega))
  exact wpAny_bind (wpAny_holding (wpAny_mono (sort_new (E := X.xe) (tk := s.toks) I (h' := hp) hkp rv hd hk hz hu q) (fun _ _ x => wpAny_pure ⟨_, rfl, x⟩) fun _ _ e => e))
def sorted3 (ds : List PyData) : Res (List PyData) := match ds with
  | [.tuple xs] => if sortOk xs then .ok (sortL xs) else .bot
  | _ => sortedA ds
theorem cf_sorted3 (K) (hu : X.A.units + 130 < cLine) (hc : X.calm = true) (hK : X.K = K := by rfl) : CallF X (.builtin "sorted") (fun vs H Q => rSortV K (fun a xs H => SqT K H a xs) vs H Q ∨ (rSortV K (fun a xs H => SqL K H a xs) vs H Q ∨ rSortDc K vs H Q)) sorted3 := by
  subst hK
  refine .or (cr_sortedTu hu) (cf_sortedA X.K hu hc).call (fun Fz H ds vs Q hl r q => ?_) fun ds z => ?_
  · unfold sorted3 at q
    split at q
    · split at q
      · rename_i xs hk
        cases r with
        | cons h r =>
          cases r
          cases h with
          | tup h z rr =>
            refine .inl ⟨_, _, _, rfl, h.sq, rr.dp (sortOk_nd hk), hk, by rw [rr.length]; exact z, fun l nl => ?_⟩
            refine q l _ _ Fz (.nw nl) nl (notFz (H' := H) .refl hl nl) upd_same (by rw [sortL_len]; exact z) (RepAll.grow (.nw nl) ?_)
            have hh := rep_of_zip (ps := ((_ : List V).zip xs).mergeSort (PySem.W.dataLe false (fun p : V × PyData => p.2))) (fun p hp => zip_rep rr p ((List.mergeSort_perm _ _).mem_iff.mp hp))
            rw [mergeSort_snd, zip_snd rr] at hh
            exact hh
      · exact q.elim
    · exact .inr ((cf_sortedA X.K hu hc).ok Fz H _ vs Q hl r q)
  · unfold sorted3
    split
    · split <;> exact True.intro
    · exact (cf_sortedA (X := X) X.K hu hc).ne _ z
@[simp] theorem sorted3_L (xs : List PyData) : sorted3 [.list xs] = sortedD [.list xs] := rfl
@[simp] theorem sorted3_T (xs : List PyData) : sorted3 [.tuple xs] = sortedD [.list xs] := rfl
@[simp] theorem sorted3_D (t : Bool) (ks vs : List PyData) : sorted3 [dcD t ks vs] = sortedA [dcD t ks vs] := rfl
end
end DL

set_option Elab.async false
set_option linter.all false
set_option maxRecDepth 100000
set_option maxHeartbeats 4000000
namespace DL
open PySem PySem.Spec L2

/-! ### working out: plain data -/
@[simp] theorem ev_b2 (g : D → D → Res D) (fa fb δ) : b2 g fa fb δ = (fa δ >>= fun x => fb δ >>= fun y => g x y) := rfl
@[simp] theorem ev_u1 (g : D → Res D) (f δ) : u1 g f δ = (f δ >>= g) := rfl
@[simp] theorem ev_u1A (g : List D → Res D) (f δ) : u1A g f δ = (f δ >>= g) := rfl
@[simp] theorem ev_u1L (g : List D → Res (List D)) (f δ) : u1L g f δ = (f δ >>= g) := rfl
@[simp] theorem ev_u1LE (g : D → Res (List D)) (f δ) : u1LE g f δ = (f δ >>= g) := rfl
@[simp] theorem ev_andF (f g : DSt → Res D) (δ) : andF f g δ = (f δ >>= fun x => andV x (g δ)) := rfl
@[simp] theorem ev_orF (f g : DSt → Res D) (δ) : orF f g δ = (f δ >>= fun x => orV x (g δ)) := rfl
@[simp] theorem ev_ifE (h) (f g : DSt → Res D) (δ) : ifE h f g δ = (h δ >>= fun x => if x then f δ else g δ) := rfl
@[simp] theorem ev_aNil (δ) : aNil δ = .ok [] := rfl
@[simp] theorem ev_aCons (f : DSt → Res D) (g δ) : aCons f g δ = (f δ >>= fun x => g δ >>= fun xs => .ok (x :: xs)) := rfl
@[simp] theorem ev_asL (f : DSt → Res (List D)) (δ) : asL f δ = (f δ >>= fun xs => .ok (.list xs)) := rfl
@[simp] theorem ev_oN (δ) : oN δ = .ok none := rfl
@[simp] theorem ev_oS (f : DSt → Res D) (δ) : oS f δ = (f δ >>= asI) := rfl
@[simp] theorem ev_slF (f : DSt → Res D) (fl fh : DSt → Res (Option Int)) (δ) : slF f fl fh δ = (f δ >>= fun x => fl δ >>= fun l => fh δ >>= fun u => sliceD x l u) := rfl
@[simp] theorem ev_callF (g : List D → Res D) (f δ) : callF g f δ = (f δ >>= fun ds => nE (g ds)) := rfl
@[simp] theorem ev_tB2 (g : D → D → Res D) (fa fb δ) : tB2 g fa fb δ = (fa δ >>= fun x => fb δ >>= fun y => g x y >>= asB) := by
  show ((fa δ >>= fun x => fb δ >>= fun y => g x y) >>= asB) = _
  rw [Res.bind_assoc]
  congr 1
  funext x
  exact Res.bind_assoc _ _ _
@[simp] theorem ev_dtF (f : DSt → Res D) (δ) : dtF f δ = (f δ).dt := rfl
@[simp] theorem ev_dt {α : Type} (a : α) : (Res.ok a).dt = .ok a := rfl
@[simp] theorem ev_tTr (f : DSt → Res D) (δ) : tTr f δ = (f δ >>= truD) := rfl
@[simp] theorem ev_tNt (f : DSt → Res Bool) (δ) : tNt f δ = (f δ >>= fun x => .ok (!x)) := rfl
@[simp] theorem ev_tAnd (f g : DSt → Res Bool) (δ) : tAnd' f g δ = (f δ >>= fun x => if x then g δ else .ok false) := rfl
@[simp] theorem ev_tOr (f g : DSt → Res Bool) (δ) : tOr' f g δ = (f δ >>= fun x => if x then .ok true else g δ) := rfl
@[simp] theorem ev_tY (δ) : tY δ = .ok true := rfl
@[simp] theorem ev_sNil (δ) : sNil δ = .ok (.nx δ) := rfl
@[simp] theorem ev_sBk (δ) : sBk δ = .ok (.bk δ) := rfl
@[simp] theorem ev_sCt (δ) : sCt δ = .ok (.ct δ) := rfl
@[simp] theorem ev_sRt (f : DSt → Res D) (δ) : sRt f δ = (f δ >>= fun d => .ok (.rt d)) := rfl
@[simp] theorem ev_sRtN (δ) : sRtN δ = .ok (.rt .none) := rfl
@[simp] theorem ev_sEx (f : DSt → Res D) (δ) : sEx f δ = (f δ >>= fun _ => .ok (.nx δ)) := rfl
/-! statements one behind another: what stands behind is not looked into before it is its turn -/
def seqK (r : Res Out) (g : DSt → Res Out) : Res Out := r >>= fun o => match o with
  | .nx δ => g δ
  | o => .ok o
theorem sq (f g δ) : seqF f g δ = seqK (f δ) g := by
  unfold seqF seqK
  congr 1
@[simp] theorem seqK_nx (δ g) : seqK (.ok (.nx δ)) g = g δ := rfl
@[simp] theorem seqK_rt (d g) : seqK (.ok (.rt d)) g = .ok (.rt d) := rfl
@[simp] theorem seqK_bk (δ g) : seqK (.ok (.bk δ)) g = .ok (.bk δ) := rfl
@[simp] theorem seqK_ct (δ g) : seqK (.ok (.ct δ)) g = .ok (.ct δ) := rfl
def ifK (r : Res Bool) (f g : DSt → Res Out) (δ : DSt) : Res Out := r >>= fun x => if x then f δ else g δ
@[simp] theorem ev_ifS (h) (f g : DSt → Res Out) (δ) : ifS h f g δ = ifK (h δ) f g δ := rfl
@[simp] theorem ifK_t (f g δ) : ifK (.ok true) f g δ = f δ := rfl
@[simp] theorem ifK_f (f g δ) : ifK (.ok false) f g δ = g δ := rfl
theorem ifK_b (b f g δ) : ifK (.ok b) f g δ = if b then f δ else g δ := rfl
def asgK (r : Res D) (S : List Nat) (p : Pat) (δ : DSt) : Res Out := r >>= fun d => nE (bindP p d (if flat d then δ else freeze S 0 δ)) >>= fun δ' => .ok (.nx δ')
@[simp] theorem asgK_fl {d : D} {S p δ} (h : flat d = true) : asgK (.ok d) S p δ = (nE (bindP p d δ) >>= fun δ' => .ok (.nx δ')) := by
  unfold asgK
  rw [show (Res.ok d >>= fun d => nE (bindP p d (if flat d then δ else freeze S 0 δ)) >>= fun δ' => (.ok (.nx δ') : Res Out)) = (nE (bindP p d (if flat d then δ else freeze S 0 δ)) >>= fun δ' => .ok (.nx δ')) from rfl, h]; rfl
@[simp] theorem asgK_nf {d : D} {S p δ} (h : flat d = false) : asgK (.ok d) S p δ = (nE (bindP p d (freeze S 0 δ)) >>= fun δ' => .ok (.nx δ')) := by
  unfold asgK
  rw [show (Res.ok d >>= fun d => nE (bindP p d (if flat d then δ else freeze S 0 δ)) >>= fun δ' => (.ok (.nx δ') : Res Out)) = (nE (bindP p d (if flat d then δ else freeze S 0 δ)) >>= fun δ' => .ok (.nx δ')) from rfl, h]; rfl
def asgOK (r : Res (List D)) (S : List Nat) (i : Nat) (δ : DSt) : Res Out := r >>= fun xs => .ok (.nx ((if flatAll xs then δ else freeze S 0 δ).set i (some (.own xs))))
@[simp] theorem asgOK_fl {d : List D} {S i δ} (h : flatAll d = true) : asgOK (.ok d) S i δ = .ok (.nx (δ.set i (some (.own d)))) := by
  show Res.ok (Out.nx ((if flatAll d then δ else freeze S 0 δ).set i (some (.own d)))) = _
  rw [h]; rfl
@[simp] theorem asgOK_nf {d : List D} {S i δ} (h : flatAll d = false) : asgOK (.ok d) S i δ = .ok (.nx ((freeze S 0 δ).set i (some (.own d)))) := by
  show Res.ok (Out.nx ((if flatAll d then δ else freeze S 0 δ).set i (some (.own d)))) = _
  rw [h]; rfl
@[simp] theorem ev_ok {α β : Type} (a : α) (f : α → Res β) : (Res.ok a >>= f) = f a := rfl
@[simp] theorem ev_bot {α β : Type} (f : α → Res β) : (Res.bot >>= f) = .bot := rfl
@[simp] theorem ev_nE {α : Type} (a : α) : nE (.ok a) = .ok a := rfl
@[simp] theorem ev_vr (i : Nat) (δ : DSt) : vr i δ = (match δ[i]? with | some (some s) => .ok s.d | _ => .bot) := rfl
@[simp] theorem ev_dv (d : D) : (SV.val d).d = d := rfl
@[simp] theorem ev_down (d : List D) : (SV.own d).d = .list d := rfl
@[simp] theorem ev_seq (f g δ δ') (h : f δ = .ok (.nx δ')) : seqF f g δ = g δ' := by unfold seqF; rw [h]; rfl
@[simp] theorem ev_cI (i δ) : cI i δ = .ok (.int i) := rfl
@[simp] theorem ev_cB (i δ) : cB i δ = .ok (.bool i) := rfl
@[simp] theorem ev_cS (i δ) : cS i δ = .ok (.str i) := rfl
@[simp] theorem ev_cN (δ) : cN δ = .ok .none := rfl
@[simp] theorem ev_sub (a b : Int) : subD (.int a) (.int b) = .ok (.int (a - b)) := rfl
@[simp] theorem ev_add (a b : Int) : addD (.int a) (.int b) = .ok (.int (a + b)) := rfl
@[simp] theorem ev_neg (a : Int) : negD (.int a) = .ok (.int (-a)) := rfl
@[simp] theorem ev_opI2 (C g) (a b : Int) : opI2 C g (.int a) (.int b) = if C a b = true then .ok (g a b) else .bot := rfl
@[simp] theorem ev_int (a : Int) : intD [.int a] = .ok (.int a) := rfl
@[simp] theorem ev_abs (a : Int) : absD [.int a] = .ok (.int (a.natAbs : Int)) := by
  show Res.ok (PyData.int _) = _
  congr 2
  split <;> omega
@[simp] theorem ev_eq (a b : Int) : eqD (.int a) (.int b) = .ok (.bool (decide (a = b))) := by
  show Res.ok (PyData.bool (a == b)) = _
  congr 2
@[simp] theorem ev_ne (a b : Int) : neD (.int a) (.int b) = .ok (.bool (decide (a ≠ b))) := by
  show Res.ok (PyData.bool (!(a == b))) = _
  congr 2
  by_cases h : a = b <;> simp [h]
@[simp] theorem ev_eqB (a b : Bool) : eqD (.bool a) (.bool b) = .ok (.bool (decide (a = b))) := by
  show Res.ok (PyData.bool (a == b)) = _
  cases a <;> cases b <;> rfl
@[simp] theorem ev_neB (a b : Bool) : neD (.bool a) (.bool b) = .ok (.bool (decide (a ≠ b))) := by
  show Res.ok (PyData.bool (!(a == b))) = _
  cases a <;> cases b <;> rfl
theorem dataLt_int (a b : Int) : PySem.W.dataLt (.int a) (.int b) = decide (a < b) := by
  have h := congrFun (congrFun (PySem.W.dataLe_int (β := Int) (fun x => x)) b) a
  have h2 : (!PySem.W.dataLt (.int a) (.int b)) = decide (b ≤ a) := h
  by_cases q : a < b
  · have : ¬ b ≤ a := by omega
    simp [this] at h2
    simp [h2, q]
  · have : b ≤ a := by omega
    simp [this] at h2
    simp [h2, q]
theorem cmpOk_int (a b : Int) : cmpOk (.int a) (.int b) = true := rfl
@[simp] theorem ev_lt (a b : Int) : ltD (.int a) (.int b) = .ok (.bool (decide (a < b))) := by
  unfold ltD; rw [cmpOk_int, dataLt_int]; rfl
@[simp] theorem ev_gt (a b : Int) : gtD (.int a) (.int b) = .ok (.bool (decide (b < a))) := by
  unfold gtD; rw [cmpOk_int, dataLt_int]; rfl
@[simp] theorem ev_le (a b : Int) : leD (.int a) (.int b) = .ok (.bool (decide (a ≤ b))) := by
  unfold leD; rw [cmpOk_int, dataLt_int, if_pos rfl]; congr 2; by_cases h : a ≤ b <;> simp [h] <;> omega
@[simp] theorem ev_ge (a b : Int) : geD (.int a) (.int b) = .ok (.bool (decide (b ≤ a))) := by
  unfold geD; rw [cmpOk_int, dataLt_int, if_pos rfl]; congr 2; by_cases h : b ≤ a <;> simp [h] <;> omega
@[simp] theorem ev_asB (a : Bool) : asB (.bool a) = .ok a := rfl
@[simp] theorem ev_asI (a : Int) : asI (.int a) = .ok (some a) := rfl
@[simp] theorem ev_truB (a : Bool) : truD (.bool a) = .ok a := rfl
@[simp] theorem ev_notV (a : Bool) : notV (.bool a) = .ok (.bool (!a)) := rfl
@[simp] theorem ev_andV (a b : Bool) : andV (.bool a) (.ok (.bool b)) = .ok (.bool (a && b)) := by cases a <;> rfl
@[simp] theorem ev_orV (a b : Bool) : orV (.bool a) (.ok (.bool b)) = .ok (.bool (a || b)) := by cases a <;> rfl
@[simp] theorem ev_lenL (xs : List D) : lenD [.list xs] = .ok (.int xs.length) := rfl
@[simp] theorem ev_lenT (xs : List D) : lenD [.tuple xs] = .ok (.int xs.length) := rfl
@[simp] theorem ev_tupL (xs : List D) : tupleD [.list xs] = .ok (.tuple xs) := rfl
@[simp] theorem ev_tupT (xs : List D) : tupleD [.tuple xs] = .ok (.tuple xs) := rfl
@[simp] theorem ev_seqT (xs : List D) : seqD (.tuple xs) = .ok xs := rfl
@[simp] theorem ev_seqL (xs : List D) : seqD (.list xs) = .ok xs := rfl
theorem lstD_ok {ds : List D} (h : ds.length ≤ sizeLine) : lstD ds = .ok ds := if_pos h
theorem tupD_ok {ds : List D} (h : ds.length ≤ sizeLine) : tupD ds = .ok (.tuple ds) := if_pos h
theorem le_size {n : Nat} (h : n ≤ 1000000) : n ≤ sizeLine := Nat.le_trans h (by rw [sizeLine_eq]; exact (by decide))
@[simp] theorem ev_tup1 (a : D) : tupD [a] = .ok (.tuple [a]) := tupD_ok (le_size (by simp))
@[simp] theorem ev_tup0 : tupD [] = .ok (.tuple []) := tupD_ok (le_size (by simp))
@[simp] theorem ev_lst0 : lstD [] = .ok [] := lstD_ok (le_size (by simp))
@[simp] theorem ev_tup2 (a b : D) : tupD [a, b] = .ok (.tuple [a, b]) := tupD_ok (le_size (by simp))
@[simp] theorem ev_lst2 (a b : D) : lstD [a, b] = .ok [a, b] := lstD_ok (le_size (by simp))
theorem kb_ii : kitB "int" "int" = some true := by decide +kernel
theorem kb_ib : kitB "int" "bool" = some false := by decide +kernel
theorem kb_bb : kitB "bool" "bool" = some true := by decide +kernel
theorem isi_of {T : String} {d : D} {b : Bool} (h : kitB (tyN d) T = some b) (np : isPool d = false := by rfl) : isiD T d = .ok (.bool b) := by
  unfold isiD
  rw [np, h]; rfl
@[simp] theorem ev_isii (a : Int) : isiD "int" (.int a) = .ok (.bool true) := isi_of kb_ii
@[simp] theorem ev_isbi (a : Int) : isiD "bool" (.int a) = .ok (.bool false) := isi_of kb_ib
@[simp] theorem ev_isbb (a : Bool) : isiD "bool" (.bool a) = .ok (.bool true) := isi_of kb_bb
@[simp] theorem fl_int (a : Int) : flat (.int a) = true := by rw [flat]
@[simp] theorem fl_bool (a : Bool) : flat (.bool a) = true := by rw [flat]
@[simp] theorem fl_non : flat .none = true := by rw [flat]
@[simp] theorem fl_str (x : Str) : flat (.str x) = true := by rw [flat]
@[simp] theorem fl_list (x : List D) : flat (.list x) = false := by rw [flat]
@[simp] theorem fl_dict (x) : flat (.dict x) = false := by rw [flat]
@[simp] theorem fl_tup (x : List D) : flat (.tuple x) = flatAll x := by rw [flat]
@[simp] theorem fl_nil : flatAll [] = true := by rw [flatAll]
@[simp] theorem fl_cons (d : D) (ds) : flatAll (d :: ds) = (flat d && flatAll ds) := by rw [flatAll]
@[simp] theorem ev_bindN (i d δ) : bindP (.nm i) d δ = .ok (δ.set i (some (.val d))) := rfl
@[simp] theorem ev_bindT (is ds δ) : bindP (.tp is) (.tuple ds) δ = bindN is ds δ := rfl
@[simp] theorem ev_bindTL (is ds δ) : bindP (.tp is) (.list ds) δ = bindN is ds δ := rfl
@[simp] theorem ev_bind0 (δ) : bindN [] [] δ = .ok δ := rfl
@[simp] theorem ev_bind1 (i is d ds δ) : bindN (i :: is) (d :: ds) δ = bindN is ds (δ.set i (some (.val d))) := rfl
@[simp] theorem ev_asgF (S f p δ) : asgF S f p δ = asgK (f δ) S p δ := rfl
@[simp] theorem ev_asgO (S f i δ) : asgO S f i δ = asgOK (f δ) S i δ := rfl
@[simp] theorem ev_newD (i tk δ) : newD i tk δ = .ok (.nx (δ.set i (some (.ownd tk [] [])))) := rfl
@[simp] theorem ev_frz0 (S k) : freeze S k [] = [] := rfl
@[simp] theorem ev_frz1 (S k s δ) : freeze S k (s :: δ) = (if S.contains k then frzS s else s) :: freeze S (k + 1) δ := rfl
@[simp] theorem frz_val (d) : frzS (some (.val d)) = some (.val d) := rfl
@[simp] theorem frz_own (d) : frzS (some (.own d)) = some (.val (.list d)) := rfl
@[simp] theorem frz_ownd (t ks vs) : frzS (some (.ownd t ks vs)) = some (.val (dcD t ks vs)) := rfl
@[simp] theorem frz_none : frzS none = none := rfl
theorem app_ok {i : Nat} {S : List Nat} {f : DSt → Res D} {δ : DSt} {xs : List D} {d : D} (h : δ[i]? = some (some (.own xs))) (hf : f δ = .ok d) (hd : flat d = true) (hl : xs.length < sizeLine) : appF i S f δ = .ok (.nx (δ.set i (some (.own (xs ++ [d]))))) := by
  unfold appF
  simp [h, hf, hd, hl]

theorem fn_rt {n : Nat} {b : DSt → Res Out} {ds : List D} {d : D} (h : b (startD n ds) = .ok (.rt d)) : fnD n b ds = .ok d := by
  unfold fnD
  rw [h]; rfl
theorem atI_nat (ds : List D) (k : Nat) : atI ds (k : Int) = ds[k]? := by
  unfold atI ixN
  by_cases h : k < ds.length
  · simp [h]
  · simp [h]
theorem ix_L {ds : List D} {k : Nat} {d : D} (h : ds[k]? = some d) : ixD (.list ds) (.int k) = .ok d := by
  show (match atI ds (k : Int) with | some d => Res.ok d | none => .bot) = _
  rw [atI_nat, h]
theorem ix_T {ds : List D} {k : Nat} {d : D} (h : ds[k]? = some d) : ixD (.tuple ds) (.int k) = .ok d := by
  show (match atI ds (k : Int) with | some d => Res.ok d | none => .bot) = _
  rw [atI_nat, h]
@[simp] theorem ix_T0 (a : D) (ds : List D) : ixD (.tuple (a :: ds)) (.int 0) = .ok a := ix_T (k := 0) rfl
@[simp] theorem ix_T1 (a b : D) (ds : List D) : ixD (.tuple (a :: b :: ds)) (.int 1) = .ok b := ix_T (k := 1) rfl
/-! ### ints -/
abbrev iL (c : List Int) : List D := c.map .int
abbrev tI (c : List Int) : D := .tuple (iL c)
@[simp] theorem lay_ints : ∀ c : List Int, PyData.canLayAll0 (iL c) = true
  | [] => rfl
  | _ :: c => by
    show (true && PyData.canLayAll0 (iL c)) = true
    rw [lay_ints c]; rfl
@[simp] theorem depth_ints : ∀ c : List Int, PyData.depthAll (iL c) = 0
  | [] => rfl
  | _ :: c => by
    show max 0 (PyData.depthAll (iL c)) = 0
    rw [depth_ints c]; rfl
@[simp] theorem nodc_ints : ∀ c : List Int, nodcAll (iL c) = true
  | [] => rfl
  | _ :: c => by
    show (true && nodcAll (iL c)) = true
    rw [nodc_ints c]; rfl
@[simp] theorem flat_ints : ∀ c : List Int, flatAll (iL c) = true
  | [] => rfl
  | _ :: c => by
    show (true && flatAll (iL c)) = true
    rw [flat_ints c]; rfl
@[simp] theorem allI_ints : ∀ c : List Int, allI (iL c) = true
  | [] => rfl
  | _ :: c => allI_ints c
theorem alike_ints : ∀ a b : List Int, PySem.W.alikeAll (iL a) (iL b) = true
  | [], _ => by simp [PySem.W.alikeAll]
  | _ :: _, [] => by simp [PySem.W.alikeAll]
  | x :: a, y :: b => by
    show (PySem.W.alike (.int x) (.int y) && PySem.W.alikeAll (iL a) (iL b)) = true
    rw [alike_ints a b]; rfl
theorem shaped_int (a : Int) : SeqAt.shaped (.int a) = true := rfl
theorem shaped_tI (c : List Int) : SeqAt.shaped (tI c) = true := by
  unfold SeqAt.shaped
  rw [show PyData.canLay0 (tI c) = PyData.canLayAll0 (iL c) by simp [PyData.canLay0], lay_ints, show (tI c).depth = PyData.depthAll (iL c) + 1 by simp [PyData.depth], depth_ints]
  rfl
theorem shaped_lI (c : List Int) : SeqAt.shaped (.list (iL c)) = true := by
  unfold SeqAt.shaped
  rw [show PyData.canLay0 (.list (iL c)) = PyData.canLayAll0 (iL c) by simp [PyData.canLay0], lay_ints, show (PyData.list (iL c)).depth = PyData.depthAll (iL c) + 1 by simp [PyData.depth], depth_ints]
  rfl
theorem any_ints (a : Int) (c : List Int) : (iL c).any (fun z => PyData.eqv z (.int a)) = decide (a ∈ c) := by
  rw [List.any_map]
  induction c with
  | nil => rfl
  | cons x c ih =>
    rw [List.any_cons, ih]
    show ((x == a) || _) = _
    by_cases h : x = a
    · subst h; simp
    · have : ¬ a = x := fun e => h e.symm
      simp [h, this]
@[simp] theorem ev_inT (a : Int) (c : List Int) : inD (.int a) (.tuple (iL c)) = .ok (.bool (decide (a ∈ c))) := by
  unfold inD
  simp only [shaped_int, shaped_tI c, Bool.and_self, if_true, any_ints]
@[simp] theorem ev_ninT (a : Int) (c : List Int) : ninD (.int a) (.tuple (iL c)) = .ok (.bool (!decide (a ∈ c))) := by
  unfold ninD
  simp only [shaped_int, shaped_tI c, Bool.and_self, if_true, any_ints]
@[simp] theorem ev_inL (a : Int) (c : List Int) : inD (.int a) (.list (iL c)) = .ok (.bool (decide (a ∈ c))) := by
  unfold inD
  simp only [shaped_int, shaped_lI c, Bool.and_self, if_true, any_ints]
/-! ### sorting -/
theorem sortOk_ints (c : List Int) : sortOk (iL c) = true := by
  unfold sortOk
  simp only [Bool.and_eq_true, Bool.or_eq_true, List.all_eq_true, List.mem_map]
  refine ⟨⟨⟨?_, .inr ?_⟩, ?_⟩, ?_⟩
  · rintro _ ⟨x, _, rfl⟩ _ ⟨y, _, rfl⟩
    rfl
  · rintro _ ⟨x, _, rfl⟩
    exact ⟨rfl, rfl⟩
  · rintro _ ⟨x, _, rfl⟩
    rfl
  · rintro _ ⟨x, _, rfl⟩
    rfl
theorem sortOk_tups (cs : List (List Int)) : sortOk (cs.map tI) = true := by
  unfold sortOk
  simp only [Bool.and_eq_true, Bool.or_eq_true, List.all_eq_true, List.mem_map]
  refine ⟨⟨⟨?_, .inl ?_⟩, ?_⟩, ?_⟩
  · rintro _ ⟨x, _, rfl⟩ _ ⟨y, _, rfl⟩
    show PySem.W.alike (.tuple _) (.tuple _) = true
    rw [show PySem.W.alike (.tuple (iL x)) (.tuple (iL y)) = PySem.W.alikeAll (iL x) (iL y) by simp [PySem.W.alike]]
    exact alike_ints x y
  · rintro _ ⟨x, _, rfl⟩
    rfl
  · rintro _ ⟨x, _, rfl⟩
    rw [show (tI x).depth = PyData.depthAll (iL x) + 1 by simp [PyData.depth], depth_ints]
    rfl
  · rintro _ ⟨x, _, rfl⟩
    show nodcAll (iL x) = true
    exact nodc_ints x
theorem sortL_map {α : Type} (enc : α → D) (l : List α) : ∃ l' : List α, l'.Perm l ∧ sortL (l.map enc) = l'.map enc := by
  obtain ⟨l', h1, h2⟩ := L2.perm_lift enc (m := sortL (l.map enc)) (List.mergeSort_perm _ _) l rfl
  exact ⟨l', h1, h2.symm⟩
theorem sorted_ints (c : List Int) : ∃ c' : List Int, c'.Perm c ∧ sortedD [.list (iL c)] = .ok (iL c') := by
  obtain ⟨c', h1, h2⟩ := sortL_map PyData.int c
  refine ⟨c', h1, ?_⟩
  show (if sortOk (iL c) then Res.ok (sortL (iL c)) else .bot) = _
  rw [sortOk_ints, if_pos rfl, h2]
/-! ### loops -/
abbrev Nx (r : Res Out) (P : DSt → Prop) : Prop := ∃ δ', r = .ok (.nx δ') ∧ P δ'
theorem for_inv {α : Type} (enc : α → D) {p : Pat} {body : DSt → Res Out} (I : List α → DSt → Prop) (l0 : List α)
    (h : ∀ done a rest δ, l0 = done ++ a :: rest → I done δ → Nx (nE (bindP p (enc a) δ) >>= body) (I (done ++ [a]))) : ∀ l done δ, l0 = done ++ l → I done δ → Nx (forGo p body (l.map enc) δ) (I l0)
  | [], done, δ, e, hI => by
    rw [List.append_nil] at e
    subst e
    exact ⟨δ, rfl, hI⟩
  | a :: l, done, δ, e, hI => by
    obtain ⟨δ', h1, h2⟩ := h done a l δ e hI
    obtain ⟨δ2, h3, h4⟩ := for_inv enc I l0 h l (done ++ [a]) δ' (by rw [List.append_assoc]; exact e) h2
    refine ⟨δ2, ?_, h4⟩
    rw [List.map_cons, forGo]
    cases q : bindP p (enc a) δ with
    | ok δ1 =>
      rw [q, ev_nE, ev_ok] at h1
      rw [ev_nE, ok_bind]
      rw [h1, ok_bind]
      exact h3
    | err x => rw [q] at h1; cases h1
    | bot => rw [q] at h1; cases h1
    | pick m k => rw [q] at h1; cases h1
theorem for_inv0 {α : Type} (enc : α → D) {p : Pat} {body : DSt → Res Out} (I : List α → DSt → Prop) {l : List α} {δ : DSt} (h0 : I [] δ)
    (h : ∀ done a rest δ, l = done ++ a :: rest → I done δ → Nx (nE (bindP p (enc a) δ) >>= body) (I (done ++ [a]))) : Nx (forGo p body (l.map enc) δ) (I l) :=
  for_inv enc I l h l [] δ rfl h0
theorem lcGo_ok {α : Type} (enc : α → D) (t : α → Bool) (g : α → D) {p : Pat} {δ : DSt} {ft : DSt → Res Bool} {fe : DSt → Res D} : ∀ l : List α, (∀ a ∈ l, ∃ δ1, nE (bindP p (enc a) δ) = .ok δ1 ∧ ft δ1 = .ok (t a) ∧ (t a = true → fe δ1 = .ok (g a))) → lcGo p δ ft fe (l.map enc) = .ok ((l.filter t).map g)
  | [], _ => rfl
  | a :: l, h => by
    obtain ⟨δ1, h1, h2, h3⟩ := h a List.mem_cons_self
    have ih := lcGo_ok enc t g l fun b hb => h b (List.mem_cons_of_mem _ hb)
    rw [List.map_cons, lcGo, h1, ok_bind, h2, ev_nE, ok_bind]
    cases q : t a with
    | true =>
      rw [if_pos rfl, h3 q, ev_nE, ok_bind, ih, ok_bind, List.filter_cons_of_pos q, List.map_cons]
    | false =>
      rw [if_neg Bool.false_ne_true, ih, List.filter_cons_of_neg (by rw [q]; exact Bool.false_ne_true)]
theorem lcF_ok {α : Type} (enc : α → D) (t : α → Bool) (g : α → D) {p : Pat} {vs : List Nat} {δ : DSt} {gs : DSt → Res (List D)} {ft : DSt → Res Bool} {fe : DSt → Res D} {l : List α} (hg : gs δ = .ok (l.map enc)) (hl : l.length ≤ sizeLine)
    (h : ∀ a ∈ l, ∃ δ1, nE (bindP p (enc a) (wipeD δ vs)) = .ok δ1 ∧ ft δ1 = .ok (t a) ∧ (t a = true → fe δ1 = .ok (g a))) : lcF gs p vs ft fe δ = .ok ((l.filter t).map g) := by
  unfold lcF
  rw [hg, ok_bind, lcGo_ok enc t g l h, ok_bind]
  exact lstD_ok (by rw [List.length_map]; exact Nat.le_trans (List.length_filter_le _ _) hl)
theorem filter_tt {α : Type} (l : List α) : l.filter (fun _ => true) = l := by induction l <;> simp_all
theorem lcF_all {α : Type} (enc : α → D) (g : α → D) {p : Pat} {vs : List Nat} {δ : DSt} {gs : DSt → Res (List D)} {fe : DSt → Res D} {l : List α} (hg : gs δ = .ok (l.map enc)) (hl : l.length ≤ sizeLine)
    (h : ∀ a ∈ l, ∃ δ1, nE (bindP p (enc a) (wipeD δ vs)) = .ok δ1 ∧ fe δ1 = .ok (g a)) : lcF gs p vs tY fe δ = .ok (l.map g) := by
  have := lcF_ok enc (fun _ => true) g hg hl (ft := tY) fun a ha => by
    obtain ⟨δ1, h1, h2⟩ := h a ha
    exact ⟨δ1, h1, rfl, fun _ => h2⟩
  rwa [filter_tt] at this
@[simp] theorem ev_wipe0 (δ) : wipeD δ [] = δ := rfl
@[simp] theorem ev_wipe1 (δ v vs) : wipeD δ (v :: vs) = (wipeD δ vs).set v none := rfl
theorem allBl_map : ∀ bs : List Bool, allBl (bs.map PyData.bool) = some bs
  | [] => rfl
  | b :: bs => by rw [List.map_cons, allBl, allBl_map bs]; rfl
theorem ev_all (bs : List Bool) : allD [.list (bs.map PyData.bool)] = .ok (.bool (bs.all _root_.id)) := by
  show (match allBl (bs.map PyData.bool) with | some bs => Res.ok (PyData.bool (bs.all _root_.id)) | none => .bot) = _
  rw [allBl_map]
theorem ev_any (bs : List Bool) : anyD [.list (bs.map PyData.bool)] = .ok (.bool (bs.any _root_.id)) := by
  show (match allBl (bs.map PyData.bool) with | some bs => Res.ok (PyData.bool (bs.any _root_.id)) | none => .bot) = _
  rw [allBl_map]
theorem all_map {α : Type} (f : α → Bool) (l : List α) : allD [.list (l.map fun a => PyData.bool (f a))] = .ok (.bool (l.all f)) := by
  have := ev_all (l.map f)
  rw [List.map_map, List.all_map] at this
  exact this
theorem any_map {α : Type} (f : α → Bool) (l : List α) : anyD [.list (l.map fun a => PyData.bool (f a))] = .ok (.bool (l.any f)) := by
  have := ev_any (l.map f)
  rw [List.map_map, List.any_map] at this
  exact this
theorem mem_rng {lo hi : Int} {a : Int} (h : a ∈ (List.range (hi - lo).toNat).map fun (k : Nat) => lo + (k : Int)) : lo ≤ a ∧ a < hi := by
  obtain ⟨k, hk, rfl⟩ := List.mem_map.mp h
  have := List.mem_range.mp hk
  omega
theorem rng_len {lo hi : Int} : ((List.range (hi - lo).toNat).map fun (k : Nat) => lo + (k : Int)).length = (hi - lo).toNat := by rw [List.length_map, List.length_range]
/-- a loop over a range -/
theorem rng_inv {p : Pat} {body : DSt → Res Out} (I : Nat → DSt → Prop) {lo hi : Int} {δ : DSt} (hlh : lo ≤ hi) (h0 : I 0 δ)
    (h : ∀ (k : Nat) δ, lo + k < hi → I k δ → Nx (nE (bindP p (.int (lo + k)) δ) >>= body) (I (k + 1))) : Nx (forGo p body (rngL lo hi) δ) (I (hi - lo).toNat) := by
  unfold rngL
  have := for_inv0 (p := p) (body := body) (δ := δ) (l := List.range (hi - lo).toNat) (fun (k : Nat) => PyData.int (lo + (k : Int))) (fun done δ => I done.length δ) h0 (by
    intro done a rest δ e hI
    have ha : a = done.length := by
      have h1 : (List.range (hi - lo).toNat)[done.length]? = some a := by rw [e]; simp
      obtain ⟨_, h2⟩ := List.getElem?_eq_some_iff.mp h1
      rw [List.getElem_range] at h2
      exact h2.symm
    have hlt : done.length < (hi - lo).toNat := by
      have h1 : (List.range (hi - lo).toNat).length = (done ++ a :: rest).length := by rw [e]
      rw [List.length_range, List.length_append, List.length_cons] at h1
      omega
    subst ha
    obtain ⟨δ', h1, h2⟩ := h done.length δ (by omega) hI
    exact ⟨δ', h1, by rw [List.length_append]; exact h2⟩)
  rwa [List.length_range] at this
@[simp] theorem ev_forR (g p b δ) : forR g p b δ = (g δ >>= fun xs => forGo p b xs δ) := rfl
@[simp] theorem ev_forF (S g p b δ) : forF S g p b δ = (g δ >>= fun xs => forGo p b xs (freeze S 0 δ)) := rfl
theorem rngL_map (lo hi : Int) : rngL lo hi = ((List.range (hi - lo).toNat).map fun (k : Nat) => lo + (k : Int)).map PyData.int := by
  unfold rngL
  rw [List.map_map]
  rfl
theorem rng1_ok {j : Int} (h : -(2 ^ 62) ≤ j ∧ j < 2 ^ 62) : rng1D [.int j] = .ok (rngL 0 j) := by
  show (if in62 j = true then _ else _) = _
  rw [if_pos (show in62 j = true from decide_eq_true h)]
theorem rng2_ok {i j : Int} (h : -(2 ^ 62) ≤ i ∧ i < 2 ^ 62) (h' : -(2 ^ 62) ≤ j ∧ j < 2 ^ 62) : rng2D [.int i, .int j] = .ok (rngL i j) := by
  show (if (in62 i && in62 j) = true then _ else _) = _
  rw [show in62 i = true from decide_eq_true h, show in62 j = true from decide_eq_true h']
  rfl
/-! ### dicts -/
theorem put_tups (cs : List (List Int)) (c : List Int) : ∃ cs' : List (List Int), putKs (cs.map tI) (tI c) = cs'.map tI ∧ (cs' = cs ∨ cs' = cs ++ [c]) := by
  unfold putKs
  by_cases h : hasK (cs.map tI) (tI c) = true
  · exact ⟨cs, by rw [if_pos h], .inl rfl⟩
  · exact ⟨cs ++ [c], by rw [if_neg h, List.map_append]; rfl, .inr rfl⟩
theorem sortedA_tups (cs : List (List Int)) (vs : List D) (h : ∀ c ∈ cs, c.length ≤ sizeLine) (hl : cs.length ≤ sizeLine) : ∃ cs' : List (List Int), cs'.Perm cs ∧ sortedA [dcD true (cs.map tI) vs] = .ok (cs'.map tI) := by
  obtain ⟨cs', h1, h2⟩ := sortL_map tI cs
  refine ⟨cs', h1, ?_⟩
  show (if (sortOk (cs.map tI) && (cs.map tI).all (fun k => match k with | .tuple xs => decide (xs.length ≤ sizeLine) | _ => true) && decide ((cs.map tI).length ≤ sizeLine)) = true then Res.ok (sortL (cs.map tI)) else .bot) = _
  rw [if_pos, h2]
  rw [Bool.and_eq_true, Bool.and_eq_true]
  refine ⟨⟨sortOk_tups cs, List.all_eq_true.mpr fun k hk => ?_⟩, decide_eq_true (by rw [List.length_map]; exact hl)⟩
  obtain ⟨c, hc, rfl⟩ := List.mem_map.mp hk
  exact decide_eq_true (by rw [List.length_map]; exact h c hc)
end DL

set_option Elab.async false
set_option linter.all false
set_option maxRecDepth 100000
set_option maxHeartbeats 4000000
namespace DL
open PySem PySem.Spec L2
open PyProof.Rows hiding St

/-! ### tuples of whole numbers in order -/
theorem dataLt_tI (a b : List Int) : PySem.W.dataLt (tI a) (tI b) = decide (a < b) := by
  rw [PySem.W.dataLt_tuple]
  exact PySem.W.dataLt_ints a b
theorem dataLe_tI (a b : List Int) : PySem.W.dataLe false _root_.id (tI a) (tI b) = decide (a ≤ b) := by
  show (!PySem.W.dataLt (tI b) (tI a)) = _
  rw [dataLt_tI]
  by_cases h : b < a
  · have : ¬ a ≤ b := fun q => absurd h (List.not_lt.mpr q)
    simp [h, this]
  · have : a ≤ b := List.not_lt.mp h
    simp [h, this]
theorem sortL_tups (cs : List (List Int)) : sortL (cs.map tI) = (cs.mergeSort fun a b => decide (a ≤ b)).map tI := by
  unfold sortL
  rw [List.map_mergeSort]
  intro a _ b _
  exact (dataLe_tI a b).symm
theorem sortT_perm {a b : List (List Int)} (h : a.Perm b) : (a.mergeSort fun x y => decide (x ≤ y)) = b.mergeSort fun x y => decide (x ≤ y) := by
  have tr : ∀ x y z : List Int, decide (x ≤ y) = true → decide (y ≤ z) = true → decide (x ≤ z) = true := fun x y z h1 h2 => decide_eq_true (List.le_trans (of_decide_eq_true h1) (of_decide_eq_true h2))
  have tt : ∀ x y : List Int, (decide (x ≤ y) || decide (y ≤ x)) = true := fun x y => by
    rcases List.le_total x y with q | q
    · simp [q]
    · simp [q]
  exact List.Perm.eq_of_pairwise (fun x y _ _ h1 h2 => List.le_antisymm (of_decide_eq_true h1) (of_decide_eq_true h2)) (List.pairwise_mergeSort tr tt a) (List.pairwise_mergeSort tr tt b) ((List.mergeSort_perm a _).trans (h.trans (List.mergeSort_perm b _).symm))
/-- once each -/
def ddup {α : Type} [DecidableEq α] : List α → List α
  | [] => []
  | x :: l => if x ∈ l then ddup l else x :: ddup l
theorem ddup_mem {α : Type} [DecidableEq α] {y : α} : ∀ l : List α, y ∈ ddup l ↔ y ∈ l
  | [] => Iff.rfl
  | x :: l => by
    unfold ddup
    split
    · rename_i h
      rw [ddup_mem l, List.mem_cons]
      exact ⟨.inr, fun z => z.elim (fun e => e ▸ h) _root_.id⟩
    · rw [List.mem_cons, List.mem_cons, ddup_mem l]
theorem ddup_nodup {α : Type} [DecidableEq α] : ∀ l : List α, (ddup l).Nodup
  | [] => List.nodup_nil
  | x :: l => by
    unfold ddup
    split
    · exact ddup_nodup l
    · rename_i h
      exact List.nodup_cons.mpr ⟨fun z => h ((ddup_mem l).mp z), ddup_nodup l⟩
/-- sorted(set(cs)) -/
def sortU (cs : List (List Int)) : List (List Int) := (ddup cs).mergeSort fun a b => decide (a ≤ b)
theorem sortU_of {cs ms : List (List Int)} (hn : ms.Nodup) (h : ∀ c, c ∈ ms ↔ c ∈ cs) : sortL (ms.map tI) = (sortU cs).map tI := by
  rw [sortL_tups]
  unfold sortU
  rw [sortT_perm ((List.perm_ext_iff_of_nodup hn (ddup_nodup cs)).mpr fun c => by rw [h, ddup_mem])]
section
variable {X : Cx} {W : WS} {U : XK} {S T : List Nat} {e a b c : Expr} {es : List Expr} {pos p : Pos} {te ta tb : TE} {t : TA}
/-- list.sort of the items collected, behind a call that may draw -/
theorem sort_new2 {pins : List (Addr × Obj)} {σ : L2.St} {H : Hp} {s s1 : Shared} {E : Value → Shared → Prop} (I : Inv X pins σ H s) (kp : ∀ b o, s.heap.get? b = some o → s1.heap.get? b = some o) (gz : s1.gens = s.gens) (oz : s1.os = s.os) (hsz : s.heap.objs.size ≤ s1.heap.objs.size) {xs : List V} {its : List Value} {ds : List PyData} (rv : Vals xs its) (hd : DpAll X.K H xs ds) (hk : sortOk ds = true) (hz : xs.length ≤ sizeLine) (hu : X.A.units + 130 < cLine) {Q : VK}
    (q : ∀ l, H l = none → Q (.ref l) (upd H l (.lst (((xs.zip ds).mergeSort (PySem.W.dataLe false (·.2))).map (·.1))))) :
    wpAny (model X.prog X.w) X.A.in1 (call (.builtin "list.sort") [.ref s1.heap.objs.size]) (fun _ s' => EP X pins σ Q (.ref s1.heap.objs.size) s') E { s1 with heap := s1.heap.push (seqObj "list" its.toArray 0) } := by
  have hlen : xs.length = ds.length := dp_len hd
  have er := each_reads I rv hd
  have e := each_zip (R := RelV) rv hlen
  have hal : PySem.W.AllAlike ((xs.zip ds).map (·.2)) := by
    rw [show (xs.zip ds).map (·.2) = ds by rw [List.map_snd_zip]; omega]
    unfold sortOk at hk
    rw [Bool.and_eq_true, Bool.and_eq_true, Bool.and_eq_true, List.all_eq_true] at hk
    exact fun d hd d' hd' => List.all_eq_true.mp (hk.1.1.1 d hd) d' hd'
  have hsnd : (xs.zip ds).map (·.2) = ds := by rw [List.map_snd_zip]; omega
  have ho : (s1.heap.push (seqObj "list" its.toArray 0)).get? s1.heap.objs.size = some (seqObj "list" its.toArray 0) := Heap.get?_push_size _ rfl
  have k2 : ∀ b o, s.heap.get? b = some o → (s1.heap.push (seqObj "list" its.toArray 0)).get? b = some o := fun b o z => Heap.get?_push_of_some _ (kp b o z)
  have lt : ∀ b o, s.heap.get? b = some o → b ≠ s1.heap.objs.size := fun b o z => Nat.ne_of_lt (Heap.lt_size (kp b o z))
  have k3 : ∀ b o, s.heap.get? b = some o → (PySem.W.sortingHeap (s1.heap.push (seqObj "list" its.toArray 0)) s1.heap.objs.size its).get? b = some o := fun b o z => PySem.W.sortingHeap_old (lt b o z) (k2 b o z)
  have er' : PySem.W.EachIs (fun v (b : V × PyData) => ∃ as, Reads (PySem.W.sortingHeap (s1.heap.push (seqObj "list" its.toArray 0)) s1.heap.objs.size its) v b.2 as) its (xs.zip ds) := er.mono fun _ _ ⟨as, r⟩ => ⟨as, PyProof.Rows.Reads.keeps k3 r⟩
  have SS : PySem.W.SortsAt X.prog X.w X.A.in1.in1 { s1 with heap := PySem.W.sortingHeap (s1.heap.push (seqObj "list" its.toArray 0)) s1.heap.objs.size its } (PySem.W.dataKind (PySem.W.sortingHeap (s1.heap.push (seqObj "list" its.toArray 0)) s1.heap.objs.size its) ((xs.zip ds).map (·.2))) its :=
    sorts_any (s := { s1 with heap := PySem.W.sortingHeap (s1.heap.push (seqObj "list" its.toArray 0)) s1.heap.objs.size its }) (PySem.W.each_map (R := fun v d => ∃ as, Reads (PySem.W.sortingHeap (s1.heap.push (seqObj "list" its.toArray 0)) s1.heap.objs.size its) v d as) (fun b : V × PyData => b.2) er') (by rw [hsnd]; exact hk) (by show X.A.units + 1 + 1 + 64 < _; omega)
  refine wpAny_call_entry_kw slot_list_sort ⟨_, ho, rfl⟩ entry_list_sort ?_ (args_list_sort _)
  refine PySem.W.list_sort_vals (s := { s1 with heap := s1.heap.push (seqObj "list" its.toArray 0) }) ho SS (by rw [← rv.length]; exact hz) ?_
  have hs := PySem.W.sortVals_data (h' := PySem.W.sortingHeap (s1.heap.push (seqObj "list" its.toArray 0)) s1.heap.objs.size its) false e er' hal
  have hv := vals_of_each hs
  obtain ⟨ep, he'⟩ := PyProof.Rows.sortedHeap_at (vs := its) (out := List.toArray (PySem.W.sortVals (PySem.W.dataKind (PySem.W.sortingHeap (s1.heap.push (seqObj "list" its.toArray 0)) s1.heap.objs.size its) ((xs.zip ds).map (·.2))) false its its)) ho
  have hlen2 : (((xs.zip ds).mergeSort (PySem.W.dataLe false (·.2))).map (·.1)).length ≤ sizeLine := by
    rw [List.length_map, List.length_mergeSort, List.length_zip, ← hlen, Nat.min_self]
    exact hz
  have hn : H s1.heap.objs.size = none := I.hok.fresh hsz
  have kk : ∀ b o, s.heap.get? b = some o → (PyProof.Rows.sortedHeap (s1.heap.push (seqObj "list" its.toArray 0)) s1.heap.objs.size its (List.toArray (PySem.W.sortVals (PySem.W.dataKind (PySem.W.sortingHeap (s1.heap.push (seqObj "list" its.toArray 0)) s1.heap.objs.size its) ((xs.zip ds).map (·.2))) false its its))).get? b = some o := fun b o z => (PyProof.Rows.sortedHeap_old (lt b o z) (Heap.lt_size (k2 b o z))).trans (k2 b o z)
  have hob : ObjOk X.prog X.w (upd H s1.heap.objs.size (.lst (((xs.zip ds).mergeSort (PySem.W.dataLe false (·.2))).map (·.1)))) (PyProof.Rows.sortedHeap (s1.heap.push (seqObj "list" its.toArray 0)) s1.heap.objs.size its (List.toArray (PySem.W.sortVals (PySem.W.dataKind (PySem.W.sortingHeap (s1.heap.push (seqObj "list" its.toArray 0)) s1.heap.objs.size its) ((xs.zip ds).map (·.2))) false its its))) s1.heap.objs.size (.lst (((xs.zip ds).mergeSort (PySem.W.dataLe false (·.2))).map (·.1))) := ⟨hlen2, _, ep, hv, he'⟩
  exact ⟨_, rfl, .ref _, upd H s1.heap.objs.size (.lst _), I.call' (ch := []) oz (Un.laid kk hsz hn) (I.hok.laid kk hsz hob) (by show AllBare s1.gens; rw [gz]; exact I.bare) (fun _ z => nomatch z), rfl, q _ hn⟩
end
end DL

set_option Elab.async false
set_option linter.all false
set_option maxRecDepth 100000
set_option maxHeartbeats 4000000
namespace DL
open PySem PySem.Spec L2
open PyProof.Rows hiding St
/-! ### sorted(set(xs)), xs a list of tuples of whole numbers -/
def tupO : PyData → Option (List Int)
  | .tuple ds => ds.foldr (fun d r => match d, r with | .int i, some l => some (i :: l) | _, _ => none) (some [])
  | _ => none
theorem foldr_ints : ∀ (ds : List PyData) (c : List Int), ds.foldr (fun d r => match d, r with | .int i, some l => some (i :: l) | _, _ => none) (some []) = some c → ds = iL c
  | [], c, h => by cases h; rfl
  | d :: ds, c, h => by
    rw [List.foldr_cons] at h
    split at h
    · rename_i i l hl
      cases h
      rw [foldr_ints ds l hl]
      rfl
    · cases h
theorem tupO_some {d : PyData} {c : List Int} (h : tupO d = some c) : d = tI c := by
  cases d with
  | tuple ds => rw [foldr_ints ds c h]
  | _ => cases h
theorem foldr_iL : ∀ c : List Int, (iL c).foldr (fun d r => match d, r with | .int i, some l => some (i :: l) | _, _ => none) (some []) = some c
  | [] => rfl
  | i :: c => by
    show (match PyData.int i, (iL c).foldr (fun d r => match d, r with | .int i, some l => some (i :: l) | _, _ => none) (some []) with | .int i, some l => some (i :: l) | _, _ => none) = _
    rw [foldr_iL c]
theorem tupO_tI (c : List Int) : tupO (tI c) = some c := foldr_iL c
def tupsO : List PyData → Option (List (List Int))
  | [] => some []
  | d :: ds => match tupO d, tupsO ds with | some c, some cs => some (c :: cs) | _, _ => none
theorem tupsO_some : ∀ {ds : List PyData} {cs : List (List Int)}, tupsO ds = some cs → ds = cs.map tI
  | [], cs, h => by cases h; rfl
  | d :: ds, cs, h => by
    unfold tupsO at h
    split at h
    · rename_i c cs' h1 h2
      cases h
      rw [tupO_some h1, tupsO_some h2]
      rfl
    · cases h
theorem tupsO_map : ∀ cs : List (List Int), tupsO (cs.map tI) = some cs
  | [] => rfl
  | c :: cs => by
    rw [List.map_cons, tupsO, tupO_tI, tupsO_map cs]
theorem rep_tI {K : PySem.W.Frag} {Fz : FZ} {H : Hp} {v : V} {c : List Int} (r : Rep K Fz H v (tI c)) : ∃ b, v = .ref b ∧ SqT K H b (c.map V.int) := by
  cases r with
  | tup h z rr =>
    refine ⟨_, rfl, ?_⟩
    have e : ∀ {vs : List V} {c : List Int}, RepAll K Fz H vs (iL c) → vs = c.map V.int := by
      intro vs c
      induction c generalizing vs with
      | nil => intro r; cases r; rfl
      | cons i c ih =>
        intro r
        cases r with
        | cons h r =>
          cases h
          rw [ih r]
          rfl
    rw [← e rr]
    exact h.sq
theorem rep_tups {K : PySem.W.Frag} {Fz : FZ} {H : Hp} : ∀ {vs : List V} {cs : List (List Int)}, RepAll K Fz H vs (cs.map tI) → ∃ ks : List (Addr × List Int), vs = ks.map (fun p => V.ref p.1) ∧ ks.map (·.2) = cs ∧ ∀ p ∈ ks, SqT K H p.1 (p.2.map V.int) ∧ Rep K Fz H (.ref p.1) (tI p.2)
  | _, [], .nil => ⟨[], rfl, rfl, by simp⟩
  | _, c :: cs, .cons h r => by
    obtain ⟨ks, h1, h2, h3⟩ := rep_tups r
    obtain ⟨b, rfl, hb⟩ := rep_tI h
    refine ⟨(b, c) :: ks, by rw [h1]; rfl, by rw [List.map_cons, h2], fun p hp => ?_⟩
    rcases List.mem_cons.mp hp with rfl | hp
    · exact ⟨hb, h⟩
    · exact h3 p hp
theorem dp_row {K : PySem.W.Frag} {H : Hp} : ∀ c : List Int, DpAll K H (c.map V.int) (iL c)
  | [] => .nil
  | i :: c => .cons (.int i) (dp_row c)
theorem dp_rows {K : PySem.W.Frag} {H : Hp} : ∀ {L : List (Addr × List Int)}, (∀ p ∈ L, SqT K H p.1 (p.2.map V.int)) → DpAll K H (L.map fun p => V.ref p.1) (L.map fun p => tI p.2)
  | [], _ => .nil
  | p :: L, h => .cons (.tup (h p List.mem_cons_self) (dp_row p.2)) (dp_rows fun q hq => h q (List.mem_cons_of_mem _ hq))
def rSortS (K : PySem.W.Frag) (P : Program) (w : World) : List V → Hp → VK → Prop := fun vs H Q => ∃ (a : Addr) (L : List (Addr × List Int)), vs = [V.ref a] ∧ H a = some (SetTO P w a L) ∧ (∀ p ∈ L, SqT K H p.1 (p.2.map V.int)) ∧
  ∀ L1 : List (Addr × List Int), L1.Perm L → (L1.map (·.2)).Nodup → ∀ l, H l = none → Q (.ref l) (upd H l (.lst ((((L1.map fun p => V.ref p.1).zip (L1.map fun p => tI p.2)).mergeSort (PySem.W.dataLe false (·.2))).map (·.1))))
section
variable {X : Cx} {W : WS} {U : XK} {S T : List Nat} {e a b c : Expr} {es : List Expr} {pos p p2 pos2 : Pos} {te ta tb : TE} {t : TA}
theorem cr_sortedS (hu : X.A.units + 130 < cLine) (hc : X.calm = true) : CallR X (.builtin "sorted") (rSortS X.K X.prog X.w) := by
  intro pins s σ H vs us Q I r h
  obtain ⟨a, L, rfl, ha, hk, q⟩ := h
  have R0 : SetT0 X.prog X.w s.heap a L := (I.hok a _ ha).1
  obtain ⟨es, ep, t, R⟩ := R0.full fun p hp => I.isT (hk p hp)
  rw [Vals.ref1 r]
  obtain ⟨o, ho, hex, hd⟩ := R.ob
  have h1 := R.size
  have h2 := R.few
  refine PySem.Calls.call_function_entry kind_sorted plain_sorted entry_sorted (args_sorted1 _) ?_
  unfold Builtin.«sorted»
  refine wpAny_bind (m := checkCount "sorted" 1 1 _) (wpAny_pure ?_)
  refine wpAny_bind (collect_set (A := X.A.in1) (I.ok.hd hc) ⟨o, ho, hex.1, hd⟩ R.fits (by unfold scanBound; omega) R.tab.ris R.led fun s1 out k1 hz g1 o1 pm => ?_)
  have hrows : es.toList.map (·.2) = L.map fun q => Value.ref q.1 := by
    rw [R.rows]
    unfold rowsOf
    rw [List.map_map]
    rfl
  rw [hrows] at pm
  obtain ⟨L1, p1, e1⟩ := L2.perm_lift (fun q : Addr × List Int => Value.ref q.1) pm L rfl
  subst e1
  have hl : L1.length < 64 := by rw [p1.length_eq]; exact h2
  have h1000 : (64 : Nat) ≤ sizeLine := by rw [sizeLine_eq]; decide
  refine wpAny_bind (wpAny_newList ?_ (by rw [List.length_map]; omega))
  exact wpAny_bind (wpAny_holding (wpAny_mono (sort_new2 (E := X.xe) I k1 g1 o1 hz (vals_of_refs L1) (dp_rows fun p hp => hk p (p1.mem_iff.mp hp)) (by have := sortOk_tups (L1.map (·.2)); rwa [List.map_map] at this) (by rw [List.length_map]; omega) hu (q L1 p1 ((p1.map (·.2)).nodup_iff.mpr R.nd))) (fun _ _ x => wpAny_pure ⟨_, rfl, x⟩) fun _ _ e => e))
def sortSetD (d : PyData) : Res (List PyData) := match d with
  | .list ds => (match tupsO ds with | some cs => if cs.length < 64 then .ok ((sortU cs).map tI) else .bot | none => .bot)
  | _ => .bot
theorem sortSet_tups {cs : List (List Int)} (h : cs.length < 64) : sortSetD (.list (cs.map tI)) = .ok ((sortU cs).map tI) := by
  unfold sortSetD
  dsimp only
  rw [tupsO_map]
  exact if_pos h
theorem sortSetD_ne (d : PyData) (z : Exn) : (sortSetD d).quiet := by
  unfold sortSetD
  split
  · split
    · split <;> exact True.intro
    · exact True.intro
  · exact True.intro
theorem df_sortedset (K) (P : Program) (w : World) {f : DSt → Res PyData} (hu : X.A.units + 130 < cLine) (hc : X.calm = true) (hg : Gl X "sorted") (hm : X.mg "sorted" = none) (hg2 : Gl X "set") (hm2 : X.mg "set" = none) (ha : DE X W S e te f) (hK : X.K = K := by rfl) (hP : X.prog = P := by rfl) (hw : X.w = w := by rfl)
    (he : starEach [e] X.env = (false, eval e X.env) :: starEach [] X.env := by rfl) (he2 : starEach [.Call (.Name "set" p2) [e] [] pos2] X.env = (false, eval (.Call (.Name "set" p2) [e] [] pos2) X.env) :: starEach [] X.env := by rfl) :
    DF X W S (.Call (.Name "sorted" p) [.Call (.Name "set" p2) [e] [] pos2] [] pos) (tCB (rSortS K P w) (tCons (tCB (rSetOfT K P w) (tCons te tNil)) tNil)) (u1LE sortSetD f) := by
  subst hK hP hw
  refine ⟨pe_callB (cr_sortedS hu hc) hg hm (by decide +kernel) (pa_cons (pe_callTy (cr_setOfT hc (by omega)) hg2 hm2 (by decide +kernel) (pa_cons ha.pe pa_nil he) (by decide) (by decide) he rfl) pa_nil he2) (by decide) (by decide) he2 rfl, fun Fz σ H δ Q hd hl h => ?_⟩
  unfold LOK u1LE at h
  rw [wp_bind] at h
  show te σ H fun x H1 => (rSetOfT X.K X.prog X.w) [x] H1 fun y H2 => (rSortS X.K X.prog X.w) [y] H2 Q
  refine ha.ok Fz σ H δ _ hd hl (wp_mono h (fun d hx v H1 F1 g1 r1 => ?_) fun x hx => hx)
  unfold sortSetD at hx
  split at hx
  · rename_i ds
    split at hx
    · rename_i cs hcs
      split at hx
      · rename_i h64
        rw [tupsO_some hcs] at r1
        cases r1 with
        | lst hh z rr =>
          obtain ⟨ks, e1, e2, e3⟩ := rep_tups rr
          subst e1
          refine ⟨_, ks, rfl, hh.sq, fun p hp => (e3 p hp).1, by rw [← List.length_map (f := fun q : Addr × List Int => q.2), e2]; exact h64, fun a L na l1 l2 => ?_⟩
          have gg : Grow F1 H1 F1 (upd H1 a (SetTO X.prog X.w a L)) := .nw na
          have lv : Live F1 (upd H1 a (SetTO X.prog X.w a L)) := gg.live (g1.live hl)
          refine ⟨a, L, rfl, upd_same, fun p hp => SqT.stay (Fz := F1) (.of_same gg.same) (e3 p (l1 p hp)).1, fun L1 pm nd l nl => ?_⟩
          have rall : RepAll X.K F1 (upd H1 a (SetTO X.prog X.w a L)) (L1.map fun p => V.ref p.1) (L1.map fun p => tI p.2) := by
            have key : ∀ M : List (Addr × List Int), (∀ p ∈ M, p ∈ ks) → RepAll X.K F1 (upd H1 a (SetTO X.prog X.w a L)) (M.map fun p => V.ref p.1) (M.map fun p => tI p.2) := by
              intro M
              induction M with
              | nil => exact fun _ => .nil
              | cons p M ih => exact fun h => .cons ((e3 p (h p List.mem_cons_self)).2.grow gg) (ih fun q hq => h q (List.mem_cons_of_mem _ hq))
            exact key L1 fun p hp => l1 p (pm.mem_iff.mp hp)
          have hlen : ((sortU cs).map tI).length ≤ sizeLine := by
            have h1000 : (64 : Nat) ≤ sizeLine := by rw [sizeLine_eq]; decide
            rw [List.length_map]
            unfold sortU
            rw [List.length_mergeSort]
            have : ∀ l : List (List Int), (ddup l).length ≤ l.length := by
              intro l
              induction l with
              | nil => exact Nat.le_refl _
              | cons x l ih =>
                unfold ddup
                split
                · rw [List.length_cons]; omega
                · rw [List.length_cons, List.length_cons]; omega
            have := this cs
            omega
          have hs : sortL (L1.map fun p => tI p.2) = (sortU cs).map tI := by
            have := sortU_of (cs := cs) nd fun c => by
              rw [← e2]
              constructor
              · intro h
                obtain ⟨p, hp, rfl⟩ := List.mem_map.mp h
                exact List.mem_map_of_mem (l1 p (pm.mem_iff.mp hp))
              · intro h
                obtain ⟨p, hp, rfl⟩ := List.mem_map.mp h
                exact (pm.map (·.2)).mem_iff.mpr (l2 p hp)
            rwa [List.map_map] at this
          refine hx l _ _ F1 ((g1.trans gg).trans (.nw nl)) (none_of_same (g1.trans gg).same nl) (notFz (H' := upd H1 a (SetTO X.prog X.w a L)) .refl lv nl) upd_same hlen (RepAll.grow (.nw nl) ?_)
          have hh2 := rep_of_zip (ps := ((L1.map fun p => V.ref p.1).zip (L1.map fun p => tI p.2)).mergeSort (PySem.W.dataLe false (fun p : V × PyData => p.2))) (fun p hp => zip_rep rall p ((List.mergeSort_perm _ _).mem_iff.mp hp))
          rw [mergeSort_snd, zip_snd rall, hs] at hh2
          exact hh2
      · exact hx.elim
    · exact hx.elim
  · exact hx.elim
end
end DL

set_option Elab.async false
set_option linter.all false
set_option maxRecDepth 100000
set_option maxHeartbeats 4000000
namespace DL
open PySem PySem.Spec L2
open PyProof.Rows hiding St
/-! ### xs[i] = e of a list of one's own -/
section
variable {X : Cx} {W : WS} {U : XK} {S T : List Nat} {e a b c : Expr} {es : List Expr} {pos p : Pos} {te ta tb : TE} {t : TA}
def lsetF (i : Nat) (S : List Nat) (fv : DSt → Res PyData) (fk : DSt → Res PyData) (δ : DSt) : Res Out :=
  match δ[i]? with
  | some (some (.own _)) => do
    let v ← fv δ
    let δ1 := if flat v then δ else freeze S 0 δ
    let k ← fk δ1
    match k, δ1[i]? with
    | .int j, some (some (.own xs)) => (match ixN xs.length j with | some j => .ok (.nx (δ1.set i (some (.own (xs.set j v))))) | none => .bot)
    | _, _ => .bot
  | _ => .bot
theorem RepAll.set {K : PySem.W.Frag} {Fz : FZ} {H : Hp} {v : V} {d : PyData} (r : Rep K Fz H v d) : ∀ {vs : List V} {ds : List PyData} (j : Nat), RepAll K Fz H vs ds → RepAll K Fz H (vs.set j v) (ds.set j d)
  | _, _, _, .nil => .nil
  | _, _, 0, .cons h t => .cons r t
  | _, _, j + 1, .cons h t => .cons h (RepAll.set r j t)
theorem ds_lset {i : Nat} {x : Str} {key value : Expr} {xpos pos' : Pos} {tk tv : TE} {fk fv : DSt → Res PyData} (hN : X.N[i]? = some x) (hv : Vis X.env.scope x) (he : DE X W S value tv fv) (hk : DE X W T key tk fk)
    (hs : swapsWithSole [.Subscript (.Name x xpos) key pos'] value pos.line X.env = pure false := by rfl) (hw : swappedStores [.Subscript (.Name x xpos) key pos'] value X.env = pure none := by rfl) (h1 : (assignEach [.Subscript (.Name x xpos) key pos'] X.env).map (·.2) = [assign (.Subscript (.Name x xpos) key pos') X.env] := by rfl)
    (ha : ∀ v, assign (.Subscript (.Name x xpos) key pos') X.env v = (do
      let ov ← holding [v] (eval (.Name x xpos) X.env)
      let iv ← holding [v, ov] (eval key X.env)
      standAt pos'
      holding [v, ov, iv] (setItem ov iv v)
      release [v, ov, iv] []) := by intro _; rfl) (hd : (x == ("__debug__" : Str)) = false := by decide) (hcd : (x == ("__classdict__" : Str)) = false := by decide) :
    DS X W (.Assign [.Subscript (.Name x xpos) key pos'] value pos) (tAsg tv (gSub (tVar i) tk rSetL)) (lsetF i S fv fk) := by
  refine ⟨ps_asg he.pe (pg_sub (pe_var (i := i) hN hv hd hcd) hk.pe set_list ha) hs hw h1, fun H0 Fz0 Fz H σ δ Dn r h => ?_⟩
  unfold SOK lsetF at h
  split at h
  · rename_i xs0 e1
    obtain ⟨a, e2, _⟩ := r.own i _ e1 rfl
    rw [wp_bind] at h
    refine atE he r (wp_mono h (fun v hv v' H1 F1 g1 r1 => ?_) fun x hx => hx)
    have fin : ∀ (F : FZ) (δ' : DSt), Rel X.K H0 Fz0 F H1 σ δ' → Rep X.K F H1 v' v → (do
        let k ← fk δ'
        match k, δ'[i]? with
        | .int j, some (some (.own xs)) => (match ixN xs.length j with | some j => (.ok (.nx (δ'.set i (some (.own (xs.set j v))))) : Res Out) | none => .bot)
        | _, _ => .bot).wp (OOK X.K H0 Fz0 Dn) (XOK X.mg (W σ) H0 Fz0) → (gSub (tVar i) tk rSetL) v' σ H1 Dn.nx := fun F δ' r' rv q => by
      refine ⟨.ref a, e2, ?_⟩
      rw [wp_bind] at q
      refine atE hk r' (wp_mono q (fun k hk' u H2 F2 g2 r2 => ?_) fun x hx => hx)
      split at hk'
      · rename_i j xs e3
        split at hk'
        · rename_i jj hj
          have r3 := r'.up g2.same
          have rv2 : Rep X.K F H2 v' v := rv.stay (.of_same g2.same) fun _ h => h
          obtain ⟨a', k2, k4, k5, vs, hh, hz, rr⟩ := r3.own i _ e3 rfl
          rw [e2] at k2
          cases k2
          cases r2
          refine ⟨a, vs, j, jj, rfl, rfl, hh, by rw [rr.length]; exact hj, ?_⟩
          exact hk' F _ σ (r3.write e3 rfl e2 fun H' st z => ⟨_, z, by rw [List.length_set]; exact hz, (RepAll.set rv2 jj rr).stay st fun _ h => h⟩)
        · exact hk'.elim
      · exact hk'.elim
    by_cases hf : flat v = true
    · simp only [hf, if_true] at hv
      exact fin Fz δ (r.up g1.same) (r1.flat hf) hv
    · simp only [hf, if_false] at hv
      exact fin F1 _ (r.frz g1) r1 hv
  · exact h.elim
end
end DL

set_option Elab.async false
set_option linter.all false
set_option maxRecDepth 100000
set_option maxHeartbeats 4000000
namespace DL
open PySem PySem.Spec L2
open PyProof.Rows hiding St
/-! ### y = xs.pop(e), y = xs.pop() of a list of one's own -/
section
variable {X : Cx} {W : WS} {U : XK} {S T : List Nat} {e a b c : Expr} {es : List Expr} {pos p : Pos} {te ta tb : TE} {t : TA}
theorem RepAll.erase {K : PySem.W.Frag} {Fz : FZ} {H : Hp} : ∀ {vs : List V} {ds : List PyData} (j : Nat), RepAll K Fz H vs ds → RepAll K Fz H (vs.eraseIdx j) (ds.eraseIdx j)
  | _, _, _, .nil => .nil
  | _, _, 0, .cons h t => t
  | _, _, j + 1, .cons h t => .cons h (RepAll.erase j t)
def popAt1 (i j : Nat) (δ : DSt) (xs : List PyData) (z : Int) : Res Out := match ixN xs.length z with
  | some n => (match xs[n]? with
    | some d => .ok (.nx ((δ.set i (some (.own (xs.eraseIdx n)))).set j (some (.val d))))
    | none => .bot)
  | none => .bot
def popAtF (i : Nat) (fk : DSt → Res PyData) (j : Nat) (δ : DSt) : Res Out := match δ[i]? with
  | some (some (.own xs)) => do
    let k ← fk δ
    match k with
    | .int z => popAt1 i j δ xs z
    | _ => .bot
  | _ => .bot
theorem ds_popAt {i j : Nat} {x y : Str} {f : DSt → Res PyData} {apos cpos xpos py : Pos} (hN : X.N.Nodup) (hi : X.N[i]? = some x) (hv : Vis X.env.scope x) (hj : X.N[j]? = some y) (hy : L2.Loc X.env.scope y) (he : DE X W S e te f)
    (hf : X.fn y = true ∨ X.env.scope.names.lookup y = some .local := by first | exact .inl rfl | exact .inr rfl | assumption)
    (hbase : attributeBase (.Name x xpos) "pop" X.env (eval (.Name x xpos) X.env) = eval (.Name x xpos) X.env := by rfl)
    (hfew : ((backTo cpos (starEach [e] X.env)).all (fun x => !x.1) && (backToKw cpos (keywordEach [] X.env)).all (fun x => x.1.isSome)
      && decide ([e].length + ([] : List Keyword).length + (if ([] : List Keyword).isEmpty then 0 else 1) < 30)) = true := by rfl)
    (hline : (apos.endLine == cpos.line) = true := by rfl) (hs : starEach [e] X.env = (false, eval e X.env) :: starEach [] X.env := by rfl) (hplain : (backTo cpos (starEach [] X.env)).any (·.1) = false := by rfl)
    (hsw : swapsWith (.Call (.Attribute (.Name x xpos) "pop" apos) [e] [] cpos) (some (.Name y py)) pos.line X.env = pure false := by rfl) (hd : (x == ("__debug__" : Str)) = false := by decide) (hcd : (x == ("__classdict__" : Str)) = false := by decide) :
    DS X W (.Assign [.Name y py] (.Call (.Attribute (.Name x xpos) "pop" apos) [e] [] cpos) pos) (tAsg (tBM X.K "list" rPopAt (tVar i) (tCons te tNil)) (gName j)) (popAtF i f j) := by
  refine ⟨ps_set hN hj hy (pe_bm PySem.F.plainAttrs_list PySem.F.slot_list_pop PySem.F.type_list_pop mt_popAt (pe_var (i := i) hi hv hd hcd) (pa_cons he.pe pa_nil hs) hbase hfew hline hs hplain) hsw hf, fun H0 Fz0 Fz H σ δ Dn r h => ?_⟩
  unfold SOK popAtF at h
  split at h
  · rename_i xs e1
    obtain ⟨a, e2, e4, e5, vs, e3, e6, e7⟩ := r.own i _ e1 rfl
    rw [wp_bind] at h
    refine ⟨.ref a, e2, .inl ⟨rfl, _, .of e3⟩, ?_⟩
    refine atE he r (wp_mono h (fun k hk u H1 F1 g1 r1 => ?_) fun x hx => hx)
    split at hk
    · rename_i z
      unfold popAt1 at hk
      split at hk
      · rename_i n hn
        split at hk
        · rename_i d hdd
          cases r1
          have r2 := r.up g1.same
          obtain ⟨a', k2, k4, k5, vs2, hh, hz, rr⟩ := r2.own i _ e1 rfl
          rw [e2] at k2
          cases k2
          obtain ⟨w, hw, rw'⟩ := rr.get hdd
          obtain ⟨b1, b2, b3, b4⟩ := ixN_seq hn
          have hlen := rr.length
          refine ⟨a, vs2, z, n, w, rfl, rfl, hh, by have := line63; omega, by have := line63; omega, by rw [hlen]; assumption, hw, ?_⟩
          have r3 := r2.write (o := .lst (vs2.eraseIdx n)) (s' := .own (xs.eraseIdx n)) e1 rfl e2 fun H' st q => ⟨_, q, Nat.le_trans (List.length_eraseIdx_le ..) hz, (RepAll.erase n rr).stay st fun _ h => h⟩
          have st : Stay Fz H1 (upd H1 a (.lst (vs2.eraseIdx n))) := .write k5 hh ⟨(fun _ h => by cases h), (fun _ _ h => by cases h)⟩
          exact hk Fz _ _ (r3.setVal (rw'.stay st fun _ h => h) j)
        · exact hk.elim
      · exact hk.elim
    · exact hk.elim
  · exact h.elim
/-- .. the last one -/
def popF (i j : Nat) (δ : DSt) : Res Out := match δ[i]? with
  | some (some (.own xs)) => (match xs[xs.length - 1]? with
    | some d => .ok (.nx ((δ.set i (some (.own xs.dropLast))).set j (some (.val d))))
    | none => .bot)
  | _ => .bot
theorem RepAll.dropLast {K : PySem.W.Frag} {Fz : FZ} {H : Hp} {vs : List V} {ds : List PyData} (r : RepAll K Fz H vs ds) : RepAll K Fz H vs.dropLast ds.dropLast := by
  rw [List.dropLast_eq_take, List.dropLast_eq_take, r.length]
  exact r.take _
theorem ds_pop {i j : Nat} {x y : Str} {apos cpos xpos py : Pos} (hN : X.N.Nodup) (hi : X.N[i]? = some x) (hv : Vis X.env.scope x) (hj : X.N[j]? = some y) (hy : L2.Loc X.env.scope y)
    (hf : X.fn y = true ∨ X.env.scope.names.lookup y = some .local := by first | exact .inl rfl | exact .inr rfl | assumption)
    (hbase : attributeBase (.Name x xpos) "pop" X.env (eval (.Name x xpos) X.env) = eval (.Name x xpos) X.env := by rfl) (hline : (apos.endLine == cpos.line) = true := by rfl)
    (hsw : swapsWith (.Call (.Attribute (.Name x xpos) "pop" apos) [] [] cpos) (some (.Name y py)) pos.line X.env = pure false := by rfl) (hd : (x == ("__debug__" : Str)) = false := by decide) (hcd : (x == ("__classdict__" : Str)) = false := by decide) :
    DS X W (.Assign [.Name y py] (.Call (.Attribute (.Name x xpos) "pop" apos) [] [] cpos) pos) (tAsg (tBM0 X.K "list" rPop (tVar i)) (gName j)) (popF i j) := by
  refine ⟨ps_set hN hj hy (pe_bm0 PySem.F.plainAttrs_list PySem.F.slot_list_pop PySem.F.type_list_pop mt_pop (pe_var (i := i) hi hv hd hcd) hbase hline) hsw hf, fun H0 Fz0 Fz H σ δ Dn r h => ?_⟩
  unfold SOK popF at h
  split at h
  · rename_i xs e1
    obtain ⟨a, e2, e4, e5, vs, e3, e6, e7⟩ := r.own i _ e1 rfl
    split at h
    · rename_i d hdd
      obtain ⟨w, hw, rw'⟩ := e7.get hdd
      have r3 := r.write (o := .lst vs.dropLast) (s' := .own xs.dropLast) e1 rfl e2 fun H' st q => ⟨_, q, Nat.le_trans (by rw [List.length_dropLast]; exact Nat.sub_le _ _) e6, e7.dropLast.stay st fun _ h => h⟩
      have st : Stay Fz H (upd H a (.lst vs.dropLast)) := .write e5 e3 ⟨(fun _ h => by cases h), (fun _ _ h => by cases h)⟩
      exact ⟨.ref a, e2, .inl ⟨rfl, _, .of e3⟩, a, vs, w, rfl, rfl, e3, by rw [e7.length]; exact hw, h Fz _ _ (r3.setVal (rw'.stay st fun _ h => h) j)⟩
    · exact h.elim
  · exact h.elim
end
end DL

set_option Elab.async false
set_option linter.all false
set_option maxRecDepth 100000
set_option maxHeartbeats 4000000
namespace DL
open PySem PySem.Spec L2
open PyProof.Rows hiding St
/-! ### nothing is told (the end of a recursion's fuel) -/
theorem dss_bot {X : Cx} {W : WS} {st : List Stmt} : DSs X W st (fun _ _ _ => False) (fun _ => .bot) := ⟨⟨fun _ _ _ _ _ _ h => h.elim⟩, fun _ _ _ _ _ _ _ _ h => h.elim⟩
/-! ### displays with *xs -/
structure DAS (X : Cx) (W : WS) (S : List Nat) (es : List Expr) (t : TA) (f : DSt → Res (List PyData)) : Prop where
  pe : PA X es t
  ok : ∀ Fz σ H δ Q, RdOn X.K S Fz H σ δ → Live Fz H → AOK X.K X.mg (W σ) Fz H (f δ) Q → t σ H Q
section
variable {X : Cx} {W : WS} {U : XK} {S T : List Nat} {e a b c : Expr} {es : List Expr} {pos p : Pos} {te ta tb : TE} {t : TA}
theorem DA.das {f : DSt → Res (List PyData)} (h : DA X W S es t f) : DAS X W S es t f := ⟨h.pe, h.ok⟩
theorem das_cons {f : DSt → Res PyData} {g : DSt → Res (List PyData)} (ha : DE X W S e te f) (hr : DAS X W T es t g) (hs : starEach (e :: es) X.env = (false, eval e X.env) :: starEach es X.env := by rfl) : DAS X W (S ++ T) (e :: es) (tCons te t) (aCons f g) := by
  refine ⟨pa_cons ha.pe hr.pe hs, fun Fz σ H δ Q hd hl h => ?_⟩
  unfold AOK aCons at h
  rw [wp_bind] at h
  refine ha.ok Fz σ H δ _ hd.left hl (wp_mono h (fun x hx v H1 F1 g1 r1 => ?_) fun x hx => hx)
  rw [wp_bind] at hx
  refine hr.ok F1 σ H1 δ _ (hd.right.grow g1) (g1.live hl) (wp_mono hx (fun xs hxs vs H2 F2 g2 r2 => ?_) fun x hx c oe H2 F2 g2 r2 => hx c oe H2 F2 (g1.trans g2) r2)
  exact hxs _ H2 F2 (g1.trans g2) (.cons (r1.grow g2) r2)
def stF (f : DSt → Res PyData) (g : DSt → Res (List PyData)) : DSt → Res (List PyData) := fun δ => do
  let x ← f δ
  match x with
  | .list xs => do let ys ← g δ; .ok (xs ++ ys)
  | .tuple xs => do let ys ← g δ; .ok (xs ++ ys)
  | _ => .bot
theorem das_starK (K) {f : DSt → Res PyData} {g : DSt → Res (List PyData)} (ha : DE X W S e te f) (hr : DAS X W T es t g) (hK : X.K = K := by rfl) (hs : starEach (.Starred e p :: es) X.env = (true, eval e X.env) :: starEach es X.env := by rfl) : DAS X W (S ++ T) (.Starred e p :: es) (StX.tStar K te t) (stF f g) := by
  subst hK
  refine ⟨StX.pa_star ha.pe hr.pe hs, fun Fz σ H δ Q hd hl h => ?_⟩
  unfold AOK stF at h
  rw [wp_bind] at h
  refine ha.ok Fz σ H δ _ hd.left hl (wp_mono h (fun x hx v H1 F1 g1 r1 => ?_) fun x hx => hx)
  cases x with
  | list xs =>
    cases r1 with
    | lst hh z rr =>
      have hx : Res.wp (g δ >>= fun ys => .ok (xs ++ ys)) _ _ := hx
      rw [wp_bind] at hx
      refine ⟨_, _, rfl, .inr hh.sq, hr.ok F1 σ H1 δ _ (hd.right.grow g1) (g1.live hl) (wp_mono hx (fun ys hy vs H2 F2 g2 r2 => ?_) fun x hx c oe H2 F2 g2 r2 => hx c oe H2 F2 (g1.trans g2) r2)⟩
      exact hy _ H2 F2 (g1.trans g2) ((rr.grow g2).app r2)
  | tuple xs =>
    cases r1 with
    | tup hh z rr =>
      have hx : Res.wp (g δ >>= fun ys => .ok (xs ++ ys)) _ _ := hx
      rw [wp_bind] at hx
      refine ⟨_, _, rfl, .inl hh.sq, hr.ok F1 σ H1 δ _ (hd.right.grow g1) (g1.live hl) (wp_mono hx (fun ys hy vs H2 F2 g2 r2 => ?_) fun x hx c oe H2 F2 g2 r2 => hx c oe H2 F2 (g1.trans g2) r2)⟩
      exact hy _ H2 F2 (g1.trans g2) ((rr.grow g2).app r2)
  | _ => exact hx.elim
theorem de_tupS {x1} {f : DSt → Res (List PyData)} (h : DAS X W S es t f) : DE X W S (.Tuple es x1 pos) (tTup t) (u1A tupD f) := by
  refine ⟨pe_tup h.pe, fun Fz σ H δ Q hd hl hq => ?_⟩
  unfold EOK u1A at hq
  rw [wp_bind] at hq
  refine h.ok Fz σ H δ _ hd hl (wp_mono hq (fun ds hx vs H1 F1 g1 r1 => ?_) fun x hx => hx)
  unfold tupD at hx
  split at hx
  · rename_i hz
    exact ⟨by rw [r1.length]; exact hz, fun p np => hx _ _ F1 (g1.trans (.nw np)) (.tup (.of upd_same) hz (r1.grow (.nw np)))⟩
  · exact hx.elim
theorem df_lstS {f : DSt → Res (List PyData)} (h : DAS X W S es t f) : DF X W S (.List es pos) (tLst t) (u1L lstD f) := by
  refine ⟨pe_lst h.pe, fun Fz σ H δ Q hd hl hq => ?_⟩
  unfold LOK u1L at hq
  rw [wp_bind] at hq
  refine h.ok Fz σ H δ _ hd hl (wp_mono hq (fun ds hx vs H1 F1 g1 r1 => ?_) fun x hx => hx)
  unfold lstD at hx
  split at hx
  · rename_i hz
    exact ⟨by rw [r1.length]; exact hz, fun p np => hx p _ _ F1 (g1.trans (.nw np)) (none_of_same g1.same np) (notFz .refl (g1.live hl) np) upd_same hz (r1.grow (.nw np))⟩
  · exact hx.elim
end
end DL

set_option Elab.async false
set_option linter.all false
set_option maxRecDepth 100000
set_option maxHeartbeats 4000000
namespace DL
open PySem PySem.Spec L2
open PyProof.Rows hiding St
/-! ### max, min of a list of whole numbers -/
def intsO : List PyData → Option (List Int)
  | [] => some []
  | .int i :: ds => (intsO ds).map (i :: ·)
  | _ :: _ => none
theorem intsO_some : ∀ {ds : List PyData} {c : List Int}, intsO ds = some c → ds = iL c
  | [], c, h => by cases h; rfl
  | d :: ds, c, h => by
    cases d with
    | int i =>
      rw [intsO] at h
      cases q : intsO ds with
      | none => rw [q] at h; cases h
      | some l =>
        rw [q] at h
        cases h
        rw [intsO_some q]
        rfl
    | _ => rw [intsO] at h; cases h; intro _ e; cases e
theorem intsO_iL : ∀ c : List Int, intsO (iL c) = some c
  | [] => rfl
  | i :: c => by
    show (intsO (iL c)).map (i :: ·) = _
    rw [intsO_iL c]; rfl
def maxI : List Int → Int
  | [] => 0
  | [x] => x
  | x :: r => max x (maxI r)
def minI : List Int → Int
  | [] => 0
  | [x] => x
  | x :: r => min x (minI r)
theorem maxI_ge : ∀ (l : List Int) (y : Int), y ∈ l → y ≤ maxI l
  | [x], y, h => by rw [List.mem_singleton.mp h]; exact Int.le_refl _
  | x :: z :: r, y, h => by
    show y ≤ max x (maxI (z :: r))
    rcases List.mem_cons.mp h with rfl | h
    · omega
    · have := maxI_ge (z :: r) y h; omega
theorem minI_le : ∀ (l : List Int) (y : Int), y ∈ l → minI l ≤ y
  | [x], y, h => by rw [List.mem_singleton.mp h]; exact Int.le_refl _
  | x :: z :: r, y, h => by
    show min x (minI (z :: r)) ≤ y
    rcases List.mem_cons.mp h with rfl | h
    · omega
    · have := minI_le (z :: r) y h; omega
theorem maxI_mem : ∀ (l : List Int), l ≠ [] → maxI l ∈ l
  | [], h => absurd rfl h
  | [x], _ => by simp [maxI]
  | x :: z :: r, _ => by
    show max x (maxI (z :: r)) ∈ _
    have := maxI_mem (z :: r) (by simp)
    rcases Int.le_total x (maxI (z :: r)) with q | q
    · rw [Int.max_eq_right q]; exact List.mem_cons_of_mem _ this
    · rw [Int.max_eq_left q]; exact List.mem_cons_self
theorem minI_mem : ∀ (l : List Int), l ≠ [] → minI l ∈ l
  | [], h => absurd rfl h
  | [x], _ => by simp [minI]
  | x :: z :: r, _ => by
    show min x (minI (z :: r)) ∈ _
    have := minI_mem (z :: r) (by simp)
    rcases Int.le_total x (minI (z :: r)) with q | q
    · rw [Int.min_eq_left q]; exact List.mem_cons_self
    · rw [Int.min_eq_right q]; exact List.mem_cons_of_mem _ this
theorem rep_row {K : PySem.W.Frag} {Fz : FZ} {H : Hp} : ∀ {vs : List V} {c : List Int}, RepAll K Fz H vs (iL c) → vs = c.map V.int
  | _, [], .nil => rfl
  | _, i :: c, .cons h r => by
    cases h
    rw [rep_row r]
    rfl
def maxLD (ds : List PyData) : Res PyData := match ds with | [.list xs] => (match intsO xs with | some (x :: r) => .ok (.int (maxI (x :: r))) | _ => .bot) | _ => .bot
def minLD (ds : List PyData) : Res PyData := match ds with | [.list xs] => (match intsO xs with | some (x :: r) => .ok (.int (minI (x :: r))) | _ => .bot) | _ => .bot
section
variable {X : Cx}
theorem cd_maxLK (K) (hc : X.calm = true) (hK : X.K = K := by rfl) : CallD X (.builtin "max") (rMax K) maxLD := by
  subst hK
  refine ⟨cr_max hc, fun Fz H ds vs Q hl r q => ?_, fun ds z => by unfold maxLD; split <;> first | (split <;> exact True.intro) | exact True.intro⟩
  unfold maxLD at q
  split at q
  · split at q
    · rename_i xs x r' hx
      cases r with
      | cons h r =>
        cases r
        cases h with
        | lst hh z rr =>
          rw [intsO_some hx] at rr
          have e := rep_row rr
          subst e
          refine ⟨_, x :: r', rfl, hh.sq, by simp, fun m h1 h2 => ?_⟩
          have hm : m = maxI (x :: r') := by
            have a := maxI_ge _ m h1
            have b := h2 _ (maxI_mem (x :: r') (by simp))
            omega
          rw [hm]
          exact q.at (.int _)
    · exact q.elim
  · exact q.elim
theorem cd_minLK (K) (hc : X.calm = true) (hK : X.K = K := by rfl) : CallD X (.builtin "min") (rMin K) minLD := by
  subst hK
  refine ⟨cr_min hc, fun Fz H ds vs Q hl r q => ?_, fun ds z => by unfold minLD; split <;> first | (split <;> exact True.intro) | exact True.intro⟩
  unfold minLD at q
  split at q
  · split at q
    · rename_i xs x r' hx
      cases r with
      | cons h r =>
        cases r
        cases h with
        | lst hh z rr =>
          rw [intsO_some hx] at rr
          have e := rep_row rr
          subst e
          refine ⟨_, x :: r', rfl, hh.sq, by simp, fun m h1 h2 => ?_⟩
          have hm : m = minI (x :: r') := by
            have a := minI_le _ m h1
            have b := h2 _ (minI_mem (x :: r') (by simp))
            omega
          rw [hm]
          exact q.at (.int _)
    · exact q.elim
  · exact q.elim
end
end DL

set_option Elab.async false
set_option linter.all false
set_option maxRecDepth 100000
set_option maxHeartbeats 4000000
namespace DL
open PySem PySem.Spec L2
open PyProof.Rows hiding St
/-! ### sum of a list of whole numbers -/
def sumLD (ds : List PyData) : Res PyData := match ds with | [.list xs] => (match intsO xs with | some c => .ok (.int c.sum) | none => .bot) | _ => .bot
theorem cd_sumLK {X : Cx} (K) (hc : X.calm = true) (hK : X.K = K := by rfl) : CallD X (.builtin "sum") (rSum K) sumLD := by
  subst hK
  refine ⟨cr_sum hc, fun Fz H ds vs Q hl r q => ?_, fun ds z => by unfold sumLD; split <;> first | (split <;> exact True.intro) | exact True.intro⟩
  unfold sumLD at q
  split at q
  · split at q
    · rename_i xs c hx
      cases r with
      | cons h r =>
        cases r
        cases h with
        | lst hh z rr =>
          rw [intsO_some hx] at rr
          have e := rep_row rr
          subst e
          exact ⟨_, c, rfl, hh.sq, q.at (.int _)⟩
    · exact q.elim
  · exact q.elim
end DL

set_option Elab.async false
set_option linter.all false
set_option maxRecDepth 100000
set_option maxHeartbeats 4000000
namespace DL
open PySem PySem.Spec L2
open PyProof.Rows hiding St

/-! ### slots that are read no more are forgotten -/
theorem Rel.clr {K : PySem.W.Frag} {H0 H : Hp} {Fz0 Fz : FZ} {σ : St} {δ : DSt} (r : Rel K H0 Fz0 Fz H σ δ) (vs : List Nat) : Rel K H0 Fz0 Fz H σ (wipeD δ vs) :=
  ⟨r.same, r.sub0, r.new0, r.live, by rw [wipeD_length]; exact r.len, fun i d e => r.val i d (wipeD_some e).1, fun i s e ho => r.own i s (wipeD_some e).1 ho,
    fun i j s u a hij e1 o1 e2 o2 h1 h2 => r.sep i j s u a hij (wipeD_some e1).1 o1 (wipeD_some e2).1 o2 h1 h2⟩
def clr (vs : List Nat) (f : DSt → Res Out) : DSt → Res Out := fun δ => f (wipeD δ vs)
section
variable {X : Cx} {W : WS} {U : XK} {S T : List Nat} {tg : Expr} {pos : Pos} {ts : TS} {st : Stmt} {b : List Stmt} {f : DSt → Res Out}
theorem ds_clr (vs : List Nat) (h : DS X W st ts f) : DS X W st ts (clr vs f) := ⟨h.pe, fun H0 Fz0 Fz H σ δ Dn r q => h.ok H0 Fz0 Fz H σ _ Dn (r.clr vs) q⟩
theorem dss_clr (vs : List Nat) (h : DSs X W b ts f) : DSs X W b ts (clr vs f) := ⟨h.pe, fun H0 Fz0 Fz H σ δ Dn r q => h.ok H0 Fz0 Fz H σ _ Dn (r.clr vs) q⟩
def forFC (S vs : List Nat) (g : DSt → Res (List PyData)) (p : Pat) (body : DSt → Res Out) (δ : DSt) : Res Out := do
  let xs ← g δ
  forGo p body xs (wipeD (freeze S 0 δ) vs)
theorem ds_forC (vs : List Nat) {iter : Expr} {body : List Stmt} {wi : TI} {g : TG} {p : Pat} {tb : TS} {f : DSt → Res (List PyData)} {fb : DSt → Res Out} (hp : PassesOwn (model X.prog X.w) X.A X.env X.xe) (hc : X.calm = true) (hi : DI X (fun _ => U) S tg iter wi f) (hg : DG X tg g p) (hb : DSs X (fun _ => U) body tb fb)
    (hs : ∀ x, foldedSetIterable iter X.env x = pure x := by intro _; rfl) : DS X (fun _ => U) (.For tg iter body [] pos) (tFor wi g tb) (forFC S vs f p fb) := by
  refine ⟨ps_for hp hc hi.pe hg.pe hb.pe hs, fun H0 Fz0 Fz H σ δ Dn r h => ?_⟩
  unfold SOK forFC at h
  rw [wp_bind] at h
  refine hi.ok _ σ H δ _ r.rd r.ownLive (wp_mono h (fun ds hd J H1 F1 g1 sv => ?_) fun x hx c oe H1 F1 g q => hx c oe H1 F1 (r.grow0 g) q)
  exact for_core hg hb sv ((r.frz g1).clr vs) hd
def forRC (vs : List Nat) (g : DSt → Res (List PyData)) (p : Pat) (body : DSt → Res Out) (δ : DSt) : Res Out := do
  let xs ← g δ
  forGo p body xs (wipeD δ vs)
theorem ds_forRC (vs : List Nat) {iter : Expr} {body : List Stmt} {wi : TI} {g : TG} {p : Pat} {tb : TS} {f : DSt → Res (List PyData)} {fb : DSt → Res Out} (hp : PassesOwn (model X.prog X.w) X.A X.env X.xe) (hc : X.calm = true) (hi : DR X (fun _ => U) S tg iter wi f) (hg : DG X tg g p) (hb : DSs X (fun _ => U) body tb fb)
    (hs : ∀ x, foldedSetIterable iter X.env x = pure x := by intro _; rfl) : DS X (fun _ => U) (.For tg iter body [] pos) (tFor wi g tb) (forRC vs f p fb) := by
  refine ⟨ps_for hp hc hi.pe hg.pe hb.pe hs, fun H0 Fz0 Fz H σ δ Dn r h => ?_⟩
  unfold SOK forRC at h
  rw [wp_bind] at h
  refine hi.ok _ σ H δ _ r.rd r.ownLive (wp_mono h (fun ds hd J H1 F1 g1 sv => ?_) fun x hx c oe H1 F1 g q => hx c oe H1 F1 (r.grow0 g) q)
  exact for_core hg hb (sv Fz H1) ((r.up g1.same).clr vs) hd
end
theorem ev_clr (vs f δ) : clr vs f δ = f (wipeD δ vs) := rfl
@[simp] theorem ev_forRC (vs g p b δ) : forRC vs g p b δ = (g δ >>= fun xs => forGo p b xs (wipeD δ vs)) := rfl
@[simp] theorem ev_forFC (S vs g p b δ) : forFC S vs g p b δ = (g δ >>= fun xs => forGo p b xs (wipeD (freeze S 0 δ) vs)) := rfl

/-! ### a list that its name's holder never changes is a value at once -/
theorem Rel.frzAt {K : PySem.W.Frag} {H0 H : Hp} {Fz0 Fz : FZ} {σ : St} {δ : DSt} (r : Rel K H0 Fz0 Fz H σ δ) (S : List Nat) : ∃ F1, Rel K H0 Fz0 F1 H σ (freeze S 0 δ) :=
  ⟨withOwn Fz σ δ S, r.frz (S := S) (F1 := withOwn Fz σ δ S) .refl⟩
theorem freeze_at {i : Nat} {xs : List PyData} (δ : DSt) (h : ∀ s, δ[i]? = some s → True) : freeze [i] 0 (δ.set i (some (.own xs))) = δ.set i (some (.val (.list xs))) := by
  apply List.ext_getElem?
  intro j
  rw [freeze_get, Nat.zero_add]
  by_cases hij : i = j
  · subst hij
    by_cases hl : i < δ.length
    · rw [List.getElem?_set_self hl, List.getElem?_set_self hl]
      simp [frzS]
    · rw [List.getElem?_eq_none (by rw [List.length_set]; omega), List.getElem?_eq_none (by rw [List.length_set]; omega)]
      rfl
  · rw [List.getElem?_set_ne hij, List.getElem?_set_ne hij]
    have : ¬ j = i := fun h => hij h.symm
    simp [this]
def asgLV (S : List Nat) (f : DSt → Res (List PyData)) (i : Nat) (δ : DSt) : Res Out := do
  let xs ← f δ
  .ok (.nx ((if flatAll xs then δ else freeze S 0 δ).set i (some (.val (.list xs)))))

section
variable {X : Cx} {W : WS} {U : XK} {S T : List Nat} {st : Stmt} {ts : TS}
theorem ds_toVal {i : Nat} {f : DSt → Res (List PyData)} (h : DS X W st ts (asgO S f i)) : DS X W st ts (asgLV S f i) := by
  refine ⟨h.pe, fun H0 Fz0 Fz H σ δ Dn r q => h.ok H0 Fz0 Fz H σ δ Dn r ?_⟩
  unfold SOK asgLV at q
  unfold SOK asgO
  rw [wp_bind] at q ⊢
  refine wp_mono q (fun xs hx F1 H1 σ1 r1 => ?_) fun x hx => hx
  obtain ⟨F2, r2⟩ := r1.frzAt [i]
  rw [freeze_at _ fun _ _ => trivial] at r2
  exact hx F2 H1 σ1 r2
/-! ### a, b = c, d -/
def parF (i j : Nat) (S : List Nat) (f : DSt → Res (List PyData)) (δ : DSt) : Res Out := do
  let ds ← f δ
  match ds with
  | [a, b] => .ok (.nx (((if flatAll ds then δ else freeze S 0 δ).set i (some (.val a))).set j (some (.val b))))
  | _ => .bot
theorem ds_par {i j : Nat} {x y : Str} {a b : Expr} {ta : TA} {px py pt pos : Pos} {kt k2 pt2} {f : DSt → Res (List PyData)} (hc : X.calm = true) (hN : X.N.Nodup) (hi : X.N[i]? = some x) (hj : X.N[j]? = some y) (hij : i ≠ j)
    (hx : X.env.scope.names.lookup x = some .local) (hy : X.env.scope.names.lookup y = some .local) (ha : DA X W S [a, b] ta f)
    (hw : swappedStores [.Tuple [.Name x px, .Name y py] kt pt] (.Tuple [a, b] k2 pt2) X.env = pure (some [x, y]))
    (hs : swapsWithSole [.Tuple [.Name x px, .Name y py] kt pt] (.Tuple [a, b] k2 pt2) pos.line X.env = pure false := by rfl) :
    DS X W (.Assign [.Tuple [.Name x px, .Name y py] kt pt] (.Tuple [a, b] k2 pt2) pos) (tPar i j ta) (parF i j S f) := by
  refine ⟨ps_par hc hN hi hj hij hx hy ha.pe hw hs, fun H0 Fz0 Fz H σ δ Dn r q => ?_⟩
  unfold SOK parF at q
  rw [wp_bind] at q
  refine ha.ok _ σ H δ _ r.rd r.ownLive (wp_mono q (fun ds hd vs H1 F1 g1 r1 => ?_) fun x hx c oe H1 F1 g z => hx c oe H1 F1 (r.grow0 g) z)
  match ds, r1, hd with
  | [d, e], .cons (v := v) rv (.cons (v := w) rw' .nil), hd =>
    refine ⟨v, w, rfl, ?_⟩
    by_cases hf : flatAll [d, e] = true
    · simp only [hf, if_true] at hd
      have hf' := hf
      rw [flatAll, flatAll, flatAll, Bool.and_true, Bool.and_eq_true] at hf'
      exact hd Fz H1 _ (((r.up g1.same).setVal (rv.flat hf'.1) i).setVal (rw'.flat hf'.2) j)
    · simp only [hf, if_false] at hd
      exact hd F1 H1 _ (((r.frz g1).setVal rv i).setVal rw' j)
  | [], .nil, hd => exact hd.elim
  | [d], .cons _ .nil, hd => exact hd.elim
  | d :: e :: g :: l, .cons _ (.cons _ (.cons _ _)), hd => exact hd.elim
end
@[simp] theorem ev_parF (i j S f δ) : parF i j S f δ = (f δ >>= fun ds => match ds with
  | [a, b] => .ok (.nx (((if flatAll ds then δ else freeze S 0 δ).set i (some (.val a))).set j (some (.val b))))
  | _ => .bot) := rfl
end DL

set_option Elab.async false
set_option linter.all false
set_option maxRecDepth 100000
set_option maxHeartbeats 4000000
namespace DL
open PySem PySem.Spec L2
open PyProof.Rows hiding St

/-! ### new lists: xs + ys, xs[a:b] -/
def addLD (x y : PyData) : Res (List PyData) := match x, y with
  | .list xs, .list ys => if xs.length + ys.length ≤ sizeLine then .ok (xs ++ ys) else .bot
  | _, _ => .bot
abbrev b2L (g : PyData → PyData → Res (List PyData)) (fa fb : DSt → Res PyData) : DSt → Res (List PyData) := fun δ => do let x ← fa δ; let y ← fb δ; g x y
section
variable {X : Cx} {W : WS} {U : XK} {S T : List Nat} {e a b c : Expr} {pos p2 : Pos} {te ta tb : TE} {lo hi : Option Expr} {tl th : TO} {V : List Nat}
theorem df_addK (K) {fa fb : DSt → Res PyData} (ha : DE X W S a ta fa) (hb : DE X W T b tb fb) (hK : X.K = K := by rfl) : DF X W (S ++ T) (.BinOp a .Add b pos) (tOp (rCatL K) ta tb) (b2L addLD fa fb) := by
  subst hK
  refine ⟨pe_op op_catL ha.pe hb.pe, fun Fz σ H δ Q hd hl h => ?_⟩
  unfold LOK b2L at h
  rw [wp_bind] at h
  refine two ha.ok hb.ok hd hl (wp_mono h (fun x hx => ?_) fun x hx => hx)
  rw [wp_bind] at hx
  refine wp_mono hx (fun y hy v u H' F' g' l' r1 r2 => ?_) fun x hx => hx
  unfold addLD at hy
  cases x with
  | list xs =>
    cases y with
    | list ys =>
      by_cases hz : xs.length + ys.length ≤ sizeLine
      · simp only [hz, if_true] at hy
        cases r1 with
        | lst h1 z1 a1 =>
          cases r2 with
          | lst h2 z2 a2 =>
            exact ⟨_, _, _, _, rfl, rfl, h1.sq, h2.sq, by rw [a1.length, a2.length]; exact hz, fun p np => hy p _ _ F' (g'.trans (.nw np)) (none_of_same g'.same np) (fun q => l' p q np) upd_same (by rw [List.length_append]; exact hz) ((a1.app a2).grow (.nw np))⟩
      · simp only [hz, if_false] at hy
        exact hy.elim
    | _ => exact hy.elim
  | _ => exact hy.elim
def sliceLD (x : PyData) (lo hi : Option Int) : Res (List PyData) := match x with
  | .list xs => .ok (cutD xs lo hi)
  | _ => .bot
abbrev slLF (f : DSt → Res PyData) (fl fh : DSt → Res (Option Int)) : DSt → Res (List PyData) := fun δ => do let x ← f δ; let l ← fl δ; let u ← fh δ; sliceLD x l u
theorem df_sliceK (K) {f : DSt → Res PyData} {fl fh : DSt → Res (Option Int)} (ha : DE X W S a ta f) (hlo : DO X W T lo tl fl) (hhi : DO X W V hi th fh) (hK : X.K = K := by rfl) : DF X W (S ++ (T ++ V)) (.Subscript a (.Slice lo hi none p2) pos) (tSl (rSlL K) ta tl th) (slLF f fl fh) := by
  subst hK
  refine ⟨pe_slice sl_list ha.pe hlo.pe hhi.pe, fun Fz σ H δ Q hd hl h => ?_⟩
  unfold LOK slLF at h
  rw [wp_bind] at h
  refine ha.ok Fz σ H δ _ hd.left hl (wp_mono h (fun x hx v H1 F1 g1 r1 => ?_) fun x hx => hx)
  rw [wp_bind] at hx
  refine hlo.ok F1 σ H1 δ _ (hd.right.left.grow g1) (g1.live hl) (wp_mono hx (fun l hx H2 F2 g2 => ?_) fun x hx c oe H2 F2 g2 => hx c oe H2 F2 (g1.trans g2))
  rw [wp_bind] at hx
  refine hhi.ok F2 σ H2 δ _ (hd.right.right.grow (g1.trans g2)) (g2.live (g1.live hl)) (wp_mono hx (fun u hx H3 F3 g3 => ?_) fun x hx c oe H3 F3 g3 => hx c oe H3 F3 (g1.trans (g2.trans g3)))
  have r3 := r1.grow (g2.trans g3)
  have g := g1.trans (g2.trans g3)
  unfold sliceLD at hx
  cases x with
  | list xs =>
    cases r3 with
    | lst hh z rr =>
      exact ⟨_, _, rfl, hh.sq, fun p np => hx p _ _ F3 (g.trans (.nw np)) (none_of_same g.same np) (fun q => g.live hl p q np) upd_same (Nat.le_trans (cutD_length _ _ _) z) ((cut_rep rr l u).grow (.nw np))⟩
  | _ => exact hx.elim
end
end DL

set_option Elab.async false
set_option linter.all false
set_option maxRecDepth 100000
set_option maxHeartbeats 4000000
namespace DL
open PySem PySem.Spec L2
open PyProof.Rows hiding St

/-! ### comprehensions of two for -/
theorem Stay.then_same {Fz : FZ} {H H1 H2 : Hp} (s : Stay Fz H H1) (t : Same H1 H2) : Stay Fz H H2 := fun a o e c => t a o (s a o e c)
theorem Stay.then_write {Fz : FZ} {H H1 : Hp} {D : Addr} {acc : List V} {o' : HO} (s : Stay Fz H H1) (n : ¬ Fz D) (e1 : H1 D = some (.lst acc)) : Stay Fz H (upd H1 D o') := fun a o e c => by
  have h := s a o e c
  by_cases hz : a = D
  · subst hz
    rw [e1] at h
    have h := Option.some.inj h
    subst h
    rcases c with c | ⟨xs, c⟩ | ⟨u, v, c⟩
    · exact absurd c n
    · cases c
    · cases c
  · rw [upd_ne hz]
    exact h
theorem RdOn.stay {K : PySem.W.Frag} {S : List Nat} {Fz Fz' : FZ} {H H' : Hp} {σ : L2.St} {δ : DSt} (s : Stay Fz H H') (f : ∀ a, Fz a → Fz' a) (h : RdOn K S Fz H σ δ) : RdOn K S Fz' H' σ δ := ⟨h.1, fun i hi z e => by
  obtain ⟨v, h1, h2⟩ := h.2 i hi z e
  exact ⟨v, h1, h2.stay s f⟩⟩
def lc2Go (p : Pat) (δ : DSt) (ft : DSt → Res Bool) (gi : DSt → Res (List PyData)) (p1 : Pat) (vs1 : List Nat) (ft1 : DSt → Res Bool) (fe : DSt → Res PyData) : List PyData → Res (List PyData)
  | [] => .ok []
  | x :: r => do
    let δ1 ← nE (bindP p x δ)
    let b ← nE (ft δ1)
    if b then do
      let es ← nE (gi δ1)
      let zs ← lcGo p1 (wipeD δ1 vs1) ft1 fe es
      let ys ← lc2Go p δ ft gi p1 vs1 ft1 fe r
      .ok (zs ++ ys)
    else lc2Go p δ ft gi p1 vs1 ft1 fe r
def lc2F (g : DSt → Res (List PyData)) (p : Pat) (vs : List Nat) (ft : DSt → Res Bool) (gi : DSt → Res (List PyData)) (p1 : Pat) (vs1 : List Nat) (ft1 : DSt → Res Bool) (fe : DSt → Res PyData) (δ : DSt) : Res (List PyData) := do
  let xs ← g δ
  let ys ← lc2Go p (wipeD δ vs) ft gi p1 vs1 ft1 fe xs
  lstD ys
theorem lc2Go_quiet {p p1 : Pat} {δ : DSt} {ft ft1 : DSt → Res Bool} {gi : DSt → Res (List PyData)} {vs1 : List Nat} {fe : DSt → Res PyData} : ∀ (xs : List PyData), (lc2Go p δ ft gi p1 vs1 ft1 fe xs).quiet
  | [] => True.intro
  | y :: r => by
    unfold lc2Go
    refine quiet_bind (nE_quiet _) fun δ1 => quiet_bind (nE_quiet _) fun b => ?_
    cases b with
    | true => exact quiet_bind (nE_quiet _) fun es => quiet_bind (lcGo_quiet es) fun zs => quiet_bind (lc2Go_quiet r) fun ys => True.intro
    | false => exact lc2Go_quiet r
section
variable {X : Cx} {W : WS} {U : XK} {S S1 S2 S3 S4 T : List Nat} {elt tg iter tg1 iter1 : Expr} {ifs ifs1 : List Expr} {scope : Scope} {own : List (Str × Nat)} {pos : Pos} {wi wi1 : TI} {gg gg1 : TG} {tt tt1 : TT} {te : TE} {vs1 : List Nat}
theorem df_lc2 {g : DSt → Res (List PyData)} {p : Pat} {ft : DSt → Res Bool} {gi : DSt → Res (List PyData)} {p1 : Pat} {ft1 : DSt → Res Bool} {fe : DSt → Res PyData} (hc : X.calm = true) (hN : X.N.Nodup) (hi : DI X W S tg iter wi g) (ok : BlkOk X.N X.env.scope scope own) (hv : ∀ i ∈ vs1, i ∈ own.map (·.2))
    (hg : ∀ (s : Shared) (H : Hp) (C : Addr) (cl : List (Str × Addr)) (fp : List Addr), DG (X.blk s H scope (compEnvC scope cl C X.env) fp) tg gg p) (hp : ∀ i ∈ p.slots, i ∈ own.map (·.2))
    (ht : ∀ (s : Shared) (H : Hp) (C : Addr) (cl : List (Str × Addr)) (fp : List Addr), DTs (X.blk s H scope (compEnvC scope cl C X.env) fp) (fun _ => E0) S1 ifs tt ft)
    (hi1 : ∀ (s : Shared) (H : Hp) (C : Addr) (cl : List (Str × Addr)) (fp : List Addr), DI (X.blk s H scope (compEnvC scope cl C X.env) fp) (fun _ => E0) S3 tg1 iter1 wi1 gi)
    (hg1 : ∀ (s : Shared) (H : Hp) (C : Addr) (cl : List (Str × Addr)) (fp : List Addr), DG (X.blk s H scope (compEnvC scope cl C X.env) fp) tg1 gg1 p1) (hp1 : ∀ i ∈ p1.slots, i ∈ vs1)
    (ht1 : ∀ (s : Shared) (H : Hp) (C : Addr) (cl : List (Str × Addr)) (fp : List Addr), DTs (X.blk s H scope (compEnvC scope cl C X.env) fp) (fun _ => E0) S4 ifs1 tt1 ft1)
    (he : ∀ (s : Shared) (H : Hp) (C : Addr) (cl : List (Str × Addr)) (fp : List Addr), DE (X.blk s H scope (compEnvC scope cl C X.env) fp) (fun _ => E0) S2 elt te fe) (hs : ∀ x, foldedSetIterable iter X.env x = pure x := by intro _; rfl) (hs1 : ∀ env x, foldedSetIterable iter1 env x = pure x := by intro _ _; rfl) :
    DF X W (S ++ (S1 ++ (S3 ++ (S4 ++ S2)))) (.ListComp elt [⟨tg, iter, ifs, 0⟩, ⟨tg1, iter1, ifs1, 0⟩] scope pos) (tLc2 wi gg tt wi1 gg1 tt1 te (own.map (·.2)) vs1) (lc2F g p (own.map (·.2)) ft gi p1 vs1 ft1 fe) := by
  refine ⟨pe_lc2 hc hN hi.pe ok hv (fun s H C cl fp => (hg s H C cl fp).pe) (fun s H C cl fp => (ht s H C cl fp).pe) (fun s H C cl fp => (hi1 s H C cl fp).pe) (fun s H C cl fp => (hg1 s H C cl fp).pe) (fun s H C cl fp => (ht1 s H C cl fp).pe) (fun s H C cl fp => (he s H C cl fp).pe) hs hs1, fun Fz σ H δ Q hd hl hq => ?_⟩
  have hg' := (hg X.s_0 X.H_0 0 [] []).ok
  have ht' := (ht X.s_0 X.H_0 0 [] []).ok
  have hi1' := (hi1 X.s_0 X.H_0 0 [] []).ok
  have hg1' := (hg1 X.s_0 X.H_0 0 [] []).ok
  have ht1' := (ht1 X.s_0 X.H_0 0 [] []).ok
  have he' := (he X.s_0 X.H_0 0 [] []).ok
  generalize own.map (·.2) = vs at *
  unfold LOK lc2F at hq
  rw [wp_bind] at hq
  refine hi.ok Fz σ H δ _ hd.left hl (wp_mono hq (fun ds hx J H1 F1 g1 sv => ?_) fun x hx => hx)
  rw [wp_bind] at hx
  have hrd : RdOn X.K (S1 ++ (S3 ++ (S4 ++ S2))) F1 H1 (wipe σ vs) (wipeD δ vs) := (hd.right.grow g1).wipe
  have l1 : Live F1 H1 := g1.live hl
  intro Dd nD
  have nH : H Dd = none := none_of_same g1.same nD
  refine ⟨fun i m H => m = ds.length - i ∧ i ≤ ds.length ∧ ∃ Fi acc ya, Grow F1 H1 Fi H ∧ ¬ Fi Dd ∧ H Dd = some (.lst acc) ∧ RepAll X.K Fi H acc ya ∧ (lc2Go p (wipeD δ vs) ft gi p1 vs1 ft1 fe (ds.drop i)).wp (fun rest => (lstD (ya ++ rest)).wp _ _) _,
    ⟨ds.length, by omega, Nat.zero_le _, F1, [], [], .nw nD, fun z => l1 _ z nD, upd_same, .nil, hx⟩, ?_⟩
  rintro i m H2 ⟨rfl, hi2, Fi, acc, ya, g2, nF, eD, ra, hrest⟩
  by_cases hlt : i < ds.length
  · have hdd : ds.drop i = ds[i] :: ds.drop (i + 1) := List.drop_eq_getElem_cons hlt
    rw [hdd] at hrest
    unfold lc2Go at hrest
    rw [wp_bind] at hrest
    obtain ⟨δ1, hb, hrest⟩ := nEb hrest
    rw [wp_bind] at hrest
    obtain ⟨go, yl⟩ := sv.item Fi H2 (.of_same g2.same) g2.sub (g2.live l1) i ds[i] (List.getElem?_eq_getElem hlt)
    refine .inr ⟨go, fun H' => ∃ Fi acc ya, Grow F1 H1 Fi H' ∧ ¬ Fi Dd ∧ H' Dd = some (.lst acc) ∧ RepAll X.K Fi H' acc ya ∧ (lc2Go p (wipeD δ vs) ft gi p1 vs1 ft1 fe (ds.drop (i + 1))).wp (fun rest => (lstD (ya ++ rest)).wp _ _) _,
      fun H' h' => ⟨ds.length - (i + 1), by omega, rfl, hlt, h'⟩, fun x H3 hy => ?_⟩
    obtain ⟨F3, g3, r3⟩ := yl x H3 hy
    have g13 := g2.trans g3
    have nF3 : ¬ F3 Dd := fun z => (g3.new _ z).elim nF fun e => by rw [eD] at e; cases e
    refine hg' F3 H3 (fun σ2 δ2 => RdOn X.K (S1 ++ (S3 ++ (S4 ++ S2))) F3 H3 σ2 δ2 ∧ wipe σ2 vs = wipe σ vs) x ds[i] (wipe σ vs) (wipeD δ vs) _ (fun σ δ j v d hj hP r => ⟨RdOn.sets σ δ j v d hj hP.1 r, by rw [wipe_set (hp j hj)]; exact hP.2⟩) ⟨hrd.grow g13, wipe_wipe⟩ r3 ?_
    rw [hb]
    intro σ2 ⟨hr2, hw2⟩
    refine ⟨hw2, ?_⟩
    refine ht' F3 σ2 H3 δ1 _ hr2.left (g13.live l1) (wp_mono (nE_wpA hrest) (fun bt hbt H4 F4 g4 => ?_) fun x h => h)
    have nF4 : ¬ F4 Dd := fun z => (g4.new _ z).elim nF3 fun e => by rw [g3.same _ _ eD] at e; cases e
    have g14 := g13.trans g4
    cases bt with
    | true =>
      simp only [if_true] at hbt ⊢
      rw [wp_bind] at hbt
      refine hi1' F4 σ2 H4 δ1 _ (hr2.right.left.grow g4) (g14.live l1) (wp_mono (nE_wpA hbt) (fun es hes J1 H5 F5 g5 sv1 => ?_) fun x h => h)
      rw [wp_bind] at hes
      have g15 := g14.trans g5
      have nF5 : ¬ F5 Dd := fun z => (g5.new _ z).elim nF4 fun e => by rw [g4.same _ _ (g3.same _ _ eD)] at e; cases e
      have hr5 : RdOn X.K (S4 ++ S2) F5 H5 σ2 δ1 := hr2.right.right.grow (g4.trans g5)
      have g35 := g3.trans (g4.trans g5)
      refine ⟨fun j k H => k = es.length - j ∧ j ≤ es.length ∧ ∃ Fj acc zd, Grow F1 H1 Fj H ∧ Stay F5 H5 H ∧ (∀ a, F5 a → Fj a) ∧ ¬ Fj Dd ∧ H Dd = some (.lst acc) ∧ RepAll X.K Fj H acc (ya ++ zd) ∧ (lcGo p1 (wipeD δ1 vs1) ft1 fe (es.drop j)).wp (fun zr => (lc2Go p (wipeD δ vs) ft gi p1 vs1 ft1 fe (ds.drop (i + 1)) >>= fun ys => Res.ok ((zd ++ zr) ++ ys)).wp (fun rest => (lstD (ya ++ rest)).wp _ _) _) _,
        ⟨es.length, by omega, Nat.zero_le _, F5, acc, [], g15, .of_same fun _ _ e => e, fun _ h => h, nF5, g35.same _ _ eD, by rw [List.append_nil]; exact ra.grow g35, hes⟩, ?_⟩
      rintro j k H6 ⟨rfl, hj2, Fj, acc, zd, g6, st6, sub6, nF6, eD6, ra6, hrest1⟩
      by_cases hlt1 : j < es.length
      · have hdd1 : es.drop j = es[j] :: es.drop (j + 1) := List.drop_eq_getElem_cons hlt1
        rw [hdd1] at hrest1
        unfold lcGo at hrest1
        rw [wp_bind] at hrest1
        obtain ⟨δ3, hb1, hrest1⟩ := nEb hrest1
        rw [wp_bind] at hrest1
        obtain ⟨go1, yl1⟩ := sv1.item Fj H6 st6 sub6 (g6.live l1) j es[j] (List.getElem?_eq_getElem hlt1)
        refine .inr ⟨go1, fun H' => ∃ Fj acc zd, Grow F1 H1 Fj H' ∧ Stay F5 H5 H' ∧ (∀ a, F5 a → Fj a) ∧ ¬ Fj Dd ∧ H' Dd = some (.lst acc) ∧ RepAll X.K Fj H' acc (ya ++ zd) ∧ (lcGo p1 (wipeD δ1 vs1) ft1 fe (es.drop (j + 1))).wp (fun zr => (lc2Go p (wipeD δ vs) ft gi p1 vs1 ft1 fe (ds.drop (i + 1)) >>= fun ys => Res.ok ((zd ++ zr) ++ ys)).wp (fun rest => (lstD (ya ++ rest)).wp _ _) _) _,
          fun H' h' => ⟨es.length - (j + 1), by omega, rfl, hlt1, h'⟩, fun x7 H7 hy7 => ?_⟩
        obtain ⟨F7, g7, r7⟩ := yl1 x7 H7 hy7
        have g17 := g6.trans g7
        have nF7 : ¬ F7 Dd := fun z => (g7.new _ z).elim nF6 fun e => by rw [eD6] at e; cases e
        have hr7 : RdOn X.K (S4 ++ S2) F7 H7 (wipe σ2 vs1) (wipeD δ1 vs1) := ((hr5.stay st6 sub6).grow g7).wipe
        refine hg1' F7 H7 (fun σ3 δ3 => RdOn X.K (S4 ++ S2) F7 H7 σ3 δ3 ∧ wipe σ3 vs1 = wipe σ2 vs1) x7 es[j] (wipe σ2 vs1) (wipeD δ1 vs1) _ (fun σ δ j v d hj hP r => ⟨RdOn.sets σ δ j v d hj hP.1 r, by rw [wipe_set (hp1 j hj)]; exact hP.2⟩) ⟨hr7, wipe_wipe⟩ r7 ?_
        rw [hb1]
        intro σ3 ⟨hr3, hw3⟩
        refine ⟨hw3, ?_⟩
        refine ht1' F7 σ3 H7 δ3 _ hr3.left (g17.live l1) (wp_mono (nE_wpA hrest1) (fun bt1 hbt1 H8 F8 g8 => ?_) fun x h => h)
        have nF8 : ¬ F8 Dd := fun z => (g8.new _ z).elim nF7 fun e => by rw [g7.same _ _ eD6] at e; cases e
        have g78 := g7.trans g8
        cases bt1 with
        | true =>
          simp only [if_true] at hbt1 ⊢
          rw [wp_bind] at hbt1
          refine he' F8 σ3 H8 δ3 _ (hr3.right.grow g8) (g8.live (g17.live l1)) (wp_mono (nE_wpA hbt1) (fun y hy v H9 F9 g9 r9 => ?_) fun x h => h)
          rw [wp_bind] at hy
          have nF9 : ¬ F9 Dd := fun z => (g9.new _ z).elim nF8 fun e => by rw [g8.same _ _ (g7.same _ _ eD6)] at e; cases e
          have g69 := g78.trans g9
          have eD9 := g69.same _ _ eD6
          have g19 := g6.trans g69
          have st : Stay F9 H9 (upd H9 Dd (.lst (acc ++ [v]))) := .write nF9 eD9 ⟨(fun _ h => by cases h), (fun _ _ h => by cases h)⟩
          obtain ⟨zr', hC⟩ := wp_some (lcGo_quiet _) hy
          have hC2 := (wp_bind _ _ _ _).mp hC
          obtain ⟨ys', hf2⟩ := wp_some (lc2Go_quiet _) hC2
          have hlen2 : (ya ++ ((zd ++ (y :: zr')) ++ ys')).length ≤ sizeLine := (lstD_wp hf2).1
          have la := ra6.length
          refine ⟨acc, eD9, ?_, F9, acc ++ [v], zd ++ [y], ⟨same_upd2 g19.same nD, g19.sub, g19.new, fun l a z e => ?_⟩, (st6.then_same g69.same).then_write nF5 eD9, fun a h => g69.sub a (sub6 a h), nF9, upd_same, ?_, wp_mono hy (fun zr h => by rw [List.append_assoc zd]; exact h) fun x h => h⟩
          · rw [List.length_append] at la
            rw [List.length_append, List.length_append, List.length_append, List.length_cons] at hlen2
            omega
          · by_cases hz : a = Dd
            · subst hz; exact nF9 z
            · rw [upd_ne hz] at e
              exact g19.live l a z e
          · rw [← List.append_assoc]
            exact ((ra6.grow g69).app (.cons r9 .nil)).stay st fun _ h => h
        | false =>
          simp only [Bool.false_eq_true, if_false] at hbt1 ⊢
          exact ⟨F8, acc, zd, g6.trans g78, st6.then_same g78.same, fun a h => g78.sub a (sub6 a h), nF8, g78.same _ _ eD6, ra6.grow g78, hbt1⟩
      · have e : j = es.length := by omega
        subst e
        rw [List.drop_length] at hrest1
        have hrest1 : (lc2Go p (wipeD δ vs) ft gi p1 vs1 ft1 fe (ds.drop (i + 1)) >>= fun ys => Res.ok ((zd ++ []) ++ ys)).wp _ _ := hrest1
        rw [wp_bind] at hrest1
        exact .inl ⟨sv1.stop Fj H6 st6 sub6 (g6.live l1), Fj, acc, ya ++ zd, g6, nF6, eD6, ra6, wp_mono hrest1 (fun ys h => by
          have h : (lstD (ya ++ ((zd ++ []) ++ ys))).wp _ _ := h
          rw [List.append_nil, ← List.append_assoc] at h
          exact h) fun x h => h⟩
    | false =>
      simp only [Bool.false_eq_true, if_false] at hbt ⊢
      have g34 := g3.trans g4
      exact ⟨F4, acc, ya, g2.trans g34, nF4, g34.same _ _ eD, ra.grow g34, hbt⟩
  · have e : i = ds.length := by omega
    subst e
    rw [List.drop_length] at hrest
    have hrest : (lstD (ya ++ [])).wp _ _ := hrest
    rw [List.append_nil] at hrest
    obtain ⟨hlen, hfin⟩ := lstD_wp hrest
    exact .inl ⟨sv.stop Fi H2 (.of_same g2.same) g2.sub (g2.live l1), hfin Dd acc H2 Fi (g1.trans g2) nH nF eD hlen ra⟩
/-- x = [.. for .. for ..] on one line -/
theorem ds_setLc2 {i : Nat} {y : Str} {py spos : Pos} {g : DSt → Res (List PyData)} {p : Pat} {ft : DSt → Res Bool} {gi : DSt → Res (List PyData)} {p1 : Pat} {ft1 : DSt → Res Bool} {fe : DSt → Res PyData} (hy : X.N[i]? = some y) (hyl : X.env.scope.names.lookup y = some .local) (hsw : swapsWith (.ListComp elt [⟨tg, iter, ifs, 0⟩, ⟨tg1, iter1, ifs1, 0⟩] scope pos) (some (.Name y py)) spos.line X.env = pure true)
    (hc : X.calm = true) (hN : X.N.Nodup) (hi : DI X W S tg iter wi g) (ok : BlkOk X.N X.env.scope scope own) (hv : ∀ i ∈ vs1, i ∈ own.map (·.2))
    (hg : ∀ (s : Shared) (H : Hp) (C : Addr) (cl : List (Str × Addr)) (fp : List Addr), DG (X.blk s H scope (compEnvC scope cl C X.env) fp) tg gg p) (hp : ∀ i ∈ p.slots, i ∈ own.map (·.2))
    (ht : ∀ (s : Shared) (H : Hp) (C : Addr) (cl : List (Str × Addr)) (fp : List Addr), DTs (X.blk s H scope (compEnvC scope cl C X.env) fp) (fun _ => E0) S1 ifs tt ft)
    (hi1 : ∀ (s : Shared) (H : Hp) (C : Addr) (cl : List (Str × Addr)) (fp : List Addr), DI (X.blk s H scope (compEnvC scope cl C X.env) fp) (fun _ => E0) S3 tg1 iter1 wi1 gi)
    (hg1 : ∀ (s : Shared) (H : Hp) (C : Addr) (cl : List (Str × Addr)) (fp : List Addr), DG (X.blk s H scope (compEnvC scope cl C X.env) fp) tg1 gg1 p1) (hp1 : ∀ i ∈ p1.slots, i ∈ vs1)
    (ht1 : ∀ (s : Shared) (H : Hp) (C : Addr) (cl : List (Str × Addr)) (fp : List Addr), DTs (X.blk s H scope (compEnvC scope cl C X.env) fp) (fun _ => E0) S4 ifs1 tt1 ft1)
    (he : ∀ (s : Shared) (H : Hp) (C : Addr) (cl : List (Str × Addr)) (fp : List Addr), DE (X.blk s H scope (compEnvC scope cl C X.env) fp) (fun _ => E0) S2 elt te fe) (hs : ∀ x, foldedSetIterable iter X.env x = pure x := by intro _; rfl) (hs1 : ∀ env x, foldedSetIterable iter1 env x = pure x := by intro _ _; rfl) :
    DS X W (.Assign [.Name y py] (.ListComp elt [⟨tg, iter, ifs, 0⟩, ⟨tg1, iter1, ifs1, 0⟩] scope pos) spos) (tAsg (tLc2 wi gg tt wi1 gg1 tt1 te (own.map (·.2)) vs1) (gName i)) (asgO (S ++ (S1 ++ (S3 ++ (S4 ++ S2)))) (lc2F g p (own.map (·.2)) ft gi p1 vs1 ft1 fe) i) :=
  ⟨ps_setLc2 hc hN hy hyl hsw hi.pe ok hv (fun s H C cl fp => (hg s H C cl fp).pe) (fun s H C cl fp => (ht s H C cl fp).pe) (fun s H C cl fp => (hi1 s H C cl fp).pe) (fun s H C cl fp => (hg1 s H C cl fp).pe) (fun s H C cl fp => (ht1 s H C cl fp).pe) (fun s H C cl fp => (he s H C cl fp).pe) hs hs1, asgO_ok (df_lc2 (pos := pos) hc hN hi ok hv hg hp ht hi1 hg1 hp1 ht1 he hs hs1)⟩
end
end DL

set_option Elab.async false
set_option linter.all false
set_option maxRecDepth 100000
set_option maxHeartbeats 4000000
namespace DL
open PySem PySem.Spec L2
open PyProof.Rows hiding St

/-! ### max(xs, default=d) -/
section
variable {pg : Program} {wd : World} {B : Around} {Rr : Result → Shared → Prop} {It : Addr} {f1 f2 : List Addr} {m : Nat} {Pi : Nat → Value → Prop} {Si : Nat → Heap → Prop} {kw : List (Str × Value)}
abbrev bestObj (vs : Array Value) (c : Nat) : Obj := { cls := .type "list", dict := none, data := .seq vs c, slots := #[] }
theorem mx_nm : (toString "max" ++ toString ".loop" : String) = "max.loop" := by decide
theorem mx_more (Wk : Walks pg wd B.in1 It f1 f2 m Pi Si) (bt : Nat → Nat → Bool) (cm : CmpOf pg wd B.in1 .Gt Pi bt) (Z : Addr) (nz : Z ∉ f1) :
    ∀ (k j : Nat) (u : Shared) (b : Value) (c : Nat), m - (j + 1) = k → j + 1 ≤ m → Si (j + 1) u.heap → Pi (argBest bt j) b → u.heap.get? Z = some (bestObj #[b, b] c) →
    (∀ v h' t, Pi (argBest bt (m - 1)) v → (∀ x o, x ∉ f2 → x ≠ Z → u.heap.get? x = some o → h'.get? x = some o) → Rr (.ok (.ret v)) { u with heap := h', toks := t }) →
    codeAny (model pg wd) B (.builtin "max.loop" ⟨[.ref It, .none, .ref Z], kw⟩) Rr u
  | 0, j, u, b, c, hk, hj, hs, hp, hz, hR => by
    have e : j + 1 = m := by omega
    have nz2 : Z ∉ f2 := fun q => nz (Wk.sub _ q)
    refine codeAny_builtin F.entry_max_loop ((Around.under_plainId (A := B) F.plain_max_loop _).symm ▸ ?_)
    refine (show wpAny (model pg wd) B.in1 (seqItems? (.ref Z) >>= _) _ _ u from wpAny_bind (wpAny_seqItems hz rfl ?_))
    refine (show wpAny (model pg wd) B.in1 (tryCatch (pyNext (.ref It)) _ >>= _) _ _ u from wpAny_bind (wpAny_tryCatch (Wk.done u _ _ (e ▸ hs) fun h2 t kp => ?_)))
    refine (show wpAny (model pg wd) B.in1 (updateSeq Z (fun _ => #[]) >>= _) _ _ _ from wpAny_bind (wpAny_updateSeq (kp Z _ nz2 hz) rfl (wpAny_bind (wpAny_letGo (wpAny_pure ?_)))))
    exact hR b _ t (by rw [← e]; exact hp) fun x o n1 n2 q => (Heap.get?_update_other _ _ (Ne.symm n2)).trans (kp x o n1 q)
  | k + 1, j, u, b, c, hk, hj, hs, hp, hz, hR => by
    have nz2 : Z ∉ f2 := fun q => nz (Wk.sub _ q)
    have lt : j + 1 < m := by omega
    refine codeAny_builtin F.entry_max_loop ((Around.under_plainId (A := B) F.plain_max_loop _).symm ▸ ?_)
    refine (show wpAny (model pg wd) B.in1 (seqItems? (.ref Z) >>= _) _ _ u from wpAny_bind (wpAny_seqItems hz rfl ?_))
    refine (show wpAny (model pg wd) B.in1 (tryCatch (pyNext (.ref It)) _ >>= _) _ _ u from wpAny_bind (wpAny_tryCatch (Wk.item (j + 1) u _ _ lt hs fun v h2 t pv s2 kp => ?_)))
    have hz2 := kp Z _ nz2 hz
    refine (show wpAny (model pg wd) B.in1 (tryCatch (holding [v, v] (richCompare .Gt v b >>= _)) _ >>= _) _ _ _ from wpAny_bind (wpAny_tryCatch (wpAny_holding (wpAny_bind (cm (j + 1) (argBest bt j) v b _ _ _ pv hp ?_)))))
    refine wpAny_bind (wpAny_holding (wpAny_truthy_bool (wpAny_bind (wpAny_letGo (wpAny_pure ?_)))))
    cases q : bt (j + 1) (argBest bt j) with
    | false =>
      refine wpAny_bind (wpAny_letGo (mx_nm ▸ wpAny_pure ⟨plainId_quiet F.plain_max_loop _, ?_⟩))
      refine mx_more Wk bt cm Z nz k (j + 1) _ b c (by omega) lt s2 (by unfold argBest; rw [q]; exact hp) hz2 fun w h3 t3 pw k3 => ?_
      exact hR w h3 t3 pw fun x o n1 n2 e => k3 x o n1 n2 (kp x o n1 e)
    | true =>
      refine wpAny_bind (wpAny_updateSeq hz2 rfl (wpAny_bind (wpAny_letGo (mx_nm ▸ wpAny_pure ⟨plainId_quiet F.plain_max_loop _, ?_⟩))))
      refine mx_more Wk bt cm Z nz k (j + 1) _ v _ (by omega) lt (Wk.frame _ _ _ s2 fun x hx o e => (Heap.get?_update_other _ _ (fun z : Z = x => nz (z ▸ hx))).trans e) (by unfold argBest; rw [q]; exact pv) (Heap.get?_update_self _ hz2 rfl) fun w h3 t3 pw k3 => ?_
      exact hR w h3 t3 pw fun x o n1 n2 e => k3 x o n1 n2 ((Heap.get?_update_other _ _ (Ne.symm n2)).trans (kp x o n1 e))
theorem mx_first (Wk : Walks pg wd B.in1 It f1 f2 m Pi Si) (bt : Nat → Nat → Bool) (cm : CmpOf pg wd B.in1 .Gt Pi bt) (Z : Addr) (nz : Z ∉ f1) (h0 : 0 < m) {u : Shared} {c : Nat} (hs : Si 0 u.heap) (hz : u.heap.get? Z = some (bestObj #[] c))
    (hR : ∀ v h' t, Pi (argBest bt (m - 1)) v → (∀ x o, x ∉ f2 → x ≠ Z → u.heap.get? x = some o → h'.get? x = some o) → Rr (.ok (.ret v)) { u with heap := h', toks := t }) :
    codeAny (model pg wd) B (.builtin "max.loop" ⟨[.ref It, .none, .ref Z], kw⟩) Rr u := by
  have nz2 : Z ∉ f2 := fun q => nz (Wk.sub _ q)
  refine codeAny_builtin F.entry_max_loop ((Around.under_plainId (A := B) F.plain_max_loop _).symm ▸ ?_)
  refine (show wpAny (model pg wd) B.in1 (seqItems? (.ref Z) >>= _) _ _ u from wpAny_bind (wpAny_seqItems hz rfl ?_))
  refine (show wpAny (model pg wd) B.in1 (tryCatch (pyNext (.ref It)) _ >>= _) _ _ u from wpAny_bind (wpAny_tryCatch (Wk.item 0 u _ _ h0 hs fun v h2 t pv s2 kp => ?_)))
  have hz2 := kp Z _ nz2 hz
  refine (show wpAny (model pg wd) B.in1 (updateSeq Z (fun _ => #[v, v]) >>= _) _ _ _ from wpAny_bind (wpAny_updateSeq hz2 rfl (mx_nm ▸ wpAny_pure ⟨plainId_quiet F.plain_max_loop _, ?_⟩)))
  refine mx_more Wk bt cm Z nz _ 0 _ v _ rfl h0 (Wk.frame _ _ _ s2 fun x hx o e => (Heap.get?_update_other _ _ (fun z : Z = x => nz (z ▸ hx))).trans e) pv (Heap.get?_update_self _ hz2 rfl) fun w h3 t3 pw k3 => ?_
  exact hR w h3 t3 pw fun x o n1 n2 e => k3 x o n1 n2 ((Heap.get?_update_other _ _ (Ne.symm n2)).trans (kp x o n1 e))
theorem mx_none (Wk : Walks pg wd B.in1 It f1 f2 m Pi Si) (Z : Addr) (nz : Z ∉ f1) (h0 : m = 0) {u : Shared} {c : Nat} {d : Value} (hs : Si 0 u.heap) (hz : u.heap.get? Z = some (bestObj #[] c))
    (hR : ∀ h' t, (∀ x o, x ∉ f2 → x ≠ Z → u.heap.get? x = some o → h'.get? x = some o) → Rr (.ok (.ret d)) { u with heap := h', toks := t }) :
    codeAny (model pg wd) B (.builtin "max.loop" ⟨[.ref It, .none, .ref Z], [("default", d)]⟩) Rr u := by
  have nz2 : Z ∉ f2 := fun q => nz (Wk.sub _ q)
  subst h0
  refine codeAny_builtin F.entry_max_loop ((Around.under_plainId (A := B) F.plain_max_loop _).symm ▸ ?_)
  refine (show wpAny (model pg wd) B.in1 (seqItems? (.ref Z) >>= _) _ _ u from wpAny_bind (wpAny_seqItems hz rfl ?_))
  refine (show wpAny (model pg wd) B.in1 (tryCatch (pyNext (.ref It)) _ >>= _) _ _ u from wpAny_bind (wpAny_tryCatch (Wk.done u _ _ hs fun h2 t kp => ?_)))
  refine (show wpAny (model pg wd) B.in1 (rule _ >>= _) _ _ _ from wpAny_bind (wpAny_rule ?_))
  exact wpAny_pure (hR _ t fun x o n1 n2 q => kp x o n1 q)
theorem mx_args (a v : Value) : argsOk "max" ⟨[a], [(Str.ofString "default", v)]⟩ := by unfold argsOk; kernel_rfl
theorem mx_ints {u : Shared} {E : Value → Shared → Prop} {Q : Value → Shared → Prop} {l : Addr} {xs : Array (Int × Tok)} {d : Int} {td : Tok} (hh : B.handled = none) (hl : u.heap.IsList l (intItems xs))
    (h0 : xs.size = 0 → ∀ h' t, (∀ x o, u.heap.get? x = some o → h'.get? x = some o) → Q (.int d td) { u with heap := h', toks := t })
    (h1 : 0 < xs.size → ∀ v h' t, (intItems xs)[argBest (fun i j => decide (numAt xs i > numAt xs j)) (xs.size - 1)]? = some v → (∀ x o, u.heap.get? x = some o → h'.get? x = some o) → Q v { u with heap := h', toks := t }) :
    wpAny (model pg wd) B (call (.builtin "max") [.ref l] [(Str.ofString "default", .int d td)]) Q E u := by
  refine wpAny_call (codeAny_call_builtin F.plain_max F.entry_max ?_)
  simp only [checkBuiltinCall, F.kind_max]
  have rest : wpAny (model pg wd) B.in1 (Builtin.«max» ⟨[.ref l], [(Str.ofString "default", .int d td)]⟩) (fun fin s' => match fin with
      | .done f => (match (Except.ok f : Result) with | .ok (.ret v) => Q v s' | .ok _ => False | .error e => E e s')
      | .again c' => c'.quiet = true ∧ codeAny (model pg wd) B c' (fun r s' => match r with | .ok (.ret v) => Q v s' | .ok _ => False | .error e => E e s') s') E u := by
    show wpAny _ B.in1 (Builtin.Builtins.bindParams "max" ["key", "default"] 0 ⟨[], [(Str.ofString "default", .int d td)]⟩ >>= _) _ _ u
    refine wpAny_bind (wpAny_of_eq (show Builtin.Builtins.bindParams "max" ["key", "default"] 0 ⟨[], [(Str.ofString "default", .int d td)]⟩ = pure [none, some (.int d td)] from rfl) (wpAny_bind (wpAny_pure (wpAny_bind (iter_intList hl fun s2 e st hfp hlI => ?_)))))
    refine wpAny_bind (wpAny_newObj_type ?_)
    have lt : u.heap.objs.size < s2.heap.objs.size := hfp _ (by simp)
    have sz : s2.heap.objs.size ∉ [u.heap.objs.size, l] := fun hm => Nat.lt_irrefl _ (hfp _ hm)
    have Wk := Walks.list (prog := pg) (w := wd) (A := B.in1) hh u.heap.objs.size l hlI (intItems xs)
    have zs := Heap.get?_push_size s2.heap (o := bestObj #[] 0) rfl
    have old : ∀ x o, u.heap.get? x = some o → x ≠ u.heap.objs.size ∧ x ≠ s2.heap.objs.size ∧ (s2.heap.push (bestObj #[] 0)).get? x = some o := fun x o q => by
      have a := Heap.lt_size q
      refine ⟨Nat.ne_of_lt a, Nat.ne_of_lt (Nat.lt_trans a lt), Heap.get?_push_of_some _ ?_⟩
      rw [e]
      exact Heap.get?_push_of_some _ q
    have St0 := Wk.frame 0 s2.heap (s2.heap.push (bestObj #[] 0)) st fun b _ o q => Heap.get?_push_of_some _ q
    have eu : ∀ h' t, ({ s2 with heap := h', toks := t } : Shared) = { u with heap := h', toks := t } := fun h' t => by rw [e]
    rw [mx_nm]
    refine wpAny_pure ⟨plainId_quiet F.plain_max_loop _, ?_⟩
    by_cases hz : xs.size = 0
    · refine mx_none Wk _ sz (by simpa [intItems] using hz) St0 zs fun h' t kp => ?_
      have z := h0 hz h' t fun x o q => kp x o (fun hm => (old x o q).1 (by simpa using hm)) (old x o q).2.1 (old x o q).2.2
      rw [← eu] at z
      exact z
    · refine mx_first Wk _ (CmpOf.ints_gt (numAt xs) fun _ _ => intItems_at) _ sz (by simp [intItems]; omega) St0 zs fun v h' t hP kp => ?_
      have z := h1 (by omega) v h' t (by simpa [intItems] using hP) fun x o q => kp x o (fun hm => (old x o q).1 (by simpa using hm)) (old x o q).2.1 (old x o q).2.2
      rw [← eu] at z
      exact z
  cases hsig : Manifest.signature? "max" with
  | none => exact wpAny_pure rest
  | some sig =>
    have ok : Bind.checkArgs "max" sig ⟨[.ref l], [(Str.ofString "default", .int d td)]⟩ = pure () := by simpa only [argsOk, hsig] using mx_args (.ref l) (.int d td)
    simp only [ok]
    exact wpAny_pure rest
end
def rMaxDf (K : PySem.W.Frag) : List V → List V → Hp → VK → Prop := fun vs zs H Q => ∃ (a : Addr) (ns : List Int) (d : Int), vs = [V.ref a] ∧ zs = [.int d] ∧ SqL K H a (ns.map V.int) ∧ (ns = [] → Q (.int d) H) ∧ ∀ M, M ∈ ns → (∀ x ∈ ns, x ≤ M) → Q (.int M) H
section
variable {X : Cx} {W : WS} {U : XK} {S T : List Nat} {e d : Expr} {pos p : Pos} {te td : TE}
theorem cr_maxDf (hc : X.calm = true) : CallRK X (.builtin "max") [Str.ofString "default"] (rMaxDf X.K) := by
  intro pins s σ H vs zs us ws Q I r1 r2 h
  obtain ⟨a, ns, d, rfl, rfl, hs, h0, h1⟩ := h
  obtain ⟨its, rv, hl, _⟩ := I.list hs
  rw [Vals.ref1 r1]
  cases r2 with
  | cons rd rn =>
    cases rn
    obtain ⟨td, rfl⟩ := rd
    have hi := rv.ints
    obtain ⟨xs, e⟩ := hi.allInts.items
    have hn : numsOf (intItems xs).toList = ns := by rw [← e]; exact hi.numsOf
    rw [nums_intItems] at hn
    have hl := hl.isList
    rw [e] at hl
    refine mx_ints (I.ok.hd hc) hl (fun hz h' t kp => ⟨.int d, H, I.kept kp, ⟨_, rfl⟩, h0 ?_⟩) fun hz v h' t hv kp => ?_
    · rw [← hn]
      have : xs.toList = [] := by simpa using hz
      rw [this]; rfl
    · obtain ⟨tv, rfl⟩ := intItems_at hv
      obtain ⟨b1, b2⟩ := argBest_gt (numAt xs) (xs.size - 1)
      refine ⟨.int _, H, I.kept kp, ⟨_, rfl⟩, h1 _ ?_ fun x hx => ?_⟩
      · rw [← hn, numAt_eq]
        exact PySem.getD_mem (by rw [List.length_map, Array.length_toList]; omega)
      · rw [← hn] at hx
        obtain ⟨j, hj, rfl⟩ := mem_getD hx
        rw [List.length_map, Array.length_toList] at hj
        rw [← numAt_eq]
        exact b2 j (by omega)
def maxDfD (x y : PyData) : Res PyData := match x, y with
  | .list xs, .int d => (match intsO xs with | some [] => .ok (.int d) | some (z :: r) => .ok (.int (maxI (z :: r))) | none => .bot)
  | _, _ => .bot
theorem pk_one {te : TE} {n : Str} {kp : Pos} (h : PE X e te) : PK X [⟨some n, e, kp⟩] (tCons te tNil) := pk_cons h pk_nil
theorem de_maxDfK (K) {f g : DSt → Res PyData} {kp : Pos} (hc : X.calm = true) (hg : Gl X "max") (hm : X.mg "max" = none) (ha : DE X W S e te f) (hd : DE X W T d td g) (hK : X.K = K := by rfl) (hse : starEach [e] X.env = (false, eval e X.env) :: starEach [] X.env := by rfl)
    (he : backTo pos (starEach [e] X.env) = (false, eval e X.env) :: backTo pos (starEach [] X.env) := by rfl) (hpl : (backTo pos (starEach [e] X.env)).any (·.1) = false := by rfl)
    (hall : (backToKw pos (keywordEach [⟨some "default", d, kp⟩] X.env)).all (·.1.isSome) = true := by rfl) (hnone : (backToKw pos (keywordEach [⟨some "default", d, kp⟩] X.env)).any (·.1.isNone) = false := by rfl) (hks : (backToKw pos (keywordEach [⟨some "default", d, kp⟩] X.env)).filterMap (·.1) = [Str.ofString "default"] := by rfl) :
    DE X W (S ++ T) (.Call (.Name "max" p) [e] [⟨some "default", d, kp⟩] pos) (tCKw (rMaxDf K) (tCons te tNil) (tCons td tNil)) (b2 maxDfD f g) := by
  subst hK
  refine ⟨pe_callBK (cr_maxDf hc) hg hm (by decide +kernel) (pa_cons ha.pe pa_nil hse) (pk_one hd.pe) (by decide) (by decide) he hpl hall hnone hks, fun Fz σ H δ Q hr hl h => ?_⟩
  unfold EOK b2 at h
  rw [wp_bind] at h
  refine two ha.ok hd.ok hr hl (wp_mono h (fun x hx => ?_) fun x hx => hx)
  rw [wp_bind] at hx
  refine wp_mono hx (fun y hy v u H' F' g' l' r1 r2 => ?_) fun x hx => hx
  unfold maxDfD at hy
  cases x with
  | list xs =>
    cases y with
    | int i =>
      cases r2
      dsimp only at hy
      cases r1 with
      | lst h1 z1 a1 =>
        cases hq : intsO xs with
        | none => rw [hq] at hy; exact hy.elim
        | some c =>
          rw [hq] at hy
          have e1 := intsO_some hq
          subst e1
          have e2 := rep_row a1
          subst e2
          cases c with
          | nil => exact ⟨_, [], i, rfl, rfl, h1.sq, fun _ => hy _ H' F' g' (.int _), fun M hM => by cases hM⟩
          | cons z r =>
            refine ⟨_, z :: r, i, rfl, rfl, h1.sq, fun e => (by cases e), fun M hM hall => ?_⟩
            have : M = maxI (z :: r) := by
              have a := maxI_ge (z :: r) M hM
              have b := hall _ (maxI_mem (z :: r) (by simp))
              omega
            subst this
            exact hy _ H' F' g' (.int _)
    | _ => exact hy.elim
  | _ => cases y <;> exact hy.elim
end
end DL

set_option Elab.async false
set_option linter.all false
set_option maxRecDepth 100000
set_option maxHeartbeats 4000000
namespace DL
open PySem PySem.Spec L2
open PyProof.Rows hiding St

/-! ### list(range(..)) -/
def lrg1D (ds : List PyData) : Res (List PyData) := match ds with
  | [.int j] => if -(2 ^ 62) ≤ j ∧ j < 2 ^ 62 ∧ j ≤ 16777216 then .ok (rngL 0 j) else .bot
  | _ => .bot
def lrg2D (ds : List PyData) : Res (List PyData) := match ds with
  | [.int i, .int j] => if -(2 ^ 62) ≤ i ∧ i < 2 ^ 62 ∧ -(2 ^ 62) ≤ j ∧ j < 2 ^ 62 ∧ j - i ≤ 16777216 then .ok (rngL i j) else .bot
  | _ => .bot
theorem rep_rg {K : PySem.W.Frag} {Fz : FZ} {H : Hp} (a b : Int) : RepAll K Fz H (rgV a b) (rngL a b) := by
  unfold rgV rngL
  generalize List.range (b - a).toNat = l
  induction l with
  | nil => exact .nil
  | cons x l ih => exact .cons (.int _) ih
theorem rngL_len (a b : Int) : (rngL a b).length = (b - a).toNat := by unfold rngL; rw [List.length_map, List.length_range]
section
variable {X : Cx} {W : WS} {U : XK} {S T : List Nat} {a b : Expr} {pos p p2 pos2 : Pos} {ta tb : TE}
theorem df_listRg1K (K) {f : DSt → Res PyData} (hc : X.calm = true) (hg : Gl X "list") (hm : X.mg "list" = none) (hg2 : Gl X "range") (hm2 : X.mg "range" = none) (ha : DE X W S a ta f) (hK : X.K = K := by rfl)
    (na : starEach [a] X.env = (false, eval a X.env) :: starEach [] X.env := by rfl) (nr : starEach [.Call (.Name "range" p2) [a] [] pos2] X.env = (false, eval (.Call (.Name "range" p2) [a] [] pos2) X.env) :: starEach [] X.env := by rfl) :
    DF X W S (.Call (.Name "list" p) [.Call (.Name "range" p2) [a] [] pos2] [] pos) (tLstRg (tRg1 ta)) (fun δ => do let x ← f δ; lrg1D [x]) := by
  refine ⟨pe_listRg hc hg hm (prg_1 hg2 hm2 ha.pe na) nr, fun Fz σ H δ Q hd hl h => ?_⟩
  unfold LOK at h
  rw [wp_bind] at h
  refine ha.ok Fz σ H δ _ hd hl (wp_mono h (fun x hx v H1 F1 g1 r1 => ?_) fun x hx => hx)
  unfold lrg1D at hx
  split at hx
  · rename_i j e
    cases e
    cases r1
    split at hx
    · rename_i hb
      refine ⟨j, rfl, ⟨by decide, by decide, hb.1, hb.2.1, by have := hb.2.2; omega⟩, fun q nq => hx q _ _ F1 (g1.trans (.nw nq)) (none_of_same g1.same nq) (fun z => g1.live hl q z nq) upd_same (by rw [rngL_len, sizeLine_eq]; omega) (rep_rg _ _)⟩
    · exact hx.elim
  · exact hx.elim
theorem df_listRg2K (K) {f g : DSt → Res PyData} (hc : X.calm = true) (hg : Gl X "list") (hm : X.mg "list" = none) (hg2 : Gl X "range") (hm2 : X.mg "range" = none) (ha : DE X W S a ta f) (hb : DE X W T b tb g) (hK : X.K = K := by rfl)
    (na : starEach [a, b] X.env = (false, eval a X.env) :: starEach [b] X.env := by rfl) (nb : starEach [b] X.env = (false, eval b X.env) :: starEach [] X.env := by rfl) (hp : (backTo pos2 (starEach [b] X.env)).any (·.1) = false := by rfl)
    (nr : starEach [.Call (.Name "range" p2) [a, b] [] pos2] X.env = (false, eval (.Call (.Name "range" p2) [a, b] [] pos2) X.env) :: starEach [] X.env := by rfl) :
    DF X W (S ++ T) (.Call (.Name "list" p) [.Call (.Name "range" p2) [a, b] [] pos2] [] pos) (tLstRg (tRg2 ta tb)) (fun δ => do let x ← f δ; let y ← g δ; lrg2D [x, y]) := by
  refine ⟨pe_listRg hc hg hm (prg_2 hg2 hm2 ha.pe hb.pe na nb hp) nr, fun Fz σ H δ Q hd hl h => ?_⟩
  unfold LOK at h
  rw [wp_bind] at h
  refine two ha.ok hb.ok hd hl (wp_mono h (fun x hx => ?_) fun x hx => hx)
  rw [wp_bind] at hx
  refine wp_mono hx (fun y hy v u H' F' g' l' r1 r2 => ?_) fun x hx => hx
  unfold lrg2D at hy
  split at hy
  · rename_i i j e
    cases e
    cases r1
    cases r2
    split at hy
    · rename_i hb
      refine ⟨i, j, rfl, rfl, ⟨hb.1, hb.2.1, hb.2.2.1, hb.2.2.2.1, by have := hb.2.2.2.2; omega⟩, fun q nq => hy q _ _ F' (g'.trans (.nw nq)) (none_of_same g'.same nq) (fun z => l' q z nq) upd_same (by rw [rngL_len, sizeLine_eq]; omega) (rep_rg _ _)⟩
    · exact hy.elim
  · exact hy.elim
end
abbrev lrg1F (f : DSt → Res PyData) : DSt → Res (List PyData) := fun δ => do let x ← f δ; lrg1D [x]
abbrev lrg2F (f g : DSt → Res PyData) : DSt → Res (List PyData) := fun δ => do let x ← f δ; let y ← g δ; lrg2D [x, y]
end DL

set_option Elab.async false
set_option linter.all false
set_option maxRecDepth 100000
set_option maxHeartbeats 6400000
namespace DL
open PySem PySem.Spec L2
open PyProof.Rows hiding St

/-! ### set(xs) of a list or a tuple, whatever it holds -/
theorem push2 (h : Heap) (a b : Obj) (hb : b.isFreed = false := by rfl) : ((h.push a).push b).get? (h.objs.size + 1) = some b := by
  rw [show h.objs.size + 1 = (h.push a).objs.size from (Heap.size_push ..).symm]
  exact Heap.get?_push_size _ hb
def bornSet (w : World) : Obj := { cls := .type "set", dict := none, data := .set #[] 0 (.fresh 0 0 (!w.params.followText "set-order")) }
section
variable {P : Program} {w : World} {A : Around} {E : Value → Shared → Prop} {s : Shared}
/-- what the loop that fills the set must do, begun at the iterator `c` over the row at `l` -/
def Fills (P : Program) (w : World) (A : Around) (E : Value → Shared → Prop) (s : Shared) (it : Obj) (R : Heap → Prop) : Prop :=
  codeAny (model P w) A.in1.in1 (.builtin "set.update.loop" ⟨[.ref s.heap.objs.size, .ref (s.heap.objs.size + 1)], []⟩)
    (fun r z => r = .ok (.ret .none) ∧ ∃ h1 t1, z = { s with heap := h1, toks := t1 } ∧ R h1) { s with heap := (s.heap.push (bornSet w)).push it }
/-- set(xs): made empty, then filled by its loop -/
theorem set_fill {l : Addr} {cl} {od} {items : Array Value} {nl} {os} {it : Obj} {R : Heap → Prop} {Q : Value → Shared → Prop}
    (at0 : s.heap.get? l = some { cls := .type cl, dict := od, data := .seq items nl, slots := os })
    (n1 : isSubtype (.type cl) (.type "set") = pure false) (n2 : isSubtype (.type cl) (.type "frozenset") = pure false) (n3 : (Value.type cl == Value.type "dict") = false)
    (iter : ∀ (B : Around) (E' : Value → Shared → Prop) (z : Shared) (Q' : Value → Shared → Prop), z.heap.get? l = some { cls := .type cl, dict := od, data := .seq items nl, slots := os } → Q' (.ref z.heap.objs.size) { z with heap := z.heap.push it } → wpAny (model P w) B (pyIter (.ref l)) Q' E' z)
    (fills : Fills P w A E s it R) (fin : ∀ h1 t1, R h1 → Q (.ref s.heap.objs.size) { s with heap := h1, toks := t1 }) :
    wpAny (model P w) A (call (.type "set") [.ref l]) Q E s := by
  have ⟨c0, tl0, mro0⟩ := F.called_set.mro
  have made0 := F.called_set.made
  have sub0 := F.called_set.sub
  refine wpAny_call (codeAny_of_tree ?_)
  show wpAny _ _ (callAny (Value.type "set") _) _ _ _
  refine wpAny_pure ⟨Code.quiet_builtin _ (by decide +kernel), ?_⟩
  refine codeAny_builtin F.entry_type_call ?_
  rw [Around.under_plain (weight_type_call_type "set" [.ref l] []) rfl]
  have nt0 := F.called_set.notType
  have cc0 := F.called_set.canCreate
  have tc0 := F.typeCall_set_1 (.ref l)
  repeat (any_goals (first | assumption | wp_step))
  refine codeAny_mono (code_set_led1 (Value.ref l) (E := E) (Q₁ := fun v z => v = .ref s.heap.objs.size ∧ z = { s with heap := s.heap.push (bornSet w) }) ⟨rfl, rfl⟩) fun r z hz => ?_
  match r, hz with
  | .error e, hz => exact hz
  | .ok (.ret v), ⟨e1, e2⟩ =>
    subst e1 e2
    have here : (s.heap.push (bornSet w)).get? s.heap.objs.size = some (bornSet w) := Heap.get?_push_size _ rfl
    have isset : Shared.TypeIs { s with heap := s.heap.push (bornSet w) } (.ref s.heap.objs.size) "set" := ⟨_, here, rfl⟩
    have lk0 := F.called_set.init.lookup
    have bd0 := F.called_set.init.bind (Value.ref s.heap.objs.size)
    repeat (any_goals (first | assumption | wp_step))
    refine codeAny_mono (codeAny_call_builtin (R := wants (fun r z => r = .none ∧ ∃ h1 t1, z = { s with heap := h1, toks := t1 } ∧ R h1) E) F.called_set.init.plain F.entry_set_init (check_set_init_1 isset ?_)) fun r2 z2 hz2 => ?_
    · have at1 : (s.heap.push (bornSet w)).get? l = some { cls := .type cl, dict := od, data := .seq items nl, slots := os } := Heap.get?_push_of_some _ at0
      unfold Builtin.«set.__init__» noKeywords Builtin.Frozenset.updateFrom
      generalize pI : pyIter = PI
      wp_walk
      subst pI
      refine iter _ _ _ _ at1 ?_
      refine wpAny_bind (wpAny_runValue ?_)
      have e0 : (s.heap.push (bornSet w)).objs.size = s.heap.objs.size + 1 := Heap.size_push ..
      dsimp only at e0 ⊢
      rw [e0]
      refine codeAny_mono fills fun r z hz => ?_
      obtain ⟨rfl, h1, t1, rfl, hR⟩ := hz
      exact wpAny_pure (wpAny_pure ⟨rfl, h1, t1, rfl, hR⟩)
    · match r2, hz2 with
      | .error e, hz2 => exact hz2
      | .ok (.ret v), ⟨e1, h1, t1, e2, hR⟩ =>
        subst e1 e2
        repeat (any_goals (first | assumption | wp_step))
        exact fin h1 t1 hR
/-- the loop over a row of whole numbers -/
theorem fills_ints {l : Addr} {items : Array Value} {it : Obj} {St : Nat → Heap → Prop} (ns : List Int)
    (W : Walks P w A.in1.in1.in1 (s.heap.objs.size + 1) [s.heap.objs.size + 1, l] [s.heap.objs.size + 1] items.size (fun i v => items[i]? = some v) St) (st0 : St 0 ((s.heap.push (bornSet w)).push it))
    (old : l < s.heap.objs.size) (hi : IntsAre items.toList ns) (hb : ns.length + 1 < scanBound) :
    Fills P w A E s it (fun h1 => ∃ c, c ≤ ns.length ∧ SetR w h1 s.heap.objs.size (fun j => decide (j ∈ ns)) c ∧ ∀ b o, s.heap.get? b = some o → h1.get? b = some o) := by
  have len : items.size = ns.length := by
    have := hi.length
    rwa [Array.length_toList] at this
  have p1 : (s.heap.push (bornSet w)).get? s.heap.objs.size = some (bornSet w) := Heap.get?_push_size _ rfl
  unfold Fills
  refine set_update_ints W.toS s.heap.objs.size ?_ ns len hb (fun i v hv => ?_) _ 0 _ rfl (Nat.zero_le _) st0 ⟨0, Nat.le_refl _, setR_new_at (Heap.get?_push_of_some _ p1)⟩ fun z c mv hc hS => ?_
  · intro h
    rcases List.mem_cons.mp h with h | h
    · exact absurd h (Nat.ne_of_lt (Nat.lt_succ_self _))
    · exact absurd (List.mem_singleton.mp h) (Nat.ne_of_gt old)
  · have lt : i < ns.length := by
      rw [← len]
      exact (Array.getElem?_eq_some_iff.mp hv).1
    obtain ⟨t, e⟩ := PyProof.Rows.IntsAre.int_at hi i v (by rw [Array.getElem?_toList]; exact hv)
    exact ⟨ns[i], t, List.getElem?_eq_getElem lt, by rw [e, List.getD_eq_getElem?_getD, List.getElem?_eq_getElem lt]; rfl⟩
  · rw [len] at hc
    have eg := mv.gens
    have ed := mv.drawn
    have eo := mv.os
    refine ⟨rfl, z.heap, z.toks, ?_, c, hc, hS, fun b o e => ?_⟩
    · obtain ⟨zh, zg, zd, zt, zo⟩ := z
      cases eg
      cases ed
      cases eo
      rfl
    · have lb := Heap.lt_size e
      refine mv.heap b o (fun h => ?_) (Heap.get?_push_of_some _ (Heap.get?_push_of_some _ e))
      rcases List.mem_cons.mp h with h | h
      · exact absurd h (Nat.ne_of_lt lb)
      · exact absurd (List.mem_singleton.mp h) (Nat.ne_of_lt (Nat.lt_succ_of_lt lb))
/-- the loop over a row of tuples -/
theorem fills_tups {l : Addr} {items : Array Value} {it : Obj} {St : Nat → Heap → Prop} (ks : List (Addr × List Int))
    (W : Walks P w A.in1.in1.in1 (s.heap.objs.size + 1) [s.heap.objs.size + 1, l] [s.heap.objs.size + 1] items.size (fun i v => items[i]? = some v) St) (st0 : St 0 ((s.heap.push (bornSet w)).push it))
    (old : l < s.heap.objs.size) (hi : items.toList = ks.map fun p => Value.ref p.1) (hk : ∀ p ∈ ks, IsT P w s.heap p.2 p.1) (few : ks.length < 64) (hu : A.units + 3 < cLine) :
    Fills P w A E s it (fun h1 => ∃ L es ep t, SetTR P w h1 s.heap.objs.size L es ep t ∧ Got ks ks.length L ∧ ∀ b o, s.heap.get? b = some o → h1.get? b = some o) := by
  have len : items.size = ks.length := by
    rw [← Array.length_toList, hi, List.length_map]
  have p1 : (s.heap.push (bornSet w)).get? s.heap.objs.size = some (bornSet w) := Heap.get?_push_size _ rfl
  have no : ∀ b, s.heap.objs.size ≤ b → s.heap.get? b = none := fun b hb => by
    match q : s.heap.get? b with
    | none => rfl
    | some o => exact absurd (Nat.lt_of_lt_of_le (Heap.lt_size q) hb) (Nat.lt_irrefl _)
  unfold Fills
  refine set_update_tups W.toS s.heap.objs.size ?_ ks len few (fun i v hv => ?_) s.heap hk (no _ (Nat.le_refl _)) (fun b hb => ?_) (by show A.units + 1 + 1 + 1 < cLine; omega) _ 0 _ rfl (Nat.zero_le _) st0
    (fun b o e => Heap.get?_push_of_some _ (Heap.get?_push_of_some _ e)) ⟨[], #[], 0, _, setTR_fresh (Heap.get?_push_of_some _ p1), Got.zero ks⟩ fun z L es ep t mv hS g kp => ?_
  · intro h
    rcases List.mem_cons.mp h with h | h
    · exact absurd h (Nat.ne_of_lt (Nat.lt_succ_self _))
    · exact absurd (List.mem_singleton.mp h) (Nat.ne_of_gt old)
  · have e : (ks.map fun p => Value.ref p.1)[i]? = some v := by rw [← hi, Array.getElem?_toList]; exact hv
    rw [List.getElem?_map] at e
    obtain ⟨p, e1, e2⟩ := Option.map_eq_some_iff.mp e
    exact ⟨p, e1, e2.symm⟩
  · rw [List.mem_singleton.mp hb]
    exact no _ (Nat.le_succ _)
  · rw [len] at g
    have eg := mv.gens
    have ed := mv.drawn
    have eo := mv.os
    refine ⟨rfl, z.heap, z.toks, ?_, L, es, ep, t, hS, g, kp⟩
    obtain ⟨zh, zg, zd, zt, zo⟩ := z
    cases eg
    cases ed
    cases eo
    rfl
end
section
variable {X : Cx}
/-- set(xs), xs a list or a tuple of whole numbers -/
def rSetOI (K : PySem.W.Frag) (w : World) : List V → Hp → VK → Prop := fun xs H Q => ∃ (l : Addr) (ns : List Int), xs = [V.ref l] ∧ (SqL K H l (ns.map V.int) ∨ SqT K H l (ns.map V.int)) ∧ ns.length < 64 ∧
  ∀ a n, H a = none → n ≤ ns.length → Q (.ref a) (upd H a (SetO w a (fun j => decide (j ∈ ns)) n))
theorem cr_setOI (hc : X.calm = true) : CallR X (.type "set") (rSetOI X.K X.w) := by
  intro pins s σ H xs us Q I r h
  obtain ⟨l, ns, rfl, hl, few, q⟩ := h
  rw [Vals.ref1 r]
  have hn : H s.heap.objs.size = none := I.hok.fresh (Nat.le_refl _)
  have fin : ∀ (h1 : Heap) (t1 : Nat), (∃ c, c ≤ ns.length ∧ SetR X.w h1 s.heap.objs.size (fun j => decide (j ∈ ns)) c ∧ ∀ b o, s.heap.get? b = some o → h1.get? b = some o) → EP X pins σ Q (.ref s.heap.objs.size) { s with heap := h1, toks := t1 } := fun h1 t1 ⟨c, hcn, R, k⟩ =>
    ⟨.ref _, _, I.laid (t' := t1) k (Nat.le_refl _) (setO_new R), rfl, q _ c hn hcn⟩
  have hd := I.ok.hd hc
  have hd3 : X.A.in1.in1.in1.handled = none := by simp [hd]
  have big : ns.length + 1 < scanBound := by unfold scanBound; omega
  have e1 : (s.heap.push (bornSet X.w)).objs.size = s.heap.objs.size + 1 := Heap.size_push ..
  rcases hl with hl | hl
  · obtain ⟨its, rv, pl, hz⟩ := I.list hl
    have il := pl.isList
    obtain ⟨⟨oc, od, odt, osl⟩, ho, hcl, nl, hdt⟩ := il
    cases hcl
    cases hdt
    have old := Heap.lt_size ho
    exact set_fill (it := { cls := .type "list_iterator", data := .fields #[.ref l, .int 0 0] }) ho F.sub_list_set F.sub_list_frozenset (by decide) (fun B E' z Q' hz q => wpAny_pyIter_list ⟨_, hz, rfl, _, rfl⟩ q)
      (fills_ints ns (Walks.list hd3 (s.heap.objs.size + 1) l (Nat.ne_of_lt (Nat.lt_succ_of_lt old)) its.toArray) ⟨⟨_, push2 _ _ _, rfl, rfl⟩, ⟨_, Heap.get?_push_of_some _ (Heap.get?_push_of_some _ ho), rfl, _, rfl⟩⟩ old (ints_of_vals rv) big) fin
  · obtain ⟨its, rv, pt, hz⟩ := I.tuple hl
    obtain ⟨⟨oc, od, odt, osl⟩, ho, hcl, nl, hdt⟩ := pt
    cases hcl
    cases hdt
    have old := Heap.lt_size ho
    exact set_fill (it := { cls := .type "tuple_iterator", data := .fields #[.ref l, .int 0 0] }) ho F.sub_tuple_set F.sub_tuple_frozenset (by decide) (fun B E' z Q' hz q => wpAny_pyIter_tuple ⟨_, hz, rfl, _, rfl⟩ q)
      (fills_ints ns (Walks.tuple hd3 (s.heap.objs.size + 1) l (Nat.ne_of_lt (Nat.lt_succ_of_lt old)) its.toArray) ⟨⟨_, push2 _ _ _, rfl, rfl⟩, ⟨_, Heap.get?_push_of_some _ (Heap.get?_push_of_some _ ho), rfl, _, rfl⟩⟩ old (ints_of_vals rv) big) fin
/-- set(xs), xs a tuple of tuples of whole numbers -/
def rSetTT (K : PySem.W.Frag) (P : Program) (w : World) : List V → Hp → VK → Prop := fun xs H Q => ∃ (l : Addr) (ks : List (Addr × List Int)), xs = [V.ref l] ∧ (SqL K H l (ks.map fun p => V.ref p.1) ∨ SqT K H l (ks.map fun p => V.ref p.1)) ∧ (∀ p ∈ ks, SqT K H p.1 (p.2.map V.int)) ∧ ks.length < 64 ∧
  ∀ a L, H a = none → (∀ p ∈ L, p ∈ ks) → (∀ p ∈ ks, p.2 ∈ L.map (·.2)) → Q (.ref a) (upd H a (SetTO P w a L))
theorem cr_setTT (hc : X.calm = true) (hu : X.A.units + 64 < cLine) : CallR X (.type "set") (rSetTT X.K X.prog X.w) := by
  intro pins s σ H xs us Q I r h
  obtain ⟨l, ks, rfl, hl, hk, few, q⟩ := h
  rcases hl with hl | hl
  · exact cr_setOfT hc hu pins s σ H _ us Q I r ⟨l, ks, rfl, hl, hk, few, q⟩
  rw [Vals.ref1 r]
  have hn : H s.heap.objs.size = none := I.hok.fresh (Nat.le_refl _)
  have hd := I.ok.hd hc
  have hd3 : X.A.in1.in1.in1.handled = none := by simp [hd]
  have e1 : (s.heap.push (bornSet X.w)).objs.size = s.heap.objs.size + 1 := Heap.size_push ..
  obtain ⟨its, rv, pt, hz⟩ := I.tuple hl
  obtain ⟨⟨oc, od, odt, osl⟩, ho, hcl, nl, hdt⟩ := pt
  cases hcl
  cases hdt
  have old := Heap.lt_size ho
  refine set_fill (it := { cls := .type "tuple_iterator", data := .fields #[.ref l, .int 0 0] }) ho F.sub_tuple_set F.sub_tuple_frozenset (by decide) (fun B E' z Q' hz q => wpAny_pyIter_tuple ⟨_, hz, rfl, _, rfl⟩ q)
      (fills_tups ks (Walks.tuple hd3 (s.heap.objs.size + 1) l (Nat.ne_of_lt (Nat.lt_succ_of_lt old)) its.toArray) ⟨⟨_, push2 _ _ _, rfl, rfl⟩, ⟨_, Heap.get?_push_of_some _ (Heap.get?_push_of_some _ ho), rfl, _, rfl⟩⟩ old (by simpa using refs_of_vals rv) (fun p hp => I.isT (hk p hp)) few (by omega)) ?_
  rintro h1 t1 ⟨L, es, ep, t, R, g, k⟩
  refine ⟨.ref _, _, I.laid (t' := t1) k (Nat.le_refl _) (setTO_new R.t0), rfl, q _ L hn (fun p hp => List.mem_of_mem_take (g.sub p hp)) fun p hp => g.all p ?_⟩
  rwa [List.take_length]
end
end DL

set_option Elab.async false
set_option linter.all false
set_option maxRecDepth 100000
set_option maxHeartbeats 6400000
namespace DL
open PySem PySem.Spec L2
open PyProof.Rows hiding St

/-! ### sorted(set(xs)): xs a list or a tuple, of whole numbers or of tuples of them -/
def intO : PyData → Option Int
  | .int i => some i
  | _ => none
def whO : List PyData → Option (List Int)
  | [] => some []
  | d :: ds => match intO d, whO ds with | some i, some l => some (i :: l) | _, _ => none
theorem whO_some : ∀ {ds : List PyData} {is : List Int}, whO ds = some is → ds = iL is
  | [], is, h => by cases h; rfl
  | d :: ds, is, h => by
    unfold whO at h
    split at h
    · rename_i i l h1 h2
      cases h
      rw [whO_some h2]
      cases d with
      | int j => cases h1; rfl
      | _ => cases h1
    · cases h
theorem whO_map : ∀ is : List Int, whO (is.map .int) = some is
  | [] => rfl
  | i :: is => by rw [List.map_cons, whO, whO_map is]; rfl
/-- sorted(set(ns)), whole numbers -/
def sortUI (ns : List Int) : List Int := (ddup ns).mergeSort fun a b => decide (a ≤ b)
theorem sortUI_lt (ns : List Int) : (sortUI ns).Pairwise (· < ·) := by
  have h1 : (sortUI ns).Pairwise (· ≤ ·) := (List.pairwise_mergeSort (fun x y z h1 h2 => by simp at *; omega) (fun x y => by simp; omega) (ddup ns)).imp fun h => by simpa using h
  have h2 : (sortUI ns).Nodup := (List.mergeSort_perm (ddup ns) _).nodup_iff.mpr (ddup_nodup ns)
  exact (h1.and h2).imp fun ⟨a, b⟩ => by omega
theorem sortUI_mem {ns : List Int} {k : Int} : k ∈ sortUI ns ↔ k ∈ ns := by
  unfold sortUI
  rw [(List.mergeSort_perm (ddup ns) _).mem_iff, ddup_mem]
theorem lt_ext : ∀ {a b : List Int}, a.Pairwise (· < ·) → b.Pairwise (· < ·) → (∀ k, k ∈ a ↔ k ∈ b) → a = b := fun {a b} ha hb h =>
  List.Perm.eq_of_pairwise (le := (· < ·)) (fun x y _ _ h1 h2 => by omega) ha hb ((List.perm_ext_iff_of_nodup (ha.imp fun h => by omega) (hb.imp fun h => by omega)).mpr h)
theorem sortUI_of {ns ms : List Int} (hp : ms.Pairwise (· < ·)) (h : ∀ k, k ∈ ms ↔ k ∈ ns) : ms = sortUI ns := lt_ext hp (sortUI_lt ns) fun k => by rw [h, sortUI_mem]
def sortSetL (ds : List PyData) : Res (List PyData) := if ds.length < 64 then (match tupsO ds with | some cs => .ok ((sortU cs).map tI) | none => (match whO ds with | some ns => .ok ((sortUI ns).map .int) | none => .bot)) else .bot
def sortSetA (d : PyData) : Res (List PyData) := match d with
  | .list ds => sortSetL ds
  | .tuple ds => sortSetL ds
  | _ => .bot
theorem sortSetA_T {cs : List (List Int)} (h : cs.length < 64) : sortSetA (.tuple (cs.map tI)) = .ok ((sortU cs).map tI) := by
  show sortSetL _ = _
  unfold sortSetL
  rw [List.length_map, if_pos h, tupsO_map]
theorem sortSetA_L {cs : List (List Int)} (h : cs.length < 64) : sortSetA (.list (cs.map tI)) = .ok ((sortU cs).map tI) := sortSetA_T h
theorem sortSetA_I {ns : List Int} (h : ns.length < 64) : sortSetA (.list (ns.map .int)) = .ok ((sortUI ns).map .int) := by
  show sortSetL _ = _
  unfold sortSetL
  rw [List.length_map, if_pos h, whO_map]
  cases ns with
  | nil => simp [tupsO, sortU, sortUI, ddup]
  | cons i ns => rfl
theorem sortSetA_IT {ns : List Int} (h : ns.length < 64) : sortSetA (.tuple (ns.map .int)) = .ok ((sortUI ns).map .int) := sortSetA_I h
def rSetA (K : PySem.W.Frag) (P : Program) (w : World) : List V → Hp → VK → Prop := fun vs H Q => rSetTT K P w vs H Q ∨ rSetOI K w vs H Q
theorem cr_setA {X : Cx} (hc : X.calm = true) (hu : X.A.units + 64 < cLine) : CallR X (.type "set") (rSetA X.K X.prog X.w) := by
  intro pins s σ H vs us Q I r h
  rcases h with h | h
  · exact cr_setTT hc hu pins s σ H vs us Q I r h
  · exact cr_setOI hc pins s σ H vs us Q I r h
def rSortA (K : PySem.W.Frag) (P : Program) (w : World) : List V → Hp → VK → Prop := fun vs H Q => rSortS K P w vs H Q ∨ rSortedSet w vs H Q
theorem cr_sortA {X : Cx} (hu : X.A.units + 130 < cLine) (hc : X.calm = true) : CallR X (.builtin "sorted") (rSortA X.K X.prog X.w) := by
  intro pins s σ H vs us Q I r h
  rcases h with h | h
  · exact cr_sortedS hu hc pins s σ H vs us Q I r h
  · exact cr_sortedSet hc pins s σ H vs us Q I r h
theorem ddup_len {α : Type} [DecidableEq α] (l : List α) : (ddup l).length ≤ l.length := by
  induction l with
  | nil => exact Nat.le_refl _
  | cons x l ih =>
    unfold ddup
    split
    · rw [List.length_cons]; omega
    · rw [List.length_cons, List.length_cons]; omega
theorem rep_ints {K : PySem.W.Frag} {Fz : FZ} {H : Hp} : ∀ {c : List Int} {vs : List V}, RepAll K Fz H vs (iL c) → vs = c.map V.int
  | [], _, .nil => rfl
  | i :: c, _, .cons h r => by
    cases h
    rw [rep_ints r]
    rfl
theorem rep_ofInts {K : PySem.W.Frag} {Fz : FZ} {H : Hp} : ∀ c : List Int, RepAll K Fz H (c.map V.int) (iL c)
  | [] => .nil
  | i :: c => .cons (.int i) (rep_ofInts c)
section
variable {X : Cx} {W : WS} {S : List Nat} {e : Expr} {pos p p2 pos2 : Pos} {te : TE}
theorem sortA_core {K : PySem.W.Frag} {P : Program} {w : World} {F1 : FZ} {H1 : Hp} {l : Addr} {vs : List V} {ds out : List PyData} {Q : VK}
    (hs : SqL K H1 l vs ∨ SqT K H1 l vs) (lv1 : Live F1 H1) (rr : RepAll K F1 H1 vs ds) (ho : sortSetL ds = .ok out)
    (q : ∀ (p : Addr) (a : Addr) (H2 : Hp) (ws : List V), H1 a = none → Grow F1 H1 F1 H2 → H2 p = none → RepAll K F1 H2 ws out → out.length ≤ sizeLine → Q (.ref p) (upd H2 p (.lst ws))) :
    rSetA K P w [V.ref l] H1 fun y H2 => rSortA K P w [y] H2 Q := by
  unfold sortSetL at ho
  split at ho
  · rename_i few
    have h1000 : (64 : Nat) ≤ sizeLine := by rw [sizeLine_eq]; decide
    split at ho
    · rename_i cs hcs
      cases ho
      rw [tupsO_some hcs] at rr few
      rw [List.length_map] at few
      obtain ⟨ks, e1, e2, e3⟩ := rep_tups rr
      subst e1
      refine .inl ⟨_, ks, rfl, hs, fun p hp => (e3 p hp).1, by rw [← List.length_map (f := fun q : Addr × List Int => q.2), e2]; exact few, fun a L na l1 l2 => .inl ?_⟩
      have gg : Grow F1 H1 F1 (upd H1 a (SetTO P w a L)) := .nw na
      refine ⟨a, L, rfl, upd_same, fun p hp => SqT.stay (Fz := F1) (.of_same gg.same) (e3 p (l1 p hp)).1, fun L1 pm nd l nl => ?_⟩
      have all : ∀ M : List (Addr × List Int), (∀ p ∈ M, p ∈ ks) → RepAll K F1 (upd H1 a (SetTO P w a L)) (M.map fun p => V.ref p.1) (M.map fun p => tI p.2) := by
        intro M
        induction M with
        | nil => exact fun _ => .nil
        | cons p M ih => exact fun h => .cons ((e3 p (h p List.mem_cons_self)).2.grow gg) (ih fun q hq => h q (List.mem_cons_of_mem _ hq))
      have hlen : ((sortU cs).map tI).length ≤ sizeLine := by
        have := ddup_len cs
        rw [List.length_map]
        unfold sortU
        rw [List.length_mergeSort]
        omega
      have same : sortL (L1.map fun p => tI p.2) = (sortU cs).map tI := by
        have := sortU_of (cs := cs) nd fun c => by
          rw [← e2]
          constructor
          · intro h
            obtain ⟨p, hp, rfl⟩ := List.mem_map.mp h
            exact List.mem_map_of_mem (l1 p (pm.mem_iff.mp hp))
          · intro h
            obtain ⟨p, hp, rfl⟩ := List.mem_map.mp h
            exact (pm.map (·.2)).mem_iff.mpr (l2 p hp)
        rwa [List.map_map] at this
      have rall := all L1 fun p hp => l1 p (pm.mem_iff.mp hp)
      have back := rep_of_zip (ps := ((L1.map fun p => V.ref p.1).zip (L1.map fun p => tI p.2)).mergeSort (PySem.W.dataLe false (fun p : V × PyData => p.2))) (fun p hp => zip_rep rall p ((List.mergeSort_perm _ _).mem_iff.mp hp))
      rw [mergeSort_snd, zip_snd rall, same] at back
      exact q l a _ _ na gg nl back hlen
    · split at ho
      · rename_i ns hns
        cases ho
        rw [whO_some hns] at rr few
        have few2 : ns.length < 64 := by
          have : (iL ns).length = ns.length := List.length_map _
          omega
        have e1 := rep_ints rr
        subst e1
        refine .inr ⟨_, ns, rfl, hs, few2, fun a n na hn => .inr ⟨a, _, n, rfl, upd_same, by omega, fun ms p pw mem len np => ?_⟩⟩
        have same : ms = sortUI ns := sortUI_of pw fun k => by rw [mem]; simp
        rw [same]
        refine q p a _ _ na (.nw na) np (rep_ofInts _) ?_
        have := ddup_len ns
        rw [List.length_map]
        unfold sortUI
        rw [List.length_mergeSort]
        omega
      · cases ho
  · cases ho
theorem df_sortSetA (K) (P : Program) (w : World) {f : DSt → Res PyData} (hu : X.A.units + 130 < cLine) (hc : X.calm = true) (hg : Gl X "sorted") (hm : X.mg "sorted" = none) (hg2 : Gl X "set") (hm2 : X.mg "set" = none) (ha : DE X W S e te f) (hK : X.K = K := by rfl) (hP : X.prog = P := by rfl) (hw : X.w = w := by rfl)
    (he : starEach [e] X.env = (false, eval e X.env) :: starEach [] X.env := by rfl) (he2 : starEach [.Call (.Name "set" p2) [e] [] pos2] X.env = (false, eval (.Call (.Name "set" p2) [e] [] pos2) X.env) :: starEach [] X.env := by rfl) :
    DF X W S (.Call (.Name "sorted" p) [.Call (.Name "set" p2) [e] [] pos2] [] pos) (tCB (rSortA K P w) (tCons (tCB (rSetA K P w) (tCons te tNil)) tNil)) (u1LE sortSetA f) := by
  subst hK hP hw
  refine ⟨pe_callB (cr_sortA hu hc) hg hm (by decide +kernel) (pa_cons (pe_callTy (cr_setA hc (by omega)) hg2 hm2 (by decide +kernel) (pa_cons ha.pe pa_nil he) (by decide) (by decide) he rfl) pa_nil he2) (by decide) (by decide) he2 rfl, fun Fz σ H δ Q hd hl h => ?_⟩
  unfold LOK u1LE at h
  rw [wp_bind] at h
  show te σ H fun x H1 => (rSetA X.K X.prog X.w) [x] H1 fun y H2 => (rSortA X.K X.prog X.w) [y] H2 Q
  refine ha.ok Fz σ H δ _ hd hl (wp_mono h (fun d hx v H1 F1 g1 r1 => ?_) fun x hx => hx)
  have fin : ∀ ds, (∃ l vs, v = .ref l ∧ (SqL X.K H1 l vs ∨ SqT X.K H1 l vs) ∧ RepAll X.K F1 H1 vs ds) → (match sortSetL ds with | .ok out => sortSetA d = .ok out | _ => True) → sortSetA d = sortSetL ds →
      (rSetA X.K X.prog X.w) [v] H1 fun y H2 => (rSortA X.K X.prog X.w) [y] H2 Q := by
    rintro ds ⟨l, vs, rfl, hs, rr⟩ - e
    rw [e] at hx
    match ho : sortSetL ds, hx with
    | .ok out, hx =>
      refine sortA_core hs (g1.live hl) rr ho fun p a H2 ws na gg np back hlen => ?_
      have lv : Live F1 H2 := gg.live (g1.live hl)
      exact hx p _ _ F1 ((g1.trans gg).trans (.nw np)) (none_of_same (g1.trans gg).same np) (notFz (H' := H2) .refl lv np) upd_same hlen (RepAll.grow (.nw np) back)
    | .bot, hx => exact hx.elim
    | .err z, hx =>
      unfold sortSetL at ho
      split at ho
      · split at ho
        · cases ho
        · split at ho <;> cases ho
      · cases ho
    | .pick _ _, hx =>
      unfold sortSetL at ho
      split at ho
      · split at ho
        · cases ho
        · split at ho <;> cases ho
      · cases ho
  cases d with
  | list ds =>
    cases r1 with
    | lst hh z rr => exact fin ds ⟨_, _, rfl, .inl hh.sq, rr⟩ (by split <;> first | assumption | trivial) rfl
  | tuple ds =>
    cases r1 with
    | tup hh z rr => exact fin ds ⟨_, _, rfl, .inr hh.sq, rr⟩ (by split <;> first | assumption | trivial) rfl
  | _ => exact hx.elim
end
end DL

set_option Elab.async false
set_option linter.all false
set_option maxRecDepth 100000
set_option maxHeartbeats 6400000
namespace DL
open PySem PySem.Spec L2
open PyProof.Rows hiding St
/-! ### n * t, t a tuple -/
section
variable {M : Model} {A : Around} {E : Value → Shared → Prop} {s : Shared}
theorem op1_left_no {x y : Value} {T U nm id : String} {Q : Option Value → Shared → Prop} (ne : (Value.type T == Value.type U) = false) (hx : s.TypeIs x T) (hy : s.TypeIs y U) (fT : fillsNumberSlot (.type T) nm = pure true) (fU : fillsNumberSlot (.type U) nm = pure false) (sl : Slot T (dunder nm) id)
    (c : wpAny M A (call (.builtin id) [x, y]) (fun v z => v = .notImplemented ∧ Q none z) E s) : wpAny M A (binaryOp1 nm x y) Q E s := by
  unfold binaryOp1
  refine wpAny_bind (wpAny_typeOf hx ?_)
  refine wpAny_bind (wpAny_typeOf hy ?_)
  refine wpAny_bind (wpAny_of_eq fT ?_)
  simp only [ne, Bool.false_eq_true, if_false]
  refine wpAny_bind (wpAny_of_eq fU ?_)
  simp only [pure_bind, Bool.and_false, Bool.false_and, Bool.false_eq_true, if_false, if_true, Bool.and_self]
  refine wpAny_bind (wpAny_tryMethod_declines hx sl (wpAny_mono c (fun v z q => ⟨q.1, ?_⟩) fun _ _ e => e))
  exact wpAny_pure q.2
theorem rep_int : seqRepeat? (.type "int") = pure none := by
  unfold seqRepeat? seqSlot?
  kernel_rfl
end
theorem int_mul_tup (k : Int) (t : Tok) (l : Addr) (xs : Array Value) (n : Nat) (od : Option Addr) (os : Array (Option Value)) :
    Meets (Builtin.«int.__mul__» ⟨[.int k t, .ref l], []⟩) (fun _ R z => z.heap.get? l = some { cls := .type "tuple", dict := od, data := .seq xs n, slots := os } ∧ R (.ok (.ret Value.notImplemented)) z) :=
  .of_wp fun pg wd B R z q => by
    obtain ⟨zh, zg, zd, zt, zo⟩ := z
    obtain ⟨at0, q⟩ := q
    wp_walk using wpAny_loadPart' at0
    exact ⟨_, rfl, q⟩
def rMulT (K : PySem.W.Frag) : R2 := fun x y H Q => ∃ k l xs, x = .int k ∧ y = .ref l ∧ SqT K H l xs ∧ xs ≠ [] ∧ 2 ≤ k ∧ k ≤ 100 ∧ xs.length ≤ 100 ∧ ∀ p, H p = none → Q (.ref p) (upd H p (.tup (List.replicate k.toNat xs).flatten))
theorem op_mulT {X : Cx} : OpR X (binaryOp .Mult) (rMulT X.K) := by
  intro pins s σ H x y u v Q I rx ry h
  obtain ⟨k, l, xs, rfl, rfl, hT, hne, h1, h2, hz, q⟩ := h
  obtain ⟨t, rfl⟩ := rx
  cases ry
  obtain ⟨its, rv, pt, hs⟩ := I.tuple hT
  obtain ⟨⟨oc, od, odt, osl⟩, ho, hcl, nl, hdt⟩ := pt
  cases hcl
  cases hdt
  have len : its.length = xs.length := rv.length.symm
  have z1 : its.toArray.size = xs.length := by rw [List.size_toArray, len]
  have e1 : its.toArray.isEmpty = false := by
    cases its with
    | nil => exact absurd (List.eq_nil_of_length_eq_zero len.symm) hne
    | cons _ _ => rfl
  have p1 : ((its.toArray.size : Nat) : Int) * k ≤ 10000 := by
    rw [z1]
    exact Int.le_trans (Int.mul_le_mul (by omega) h2 (by omega) (by omega)) (Int.le_refl (100 * 100))
  have p2 : k.toNat * xs.length ≤ 10000 := Nat.le_trans (Nat.mul_le_mul (by omega : k.toNat ≤ 100) hz) (Nat.le_refl (100 * 100))
  have big : (10000 : Nat) ≤ sizeLine := by rw [sizeLine_eq]; decide
  have p3 : (List.replicate k.toNat its).flatten.length ≤ sizeLine := by
    rw [PyProof.Rows.lm_len_rep_flat, len]
    omega
  have ty : s.TypeIs (.ref l) "tuple" := ⟨_, ho, rfl⟩
  unfold binaryOp
  refine wpAny_holding (wpAny_bind (op1_left_no (nm := "mul") (id := "int.__mul__") (by decide) (typeIs_int s k t) ty F.fills_int_mul noFill_tuple_mul F.slot_int_mul ?_))
  refine call_meets F.slot_int_mul (typeIs_int s k t) F.entry_int_mul (F.args_int_mul_2 _ _) (int_mul_tup k t l its.toArray nl od osl) ⟨ho, rfl, ?_⟩
  refine wpAny_bind (wpAny_typeOf (typeIs_int s k t) ?_)
  refine wpAny_bind (wpAny_of_eq rep_int ?_)
  refine wpAny_bind (wpAny_typeOf ty ?_)
  refine wpAny_bind (wpAny_of_eq repeat_tuple ?_)
  unfold sequenceRepeat
  refine wpAny_bind (wpAny_specialOf (typeIs_int s k t) F.slot_int_index.lookup ?_)
  refine wpAny_bind (wpAny_rule ?_)
  refine call_meets F.slot_tuple_mul ty F.entry_tuple_mul (F.args_tuple_mul_2 _ _) (tuple_mulW l its.toArray nl od osl k t ?_ ?_ ?_ ?_ ?_ ?_) ⟨ho, ?_⟩
  · rw [decide_eq_false (by omega), decide_eq_false (by omega)]; rfl
  · rw [e1, Bool.false_or]
    exact beq_eq_false_iff_ne.mpr (by omega)
  · rw [e1, Bool.or_false]
    exact decide_eq_false (by omega)
  · omega
  · unfold Builtin.Tuple.tupleTooMany
    rw [sizeLine_eq]
    exact decide_eq_false (by omega)
  · rw [size_rep, List.size_toArray]
    exact p3
  rw [size_rep]
  exact ⟨.ref s.heap.objs.size, _, I.laid (t' := s.toks) (o := .tup (List.replicate k.toNat xs).flatten) (fun b o e => Heap.get?_push_of_some _ e) (Nat.le_refl _) ⟨by rw [PyProof.Rows.lm_len_rep_flat]; omega, _, rv.rep k.toNat, IsTup.new _ _⟩, rfl, q _ (I.hok.fresh (Nat.le_refl _))⟩
end DL

set_option Elab.async false
set_option linter.all false
set_option maxRecDepth 100000
set_option maxHeartbeats 6400000
namespace DL
open PySem PySem.Spec L2
open PyProof.Rows hiding St
/-! ### n * t as data; {} as a value; xs.insert(i, y) -/
def repD (x y : PyData) : Res PyData := match x, y with
  | .int k, .tuple ds => if (decide (2 ≤ k) && decide (k ≤ 100) && !ds.isEmpty && decide (ds.length ≤ 100)) = true then .ok (.tuple (List.replicate k.toNat ds).flatten) else .bot
  | _, _ => .bot
theorem repD_ne (x y : PyData) (z : Exn) : (repD x y).quiet := by
  unfold repD
  split
  · split <;> exact True.intro
  · exact True.intro
theorem RepAll.many {K : PySem.W.Frag} {Fz : FZ} {H : Hp} {vs : List V} {ds : List PyData} (r : RepAll K Fz H vs ds) : ∀ n, RepAll K Fz H (List.replicate n vs).flatten (List.replicate n ds).flatten
  | 0 => .nil
  | n + 1 => by
    rw [List.replicate_succ, List.replicate_succ, List.flatten_cons, List.flatten_cons]
    exact r.app (RepAll.many r n)
section
variable {X : Cx} {W : WS} {S T : List Nat} {e a b : Expr} {pos p : Pos} {te ta tb : TE}
theorem od_mulT (K) (hK : X.K = K := by rfl) : OpD X (binaryOp .Mult) (rMulT K) repD := by
  subst hK
  refine .of op_mulT fun Fz H x y v u Q hl r1 r2 q => ?_
  unfold repD at q
  split at q
  · rename_i k ds
    split at q
    · rename_i c
      simp only [Bool.and_eq_true, decide_eq_true_eq, Bool.not_eq_true', List.isEmpty_eq_false_iff] at c
      obtain ⟨⟨⟨c1, c2⟩, c3⟩, c4⟩ := c
      cases r1
      cases r2 with
      | tup h z rr =>
        refine ⟨k, _, _, rfl, rfl, h.sq, fun n => c3 ?_, c1, c2, by rw [rr.length]; exact c4, fun p np => ?_⟩
        · have := rr.length
          rw [n] at this
          exact List.eq_nil_of_length_eq_zero this.symm
        · refine q _ _ Fz (.nw np) (.tup (.of upd_same) ?_ ((rr.many k.toNat).grow (.nw np)))
          have big : (10000 : Nat) ≤ sizeLine := by rw [sizeLine_eq]; decide
          rw [List.length_flatten, List.map_replicate, List.sum_replicate_nat]
          exact Nat.le_trans (Nat.mul_le_mul (by omega : k.toNat ≤ 100) c4) (Nat.le_trans (Nat.le_refl (100 * 100)) big)
    · exact q.elim
  · exact q.elim
theorem de_dict0 : DE X W [] (.Dict [] [] p) tDNewK (fun _ => .ok (dcD false [] [])) := by
  refine ⟨pe_dnewK, fun Fz σ H δ Q hd hl hq p np => ?_⟩
  have g : Grow Fz H (fun a => Fz a ∨ a = p) (upd H p (.dK [])) := .frz np
  exact hq _ _ _ g (.dck (kvs := []) ⟨upd_same, .inr rfl⟩ rfl .nil)
def insF (i : Nat) (S : List Nat) (fk fv : DSt → Res PyData) (δ : DSt) : Res Out :=
  match δ[i]? with
  | some (some (.own _)) => do
    let k ← fk δ
    match k with
    | .int z => do
      let d ← fv δ
      let δ' := if flat d then δ else freeze S 0 δ
      match δ'[i]? with
      | some (some (.own xs)) => if (decide (xs.length < sizeLine) && decide (0 ≤ z) && decide (z < 1000000)) = true then .ok (.nx (δ'.set i (some (.own (xs.take z.toNat ++ d :: xs.drop z.toNat))))) else .bot
      | _ => .bot
    | _ => .bot
  | _ => .bot
def rIns : V → List V → Hp → VK → Prop := fun x vs H Q => ∃ (l : Addr) (xs : List V) (i : Int) (y : V), x = .ref l ∧ vs = [.int i, y] ∧ H l = some (.lst xs) ∧ xs.length < sizeLine ∧ 0 ≤ i ∧
    i < 2 ^ 63 ∧ Q .non (upd H l (.lst (xs.take i.toNat ++ [y] ++ xs.drop i.toNat)))
theorem ds_insert {i : Nat} {x : Str} {fk fv : DSt → Res PyData} {apos cpos xpos : Pos} {e2 : Expr} {te2 : TE} (hN : X.N[i]? = some x) (hv : Vis X.env.scope x) (hk : DE X W T e te fk) (he : DE X W S e2 te2 fv)
    (hbase : attributeBase (.Name x xpos) "insert" X.env (eval (.Name x xpos) X.env) = eval (.Name x xpos) X.env := by rfl)
    (hfew : ((backTo cpos (starEach [e, e2] X.env)).all (fun x => !x.1) && (backToKw cpos (keywordEach [] X.env)).all (fun x => x.1.isSome)
      && decide ([e, e2].length + ([] : List Keyword).length + (if ([] : List Keyword).isEmpty then 0 else 1) < 30)) = true := by rfl)
    (hline : (apos.endLine == cpos.line) = true := by rfl) (hs : starEach [e, e2] X.env = (false, eval e X.env) :: starEach [e2] X.env := by rfl) (hs2 : starEach [e2] X.env = (false, eval e2 X.env) :: starEach [] X.env := by rfl) (hplain : (backTo cpos (starEach [e2] X.env)).any (·.1) = false := by rfl)
    (hsw : swapsWith (.Call (.Attribute (.Name x xpos) "insert" apos) [e, e2] [] cpos) none pos.line X.env = pure false := by rfl) (hd : (x == ("__debug__" : Str)) = false := by decide) (hcd : (x == ("__classdict__" : Str)) = false := by decide) :
    DS X W (.Expr (.Call (.Attribute (.Name x xpos) "insert" apos) [e, e2] [] cpos) pos) (tDrop (tBM X.K "list" rIns (tVar i) (tCons te (tCons te2 tNil)))) (insF i S fk fv) := by
  refine ⟨ps_expr (pe_bm PySem.F.plainAttrs_list PySem.F.slot_list_insert PySem.F.type_list_insert mt_insert (pe_var (i := i) hN hv hd hcd) (pa_cons hk.pe (pa_cons he.pe pa_nil hs2) hs) hbase hfew hline hs hplain) hsw, fun H0 Fz0 Fz H σ δ Dn r h => ?_⟩
  unfold SOK insF at h
  split at h
  · rename_i xs0 e1
    obtain ⟨a, e2', e4, e5, vs, e3, e6, e7⟩ := r.own i _ e1 rfl
    rw [wp_bind] at h
    refine ⟨.ref a, e2', .inl ⟨rfl, _, .of e3⟩, ?_⟩
    refine atE hk r (wp_mono h (fun k hk' u H1 F1 g1 r1 => ?_) fun x hx => hx)
    split at hk'
    · rename_i z
      cases r1
      have rr := r.up g1.same
      rw [wp_bind] at hk'
      refine atE he rr (wp_mono hk' (fun d hd' v H2 F2 g2 r2 => ?_) fun x hx => hx)
      have fin : ∀ (F : FZ) (δ' : DSt), Rel X.K H0 Fz0 F H2 σ δ' → Rep X.K F H2 v d → (match δ'[i]? with
          | some (some (.own xs)) => if (decide (xs.length < sizeLine) && decide (0 ≤ z) && decide (z < 1000000)) = true then (.ok (.nx (δ'.set i (some (.own (xs.take z.toNat ++ d :: xs.drop z.toNat))))) : Res Out) else .bot
          | _ => .bot).wp (OOK X.K H0 Fz0 Dn) (XOK X.mg (W σ) H0 Fz0) → rIns (.ref a) [.int z, v] H2 fun _ H3 => Dn.nx σ H3 := fun F δ' r' rv q => by
        split at q
        · rename_i xs e1'
          obtain ⟨a', k2, k4, k5, vs', k3, k6, k7⟩ := r'.own i _ e1' rfl
          rw [e2'] at k2
          cases k2
          split at q
          · rename_i c
            simp only [Bool.and_eq_true, decide_eq_true_eq] at c
            obtain ⟨⟨c1, c2⟩, c3⟩ := c
            have l := k7.length
            refine ⟨a, vs', z, v, rfl, rfl, k3, by omega, c2, by omega, q F _ σ (r'.write e1' rfl e2' fun H' st q => ⟨_, q, ?_, ?_⟩)⟩
            · have e : xs.take z.toNat ++ d :: xs.drop z.toNat = xs.take z.toNat ++ [d] ++ xs.drop z.toNat := by simp
              rw [e, List.append_assoc, List.length_append, List.length_append, List.length_take, List.length_drop, List.length_singleton]
              omega
            · have e : xs.take z.toNat ++ d :: xs.drop z.toNat = xs.take z.toNat ++ [d] ++ xs.drop z.toNat := by simp
              rw [e]
              exact (((k7.take _).app (.cons rv .nil)).app (k7.drop _)).stay st fun _ h => h
          · exact q.elim
        · exact q.elim
      by_cases hf : flat d = true
      · simp only [hf, if_true] at hd'
        exact fin Fz δ (rr.up g2.same) (r2.flat hf) hd'
      · simp only [hf, if_false] at hd'
        exact fin F2 _ (rr.frz g2) r2 hd'
    · exact hk'.elim
  · exact h.elim
end
end DL

set_option Elab.async false
set_option linter.all false
set_option maxRecDepth 100000
set_option maxHeartbeats 6400000
namespace DL
open PySem PySem.Spec L2
open PyProof.Rows hiding St
/-! ### str(i) -/
def strD (ds : List PyData) : Res PyData := match ds with
  | [.int i] => if i.natAbs < 4294967296 then .ok (.str (toString i)) else .bot
  | _ => .bot
theorem log_small {n : Nat} (h : n < 4294967296) : n.log2 < 1920 := by
  by_cases h0 : n = 0
  · subst h0
    decide
  · exact (Nat.log2_lt h0).mpr (Nat.lt_of_lt_of_le h (by
      have : (2 : Nat) ^ 32 ≤ 2 ^ 1920 := Nat.pow_le_pow_right (by decide) (by decide)
      exact this))
theorem cd_str {X : Cx} : CallD X (.type "str") (fun xs H Q => ∃ i, xs = [.int i] ∧ i.natAbs.log2 < 1920 ∧ Q (.str (toString i)) H) strD := by
  refine ⟨call_str_int, fun Fz H ds vs Q hl r q => ?_, fun ds z => ?_⟩
  · unfold strD at q
    split at q
    · split at q
      · rename_i hz
        cases r with
        | cons h r =>
          cases h
          cases r
          exact ⟨_, rfl, log_small hz, q.at (.str _)⟩
      · exact q.elim
    · exact q.elim
  · unfold strD
    split
    · split <;> exact True.intro
    · exact True.intro
end DL

set_option Elab.async false
set_option linter.all false
set_option maxRecDepth 100000
set_option maxHeartbeats 6400000
namespace DL
open PySem PySem.Spec L2
open PyProof.Rows hiding St
/-- a statement of which nothing is told: it must not be reached (a raise in a law that raises nothing) -/
theorem ds_bot {X : Cx} {W : WS} {st : Stmt} : DS X W st (fun _ _ _ => False) (fun _ => .bot) := ⟨⟨fun _ _ _ _ _ _ h => h.elim⟩, fun _ _ _ _ _ _ _ _ h => h.elim⟩
end DL

set_option Elab.async false
set_option linter.all false
set_option maxRecDepth 100000
set_option maxHeartbeats 6400000
namespace DL
open PySem PySem.Spec L2
open PyProof.Rows hiding St
/-! ### xs.index(e) of a list -/
def indexL (ds : List PyData) (y : PyData) : Res PyData := if (SeqAt.shaped (.list ds) && SeqAt.shaped y && nodc (.list ds) && nodc y) = true then (match ds.findIdx? fun z => PyData.eqv z y with | some j => .ok (.int (j : Nat)) | none => .bot) else .bot
def indexF (fa fb : DSt → Res PyData) (δ : DSt) : Res PyData := fa δ >>= fun x => match x with
  | .list ds => fb δ >>= fun y => indexL ds y
  | _ => .bot
section
variable {X : Cx} {W : WS} {S T : List Nat} {o e : Expr} {to te : TE} {apos cpos : Pos}
theorem de_indexK (K) {fa fb : DSt → Res PyData} (hu : X.A.units + 65 < cLine) (ho : DE X W S o to fa) (he : DE X W T e te fb) (hK : X.K = K := by rfl)
    (hbase : attributeBase o "index" X.env (eval o X.env) = eval o X.env := by rfl)
    (hfew : ((backTo cpos (starEach [e] X.env)).all (fun x => !x.1) && (backToKw cpos (keywordEach [] X.env)).all (fun x => x.1.isSome)
      && decide ([e].length + ([] : List Keyword).length + (if ([] : List Keyword).isEmpty then 0 else 1) < 30)) = true := by rfl)
    (hline : (apos.endLine == cpos.line) = true := by rfl) (hs : starEach [e] X.env = (false, eval e X.env) :: starEach [] X.env := by rfl) (hplain : (backTo cpos (starEach [] X.env)).any (·.1) = false := by rfl) :
    DE X W (S ++ T) (.Call (.Attribute o "index" apos) [e] [] cpos) (tBM K "list" (rIndexD K) to (tCons te tNil)) (indexF fa fb) := by
  subst hK
  refine ⟨pe_bm PySem.F.plainAttrs_list PySem.F.slot_list_index PySem.F.type_list_index (mt_indexD hu) ho.pe (pa_cons he.pe pa_nil hs) hbase hfew hline hs hplain, fun Fz σ H δ Q hd hl h => ?_⟩
  unfold EOK indexF at h
  rw [wp_bind] at h
  refine ho.ok Fz σ H δ _ hd.left hl (wp_mono h (fun x hx v H1 F1 g1 r1 => ?_) fun x hx => hx)
  cases x with
  | list ds =>
    have r1' := r1
    cases r1 with
    | lst hh z rr =>
      refine ⟨.inl ⟨rfl, _, hh.sq⟩, ?_⟩
      have hx : (fb δ >>= fun y => indexL ds y).wp _ _ := hx
      rw [wp_bind] at hx
      refine he.ok F1 σ H1 δ _ (hd.right.grow g1) (g1.live hl) (wp_mono hx (fun y hy u H2 F2 g2 r2 => ?_) fun x hx c oe H2 F2 g2 r2 => hx c oe H2 F2 (g1.trans g2) r2)
      unfold indexL at hy
      split at hy
      · rename_i c
        rw [Bool.and_eq_true, Bool.and_eq_true, Bool.and_eq_true] at c
        obtain ⟨⟨⟨c1, c2⟩, c3⟩, c4⟩ := c
        split at hy
        · rename_i j hj
          obtain ⟨hlt, p1, p2⟩ := List.findIdx?_eq_some_iff_getElem.mp hj
          refine ⟨_, u, y, ds, j, ds[j], rfl, rfl, (r1'.grow g2).dp c3, r2.dp c4, c1, c2, List.getElem?_eq_getElem hlt, p1, fun m z' hm hz => ?_, hy _ H2 F2 (g1.trans g2) (.int _)⟩
          have hml : m < ds.length := by omega
          rw [List.getElem?_eq_getElem hml] at hz
          cases hz
          have := p2 m hm
          simpa using this
        · exact hy.elim
      · exact hy.elim
  | _ => exact hx.elim
end
end DL

set_option Elab.async false
set_option linter.all false
set_option maxRecDepth 100000
set_option maxHeartbeats 6400000
namespace DL
open PySem PySem.Spec L2
open PyProof.Rows hiding St
/-! ### xs.extend(e), e a list or a tuple -/
theorem ext_tup (l : Addr) (xs : Array Value) (n : Nat) (b : Addr) (ys : Array Value) (m : Nat) (od : Option Addr) (os : Array (Option Value)) (h0 : ¬(!xs.isEmpty && Builtin.List.listTooLong (xs.size + ys.size)) = true) (h1 : xs.size ≤ sizeLine) (h2 : (xs ++ ys).size ≤ sizeLine + 1) :
    Meets (Builtin.«list.extend» ⟨[.ref l, .ref b], []⟩) (fun _ R z => z.heap.get? l = some { cls := .type "list", dict := none, data := .seq xs n, slots := #[] } ∧
      z.heap.get? b = some { cls := .type "tuple", dict := od, data := .seq ys m, slots := os } ∧ R (.ok (.ret Value.none)) { z with heap := z.heap.update l (Obj.mapSeq fun x => x ++ ys), toks := z.toks }) :=
  .of_wp fun pg wd B R z q => by
    obtain ⟨zh, zg, zd, zt, zo⟩ := z
    obtain ⟨at0, at1, q⟩ := q
    have i1 := AutoSeq1.idx_int
    have i2 := AutoSeq1.sub_tuple_tuple
    have i3 := AutoSeq1.sub_list_list
    have i4 := AutoSeq1.sub_tuple_list
    have i5 := AutoSeq1.sub_list_tuple
    wp_walk using (wpAny_updateSeq at0 rfl (hz := h1) (_hz' := h2)), wpAny_loadPart' at0, wpAny_loadPart' at1
    exact ⟨_, rfl, q⟩
theorem ext_lst (l : Addr) (xs : Array Value) (n : Nat) (b : Addr) (ys : Array Value) (m : Nat) (od : Option Addr) (os : Array (Option Value)) (h0 : ¬(!xs.isEmpty && Builtin.List.listTooLong (xs.size + ys.size)) = true) (h1 : xs.size ≤ sizeLine) (h2 : (xs ++ ys).size ≤ sizeLine + 1) :
    Meets (Builtin.«list.extend» ⟨[.ref l, .ref b], []⟩) (fun _ R z => z.heap.get? l = some { cls := .type "list", dict := none, data := .seq xs n, slots := #[] } ∧
      z.heap.get? b = some { cls := .type "list", dict := od, data := .seq ys m, slots := os } ∧ R (.ok (.ret Value.none)) { z with heap := z.heap.update l (Obj.mapSeq fun x => x ++ ys), toks := z.toks }) :=
  .of_wp fun pg wd B R z q => by
    obtain ⟨zh, zg, zd, zt, zo⟩ := z
    obtain ⟨at0, at1, q⟩ := q
    have i1 := AutoSeq1.idx_int
    have i2 := AutoSeq1.sub_tuple_tuple
    have i3 := AutoSeq1.sub_list_list
    have i4 := AutoSeq1.sub_tuple_list
    have i5 := AutoSeq1.sub_list_tuple
    wp_walk using (wpAny_updateSeq at0 rfl (hz := h1) (_hz' := h2)), wpAny_loadPart' at0, wpAny_loadPart' at1
    exact ⟨_, rfl, q⟩
def rExt (K : PySem.W.Frag) : V → List V → Hp → VK → Prop := fun x vs H Q => ∃ l b xs zs, x = .ref l ∧ vs = [.ref b] ∧ H l = some (.lst xs) ∧ (SqL K H b zs ∨ SqT K H b zs) ∧ xs.length + zs.length ≤ sizeLine ∧
  Q .non (upd H l (.lst (xs ++ zs)))
theorem mt_ext {X : Cx} : MtR X "list.extend" (rExt X.K) := by
  intro pins s σ H x vs v us Q I rx rv h
  obtain ⟨l, b, xs, zs, rfl, rfl, hH, hB, hz, q⟩ := h
  cases rx
  obtain ⟨u, rfl, ru⟩ := rv.one
  cases ru
  obtain ⟨z, its, n, r, hl, e⟩ := I.lstM hH
  have end_ : ∀ its2 : List Value, Vals zs its2 → its2.length = zs.length → EP X pins σ Q Value.none { s with heap := s.heap.update l (Obj.mapSeq fun x => x ++ its2.toArray), toks := s.toks } := fun its2 r2 hl2 =>
    ⟨.non, _, I.lset (its' := its ++ its2) hH e (by simp) (r.append r2) (by rw [List.length_append]; omega), rfl, q⟩
  rcases hB with hB | hB
  · obtain ⟨its2, r2, pl, hz2⟩ := I.list hB
    have il := pl.isList
    obtain ⟨⟨oc, od, odt, osl⟩, ho, hcl, m, hdt⟩ := il
    cases hcl
    cases hdt
    have hl2 : its2.length = zs.length := r2.length.symm
    have sz : its.toArray.size + its2.toArray.size ≤ sizeLine := by rw [List.size_toArray, List.size_toArray]; omega
    refine call_meets F.slot_list_extend ⟨_, e, rfl⟩ F.entry_list_extend (F.args_list_extend_2 _ _) (ext_lst l its.toArray n b its2.toArray m od osl (by rw [notLongL sz, Bool.and_false]; exact Bool.false_ne_true) (by omega) (by rw [Array.size_append]; omega)) ⟨e, ho, ?_⟩
    exact end_ its2 r2 hl2
  · obtain ⟨its2, r2, pt, hz2⟩ := I.tuple hB
    obtain ⟨⟨oc, od, odt, osl⟩, ho, hcl, m, hdt⟩ := pt
    cases hcl
    cases hdt
    have hl2 : its2.length = zs.length := r2.length.symm
    have sz : its.toArray.size + its2.toArray.size ≤ sizeLine := by rw [List.size_toArray, List.size_toArray]; omega
    refine call_meets F.slot_list_extend ⟨_, e, rfl⟩ F.entry_list_extend (F.args_list_extend_2 _ _) (ext_tup l its.toArray n b its2.toArray m od osl (by rw [notLongL sz, Bool.and_false]; exact Bool.false_ne_true) (by omega) (by rw [Array.size_append]; omega)) ⟨e, ho, ?_⟩
    exact end_ its2 r2 hl2
/-- the items of a list or a tuple -/
def itemsO : PyData → Option (List PyData)
  | .list ys => some ys
  | .tuple ys => some ys
  | _ => none
theorem items_rep {K : PySem.W.Frag} {Fz : FZ} {H : Hp} {v : V} {d : PyData} {ys : List PyData} (r : Rep K Fz H v d) (h : itemsO d = some ys) : ∃ b zs, v = .ref b ∧ (SqL K H b zs ∨ SqT K H b zs) ∧ RepAll K Fz H zs ys := by
  cases d with
  | list ds =>
    cases h
    cases r with
    | lst hh z rr => exact ⟨_, _, rfl, .inl hh.sq, rr⟩
  | tuple ds =>
    cases h
    cases r with
    | tup hh z rr => exact ⟨_, _, rfl, .inr hh.sq, rr⟩
  | _ => cases h
def extF (i : Nat) (S : List Nat) (f : DSt → Res PyData) (δ : DSt) : Res Out :=
  match δ[i]? with
  | some (some (.own _)) => do
    let d ← f δ
    let δ' := if flat d then δ else freeze S 0 δ
    match δ'[i]?, itemsO d with
    | some (some (.own xs)), some ys => if xs.length + ys.length ≤ sizeLine then .ok (.nx (δ'.set i (some (.own (xs ++ ys))))) else .bot
    | _, _ => .bot
  | _ => .bot
section
variable {X : Cx} {W : WS} {S : List Nat} {e : Expr} {te : TE} {pos : Pos}
theorem ds_extend {i : Nat} {x : Str} {f : DSt → Res PyData} {apos cpos xpos : Pos} (hN : X.N[i]? = some x) (hv : Vis X.env.scope x) (he : DE X W S e te f)
    (hbase : attributeBase (.Name x xpos) "extend" X.env (eval (.Name x xpos) X.env) = eval (.Name x xpos) X.env := by rfl)
    (hfew : ((backTo cpos (starEach [e] X.env)).all (fun x => !x.1) && (backToKw cpos (keywordEach [] X.env)).all (fun x => x.1.isSome)
      && decide ([e].length + ([] : List Keyword).length + (if ([] : List Keyword).isEmpty then 0 else 1) < 30)) = true := by rfl)
    (hline : (apos.endLine == cpos.line) = true := by rfl) (hs : starEach [e] X.env = (false, eval e X.env) :: starEach [] X.env := by rfl) (hplain : (backTo cpos (starEach [] X.env)).any (·.1) = false := by rfl)
    (hsw : swapsWith (.Call (.Attribute (.Name x xpos) "extend" apos) [e] [] cpos) none pos.line X.env = pure false := by rfl) (hd : (x == ("__debug__" : Str)) = false := by decide) (hcd : (x == ("__classdict__" : Str)) = false := by decide) :
    DS X W (.Expr (.Call (.Attribute (.Name x xpos) "extend" apos) [e] [] cpos) pos) (tDrop (tBM X.K "list" (rExt X.K) (tVar i) (tCons te tNil))) (extF i S f) := by
  refine ⟨ps_expr (pe_bm PySem.F.plainAttrs_list PySem.F.slot_list_extend PySem.F.type_list_extend mt_ext (pe_var (i := i) hN hv hd hcd) (pa_cons he.pe pa_nil hs) hbase hfew hline hs hplain) hsw, fun H0 Fz0 Fz H σ δ Dn r h => ?_⟩
  unfold SOK extF at h
  split at h
  · rename_i xs0 e1
    obtain ⟨a, e2, e4, e5, vs, e3, e6, e7⟩ := r.own i _ e1 rfl
    rw [wp_bind] at h
    refine ⟨.ref a, e2, .inl ⟨rfl, _, .of e3⟩, ?_⟩
    refine atE he r (wp_mono h (fun d hd v H1 F1 g1 r1 => ?_) fun x hx => hx)
    have fin : ∀ (F : FZ) (δ' : DSt), Rel X.K H0 Fz0 F H1 σ δ' → Rep X.K F H1 v d → (match δ'[i]?, itemsO d with
        | some (some (.own xs)), some ys => if xs.length + ys.length ≤ sizeLine then (.ok (.nx (δ'.set i (some (.own (xs ++ ys))))) : Res Out) else .bot
        | _, _ => .bot).wp (OOK X.K H0 Fz0 Dn) (XOK X.mg (W σ) H0 Fz0) → (rExt X.K) (.ref a) [v] H1 fun _ H2 => Dn.nx σ H2 := fun F δ' r' rv q => by
      split at q
      · rename_i xs ys e1' hi
        obtain ⟨a', k2, k4, k5, vs', k3, k6, k7⟩ := r'.own i _ e1' rfl
        rw [e2] at k2
        cases k2
        obtain ⟨b, zs, rfl, hsq, rr⟩ := items_rep rv hi
        split at q
        · rename_i hz
          have l := k7.length
          have l2 := rr.length
          exact ⟨a, b, vs', zs, rfl, rfl, k3, hsq, by omega, q F _ σ (r'.write e1' rfl e2 fun H' st q => ⟨_, q, by rw [List.length_append]; exact hz, (k7.app rr).stay st fun _ h => h⟩)⟩
        · exact q.elim
      · exact q.elim
    by_cases hf : flat d = true
    · simp only [hf, if_true] at hd
      exact fin Fz δ (r.up g1.same) (r1.flat hf) hd
    · simp only [hf, if_false] at hd
      exact fin F1 _ (r.frz g1) r1 hd
  · exact h.elim
end
end DL

set_option Elab.async false
set_option linter.all false
set_option maxRecDepth 100000
set_option maxHeartbeats 4000000
namespace DL
open PySem PySem.Spec L2
open PyProof.Rows hiding St

/-! ### x = f(..) where all that is handed over is flat: nothing of one's own gets out -/
def asgC (S : List Nat) (f : DSt → Res (List PyData)) (g : List PyData → Res PyData) (p : Pat) (δ : DSt) : Res Out := do
  let ds ← f δ
  let d ← nE (g ds)
  let δ' ← nE (bindP p d (if flat d || flatAll ds then δ else freeze S 0 δ))
  .ok (.nx δ')
theorem withOwn_nil {Fz : FZ} {σ : L2.St} {δ : DSt} {H F1 H1} (g : Grow Fz H F1 H1) : Grow (withOwn Fz σ δ []) H F1 H1 :=
  ⟨g.same, fun a h => g.sub a (h.elim (fun x => x) fun ⟨i, hi, _⟩ => nomatch hi), fun a h => (g.new a h).elim (fun x => .inl (.inl x)) .inr, fun l => g.live fun a h => l a (.inl h)⟩
section
variable {X : Cx} {W : WS} {U : XK} {S T : List Nat} {e a b c tg : Expr} {es tgs : List Expr} {pos p ps0 : Pos} {te ta tb : TE} {t : TA} {ts ts' : TS} {st : Stmt} {rest : List Stmt}
theorem ds_setC (K) (mg) {k j n i : Nat} {x y : Str} {pos' : Pos} {g : List PyData → Res PyData} {f : DSt → Res (List PyData)} (hN : X.N.Nodup) (hi : X.N[i]? = some y) (hx : L2.Loc X.env.scope y) (c : FD X.prog X.w K mg X.base k n x g) (hr : Room j X.A) (hk : k ≤ j) (hg : Gl X x) (hn : (e :: es).length = n) (ha : DA X W S (e :: es) t f) (hK : X.K = K := by rfl) (hM : X.mg = mg := by rfl)
    (hdb : (x == ("__debug__" : Str)) = false := by decide) (he : starEach (e :: es) X.env = (false, eval e X.env) :: starEach es X.env := by rfl) (hpl : (backTo pos (starEach es X.env)).any (·.1) = false := by rfl)
    (hs : swapsWith (.Call (.Name x p) (e :: es) [] pos) (some (.Name y pos')) ps0.line X.env = pure false := by rfl) (hf : X.fn y = true ∨ X.env.scope.names.lookup y = some .local := by first | exact .inl rfl | exact .inr rfl | assumption) :
    DS X W (.Assign [.Name y pos'] (.Call (.Name x p) (e :: es) [] pos) ps0) (tAsg (tCall (spD K mg n g) [] L2.E0 t) (gName i)) (asgC S f g (.nm i)) := by
  subst hK hM
  have hd := de_call (pos := pos) (p := p) c hr hk hg hn ha hdb he hpl
  have hgn := dg_name (X := X) (pos := pos') hN hi hx hf
  refine ⟨ps_set hN hi hx hd.pe hs hf, fun H0 Fz0 Fz H σ δ Dn r h => ?_⟩
  unfold SOK asgC at h
  rw [wp_bind] at h
  refine ha.ok (withOwn Fz σ δ S) σ H δ _ r.rd r.ownLive (wp_mono (wp_and_can h) (fun ds ⟨h, q⟩ vs H1 F1 g1 r1 => ?_) fun x hx c oe H1 F1 g => hx c oe H1 F1 (r.grow0 g))
  have h : (nE (g ds) >>= fun d => nE (bindP (.nm i) d (if (flat d || flatAll ds) = true then δ else freeze S 0 δ)) >>= fun δ' => Res.ok (Out.nx δ')).wp (OOK X.K H0 Fz0 Dn) (XOK X.mg (W σ) H0 Fz0) := h
  rw [wp_bind] at h
  cases hfl : flatAll ds with
  | false =>
    rw [hfl] at h
    simp only [Bool.or_false] at h
    refine ⟨ds, F1, (ha.len δ ds q).trans hn, g1.live r.ownLive, by rw [List.append_nil]; exact r1, wp_mono (nE_wpA h) (fun d hd v H2 F2 g2 r3 => ?_) fun _ h => h⟩
    have g12 := g1.trans g2
    rw [wp_bind] at hd
    obtain ⟨δ', hb, hd⟩ := nEb hd
    by_cases hf : flat d = true
    · rw [if_pos hf] at hb
      refine hgn.ok Fz H2 _ v d σ δ _ Rel.setsVal (r.up g12.same) (r3.flat hf) ?_
      rw [hb]
      exact fun σ' r' => hd Fz H2 σ' r'
    · rw [if_neg hf] at hb
      refine hgn.ok F2 H2 _ v d σ (freeze S 0 δ) _ Rel.setsVal (r.frz g12) r3 ?_
      rw [hb]
      exact fun σ' r' => hd F2 H2 σ' r'
  | true =>
    rw [hfl] at h
    simp only [Bool.or_true, if_true] at h
    have r2 : Rel X.K H0 Fz0 Fz H1 σ δ := r.up g1.same
    refine ⟨ds, Fz, (ha.len δ ds q).trans hn, r2.live, by rw [List.append_nil]; exact r1.flat hfl, wp_mono (nE_wpA h) (fun d h v H2 F2 g2 r3 => ?_) fun _ h => h⟩
    rw [wp_bind] at h
    obtain ⟨δ', hb, h⟩ := nEb h
    have r4 : Rel X.K H0 Fz0 F2 H2 σ δ := by
      have := r2.frz (S := []) (withOwn_nil g2)
      rwa [freeze_nil] at this
    refine hgn.ok F2 H2 _ v d σ δ _ Rel.setsVal r4 r3 ?_
    rw [hb]
    exact fun σ' r' => h F2 H2 σ' r'
end
end DL

set_option Elab.async false
set_option linter.all false
set_option maxRecDepth 100000
set_option maxHeartbeats 4000000
namespace DL
open PySem PySem.Spec L2
open PyProof.Rows hiding St

/-! ### range(i, j, -1) -/
def rngN (i j : Int) : List PyData := (List.range (i - j).toNat).map fun (k : Nat) => PyData.int (i - (k : Int))
theorem serves_rngN {K : PySem.W.Frag} (i j : Int) (Fz : FZ) (H : Hp) : Serves K Fz H (Itc i (-1) (i - j).toNat) (rngN i j) where
  item := fun Fz2 H2 s f l k d e => by
    unfold rngN at e
    rw [List.getElem?_map] at e
    cases q : (List.range (i - j).toNat)[k]? with
    | none => rw [q] at e; cases e
    | some c =>
      rw [q] at e
      cases e
      obtain ⟨h1, h2⟩ := List.getElem?_eq_some_iff.mp q
      rw [List.getElem_range] at h2
      subst h2
      rw [List.length_range] at h1
      exact ⟨h1, fun x H3 ⟨e1, e2⟩ => by
        subst e1 e2
        refine ⟨Fz2, .refl, ?_⟩
        rw [show i + (k : Int) * (-1) = i - (k : Int) by omega]
        exact .int _⟩
  stop := fun Fz2 H2 s f l => by
    show _ ≤ _
    unfold rngN
    rw [List.length_map, List.length_range]
    exact Nat.le_refl _
def rng3D (ds : List PyData) : Res (List PyData) := match ds with | [.int i, .int j, .int (-1)] => if in62 i && in62 j then .ok (rngN i j) else .bot | _ => .bot
section
variable {X : Cx} {W : WS} {S : List Nat} {a b c tg : Expr} {pos p : Pos} {t : TA}
theorem dr_range3 {f : DSt → Res (List PyData)} (hg : Gl X "range") (hm : X.mg "range" = none) (ha : DA X W S [a, b, c] t f) (hs : starEach [a, b, c] X.env = (false, eval a X.env) :: starEach [b, c] X.env := by rfl) (hpl : (backTo pos (starEach [b, c] X.env)).any (·.1) = false := by rfl) : DR X W S tg (.Call (.Name "range" p) [a, b, c] [] pos) (iRng3 t) (fun δ => do let ds ← f δ; rng3D ds) := by
  refine ⟨pi_range3 hg hm ha.pe hs hpl, fun Fz σ H δ R hd hl q => ?_⟩
  rw [wp_bind] at q
  refine ha.ok Fz σ H δ _ hd hl (wp_mono q (fun ds hx vs H1 F1 g1 r1 => ?_) fun x hx => hx)
  unfold rng3D at hx
  split at hx
  · rename_i i j
    split at hx
    · rename_i hj
      rw [Bool.and_eq_true] at hj
      have h1 := of_decide_eq_true hj.1
      have h2 := of_decide_eq_true hj.2
      cases r1 with
      | cons h r =>
        cases h
        cases r with
        | cons h r =>
          cases h
          cases r with
          | cons h r =>
            cases h
            cases r
            exact ⟨i, j, -1, (i - j).toNat, rfl, RgC.neg h1.1 h1.2 h2.1 h2.2, hx _ H1 F1 g1 (fun _ _ => serves_rngN i j _ _)⟩
    · exact hx.elim
  · exact hx.elim
end
end DL

set_option Elab.async false
set_option linter.all false
set_option maxRecDepth 100000
set_option maxHeartbeats 4000000
namespace DL
open PySem PySem.Spec L2
open PyProof.Rows hiding St

/-! ### len of a dict with whole numbers or texts as keys, too -/
def lenA (ds : List PyData) : Res PyData := match ds with
  | [.dict [(.bool false, .tuple ks), (.none, .tuple vs)]] => .ok (.int ks.length)
  | _ => lenD ds
section
variable {X : Cx}
def rLenA (K : PySem.W.Frag) : List V → Hp → VK → Prop := fun xs H Q => (∃ x n, xs = [x] ∧ LenV K x H n ∧ Q (.int n) H) ∨ ∃ a kvs, xs = [.ref a] ∧ H a = some (.dK kvs) ∧ Q (.int kvs.length) H
theorem call_lenA : CallR X (.builtin "len") (rLenA X.K) := by
  intro pins s σ H xs us Q I r h
  rcases h with h | ⟨a, kvs, rfl, e, q⟩
  · exact call_len pins s σ H xs us Q I r h
  · obtain ⟨u, rfl, rx⟩ := vals1 r
    cases rx
    exact d_len I (.inl e) fun t s' I' => ⟨.int kvs.length, H, I', ⟨_, rfl⟩, q⟩
theorem cd_lenA : CallD X (.builtin "len") (rLenA X.K) lenA := by
  refine ⟨call_lenA, fun Fz H ds vs Q hl r q => ?_, fun ds z => by
    unfold lenA
    split
    · exact True.intro
    · exact (cd_len (X := X)).ne ds z⟩
  unfold lenA at q
  split at q
  · cases r with
    | cons h r =>
      cases r
      cases h with
      | dck h e rr => exact .inr ⟨_, _, rfl, h.1, by
          have := q.at (.int _)
          rw [e, List.length_map] at this
          exact this⟩
  · exact .inl (cd_len.ok Fz H ds vs Q hl r q)
theorem cd_lenAK (K) (hK : X.K = K := by rfl) : CallD X (.builtin "len") (rLenA K) lenA := by subst hK; exact cd_lenA
end
end DL

set_option Elab.async false
set_option linter.all false
set_option maxRecDepth 100000
set_option maxHeartbeats 4000000
namespace DL
open PySem PySem.Spec L2
open PyProof.Rows hiding St

/-! ### defs that change their caller's lists: statements that keep the parameters' addresses -/
abbrev Pn := List (Nat × Addr)
def Pin (σ : L2.St) (pin : Pn) : Prop := ∀ p ∈ pin, σ[p.1]? = some (some (.ref p.2))
theorem Pin.set {σ : L2.St} {pin : Pn} (h : Pin σ pin) {i : Nat} (hi : i ∉ pin.map (·.1)) (v : V) : Pin (σ.set i (some v)) pin := fun p hp => by
  have hne : i ≠ p.1 := fun e => hi (by rw [e]; exact List.mem_map_of_mem (f := (·.1)) hp)
  rw [List.getElem?_set_ne hne]
  exact h p hp
inductive OutM where
  | nx (δ : DSt) | rt (d : PyData) (δ : DSt)
def OKm (K : PySem.W.Frag) (H0 : Hp) (Fz0 : FZ) (pin : Pn) (Dn : Ends) : OutM → Prop
  | .nx δ => ∀ Fz H σ, Rel K H0 Fz0 Fz H σ δ → Pin σ pin → Dn.nx σ H
  | .rt d δ => ∀ Fz H σ v, Rel K H0 Fz0 Fz H σ δ → Pin σ pin → Rep K Fz H v d → Dn.rt v H
def SKm (K : PySem.W.Frag) (mg : Str → Option Value) (W : XK) (H0 : Hp) (Fz0 : FZ) (pin : Pn) (r : Res OutM) (Dn : Ends) : Prop := r.wp (OKm K H0 Fz0 pin Dn) (XOK mg W H0 Fz0)
structure DMu (X : Cx) (W : WS) (M : List Nat) (st : Stmt) (t : TS) (f : DSt → Res OutM) : Prop where
  pe : PS X st t
  ok : ∀ pin, pin.map (·.1) = M → ∀ H0 Fz0 Fz H σ δ Dn, Rel X.K H0 Fz0 Fz H σ δ → Pin σ pin → SKm X.K X.mg (W σ) H0 Fz0 pin (f δ) Dn → t Dn σ H
structure DMus (X : Cx) (W : WS) (M : List Nat) (st : List Stmt) (t : TS) (f : DSt → Res OutM) : Prop where
  pe : PSs X st t
  ok : ∀ pin, pin.map (·.1) = M → ∀ H0 Fz0 Fz H σ δ Dn, Rel X.K H0 Fz0 Fz H σ δ → Pin σ pin → SKm X.K X.mg (W σ) H0 Fz0 pin (f δ) Dn → t Dn σ H
def upM (f : DSt → Res Out) (δ : DSt) : Res OutM := f δ >>= fun o => match o with | .nx δ' => .ok (.nx δ') | _ => .bot
def downM (f : DSt → Res OutM) (δ : DSt) : Res Out := f δ >>= fun o => match o with | .nx δ' => .ok (.nx δ') | .rt d _ => .ok (.rt d)
def seqM (f g : DSt → Res OutM) (δ : DSt) : Res OutM := f δ >>= fun o => match o with | .nx δ' => g δ' | .rt d δ' => .ok (.rt d δ')
def retM (f : DSt → Res PyData) (δ : DSt) : Res OutM := f δ >>= fun d => if flat d then .ok (.rt d δ) else .bot
def ifM (c : DSt → Res Bool) (f g : DSt → Res OutM) (δ : DSt) : Res OutM := c δ >>= fun x => if x then f δ else g δ
def nilM (δ : DSt) : Res OutM := .ok (.nx δ)
section
variable {X : Cx} {W : WS} {U : XK} {S T M : List Nat} {e a b c tg : Expr} {es tgs : List Expr} {pos p : Pos} {te ta tb : TE} {tt : TT} {t : TA} {ts ts' : TS} {st : Stmt} {rest : List Stmt}
theorem ds_down {f : DSt → Res OutM} (h : DMu X W [] st ts f) : DS X W st ts (downM f) := by
  refine ⟨h.pe, fun H0 Fz0 Fz H σ δ Dn r q => ?_⟩
  unfold SOK downM at q
  rw [wp_bind] at q
  refine h.ok [] rfl H0 Fz0 Fz H σ δ Dn r (fun p hp => nomatch hp) (wp_mono q (fun o ho => ?_) fun x hx => hx)
  cases o with
  | nx δ' => exact fun F H' σ' r' _ => ho F H' σ' r'
  | rt d δ' => exact fun F H' σ' v r' _ rv => ho F H' v ⟨r'.same, r'.sub0, r'.new0, fun _ => r'.live⟩ rv
theorem dmu_nil : DMus X W M [] tNext nilM := ⟨pss_nil, fun pin _ H0 Fz0 Fz H σ δ Dn r hp h => h Fz H σ r hp⟩
theorem dmu_cons {f g : DSt → Res OutM} (h1 : DMu X (fun _ => U) M st ts f) (h2 : DMus X (fun _ => U) M rest ts' g) : DMus X (fun _ => U) M (st :: rest) (tSeq ts ts') (seqM f g) := by
  refine ⟨pss_cons h1.pe h2.pe, fun pin hM H0 Fz0 Fz H σ δ Dn r hp h => ?_⟩
  unfold SKm seqM at h
  rw [wp_bind] at h
  refine h1.ok pin hM H0 Fz0 Fz H σ δ _ r hp (wp_mono h (fun o ho => ?_) fun x hx => hx)
  cases o with
  | nx δ' => exact fun F H' σ' r' hp' => h2.ok pin hM H0 Fz0 F H' σ' δ' Dn r' hp' ho
  | rt d δ' => exact ho
theorem dmu_one {f : DSt → Res OutM} (h1 : DMu X W M st ts f) : DMus X W M [st] ts f := ⟨pss_one h1.pe, h1.ok⟩
theorem dmu_ret {f : DSt → Res PyData} (he : DE X W S e te f) : DMu X W M (.Return (some e) pos) (tRet te) (retM f) := by
  refine ⟨ps_ret he.pe, fun pin hM H0 Fz0 Fz H σ δ Dn r hp h => ?_⟩
  unfold SKm retM at h
  rw [wp_bind] at h
  refine atE he r (wp_mono h (fun d hd v H1 F1 g1 r1 => ?_) fun x hx => hx)
  by_cases hf : flat d = true
  · rw [if_pos hf] at hd
    exact hd Fz H1 σ v (r.up g1.same) hp (r1.flat hf)
  · rw [if_neg hf] at hd
    exact hd.elim
theorem dmu_if {c : Expr} {a b : List Stmt} {h : DSt → Res Bool} {f g : DSt → Res OutM} (hc : DT X W S c tt h) (ha : DMus X W M a ts f) (hb : DMus X W M b ts' g) : DMu X W M (.If c a b pos) (tIfS tt ts ts') (ifM h f g) := by
  refine ⟨ps_if hc.pe ha.pe hb.pe, fun pin hM H0 Fz0 Fz H σ δ Dn r hp q => ?_⟩
  unfold SKm ifM at q
  rw [wp_bind] at q
  refine atT hc r (wp_mono q (fun x hx H1 r1 => ?_) fun x hx => hx)
  cases x with
  | true => exact ha.ok pin hM H0 Fz0 Fz H1 σ δ Dn r1 hp hx
  | false => exact hb.ok pin hM H0 Fz0 Fz H1 σ δ Dn r1 hp hx
theorem setsPin {K : PySem.W.Frag} {H0 H : Hp} {Fz0 Fz : FZ} {is : List Nat} {pin : Pn} (hi : ∀ i ∈ is, i ∉ pin.map (·.1)) : Sets K Fz H is (fun σ δ => Rel K H0 Fz0 Fz H σ δ ∧ Pin σ pin) := fun σ δ i v d h hr rv => ⟨hr.1.setVal rv i, hr.2.set (hi i h) v⟩
theorem dmu_asg {f : DSt → Res PyData} {g : TG} {q : Pat} (he : DE X W S e te f) (hg : DG X tg g q) (hq : ∀ i ∈ q.slots, i ∉ M) : ∀ pin, pin.map (·.1) = M → ∀ H0 Fz0 Fz H σ δ Dn, Rel X.K H0 Fz0 Fz H σ δ → Pin σ pin → SKm X.K X.mg (W σ) H0 Fz0 pin (upM (asgF S f q) δ) Dn → tAsg te g Dn σ H := fun pin hM H0 Fz0 Fz H σ δ Dn r hp h => by
  subst hM
  unfold SKm upM asgF at h
  rw [wp_bind, wp_bind] at h
  refine atE he r (wp_mono h (fun d hd v H1 F1 g1 r1 => ?_) fun x hx => hx)
  rw [wp_bind] at hd
  obtain ⟨δ', hb, hd⟩ := nEb hd
  by_cases hf : flat d = true
  · rw [if_pos hf] at hb
    refine hg.ok Fz H1 _ v d σ δ _ (setsPin hq) ⟨r.up g1.same, hp⟩ (r1.flat hf) ?_
    rw [hb]
    exact fun σ' r' => hd Fz H1 σ' r'.1 r'.2
  · rw [if_neg hf] at hb
    refine hg.ok F1 H1 _ v d σ (freeze S 0 δ) _ (setsPin hq) ⟨r.frz g1, hp⟩ r1 ?_
    rw [hb]
    exact fun σ' r' => hd F1 H1 σ' r'.1 r'.2
theorem dmu_set {i : Nat} {x : Str} {pos' : Pos} {f : DSt → Res PyData} (hN : X.N.Nodup) (hi : X.N[i]? = some x) (hx : L2.Loc X.env.scope x) (he : DE X W S e te f) (hM : i ∉ M) (hs : swapsWith e (some (.Name x pos')) pos.line X.env = pure false := by rfl) (hf : X.fn x = true ∨ X.env.scope.names.lookup x = some .local := by first | exact .inl rfl | exact .inr rfl | assumption) :
    DMu X W M (.Assign [.Name x pos'] e pos) (tAsg te (gName i)) (upM (asgF S f (.nm i))) :=
  ⟨ps_set hN hi hx he.pe hs hf, dmu_asg he (dg_name (pos := pos') hN hi hx hf) (fun j hj => by
    have : j = i := by simpa [Pat.slots] using hj
    rw [this]; exact hM)⟩
theorem dmu_append {i : Nat} {x : Str} {f : DSt → Res PyData} {apos cpos xpos : Pos} (hN : X.N[i]? = some x) (hv : Vis X.env.scope x) (he : DE X W S e te f)
    (hbase : attributeBase (.Name x xpos) "append" X.env (eval (.Name x xpos) X.env) = eval (.Name x xpos) X.env := by rfl)
    (hfew : ((backTo cpos (starEach [e] X.env)).all (fun x => !x.1) && (backToKw cpos (keywordEach [] X.env)).all (fun x => x.1.isSome)
      && decide ([e].length + ([] : List Keyword).length + (if ([] : List Keyword).isEmpty then 0 else 1) < 30)) = true := by rfl)
    (hline : (apos.endLine == cpos.line) = true := by rfl) (hs : starEach [e] X.env = (false, eval e X.env) :: starEach [] X.env := by rfl) (hplain : (backTo cpos (starEach [] X.env)).any (·.1) = false := by rfl)
    (hsw : swapsWith (.Call (.Attribute (.Name x xpos) "append" apos) [e] [] cpos) none pos.line X.env = pure false := by rfl) (hd : (x == ("__debug__" : Str)) = false := by decide) (hcd : (x == ("__classdict__" : Str)) = false := by decide) :
    DMu X W M (.Expr (.Call (.Attribute (.Name x xpos) "append" apos) [e] [] cpos) pos) (tDrop (tBM X.K "list" rAppend (tVar i) (tCons te tNil))) (upM (appF i S f)) := by
  refine ⟨ps_expr (pe_bm PySem.F.plainAttrs_list PySem.F.slot_list_append PySem.F.type_list_append mt_append (pe_var (i := i) hN hv hd hcd) (pa_cons he.pe pa_nil hs) hbase hfew hline hs hplain) hsw, fun pin hM H0 Fz0 Fz H σ δ Dn r hp h => ?_⟩
  unfold SKm upM appF at h
  rw [wp_bind] at h
  split at h
  · rename_i xs0 e1
    obtain ⟨a, e2, e4, e5, vs, e3, e6, e7⟩ := r.own i _ e1 rfl
    rw [wp_bind] at h
    refine ⟨.ref a, e2, .inl ⟨rfl, _, .of e3⟩, ?_⟩
    refine atE he r (wp_mono h (fun d hd v H1 F1 g1 r1 => ?_) fun x hx => hx)
    have fin : ∀ (F : FZ) (δ' : DSt), Rel X.K H0 Fz0 F H1 σ δ' → Rep X.K F H1 v d → (match δ'[i]? with
        | some (some (.own xs)) => if xs.length < sizeLine then (.ok (.nx (δ'.set i (some (.own (xs ++ [d]))))) : Res Out) else .bot
        | _ => .bot).wp (fun o => (match o with | .nx δ' => (.ok (.nx δ') : Res OutM) | _ => .bot).wp (OKm X.K H0 Fz0 pin Dn) (XOK X.mg (W σ) H0 Fz0)) (XOK X.mg (W σ) H0 Fz0) → rAppend (.ref a) [v] H1 fun _ H2 => Dn.nx σ H2 := fun F δ' r' rv q => by
      split at q
      · rename_i xs e1'
        obtain ⟨a', k2, k4, k5, vs', k3, k6, k7⟩ := r'.own i _ e1' rfl
        rw [e2] at k2
        cases k2
        split at q
        · rename_i hz
          have l := k7.length
          exact ⟨a, vs', v, rfl, rfl, k3, by omega, q F _ σ (r'.write e1' rfl e2 fun H' st q => ⟨_, q, by rw [List.length_append, List.length_singleton]; omega, (k7.app (.cons rv .nil)).stay st fun _ h => h⟩) hp⟩
        · exact q.elim
      · exact q.elim
    by_cases hf : flat d = true
    · simp only [hf, if_true] at hd
      exact fin Fz δ (r.up g1.same) (r1.flat hf) hd
    · simp only [hf, if_false] at hd
      exact fin F1 _ (r.frz g1) r1 hd
  · exact h.elim
end
end DL

set_option Elab.async false
set_option linter.all false
set_option maxRecDepth 100000
set_option maxHeartbeats 4000000
namespace DL
open PySem PySem.Spec L2
open PyProof.Rows hiding St

/-! ### a def that changes lists of its caller: what it promises -/
/-- the arguments: true, a list that may be changed -/
inductive ArgsR (K : PySem.W.Frag) (Fz : FZ) (H : Hp) : List Bool → List V → List PyData → Prop
  | nil : ArgsR K Fz H [] [] []
  | val {mk vs ds v d} : Rep K Fz H v d → ArgsR K Fz H mk vs ds → ArgsR K Fz H (false :: mk) (v :: vs) (d :: ds)
  | own {mk vs ds a us xs} : H a = some (.lst us) → ¬ Fz a → xs.length ≤ sizeLine → RepAll K Fz H us xs → ArgsR K Fz H mk vs ds → ArgsR K Fz H (true :: mk) (.ref a :: vs) (.list xs :: ds)
/-- where the lists lie, by slot -/
def pinsM : Nat → List Bool → List V → Pn
  | i, true :: mk, .ref a :: vs => (i, a) :: pinsM (i + 1) mk vs
  | i, _ :: mk, _ :: vs => pinsM (i + 1) mk vs
  | _, _, _ => []
def idxM : Nat → List Bool → List Nat
  | i, true :: mk => i :: idxM (i + 1) mk
  | i, false :: mk => idxM (i + 1) mk
  | _, [] => []
/-- the lists' new contents -/
inductive OwnsR (K : PySem.W.Frag) (Fz : FZ) (H : Hp) : List Addr → List (List PyData) → Prop
  | nil : OwnsR K Fz H [] []
  | cons {a as us xs ns} : H a = some (.lst us) → ¬ Fz a → xs.length ≤ sizeLine → RepAll K Fz H us xs → OwnsR K Fz H as ns → OwnsR K Fz H (a :: as) (xs :: ns)
/-- all else stays -/
structure EndM (Fz : FZ) (H : Hp) (A : List Addr) (Fz' : FZ) (H' : Hp) : Prop where
  keep : ∀ b o, H b = some o → b ∉ A → H' b = some o
  sub : ∀ b, Fz b → Fz' b
  new : ∀ b, Fz' b → Fz b ∨ H b = none
  live : Live Fz' H'
def spM (K : PySem.W.Frag) (mk : List Bool) (g : List PyData → Res (PyData × List (List PyData))) : Sp := fun vs H Q E =>
  ∃ ds Fz, Live Fz H ∧ ArgsR K Fz H mk vs ds ∧ ((pinsM 0 mk vs).map (·.2)).Nodup ∧ (g ds).wp (fun r => ∀ v H' Fz', EndM Fz H ((pinsM 0 mk vs).map (·.2)) Fz' H' → Rep K Fz' H' v r.1 → OwnsR K Fz' H' ((pinsM 0 mk vs).map (·.2)) r.2 → Q v H') (fun _ => False)
section
variable {K : PySem.W.Frag} {Fz : FZ} {H : Hp}
theorem ArgsR.len : ∀ {mk vs ds}, ArgsR K Fz H mk vs ds → vs.length = mk.length ∧ ds.length = mk.length
  | _, _, _, .nil => ⟨rfl, rfl⟩
  | _, _, _, .val _ r => ⟨by rw [List.length_cons, List.length_cons, r.len.1], by rw [List.length_cons, List.length_cons, r.len.2]⟩
  | _, _, _, .own _ _ _ _ r => ⟨by rw [List.length_cons, List.length_cons, r.len.1], by rw [List.length_cons, List.length_cons, r.len.2]⟩
theorem spM_len {mk g vs H Q E} (h : spM K mk g vs H Q E) : vs.length = mk.length := by
  obtain ⟨ds, Fz, _, h, _⟩ := h
  exact h.len.1
/-- the state at the entry -/
def slotM : Bool → PyData → SV
  | true, .list xs => .own xs
  | _, d => .val d
def startM (n : Nat) (mk : List Bool) (ds : List PyData) : DSt := (List.zipWith slotM mk ds).map some ++ List.replicate (n - ds.length) none
def contM : Nat → List Bool → DSt → Option (List (List PyData))
  | _, [], _ => some []
  | i, false :: mk, δ => contM (i + 1) mk δ
  | i, true :: mk, δ => match δ[i]? with
    | some (some (.own xs)) => (contM (i + 1) mk δ).map (xs :: ·)
    | _ => none
def outM (mk : List Bool) (d : PyData) (δ : DSt) : Res (PyData × List (List PyData)) := match contM 0 mk δ with
  | some c => .ok (d, c)
  | none => .bot
def fnM (n : Nat) (mk : List Bool) (b : DSt → Res OutM) (ds : List PyData) : Res (PyData × List (List PyData)) := nE (b (startM n mk ds)) >>= fun o => match o with
  | .nx δ => outM mk .none δ
  | .rt d δ => outM mk d δ
theorem ArgsR.at : ∀ {mk vs ds}, ArgsR K Fz H mk vs ds → ∀ (k i : Nat) s, ((List.zipWith slotM mk ds).map some)[i]? = some (some s) →
    (∃ d v, s = .val d ∧ vs[i]? = some v ∧ Rep K Fz H v d) ∨ ∃ a us xs, s = .own xs ∧ vs[i]? = some (.ref a) ∧ H a = some (.lst us) ∧ ¬ Fz a ∧ xs.length ≤ sizeLine ∧ RepAll K Fz H us xs ∧ (k + i, a) ∈ pinsM k mk vs
  | _, _, _, .nil, k, i, s, h => by simp at h
  | _, _, _, .val (mk := mk) (vs := vs) (ds := ds) (v := v) (d := d) rv r, k, 0, s, h => by
    have e : s = .val d := by
      have : some (some (slotM false d)) = some (some s) := h
      cases this; rfl
    exact .inl ⟨d, v, e, rfl, rv⟩
  | _, _, _, .val (mk := mk) (vs := vs) (ds := ds) (v := v) (d := d) rv r, k, i + 1, s, h => by
    rcases r.at (k + 1) i s h with ⟨d', v', e, e2, rr⟩ | ⟨a, us, xs, e, e2, e3, e4, e5, e6, e7⟩
    · exact .inl ⟨d', v', e, e2, rr⟩
    · refine .inr ⟨a, us, xs, e, e2, e3, e4, e5, e6, ?_⟩
      have : pinsM k (false :: mk) (v :: vs) = pinsM (k + 1) mk vs := by cases v <;> rfl
      rw [this, show k + (i + 1) = k + 1 + i by omega]
      exact e7
  | _, _, _, .own (mk := mk) (vs := vs) (ds := ds) (a := a) (us := us) (xs := xs) h1 h2 h3 h4 r, k, 0, s, h => by
    have e : s = .own xs := by
      have : some (some (slotM true (.list xs))) = some (some s) := h
      cases this; rfl
    exact .inr ⟨a, us, xs, e, rfl, h1, h2, h3, h4, List.mem_cons_self⟩
  | _, _, _, .own (mk := mk) (vs := vs) (ds := ds) (a := a) (us := us) (xs := xs) h1 h2 h3 h4 r, k, i + 1, s, h => by
    rcases r.at (k + 1) i s h with ⟨d', v', e, e2, rr⟩ | ⟨a', us', xs', e, e2, e3, e4, e5, e6, e7⟩
    · exact .inl ⟨d', v', e, e2, rr⟩
    · refine .inr ⟨a', us', xs', e, e2, e3, e4, e5, e6, List.mem_cons_of_mem _ ?_⟩
      rw [show k + (i + 1) = k + 1 + i by omega]
      exact e7
theorem pinsM_ge : ∀ (k : Nat) (mk : List Bool) (vs : List V), ∀ p ∈ pinsM k mk vs, k ≤ p.1
  | k, [], vs, p, h => by cases vs <;> simp [pinsM] at h
  | k, b :: mk, [], p, h => by cases b <;> simp [pinsM] at h
  | k, true :: mk, v :: vs, p, h => by
    cases v with
    | ref a =>
      rcases List.mem_cons.mp h with rfl | h
      · exact Nat.le_refl _
      · exact Nat.le_of_succ_le (pinsM_ge (k + 1) mk vs p h)
    | _ => exact Nat.le_of_succ_le (pinsM_ge (k + 1) mk vs p h)
  | k, false :: mk, v :: vs, p, h => by
    have : pinsM k (false :: mk) (v :: vs) = pinsM (k + 1) mk vs := by cases v <;> rfl
    rw [this] at h
    exact Nat.le_of_succ_le (pinsM_ge (k + 1) mk vs p h)
theorem pinsM_idx : ∀ {mk vs ds}, ArgsR K Fz H mk vs ds → ∀ k, (pinsM k mk vs).map (·.1) = idxM k mk
  | _, _, _, .nil, k => rfl
  | _, _, _, .val (mk := mk) (vs := vs) (v := v) _ r, k => by
    have : pinsM k (false :: mk) (v :: vs) = pinsM (k + 1) mk vs := by cases v <;> rfl
    rw [this, pinsM_idx r]; rfl
  | _, _, _, .own _ _ _ _ r, k => by
    show _ :: _ = _ :: _
    rw [pinsM_idx r]
theorem pinsM_val : ∀ {mk vs ds}, ArgsR K Fz H mk vs ds → ∀ k, ∀ p ∈ pinsM k mk vs, ∃ j, p.1 = k + j ∧ vs[j]? = some (.ref p.2)
  | _, _, _, .nil, k, p, h => by simp [pinsM] at h
  | _, _, _, .val (mk := mk) (vs := vs) (v := v) _ r, k, p, h => by
    have e : pinsM k (false :: mk) (v :: vs) = pinsM (k + 1) mk vs := by cases v <;> rfl
    rw [e] at h
    obtain ⟨j, h1, h2⟩ := pinsM_val r (k + 1) p h
    exact ⟨j + 1, by omega, h2⟩
  | _, _, _, .own _ _ _ _ r, k, p, h => by
    rcases List.mem_cons.mp h with rfl | h
    · exact ⟨0, rfl, rfl⟩
    · obtain ⟨j, h1, h2⟩ := pinsM_val r (k + 1) p h
      exact ⟨j + 1, by omega, h2⟩
/-- the same address: the same slot -/
theorem pin_inj {l : Pn} (h : (l.map (·.2)).Nodup) {p q : Nat × Addr} (hp : p ∈ l) (hq : q ∈ l) (e : p.2 = q.2) : p = q := by
  induction l with
  | nil => cases hp
  | cons x l ih =>
    rw [List.map_cons, List.nodup_cons] at h
    rcases List.mem_cons.mp hp with h1 | h1 <;> rcases List.mem_cons.mp hq with h2 | h2
    · rw [h1, h2]
    · exact absurd (by rw [← h1, e]; exact List.mem_map_of_mem h2) h.1
    · exact absurd (by rw [← h2, ← e]; exact List.mem_map_of_mem h1) h.1
    · exact ih h.2 h1 h2
def outsideH (A : List Addr) (H : Hp) : Hp := fun a => open Classical in if a ∈ A then none else H a
theorem outside_in {A : List Addr} {a : Addr} (h : a ∈ A) : outsideH A H a = none := by
  unfold outsideH
  rw [if_pos h]
theorem outside_out {A : List Addr} {a : Addr} (h : a ∉ A) : outsideH A H a = H a := by
  unfold outsideH
  rw [if_neg h]
theorem start_get {n : Nat} {vs : List V} {i : Nat} {v : V} (h : vs[i]? = some v) (N : List Str) (hN : N.length = n) : (L2.start N vs)[i]? = some (some v) := by
  unfold L2.start
  have hi : i < vs.length := (List.getElem?_eq_some_iff.mp h).1
  rw [List.getElem?_append_left (by rw [List.length_map]; exact hi), List.getElem?_map, h]
  rfl
theorem startM_get {n : Nat} {mk : List Bool} {ds : List PyData} (hl : ds.length = mk.length) {i : Nat} {s : SV} (h : (startM n mk ds)[i]? = some (some s)) : ((List.zipWith slotM mk ds).map some)[i]? = some (some s) := by
  unfold startM at h
  have hz : (List.zipWith slotM mk ds).length = ds.length := by rw [List.length_zipWith, hl]; omega
  by_cases hi : i < ds.length
  · rwa [List.getElem?_append_left (by rw [List.length_map, hz]; exact hi)] at h
  · rw [List.getElem?_append_right (by rw [List.length_map, hz]; omega)] at h
    obtain ⟨_, h⟩ := List.getElem?_eq_some_iff.mp h
    rw [List.getElem_replicate] at h
    cases h
theorem entry_rel {mk vs ds} (N : List Str) (live : Live Fz H) (r : ArgsR K Fz H mk vs ds) (nd : ((pinsM 0 mk vs).map (·.2)).Nodup) : Rel K (outsideH ((pinsM 0 mk vs).map (·.2)) H) Fz Fz H (L2.start N vs) (startM N.length mk ds) ∧ Pin (L2.start N vs) (pinsM 0 mk vs) := by
  obtain ⟨l1, l2⟩ := r.len
  have gv : ∀ {i : Nat} {v : V}, vs[i]? = some v → (L2.start N vs)[i]? = some (some v) := fun h => start_get h N rfl
  refine ⟨⟨fun a o e => ?_, fun _ h => h, fun _ h => .inl h, live, ?_, fun i d e => ?_, fun i s e ho => ?_, fun i j s u a hij e1 o1 e2 o2 h1 h2 => ?_⟩, fun p hp => ?_⟩
  · by_cases ha : a ∈ (pinsM 0 mk vs).map (·.2)
    · rw [outside_in ha] at e; cases e
    · rwa [outside_out ha] at e
  · unfold L2.start startM
    rw [List.length_append, List.length_append, List.length_map, List.length_map, List.length_replicate, List.length_replicate, List.length_zipWith, l1, l2]
    omega
  · rcases r.at 0 i _ (startM_get l2 e) with ⟨d', v, e1, e2, rv⟩ | ⟨a, us, xs, e1, _⟩
    · cases e1
      exact ⟨v, gv e2, rv⟩
    · cases e1
  · rcases r.at 0 i _ (startM_get l2 e) with ⟨d', v, e1, _⟩ | ⟨a, us, xs, e1, e2, e3, e4, e5, e6, e7⟩
    · subst e1; cases ho
    · subst e1
      exact ⟨a, gv e2, outside_in (List.mem_map_of_mem (f := (·.2)) e7), e4, us, e3, e5, e6⟩
  · rcases r.at 0 i _ (startM_get l2 e1) with ⟨d', v, q1, _⟩ | ⟨a1, us, xs, q1, q2, q3, q4, q5, q6, q7⟩
    · subst q1; cases o1
    · rcases r.at 0 j _ (startM_get l2 e2) with ⟨d', v, p1, _⟩ | ⟨a2, us2, xs2, p1, p2, p3, p4, p5, p6, p7⟩
      · subst p1; cases o2
      · have z1 := gv q2
        have z2 := gv p2
        rw [h1] at z1
        rw [h2] at z2
        cases z1
        cases z2
        have := pin_inj nd q7 p7 rfl
        have := congrArg Prod.fst this
        simp at this
        exact hij this
  · obtain ⟨j, h1, h2⟩ := pinsM_val r 0 p hp
    rw [h1, Nat.zero_add]
    exact gv h2
/-- what the lists hold at the end -/
theorem owns_of {H0 H' : Hp} {Fz0 F' : FZ} {σ' : L2.St} {δ' : DSt} (r : Rel K H0 Fz0 F' H' σ' δ') : ∀ (k : Nat) (mk : List Bool) (vs : List V) (c : List (List PyData)), vs.length = mk.length → Pin σ' (pinsM k mk vs) → (pinsM k mk vs).map (·.1) = idxM k mk → contM k mk δ' = some c → OwnsR K F' H' ((pinsM k mk vs).map (·.2)) c
  | k, [], vs, c, _, _, _, h => by
    have : pinsM k [] vs = [] := by cases vs <;> rfl
    rw [this]
    cases h
    exact .nil
  | k, false :: mk, [], c, hl, _, _, h => by cases hl
  | k, false :: mk, v :: vs, c, hl, hp, hi, h => by
    have e : pinsM k (false :: mk) (v :: vs) = pinsM (k + 1) mk vs := by cases v <;> rfl
    rw [e] at hp hi ⊢
    exact owns_of r (k + 1) mk vs c (by simpa using hl) hp hi h
  | k, true :: mk, [], c, hl, hp, hi, h => by cases hl
  | k, true :: mk, v :: vs, c, hl, hp, hi, h => by
    cases v with
    | ref a =>
      have hi : k :: (pinsM (k + 1) mk vs).map (·.1) = k :: idxM (k + 1) mk := hi
      have hi := (List.cons.inj hi).2
      unfold contM at h
      cases q : δ'[k]? with
      | none => rw [q] at h; cases h
      | some o =>
        cases o with
        | none => rw [q] at h; cases h
        | some s =>
          cases s with
          | own xs =>
            rw [q] at h
            dsimp only at h
            cases q2 : contM (k + 1) mk δ' with
            | none => rw [q2] at h; cases h
            | some c' =>
              rw [q2] at h
              cases h
              obtain ⟨a', h1, h2, h3, us, h4, h5, h6⟩ := r.own k _ q rfl
              have h7 : σ'[k]? = some (some (.ref a)) := hp (k, a) List.mem_cons_self
              rw [h1] at h7
              cases h7
              exact .cons h4 h3 h5 h6 (owns_of r (k + 1) mk vs c' (by simpa using hl) (fun p hp' => hp p (List.mem_cons_of_mem _ hp')) hi q2)
          | val d => rw [q] at h; cases h
          | ownd t ks vs => rw [q] at h; cases h
    | _ =>
      exfalso
      have hge := pinsM_ge (k + 1) mk vs
      have hi : (pinsM (k + 1) mk vs).map (·.1) = k :: idxM (k + 1) mk := hi
      cases hq : pinsM (k + 1) mk vs with
      | nil => rw [hq] at hi; cases hi
      | cons p l =>
        rw [hq] at hi hge
        have := hge p List.mem_cons_self
        have e := (List.cons.inj hi).1
        dsimp only at e
        omega
/-- a def that changes lists of its caller, as a function of data: the answer, the lists' new contents -/
structure FDm (P : Program) (w : World) (K : PySem.W.Frag) (mg : Str → Option Value) (base : Heap) (k : Nat) (mk : List Bool) (x : Str) (g : List PyData → Res (PyData × List (List PyData))) : Prop where
  ex : ∃ (f : Addr) (fd : FuncData) (ps : List Str), FnOk P w K mg base CX0 k f fd ps (spM K mk g) ∧ mg x = some (.ref f) ∧ PySem.W.keepIn K (.ref f) = true ∧ Binds K fd ps []
theorem FDm.mono {P : Program} {w : World} {K : PySem.W.Frag} {mg : Str → Option Value} {base : Heap} {k j : Nat} {mk : List Bool} {x : Str} {g : List PyData → Res (PyData × List (List PyData))} (h : FDm P w K mg base k mk x g) (hk : k ≤ j) : FDm P w K mg base j mk x g := by
  obtain ⟨f, fd, ps, F, h1, h2, h3⟩ := h.ex
  exact ⟨f, fd, ps, F.mono hk, h1, h2, h3⟩
theorem exit_end {mk vs ds} {F' : FZ} {H' : Hp} {σ' : L2.St} {δ' : DSt} {c : List (List PyData)} (live : Live Fz H) (ra : ArgsR K Fz H mk vs ds) (r : Rel K (outsideH ((pinsM 0 mk vs).map (·.2)) H) Fz F' H' σ' δ') (hp : Pin σ' (pinsM 0 mk vs)) (hc : contM 0 mk δ' = some c) :
    EndM Fz H ((pinsM 0 mk vs).map (·.2)) F' H' ∧ OwnsR K F' H' ((pinsM 0 mk vs).map (·.2)) c := by
  have ho := owns_of r 0 mk vs c ra.len.1 hp (pinsM_idx ra 0) hc
  have hno : ∀ a ∈ (pinsM 0 mk vs).map (·.2), ¬ F' a := by
    have key : ∀ {as : List Addr} {ns}, OwnsR K F' H' as ns → ∀ a ∈ as, ¬ F' a := by
      intro as ns h
      induction h with
      | nil => intro a ha; cases ha
      | cons h1 h2 h3 h4 _ ih =>
        intro a ha
        rcases List.mem_cons.mp ha with rfl | ha
        · exact h2
        · exact ih a ha
    exact key ho
  refine ⟨⟨fun b o e hb => r.same b o (by rw [outside_out hb]; exact e), r.sub0, fun b z => ?_, r.live⟩, ho⟩
  rcases r.new0 b z with z1 | z1
  · exact .inl z1
  · by_cases hb : b ∈ (pinsM 0 mk vs).map (·.2)
    · exact absurd z (hno b hb)
    · rw [outside_out hb] at z1
      exact .inr z1
theorem fdm_of {P : Program} {w : World} {mg : Str → Option Value} {base : Heap} {x : Str} {st : Stmt} {f : Addr} {fd : FuncData} {N ps : List Str} {k : Nat} {mk : List Bool} (F : Fun K x x st f fd) (hm : mg x = some (.ref f)) (b : Binds K fd ps []) (S : FnScope N ps (defScope st)) (hmk : mk.length = ps.length) {g : DSt → Res OutM}
    (hbody : ∀ (cdv : Value) (A : Around) (outer : List Env) (s : Shared) (H : Hp) (E : XK), Room k (A.deeper (envOfC x (defScope st) s.heap.objs.size f cdv)) →
      ∃ t, DMus (cxOf CX0 P w K mg base N x (defScope st) f cdv A outer s H E).nox (fun _ => E0) (idxM 0 mk) (defBody st) t g) : FDm P w K mg base (k + 1) mk x (fnM N.length mk g) := by
  refine ⟨f, fd, ps, ?_, hm, F.kp, b⟩
  refine F.ok S (fun vs H Q E h => (spM_len h).trans hmk) (fun cdv A outer s H vs Q E hr h => ?_)
  obtain ⟨t, ht⟩ := hbody cdv A outer s H E hr
  refine ⟨t, ht.pe, ?_⟩
  obtain ⟨ds, Fz, live, ra, nd, q⟩ := h
  obtain ⟨re, pe⟩ := entry_rel N live ra nd
  refine ht.ok _ (pinsM_idx ra 0) _ Fz Fz H (start N vs) (startM N.length mk ds) _ re pe ?_
  unfold fnM at q
  unfold SKm
  rw [wp_bind] at q
  refine wp_mono (nE_wpA q) (fun o q => ?_) (fun _ h => h)
  · have q : (match o with | .nx δ => outM mk .none δ | .rt d δ => outM mk d δ).wp _ _ := q
    have fin : ∀ (d : PyData) (δ' : DSt) (F' : FZ) (H' : Hp) (σ' : L2.St) (v : V), (outM mk d δ').wp (fun r => ∀ v H' Fz', EndM Fz H ((pinsM 0 mk vs).map (·.2)) Fz' H' → Rep K Fz' H' v r.1 → OwnsR K Fz' H' ((pinsM 0 mk vs).map (·.2)) r.2 → Q v H') (fun _ => False) → Rel K (outsideH ((pinsM 0 mk vs).map (·.2)) H) Fz F' H' σ' δ' → Pin σ' (pinsM 0 mk vs) → Rep K F' H' v d → Q v H' := fun d δ' F' H' σ' v q r hp rv => by
      unfold outM at q
      cases hc : contM 0 mk δ' with
      | none => rw [hc] at q; exact q.elim
      | some c =>
        rw [hc] at q
        obtain ⟨e1, e2⟩ := exit_end live ra r hp hc
        exact q v H' F' e1 rv e2
    cases o with
    | nx δ' => exact fun F' H' σ' r hp => fin .none δ' F' H' σ' .non q r hp .non
    | rt d δ' => exact fun F' H' σ' v r hp rv => fin d δ' F' H' σ' v q r hp rv
end
end DL

set_option Elab.async false
set_option linter.all false
set_option maxRecDepth 100000
set_option maxHeartbeats 4000000
namespace DL
open PySem PySem.Spec L2
open PyProof.Rows hiding St

/-! ### .. called: x = f(.., xs, ..) -/
/-- an argument: a flat value, the list at slot i, a new empty list (last) -/
inductive MA where
  | v | o (i : Nat) | n
def mkOf : List MA → List Bool
  | [] => []
  | .v :: ks => false :: mkOf ks
  | _ :: ks => true :: mkOf ks
def ixOf : List MA → List Nat
  | [] => []
  | .o i :: ks => i :: ixOf ks
  | _ :: ks => ixOf ks
inductive ArgsM (K : PySem.W.Frag) (H0 : Hp) (Fz : FZ) (H : Hp) (σ : L2.St) (δ : DSt) : List MA → List V → List PyData → Prop
  | nil : ArgsM K H0 Fz H σ δ [] [] []
  | v {ks vs ds v d} : flat d = true → Rep K Fz H v d → ArgsM K H0 Fz H σ δ ks vs ds → ArgsM K H0 Fz H σ δ (.v :: ks) (v :: vs) (d :: ds)
  | o {ks vs ds i a xs} : δ[i]? = some (some (.own xs)) → σ[i]? = some (some (.ref a)) → ArgsM K H0 Fz H σ δ ks vs ds → ArgsM K H0 Fz H σ δ (.o i :: ks) (.ref a :: vs) (.list xs :: ds)
  | n {a} : H a = some (.lst []) → ¬ Fz a → H0 a = none → (∀ (j : Nat) u, δ[j]? = some (some u) → u.isOwn = true → σ[j]? ≠ some (some (.ref a))) → ArgsM K H0 Fz H σ δ [.n] [.ref a] [.list []]
def setsM : List MA → List (List PyData) → DSt → DSt
  | .o i :: ks, xs :: c, δ => setsM ks c (δ.set i (some (.own xs)))
  | .n :: ks, _ :: c, δ => setsM ks c δ
  | .v :: ks, c, δ => setsM ks c δ
  | _, _, δ => δ
section
variable {K : PySem.W.Frag} {H0 H : Hp} {Fz0 Fz : FZ} {σ : L2.St} {δ : DSt}
theorem pins_false {k : Nat} {mk : List Bool} {v : V} {vs : List V} : pinsM k (false :: mk) (v :: vs) = pinsM (k + 1) mk vs := by cases v <;> rfl
abbrev adr (k : Nat) (ks : List MA) (vs : List V) : List Addr := (pinsM k (mkOf ks) vs).map (·.2)
theorem adr_v {k ks v vs} : adr k (.v :: ks) (v :: vs) = adr (k + 1) ks vs := by
  show (pinsM k (false :: mkOf ks) (v :: vs)).map (·.2) = _
  rw [pins_false]
theorem adr_o {k i ks a vs} : adr k (.o i :: ks) (.ref a :: vs) = a :: adr (k + 1) ks vs := rfl
theorem adr_n {k a} : adr k [.n] [.ref a] = [a] := rfl
theorem ArgsM.reg (r : Rel K H0 Fz0 Fz H σ δ) : ∀ {ks vs ds}, ArgsM K H0 Fz H σ δ ks vs ds → ArgsR K Fz H (mkOf ks) vs ds
  | _, _, _, .nil => .nil
  | _, _, _, .v _ rv m => .val rv (m.reg r)
  | _, _, _, .o h1 h2 m => by
    obtain ⟨a', e, _, h3, us, h4, h5, h6⟩ := r.own _ _ h1 rfl
    rw [h2] at e
    cases e
    exact .own h4 h3 h5 h6 (m.reg r)
  | _, _, _, .n h1 h2 _ _ => .own h1 h2 (Nat.zero_le _) .nil .nil
theorem ArgsM.mem (r : Rel K H0 Fz0 Fz H σ δ) : ∀ {ks vs ds}, ArgsM K H0 Fz H σ δ ks vs ds → ∀ k, ∀ b ∈ adr k ks vs, (H0 b = none ∧ ¬ Fz b ∧ ∃ us, H b = some (.lst us)) ∧ ((∃ j xs, j ∈ ixOf ks ∧ δ[j]? = some (some (.own xs)) ∧ σ[j]? = some (some (.ref b))) ∨ ∀ (j : Nat) u, δ[j]? = some (some u) → u.isOwn = true → σ[j]? ≠ some (some (.ref b)))
  | _, _, _, .nil, k, b, h => by simp [adr, pinsM, mkOf] at h
  | _, _, _, .v _ _ m, k, b, h => by
    rw [adr_v] at h
    exact m.mem r (k + 1) b h
  | _, _, _, .o (i := i) (a := a) (xs := xs) h1 h2 m, k, b, h => by
    rw [adr_o] at h
    rcases List.mem_cons.mp h with rfl | h
    · obtain ⟨a', e, h3, h4, us, h5, _⟩ := r.own _ _ h1 rfl
      rw [h2] at e
      cases e
      exact ⟨⟨h3, h4, us, h5⟩, .inl ⟨i, xs, List.mem_cons_self, h1, h2⟩⟩
    · obtain ⟨q, z⟩ := m.mem r (k + 1) b h
      refine ⟨q, z.elim (fun ⟨j, ys, z1, z2, z3⟩ => .inl ⟨j, ys, List.mem_cons_of_mem _ z1, z2, z3⟩) .inr⟩
  | _, _, _, .n (a := a) h1 h2 h3 h4, k, b, h => by
    rw [adr_n, List.mem_singleton] at h
    subst h
    exact ⟨⟨h3, h2, _, h1⟩, .inr h4⟩
theorem ArgsM.nodup (r : Rel K H0 Fz0 Fz H σ δ) : ∀ {ks vs ds}, ArgsM K H0 Fz H σ δ ks vs ds → (ixOf ks).Nodup → ∀ k, (adr k ks vs).Nodup
  | _, _, _, .nil, _, k => .nil
  | _, _, _, .v _ _ m, h, k => by
    rw [adr_v]
    exact m.nodup r h (k + 1)
  | _, _, _, .o (i := i) (a := a) h1 h2 m, h, k => by
    have h : (i :: ixOf _).Nodup := h
    rw [List.nodup_cons] at h
    rw [adr_o, List.nodup_cons]
    refine ⟨fun hm => ?_, m.nodup r h.2 (k + 1)⟩
    rcases (m.mem r (k + 1) a hm).2 with ⟨j, ys, z1, z2, z3⟩ | z
    · exact r.sep i j _ _ a (fun e => h.1 (e ▸ z1)) h1 rfl z2 rfl h2 z3
    · exact z i _ h1 rfl h2
  | _, _, _, .n _ _ _ _, _, k => by
    rw [adr_n]
    simp
theorem setsM_len : ∀ (ks : List MA) (c : List (List PyData)) (δ : DSt), (setsM ks c δ).length = δ.length
  | [], c, δ => rfl
  | .v :: ks, c, δ => setsM_len ks c δ
  | .o i :: ks, [], δ => rfl
  | .o i :: ks, xs :: c, δ => by
    show (setsM ks c (δ.set i (some (.own xs)))).length = _
    rw [setsM_len ks c, List.length_set]
  | .n :: ks, [], δ => rfl
  | .n :: ks, xs :: c, δ => setsM_len ks c δ
theorem setsM_get {F2 : FZ} {H2 : Hp} : ∀ {ks vs ds}, ArgsM K H0 Fz H σ δ ks vs ds → ∀ (k : Nat) {c : List (List PyData)}, OwnsR K F2 H2 (adr k ks vs) c → ∀ (δ1 : DSt) (j : Nat) s, (setsM ks c δ1)[j]? = some (some s) →
    (j ∈ ixOf ks ∧ ∃ a xs us ys, s = .own xs ∧ σ[j]? = some (some (.ref a)) ∧ δ[j]? = some (some (.own ys)) ∧ H2 a = some (.lst us) ∧ ¬ F2 a ∧ xs.length ≤ sizeLine ∧ RepAll K F2 H2 us xs) ∨ (j ∉ ixOf ks ∧ δ1[j]? = some (some s))
  | _, _, _, .nil, k, c, ow, δ1, j, s, h => .inr ⟨by simp [ixOf], h⟩
  | _, _, _, .v _ _ m, k, c, ow, δ1, j, s, h => by
    rw [adr_v] at ow
    exact setsM_get m (k + 1) ow δ1 j s h
  | _, _, _, .o (i := i) (a := a) (xs := ys) h1 h2 m, k, c, ow, δ1, j, s, h => by
    rw [adr_o] at ow
    cases ow with
    | cons g1 g2 g3 g4 ow =>
      rename_i us xs ns
      rcases setsM_get m (k + 1) ow _ j s h with ⟨z1, z⟩ | ⟨z1, z⟩
      · exact .inl ⟨List.mem_cons_of_mem _ z1, z⟩
      · rcases set_get z with ⟨rfl, _, rfl⟩ | ⟨hij, z⟩
        · exact .inl ⟨List.mem_cons_self, a, _, us, ys, rfl, h2, h1, g1, g2, g3, g4⟩
        · exact .inr ⟨fun hm => (List.mem_cons.mp hm).elim (fun e => hij e.symm) z1, z⟩
  | _, _, _, .n _ _ _ _, k, c, ow, δ1, j, s, h => by
    rw [adr_n] at ow
    cases ow with
    | cons g1 g2 g3 g4 ow => exact .inr ⟨by simp [ixOf], h⟩
theorem rel_call {F2 : FZ} {H2 : Hp} {ks vs ds c} (r : Rel K H0 Fz0 Fz H σ δ) (m : ArgsM K H0 Fz H σ δ ks vs ds) (e : EndM Fz H (adr 0 ks vs) F2 H2) (ow : OwnsR K F2 H2 (adr 0 ks vs) c) : Rel K H0 Fz0 F2 H2 σ (setsM ks c δ) := by
  have mem := m.mem r 0
  have st : Stay Fz H H2 := fun a o ha hk => e.keep a o ha fun hm => by
    obtain ⟨⟨_, h2, us, h3⟩, _⟩ := mem a hm
    rw [h3] at ha
    cases ha
    rcases hk with hk | ⟨xs, hk⟩ | ⟨u, v, hk⟩
    · exact h2 hk
    · cases hk
    · cases hk
  have get := setsM_get (F2 := F2) (H2 := H2) m 0 ow δ
  have wasOwn : ∀ {j : Nat} {s : SV}, (setsM ks c δ)[j]? = some (some s) → s.isOwn = true → ∃ s' : SV, δ[j]? = some (some s') ∧ s'.isOwn = true := fun {j s} h ho => by
    rcases get j s h with ⟨_, a, xs, us, ys, _, _, z, _⟩ | ⟨_, z⟩
    · exact ⟨_, z, rfl⟩
    · exact ⟨_, z, ho⟩
  refine ⟨fun b o hb => e.keep b o (r.same b o hb) fun hm => ?_, fun a h => e.sub a (r.sub0 a h), fun a h => ?_, e.live, by rw [setsM_len]; exact r.len, fun j d h => ?_, fun j s h ho => ?_, fun i j s u a hij h1 o1 h2 o2 h3 h4 => ?_⟩
  · have := (mem b hm).1.1
    rw [this] at hb
    cases hb
  · rcases e.new a h with z | z
    · exact r.new0 a z
    · exact .inr (none_of_same r.same z)
  · rcases get j _ h with ⟨_, a, xs, us, ys, z, _⟩ | ⟨_, z⟩
    · cases z
    · obtain ⟨v, h1, h2⟩ := r.val j d z
      exact ⟨v, h1, h2.stay st e.sub⟩
  · rcases get j _ h with ⟨_, a, xs, us, ys, rfl, z2, z3, z4, z5, z6, z7⟩ | ⟨hj, z⟩
    · obtain ⟨a', q1, q2, _⟩ := r.own j _ z3 rfl
      rw [z2] at q1
      cases q1
      exact ⟨a, z2, q2, z5, us, z4, z6, z7⟩
    · obtain ⟨a, q1, q2, q3, q4⟩ := r.own j _ z ho
      have hna : a ∉ adr 0 ks vs := fun hm => by
        rcases (mem a hm).2 with ⟨i, xs, w1, w2, w3⟩ | w
        · exact r.sep i j _ _ a (fun q => hj (q ▸ w1)) w2 rfl z ho w3 q1
        · exact w j _ z ho q1
      obtain ⟨o, h5, _⟩ := q4.mut
      refine ⟨a, q1, q2, fun w => ?_, q4.keep st e.sub ((e.keep a o h5 hna).trans h5.symm)⟩
      rcases e.new a w with w | w
      · exact q3 w
      · rw [w] at h5; cases h5
  · obtain ⟨s1, w1, w2⟩ := wasOwn h1 o1
    obtain ⟨s2, w3, w4⟩ := wasOwn h2 o2
    exact r.sep i j _ _ a hij w1 w2 w3 w4 h3 h4
end
structure DAM (X : Cx) (W : WS) (ks : List MA) (es : List Expr) (t : TA) (f : DSt → Res (List PyData)) : Prop where
  pe : PA X es t
  ok : ∀ H0 Fz0 Fz H σ δ Q, Rel X.K H0 Fz0 Fz H σ δ → (f δ).wp (fun ds => ∀ vs H1, Same H H1 → Rel X.K H0 Fz0 Fz H1 σ δ → ArgsM X.K H0 Fz H1 σ δ ks vs ds → Q vs H1) (XOK X.mg (W σ) H0 Fz0) → t σ H Q
def aV (f : DSt → Res PyData) (g : DSt → Res (List PyData)) (δ : DSt) : Res (List PyData) := f δ >>= fun x => if flat x then g δ >>= fun xs => .ok (x :: xs) else .bot
def aO (i : Nat) (g : DSt → Res (List PyData)) (δ : DSt) : Res (List PyData) := match δ[i]? with
  | some (some (.own xs)) => g δ >>= fun rs => .ok (.list xs :: rs)
  | _ => .bot
def aN (_ : DSt) : Res (List PyData) := .ok [.list []]
def callM (ks : List MA) (f : DSt → Res (List PyData)) (g : List PyData → Res (PyData × List (List PyData))) (q : Pat) (δ : DSt) : Res OutM := f δ >>= fun ds => nE (g ds) >>= fun r => nE (bindP q r.1 (setsM ks r.2 δ)) >>= fun δ' => .ok (.nx δ')
section
variable {X : Cx} {W : WS} {U : XK} {S T M : List Nat} {e a b c tg : Expr} {es tgs : List Expr} {pos p ps0 : Pos} {te ta tb : TE} {tt : TT} {t : TA} {ts ts' : TS} {st : Stmt} {rest : List Stmt} {ks : List MA}
theorem same_trans {H1 H2 H3 : Hp} (a : Same H1 H2) (b : Same H2 H3) : Same H1 H3 := fun x o e => b x o (a x o e)
theorem dam_nil : DAM X W [] [] tNil (fun _ => .ok []) := ⟨pa_nil, fun H0 Fz0 Fz H σ δ Q r h => h [] H (fun _ _ e => e) r .nil⟩
theorem dam_val {f : DSt → Res PyData} {g : DSt → Res (List PyData)} (he : DE X W S e te f) (hr : DAM X W ks es t g) (hs : starEach (e :: es) X.env = (false, eval e X.env) :: starEach es X.env := by rfl) : DAM X W (.v :: ks) (e :: es) (tCons te t) (aV f g) := by
  refine ⟨pa_cons he.pe hr.pe hs, fun H0 Fz0 Fz H σ δ Q r h => ?_⟩
  unfold aV at h
  rw [wp_bind] at h
  refine atE he r (wp_mono h (fun x hx v H1 F1 g1 r1 => ?_) fun x hx => hx)
  by_cases hf : flat x = true
  · rw [if_pos hf, wp_bind] at hx
    exact hr.ok H0 Fz0 Fz H1 σ δ _ (r.up g1.same) (wp_mono hx (fun xs hxs vs H2 s2 r2 m => hxs (v :: vs) H2 (same_trans g1.same s2) r2 (.v hf ((r1.flat hf : Rep X.K Fz H1 v x).stay (.of_same s2) fun _ h => h) m)) fun x hx => hx)
  · rw [if_neg hf] at hx
    exact hx.elim
theorem dam_own {i : Nat} {x : Str} {pos' : Pos} {g : DSt → Res (List PyData)} (hN : X.N[i]? = some x) (hv : Vis X.env.scope x) (hr : DAM X W ks es t g) (hs : starEach (.Name x pos' :: es) X.env = (false, eval (.Name x pos') X.env) :: starEach es X.env := by rfl) (hd : (x == ("__debug__" : Str)) = false := by decide) (hcd : (x == ("__classdict__" : Str)) = false := by decide) : DAM X W (.o i :: ks) (.Name x pos' :: es) (tCons (tVar i) t) (aO i g) := by
  refine ⟨pa_cons (pe_var hN hv hd hcd) hr.pe hs, fun H0 Fz0 Fz H σ δ Q r h => ?_⟩
  unfold aO at h
  split at h
  · rename_i xs e1
    obtain ⟨a, e2, _⟩ := r.own i _ e1 rfl
    rw [wp_bind] at h
    refine ⟨.ref a, e2, ?_⟩
    exact hr.ok H0 Fz0 Fz H σ δ _ r (wp_mono h (fun rs hrs vs H2 s2 r2 m => hrs (.ref a :: vs) H2 s2 r2 (.o e1 e2 m)) fun x hx => hx)
  · exact h.elim
theorem dam_new (hs : starEach [.List [] p] X.env = (false, eval (.List [] p) X.env) :: starEach [] X.env := by rfl) : DAM X W [.n] [.List [] p] (tCons (tLst tNil) tNil) aN := by
  refine ⟨pa_cons (pe_lst pa_nil) pa_nil hs, fun H0 Fz0 Fz H σ δ Q r h => ?_⟩
  refine ⟨Nat.zero_le _, fun q np => ?_⟩
  have s1 : Same H (upd H q (.lst [])) := same_upd np
  exact h [.ref q] _ s1 (r.up s1) (.n upd_same (fun z => r.live q z np) (none_of_same r.same np) (r.apart np))
theorem dmu_call (K) (mg) {k j i : Nat} {x y : Str} {pos' : Pos} {mk : List Bool} {g : List PyData → Res (PyData × List (List PyData))} {f : DSt → Res (List PyData)} (hN : X.N.Nodup) (hi : X.N[i]? = some y) (hx : L2.Loc X.env.scope y) (c : FDm X.prog X.w K mg X.base k mk x g) (hr : Room j X.A) (hk : k ≤ j) (hg : Gl X x) (hmk : mkOf ks = mk) (hnd : (ixOf ks).Nodup) (ha : DAM X W ks (e :: es) t f) (hM : i ∉ M) (hK : X.K = K := by rfl) (hMg : X.mg = mg := by rfl)
    (hdb : (x == ("__debug__" : Str)) = false := by decide) (he : starEach (e :: es) X.env = (false, eval e X.env) :: starEach es X.env := by rfl) (hpl : (backTo pos (starEach es X.env)).any (·.1) = false := by rfl)
    (hs : swapsWith (.Call (.Name x p) (e :: es) [] pos) (some (.Name y pos')) ps0.line X.env = pure false := by rfl) (hf : X.fn y = true ∨ X.env.scope.names.lookup y = some .local := by first | exact .inl rfl | exact .inr rfl | assumption) :
    DMu X W M (.Assign [.Name y pos'] (.Call (.Name x p) (e :: es) [] pos) ps0) (tAsg (tCall (spM K mk g) [] L2.E0 t) (gName i)) (callM ks f g (.nm i)) := by
  subst hK hMg hmk
  obtain ⟨fa, fd, ps, F, hm, kp, hb⟩ := c.ex
  have hgn := dg_name (X := X) (pos := pos') hN hi hx hf
  refine ⟨ps_set hN hi hx (pe_call F (hr.mono hk) hg hm kp hb .nil pass0 ha.pe hdb he hpl) hs hf, fun pin hMp H0 Fz0 Fz H σ δ Dn r hp h => ?_⟩
  subst hMp
  unfold SKm callM at h
  rw [wp_bind] at h
  refine ha.ok H0 Fz0 Fz H σ δ _ r (wp_mono h (fun ds hds vs H1 s1 r1 m => ?_) fun x hx => hx)
  rw [wp_bind] at hds
  refine ⟨ds, Fz, r1.live, by rw [List.append_nil]; exact m.reg r1, by rw [List.append_nil]; exact m.nodup r1 hnd 0, wp_mono (nE_wpA hds) (fun rr hds v H2 F2 ee rv ow => ?_) fun _ h => h⟩
  rw [wp_bind] at hds
  obtain ⟨δ', hb', hds⟩ := nEb hds
  rw [List.append_nil] at ee ow
  have r2 := rel_call r1 m ee ow
  refine hgn.ok F2 H2 _ v rr.1 σ _ _ (setsPin (K := X.K) (H0 := H0) (Fz0 := Fz0) (pin := pin) (fun q hq => by
    have : q = i := by simpa [Pat.slots] using hq
    rw [this]; exact hM)) ⟨r2, hp⟩ rv ?_
  rw [hb']
  exact fun σ' r' => hds F2 H2 σ' r'.1 r'.2
end
end DL

set_option Elab.async false
set_option linter.all false
set_option maxRecDepth 100000
set_option maxHeartbeats 4000000
namespace DL
open PySem PySem.Spec L2
open PyProof.Rows hiding St

theorem dmus_bot {X : Cx} {W : WS} {M : List Nat} {st : List Stmt} : DMus X W M st (fun _ _ _ => False) (fun _ => .bot) := ⟨⟨fun _ _ _ _ _ _ h => h.elim⟩, fun _ _ _ _ _ _ _ _ _ _ _ h => h.elim⟩
section
variable {X : Cx} {W : WS} {U : XK} {S T M : List Nat} {e a b c tg : Expr} {es tgs : List Expr} {pos p : Pos} {te ta tb : TE} {tt : TT} {t : TA} {ts ts' : TS} {st : Stmt} {rest : List Stmt}
/-- x = a new list, as a value -/
theorem dmu_setLV {i : Nat} {x : Str} {pos' : Pos} {f : DSt → Res (List PyData)} (hN : X.N.Nodup) (hi : X.N[i]? = some x) (hx : L2.Loc X.env.scope x) (he : DF X W S e te f) (hM : i ∉ M) (hs : swapsWith e (some (.Name x pos')) pos.line X.env = pure false := by rfl) (hf : X.fn x = true ∨ X.env.scope.names.lookup x = some .local := by first | exact .inl rfl | exact .inr rfl | assumption) :
    DMu X W M (.Assign [.Name x pos'] e pos) (tAsg te (gName i)) (upM (asgLV S f i)) := by
  refine ⟨ps_set hN hi hx he.pe hs hf, fun pin hMp H0 Fz0 Fz H σ δ Dn r hp h => ?_⟩
  subst hMp
  unfold SKm upM asgLV at h
  rw [wp_bind, wp_bind] at h
  refine atF he r (wp_mono h (fun ds hd q vs H1 F1 g1 np nf e z r1 => ?_) fun x hx => hx)
  have n0 : H0 q = none := none_of_same r.same np
  have hp' : Pin (σ.set i (some (.ref q))) pin := hp.set hM _
  by_cases hf : flatAll ds = true
  · rw [if_pos hf] at hd
    have r2 := (r.up g1.same).setOwn (s := .own ds) n0 (fun z => r.live q z np) ⟨vs, e, z, r1.flat hf⟩ (r.apart np) i
    obtain ⟨F2, r3⟩ := r2.frzAt [i]
    rw [freeze_at _ fun _ _ => trivial] at r3
    exact hd F2 H1 _ r3 hp'
  · rw [if_neg hf] at hd
    have r2 := (r.frz g1).setOwn (s := .own ds) n0 nf ⟨vs, e, z, r1⟩ (fun j u ej oj => r.apart np j u (freeze_own ej oj).2 oj) i
    obtain ⟨F2, r3⟩ := r2.frzAt [i]
    rw [freeze_at _ fun _ _ => trivial] at r3
    exact hd F2 H1 _ r3 hp'
/-! x in range(k) -/
def rRange1 : List V → Hp → VK → Prop := fun vs H Q => ∃ j, vs = [V.int j] ∧ ∀ p, H p = none → Q (.ref p) (upd H p (.rng 0 j))
theorem cr_range1 : CallR X (.type "range") rRange1 := by
  intro pins s σ H vs us Q I r h
  obtain ⟨j, rfl, q⟩ := h
  obtain ⟨u1, rfl, rj⟩ := vals1 r
  obtain ⟨u, rfl⟩ := rj
  refine call_range_1 ⟨.ref s.heap.objs.size, upd H s.heap.objs.size (.rng 0 j), I.laid (t' := s.toks + 1 + 1) (fun b o e => Heap.get?_push_of_some _ e) (Nat.le_refl _) ?_, rfl, q _ (I.hok.fresh (Nat.le_refl _))⟩
  exact ⟨s.toks, u, s.toks + 1, Heap.get?_push_size _ rfl⟩
def rInRg : V → V → Hp → VK → Prop := fun x y H Q => ∃ i a lo hi, x = V.int i ∧ y = V.ref a ∧ H a = some (.rng lo hi) ∧ Q (.bl (decide (lo ≤ i ∧ i < hi))) H
def tInR (fa fb : DSt → Res PyData) (δ : DSt) : Res Bool := fa δ >>= fun x => fb δ >>= fun y => match x, y with
  | .int i, .int j => .ok (decide (0 ≤ i ∧ i < j))
  | _, _ => .bot
theorem dt_inRg {fa fb : DSt → Res PyData} (hg : Gl X "range") (hm : X.mg "range" = none) (ha : DE X W S a ta fa) (hb : DE X W T b tb fb) (hin : behindInMarks .In (.Call (.Name "range" p) [b] [] pos) = false := by rfl)
    (he : starEach [b] X.env = (false, eval b X.env) :: starEach [] X.env := by rfl) (hpl : (backTo pos (starEach [] X.env)).any (·.1) = false := by rfl) {pos2 : Pos} : DT X W (S ++ T) (.Compare a [.In] [.Call (.Name "range" p) [b] [] pos] pos2) (tTest (tOp rInRg ta (tCB rRange1 (tCons tb tNil)))) (tInR fa fb) := by
  refine ⟨pt_cmpR op_in_rng ha.pe (pe_callTy cr_range1 hg hm boot_range (pa_cons hb.pe pa_nil he) (by decide) (by decide) he hpl) hin, fun Fz σ H δ Q hd hl h => ?_⟩
  unfold BOK tInR at h
  rw [wp_bind] at h
  refine ha.ok Fz σ H δ _ hd.left hl (wp_mono h (fun x hx v H1 F1 g1 r1 => ?_) fun x hx => hx)
  rw [wp_bind] at hx
  refine hb.ok F1 σ H1 δ _ (hd.right.grow g1) (g1.live hl) (wp_mono hx (fun y hy u H2 F2 g2 r2 => ?_) fun x hx c oe H2 F2 g2 q => hx c oe H2 F2 (g1.trans g2) q)
  cases x with
  | int i =>
    cases y with
    | int j =>
      cases r1
      cases r2
      refine ⟨j, rfl, fun q np => ⟨i, q, 0, j, rfl, rfl, upd_same, _, rfl, hy _ F2 ((g1.trans g2).trans (.nw np))⟩⟩
    | _ => exact hy.elim
  | _ => cases y <;> exact hy.elim
end
end DL

set_option Elab.async false
set_option linter.all false
set_option maxRecDepth 100000
set_option maxHeartbeats 4000000
namespace DL
open PySem PySem.Spec L2
open PyProof.Rows hiding St

/-! ### defs that give a new list to their caller, who may change it -/
inductive OutF where
  | nx (δ : DSt) | rv (d : PyData) | rl (xs : List PyData)
def OKf (K : PySem.W.Frag) (H0 : Hp) (Fz0 : FZ) (Dn : Ends) : OutF → Prop
  | .nx δ => ∀ Fz H σ, Rel K H0 Fz0 Fz H σ δ → Dn.nx σ H
  | .rv d => ∀ Fz H v, Grow Fz0 H0 Fz H → Rep K Fz H v d → Dn.rt v H
  | .rl xs => ∀ Fz H p us, Grow Fz0 H0 Fz H → H0 p = none → ¬ Fz p → H p = some (.lst us) → xs.length ≤ sizeLine → RepAll K Fz H us xs → Dn.rt (.ref p) H
def SKf (K : PySem.W.Frag) (mg : Str → Option Value) (W : XK) (H0 : Hp) (Fz0 : FZ) (r : Res OutF) (Dn : Ends) : Prop := r.wp (OKf K H0 Fz0 Dn) (XOK mg W H0 Fz0)
structure DFu (X : Cx) (W : WS) (st : List Stmt) (t : TS) (f : DSt → Res OutF) : Prop where
  pe : PSs X st t
  ok : ∀ H0 Fz0 Fz H σ δ Dn, Rel X.K H0 Fz0 Fz H σ δ → SKf X.K X.mg (W σ) H0 Fz0 (f δ) Dn → t Dn σ H
/-- a usual statement first -/
def seqU (f : DSt → Res Out) (g : DSt → Res OutF) (δ : DSt) : Res OutF := f δ >>= fun o => match o with | .nx δ' => g δ' | .rt d => .ok (.rv d) | _ => .bot
def clrU (vs : List Nat) (f : DSt → Res OutF) (δ : DSt) : Res OutF := f (wipeD δ vs)
def retO (i : Nat) (δ : DSt) : Res OutF := match δ[i]? with | some (some (.own xs)) => .ok (.rl xs) | _ => .bot
/-- what a def gives: a value, or a new list -/
inductive FR where
  | v (d : PyData) | l (xs : List PyData)
def FOK (K : PySem.W.Frag) (Fz : FZ) (H : Hp) (Q : VK) : FR → Prop
  | .v d => ∀ v H' Fz', Grow Fz H Fz' H' → Rep K Fz' H' v d → Q v H'
  | .l xs => ∀ p us H' Fz', Grow Fz H Fz' H' → H p = none → ¬ Fz' p → H' p = some (.lst us) → xs.length ≤ sizeLine → RepAll K Fz' H' us xs → Q (.ref p) H'
def spF (K : PySem.W.Frag) (n : Nat) (g : List PyData → Res FR) : Sp := fun vs H Q E => ∃ ds Fz, ds.length = n ∧ Live Fz H ∧ RepAll K Fz H vs ds ∧ (g ds).wp (FOK K Fz H Q) (fun _ => False)
structure FDf (P : Program) (w : World) (K : PySem.W.Frag) (mg : Str → Option Value) (base : Heap) (k n : Nat) (x : Str) (g : List PyData → Res FR) : Prop where
  ex : ∃ (f : Addr) (fd : FuncData) (ps : List Str), FnOk P w K mg base CX0 k f fd ps (spF K n g) ∧ mg x = some (.ref f) ∧ PySem.W.keepIn K (.ref f) = true ∧ Binds K fd ps []
def fnU (n : Nat) (b : DSt → Res OutF) (ds : List PyData) : Res FR := nE (b (startD n ds)) >>= fun o => match o with
  | .nx _ => .ok (.v .none)
  | .rv d => .ok (.v d)
  | .rl xs => .ok (.l xs)
def callU (S : List Nat) (f : DSt → Res (List PyData)) (g : List PyData → Res FR) (i : Nat) (δ : DSt) : Res Out := f δ >>= fun ds => nE (g ds) >>= fun r => match r with
  | .v d => .ok (.nx ((if flat d || flatAll ds then δ else freeze S 0 δ).set i (some (.val d))))
  | .l xs => .ok (.nx ((if flatAll xs || flatAll ds then δ else freeze S 0 δ).set i (some (.own xs))))
section
variable {X : Cx} {W : WS} {U : XK} {S T M : List Nat} {e a b c tg : Expr} {es tgs : List Expr} {pos p ps0 : Pos} {te ta tb : TE} {tt : TT} {t : TA} {ts ts' : TS} {st : Stmt} {rest : List Stmt}
theorem dfu_cons {f : DSt → Res Out} {g : DSt → Res OutF} (h1 : DS X (fun _ => U) st ts f) (h2 : DFu X (fun _ => U) rest ts' g) : DFu X (fun _ => U) (st :: rest) (tSeq ts ts') (seqU f g) := by
  refine ⟨pss_cons h1.pe h2.pe, fun H0 Fz0 Fz H σ δ Dn r h => ?_⟩
  unfold SKf seqU at h
  rw [wp_bind] at h
  refine h1.ok H0 Fz0 Fz H σ δ _ r (wp_mono h (fun o ho => ?_) fun x hx => hx)
  cases o with
  | nx δ' => exact fun F H' σ' r' => h2.ok H0 Fz0 F H' σ' δ' Dn r' ho
  | rt d => exact ho
  | bk δ' => exact ho.elim
  | ct δ' => exact ho.elim
theorem dfu_clr (vs : List Nat) {f : DSt → Res OutF} (h : DFu X W rest ts f) : DFu X W rest ts (clrU vs f) := ⟨h.pe, fun H0 Fz0 Fz H σ δ Dn r q => h.ok H0 Fz0 Fz H σ _ Dn (r.clr vs) q⟩
theorem dfu_retO {i : Nat} {x : Str} {pos' : Pos} (hN : X.N[i]? = some x) (hv : Vis X.env.scope x) (hd : (x == ("__debug__" : Str)) = false := by decide) (hcd : (x == ("__classdict__" : Str)) = false := by decide) : DFu X W [.Return (some (.Name x pos')) pos] (tRet (tVar i)) (retO i) := by
  refine ⟨pss_one (ps_ret (pe_var hN hv hd hcd)), fun H0 Fz0 Fz H σ δ Dn r h => ?_⟩
  unfold SKf retO at h
  split at h
  · rename_i xs e1
    obtain ⟨a, e2, h2, h3, us, h4, h5, h6⟩ := r.own i _ e1 rfl
    exact ⟨.ref a, e2, h Fz H a us ⟨r.same, r.sub0, r.new0, fun _ => r.live⟩ h2 h3 h4 h5 h6⟩
  · exact h.elim
theorem fdf_of {P : Program} {w : World} {K : PySem.W.Frag} {mg : Str → Option Value} {base : Heap} {x : Str} {st : Stmt} {f : Addr} {fd : FuncData} {N ps : List Str} {k : Nat} (F : Fun K x x st f fd) (hm : mg x = some (.ref f)) (b : Binds K fd ps []) (S : FnScope N ps (defScope st)) {g : DSt → Res OutF}
    (hbody : ∀ (cdv : Value) (A : Around) (outer : List Env) (s : Shared) (H : Hp) (E : XK), Room k (A.deeper (envOfC x (defScope st) s.heap.objs.size f cdv)) →
      ∃ t, DFu (cxOf CX0 P w K mg base N x (defScope st) f cdv A outer s H E).nox (fun _ => E0) (defBody st) t g) : FDf P w K mg base (k + 1) ps.length x (fnU N.length g) := by
  refine ⟨f, fd, ps, ?_, hm, F.kp, b⟩
  refine F.ok S (fun vs H Q E h => by
    obtain ⟨ds, Fz, h1, _, h2, _⟩ := h
    rw [h2.length, h1]) (fun cdv A outer s H vs Q E hr h => ?_)
  obtain ⟨t, ht⟩ := hbody cdv A outer s H E hr
  refine ⟨t, ht.pe, ?_⟩
  obtain ⟨ds, Fz, hl, live, ra, q⟩ := h
  have lv := ra.length
  refine ht.ok H Fz Fz H (start N vs) (startD N.length ds) _ ⟨fun _ _ e => e, fun _ h => h, fun _ h => .inl h, live, ?_, fun i d e => ?_, fun i s e ho => ?_, fun i j s u a hij e o1 _ _ _ => ?_⟩ ?_
  · unfold L2.start startD
    rw [List.length_append, List.length_append, List.length_map, List.length_map, List.length_replicate, List.length_replicate, lv]
  · obtain ⟨d', h1, h2⟩ := startD_get e
    cases h1
    obtain ⟨v, h3, h4⟩ := ra.get h2
    exact ⟨v, start_get h3 N rfl, h4⟩
  · obtain ⟨d', h1, h2⟩ := startD_get e
    cases h1
    cases ho
  · obtain ⟨d', h1, h2⟩ := startD_get e
    cases h1
    cases o1
  · unfold fnU at q
    rw [wp_bind] at q
    unfold SKf
    refine wp_mono (nE_wpA q) (fun o q => ?_) (fun _ h => h)
    cases o with
    | nx δ' => exact fun F' H' σ' r => q .non H' F' ⟨r.same, r.sub0, r.new0, fun _ => r.live⟩ .non
    | rv d => exact fun F' H' v g r => q v H' F' g r
    | rl xs => exact fun F' H' p us g n0 nf hp hz rr => q p us H' F' g n0 nf hp hz rr
/-- x = f(..), x may be changed -/
theorem ds_callU (K) (mg) {k j n i : Nat} {x y : Str} {pos' : Pos} {g : List PyData → Res FR} {f : DSt → Res (List PyData)} (hN : X.N.Nodup) (hi : X.N[i]? = some y) (hx : L2.Loc X.env.scope y) (c : FDf X.prog X.w K mg X.base k n x g) (hr : Room j X.A) (hk : k ≤ j) (hg : Gl X x) (hn : (e :: es).length = n) (ha : DA X W S (e :: es) t f) (hK : X.K = K := by rfl) (hM : X.mg = mg := by rfl)
    (hdb : (x == ("__debug__" : Str)) = false := by decide) (he : starEach (e :: es) X.env = (false, eval e X.env) :: starEach es X.env := by rfl) (hpl : (backTo pos (starEach es X.env)).any (·.1) = false := by rfl)
    (hs : swapsWith (.Call (.Name x p) (e :: es) [] pos) (some (.Name y pos')) ps0.line X.env = pure false := by rfl) (hf : X.fn y = true ∨ X.env.scope.names.lookup y = some .local := by first | exact .inl rfl | exact .inr rfl | assumption) :
    DS X W (.Assign [.Name y pos'] (.Call (.Name x p) (e :: es) [] pos) ps0) (tAsg (tCall (spF K n g) [] L2.E0 t) (gName i)) (callU S f g i) := by
  subst hK hM
  obtain ⟨fa, fd, ps, F, hm, kp, hb⟩ := c.ex
  refine ⟨ps_set hN hi hx (pe_call F (hr.mono hk) hg hm kp hb .nil pass0 ha.pe hdb he hpl) hs hf, fun H0 Fz0 Fz H σ δ Dn r h => ?_⟩
  unfold SOK callU at h
  rw [wp_bind] at h
  refine ha.ok (withOwn Fz σ δ S) σ H δ _ r.rd r.ownLive (wp_mono (wp_and_can h) (fun ds ⟨h, q⟩ vs H1 F1 g1 r1 => ?_) fun x hx c oe H1 F1 g q => hx c oe H1 F1 (r.grow0 g) q)
  · rw [wp_bind] at h
    have r2 : Rel X.K H0 Fz0 Fz H1 σ δ := r.up g1.same
    by_cases hfl : flatAll ds = true
    · refine ⟨ds, Fz, (ha.len δ ds q).trans hn, r2.live, by rw [List.append_nil]; exact r1.flat hfl, wp_mono (nE_wpA h) (fun rr h => ?_) fun _ h => h⟩
      cases rr with
      | v d =>
        have h : (Res.ok (Out.nx ((if (flat d || flatAll ds) = true then δ else freeze S 0 δ).set i (some (.val d))))).wp (OOK X.K H0 Fz0 Dn) (XOK X.mg (W σ) H0 Fz0) := h
        rw [hfl, Bool.or_true, if_pos rfl] at h
        intro v H2 F2 g2 rv
        have r4 : Rel X.K H0 Fz0 F2 H2 σ δ := by
          have := r2.frz (S := []) (withOwn_nil g2)
          rwa [freeze_nil] at this
        exact h F2 H2 _ (r4.setVal rv i)
      | l xs =>
        have h : (Res.ok (Out.nx ((if (flatAll xs || flatAll ds) = true then δ else freeze S 0 δ).set i (some (.own xs))))).wp (OOK X.K H0 Fz0 Dn) (XOK X.mg (W σ) H0 Fz0) := h
        rw [hfl, Bool.or_true, if_pos rfl] at h
        intro p us H2 F2 g2 np nf hp hz rv
        have r4 : Rel X.K H0 Fz0 F2 H2 σ δ := by
          have := r2.frz (S := []) (withOwn_nil g2)
          rwa [freeze_nil] at this
        exact h F2 H2 _ (r4.setOwn (s := .own xs) (none_of_same r2.same np) nf ⟨us, hp, hz, rv⟩ (r2.apart np) i)
    · have g3 : ∀ {H2 F2}, Grow F1 H1 F2 H2 → Grow (withOwn Fz σ δ S) H F2 H2 := fun g2 => g1.trans g2
      refine ⟨ds, F1, (ha.len δ ds q).trans hn, g1.live r.ownLive, by rw [List.append_nil]; exact r1, wp_mono (nE_wpA h) (fun rr h => ?_) fun _ h => h⟩
      have hfl : flatAll ds = false := by simpa using hfl
      cases rr with
      | v d =>
        have h : (Res.ok (Out.nx ((if (flat d || flatAll ds) = true then δ else freeze S 0 δ).set i (some (.val d))))).wp (OOK X.K H0 Fz0 Dn) (XOK X.mg (W σ) H0 Fz0) := h
        rw [hfl, Bool.or_false] at h
        intro v H2 F2 g2 rv
        by_cases hd : flat d = true
        · rw [if_pos hd] at h
          exact h Fz H2 _ ((r.up (g3 g2).same).setVal (rv.flat hd) i)
        · rw [if_neg hd] at h
          exact h F2 H2 _ ((r.frz (g3 g2)).setVal rv i)
      | l xs =>
        have h : (Res.ok (Out.nx ((if (flatAll xs || flatAll ds) = true then δ else freeze S 0 δ).set i (some (.own xs))))).wp (OOK X.K H0 Fz0 Dn) (XOK X.mg (W σ) H0 Fz0) := h
        rw [hfl, Bool.or_false] at h
        intro p us H2 F2 g2 np nf hp hz rv
        have np0 : H p = none := none_of_same g1.same np
        by_cases hd : flatAll xs = true
        · rw [if_pos hd] at h
          exact h Fz H2 _ ((r.up (g3 g2).same).setOwn (s := .own xs) (none_of_same r.same np0) (fun z => r.live p z np0) ⟨us, hp, hz, rv.flat hd⟩ (r.apart np0) i)
        · rw [if_neg hd] at h
          exact h F2 H2 _ ((r.frz (g3 g2)).setOwn (s := .own xs) (none_of_same r.same np0) nf ⟨us, hp, hz, rv⟩ (fun j u ej oj => r.apart np0 j u (freeze_own ej oj).2 oj) i)
end
end DL

set_option Elab.async false
set_option linter.all false
set_option maxRecDepth 100000
set_option maxHeartbeats 4000000
namespace DL
open PySem PySem.Spec L2
/-- try: body / except ..: .. where the body raises nothing -/
theorem ds_tryThru {X : Cx} {W : WS} {body : List Stmt} {h₀ : ExceptHandler} {hs : List ExceptHandler} {t : TS} {f : DSt → Res Out} {pos : Pos} (hb : DSs X W body t f) (hx : X.nox = X := by rfl) : DS X W (.Try body (h₀ :: hs) [] [] pos) t f :=
  ⟨ps_try_thru0 (by rw [hx]; exact hb.pe), hb.ok⟩
end DL

set_option Elab.async false
set_option linter.all false
set_option maxRecDepth 100000
set_option maxHeartbeats 4000000
namespace DL
open PySem PySem.Spec L2
open PyProof.Rows hiding St

/-! ### defs that may raise -/
structure FDX (P : Program) (w : World) (K : PySem.W.Frag) (mg : Str → Option Value) (base : Heap) (k n : Nat) (x : Str) (g : List PyData → Res PyData) : Prop where
  ex : ∃ (f : Addr) (fd : FuncData) (ps : List Str), FnOk P w K mg base (L2.CX P w) k f fd ps (spD K mg n g) ∧ mg x = some (.ref f) ∧ PySem.W.keepIn K (.ref f) = true ∧ Binds K fd ps []
theorem FDX.mono {P : Program} {w : World} {K : PySem.W.Frag} {mg : Str → Option Value} {base : Heap} {k j n : Nat} {x : Str} {g : List PyData → Res PyData} (h : FDX P w K mg base k n x g) (hk : k ≤ j) : FDX P w K mg base j n x g := by
  obtain ⟨f, fd, ps, F, h1, h2, h3⟩ := h.ex
  exact ⟨f, fd, ps, F.mono hk, h1, h2, h3⟩
/-- what is raised is taken by the wish -/
def TkW (X : Cx) (W : WS) : Prop := Takes X (fun c d σ H => W σ c d H)
def callX (g : List PyData → Res PyData) (f : DSt → Res (List PyData)) (δ : DSt) : Res PyData := f δ >>= g
section
variable {X : Cx} {W : WS} {U : XK} {S T M : List Nat} {e a b c tg : Expr} {es tgs : List Expr} {pos p p2 : Pos} {te ta tb : TE} {tt : TT} {t : TA} {ts ts' : TS} {st : Stmt} {rest : List Stmt}
theorem de_callX (K) (mg) {k j n : Nat} {x : Str} {g : List PyData → Res PyData} {f : DSt → Res (List PyData)} (tk : TkW X W) (c : FDX X.prog X.w K mg X.base k n x g) (hr : Room j X.A) (hk : k ≤ j) (hg : Gl X x) (hn : (e :: es).length = n) (ha : DA X W S (e :: es) t f) (hK : X.K = K := by rfl) (hM : X.mg = mg := by rfl)
    (hdb : (x == ("__debug__" : Str)) = false := by decide) (he : starEach (e :: es) X.env = (false, eval e X.env) :: starEach es X.env := by rfl) (hpl : (backTo pos (starEach es X.env)).any (·.1) = false := by rfl) :
    DE X W S (.Call (.Name x p) (e :: es) [] pos) (tCallS (spD K mg n g) (WE fun c d σ H => W σ c d H) t) (callX g f) := by
  subst hK hM
  obtain ⟨fa, fd, ps, F, hm, kp, hb⟩ := c.ex
  refine ⟨pe_callS F (hr.mono hk) hg hm kp hb (fun σ => passAt (W := fun c d σ H => W σ c d H) tk σ) ha.pe hdb he hpl, fun Fz σ H δ Q hd hl hq => ?_⟩
  unfold EOK callX at hq
  rw [wp_bind] at hq
  refine ha.ok Fz σ H δ _ hd hl (wp_mono (wp_and_can hq) (fun ds ⟨hq, q⟩ vs H1 F1 g1 r1 => ?_) fun x hx => hx)
  exact ⟨ds, F1, (ha.len δ ds q).trans hn, g1.live hl, r1, EOK.mono (U := W σ) (H := H) (Fz := Fz) hq g1 fun v H' F' g' q => q⟩
/-- raise C('..') -/
theorem ds_raise {C : Addr} {cn m : Str} {x : Str} {jj : Nat} (hc : X.calm = true) (tk : TkW X W) (he : PMk X e (fun _ H Q => Q (.ref C) none H)) (hm : X.mg cn = some (.ref C)) : DS X W (.Raise (some e) none pos) (fun _ σ H => W σ (.ref C) none H) (fun _ => .err ⟨cn, none⟩) :=
  ⟨ps_raise hc tk he, fun H0 Fz0 Fz H σ δ Dn r q => q (.ref C) none H Fz ⟨r.same, r.sub0, r.new0, fun _ => r.live⟩ ⟨hm, trivial⟩⟩
end
/-- a body as a function that may raise -/
def fnX (n : Nat) (g : DSt → Res Out) (ds : List PyData) : Res PyData := g (startD n ds) >>= fnK
theorem start_relX {K : PySem.W.Frag} {Fz : FZ} {H : Hp} {N : List Str} {vs : List V} {ds : List PyData} (live : Live Fz H) (ra : RepAll K Fz H vs ds) : Rel K H Fz Fz H (start N vs) (startD N.length ds) := by
  have lv := ra.length
  refine ⟨fun _ _ e => e, fun _ h => h, fun _ h => .inl h, live, ?_, fun i d e => ?_, fun i s e ho => ?_, fun i j s u a hij e o1 _ _ _ => ?_⟩
  · unfold L2.start startD
    rw [List.length_append, List.length_append, List.length_map, List.length_map, List.length_replicate, List.length_replicate, lv]
  · obtain ⟨d', h1, h2⟩ := startD_get e
    cases h1
    obtain ⟨v, h3, h4⟩ := ra.get h2
    refine ⟨v, ?_, h4⟩
    have hi : i < vs.length := (List.getElem?_eq_some_iff.mp h3).1
    unfold L2.start
    rw [List.getElem?_append_left (by rw [List.length_map]; exact hi), List.getElem?_map, h3]
    rfl
  · obtain ⟨d', h1, h2⟩ := startD_get e
    cases h1
    cases ho
  · obtain ⟨d', h1, h2⟩ := startD_get e
    cases h1
    cases o1
theorem fdx_of {P : Program} {w : World} {K : PySem.W.Frag} {mg : Str → Option Value} {base : Heap} {x : Str} {st : Stmt} {f : Addr} {fd : FuncData} {N ps : List Str} {k : Nat} (F : Fun K x x st f fd) (hm : mg x = some (.ref f)) (b : Binds K fd ps []) (S : FnScope N ps (defScope st)) {g : DSt → Res Out}
    (hbody : ∀ (cdv : Value) (A : Around) (outer : List Env) (s : Shared) (H : Hp) (E : XK), Room k (A.deeper (envOfC x (defScope st) s.heap.objs.size f cdv)) → TkW (cxOf (L2.CX P w) P w K mg base N x (defScope st) f cdv A outer s H E) (fun _ => E) → PassesOwn (model P w) (A.deeper (envOfC x (defScope st) s.heap.objs.size f cdv)) (envOfC x (defScope st) s.heap.objs.size f cdv) (cxOf (L2.CX P w) P w K mg base N x (defScope st) f cdv A outer s H E).xe →
      ∃ t, DSs (cxOf (L2.CX P w) P w K mg base N x (defScope st) f cdv A outer s H E) (fun _ => E) (defBody st) t g) : FDX P w K mg base (k + 1) ps.length x (fnX N.length g) := by
  refine ⟨f, fd, ps, ?_, hm, F.kp, b⟩
  refine F.okX S (fun vs H Q E h => spD_len h) (fun cdv A outer s H vs Q E hr h => ?_)
  obtain ⟨t, ht⟩ := hbody cdv A outer s H E hr (takes_of rfl rfl rfl rfl) (passes_of rfl)
  refine ⟨t, ht.pe, ?_⟩
  obtain ⟨ds, Fz, hl, live, ra, q⟩ := h
  refine ht.ok H Fz Fz H (start N vs) (startD N.length ds) _ (start_relX live ra) ?_
  unfold fnX EOK at q
  rw [wp_bind] at q
  unfold SOK
  refine wp_mono q (fun o q => ?_) (fun _ h => h)
  cases o with
  | nx δ' => exact fun F' H' σ' r => q .non H' F' ⟨r.same, r.sub0, r.new0, fun _ => r.live⟩ .non
  | rt d => exact fun F' H' v g r => q v H' F' g r
  | bk δ' => exact q.elim
  | ct δ' => exact q.elim
/-! ### try .. except C: -/
/-- all one's own things become values -/
def frzAll (δ : DSt) : DSt := freeze (List.range δ.length) 0 δ
def Res.tryc {α : Type} (r : Res α) (k : Exn → Res α) : Res α := match r with
  | .ok a => .ok a
  | .bot => .bot
  | .err x => k x
  | .pick m f => .pick m fun i => (f i).tryc k
theorem tryc_wp {α : Type} {r : Res α} {k : Exn → Res α} {Q : α → Prop} {E : Exn → Prop} (h : (r.tryc k).wp Q E) : r.wp Q fun x => (k x).wp Q E := by
  induction r with
  | ok a => exact h
  | bot => exact h
  | err x => exact h
  | pick m f ih => exact ⟨h.1, fun i h0 h1 => ih i (h.2 i h0 h1)⟩
def tryF (sub : Str → Option Bool) (f h : DSt → Res Out) (δ : DSt) : Res Out := (f (frzAll δ)).tryc fun x => match sub x.cls with
    | some true => h (frzAll δ)
    | some false => .err x
    | none => .bot
theorem Rel.under {K : PySem.W.Frag} {H0 H H' : Hp} {Fz0 Fz F' : FZ} {σ σ' : L2.St} {δ δ' : DSt} (r : Rel K H0 Fz0 Fz H σ δ) (q : Rel K H Fz F' H' σ' δ') : Rel K H0 Fz0 F' H' σ' δ' :=
  ⟨fun a o e => q.same a o (r.same a o e), fun a h => q.sub0 a (r.sub0 a h), fun a h => (q.new0 a h).elim (r.new0 a) fun z => .inr (none_of_same r.same z), q.live, q.len, q.val, fun i s e ho => by
    obtain ⟨a, h1, h2, h3⟩ := q.own i s e ho
    exact ⟨a, h1, none_of_same r.same h2, h3⟩, q.sep⟩
theorem frzAll_val {δ : DSt} {i : Nat} {s : SV} (h : (frzAll δ)[i]? = some (some s)) : s.isOwn = false := by
  unfold frzAll at h
  cases ho : s.isOwn with
  | false => rfl
  | true =>
    obtain ⟨h1, h2⟩ := freeze_own h ho
    have := (List.getElem?_eq_some_iff.mp h2).1
    exact absurd (List.mem_range.mpr this) h1
theorem Rel.still {K : PySem.W.Frag} {H0 H H' : Hp} {Fz0 Fz F' : FZ} {σ : L2.St} {δ : DSt} (r : Rel K H0 Fz0 Fz H σ δ) (hv : ∀ (i : Nat) s, δ[i]? = some (some s) → s.isOwn = false) (g : Grow Fz H F' H') : Rel K H Fz F' H' σ δ :=
  ⟨g.same, g.sub, g.new, g.live r.live, r.len, fun i d e => by
    obtain ⟨v, h1, h2⟩ := r.val i d e
    exact ⟨v, h1, h2.grow g⟩, (fun i s e ho => by rw [hv i s e] at ho; cases ho), fun i j s u a _ e o1 _ _ _ => by rw [hv i s e] at o1; cases o1⟩
section
variable {X : Cx} {W : WS} {Wx : WX} {U : XK} {pos pos' np : Pos} {x : Str} {c : Value} {body suite : List Stmt} {b₀ : Stmt} {tb : WX → TS} {ts : TS} {f h : DSt → Res Out} {sub : Str → Option Bool}
theorem ds_try (hs : X.stack = X.env :: X.outer) (hf : X.env.frame = some X.env.locals) (hc : Names X x c) (tk : Takes X Wx) (hsub : ∀ n b, sub n = some b → ∀ v, X.mg n = some v → PySem.W.exmOne X.K v c = some b)
    (hb : ∀ (W : WX) (pn : List (Addr × Obj)) (xe : Value → Shared → Prop), Takes (X.tr pn xe) W → PassesOwn (model X.prog X.w) X.A X.env xe → DSs (X.tr pn xe) (WE W) body (tb W) f)
    (hsu : ∀ (a : Addr) (oe : Obj) (cls : Value) (d : Option Addr) (pn : List (Addr × Obj)), Zc cls d oe → (∃ vs, oe.data = .fields vs) → DSs (X.suite a ((a, oe) :: pn)) (fun _ => E0) (b₀ :: suite) ts h) (hh : ∀ δ, Exn → (h δ).quiet) :
    DS X (WE Wx) (.Try body [.ExceptHandler (some (.Name x np)) none (b₀ :: suite) pos'] [] [] pos) (fun D σ H => tb (wOnly X.K c (fun _ _ _ => ts) Wx D) D σ H) (tryF sub f h) := by
  refine ⟨ps_try_only hs hf hc tk (fun W pn xe t1 t2 => (hb W pn xe t1 t2).pe) (fun a oe cls d pn z1 z2 => (hsu a oe cls d pn z1 z2).pe), fun H0 Fz0 Fz H σ δ Dn r q => ?_⟩
  have hbd : ∀ (W : WX), ∃ xe, DSs (X.tr [] xe) (WE W) body (tb W) f := fun W => by
    refine ⟨fun e s₁ => wpAny (model X.prog X.w) X.A (noteFrame e X.env) (fun _ s₂ => wpAny (model X.prog X.w) X.A (setFlight e none) (fun _ _ => True) (fun _ _ => True) s₂) (fun _ _ => True) s₁, hb W [] _ (fun u s' xx => ?_) PassesOwn.looking⟩
    obtain ⟨a, B, sI, pins', σ', H', cls, d, rfl, J', nb, up, sky, na, os, ag, w⟩ := xx
    have ok : X.Ok := J'.ok.ofTry
    have hfr : X.A.frames = some (X.env :: X.outer) := by rw [ok.frames, hs]
    have sky' : Sky B (X.env :: X.outer) a (Zc cls d) X.env.locals s'.heap := by rw [← hs]; exact sky
    show wpAny (model X.prog X.w) X.A (noteFrame (.ref a) X.env) _ _ _
    exact Sky.land (Q := fun _ _ => True) Zc.steady hfr hf sky' fun _ _ _ => True.intro
  obtain ⟨xe, hB⟩ := hbd (wOnly X.K c (fun _ _ _ => ts) Wx Dn)
  have r1 : Rel X.K H0 Fz0 (withOwn Fz σ δ (List.range δ.length)) H σ (frzAll δ) := r.frz ⟨fun _ _ e => e, fun _ h => h, fun _ h => .inl h, fun l => l⟩
  have r2 := r1.still (fun i s e => frzAll_val e) (Grow.refl (H := H))
  unfold tryF at q
  refine hB.ok _ _ _ H σ _ Dn r2 ?_
  unfold SOK at q ⊢
  refine wp_mono (tryc_wp q) (fun o q => ?_) (fun y q => ?_)
  · cases o with
    | nx δ' => exact fun F' H' σ' r' => q F' H' σ' (r1.under r')
    | rt d => exact fun F' H' v g rv => q F' H' v ⟨fun a o e => g.same a o (r1.same a o e), fun a h => g.sub a (r1.sub0 a h), fun a h => (g.new a h).elim (r1.new0 a) fun z => .inr (none_of_same r1.same z), fun _ => g.live r1.live⟩ rv
    | bk δ' => exact fun F' H' σ' r' => q F' H' σ' (r1.under r')
    | ct δ' => exact fun F' H' σ' r' => q F' H' σ' (r1.under r')
  · intro cls oe H' F' g ex
    have hm : X.mg y.cls = some cls := ex.1
    cases hb' : sub y.cls with
    | none => rw [hb'] at q; exact q.elim
    | some b =>
      rw [hb'] at q
      have he := hsub y.cls b hb' cls hm
      have r3 : Rel X.K H0 Fz0 F' H' σ (frzAll δ) := r1.under (r1.still (fun i s e => frzAll_val e) g)
      refine ⟨b, he, fun hbt a ha => ?_, fun hbf => ?_⟩
      · subst hbt
        have hS := hsu a { cls := cls, dict := oe, data := .fields #[] } cls oe [] ⟨rfl, rfl⟩ ⟨_, rfl⟩
        refine hS.ok H0 Fz0 F' H' σ _ Dn r3 ?_
        unfold SOK
        exact wp_quiet (hh _ ⟨"", none⟩) q
      · subst hbf
        exact q cls oe H' F' ⟨r3.same, r3.sub0, r3.new0, fun _ => r3.live⟩ ex
end
end DL

set_option Elab.async false
set_option linter.all false
set_option maxRecDepth 100000
set_option maxHeartbeats 4000000
namespace DL
open PySem PySem.Spec L2 PySem.W PySem.Calls
open PyProof.Rows hiding St

/-! ### an exception's __init__ that says super().__init__(text) and keeps one whole number -/
section
variable {prog : Program} {w : World} {A : Around} {E : Value → Shared → Prop} {h : Heap} {g : Array GenState} {d : Drawn} {t : Nat} {os : OsState}
variable {nm q : Str} {C N : Addr} {bs bm bmB : List Value} {hdct : Bool} {sn : List Str} {sub : List Value} {ab : Bool} {col : Option Bool} {dd : Option Addr} {k0 k1 k2 k3 k5 : Option Value} {B newId initId : String}
theorem check_bw (F : ExcBaseFacts B newId initId bmB) {e : Addr} {oe : Obj} {rest : List Value} {Q : Unit → Shared → Prop}
    (hC : h.get? C = some (excClassObj nm q C N bs bm hdct sn sub ab col dd k0 k1 k2 k3 k5 newId)) (he : h.get? e = some oe) (hcls : oe.cls = .ref C) (hq : Q () ⟨h, g, d, t, os⟩) :
    wpAny (model prog w) A (checkBoundCall initId ⟨.ref e :: rest, []⟩) Q E ⟨h, g, d, t, os⟩ := by
  have hshort := F.noStar
  simp only [checkBoundCall, F.initKind, F.initRow]
  repeat (first | (with_reducible refine wpAny_loadPart_at he ?_; rw [hcls]) | with_reducible refine wpAny_loadPart_at hC ?_ | wp_step)
  refine wpAny_onRaise ?_
  rw [show ∀ (a b : String) (n : Nat), Bind.check ⟨.positional, "*", B, .self, [⟨"args", .varPos, false⟩]⟩ a b n (List.map (fun x => x.fst) ({ pos := Value.ref e :: rest } : Args).kw) = pure () from
    fun a b n => check_star_args _ _ _ _ _ _]
  exact wpAny_pure hq
theorem call_mw {u e t0 : Addr} {rest : List Value} {Q : Value → Shared → Prop}
    (hC : h.get? C = some (excClassObj nm q C N bs bm hdct sn sub ab col dd k0 k1 k2 k3 k5 "ValueError.__new__")) (he : h.get? e = some (HandSPX.excO C t0)) (hu : h.get? u = some (kxs_mw "ValueError.__init__" e)) (hrest : rest.length ≤ sizeLine)
    (hq : ∀ h' t1, (∀ b o, b ≠ e → h.get? b = some o → h'.get? b = some o) → h'.get? e = some (HandSPX.excO C t1) → Q .none ⟨h', g, d, t, os⟩) :
    wpAny (model prog w) A (call (.ref u) rest) Q E ⟨h, g, d, t, os⟩ := by
  refine wpAny_call (codeAny_of_tree ?_)
  show wpAny _ A.in1 (callAny (.ref u) ⟨rest, []⟩) _ _ _
  simp only [callAny]
  refine wpAny_bind (wpAny_load hu ?_)
  simp only [kxs_mw, show (Value.type "method-wrapper" == Value.type "method" || Value.type "method-wrapper" == Value.type "builtin_function_or_method" || Value.type "method-wrapper" == Value.type "method-wrapper") = true by decide, if_true]
  refine W.KFB.if_so (by decide) ?_
  refine wpAny_bind (check_bw F.excBase_ValueError hC he rfl ?_)
  refine wpAny_bind (wpAny_pure (wpAny_pure ?_))
  refine ⟨Code.quiet_builtin _ (by decide +kernel), codeAny_builtin F.excBase_ValueError.initEntry ?_⟩
  rw [Around.under_plainId F.excBase_ValueError.init.plain _]
  wp_walk
  refine hq _ h.objs.size (fun b o hb ho => ?_) ?_
  · rw [Heap.get?_update_other _ _ (Ne.symm hb)]
    exact Heap.get?_push_of_some _ ho
  · rw [Heap.get?_update_self _ (Heap.get?_push_of_some _ he) rfl]
    rfl
end
/-- the context of such a body -/
def cxS (P : Program) (w : World) (K : PySem.W.Frag) (mg : Str → Option Value) (base : Heap) (N : List Str) (qual : Str) (scope : Scope) (f cc : Addr) (cd : Value) (A : Around) (outer : List Env) (s : Shared) (H : Hp) : Cx where
  prog := P
  w := w
  K := K
  mg := mg
  base := base
  A := A.deeper (ksEnv qual scope s.heap.objs.size f cd cc)
  N := N
  s_0 := s
  H_0 := H
  env := ksEnv qual scope s.heap.objs.size f cd cc
  outer := outer
  stack := ksEnv qual scope s.heap.objs.size f cd cc :: outer
  ex := []
  calm := true
  fn := fun _ => false
  pn := []
  xe := fun _ _ => False
/-- what such an __init__ does -/
def spInit (C : Addr) (fld : Str) : Sp := fun vs H Q _ => ∃ a i, vs = [V.ref a, V.int i] ∧ i.natAbs.log2 < 1920 ∧ H a = some (exo a C none) ∧ ∀ dx, H dx = none → dx ≠ a → Q .non (upd (upd H dx (exd dx [(fld, .int i)])) a (exo a C (some dx)))

abbrev initB (fld s1 s2 : Str) (p0 p1 p2 p3 p4 p5 p6 p7 p8 p9 p10 p11 p12 p13 : Pos) (j1 j2 : Nat) : List Stmt :=
  [.Expr (.Call (.Attribute (.Call (.Name "super" p0) [] [] p1) "__init__" p2) [.JoinedStr [.Constant (.str s1) j1 p9, .FormattedValue (.Name fld p10) (-1) none p11, .Constant (.str s2) j2 p12] p3] [] p4) p5,
   .Assign [.Attribute (.Name "self" p6) fld p7] (.Name fld p8) p13]
theorem init_ok {P : Program} {w : World} {K : Frag} {mg : Str → Option Value} {base : Heap} {CX : CXT} {k : Nat} {f cc cda C : Addr} {qual fld s1 s2 : Str} {params : Arguments} {scope : Scope} {kV doc pm ct oc ccl cl : Value} {an od cdd cld : Option Addr} {osl ccs csl : Array (Option Value)} {vs : Array Value} {file : Str} {tf : Tok} {ar : Arg}
    {p0 p1 p2 p3 p4 p5 p6 p7 p8 p9 p10 p11 p12 p13 : Pos} {j1 j2 : Nat}
    (T : OexC K C)
    (lk : K.lookup f = some ⟨oc, od, .func (ksFn "__init__" qual params (initB fld s1 s2 p0 p1 p2 p3 p4 p5 p6 p7 p8 p9 p10 p11 p12 p13 j1 j2) scope .none kV doc pm an (.ref cda) ct cc), osl⟩) (hcd : codeIn K (.ref cda) qual = true)
    (hcode : K.lookup cda = some ⟨ccl, cdd, .fields vs, ccs⟩) (hvs : vs[2]? = some (.str file tf)) (hfile : ((P.main.file : Str) == file) = true)
    (hcell : K.lookup cc = some ⟨cl, cld, .cell (some (.ref C)), csl⟩) (hsm : mg "super" = none) (htop : (P.main.scope.names.lookup ("super" : Str)).isSome = false)
    (hsup : ks_superIn K C C "__init__" = some (some (.builtin "ValueError.__init__"))) (hsubV : subIn K (.ref C) (.type "ValueError") = some true) (hsubC : mroIn K C (.ref C) = some true) (hopq : nsIn K cStatics "thirdparty.any" = some none) (hno : findIn K (.ref C) fld = some none)
    (hpar : (params.posonlyargs ++ params.args).head? = some ar) (har : ar.arg = "self") (hne : fld ≠ "self")
    (hk : scope.kind = .function) (hco : scope.isCoroutine = false) (hgen : scope.isGenerator = false) (hcel : ∀ x ∈ scope.names, x.2 ≠ .cell) (hks : scope.names.lookup ("super" : Str) = some .globalImplicit) (hkc : scope.names.lookup ("__class__" : Str) = some .free) (hself : scope.names.lookup ("self" : Str) = some .local) (hfld : scope.names.lookup fld = some .local)
    (hfree : ∀ x, scope.names.lookup x = some .free → x = "__class__") (hs1 : s1.length ≤ 1000) (hs2 : s2.length ≤ 1000) (hd1 : (fld == ("__debug__" : Str)) = false) (hd2 : (fld == ("__classdict__" : Str)) = false) {pl : Sem Bool}
    (hev : ∀ L : Addr, eval (.Call (.Attribute (.Call (.Name "super" p0) [] [] p1) "__init__" p2) [.JoinedStr [.Constant (.str s1) j1 p9, .FormattedValue (.Name fld p10) (-1) none p11, .Constant (.str s2) j2 p12] p3] [] p4) (ksEnv qual scope L f (.ref cda) cc) = (do
      let ov ← attributeBase (.Call (.Name "super" p0) [] [] p1) "__init__" (ksEnv qual scope L f (.ref cda) cc) (eval (.Call (.Name "super" p0) [] [] p1) (ksEnv qual scope L f (.ref cda) cc))
      standAt p2.atName
      let (f', first) ← holding [ov] (getMethod ov "__init__" pl)
      callWith p4 f' first (backTo p4 (starEach [.JoinedStr [.Constant (.str s1) j1 p9, .FormattedValue (.Name fld p10) (-1) none p11, .Constant (.str s2) j2 p12] p3] (ksEnv qual scope L f (.ref cda) cc))) []))
    (hsw : ∀ L : Addr, swapsWith (.Call (.Attribute (.Call (.Name "super" p0) [] [] p1) "__init__" p2) [.JoinedStr [.Constant (.str s1) j1 p9, .FormattedValue (.Name fld p10) (-1) none p11, .Constant (.str s2) j2 p12] p3] [] p4) none p5.line (ksEnv qual scope L f (.ref cda) cc) = pure false)
    (hsw2 : ∀ L : Addr, swapsWith (.Name fld p8) (some (.Attribute (.Name "self" p6) fld p7)) p13.line (ksEnv qual scope L f (.ref cda) cc) = pure false) :
    FnOk P w K mg base CX (k + 1) f (ksFn "__init__" qual params (initB fld s1 s2 p0 p1 p2 p3 p4 p5 p6 p7 p8 p9 p10 p11 p12 p13 j1 j2) scope .none kV doc pm an (.ref cda) ct cc) ["self", fld] (spInit C fld) := by
  refine ⟨fun vs H Q E h => by obtain ⟨a, i, rfl, _⟩ := h; rfl, fun A outer s H args us vs' Q E hr e0 hb r hsp => ?_⟩
  obtain ⟨a, i, rfl, hi, ea, hq⟩ := hsp
  have KX : K.In s.heap := e0.mod.kin.keeps fun b o e => (e0.bs b o e).1
  have lim : s.heap.NoLimit := e0.mod.nolimit.keeps fun b o e => (e0.bs b o e).1
  obtain ⟨u0, u1, rfl, r0, r1⟩ : ∃ u0 u1, us = [u0, u1] ∧ RelV (.ref a) u0 ∧ RelV (.int i) u1 := by
    cases r with
    | cons h1 r => cases r with
      | cons h2 r => cases r; exact ⟨_, _, rfl, h1, h2⟩
  refine ks_codeAny_call_defAt hr.depth (KX _ _ lk) rfl lim (codeRec_of KX hcd) rfl hb hcel (fun x hx => ?_) (fun h₀ hns hkept => ?_) hco hgen hk
  · have hx : x ∈ [(("self" : Str), u0), (fld, u1)] := hx
    rcases List.mem_cons.mp hx with rfl | hx
    · exact hself
    · rw [List.mem_singleton] at hx
      subst hx
      exact hfld
  have ccb : base.get? cc = some ⟨cl, cld, .cell (some (.ref C)), csl⟩ := e0.mod.kin _ _ hcell
  have I : Inv (cxS P w K mg base ["self", fld] qual scope f cc (.ref cda) A outer s H) [] [some (.ref a), some (.int i)] H { s with heap := h₀, toks := s.toks + ((["self", fld] : List Str).zip [u0, u1]).length } := by
    have noA : ∀ b : Addr, b ∉ ([] : List Addr) := fun b z => by cases z
    have cel1 : ∀ x c, ([((("__class__" : Str)), cc)] : List (Str × Addr)).lookup x = some c → x = "__class__" ∧ c = cc := fun x c h => by
      have hm := PySem.mem_of_lookup h
      rw [List.mem_singleton] at hm
      exact ⟨congrArg Prod.fst hm, congrArg Prod.snd hm⟩
    refine ⟨⟨e0.mod, hk, rfl, rfl, Nat.le_refl _, fun x y c h1 h2 => (cel1 x c h1).1.trans (cel1 y c h2).1.symm, fun x hx => ?_, (fun x c h => nomatch h), fun _ => hr.hd, Around.frames_deeper e0.frames, .inr ⟨rfl, rfl⟩, fun b z => absurd z (noA b), e0.bs, e0.bsz, fun b _ _ => noA b, fun b z => absurd z (noA b), e0.funs, e0.frf⟩,
      rfl, e0.bare, Un.kept hkept, ⟨_, hns, fun j x v h1 h2 h3 => ?_⟩, fun x c h => ?_, e0.hok.fresh (Nat.le_refl _), fun x c h => ?_, fun p hp => absurd (show p ∈ ([] : List (Addr × Obj)) from hp) (by simp), e0.hok.kept hkept, rfl⟩
    · have hx : scope.names.lookup x = some .cell ∨ scope.names.lookup x = some .free := hx
      rcases hx with hx | hx
      · exact absurd rfl (hcel _ (PySem.mem_of_lookup hx))
      · rw [hfree x hx]
        exact ⟨cc, rfl⟩
    · match j, h1, h2 with
      | 0, h1, h2 =>
        have e1 : x = "self" := (Option.some.inj h1).symm
        have e2 : v = .ref a := (Option.some.inj (Option.some.inj h2)).symm
        subst e1 e2
        refine ⟨u0, r0, .inl ⟨hself, ?_⟩⟩
        show ([(fld, u1), (("self" : Str), u0)] : List (Str × Value)).lookup ("self" : Str) = some u0
        rw [List.lookup_cons, show (("self" : Str) == fld) = false from by simpa using fun z => hne z.symm]
        rfl
      | 1, h1, h2 =>
        have e1 : x = fld := (Option.some.inj h1).symm
        have e2 : v = .int i := (Option.some.inj (Option.some.inj h2)).symm
        subst e1 e2
        refine ⟨u1, r1, .inl ⟨hfld, ?_⟩⟩
        show ([(x, u1), (("self" : Str), u0)] : List (Str × Value)).lookup x = some u1
        rw [List.lookup_cons, show (x == x) = true from by simp]
      | j + 2, h1, h2 => exact absurd h1 (by simp [cxS])
    · obtain ⟨_, rfl⟩ := cel1 x c h
      exact ⟨some (.ref C), _, hkept _ _ (e0.bs _ _ ccb).1, rfl⟩
    · obtain ⟨_, rfl⟩ := cel1 x c h
      exact (e0.bs _ _ ccb).2
  obtain ⟨nmC, qC, NC, bsC, bmC, snC, subC, abC, colC, ddC, k0, k1, k2, k3, k5, hCK, hbm⟩ := T.cls
  have hcl : clsIn K C = some { name := nmC, bases := bsC, mro := .ref C :: bmC, ns := NC, qualname := qC, hasDict := true, slotNames := snC, subclasses := subC, abstract := abC, collection := colC, hasDel := false } := by unfold clsIn; rw [hCK] <;> rfl
  obtain rfl : u0 = .ref a := r0
  show _root_.PySem.wpAt (model P w) (A.deeper (ksEnv qual scope s.heap.objs.size f (.ref cda) cc)) (.func (initB fld s1 s2 p0 p1 p2 p3 p4 p5 p6 p7 p8 p9 p10 p11 p12 p13 j1 j2) (ksEnv qual scope s.heap.objs.size f (.ref cda) cc)) (execs (initB fld s1 s2 p0 p1 p2 p3 p4 p5 p6 p7 p8 p9 p10 p11 p12 p13 j1 j2) (ksEnv qual scope s.heap.objs.size f (.ref cda) cc)) _ _ _
  refine ks_wpAt_execs_cons (ks_wpAt_Expr_any (ks_wpAt_MethodCall (pl := pl) ?_ (hev _)) (hs := hsw _) (hi := ?_))
  rotate_left
  · show (scope.kind == .module && _) = false
    rw [hk]; rfl
  have KX1 : K.In h₀ := I.kIn
  obtain ⟨t1, ho⟩ := exo_at I.hok ea
  have ho : h₀.get? a = _ := ho
  obtain ⟨mb, hb1, hb2⟩ := e0.mod.blt
  have bk : ∀ b o, base.get? b = some o → h₀.get? b = some o := I.bk
  refine ks_wpAt_super_base hks hkc (by decide) rfl (KX1 _ _ lk) rfl hpar rfl (KX1 _ _ hcode) rfl hvs hfile htop ?_
  refine ks_loadName_global hk hks (loadGlobal_builtin (env := ksEnv qual scope s.heap.objs.size f (.ref cda) cc) (e0.mod.glob.keeps bk) hsm (hb1.keeps bk) ((hb2 "super" (by decide)).trans (by first | boot_by_name | rfl | kernel_rfl)) ⟨rfl, ?_⟩)
  refine wpAny_loadName_free hk hkc rfl ⟨_, KX1 _ _ hcell, rfl⟩ ?_
  rw [har]
  refine wpAny_loadName_local hk hself hns (v := .ref a) ?_ ?_
  · show ([(fld, u1), (("self" : Str), Value.ref a)] : List (Str × Value)).lookup ("self" : Str) = some (.ref a)
    rw [List.lookup_cons, show (("self" : Str) == fld) = false from by simpa using fun z => hne z.symm]
    rfl
  refine ks_wpAny_isType_cls (KX1 _ _ hCK) rfl ⟨rfl, ?_⟩
  refine ks_wpAny_call_super (KX1 _ _ hCK) rfl ho rfl (fun c e => nomatch e) (looks_mroIn KX1 hsubC) (fun h1 e1 k1 => ?_)
  have I1 : Inv (cxS P w K mg base ["self", fld] qual scope f cc (.ref cda) A outer s H) [] [some (.ref a), some (.int i)] H ⟨h1, s.gens, s.drawn, s.toks + ((["self", fld] : List Str).zip [Value.ref a, u1]).length, s.os⟩ := I.kept k1
  have KX2 : K.In h1 := I1.kIn
  have ho1 := k1 _ _ ho
  have hxC : a ≠ C := fun z => by
    rw [z, KX1 _ _ hCK] at ho
    have := Option.some.inj ho
    cases this
  have hIA : InstAt h1 a { cls := .ref C, dict := none, data := .fields #[.ref t1, .none, .none, .none, .bool false, .none] } C none := ⟨ho1, rfl, rfl, trivial⟩
  have hsup' : alongIn K "__init__" (((.ref C :: bmC).dropWhile (· != .ref C)).drop 1) = some (some (.builtin "ValueError.__init__")) := by
    unfold ks_superIn at hsup
    rw [hcl] at hsup
    exact hsup
  refine kxs_getMethod (C := C) (D := C) (x := a) kxs_ValueError e1 (looks_opaque KX2 hopq) (l₀ := .ref C :: bmC) (fun A Q E s k q => wpAny_bind ((looks_clsIn KX2 hcl) A _ E s k (wpAny_pure q))) rfl KX2 hsup' (hIA.type.andThen (looks_subIn KX2 hsubV)) hxC (by decide) ?_
  have I2 : Inv (cxS P w K mg base ["self", fld] qual scope f cc (.ref cda) A outer s H) [] [some (.ref a), some (.int i)] H ⟨h1.push (kxs_mw "ValueError.__init__" a), s.gens, s.drawn, s.toks + ((["self", fld] : List Str).zip [Value.ref a, u1]).length + 1, s.os⟩ := I1.kept fun b o e => Heap.get?_push_of_some _ e
  have hu2 : (h1.push (kxs_mw "ValueError.__init__" a)).get? h1.objs.size = some (kxs_mw "ValueError.__init__" a) := Heap.get?_push_size _ rfl
  have I3 : Inv (cxS P w K mg base ["self", fld] qual scope f cc (.ref cda) A outer s H) [(h1.objs.size, kxs_mw "ValueError.__init__" a)] [some (.ref a), some (.int i)] H ⟨h1.push (kxs_mw "ValueError.__init__" a), s.gens, s.drawn, s.toks + ((["self", fld] : List Str).zip [Value.ref a, u1]).length + 1, s.os⟩ := by
    refine ⟨I2.ok, I2.os, I2.bare, I2.base, I2.loc, I2.cell, I2.free, I2.freeC, fun p hp => ?_, I2.hok, I2.len⟩
    have hp : p ∈ [(h1.objs.size, kxs_mw "ValueError.__init__" a)] := hp
    rw [List.mem_singleton] at hp
    subst hp
    exact ⟨hu2, I1.hok.fresh (Nat.le_refl _), fun z => absurd I1.lt (by rw [← z]; exact Nat.lt_irrefl _), I1.nofs (Nat.le_refl _), fun v z => nomatch z⟩
  have hev1 : Vis (cxS P w K mg base ["self", fld] qual scope f cc (.ref cda) A outer s H).env.scope fld := .inl hfld
  have pv1 : PE (cxS P w K mg base ["self", fld] qual scope f cc (.ref cda) A outer s H) (.Name fld p10) (tVar 1) := pe_var (i := 1) rfl hev1 hd1 hd2
  have pj := pe_joined (pos := p3) (PJ.cons (pe_str (X := cxS P w K mg base ["self", fld] qual scope f cc (.ref cda) A outer s H) (x := s1) (j := j1) (pos := p9)) (PJ.cons (pe_fmt (pos := p11) pv1) (PJ.cons (pe_str (x := s2) (j := j2) (pos := p12)) PJ.nil)))
  have pa := pa_cons pj pa_nil rfl
  have hsz := sizeLine_eq
  have hlen : ∀ (acc : Str) (n : Nat), acc.length ≤ n → n ≤ 10000 → acc.length ≤ sizeLine := fun acc n h1 h2 => by rw [hsz]; omega
  have hti : (toString i : Str).length ≤ 1921 := int_text_len_1921 hi
  refine kxs_callWith (i := "ValueError.__init__") (x := a) rfl ?_
  refine evalArgs_plain ?_
  refine wpAny_mono (pa.run p4 _ _ _ H (fun vs H' => (∃ y : Str, vs = [V.str y]) ∧ H' = H) I3 ?_) (fun us s3 h3 => ?_) fun _ _ z => z.elim
  · refine ⟨s1, rfl, ?_, .int i, rfl, .inr ⟨i, rfl, hi, toString i, rfl, ?_, s2, rfl, ?_, ⟨_, rfl⟩, rfl⟩⟩
    · refine hlen _ 1000 ?_ (by decide)
      rw [Str.length_append]
      show 0 + _ ≤ _
      omega
    · refine hlen _ 3000 ?_ (by decide)
      rw [Str.length_append, Str.length_append]
      show 0 + _ + _ ≤ _
      omega
    · refine hlen _ 5000 ?_ (by decide)
      rw [Str.length_append, Str.length_append, Str.length_append]
      show 0 + _ + _ + _ ≤ _
      omega
  obtain ⟨vs3, H3, I4, rv, ⟨y, rfl⟩, rfl⟩ := h3
  obtain ⟨hu4, _⟩ := I4.pin (h1.objs.size, kxs_mw "ValueError.__init__" a) (List.mem_append_right _ List.mem_cons_self)
  obtain ⟨us0, rfl⟩ : ∃ u, us = [u] := by
    cases rv with
    | cons _ r => cases r; exact ⟨_, rfl⟩
  refine ⟨hu4, ?_⟩
  obtain ⟨t4, ho4⟩ := exo_at I4.hok ea
  obtain ⟨hp4, g4, d4, tk4, os4⟩ := s3
  refine call_mw (C := C) (e := a) (t0 := t4) (I4.kIn _ _ hCK) ho4 hu4 (by rw [hsz]; show 1 ≤ _; decide) (fun h5 t5 k5 e5 => ?_)
  have J := I4.write (t' := tk4) (x := a) (e := a) (o := exo a C none) (by rw [ea]; exact True.intro) (.inl rfl) k5 ⟨_, e5⟩ (exo_ok e5)
  have eu : upd H3 a (exo a C none) = H3 := by
    funext b
    by_cases hb : b = a
    · rw [hb, upd_same, ea]
    · rw [upd_ne hb]
  rw [eu] at J
  have J1 : Inv (cxS P w K mg base ["self", fld] qual scope f cc (.ref cda) A outer s H3) [] [some (.ref a), some (.int i)] H3 ⟨h5, g4, d4, tk4, os4⟩ := ⟨J.ok, J.os, J.bare, J.base, J.loc, J.cell, J.free, J.freeC, fun p hp => absurd (show p ∈ ([] : List (Addr × Obj)) from hp) (by simp), J.hok, J.len⟩
  have pself : PE (cxS P w K mg base ["self", fld] qual scope f cc (.ref cda) A outer s H3) (.Name "self" p6) (tVar 0) := pe_var (i := 0) rfl (.inl hself)
  have pv2 : PE (cxS P w K mg base ["self", fld] qual scope f cc (.ref cda) A outer s H3) (.Name fld p8) (tVar 1) := pe_var (i := 1) rfl hev1 hd1 hd2
  have ps := pss_one (ps_ost (p' := p7) (f := fld) pself pv2 (hsw2 _))
  refine wpAt_of_wpAny (wpAny_mono (ps.run [] _ _ H3 { nx := fun _ H' => Q .non H', rt := Q } J1 ?_) (fun fl s' hs => ?_) fun _ _ z => z.elim)
  · exact ⟨.int i, rfl, .ref a, rfl, a, C, rfl, T, hno, .inl ⟨ea, fun dx n ne => hq dx n ne⟩⟩
  · have fin : ∀ {σ' : L2.St} {H' : Hp} {v : V} {u : Value}, Inv (cxS P w K mg base ["self", fld] qual scope f cc (.ref cda) A outer s H3) [] σ' H' s' → RelV v u → Q v H' → CE outer P w H3 s Q u s' :=
      fun {σ' H' v u} J rv q => ⟨v, H', J.os, J.bare, J.base, J.hok, rv, q⟩
    cases fl with
    | ret u =>
      obtain ⟨v, σ', H', J, rv, q⟩ := hs
      exact fin J rv q
    | next =>
      obtain ⟨σ', H', J, q⟩ := hs
      exact fin (v := V.non) (u := Value.none) J rfl q
    | brk =>
      obtain ⟨_, _, _, q⟩ := hs
      exact False.elim q
    | cont =>
      obtain ⟨_, _, _, q⟩ := hs
      exact False.elim q
end DL

set_option Elab.async false
set_option linter.all false
set_option maxRecDepth 100000
set_option maxHeartbeats 4000000
namespace DL
open PySem PySem.Spec L2 PySem.W
open PyProof.Rows hiding St

/-! ### classes of exceptions -/
/-- a class without __init__ of its own -/
structure ExcA (K : Frag) (mg : Str → Option Value) (cn : Str) : Prop where
  ex : ∃ C : Addr, mg cn = some (.ref C) ∧ keepIn K (.ref C) = true ∧ excIn K C [.type "ValueError", .type "Exception", .type "BaseException", .type "object"] "ValueError.__new__" = true ∧ subIn K (.ref C) (.type "BaseException") = some true ∧ typeIn K (.ref C) = some (.type "type")
/-- a class whose __init__ keeps one whole number -/
structure ExcI (P : Program) (w : World) (K : Frag) (mg : Str → Option Value) (base : Heap) (cn fld : Str) : Prop where
  ex : ∃ (C fI : Addr) (fd : FuncData) (k : Nat), k ≤ 1 ∧ mg cn = some (.ref C) ∧ OexC K C ∧ findIn K (.ref C) "__init__" = some (some (.ref fI)) ∧ typeIn K (.ref fI) = some (.type "function") ∧ FnOk P w K mg base CX0 k fI fd ["self", fld] (spInit C fld) ∧ Binds K fd ["self", fld] []
/-- how an except clause answers -/
def Mat (K : Frag) (mg : Str → Option Value) (a b : Str) (r : Bool) : Prop := ∀ v c, mg a = some v → mg b = some c → exmOne K v c = some r
theorem mat_of {K : Frag} {mg : Str → Option Value} {a b : Str} {r : Bool} {A B : Addr} (ha : mg a = some (.ref A)) (hb : mg b = some (.ref B)) (h1 : subIn K (.ref B) (.type "BaseException") = some true) (h2 : isClsIn K B = true) (h3 : typeIn K (.ref B) = some (.type "type")) (h4 : subIn K (.ref A) (.ref B) = some r) : Mat K mg a b r := fun v c hv hc => by
  rw [ha] at hv
  rw [hb] at hc
  cases hv
  cases hc
  have e1 : (subIn K (.ref B) (.type "BaseException") == some true) = true := by rw [h1] <;> rfl
  have e2 : ((clsIn K B).isSome && typeIn K (.ref B) == some (.type "type")) = true := by
    rw [h3]
    first
      | (rw [show (clsIn K B).isSome = true from h2]; rfl)
      | (unfold isClsIn at h2; rw [h2]; rfl)
  show (if (subIn K (.ref B) (.type "BaseException") == some true) = true then (if ((clsIn K B).isSome && typeIn K (.ref B) == some (.type "type")) = true then subIn K (.ref A) (.ref B) else none) else none) = some r
  rw [if_pos e1, if_pos e2]
  exact h4
section
variable {X : Cx} {W : WS} {U : XK} {S T M : List Nat} {e a b c tg : Expr} {es tgs : List Expr} {pos p p2 : Pos} {te ta tb : TE} {tt : TT} {t : TA} {ts ts' : TS} {st : Stmt} {rest : List Stmt}
/-- raise C('..') -/
theorem ds_raiseA (K) (mg) {cn m : Str} {j : Nat} {p2 pos2 : Pos} (hc : X.calm = true) (tk : TkW X W) (T : ExcA K mg cn) (hg : Gl X cn) (hK : X.K = K := by rfl) (hM : X.mg = mg := by rfl) (hdb : (cn == ("__debug__" : Str)) = false := by decide) :
    DS X W (.Raise (some (.Call (.Name cn p) [.Constant (.str m) j p2] [] pos2)) none pos) (fun _ σ H => ∃ C : Addr, X.mg cn = some (.ref C) ∧ W σ (.ref C) none H) (fun _ => .err ⟨cn, none⟩) := by
  subst hK hM
  obtain ⟨C, h1, h2, h3, h4, h5⟩ := T.ex
  have hp := ps_raise (pos := pos) hc tk (pmk_own (j := j) (p := p) (p2 := p2) (pos := pos2) (m := m) PySem.F.excBase_ValueError h3 h1 h2 (raises_own h4 h5) hg hdb)
  refine ⟨⟨fun pins s σ H D I h => ?_⟩, fun H0 Fz0 Fz H σ δ Dn r q => ⟨C, h1, q (.ref C) none H Fz ⟨r.same, r.sub0, r.new0, fun _ => r.live⟩ ⟨h1, trivial⟩⟩⟩
  obtain ⟨C', e1, h⟩ := h
  rw [h1] at e1
  cases e1
  exact hp.run pins s σ H D I h
/-- raise C(e) of a whole number -/
def raiseI (cn fld : Str) (f : DSt → Res PyData) (δ : DSt) : Res Out := f δ >>= fun d => match d with
  | .int i => if i.natAbs < 4294967296 then .err ⟨cn, some (fld, i)⟩ else .bot
  | _ => .bot
theorem ds_raiseI (K) (mg) {k : Nat} {cn fld : Str} {pos2 : Pos} {f : DSt → Res PyData} (hc : X.calm = true) (tk : TkW X W) (T : ExcI X.prog X.w K mg X.base cn fld) (hr : Room k X.A) (hk : 2 ≤ k) (hg : Gl X cn) (he : DE X W S e te f) (hK : X.K = K := by rfl) (hM : X.mg = mg := by rfl) (hdb : (cn == ("__debug__" : Str)) = false := by decide)
    (hs : starEach [e] X.env = (false, eval e X.env) :: starEach [] X.env := by rfl) (hpl : (backTo pos2 (starEach [] X.env)).any (·.1) = false := by rfl) :
    DS X W (.Raise (some (.Call (.Name cn p) [e] [] pos2)) none pos) (fun _ σ H => ∃ C : Addr, X.mg cn = some (.ref C) ∧ tMkO C (spInit C fld) [] (tCons te tNil) σ H fun cls d H' => W σ cls d H') (raiseI cn fld f) := by
  subst hK hM
  obtain ⟨C, fI, fd, kk, hk1, hm, TC, hi, ht, F, hb⟩ := T.ex
  have hp := ps_raise (pos := pos) hc tk (pmk_oex (p := p) (pos := pos2) (dvs := []) TC hi ht F (hr.mono (by omega)) hb .nil pass0 hg hm (pa_cons he.pe pa_nil hs) hdb hs hpl)
  refine ⟨⟨fun pins s σ H D I h => ?_⟩, fun H0 Fz0 Fz H σ δ Dn r q => ?_⟩
  · obtain ⟨C', e1, h⟩ := h
    rw [hm] at e1
    cases e1
    exact hp.run pins s σ H D I h
  · unfold SOK raiseI at q
    rw [wp_bind] at q
    refine ⟨C, hm, ?_⟩
    show te σ H fun x H1 => _
    refine atE he r (wp_mono q (fun d hd v H1 F1 g1 r1 => ?_) fun x hx => hx)
    cases d with
    | int i =>
      by_cases hz : i.natAbs < 4294967296
      · rw [show (match PyData.int i with | .int i => (if i.natAbs < 4294967296 then (.err ⟨cn, some (fld, i)⟩ : Res Out) else .bot) | _ => .bot) = (if i.natAbs < 4294967296 then (.err ⟨cn, some (fld, i)⟩ : Res Out) else .bot) from rfl, if_pos hz] at hd
        cases r1
        show [V.int i].length ≤ 1000 ∧ ∀ a, H1 a = none → spInit C fld (.ref a :: ([V.int i] ++ [])) (upd H1 a (exo a C none)) _ _
        refine ⟨by simp, fun a ha => ⟨a, i, rfl, log_small hz, upd_same, fun d hn hda => ⟨rfl, d, [(fld, .int i)], upd_same, by rw [upd_ne hda, upd_same], ?_, ?_⟩⟩⟩
        · rw [upd_ne hda] at hn
          exact hn
        · rw [upd_ne hda] at hn
          have e : upd (del (upd (upd (upd H1 a (exo a C none)) d (exd d [(fld, .int i)])) a (exo a C (some d))) a) d (.xd [(fld, .int i)]) = upd H1 d (.xd [(fld, .int i)]) := by
            funext b
            by_cases hb : b = d
            · rw [hb, upd_same, upd_same]
            · rw [upd_ne hb, upd_ne hb]
              by_cases hba : b = a
              · rw [hba, del_same, ha]
              · rw [del_ne hba, upd_ne hba, upd_ne hb, upd_ne hba]
          rw [e]
          have g2 : Grow Fz0 H0 F1 (upd H1 d (.xd [(fld, .int i)])) := (r.grow0 g1).trans (.nw hn)
          exact hd (.ref C) (some d) _ F1 g2 ⟨hm, d, rfl, upd_same⟩
      · rw [show (match PyData.int i with | .int i => (if i.natAbs < 4294967296 then (.err ⟨cn, some (fld, i)⟩ : Res Out) else .bot) | _ => .bot) = (if i.natAbs < 4294967296 then (.err ⟨cn, some (fld, i)⟩ : Res Out) else .bot) from rfl, if_neg hz] at hd
        exact hd.elim
    | _ => exact hd.elim
/-- a call that may raise, but does not -/
theorem de_callX0 (K) (mg) {k j n : Nat} {x : Str} {g : List PyData → Res PyData} {f : DSt → Res (List PyData)} (c : FDX X.prog X.w K mg X.base k n x g) (hr : Room j X.A) (hk : k ≤ j) (hg : Gl X x) (hn : (e :: es).length = n) (ha : DA X W S (e :: es) t f) (hK : X.K = K := by rfl) (hM : X.mg = mg := by rfl)
    (hdb : (x == ("__debug__" : Str)) = false := by decide) (he : starEach (e :: es) X.env = (false, eval e X.env) :: starEach es X.env := by rfl) (hpl : (backTo pos (starEach es X.env)).any (·.1) = false := by rfl) :
    DE X W S (.Call (.Name x p) (e :: es) [] pos) (tCall (spD K mg n g) [] L2.E0 t) (callF g f) := by
  subst hK hM
  obtain ⟨fa, fd, ps, F, hm, kp, hb⟩ := c.ex
  refine ⟨pe_call F (hr.mono hk) hg hm kp hb .nil passL ha.pe hdb he hpl, fun Fz σ H δ Q hd hl hq => ?_⟩
  unfold EOK at hq
  rw [wp_bind] at hq
  refine ha.ok Fz σ H δ _ hd hl (wp_mono (wp_and_can hq) (fun ds ⟨hq, hcan⟩ vs H1 F1 g1 r1 => ?_) fun x hx => hx)
  refine ⟨ds, F1, (ha.len δ ds hcan).trans hn, g1.live hl, by rw [List.append_nil]; exact r1, ?_⟩
  exact wp_mono (nE_wpA hq) (fun d hq2 v H2 F2 g2 r2 => hq2 v H2 F2 (g1.trans g2) r2) fun _ h => h
/-- a statement that may raise, then such as do not -/
def seqN (f g : DSt → Res Out) (δ : DSt) : Res Out := f δ >>= fun o => match o with
  | .nx δ' => nE (g δ')
  | o => .ok o
theorem dss_consN {f g : DSt → Res Out} (h1 : DS X W st ts f) (h2 : DSs X (fun _ => E0) rest ts' g) : DSs X W (st :: rest) (tSeq ts ts') (seqN f g) := by
  refine ⟨pss_cons h1.pe h2.pe, fun H0 Fz0 Fz H σ δ Dn r h => ?_⟩
  unfold SOK seqN at h
  rw [wp_bind] at h
  refine h1.ok H0 Fz0 Fz H σ δ _ r (wp_mono h (fun o ho => ?_) fun x hx => hx)
  cases o with
  | nx δ' =>
    intro F H' σ' r'
    have ho : (nE (g δ')).wp _ _ := ho
    exact h2.ok H0 Fz0 F H' σ' δ' Dn r' (nE_wpA ho)
  | rt d => exact ho
  | bk δ' => exact ho
  | ct δ' => exact ho
end
/-! ### the answers of an except clause -/
def subL (l : List (Str × Bool)) : Str → Option Bool := fun n => l.lookup n
abbrev HSub (K : Frag) (mg : Str → Option Value) (c : Value) (l : List (Str × Bool)) : Prop := ∀ n b, subL l n = some b → ∀ v, mg n = some v → exmOne K v c = some b
theorem hsub_nil {K : Frag} {mg : Str → Option Value} {c : Value} : HSub K mg c [] := fun n b h => by cases h
theorem hsub_cons {K : Frag} {mg : Str → Option Value} {c : Value} {a b : Str} {r : Bool} {l : List (Str × Bool)} (h : Mat K mg a b r) (hc : mg b = some c) (q : HSub K mg c l) : HSub K mg c ((a, r) :: l) := fun n b' e v hv => by
  unfold subL at e
  rw [List.lookup_cons] at e
  by_cases hn : n = a
  · subst hn
    rw [show (n == n) = true by simp] at e
    cases e
    exact h v c hv hc
  · rw [show (n == a) = false by simpa using hn] at e
    exact q n b' e v hv
/-- what the text's top says of a class whose __init__ keeps one whole number -/
theorem excI_of {P : Program} {w : World} {K : Frag} {mg : Str → Option Value} {base : Heap} {cn fld s1 s2 qual file : Str} {C fI cc cda : Addr} {st : Stmt} {kV doc pm ct oc ccl cl : Value} {an od cdd cld : Option Addr} {osl ccs csl : Array (Option Value)} {vs : Array Value} {tf : Tok} {ar : Arg}
    {p0 p1 p2 p3 p4 p5 p6 p7 p8 p9 p10 p11 p12 p13 : Pos} {j1 j2 : Nat} {nm q : Str} {N : Addr} {bs bm : List Value} {sn : List Str} {sub : List Value} {ab : Bool} {col : Option Bool} {dd : Option Addr} {k0 k1 k2 k3 k5 : Option Value}
    (hm : mg cn = some (.ref C)) (xo : K.lookup C = some (excClassObj nm q C N bs bm true sn sub ab col dd k0 k1 k2 k3 k5 "ValueError.__new__")) (xr : PySem.HandSPX.refsVE bm = true) (sa : findIn K (.ref C) "__setattr__" = some (some (.builtin "object.__setattr__"))) (exC : subIn K (.ref C) (.type "BaseException") = some true) (tyC : typeIn K (.ref C) = some (.type "type")) (kC : keepIn K (.ref C) = true)
    (xi : findIn K (.ref C) "__init__" = some (some (.ref fI))) (xt : typeIn K (.ref fI) = some (.type "function"))
    (lk : K.lookup fI = some ⟨oc, od, .func (ksFn "__init__" qual (defArgs st) (defBody st) (defScope st) .none kV doc pm an (.ref cda) ct cc), osl⟩) (hcd : codeIn K (.ref cda) qual = true)
    (hcode : K.lookup cda = some ⟨ccl, cdd, .fields vs, ccs⟩) (hvs : vs[2]? = some (.str file tf)) (hfile : ((P.main.file : Str) == file) = true) (hcell : K.lookup cc = some ⟨cl, cld, .cell (some (.ref C)), csl⟩) (hsm : mg "super" = none) (htop : (P.main.scope.names.lookup ("super" : Str)).isSome = false)
    (hsup : ks_superIn K C C "__init__" = some (some (.builtin "ValueError.__init__"))) (hsubV : subIn K (.ref C) (.type "ValueError") = some true) (hsubC : mroIn K C (.ref C) = some true) (hopq : nsIn K cStatics "thirdparty.any" = some none) (hno : findIn K (.ref C) fld = some none)
    (hbd : defBody st = initB fld s1 s2 p0 p1 p2 p3 p4 p5 p6 p7 p8 p9 p10 p11 p12 p13 j1 j2) (hbi : ∀ (f : Addr) (fd : FuncData), fd = ksFn "__init__" qual (defArgs st) (defBody st) (defScope st) .none kV doc pm an (.ref cda) ct cc → Binds K fd ["self", fld] [])
    (hpar : ((defArgs st).posonlyargs ++ (defArgs st).args).head? = some ar) (har : ar.arg = "self") (hne : fld ≠ "self")
    (hk : (defScope st).kind = .function) (hco : (defScope st).isCoroutine = false) (hgen : (defScope st).isGenerator = false) (hcel : ∀ x ∈ (defScope st).names, x.2 ≠ .cell) (hks : (defScope st).names.lookup ("super" : Str) = some .globalImplicit) (hkc : (defScope st).names.lookup ("__class__" : Str) = some .free) (hself : (defScope st).names.lookup ("self" : Str) = some .local) (hfld : (defScope st).names.lookup fld = some .local)
    (hfree : ∀ x ∈ (defScope st).names, x.2 = .free → x.1 = "__class__") (hs1 : s1.length ≤ 1000) (hs2 : s2.length ≤ 1000) (hd1 : (fld == ("__debug__" : Str)) = false) (hd2 : (fld == ("__classdict__" : Str)) = false) {pl : Sem Bool}
    (hev : ∀ L : Addr, eval (.Call (.Attribute (.Call (.Name "super" p0) [] [] p1) "__init__" p2) [.JoinedStr [.Constant (.str s1) j1 p9, .FormattedValue (.Name fld p10) (-1) none p11, .Constant (.str s2) j2 p12] p3] [] p4) (ksEnv qual (defScope st) L fI (.ref cda) cc) = (do
      let ov ← attributeBase (.Call (.Name "super" p0) [] [] p1) "__init__" (ksEnv qual (defScope st) L fI (.ref cda) cc) (eval (.Call (.Name "super" p0) [] [] p1) (ksEnv qual (defScope st) L fI (.ref cda) cc))
      standAt p2.atName
      let (f', first) ← holding [ov] (getMethod ov "__init__" pl)
      callWith p4 f' first (backTo p4 (starEach [.JoinedStr [.Constant (.str s1) j1 p9, .FormattedValue (.Name fld p10) (-1) none p11, .Constant (.str s2) j2 p12] p3] (ksEnv qual (defScope st) L fI (.ref cda) cc))) []))
    (hsw : ∀ L : Addr, swapsWith (.Call (.Attribute (.Call (.Name "super" p0) [] [] p1) "__init__" p2) [.JoinedStr [.Constant (.str s1) j1 p9, .FormattedValue (.Name fld p10) (-1) none p11, .Constant (.str s2) j2 p12] p3] [] p4) none p5.line (ksEnv qual (defScope st) L fI (.ref cda) cc) = pure false)
    (hsw2 : ∀ L : Addr, swapsWith (.Name fld p8) (some (.Attribute (.Name "self" p6) fld p7)) p13.line (ksEnv qual (defScope st) L fI (.ref cda) cc) = pure false) :
    ExcI P w K mg base cn fld := by
  have hb := hbi fI _ rfl
  rw [hbd] at lk hb
  exact ⟨C, fI, _, 1, Nat.le_refl _, hm, ⟨⟨nm, q, N, bs, bm, sn, sub, ab, col, dd, k0, k1, k2, k3, k5, xo, xr⟩, sa, exC, tyC, kC⟩, xi, xt, init_ok ⟨⟨nm, q, N, bs, bm, sn, sub, ab, col, dd, k0, k1, k2, k3, k5, xo, xr⟩, sa, exC, tyC, kC⟩ lk hcd hcode hvs hfile hcell hsm htop hsup hsubV hsubC hopq hno hpar har hne hk hco hgen hcel hks hkc hself hfld (fun x h => hfree _ (PySem.mem_of_lookup h) rfl) hs1 hs2 hd1 hd2 hev hsw hsw2, hb⟩
/-- the j-th statement of a class's body -/
def inCls (st : Stmt) (j : Nat) : Stmt := match st with
  | .ClassDef (body := b) .. => b.getD j (.Pass ⟨0, 0, 0, 0⟩)
  | _ => .Pass ⟨0, 0, 0, 0⟩
end DL

set_option Elab.async false
set_option linter.all false
set_option maxRecDepth 100000
set_option maxHeartbeats 4000000
namespace DL
open PySem PySem.Spec L2 PySem.W
open PyProof.Rows hiding St

/-! ### try .. except C as n: .. -/
/-- what an except suite knows of what was caught: y -/
structure Cgt (mg : Str → Option Value) (i : Nat) (a : Addr) (cls : Value) (d : Option Addr) (y : Exn) (H : Hp) (σ : L2.St) : Prop where
  at' : σ[i]? = some (some (.ref a))
  ex : ExR mg y cls d H
theorem Cgt.grow {mg : Str → Option Value} {i : Nat} {a : Addr} {cls : Value} {d : Option Addr} {y : Exn} {H H' : Hp} {σ : L2.St} (c : Cgt mg i a cls d y H σ) (s : Same H H') : Cgt mg i a cls d y H' σ := by
  refine ⟨c.at', c.ex.1, ?_⟩
  have := c.ex.2
  cases h : y.fld with
  | none => trivial
  | some p =>
    rw [h] at this
    obtain ⟨dd, e1, e2⟩ := this
    exact ⟨dd, e1, s _ _ e2⟩
/-- an expression of such a suite -/
structure DEx (X : Cx) (i : Nat) (a : Addr) (cls : Value) (d : Option Addr) (S : List Nat) (e : Expr) (t : TE) (f : Exn → DSt → Res PyData) : Prop where
  pe : PE X e t
  ok : ∀ Fz σ H δ Q y, Cgt X.mg i a cls d y H σ → RdOn X.K S Fz H σ δ → Live Fz H → EOK X.K X.mg E0 Fz H (f y δ) Q → t σ H Q
structure DAx (X : Cx) (i : Nat) (a : Addr) (cls : Value) (d : Option Addr) (S : List Nat) (es : List Expr) (t : TA) (f : Exn → DSt → Res (List PyData)) : Prop where
  pe : PA X es t
  len : ∀ y δ ds, (f y δ).can ds → ds.length = es.length
  ok : ∀ Fz σ H δ Q y, Cgt X.mg i a cls d y H σ → RdOn X.K S Fz H σ δ → Live Fz H → AOK X.K X.mg E0 Fz H (f y δ) Q → t σ H Q
structure DSx (X : Cx) (i : Nat) (a : Addr) (cls : Value) (d : Option Addr) (st : List Stmt) (t : TS) (f : Exn → DSt → Res Out) : Prop where
  pe : PSs X st t
  ok : ∀ H0 Fz0 Fz H σ δ Dn y, Cgt X.mg i a cls d y H σ → Rel X.K H0 Fz0 Fz H σ δ → SOK X.K X.mg E0 H0 Fz0 (f y δ) Dn → t Dn σ H
/-- a class whose instances' field may be read -/
structure ExcF (K : Frag) (mg : Str → Option Value) (cn fld : Str) : Prop where
  ex : ∃ C : Addr, mg cn = some (.ref C) ∧ XfC K C ∧ findIn K (.ref C) fld = some none
section
variable {X : Cx} {i : Nat} {a : Addr} {oe : Obj} {cls : Value} {d : Option Addr} {pn : List (Addr × Obj)} {S T : List Nat} {e : Expr} {es : List Expr} {te : TE} {t : TA} {pos p : Pos}
theorem dx_of {f : DSt → Res PyData} (h : DE X (fun _ => E0) S e te f) : DEx X i a cls d S e te (fun _ => f) := ⟨h.pe, fun Fz σ H δ Q y _ hd hl hq => h.ok Fz σ H δ Q hd hl hq⟩
/-- e.fld of the class cn -/
def fldX (cn fld : Str) (y : Exn) (_ : DSt) : Res PyData := match y.fld with
  | some (x, k) => if y.cls = cn ∧ x = fld then .ok (.int k) else .bot
  | none => .bot
theorem dx_fld {n x : Str} {C : Addr} (hN : X.N[i]? = some x) (hv : Vis X.env.scope x) (hC : X.mg n = some (.ref C)) (T : XfC X.K C) {fld : Str} (hno : findIn X.K (.ref C) fld = some none) (hz : Zc cls d oe) (hf : ∃ vs, oe.data = .fields vs)
    (hd : (x == ("__debug__" : Str)) = false := by decide) (hcd : (x == ("__classdict__" : Str)) = false := by decide) (hb : attributeBase (.Name x p) fld X.env (eval (.Name x p) X.env) = eval (.Name x p) X.env := by rfl) :
    DEx (X.suite a ((a, oe) :: pn)) i a cls d [] (.Attribute (.Name x p) fld pos) (tXf a cls d C fld (tVar i)) (fldX n fld) := by
  refine ⟨pe_xf T hno hz hf (pe_var (X := X.suite a ((a, oe) :: pn)) hN hv hd hcd) hb, fun Fz σ H δ Q y c _ hl hq => ?_⟩
  unfold fldX at hq
  have c2 := c.ex.2
  cases hy : y.fld with
  | none => rw [hy] at hq; exact hq.elim
  | some pr =>
    obtain ⟨x', k⟩ := pr
    rw [hy] at hq c2
    obtain ⟨dd, e1, e2⟩ := c2
    by_cases hcn : y.cls = n ∧ x' = fld
    · have hq' : EOK X.K X.mg E0 Fz H (if y.cls = n ∧ x' = fld then .ok (.int k) else .bot) Q := hq
      rw [if_pos hcn] at hq'
      clear hq
      obtain ⟨h1, h2⟩ := hcn
      subst h2
      have hm : X.mg y.cls = some cls := c.ex.1
      rw [h1, hC] at hm
      refine ⟨.ref a, c.at', rfl, (Option.some.inj hm).symm, dd, _, .int k, e1, e2, by simp [List.lookup], ?_⟩
      exact hq' (.int k) H Fz .refl (.int k)
    · have hq : EOK _ _ _ Fz H (if y.cls = n ∧ x' = fld then .ok (.int k) else .bot) Q := hq
      rw [if_neg hcn] at hq
      exact hq.elim
theorem dax_nil : DAx X i a cls d [] [] tNil (fun _ _ => .ok []) := ⟨pa_nil, fun y δ ds e => by cases (show [] = ds from e); rfl, fun Fz σ H δ Q y _ _ hl h => h [] H Fz .refl .nil⟩
theorem dax_cons {f : Exn → DSt → Res PyData} {g : Exn → DSt → Res (List PyData)} (ha : DEx X i a cls d S e te f) (hr : DAx X i a cls d T es t g) (hs : starEach (e :: es) X.env = (false, eval e X.env) :: starEach es X.env := by rfl) :
    DAx X i a cls d (S ++ T) (e :: es) (tCons te t) (fun y δ => do let x ← f y δ; let xs ← g y δ; .ok (x :: xs)) := by
  refine ⟨pa_cons ha.pe hr.pe hs, fun y δ ds h => ?_, fun Fz σ H δ Q y c hd hl h => ?_⟩
  · obtain ⟨x, _, h⟩ := can_bind h
    obtain ⟨xs, hg, h⟩ := can_bind h
    cases (show x :: xs = ds from h)
    rw [List.length_cons, List.length_cons, hr.len y δ xs hg]
  unfold AOK at h
  rw [wp_bind] at h
  refine ha.ok Fz σ H δ _ y c hd.left hl (wp_mono h (fun x hx v H1 F1 g1 r1 => ?_) fun x hx => hx)
  rw [wp_bind] at hx
  refine hr.ok F1 σ H1 δ _ y (c.grow g1.same) (hd.right.grow g1) (g1.live hl) (wp_mono hx (fun xs hxs vs H2 F2 g2 r2 => ?_) fun x hx c oe H2 F2 g2 => hx c oe H2 F2 (g1.trans g2))
  exact hxs (v :: vs) H2 F2 (g1.trans g2) (.cons (r1.grow g2) r2)
theorem dx_tup {x1} {f : Exn → DSt → Res (List PyData)} (h : DAx X i a cls d S es t f) : DEx X i a cls d S (.Tuple es x1 pos) (tTup t) (fun y δ => do let xs ← f y δ; tupD xs) := by
  refine ⟨pe_tup h.pe, fun Fz σ H δ Q y c hd hl hq => ?_⟩
  unfold EOK at hq
  rw [wp_bind] at hq
  refine h.ok Fz σ H δ _ y c hd hl (wp_mono hq (fun ds hx vs H1 F1 g1 r1 => ?_) fun x hx => hx)
  unfold tupD at hx
  split at hx
  · rename_i hz
    exact ⟨by rw [r1.length]; exact hz, fun p np => hx _ _ F1 (g1.trans (.nw np)) (.tup (.of upd_same) hz (r1.grow (.nw np)))⟩
  · exact hx.elim
theorem dsx_ret {f : Exn → DSt → Res PyData} (he : DEx X i a cls d S e te f) : DSx X i a cls d [.Return (some e) pos] (tRet te) (fun y δ => do let v ← f y δ; .ok (.rt v)) := by
  refine ⟨pss_one (ps_ret he.pe), fun H0 Fz0 Fz H σ δ Dn y c r h => ?_⟩
  unfold SOK at h
  rw [wp_bind] at h
  exact he.ok _ σ H δ _ y c r.rd r.ownLive (wp_mono h (fun v hd v' H1 F1 g1 r1 => hd F1 H1 v' (r.grow0 g1) r1) fun x hx c oe H1 F1 g q => hx c oe H1 F1 (r.grow0 g) q)
end
/-- the caught one's slot is not read any more -/
def tryAK (i : Nat) : Out → Res Out
  | .rt d => .ok (.rt d)
  | .nx δ' => .ok (.nx (δ'.set i none))
  | _ => .bot
def tryA (sub : Str → Option Bool) (i : Nat) (f : DSt → Res Out) (h : Exn → DSt → Res Out) (δ : DSt) : Res Out := (f (frzAll δ)).tryc fun x => match sub x.cls with
    | some true => if i < δ.length then (nE (h x ((frzAll δ).set i none)) >>= tryAK i) else .bot
    | some false => .err x
    | none => .bot
theorem Rel.setX {K : Frag} {H0 H : Hp} {Fz0 Fz : FZ} {σ : L2.St} {δ : DSt} (r : Rel K H0 Fz0 Fz H σ δ) (i : Nat) (u : Option V) : Rel K H0 Fz0 Fz H (σ.set i u) (δ.set i none) := by
  have key : ∀ (j : Nat) s, (δ.set i none)[j]? = some (some s) → j ≠ i ∧ δ[j]? = some (some s) := fun j s e => by
    by_cases hj : j = i
    · subst hj
      by_cases hlt : j < δ.length
      · rw [List.getElem?_set_self hlt] at e; cases e
      · rw [List.getElem?_eq_none (by simpa using hlt)] at e; cases e
    · rw [List.getElem?_set_ne (Ne.symm hj)] at e
      exact ⟨hj, e⟩
  have sg : ∀ (j : Nat), j ≠ i → (σ.set i u)[j]? = σ[j]? := fun j hj => List.getElem?_set_ne (Ne.symm hj)
  refine ⟨r.same, r.sub0, r.new0, r.live, by simpa using r.len, fun j d e => ?_, fun j s e ho => ?_, fun j k s u' a hjk e1 o1 e2 o2 h1 h2 => ?_⟩
  · obtain ⟨hj, e⟩ := key j _ e
    rw [sg j hj]
    exact r.val j d e
  · obtain ⟨hj, e⟩ := key j _ e
    rw [sg j hj]
    exact r.own j s e ho
  · obtain ⟨hj, e1⟩ := key j _ e1
    obtain ⟨hk, e2⟩ := key k _ e2
    rw [sg j hj] at h1
    rw [sg k hk] at h2
    exact r.sep j k s u' a hjk e1 o1 e2 o2 h1 h2
section
variable {X : Cx} {W : WS} {Wx : WX} {U : XK} {i : Nat} {pos pos' np : Pos} {x n : Str} {c : Value} {body suite : List Stmt} {b₀ : Stmt} {tb : WX → TS} {ts : Addr → Value → Option Addr → TS} {f : DSt → Res Out} {h : Exn → DSt → Res Out} {sub : Str → Option Bool}
theorem ds_tryA (hs : X.stack = X.env :: X.outer) (hf : X.env.frame = some X.env.locals) (hN : X.N.Nodup) (hi : X.N[i]? = some n) (hln : X.env.kindOf n = some .local) (hc : Names X x c) (tk : Takes X Wx) (hsub : ∀ n b, sub n = some b → ∀ v, X.mg n = some v → PySem.W.exmOne X.K v c = some b)
    (hb : ∀ (W : WX) (pn : List (Addr × Obj)) (xe : Value → Shared → Prop), Takes (X.tr pn xe) W → PassesOwn (model X.prog X.w) X.A X.env xe → DSs (X.tr pn xe) (WE W) body (tb W) f)
    (hsu : ∀ (a : Addr) (oe : Obj) (cls : Value) (d : Option Addr) (pn : List (Addr × Obj)), Zc cls d oe → (∃ vs, oe.data = .fields vs) → DSx (X.suite a ((a, oe) :: pn)) i a cls d (b₀ :: suite) (ts a cls d) h) :
    DS X (WE Wx) (.Try body [.ExceptHandler (some (.Name x np)) (some n) (b₀ :: suite) pos'] [] [] pos) (fun D σ H => tb (wAs X.K c i ts Wx D) D σ H) (tryA sub i f h) := by
  refine ⟨ps_try_as hs hf hN hi hln hc tk (fun W pn xe t1 t2 => (hb W pn xe t1 t2).pe) (fun a oe cls d pn z1 z2 => (hsu a oe cls d pn z1 z2).pe), fun H0 Fz0 Fz H σ δ Dn r q => ?_⟩
  have hbd : ∀ (W : WX), ∃ xe, DSs (X.tr [] xe) (WE W) body (tb W) f := fun W => by
    refine ⟨fun e s₁ => wpAny (model X.prog X.w) X.A (noteFrame e X.env) (fun _ s₂ => wpAny (model X.prog X.w) X.A (setFlight e none) (fun _ _ => True) (fun _ _ => True) s₂) (fun _ _ => True) s₁, hb W [] _ (fun u s' xx => ?_) PassesOwn.looking⟩
    obtain ⟨a, B, sI, pins', σ', H', cls, d, rfl, J', nb, up, sky, na, os, ag, w⟩ := xx
    have ok : X.Ok := J'.ok.ofTry
    have hfr : X.A.frames = some (X.env :: X.outer) := by rw [ok.frames, hs]
    have sky' : Sky B (X.env :: X.outer) a (Zc cls d) X.env.locals s'.heap := by rw [← hs]; exact sky
    show wpAny (model X.prog X.w) X.A (noteFrame (.ref a) X.env) _ _ _
    exact Sky.land (Q := fun _ _ => True) Zc.steady hfr hf sky' fun _ _ _ => True.intro
  obtain ⟨xe, hB⟩ := hbd (wAs X.K c i ts Wx Dn)
  have r1 : Rel X.K H0 Fz0 (withOwn Fz σ δ (List.range δ.length)) H σ (frzAll δ) := r.frz ⟨fun _ _ e => e, fun _ h => h, fun _ h => .inl h, fun l => l⟩
  have r2 := r1.still (fun i s e => frzAll_val e) (Grow.refl (H := H))
  unfold tryA at q
  refine hB.ok _ _ _ H σ _ Dn r2 ?_
  unfold SOK at q ⊢
  refine wp_mono (tryc_wp q) (fun o q => ?_) (fun y q => ?_)
  · cases o with
    | nx δ' => exact fun F' H' σ' r' => q F' H' σ' (r1.under r')
    | rt d => exact fun F' H' v g rv => q F' H' v ⟨fun a o e => g.same a o (r1.same a o e), fun a h => g.sub a (r1.sub0 a h), fun a h => (g.new a h).elim (r1.new0 a) fun z => .inr (none_of_same r1.same z), fun _ => g.live r1.live⟩ rv
    | bk δ' => exact fun F' H' σ' r' => q F' H' σ' (r1.under r')
    | ct δ' => exact fun F' H' σ' r' => q F' H' σ' (r1.under r')
  · intro cls oe H' F' g ex
    have hm : X.mg y.cls = some cls := ex.1
    cases hb' : sub y.cls with
    | none => rw [hb'] at q; exact q.elim
    | some b =>
      rw [hb'] at q
      have he := hsub y.cls b hb' cls hm
      have r3 : Rel X.K H0 Fz0 F' H' σ (frzAll δ) := r1.under (r1.still (fun i s e => frzAll_val e) g)
      refine ⟨b, he, fun hbt a ha => ?_, fun hbf => ?_⟩
      · subst hbt
        have q : (if i < δ.length then (nE (h y ((frzAll δ).set i none)) >>= tryAK i) else .bot : Res Out).wp _ _ := q
        by_cases hlt : i < δ.length
        · rw [if_pos hlt] at q
          have hS := hsu a { cls := cls, dict := oe, data := .fields #[] } cls oe [] ⟨rfl, rfl⟩ ⟨_, rfl⟩
          have r4 := r3.setX i (some (.ref a))
          have hls : i < σ.length := by rw [r.len]; exact hlt
          refine hS.ok H0 Fz0 F' H' _ _ _ y ⟨by rw [List.getElem?_set_self hls], ex⟩ r4 ?_
          unfold SOK
          have q := (wp_bind _ _ _ _).mp q
          refine wp_mono (nE_wpA q) (fun o q => ?_) (fun _ h => h)
          cases o with
          | rt d => exact q
          | nx δ' => exact fun F2 H2 σ2 r5 => q F2 H2 _ (r5.setX i none)
          | bk δ' => exact q.elim
          | ct δ' => exact q.elim
        · rw [if_neg hlt] at q
          exact q.elim
      · subst hbf
        exact q cls oe H' F' ⟨r3.same, r3.sub0, r3.new0, fun _ => r3.live⟩ ex
end
end DL

set_option Elab.async false
set_option linter.all false
set_option maxRecDepth 100000
set_option maxHeartbeats 4000000
namespace DL
open PySem PySem.Spec L2 PySem.W
open PyProof.Rows hiding St

/-! ### defs that are quiet: they may be called where an exception is handled -/
structure RmQ (k : Nat) (A : Around) : Prop where
  dp : A.depth + 3 * k + 5 < recursionLimit
  un : A.units + 16 * k + 200 < cLine
theorem RmQ.mono {j k : Nat} {A : Around} (r : RmQ k A) (h : j ≤ k) : RmQ j A := by
  have h1 := r.dp
  have h2 := r.un
  exact ⟨by omega, by omega⟩
theorem rmq_of {k : Nat} {A : Around} (r : Room k A) : RmQ k A := ⟨r.dp, r.un⟩
abbrev offH (A : Around) : Around := { A with handled := none }
theorem RmQ.off {k : Nat} {A : Around} (r : RmQ k A) : Room k (offH A) := ⟨rfl, r.dp, r.un⟩
abbrev onQ (X : Cx) (A : Around) : Cx := { X with A := A, calm := false }
theorem inv_q {X : Cx} {A : Around} {pins : List (Addr × Obj)} {σ : L2.St} {H : Hp} {s : Shared} (I : Inv X pins σ H s) (hf : A.frames = X.A.frames) : Inv (onQ X A) pins σ H s := by
  have o := I.ok
  exact ⟨⟨o.mod, o.kind, o.glob, o.blt, o.above, o.inj, o.has, o.cab, (fun z => by cases (show false = true from z)), hf.trans o.frames, o.stk, o.exf, o.bs, o.bsz, o.noex, o.exfs, o.funs, o.frf⟩, I.os, I.bare, I.base, I.loc, I.cell, I.free, I.freeC, I.pin, I.hok, I.len⟩
theorem env_off {P : Program} {w : World} {K : Frag} {mg : Str → Option Value} {base : Heap} {A : Around} {outer : List Env} {s : Shared} {H : Hp} (e : Env0 P w K mg base A outer s H) : Env0 P w K mg base (offH A) outer s H := ⟨e.frames, e.mod, e.bs, e.bsz, e.funs, e.frf, e.hok, e.bare⟩
/-- what a quiet def promises -/
structure FnQ (P : Program) (w : World) (K : Frag) (mg : Str → Option Value) (base : Heap) (k : Nat) (f : Addr) (fd : FuncData) (ps : List Str) (sp : Sp) : Prop where
  len : ∀ vs H Q E, sp vs H Q E → vs.length = ps.length
  run : ∀ (A : Around) (outer : List Env) (s : Shared) (H : Hp) (args : Args) (us : List Value) (vs : List V) (Q : VK), RmQ k A → Env0 P w K mg base A outer s H → BindsTo s fd args (ps.zip us) → Vals vs us → sp vs H Q L2.E0 →
    codeAny (model P w) A (.call (.ref f) args) (CR CX0 outer P w H s Q L2.E0) s
/-- the context of its body -/
abbrev cxQ (P : Program) (w : World) (K : Frag) (mg : Str → Option Value) (base : Heap) (N : List Str) (x : Str) (scope : Scope) (f : Addr) (cd : Value) (A : Around) (outer : List Env) (s : Shared) (H : Hp) : Cx :=
  (onQ (cxOf CX0 P w K mg base N x scope f cd (offH A) outer s H L2.E0) (A.deeper (envOfC x scope s.heap.objs.size f cd))).nox
theorem fnq_of {P : Program} {w : World} {K : Frag} {mg : Str → Option Value} {base : Heap} {x : Str} {st : Stmt} {f : Addr} {fd : FuncData} {N ps : List Str} {k : Nat} {sp : Sp} (F : Fun K x x st f fd) (S : FnScope N ps (defScope st)) (len : ∀ vs H Q E, sp vs H Q E → vs.length = ps.length)
    (hbody : ∀ (cdv : Value) (A : Around) (outer : List Env) (s : Shared) (H : Hp) (vs : List V) (Q : VK), RmQ k (A.deeper (envOfC x (defScope st) s.heap.objs.size f cdv)) → sp vs H Q L2.E0 →
      ∃ t, PSs (cxQ P w K mg base N x (defScope st) f cdv A outer s H) (defBody st) t ∧ t { nx := fun _ H' => Q .non H', rt := Q } (L2.start N vs) H) : FnQ P w K mg base (k + 1) f fd ps sp := by
  obtain ⟨oc, od, kV, doc, pm, an, cdv, ct, osl, rfl, lk, hcd⟩ := F.ex
  refine ⟨len, fun A outer s H args us vs Q hr e0 hb rv hsp => ?_⟩
  have hvl := len _ _ _ _ hsp
  have KH : K.In s.heap := e0.mod.kin.keeps fun b o z => (e0.bs b o z).1
  have noL : s.heap.NoLimit := e0.mod.nolimit.keeps fun b o z => (e0.bs b o z).1
  have kinds : ∀ y ∈ ps.zip us, (defScope st).names.lookup y.1 = some .local ∨ ((defScope st).names.lookup y.1 = some .cell ∧ ((cellsFrom (s.heap.objs.size + 1) (defScope st).names []).lookup y.1).isSome = true) := by
    rintro ⟨n, v⟩ hy
    exact (S.par n (List.of_mem_zip hy).1).imp (fun q => q) fun q => ⟨q, cellsFrom_some _ _ _ (.inl q)⟩
  have dpt : A.depth < recursionLimit := by have := hr.dp; omega
  have hr2 : RmQ k (A.deeper (envOfC x (defScope st) s.heap.objs.size f cdv)) := by
    have h1 := hr.dp
    have h2 := hr.un
    exact ⟨by show A.depth + 1 + 3 * k + 5 < _; omega, by show A.units + 3 + 16 * k + 200 < _; omega⟩
  refine codeAny_call_function dpt (KH _ _ lk) rfl S.co S.gen rfl (codeRec_of KH hcd) (hb _ _ _ _ ?_)
  refine wpAny_newFunctionEnv_cells S.kind kinds fun env he s1 xc => ?_
  subst he
  refine ⟨noL.keeps xc.toInCall.keep, codeAny_func ?_⟩
  obtain ⟨t, ht, hq⟩ := hbody cdv A outer s H vs Q hr2 hsp
  have I0 : Inv (cxOf CX0 P w K mg base N x (defScope st) f cdv (offH A) outer s H L2.E0) [] (L2.start N vs) H s1 := inv_start S rfl (env_off e0) hvl rv xc
  have I1 := inv_q (A := A.deeper (envOfC x (defScope st) s.heap.objs.size f cdv)) I0 rfl
  refine wpAny_mono (ht.run [] s1 (L2.start N vs) H _ (I1.wish _) hq) (fun fl s' hs => ?_) fun e s' hs => False.elim hs
  have done : ∀ {σ' : L2.St} {H' : Hp} {v : V} {u : Value}, Inv (cxQ P w K mg base N x (defScope st) f cdv A outer s H) [] σ' H' s' → RelV v u → Q v H' → CE outer P w H s Q u s' := by
    intro σ' H' v u J r q
    exact ⟨v, H', J.os, J.bare, J.base, J.hok, r, q⟩
  cases fl with
  | next =>
    obtain ⟨σ', H', J, q⟩ := hs
    exact done (v := V.non) (u := Value.none) J rfl q
  | ret u =>
    obtain ⟨v, σ', H', J, r, q⟩ := hs
    exact done J r q
  | cont =>
    obtain ⟨_, _, _, q⟩ := hs
    exact q.elim
  | brk =>
    obtain ⟨_, _, _, q⟩ := hs
    exact q.elim
section
variable {X : Cx} {k : Nat} {f : Addr} {fd : FuncData} {ps : List Str} {sp : Sp} {x : Str} {p pos : Pos} {e : Expr} {es : List Expr} {t : TA}
theorem pe_callQ (F : FnQ X.prog X.w X.K X.mg X.base k f fd ps sp) (hr : RmQ k X.A) (hg : Gl X x) (hm : X.mg x = some (.ref f)) (hk : keepIn X.K (.ref f) = true) (hb : Binds X.K fd ps [])
    (ha : PA X (e :: es) t) (hdb : (x == ("__debug__" : Str)) = false := by decide) (he : starEach (e :: es) X.env = (false, eval e X.env) :: starEach es X.env := by rfl) (hpl : (backTo pos (starEach es X.env)).any (·.1) = false := by rfl) :
    PE X (.Call (.Name x p) (e :: es) [] pos) (tCall sp [] L2.E0 t) := by
  refine ⟨fun pins s σ H Q I h => ?_⟩
  refine wpAny_Call_Name_kw (ld_glob I hg hm ?_ hdb)
  refine callWith_K (h₀ := X.base) I.ok.mod.kin hk (thn (ha.run pos pins s σ H _ I h) fun us s1 hu => ?_) he hpl
  obtain ⟨vs, H1, I1, r, q⟩ := hu
  refine ⟨I1.kIn, ?_⟩
  rw [List.append_nil] at q
  have hl : (us ++ []).length = ps.length := by
    rw [List.append_nil, ← r.length]
    exact F.len _ _ _ _ q
  have b := hb s1 us I1.kIn hl
  rw [List.append_nil] at b
  refine wpAny_call (codeAny_mono (F.run X.A X.stack s1 H1 ⟨us, []⟩ us vs Q hr I1.env0 b r q) fun z s' hz => ?_)
  cases z with
  | error y => exact pass0 pins σ H1 s1 y s' I1 hz
  | ok fl =>
    cases fl with
    | ret u => exact I1.after hz
    | next => exact hz.elim
    | brk => exact hz.elim
    | cont => exact hz.elim
end
structure FDQ (P : Program) (w : World) (K : Frag) (mg : Str → Option Value) (base : Heap) (k n : Nat) (x : Str) (g : List PyData → Res PyData) : Prop where
  ex : ∃ (f : Addr) (fd : FuncData) (ps : List Str), FnQ P w K mg base k f fd ps (spD K mg n g) ∧ mg x = some (.ref f) ∧ keepIn K (.ref f) = true ∧ Binds K fd ps []
theorem fdq_of {P : Program} {w : World} {K : Frag} {mg : Str → Option Value} {base : Heap} {x : Str} {st : Stmt} {f : Addr} {fd : FuncData} {N ps : List Str} {k : Nat} (F : Fun K x x st f fd) (hm : mg x = some (.ref f)) (b : Binds K fd ps []) (S : FnScope N ps (defScope st)) {g : DSt → Res Out}
    (hbody : ∀ (cdv : Value) (A : Around) (outer : List Env) (s : Shared) (H : Hp), RmQ k (A.deeper (envOfC x (defScope st) s.heap.objs.size f cdv)) → ∃ t, DSs (cxQ P w K mg base N x (defScope st) f cdv A outer s H) (fun _ => E0) (defBody st) t g) : FDQ P w K mg base (k + 1) ps.length x (fnD N.length g) := by
  refine ⟨f, fd, ps, ?_, hm, F.kp, b⟩
  refine fnq_of F S (fun vs H Q E h => spD_len h) (fun cdv A outer s H vs Q hr h => ?_)
  obtain ⟨t, ht⟩ := hbody cdv A outer s H hr
  refine ⟨t, ht.pe, ?_⟩
  obtain ⟨ds, Fz, hl, live, ra, q⟩ := h
  refine ht.ok H Fz Fz H (L2.start N vs) (startD N.length ds) _ (start_relX live ra) ?_
  unfold fnD EOK at q
  rw [wp_bind] at q
  unfold SOK
  refine wp_mono (nE_wpA q) (fun o q => ?_) (fun _ h => h)
  cases o with
  | rt d => exact fun F' H' v g r => q v H' F' g r
  | nx δ' => exact fun F' H' σ' r => q .non H' F' ⟨r.same, r.sub0, r.new0, fun _ => r.live⟩ .non
  | ct δ' => exact q.elim
  | bk δ' => exact q.elim
section
variable {X : Cx} {W : WS} {i : Nat} {a : Addr} {cls : Value} {d : Option Addr} {S T : List Nat} {e b : Expr} {es rest : List Expr} {ta tb : TE} {t : TA} {pos p : Pos}
theorem de_callQ (K) (mg) {k j n : Nat} {x : Str} {g : List PyData → Res PyData} {f : DSt → Res (List PyData)} (c : FDQ X.prog X.w K mg X.base k n x g) (hr : RmQ j X.A) (hk : k ≤ j) (hg : Gl X x) (hn : (e :: es).length = n) (ha : DA X W S (e :: es) t f) (hK : X.K = K := by rfl) (hM : X.mg = mg := by rfl)
    (hdb : (x == ("__debug__" : Str)) = false := by decide) (he : starEach (e :: es) X.env = (false, eval e X.env) :: starEach es X.env := by rfl) (hpl : (backTo pos (starEach es X.env)).any (·.1) = false := by rfl) :
    DE X W S (.Call (.Name x p) (e :: es) [] pos) (tCall (spD K mg n g) [] L2.E0 t) (callF g f) := by
  subst hK hM
  obtain ⟨fa, fd, ps, F, hm, kp, hb⟩ := c.ex
  refine ⟨pe_callQ F (hr.mono hk) hg hm kp hb ha.pe hdb he hpl, fun Fz σ H δ Q hd hl hq => ?_⟩
  unfold EOK at hq
  rw [wp_bind] at hq
  refine ha.ok Fz σ H δ _ hd hl (wp_mono (wp_and_can hq) (fun ds ⟨hq, hcan⟩ vs H1 F1 g1 r1 => ?_) fun x hx => hx)
  refine ⟨ds, F1, (ha.len δ ds hcan).trans hn, g1.live hl, by rw [List.append_nil]; exact r1, ?_⟩
  exact wp_mono (nE_wpA hq) (fun d hq2 v H2 F2 g2 r2 => hq2 v H2 F2 (g1.trans g2) r2) fun _ h => h
/-- the call of a quiet def with what is known of the caught one -/
theorem dx_callQ (K) (mg) {k j n : Nat} {x : Str} {g : List PyData → Res PyData} {f : Exn → DSt → Res (List PyData)} (c : FDQ X.prog X.w K mg X.base k n x g) (hr : RmQ j X.A) (hk : k ≤ j) (hg : Gl X x) (hn : (e :: es).length = n) (ha : DAx X i a cls d S (e :: es) t f) (hK : X.K = K := by rfl) (hM : X.mg = mg := by rfl)
    (hdb : (x == ("__debug__" : Str)) = false := by decide) (he : starEach (e :: es) X.env = (false, eval e X.env) :: starEach es X.env := by rfl) (hpl : (backTo pos (starEach es X.env)).any (·.1) = false := by rfl) :
    DEx X i a cls d S (.Call (.Name x p) (e :: es) [] pos) (tCall (spD K mg n g) [] L2.E0 t) (fun y => callF g (f y)) := by
  subst hK hM
  obtain ⟨fa, fd, ps, F, hm, kp, hb⟩ := c.ex
  refine ⟨pe_callQ F (hr.mono hk) hg hm kp hb ha.pe hdb he hpl, fun Fz σ H δ Q y cg hd hl hq => ?_⟩
  unfold EOK at hq
  rw [wp_bind] at hq
  refine ha.ok Fz σ H δ _ y cg hd hl (wp_mono (wp_and_can hq) (fun ds ⟨hq, hcan⟩ vs H1 F1 g1 r1 => ?_) fun x hx => hx)
  refine ⟨ds, F1, (ha.len y δ ds hcan).trans hn, g1.live hl, by rw [List.append_nil]; exact r1, ?_⟩
  exact wp_mono (nE_wpA hq) (fun d hq2 v H2 F2 g2 r2 => hq2 v H2 F2 (g1.trans g2) r2) fun _ h => h
theorem dx_one {op} {f : Exn → DSt → Res PyData} (h : DEx X i a cls d S e ta f) : DEx X i a cls d S (.BoolOp op [e] pos) ta f := ⟨pe_one h.pe, h.ok⟩
theorem dx_and {f g : Exn → DSt → Res PyData} (ha : DEx X i a cls d S e ta f) (hb : DEx X i a cls d T (.BoolOp .And (b :: rest) pos) tb g) : DEx X i a cls d (S ++ T) (.BoolOp .And (e :: b :: rest) pos) (tAndV ta tb) (fun y δ => do let x ← f y δ; andV x (g y δ)) := by
  refine ⟨pe_and ha.pe hb.pe, fun Fz σ H δ Q y cg hd hl hq => ?_⟩
  refine ha.ok Fz σ H δ _ y cg hd.left hl (wp_mono hq.bind (fun v hb' u H1 F1 g1 r1 => ?_) fun x hx => hx)
  obtain ⟨F2, d2, g2, r2, q2⟩ := hb' u H1 F1 g1 r1
  cases d2 with
  | bool k =>
    cases r2
    refine ⟨k, rfl, ?_⟩
    cases k with
    | true => exact hb.ok F2 σ H1 δ _ y (cg.grow g2.same) (hd.right.grow g2) (g2.live hl) q2
    | false => exact q2.at (.bl _)
  | _ => exact q2.elim
end
theorem hu64q {A : Around} {k : Nat} (hr : RmQ k A) : A.units + 64 < cLine := by have := hr.un; omega
theorem rmq_suite {X : Cx} {k : Nat} {a : Addr} {pn : List (Addr × Obj)} (hr : Room k X.A) : RmQ k (X.suite a pn).A := ⟨hr.dp, hr.un⟩
end DL

set_option Elab.async false
set_option linter.all false
set_option maxRecDepth 100000
set_option maxHeartbeats 4000000
namespace DL
open PySem PySem.Spec L2 L2.DX
open PyProof.Rows hiding St

/-! ### d.pop(k) of a key that is a tuple -/
def rPop1 : V → List V → Hp → VK → Prop := fun x xs H Q => ∃ (a : Addr) (kvs : List (List L2.Key × V)) (k : List L2.Key) (b : Addr) (v : V), x = .ref a ∧ xs = [.ref b] ∧ H a = some (.dT kvs) ∧ H b = some (.tup (k.map kV)) ∧ valV kvs k = some v ∧ Q v (upd H a (.dT (dropK kvs k)))
theorem mt_pop1 {X : Cx} (hu : X.A.units + 1 < cLine) : MtR X "dict.pop" rPop1 := by
  intro pins s σ H x xs vx us Q I rx rxs hyp
  obtain ⟨a, kvs, k, b, v, rfl, rfl, ha, hb, hv, q⟩ := hyp
  cases rx
  have hus : us = [Value.ref b] := by
    cases rxs with
    | cons r1 r2 =>
      cases r1
      cases r2
      rfl
  subst hus
  obtain ⟨small, other, es', pair, isT⟩ := dt_of I.hok ha
  have hsz : es'.length ≤ sizeLine := by rw [← Paired.length pair]; exact small
  obtain ⟨p, hp, rv⟩ : ∃ p, atKey es' k = some p ∧ RelV v p.2 := by
    have r := pair.val k
    rw [hv] at r
    cases hp : atKey es' k with
    | none => rw [hp] at r; exact (show False from r).elim
    | some p => rw [hp] at r; exact ⟨p, rfl, r⟩
  refine call_pop_heap (knd := tupleKind (mixKind X.prog X.w)) (k := k) (more := []) (.inl rfl) (PySem.F.args_dict_pop_2 _ _) (tupleKind_room_in1 hu) (key_of I.hok hb) other isT hp (fun h' isT2 same => ?_) hsz
  obtain ⟨o, es, ep, hq, h2, h3, h4, _, h5⟩ := isT2
  have J : L2.Inv X pins σ (upd H a (.dT (dropK kvs k))) { s with heap := h', toks := s.toks + (tupleKind (mixKind X.prog X.w)).draws k } := by
    refine d_write I (by rw [ha]; exact True.intro) same ⟨o, hq⟩ ⟨Nat.le_trans (dropK_le kvs k) small, other, _, (KT_drop k pair).keeps (fun c ys ec => ?_), o, es, ep, hq, h2, h3, h4, h5⟩
    rw [upd_ne (ne_of ec ha (fun z => nomatch z))]
    exact ec
  exact ⟨v, _, J, rv, q⟩
end DL

set_option Elab.async false
set_option linter.all false
set_option maxRecDepth 100000
set_option maxHeartbeats 4000000
namespace DL
open PySem PySem.Spec L2
open PyProof.Rows hiding St

/-! ### a def that changes its caller's dict -/
section
variable {X : Cx} {W : WS} {U : XK} {S T M : List Nat} {e : Expr} {pos : Pos}
theorem dmu_put {i : Nat} {x : Str} {key value : Expr} {xpos pos' : Pos} {tk tv : TE} {fk fv : DSt → Res PyData} (hu : X.A.units + 65 < cLine) (hN : X.N[i]? = some x) (hv : Vis X.env.scope x) (he : DE X W S value tv fv) (hk : DE X W T key tk fk) (hs : swapsWith value (some (.Subscript (.Name x xpos) key pos')) pos.line X.env = pure false := by rfl) (hd : (x == ("__debug__" : Str)) = false := by decide) (hcd : (x == ("__classdict__" : Str)) = false := by decide) :
    DMu X W M (.Assign [.Subscript (.Name x xpos) key pos'] value pos) (sDPut (tVar i) tk tv) (upM (putF i S fv fk)) := by
  refine ⟨ps_dput (by omega) (pe_var (i := i) hN hv hd hcd) hk.pe he.pe hs, fun pin hM H0 Fz0 Fz H σ δ Dn r hp h => ?_⟩
  unfold SKm upM putF at h
  rw [wp_bind] at h
  split at h
  · rename_i t0 ks0 vs0 e1
    obtain ⟨a, e2, _⟩ := r.own i _ e1 rfl
    rw [wp_bind] at h
    refine atE he r (wp_mono h (fun v hv v' H1 F1 g1 r1 => ?_) fun x hx => hx)
    have fin : ∀ (F : FZ) (δ' : DSt), Rel X.K H0 Fz0 F H1 σ δ' → Rep X.K F H1 v' v → (do
        let k ← fk δ'
        match δ'[i]? with
        | some (some (.ownd t ks vs)) => if keyOk t k && decide (ks.length < sizeLine) then (.ok (.nx (δ'.set i (some (.ownd t (putKs ks k) (putVs ks vs k v))))) : Res Out) else .bot
        | _ => .bot).wp (fun o => (match o with | .nx δ' => (.ok (.nx δ') : Res OutM) | _ => .bot).wp (OKm X.K H0 Fz0 pin Dn) (XOK X.mg (W σ) H0 Fz0)) (XOK X.mg (W σ) H0 Fz0) → (tVar i) σ H1 fun x H2 => tk σ H2 fun y H3 => ∃ a H4, x = .ref a ∧ DPut H3 a y v' H4 ∧ Dn.nx σ H4 := fun F δ' r' rv q => by
      refine ⟨.ref a, e2, ?_⟩
      rw [wp_bind] at q
      refine atE hk r' (wp_mono q (fun k hk' u H2 F2 g2 r2 => ?_) fun x hx => hx)
      split at hk'
      · rename_i t ks vs e3
        split at hk'
        · rename_i hok
          rw [Bool.and_eq_true, decide_eq_true_eq] at hok
          have r3 := r'.up g2.same
          have ru : Rep X.K F H2 u k := r2.flat (keyOk_flat hok.1)
          have rv2 : Rep X.K F H2 v' v := rv.stay (.of_same g2.same) fun _ h => h
          obtain ⟨a', k2, k4, k5, ob⟩ := r3.own i _ e3 rfl
          rw [e2] at k2
          cases k2
          cases t with
          | false =>
            obtain ⟨kvs, hh, rfl, rr⟩ := ob
            obtain ⟨k', rfl, rfl⟩ := key_f ru hok.1
            rw [List.length_map] at hok
            refine ⟨a, _, rfl, DPut.k hh hok.2, ?_⟩
            obtain ⟨p1, p2⟩ := put_val keq_ky k' rv2 rr
            exact hk' F _ σ (r3.write e3 rfl e2 fun H' st z => ⟨_, z, p1, p2.stay st fun _ h => h⟩) hp
          | true =>
            obtain ⟨kvs, hh, rfl, rr⟩ := ob
            obtain ⟨k', b, rfl, rfl, hb⟩ := key_t ru hok.1
            rw [List.length_map] at hok
            refine ⟨a, _, rfl, DPut.t hh hb hok.2, ?_⟩
            obtain ⟨p1, p2⟩ := put_val keq_kyT k' rv2 rr
            exact hk' F _ σ (r3.write e3 rfl e2 fun H' st z => ⟨_, z, p1, p2.stay st fun _ h => h⟩) hp
        · exact hk'.elim
      · exact hk'.elim
    by_cases hf : flat v = true
    · simp only [hf, if_true] at hv
      exact fin Fz δ (r.up g1.same) (r1.flat hf) hv
    · simp only [hf, if_false] at hv
      exact fin F1 _ (r.frz g1) r1 hv
  · exact h.elim
end
/-! ### d.pop(k) as a statement -/
def dropKs (ks : List PyData) (x : PyData) : List PyData := ks.filter fun z => !keq z x
def dropVs : List PyData → List PyData → PyData → List PyData
  | k :: ks, v :: vs, x => if keq k x = true then dropVs ks vs x else v :: dropVs ks vs x
  | _, _, _ => []
theorem drop_val {K : PySem.W.Frag} {Fz : FZ} {H : Hp} (k : List L2.Key) : ∀ {kvs : List (List L2.Key × V)} {vs : List PyData}, RepAll K Fz H (kvs.map (·.2)) vs →
    dropKs (kvs.map fun p => kyT p.1) (kyT k) = (dropK kvs k).map (fun p => kyT p.1) ∧ RepAll K Fz H ((dropK kvs k).map (·.2)) (dropVs (kvs.map fun p => kyT p.1) vs (kyT k))
  | [], _, .nil => ⟨rfl, .nil⟩
  | p :: kvs, _, .cons (d := d) (ds := ds) r rr => by
    obtain ⟨h1, h2⟩ := drop_val k rr
    have e := keq_kyT p.1 k
    by_cases hp : p.1 = k
    · rw [decide_eq_true hp] at e
      have z : dropK (p :: kvs) k = dropK kvs k := List.filter_cons_of_neg (by simp [hp])
      rw [z]
      constructor
      · show List.filter _ (kyT p.1 :: kvs.map fun p => kyT p.1) = _
        rw [List.filter_cons_of_neg (by rw [e]; decide)]
        exact h1
      · show RepAll K Fz H _ (if keq (kyT p.1) (kyT k) = true then dropVs (kvs.map fun p => kyT p.1) ds (kyT k) else d :: dropVs (kvs.map fun p => kyT p.1) ds (kyT k))
        rw [if_pos e]
        exact h2
    · rw [decide_eq_false hp] at e
      have z : dropK (p :: kvs) k = p :: dropK kvs k := List.filter_cons_of_pos (by simp [hp])
      rw [z]
      constructor
      · show List.filter _ (kyT p.1 :: kvs.map fun p => kyT p.1) = _
        rw [List.filter_cons_of_pos (by rw [e]; decide), List.map_cons]
        congr 1
      · show RepAll K Fz H _ (if keq (kyT p.1) (kyT k) = true then dropVs (kvs.map fun p => kyT p.1) ds (kyT k) else d :: dropVs (kvs.map fun p => kyT p.1) ds (kyT k))
        rw [if_neg (by rw [e]; decide)]
        exact .cons r h2
def popTF (i : Nat) (fk : DSt → Res PyData) (δ : DSt) : Res Out := match δ[i]? with
  | some (some (.ownd true _ _)) => fk δ >>= fun k => match δ[i]? with
    | some (some (.ownd true ks vs)) => if keyOk true k && hasK ks k then .ok (.nx (δ.set i (some (.ownd true (dropKs ks k) (dropVs ks vs k))))) else .bot
    | _ => .bot
  | _ => .bot
section
variable {X : Cx} {W : WS} {U : XK} {S T M : List Nat} {e : Expr} {te : TE} {pos : Pos}
theorem dmu_popT {i : Nat} {x : Str} {fk : DSt → Res PyData} {apos cpos xpos : Pos} (hu : X.A.units + 65 < cLine) (hN : X.N[i]? = some x) (hv : Vis X.env.scope x) (he : DE X W S e te fk)
    (hbase : attributeBase (.Name x xpos) "pop" X.env (eval (.Name x xpos) X.env) = eval (.Name x xpos) X.env := by rfl)
    (hfew : ((backTo cpos (starEach [e] X.env)).all (fun x => !x.1) && (backToKw cpos (keywordEach [] X.env)).all (fun x => x.1.isSome)
      && decide ([e].length + ([] : List Keyword).length + (if ([] : List Keyword).isEmpty then 0 else 1) < 30)) = true := by rfl)
    (hline : (apos.endLine == cpos.line) = true := by rfl) (hs : starEach [e] X.env = (false, eval e X.env) :: starEach [] X.env := by rfl) (hplain : (backTo cpos (starEach [] X.env)).any (·.1) = false := by rfl)
    (hsw : swapsWith (.Call (.Attribute (.Name x xpos) "pop" apos) [e] [] cpos) none pos.line X.env = pure false := by rfl) (hd : (x == ("__debug__" : Str)) = false := by decide) (hcd : (x == ("__classdict__" : Str)) = false := by decide) :
    DMu X W M (.Expr (.Call (.Attribute (.Name x xpos) "pop" apos) [e] [] cpos) pos) (tDrop (tBM X.K "dict" rPop1 (tVar i) (tCons te tNil))) (upM (popTF i fk)) := by
  refine ⟨ps_expr (pe_bm PySem.F.plainAttrs_dict PySem.F.slot_dict_pop PySem.F.type_dict_pop (mt_pop1 (by omega)) (pe_var (i := i) hN hv hd hcd) (pa_cons he.pe pa_nil hs) hbase hfew hline hs hplain) hsw, fun pin hM H0 Fz0 Fz H σ δ Dn r hp h => ?_⟩
  unfold SKm upM popTF at h
  rw [wp_bind] at h
  split at h
  · rename_i ks0 vs0 e1
    obtain ⟨a, e2, e4, e5, kvs, hh, rfl, rr⟩ := r.own i _ e1 rfl
    rw [wp_bind] at h
    refine ⟨.ref a, e2, .inr (.inr (.inl ⟨rfl, .inr ⟨_, hh⟩⟩)), ?_⟩
    refine atE he r (wp_mono h (fun k hk u H2 F2 g2 r2 => ?_) fun x hx => hx)
    have hk : (if keyOk true k && hasK (kvs.map fun p => kyT p.1) k then (.ok (.nx (δ.set i (some (.ownd true (dropKs (kvs.map fun p => kyT p.1) k) (dropVs (kvs.map fun p => kyT p.1) vs0 k))))) : Res Out) else .bot).wp _ _ := hk
    split at hk
    · rename_i hok
      rw [Bool.and_eq_true] at hok
      have r3 := r.up g2.same
      obtain ⟨k', b, rfl, rfl, hb⟩ := key_t r2 hok.1
      obtain ⟨a', k2, k4, k5, kvs', hh', ek, rr'⟩ := r3.own i _ e1 rfl
      rw [e2] at k2
      cases k2
      have hh2 : H2 a = some (.dT kvs) := g2.same a _ hh
      rw [hh2] at hh'
      cases hh'
      have hsome := has_val keq_kyT k' kvs
      rw [hok.2] at hsome
      obtain ⟨v, hval⟩ := Option.isSome_iff_exists.mp hsome.symm
      obtain ⟨p1, p2⟩ := drop_val k' rr'
      refine ⟨a, kvs, k', b, v, rfl, rfl, hh2, hb, hval, ?_⟩
      exact hk Fz _ σ (r3.write e1 rfl e2 fun H' st z => ⟨_, z, p1, p2.stay st fun _ h => h⟩) hp
    · exact hk.elim
  · exact h.elim
end
end DL

set_option Elab.async false
set_option linter.all false
set_option maxRecDepth 100000
set_option maxHeartbeats 4000000
namespace DL
open PySem PySem.Spec L2
open PyProof.Rows hiding St

/-! ### f(d, x): a def that changes the one thing d of its caller -/
def spT (K : PySem.W.Frag) (g : SV → PyData → Res SV) : Sp := fun vs H Q E =>
  ∃ (a : Addr) (v : V) (s : SV) (d : PyData) (Fz : FZ), vs = [.ref a, v] ∧ Live Fz H ∧ s.isOwn = true ∧ OwnOb K Fz H a s ∧ ¬ Fz a ∧ Rep K Fz H v d ∧ (g s d).wp (fun s' => s'.isOwn = true ∧ ∀ H' Fz', EndM Fz H [a] Fz' H' → OwnOb K Fz' H' a s' → ¬ Fz' a → Q .non H') (fun _ => False)
def startT (n : Nat) (s : SV) (d : PyData) : DSt := some s :: some (.val d) :: List.replicate (n - 2) none
def fnT (n : Nat) (b : DSt → Res OutM) (s : SV) (d : PyData) : Res SV := nE (b (startT n s d)) >>= fun o => match o with
  | .nx δ => (match δ[0]? with
    | some (some s') => if s'.isOwn = true then .ok s' else .bot
    | _ => .bot)
  | .rt _ _ => .bot
structure FDt (P : Program) (w : World) (K : PySem.W.Frag) (mg : Str → Option Value) (base : Heap) (k : Nat) (x : Str) (g : SV → PyData → Res SV) : Prop where
  ex : ∃ (f : Addr) (fd : FuncData) (ps : List Str), FnOk P w K mg base CX0 k f fd ps (spT K g) ∧ mg x = some (.ref f) ∧ PySem.W.keepIn K (.ref f) = true ∧ Binds K fd ps []
theorem startT_get {n : Nat} {s : SV} {d : PyData} {i : Nat} {u : SV} (h : (startT n s d)[i]? = some (some u)) : (i = 0 ∧ u = s) ∨ (i = 1 ∧ u = .val d) := by
  match i, h with
  | 0, h => exact .inl ⟨rfl, (Option.some.inj (Option.some.inj h)).symm⟩
  | 1, h => exact .inr ⟨rfl, (Option.some.inj (Option.some.inj h)).symm⟩
  | i + 2, h =>
    have h : (List.replicate (n - 2) none)[i]? = some (some u) := h
    obtain ⟨_, h⟩ := List.getElem?_eq_some_iff.mp h
    rw [List.getElem_replicate] at h
    cases h
theorem entryT {K : PySem.W.Frag} {Fz : FZ} {H : Hp} {a : Addr} {v : V} {s : SV} {d : PyData} (N : List Str) (hN : 2 ≤ N.length) (live : Live Fz H) (hs : s.isOwn = true) (ob : OwnOb K Fz H a s) (nf : ¬ Fz a) (rv : Rep K Fz H v d) : Rel K (outsideH [a] H) Fz Fz H (L2.start N [.ref a, v]) (startT N.length s d) := by
  have g0 : (L2.start N [.ref a, v])[0]? = some (some (.ref a)) := rfl
  have g1 : (L2.start N [.ref a, v])[1]? = some (some v) := rfl
  refine ⟨fun b o e => ?_, fun _ h => h, fun _ h => .inl h, live, ?_, fun i d' e => ?_, fun i u e ho => ?_, fun i j u u' b hij e1 o1 e2 o2 h1 h2 => ?_⟩
  · by_cases hb : b ∈ [a]
    · rw [outside_in hb] at e; cases e
    · rwa [outside_out hb] at e
  · unfold L2.start startT
    simp only [List.length_append, List.length_map, List.length_cons, List.length_nil, List.length_replicate]
    omega
  · rcases startT_get e with ⟨_, h⟩ | ⟨rfl, h⟩
    · rw [← h] at hs; cases hs
    · cases h
      exact ⟨v, g1, rv⟩
  · rcases startT_get e with ⟨rfl, h⟩ | ⟨_, h⟩
    · subst h
      exact ⟨a, g0, outside_in (by simp), nf, ob⟩
    · rw [h] at ho; cases ho
  · rcases startT_get e1 with ⟨rfl, p1⟩ | ⟨_, p1⟩
    · rcases startT_get e2 with ⟨rfl, p2⟩ | ⟨_, p2⟩
      · exact hij rfl
      · rw [p2] at o2; cases o2
    · rw [p1] at o1; cases o1
theorem fdt_of {P : Program} {w : World} {K : PySem.W.Frag} {mg : Str → Option Value} {base : Heap} {x : Str} {st : Stmt} {f : Addr} {fd : FuncData} {N ps : List Str} {k : Nat} (F : Fun K x x st f fd) (hm : mg x = some (.ref f)) (b : Binds K fd ps []) (S : FnScope N ps (defScope st)) (hps : ps.length = 2) (hN : 2 ≤ N.length) {g : DSt → Res OutM}
    (hbody : ∀ (cdv : Value) (A : Around) (outer : List Env) (s : Shared) (H : Hp) (E : XK), Room k (A.deeper (envOfC x (defScope st) s.heap.objs.size f cdv)) →
      ∃ t, DMus (cxOf CX0 P w K mg base N x (defScope st) f cdv A outer s H E).nox (fun _ => E0) [0] (defBody st) t g) : FDt P w K mg base (k + 1) x (fnT N.length g) := by
  refine ⟨f, fd, ps, ?_, hm, F.kp, b⟩
  refine F.ok S (fun vs H Q E h => ?_) (fun cdv A outer s H vs Q E hr h => ?_)
  · obtain ⟨a, v, s, d, Fz, e, _⟩ := h
    rw [e, hps]; rfl
  obtain ⟨t, ht⟩ := hbody cdv A outer s H E hr
  refine ⟨t, ht.pe, ?_⟩
  obtain ⟨a, v, s0, d, Fz, rfl, live, hs, ob, nf, rv, q⟩ := h
  have re := entryT N hN live hs ob nf rv
  refine ht.ok [(0, a)] rfl _ Fz Fz H (start N [.ref a, v]) (startT N.length s0 d) _ re (fun p hp => ?_) ?_
  · rw [List.mem_singleton.mp hp]; rfl
  unfold fnT at q
  unfold SKm
  rw [wp_bind] at q
  refine wp_mono (nE_wpA q) (fun o q => ?_) (fun _ h => h)
  · cases o with
    | rt d' δ' => exact q.elim
    | nx δ' =>
      have q : ((match δ'[0]? with
        | some (some s') => if s'.isOwn = true then .ok s' else .bot
        | _ => .bot : Res SV)).wp _ _ := q
      intro F' H' σ' r hp
      split at q
      · rename_i s' e1
        by_cases ho : s'.isOwn = true
        · rw [if_pos ho] at q
          obtain ⟨a', h1, h2, h3, h4⟩ := r.own 0 _ e1 ho
          have h5 : σ'[0]? = some (some (.ref a)) := hp (0, a) List.mem_cons_self
          rw [h1] at h5
          cases h5
          refine q.2 H' F' ⟨fun b o e hb => r.same b o (by rw [outside_out hb]; exact e), r.sub0, fun b z => ?_, r.live⟩ h4 h3
          rcases r.new0 b z with z1 | z1
          · exact .inl z1
          · by_cases hb : b ∈ [a]
            · rw [List.mem_singleton.mp hb] at z
              exact absurd z h3
            · rw [outside_out hb] at z1
              exact .inr z1
        · rw [if_neg ho] at q
          exact q.elim
      · exact q.elim
/-- the state behind the call -/
theorem rel_callT {K : PySem.W.Frag} {H0 H H2 : Hp} {Fz0 Fz F2 : FZ} {σ : L2.St} {δ : DSt} {i : Nat} {a : Addr} {s s' : SV} (r : Rel K H0 Fz0 Fz H σ δ) (e1 : δ[i]? = some (some s)) (ho : s.isOwn = true) (ea : σ[i]? = some (some (.ref a))) (e : EndM Fz H [a] F2 H2) (ho' : s'.isOwn = true) (ob : OwnOb K F2 H2 a s') (nf : ¬ F2 a) : Rel K H0 Fz0 F2 H2 σ (δ.set i (some s')) := by
  obtain ⟨a0, q1, q2, q3, q4⟩ := r.own i s e1 ho
  rw [ea] at q1
  cases q1
  obtain ⟨oa, ma, mt, mf⟩ := q4.mut
  have st : Stay Fz H H2 := fun b o hb hk => e.keep b o hb fun hm => by
    rw [List.mem_singleton.mp hm] at hb hk
    rw [ma] at hb
    cases hb
    rcases hk with hk | ⟨xs, hk⟩ | ⟨u, v, hk⟩
    · exact q3 hk
    · exact mt xs hk
    · exact mf u v hk
  have get : ∀ {j : Nat} {u : SV}, (δ.set i (some s'))[j]? = some (some u) → (j = i ∧ u = s') ∨ (j ≠ i ∧ δ[j]? = some (some u)) := fun {j u} h => by
    rcases set_get h with ⟨rfl, _, h⟩ | ⟨hij, h⟩
    · exact .inl ⟨rfl, by first | exact h | exact h.symm | (cases h; rfl)⟩
    · exact .inr ⟨fun z => hij z.symm, h⟩
  have was : ∀ {j : Nat} {u : SV}, (δ.set i (some s'))[j]? = some (some u) → u.isOwn = true → ∃ u' : SV, δ[j]? = some (some u') ∧ u'.isOwn = true := fun {j u} h hu => by
    rcases get h with ⟨rfl, _⟩ | ⟨_, z⟩
    · exact ⟨s, e1, ho⟩
    · exact ⟨u, z, hu⟩
  refine ⟨fun b o hb => e.keep b o (r.same b o hb) fun hm => ?_, fun b h => e.sub b (r.sub0 b h), fun b h => ?_, e.live, by rw [List.length_set]; exact r.len, fun j d h => ?_, fun j u h hu => ?_, fun j k u w b hjk h1 o1 h2 o2 h3 h4 => ?_⟩
  · rw [List.mem_singleton.mp hm, q2] at hb
    cases hb
  · rcases e.new b h with z | z
    · exact r.new0 b z
    · exact .inr (none_of_same r.same z)
  · rcases get h with ⟨_, z⟩ | ⟨_, z⟩
    · rw [← z] at ho'; cases ho'
    · obtain ⟨v, h1, h2⟩ := r.val j d z
      exact ⟨v, h1, h2.stay st e.sub⟩
  · rcases get h with ⟨rfl, rfl⟩ | ⟨hj, z⟩
    · exact ⟨a, ea, q2, nf, ob⟩
    · obtain ⟨b, w1, w2, w3, w4⟩ := r.own j _ z hu
      have hna : b ∉ [a] := fun hm => by
        rw [List.mem_singleton.mp hm] at w1
        exact r.sep j i _ _ a hj z hu e1 ho w1 ea
      obtain ⟨o, h5, _⟩ := w4.mut
      refine ⟨b, w1, w2, fun y => ?_, w4.keep st e.sub ((e.keep b o h5 hna).trans h5.symm)⟩
      rcases e.new b y with y | y
      · exact w3 y
      · rw [h5] at y; cases y
  · obtain ⟨u', z1, z2⟩ := was h1 o1
    obtain ⟨w', z3, z4⟩ := was h2 o2
    exact r.sep j k _ _ b hjk z1 z2 z3 z4 h3 h4
def callT (i : Nat) (g : SV → PyData → Res SV) (fe : DSt → Res PyData) (δ : DSt) : Res Out := match δ[i]? with
  | some (some s) => if s.isOwn = true then (fe δ >>= fun d => if flat d = true then (nE (g s d) >>= fun s' => if s'.isOwn = true then .ok (.nx (δ.set i (some s'))) else .bot) else .bot) else .bot
  | _ => .bot
section
variable {X : Cx} {W : WS} {U : XK} {S T M : List Nat} {e : Expr} {te : TE} {pos p : Pos}
theorem ds_callT (K) (mg) {k j i : Nat} {f x : Str} {px cpos : Pos} {g : SV → PyData → Res SV} {fe : DSt → Res PyData} (c : FDt X.prog X.w K mg X.base k f g) (hr : Room j X.A) (hk : k ≤ j) (hg : Gl X f) (hN : X.N[i]? = some x) (hv : Vis X.env.scope x) (he : DE X W S e te fe) (hK : X.K = K := by rfl) (hM : X.mg = mg := by rfl)
    (hd : (x == ("__debug__" : Str)) = false := by decide) (hcd : (x == ("__classdict__" : Str)) = false := by decide) (hdb : (f == ("__debug__" : Str)) = false := by decide) (hs1 : starEach [.Name x px, e] X.env = (false, eval (.Name x px) X.env) :: starEach [e] X.env := by rfl) (hs2 : starEach [e] X.env = (false, eval e X.env) :: starEach [] X.env := by rfl)
    (hpl : (backTo cpos (starEach [e] X.env)).any (·.1) = false := by rfl) (hsw : swapsWith (.Call (.Name f p) [.Name x px, e] [] cpos) none pos.line X.env = pure false := by rfl) :
    DS X W (.Expr (.Call (.Name f p) [.Name x px, e] [] cpos) pos) (tDrop (tCall (spT K g) [] L2.E0 (tCons (tVar i) (tCons te tNil)))) (callT i g fe) := by
  subst hK hM
  obtain ⟨fa, fd, ps, F, hm, kp, hb⟩ := c.ex
  refine ⟨ps_expr (pe_call F (hr.mono hk) hg hm kp hb .nil pass0 (pa_cons (pe_var (i := i) hN hv hd hcd) (pa_cons he.pe pa_nil hs2) hs1) hdb hs1 hpl) hsw, fun H0 Fz0 Fz H σ δ Dn r h => ?_⟩
  unfold SOK callT at h
  split at h
  · rename_i s e1
    by_cases ho : s.isOwn = true
    · rw [if_pos ho, wp_bind] at h
      obtain ⟨a, ea, q2, q3, q4⟩ := r.own i s e1 ho
      refine ⟨.ref a, ea, ?_⟩
      refine atE he r (wp_mono h (fun d hd v H1 F1 g1 r1 => ?_) fun x hx => hx)
      by_cases hf : flat d = true
      · rw [if_pos hf, wp_bind] at hd
        have r2 := r.up g1.same
        obtain ⟨a', ea', _, q3', q4'⟩ := r2.own i s e1 ho
        rw [ea] at ea'
        cases ea'
        refine ⟨a, v, s, d, Fz, rfl, r2.live, ho, q4', q3', r1.flat hf, wp_mono (nE_wpA hd) (fun s' hq => ?_) fun _ h => h⟩
        by_cases ho' : s'.isOwn = true
        · rw [if_pos ho'] at hq
          exact ⟨ho', fun H' Fz' em ob nf => hq Fz' H' σ (rel_callT r2 e1 ho ea em ho' ob nf)⟩
        · rw [if_neg ho'] at hq
          exact hq.elim
      · rw [if_neg hf] at hd
        exact hd.elim
    · rw [if_neg ho] at h
      exact h.elim
  · exact h.elim
end
end DL

set_option Elab.async false
set_option linter.all false
set_option maxRecDepth 100000
set_option maxHeartbeats 4000000
namespace DL
open PySem PySem.Spec L2
open PyProof.Rows hiding St

/-! ### the draws: a list of five whose state is nobody's business -/
/-- the one list by its place, read as a list -/
def unF (f : DSt → Res PyData) (δ : DSt) : Res PyData := f δ >>= fun d => match d with
  | .dict [(.int _, .list ds)] => .ok (.list ds)
  | d => .ok d
section
variable {X : Cx} {W : WS} {U : XK} {S T M : List Nat} {e a b c tg : Expr} {es tgs : List Expr} {pos p : Pos} {te ta tb : TE} {tt : TT} {t : TA} {ts ts' : TS} {st : Stmt} {rest : List Stmt}
theorem de_unn {f : DSt → Res PyData} (h : DE X W S e te f) : DE X W S e te (unF f) := by
  refine ⟨h.pe, fun Fz σ H δ Q hd hl hq => ?_⟩
  unfold EOK unF at hq
  rw [wp_bind] at hq
  refine h.ok Fz σ H δ Q hd hl (wp_mono hq (fun d hx v H1 F1 g1 r1 => ?_) fun x hx => hx)
  split at hx
  · cases r1 with
    | nl l z r => exact hx _ H1 F1 g1 (.lst l z r)
  · exact hx v H1 F1 g1 r1
/-- xs[i] = e in a def that changes its caller's list -/
theorem dmu_lset {i : Nat} {x : Str} {key value : Expr} {xpos pos' : Pos} {tk tv : TE} {fk fv : DSt → Res PyData} (hN : X.N[i]? = some x) (hv : Vis X.env.scope x) (he : DE X W S value tv fv) (hk : DE X W T key tk fk)
    (hs : swapsWithSole [.Subscript (.Name x xpos) key pos'] value pos.line X.env = pure false := by rfl) (hw : swappedStores [.Subscript (.Name x xpos) key pos'] value X.env = pure none := by rfl) (h1 : (assignEach [.Subscript (.Name x xpos) key pos'] X.env).map (·.2) = [assign (.Subscript (.Name x xpos) key pos') X.env] := by rfl)
    (ha : ∀ v, assign (.Subscript (.Name x xpos) key pos') X.env v = (do
      let ov ← holding [v] (eval (.Name x xpos) X.env)
      let iv ← holding [v, ov] (eval key X.env)
      standAt pos'
      holding [v, ov, iv] (setItem ov iv v)
      release [v, ov, iv] []) := by intro _; rfl) (hd : (x == ("__debug__" : Str)) = false := by decide) (hcd : (x == ("__classdict__" : Str)) = false := by decide) :
    DMu X W M (.Assign [.Subscript (.Name x xpos) key pos'] value pos) (tAsg tv (gSub (tVar i) tk rSetL)) (upM (lsetF i S fv fk)) := by
  refine ⟨ps_asg he.pe (pg_sub (pe_var (i := i) hN hv hd hcd) hk.pe set_list ha) hs hw h1, fun pin hM H0 Fz0 Fz H σ δ Dn r hp h => ?_⟩
  unfold SKm upM lsetF at h
  rw [wp_bind] at h
  split at h
  · rename_i xs0 e1
    obtain ⟨a, e2, _⟩ := r.own i _ e1 rfl
    rw [wp_bind] at h
    refine atE he r (wp_mono h (fun v hv v' H1 F1 g1 r1 => ?_) fun x hx => hx)
    have fin : ∀ (F : FZ) (δ' : DSt), Rel X.K H0 Fz0 F H1 σ δ' → Rep X.K F H1 v' v → (do
        let k ← fk δ'
        match k, δ'[i]? with
        | .int j, some (some (.own xs)) => (match ixN xs.length j with | some j => (.ok (.nx (δ'.set i (some (.own (xs.set j v))))) : Res Out) | none => .bot)
        | _, _ => .bot).wp (fun o => (match o with | .nx δ' => (.ok (.nx δ') : Res OutM) | _ => .bot).wp (OKm X.K H0 Fz0 pin Dn) (XOK X.mg (W σ) H0 Fz0)) (XOK X.mg (W σ) H0 Fz0) → (gSub (tVar i) tk rSetL) v' σ H1 Dn.nx := fun F δ' r' rv q => by
      refine ⟨.ref a, e2, ?_⟩
      rw [wp_bind] at q
      refine atE hk r' (wp_mono q (fun k hk' u H2 F2 g2 r2 => ?_) fun x hx => hx)
      split at hk'
      · rename_i j xs e3
        split at hk'
        · rename_i jj hj
          have r3 := r'.up g2.same
          have rv2 : Rep X.K F H2 v' v := rv.stay (.of_same g2.same) fun _ h => h
          obtain ⟨a', k2, k4, k5, vs, hh, hz, rr⟩ := r3.own i _ e3 rfl
          rw [e2] at k2
          cases k2
          cases r2
          refine ⟨a, vs, j, jj, rfl, rfl, hh, by rw [rr.length]; exact hj, ?_⟩
          exact hk' F _ σ (r3.write e3 rfl e2 fun H' st z => ⟨_, z, by rw [List.length_set]; exact hz, (RepAll.set rv2 jj rr).stay st fun _ h => h⟩) hp
        · exact hk'.elim
      · exact hk'.elim
    by_cases hf : flat v = true
    · simp only [hf, if_true] at hv
      exact fin Fz δ (r.up g1.same) (r1.flat hf) hv
    · simp only [hf, if_false] at hv
      exact fin F1 _ (r.frz g1) r1 hv
  · exact h.elim
/-- return [..]: a new list -/
def retL (f : DSt → Res (List PyData)) (δ : DSt) : Res OutF := f δ >>= fun xs => .ok (.rl xs)
theorem dfu_retL {f : DSt → Res (List PyData)} (he : DF X W S e te f) : DFu X W [.Return (some e) pos] (tRet te) (retL f) := by
  refine ⟨pss_one (ps_ret he.pe), fun H0 Fz0 Fz H σ δ Dn r h => ?_⟩
  unfold SKf retL at h
  rw [wp_bind] at h
  exact he.ok _ σ H δ _ r.rd r.ownLive (wp_mono h (fun xs hx p us H1 F1 g1 np nf hp hz rr => hx F1 H1 p us (r.grow0 g1) (none_of_same r.same np) nf hp hz rr) fun x hx c oe H1 F1 g q => hx c oe H1 F1 (r.grow0 g) q)
end
/-! ### drawing -/
def drawG : List PyData → Res PyData
  | [.dict [], .int m] => if 0 < m ∧ m < 1073741824 then .pick m (fun i => .ok (.int i)) else .bot
  | _ => .bot
def poolG : List PyData → Res PyData
  | [.list ds] => if allI ds = true ∧ ds.length ≤ 1000 then .ok (.dict []) else .bot
  | _ => .bot
def PoolL (b : Addr) (ds : List PyData) (i1 i2 i3 i4 : Int) : List PyData := [.dict [(.int b, .list ds)], .int i1, .int i2, .int i3, .int i4]
def DrawOk (g : List PyData → Res (PyData × List (List PyData))) : Prop := ∀ (b : Addr) (ds : List PyData) (i1 i2 i3 i4 m : Int), allI ds = true → 0 ≤ i1 → 0 < m → m < 1073741824 →
  ∃ r j1 j2 j3 j4 : Int, 0 ≤ r ∧ r < m ∧ 0 ≤ j1 ∧ g [.list (PoolL b ds i1 i2 i3 i4), .int m] = .ok (.int r, [PoolL b ds j1 j2 j3 j4])
def PoolOk (g : List PyData → Res FR) : Prop := ∀ ds : List PyData, allI ds = true → ds.length ≤ 1000 → ∃ s : Int, g [.list ds] = .ok (.l [.list ds, .int 0, .int 0, .int 0, .int s])
theorem pool_stable {b a : Addr} {h1 h2 : Heap} (h : PoolAt b a h1) (k : ∀ o, h1.get? a = some o → h2.get? a = some o) : PoolAt b a h2 := by
  obtain ⟨i1, i2, i3, i4, t1, t2, t3, t4, n, e, h0⟩ := h
  exact ⟨i1, i2, i3, i4, t1, t2, t3, t4, n, k _ e, h0⟩
theorem ext_of_lst {P : Program} {w : World} {H : Hp} {h : Heap} {a b : Addr} {j1 j2 j3 j4 : Int} (x : ObjOk P w H h a (.lst [.ref b, .int j1, .int j2, .int j3, .int j4])) (h0 : 0 ≤ j1) (H' : Hp) : ObjOk P w H' h a (.ext (PoolAt b a)) := by
  obtain ⟨_, its, n, v, e⟩ := x
  cases v with
  | cons r0 v => cases v with
    | cons r1 v => cases v with
      | cons r2 v => cases v with
        | cons r3 v => cases v with
          | cons r4 v =>
            cases v
            have r0 : _ = Value.ref b := r0
            obtain ⟨t1, r1⟩ := r1
            obtain ⟨t2, r2⟩ := r2
            obtain ⟨t3, r3⟩ := r3
            obtain ⟨t4, r4⟩ := r4
            subst r0 r1 r2 r3 r4
            exact ⟨⟨j1, j2, j3, j4, t1, t2, t3, t4, n, e, h0⟩, ⟨_, e⟩, fun _ _ => pool_stable⟩
theorem lst_of_ext {P : Program} {w : World} {H : Hp} {h : Heap} {a b : Addr} (x : ObjOk P w H h a (.ext (PoolAt b a))) (H' : Hp) : ∃ i1 i2 i3 i4 : Int, 0 ≤ i1 ∧ ObjOk P w H' h a (.lst [.ref b, .int i1, .int i2, .int i3, .int i4]) := by
  obtain ⟨⟨i1, i2, i3, i4, t1, t2, t3, t4, n, e, h0⟩, _, _⟩ := x
  refine ⟨i1, i2, i3, i4, h0, ?_, [.ref b, .int i1 t1, .int i2 t2, .int i3 t3, .int i4 t4], n, ?_, e⟩
  · have : (5 : Nat) ≤ sizeLine := by rw [sizeLine_eq]; decide
    exact this
  · exact .cons rfl (.cons ⟨t1, rfl⟩ (.cons ⟨t2, rfl⟩ (.cons ⟨t3, rfl⟩ (.cons ⟨t4, rfl⟩ .nil))))
theorem reabs {P : Program} {w : World} {H : Hp} {h : Heap} {a : Addr} {o : HO} (ok : HOk P w H h) (mu : Mut (H a)) (ho : ∃ u, h.get? a = some u) (new : ObjOk P w (upd H a o) h a o) : HOk P w (upd H a o) h ∧ ∀ fs, Un fs [] H (upd H a o) h h :=
  ⟨ok.write mu (.inl rfl) (fun _ _ _ h => h) ho new, fun fs => Un.write mu (.inl rfl) (fun _ _ _ h => h) ho⟩
theorem get_of_lst {P : Program} {w : World} {H : Hp} {h : Heap} {a : Addr} {xs : List V} (x : ObjOk P w H h a (.lst xs)) : ∃ u, h.get? a = some u := by
  obtain ⟨_, _, _, _, e⟩ := x
  exact ⟨_, e⟩
theorem lsF_upd {K : PySem.W.Frag} {Fz Fz' : FZ} {H : Hp} {a b : Addr} {o u : HO} {xs : List V} (h : LsF K Fz H b xs) (ha : H a = some u) (hu : (∀ ys, u ≠ .lst ys) ∨ ¬ Fz a) (hf : ∀ ob v, u ≠ .frz ob v) (hs : ∀ x, x ≠ a → Fz x → Fz' x) : LsF K Fz' (upd H a o) b xs := by
  rcases h with ⟨h, z⟩ | ⟨ob, h⟩ | h
  · have ne : b ≠ a := fun e => by
      subst e
      rcases hu with hu | hu
      · rw [ha] at h; exact hu _ (Option.some.inj h)
      · exact hu z
    exact .inl ⟨by rw [upd_ne ne]; exact h, hs b ne z⟩
  · have ne : b ≠ a := fun e => by
      subst e
      rw [ha] at h
      exact hf _ _ (Option.some.inj h)
    exact .inr (.inl ⟨ob, by rw [upd_ne ne]; exact h⟩)
  · exact .inr (.inr h)
theorem rep_intsA {K : PySem.W.Frag} {Fz Fz' : FZ} {H H' : Hp} : ∀ {ds : List PyData} {xs : List V}, allI ds = true → RepAll K Fz H xs ds → RepAll K Fz' H' xs ds
  | [], _, _, h => by cases h; exact .nil
  | .int i :: ds, _, ha, h => by
    cases h with
    | cons r rr =>
      cases r
      exact .cons (.int i) (rep_intsA ha rr)
  | .none :: _, _, ha, _ => by cases ha
  | .bool _ :: _, _, ha, _ => by cases ha
  | .str _ :: _, _, ha, _ => by cases ha
  | .list _ :: _, _, ha, _ => by cases ha
  | .tuple _ :: _, _, ha, _ => by cases ha
  | .dict _ :: _, _, ha, _ => by cases ha
theorem rep_five {K : PySem.W.Frag} {Fz : FZ} {H : Hp} {us : List V} {d : PyData} {j1 j2 j3 j4 : Int} (h : RepAll K Fz H us [d, .int j1, .int j2, .int j3, .int j4]) : ∃ v, us = [v, .int j1, .int j2, .int j3, .int j4] ∧ Rep K Fz H v d := by
  cases h with
  | cons r0 h => cases h with
    | cons r1 h => cases h with
      | cons r2 h => cases h with
        | cons r3 h => cases h with
          | cons r4 h =>
            cases h
            cases r1
            cases r2
            cases r3
            cases r4
            exact ⟨_, rfl, r0⟩
section
variable {P : Program} {w : World} {K : PySem.W.Frag} {mg : Str → Option Value} {base : Heap} {k : Nat} {x : Str}
theorem draw_of {g : List PyData → Res (PyData × List (List PyData))} (h : FDm P w K mg base k [true, false] x g) (hg : DrawOk g) : FD P w K mg base k 2 x drawG := by
  obtain ⟨f, fd, ps, F, hm, kp, hb⟩ := h.ex
  have hps : ps.length = 2 := by
    have five : (5 : Nat) ≤ sizeLine := by rw [sizeLine_eq]; decide
    obtain ⟨r, j1, j2, j3, j4, _, _, _, e⟩ := hg 1 [] 0 0 0 0 1 rfl (by decide) (by decide) (by decide)
    have := F.len [.ref 0, .int 1] (fun a => if a = 0 then some (.lst [.ref 1, .int 0, .int 0, .int 0, .int 0]) else if a = 1 then some (.lst []) else none) (fun _ _ => True) L2.E0 ⟨[.list (PoolL 1 [] 0 0 0 0), .int 1], fun a => a = 1, fun a z => by subst z; simp, ?_, ?_, ?_⟩
    · exact this.symm
    · exact .own (us := [.ref 1, .int 0, .int 0, .int 0, .int 0]) rfl (by decide) five (.cons (.nl (.inl ⟨rfl, rfl⟩) (Nat.zero_le _) .nil) (.cons (.int 0) (.cons (.int 0) (.cons (.int 0) (.cons (.int 0) .nil))))) (.val (.int 1) .nil)
    · simp [pinsM]
    · rw [e]
      exact fun _ _ _ _ _ _ => True.intro
  refine ⟨f, fd, ps, ⟨fun vs H Q E h => ?_, fun A outer s H args us vs Q E hr e0 hbt hv hs => ?_⟩, hm, kp, hb⟩
  · obtain ⟨ds, Fz, h1, _, h2, _⟩ := h
    rw [h2.length, h1, hps]
  obtain ⟨ds, Fz, hl, live, ra, q⟩ := hs
  unfold EOK drawG at q
  split at q
  · rename_i m
    split at q
    · rename_i hm0
      cases ra with
      | cons r0 ra => cases ra with
        | cons r1 ra =>
          cases ra
          cases r1
          cases r0 with
          | @pool a b xs dz hld ls hz hal rr =>
            obtain ⟨i1, i2, i3, i4, hi1, ob⟩ := lst_of_ext (e0.hok a _ hld.1) (upd H a (.lst []))
            obtain ⟨i1, i2, i3, i4, hi1, ob⟩ := lst_of_ext (e0.hok a _ hld.1) H
            have ob1 : ObjOk P w (upd H a (.lst [.ref b, .int i1, .int i2, .int i3, .int i4])) s.heap a (.lst [.ref b, .int i1, .int i2, .int i3, .int i4]) := ob
            have mu : Mut (H a) := by rw [hld.1]; exact True.intro
            obtain ⟨ok1, un1⟩ := reabs e0.hok mu (get_of_lst ob) ob1
            have nb : ∀ y, H y = none → y ≠ a := fun y e z => by subst z; rw [hld.1] at e; cases e
            have env1 : Env0 P w K mg base A outer s (upd H a (.lst [.ref b, .int i1, .int i2, .int i3, .int i4])) :=
              ⟨e0.frames, e0.mod, fun y o e => ⟨(e0.bs y o e).1, by rw [upd_ne (nb y (e0.bs y o e).2)]; exact (e0.bs y o e).2⟩, e0.bsz, e0.funs, fun y hy => by rw [upd_ne (nb y (e0.frf y hy))]; exact e0.frf y hy, ok1, e0.bare⟩
            obtain ⟨r, j1, j2, j3, j4, hr0, hr1, hj1, eg⟩ := hg b dz i1 i2 i3 i4 m hal hi1 hm0.1 hm0.2
            have five : (5 : Nat) ≤ sizeLine := by rw [sizeLine_eq]; decide
            have lsn : LsF K (fun y => Fz y ∧ y ≠ a) (upd H a (.lst [.ref b, .int i1, .int i2, .int i3, .int i4])) b xs := lsF_upd ls hld.1 (.inl fun _ z => by cases z) (fun _ _ z => by cases z) fun y ne z => ⟨z, ne⟩
            have sp1 : spM K [true, false] g [.ref a, .int m] (upd H a (.lst [.ref b, .int i1, .int i2, .int i3, .int i4])) (fun v H2 => ∃ F2, v = .int r ∧ EndM (fun y => Fz y ∧ y ≠ a) (upd H a (.lst [.ref b, .int i1, .int i2, .int i3, .int i4])) [a] F2 H2 ∧ H2 a = some (.lst [.ref b, .int j1, .int j2, .int j3, .int j4])) E := by
              refine ⟨[.list (PoolL b dz i1 i2 i3 i4), .int m], fun y => Fz y ∧ y ≠ a, fun y hy e => ?_, ?_, ?_, ?_⟩
              · rw [upd_ne hy.2] at e
                exact live y hy.1 e
              · exact .own upd_same (fun z => z.2 rfl) five (.cons (.nl lsn hz (rep_intsA hal rr)) (.cons (.int _) (.cons (.int _) (.cons (.int _) (.cons (.int _) .nil))))) (.val (.int m) .nil)
              · simp [pinsM]
              · rw [eg]
                intro v H2 F2 ee rv ow
                cases rv
                refine ⟨F2, rfl, ee, ?_⟩
                cases ow with
                | cons h1 h2 h3 h4 _ =>
                  obtain ⟨v0, rfl, r0⟩ := rep_five h4
                  cases r0
                  exact h1
            refine codeAny_mono (F.run A outer s _ args us _ _ E hr env1 hbt hv sp1) fun z s' hz => ?_
            cases z with
            | error y => exact hz.elim
            | ok fl =>
              cases fl with
              | ret u =>
                obtain ⟨v, H2, os, bare, un, hok2, rv, F2, rfl, ee, h2a⟩ := hz
                have ob2 := hok2 a _ h2a
                have mu2 : Mut (H2 a) := by rw [h2a]; exact True.intro
                obtain ⟨ok3, un3⟩ := reabs hok2 mu2 (get_of_lst ob2) (ext_of_lst ob2 hj1 (upd H2 a (.ext (PoolAt b a))))
                refine ⟨.int r, upd H2 a (.ext (PoolAt b a)), os, bare, ((un1 _).trans un).trans (un3 _), ok3, rv, ?_⟩
                have q1 := q.2 r hr0 hr1
                refine q1 (.int r) _ (fun y => F2 y ∨ y = a) ⟨fun y o e => ?_, fun y z => ?_, fun y z => ?_, fun _ y z e => ?_⟩ (.int r)
                · by_cases hy : y = a
                  · subst hy
                    rw [hld.1] at e
                    cases e
                    exact upd_same
                  · rw [upd_ne hy]
                    exact ee.keep y o (by rw [upd_ne hy]; exact e) (by simp [hy])
                · by_cases hy : y = a
                  · exact .inr hy
                  · exact .inl (ee.sub y ⟨z, hy⟩)
                · rcases z with z | z
                  · rcases ee.new y z with z1 | z1
                    · exact .inl z1.1
                    · by_cases hy : y = a
                      · exact .inl (hy ▸ hld.2)
                      · rw [upd_ne hy] at z1; exact .inr z1
                  · exact .inl (z ▸ hld.2)
                · by_cases hy : y = a
                  · subst hy; rw [upd_same] at e; cases e
                  · rw [upd_ne hy] at e
                    exact ee.live y (z.resolve_right hy) e
              | next => exact hz.elim
              | brk => exact hz.elim
              | cont => exact hz.elim
    · exact q.elim
  · exact q.elim
theorem pool_of {g : List PyData → Res FR} (h : FDf P w K mg base k 1 x g) (hg : PoolOk g) : FD P w K mg base k 1 x poolG := by
  obtain ⟨f, fd, ps, F, hm, kp, hb⟩ := h.ex
  have conv : ∀ {vs H Q E}, spD K mg 1 poolG vs H Q E → ∃ a, vs = [.ref a] ∧ spF K 1 g vs H (fun v H2 => ∃ p b xs dz s F2, v = .ref p ∧ H2 p = some (.lst [.ref b, .int 0, .int 0, .int 0, .int s]) ∧ H p = none ∧ ¬ F2 p ∧ LsF K F2 H2 b xs ∧ dz.length ≤ sizeLine ∧ allI dz = true ∧ RepAll K F2 H2 xs dz ∧ (Grow (fun y => F2 y ∧ H y ≠ none) H F2 H2) ∧ ∀ F3 H3, (∀ y o, H y = some o → H3 y = some o) → (∀ y, F3 y → F2 y ∨ y = p) → (∀ y, F2 y → F3 y) → (∀ y, F3 y → H3 y ≠ none) → Rep K F3 H3 (.ref p) (.dict []) → Q (.ref p) H3) E := by
    intro vs H Q E h
    obtain ⟨ds, Fz, hl, live, ra, q⟩ := h
    unfold EOK poolG at q
    split at q
    · rename_i dz
      split at q
      · rename_i hd
        have ra' := ra
        cases ra with
        | cons r0 ra =>
          cases ra
          cases r0 with
          | @lst a xs _ ls hz rr =>
            obtain ⟨s, eg⟩ := hg dz hd.1 hd.2
            refine ⟨a, rfl, [.list dz], Fz, hl, live, ra', ?_⟩
            rw [eg]
            intro p us H2 F2 gr n0 nf hp hz2 rus
            obtain ⟨v0, rfl, r0⟩ := rep_five rus
            cases r0 with
            | @lst b ys _ ls2 hz3 rr2 =>
              refine ⟨p, b, ys, dz, s, F2, rfl, hp, n0, nf, ls2, hz3, hd.1, rr2, ⟨gr.same, fun y h => h.1, fun y h => ?_, fun _ => gr.live live⟩, fun F3 H3 sm f1 f2 lv rp => q (.ref p) H3 F3 ⟨sm, fun y h => f2 y (gr.sub y h), fun y h => ?_, fun _ => lv⟩ rp⟩
              · by_cases e : H y = none
                · exact .inr e
                · exact .inl ⟨h, e⟩
              · rcases f1 y h with z | z
                · exact gr.new y z
                · exact .inr (z ▸ n0)
      · exact q.elim
    · exact q.elim
  refine ⟨f, fd, ps, ⟨fun vs H Q E h => ?_, fun A outer s H args us vs Q E hr e0 hbt hv hs => ?_⟩, hm, kp, hb⟩
  · obtain ⟨_, _, h⟩ := conv h
    exact F.len _ _ _ _ h
  obtain ⟨a0, rfl, sp1⟩ := conv hs
  refine codeAny_mono (F.run A outer s _ args us _ _ E hr e0 hbt hv sp1) fun z s' hz => ?_
  cases z with
  | error y => exact hz.elim
  | ok fl =>
    cases fl with
    | ret u =>
      obtain ⟨v, H2, os, bare, un, hok2, rv, p, b, xs, dz, s0, F2, rfl, h2p, n0, nf, ls, hz3, hal, rr, gr, fin⟩ := hz
      have ob2 := hok2 p _ h2p
      have mu2 : Mut (H2 p) := by rw [h2p]; exact True.intro
      obtain ⟨ok3, un3⟩ := reabs hok2 mu2 (get_of_lst ob2) (ext_of_lst ob2 (Int.le_refl 0) (upd H2 p (.ext (PoolAt b p))))
      refine ⟨.ref p, upd H2 p (.ext (PoolAt b p)), os, bare, un.trans (un3 _), ok3, rv, ?_⟩
      refine fin (fun y => F2 y ∨ y = p) _ (fun y o e => ?_) (fun y h => h) (fun y h => .inl h) (fun y z e => ?_) (.pool ⟨upd_same, .inr rfl⟩ (lsF_upd ls h2p (.inr nf) (fun _ _ z => by cases z) fun y _ z => .inl z) hz3 hal (rep_intsA hal rr))
      · rw [upd_ne (ne_of_none e n0)]
        exact gr.same y o e
      · by_cases hy : y = p
        · subst hy; rw [upd_same] at e; cases e
        · rw [upd_ne hy] at e
          have hF := z.resolve_right hy
          exact gr.live (fun y h => h.2) y hF e
    | next => exact hz.elim
    | brk => exact hz.elim
    | cont => exact hz.elim
end
end DL
namespace Law
open PySem PySem.Spec L2 DL
open PyProof.Rows hiding St
theorem law_okA {P : Program} {w : World} {K : PySem.W.Frag} {mg : Str → Option Value} {base : Heap} {f : Addr} {fd : FuncData} {k : Nat} {x : Str} {g : List PyData → Res PyData} (c : FnOk P w K mg base CX0 k f fd [x] (spD K mg 1 g))
    (h : ∀ ns : List Int, ns.length ≤ 63 → (g [.list (ns.map .int)]).wp (fun d => d = .bool true) (fun _ => False)) : FnOk P w K mg base CX0 k f fd [x] (spLaw K) :=
  c.imp fun vs H Q E ⟨a, ns, e, hO, hS, hl, q⟩ => by
    subst e
    refine ⟨[.list (ns.map .int)], fun _ => False, rfl, fun _ z => z.elim, .cons (.lst (xs := ns.map V.int) ?_ ?_ (rep_ints ns)) .nil, ?_⟩
    · rcases hS with (hS | hS) | hS
      · rcases hO a with z | ⟨o, xs, z⟩
        · rw [z] at hS; cases hS
        · rw [z] at hS; cases hS
      · exact .inr (.inl hS)
      · exact .inr (.inr hS)
    · rw [List.length_map, sizeLine_eq]
      omega
    · exact wp_mono (h ns hl) (fun d e v H' F' g' r => by
        subst e
        cases r
        exact q H') fun _ h => h.elim
end Law

set_option Elab.async false
set_option linter.all false
set_option maxRecDepth 100000
set_option maxHeartbeats 4000000
namespace DL
open PySem PySem.Spec L2

/-! ### how plain values stand as data: told apart by == -/
structure Gd {α : Type} [DecidableEq α] (e : α → D) (n : Nat) : Prop where
  lay : ∀ a, (e a).canLay0 = true
  dep : ∀ a, (e a).depth ≤ n
  eqv : ∀ a b, PyData.eqv (e a) (e b) = decide (a = b)
section
variable {α β : Type} [DecidableEq α] [DecidableEq β] {e : α → D} {f : β → D} {n m : Nat}
theorem Gd.mono (h : Gd e n) (hn : n ≤ m) : Gd e m := ⟨h.lay, fun a => Nat.le_trans (h.dep a) hn, h.eqv⟩
theorem Gd.shaped (h : Gd e n) (a : α) (hn : n ≤ 64 := by decide) : SeqAt.shaped (e a) = true := by
  unfold SeqAt.shaped
  rw [h.lay, decide_eq_true (Nat.le_trans (h.dep a) hn)]; rfl
theorem eq_gd (h : Gd e n) (a b : α) (hn : n ≤ 64 := by decide) : eqD (e a) (e b) = .ok (.bool (decide (a = b))) := by
  unfold eqD
  rw [h.shaped a hn, h.shaped b hn, h.eqv]; rfl
theorem ne_gd (h : Gd e n) (a b : α) (hn : n ≤ 64 := by decide) : neD (e a) (e b) = .ok (.bool (!decide (a = b))) := by
  unfold neD
  rw [h.shaped a hn, h.shaped b hn, h.eqv]; rfl
theorem gd_int : Gd PyData.int 0 := ⟨fun _ => rfl, fun _ => Nat.le_refl _, fun a b => by
  show (a == b) = _
  by_cases h : a = b <;> simp [h]⟩
theorem gd_bool : Gd PyData.bool 0 := ⟨fun _ => rfl, fun _ => Nat.le_refl _, fun a b => by
  show (a == b) = _
  cases a <;> cases b <;> rfl⟩
theorem all_lay (h : ∀ a, (e a).canLay0 = true) : ∀ l : List α, PyData.canLayAll0 (l.map e) = true
  | [] => rfl
  | a :: l => by
    show ((e a).canLay0 && PyData.canLayAll0 (l.map e)) = true
    rw [h a, all_lay h l]; rfl
theorem all_dep (h : ∀ a, (e a).depth ≤ n) : ∀ l : List α, PyData.depthAll (l.map e) ≤ n
  | [] => Nat.zero_le _
  | a :: l => by
    show max (e a).depth (PyData.depthAll (l.map e)) ≤ n
    have := h a
    have := all_dep h l
    omega
theorem all_eqv (h : ∀ a b, PyData.eqv (e a) (e b) = decide (a = b)) : ∀ l k : List α, PyData.eqvAll (l.map e) (k.map e) = decide (l = k)
  | [], [] => by simp [PyData.eqvAll]
  | [], _ :: _ => by simp [PyData.eqvAll]
  | _ :: _, [] => by simp [PyData.eqvAll]
  | a :: l, b :: k => by
    rw [List.map_cons, List.map_cons, PyData.eqvAll, h, all_eqv h l k]
    by_cases h1 : a = b <;> by_cases h2 : l = k <;> simp [h1, h2]
theorem gd_tup (h : Gd e n) : Gd (fun l : List α => PyData.tuple (l.map e)) (n + 1) :=
  ⟨fun l => by rw [PyData.canLay0]; exact all_lay h.lay l, fun l => by rw [PyData.depth]; exact Nat.succ_le_succ (all_dep h.dep l), fun l k => by rw [PyData.eqv]; exact all_eqv h.eqv l k⟩
theorem gd_lst (h : Gd e n) : Gd (fun l : List α => PyData.list (l.map e)) (n + 1) :=
  ⟨fun l => by rw [PyData.canLay0]; exact all_lay h.lay l, fun l => by rw [PyData.depth]; exact Nat.succ_le_succ (all_dep h.dep l), fun l k => by rw [PyData.eqv]; exact all_eqv h.eqv l k⟩
theorem gd_pair (h : Gd e n) (h' : Gd f n) : Gd (fun p : α × β => PyData.tuple [e p.1, f p.2]) (n + 1) :=
  ⟨fun p => by
    rw [PyData.canLay0]
    show ((e p.1).canLay0 && ((f p.2).canLay0 && true)) = true
    rw [h.lay, h'.lay]; rfl, fun p => by
    rw [PyData.depth]
    show max (e p.1).depth (max (f p.2).depth 0) + 1 ≤ n + 1
    have := h.dep p.1
    have := h'.dep p.2
    omega, fun p q => by
    rw [PyData.eqv, PyData.eqvAll, PyData.eqvAll, PyData.eqvAll, h.eqv, h'.eqv]
    obtain ⟨a, b⟩ := p
    obtain ⟨c, d⟩ := q
    by_cases h1 : a = c <;> by_cases h2 : b = d <;> simp [h1, h2]⟩
abbrev gd_tI : Gd tI 1 := gd_tup gd_int
theorem gd_any (h : Gd e n) (a : α) : ∀ l : List α, (l.map e).any (fun z => PyData.eqv z (e a)) = decide (a ∈ l)
  | [] => rfl
  | b :: l => by
    rw [List.map_cons, List.any_cons, gd_any h a l, h.eqv]
    by_cases q : b = a
    · subst q; simp
    · have : ¬ a = b := fun z => q z.symm
      simp [q, this]
theorem in_tup (h : Gd e n) (a : α) (l : List α) (hn : n ≤ 63 := by decide) : inD (e a) (.tuple (l.map e)) = .ok (.bool (decide (a ∈ l))) := by
  unfold inD
  dsimp only
  rw [h.shaped a (by omega), (gd_tup h).shaped l (by omega), gd_any h]; rfl
theorem in_lst (h : Gd e n) (a : α) (l : List α) (hn : n ≤ 63 := by decide) : inD (e a) (.list (l.map e)) = .ok (.bool (decide (a ∈ l))) := by
  unfold inD
  dsimp only
  rw [h.shaped a (by omega), (gd_lst h).shaped l (by omega), gd_any h]; rfl
theorem nin_tup (h : Gd e n) (a : α) (l : List α) (hn : n ≤ 63 := by decide) : ninD (e a) (.tuple (l.map e)) = .ok (.bool (!decide (a ∈ l))) := by
  unfold ninD
  dsimp only
  rw [h.shaped a (by omega), (gd_tup h).shaped l (by omega), gd_any h]; rfl
theorem nin_lst (h : Gd e n) (a : α) (l : List α) (hn : n ≤ 63 := by decide) : ninD (e a) (.list (l.map e)) = .ok (.bool (!decide (a ∈ l))) := by
  unfold ninD
  dsimp only
  rw [h.shaped a (by omega), (gd_lst h).shaped l (by omega), gd_any h]; rfl
theorem eq_nilG (h : Gd e n) (l : List α) (hn : n ≤ 63 := by decide) : eqD (.list (l.map e)) (.list []) = .ok (.bool (decide (l = []))) := eq_gd (gd_lst h) l [] (by omega)
theorem ne_nilG (h : Gd e n) (l : List α) (hn : n ≤ 63 := by decide) : neD (.list (l.map e)) (.list []) = .ok (.bool (!decide (l = []))) := ne_gd (gd_lst h) l [] (by omega)
theorem eq_nilGT (h : Gd e n) (l : List α) (hn : n ≤ 63 := by decide) : eqD (.tuple (l.map e)) (.tuple []) = .ok (.bool (decide (l = []))) := eq_gd (gd_tup h) l [] (by omega)
theorem ne_nilGT (h : Gd e n) (l : List α) (hn : n ≤ 63 := by decide) : neD (.tuple (l.map e)) (.tuple []) = .ok (.bool (!decide (l = []))) := ne_gd (gd_tup h) l [] (by omega)
end
theorem flatAll_of {α : Type} {e : α → D} (h : ∀ a, flat (e a) = true) : ∀ l : List α, flatAll (l.map e) = true
  | [] => rfl
  | a :: l => by rw [List.map_cons, flatAll, h a, flatAll_of h l]; rfl
@[simp] theorem flatAll_app : ∀ a b : List D, flatAll (a ++ b) = (flatAll a && flatAll b)
  | [], b => by simp
  | x :: a, b => by rw [List.cons_append, flatAll, flatAll, flatAll_app a b, Bool.and_assoc]
@[simp] theorem flat_tI (c : List Int) : flat (tI c) = true := flatAll_of (fun _ => rfl) c
@[simp] theorem flatAll_tI (cs : List (List Int)) : flatAll (cs.map tI) = true := flatAll_of flat_tI cs

/-! ### dicts as lists of pairs -/
structure KeyG {κ : Type} [DecidableEq κ] (t : Bool) (ke : κ → D) : Prop where
  keq : ∀ a b, keq (ke a) (ke b) = decide (a = b)
  ok : ∀ a, keyOk t (ke a) = true
theorem kg_int : KeyG false PyData.int := ⟨fun a b => keq_ky (.inl a) (.inl b) |>.trans (by simp), fun _ => rfl⟩
theorem kg_str : KeyG false PyData.str := ⟨fun a b => keq_ky (.inr a) (.inr b) |>.trans (by simp), fun _ => rfl⟩
theorem keqs_ints : ∀ a b : List Int, keqs (iL a) (iL b) = decide (a = b)
  | [], [] => rfl
  | [], _ :: _ => rfl
  | _ :: _, [] => rfl
  | a :: l, b :: k => by
    show (keqA (.int a) (.int b) && keqs (iL l) (iL k)) = _
    rw [keqs_ints l k]
    show (decide (a = b) && _) = _
    by_cases h1 : a = b <;> by_cases h2 : l = k <;> simp [h1, h2]
theorem kg_tI : KeyG true tI := ⟨fun a b => keqs_ints a b, fun a => allI_ints a⟩
section
variable {κ β : Type} [DecidableEq κ] {t : Bool} {ke : κ → D} {ve : β → D}
abbrev dAk (ke : κ → D) (l : List (κ × β)) : List D := l.map fun p => ke p.1
abbrev dAv (ve : β → D) (l : List (κ × β)) : List D := l.map fun p => ve p.2
/-- the value at a key -/
def look (l : List (κ × β)) (a : κ) : Option β := match l with
  | [] => none
  | p :: r => if p.1 = a then some p.2 else look r a
def putA (l : List (κ × β)) (a : κ) (b : β) : List (κ × β) := if a ∈ l.map (·.1) then l.map (fun p => if p.1 = a then (p.1, b) else p) else l ++ [(a, b)]
theorem hasK_of (h : KeyG t ke) (a : κ) : ∀ l : List (κ × β), hasK (dAk ke l) (ke a) = decide (a ∈ l.map (·.1))
  | [] => rfl
  | p :: l => by
    have ih := hasK_of h a l
    unfold hasK at ih ⊢
    show (keq (ke p.1) (ke a) || (dAk ke l).any fun k => keq k (ke a)) = _
    rw [ih, h.keq, List.map_cons]
    by_cases q : p.1 = a
    · simp [q]
    · have : ¬ a = p.1 := fun z => q z.symm
      simp [q, this]
theorem hasK_keys (h : KeyG t ke) (a : κ) (ks : List κ) : hasK (ks.map ke) (ke a) = decide (a ∈ ks) := by
  have := hasK_of (β := Unit) h a (ks.map fun k => (k, ()))
  unfold dAk at this
  rw [List.map_map, List.map_map] at this
  have e1 : (ks.map ((fun p : κ × Unit => ke p.1) ∘ fun k => (k, ()))) = ks.map ke := rfl
  have e2 : (ks.map ((fun p : κ × Unit => p.1) ∘ fun k => (k, ()))) = ks := by
    rw [show ((fun p : κ × Unit => p.1) ∘ fun k => (k, ())) = _root_.id from rfl, List.map_id]
  rw [e1, e2] at this
  exact this
theorem lookD_of (h : KeyG t ke) (a : κ) : ∀ l : List (κ × β), lookD (dAk ke l) (dAv ve l) (ke a) = (look l a).map ve
  | [] => rfl
  | p :: l => by
    unfold dAk dAv
    rw [List.map_cons, List.map_cons, lookD, h.keq, look]
    by_cases q : p.1 = a
    · simp [q]
    · rw [decide_eq_false q, if_neg q, if_neg Bool.false_ne_true]
      exact lookD_of h a l
theorem replD_of (h : KeyG t ke) (a : κ) (b : β) : ∀ l : List (κ × β), replD (dAk ke l) (dAv ve l) (ke a) (ve b) = dAv ve (l.map fun p => if p.1 = a then (p.1, b) else p)
  | [] => rfl
  | p :: l => by
    unfold dAk dAv
    rw [List.map_cons, List.map_cons, replD, h.keq, List.map_cons, List.map_cons]
    have := replD_of h a b l
    unfold dAk dAv at this
    rw [this]
    by_cases q : p.1 = a <;> simp [q]
theorem putKs_of (h : KeyG t ke) (a : κ) (b : β) (l : List (κ × β)) : putKs (dAk ke l) (ke a) = dAk ke (putA l a b) := by
  unfold putKs putA
  rw [hasK_of h]
  by_cases q : a ∈ l.map (·.1)
  · rw [decide_eq_true q, if_pos rfl, if_pos q]
    unfold dAk
    rw [List.map_map]
    apply List.map_congr_left
    intro p _
    by_cases z : p.1 = a <;> simp [z]
  · rw [decide_eq_false q, if_neg Bool.false_ne_true, if_neg q]
    simp [dAk]
theorem putVs_of (h : KeyG t ke) (a : κ) (b : β) (l : List (κ × β)) : putVs (dAk ke l) (dAv ve l) (ke a) (ve b) = dAv ve (putA l a b) := by
  unfold putVs putA
  rw [hasK_of h]
  by_cases q : a ∈ l.map (·.1)
  · rw [decide_eq_true q, if_pos rfl, if_pos q, replD_of h]
  · rw [decide_eq_false q, if_neg Bool.false_ne_true, if_neg q]
    simp [dAv]
theorem inA_of (h : KeyG t ke) (a : κ) (l : List (κ × β)) (vs : List D) : inA (ke a) (dcD t (dAk ke l) vs) = .ok (.bool (decide (a ∈ l.map (·.1)))) := by
  show (if keyOk t (ke a) then Res.ok (PyData.bool (hasK (dAk ke l) (ke a))) else .bot) = _
  rw [h.ok, if_pos rfl, hasK_of h]
theorem inA_keys (h : KeyG t ke) (a : κ) (l : List κ) (vs : List D) : inA (ke a) (dcD t (l.map ke) vs) = .ok (.bool (decide (a ∈ l))) := by
  show (if keyOk t (ke a) then Res.ok (PyData.bool (hasK (l.map ke) (ke a))) else .bot) = _
  rw [h.ok, if_pos rfl, hasK_keys h]
theorem ninA_of (h : KeyG t ke) (a : κ) (l : List (κ × β)) (vs : List D) : ninA (ke a) (dcD t (dAk ke l) vs) = .ok (.bool (!decide (a ∈ l.map (·.1)))) := by
  show (if keyOk t (ke a) then Res.ok (PyData.bool (!hasK (dAk ke l) (ke a))) else .bot) = _
  rw [h.ok, if_pos rfl, hasK_of h]
theorem ixA_of (h : KeyG t ke) {a : κ} {l : List (κ × β)} {b : β} (hb : look l a = some b) : ixA (dcD t (dAk ke l) (dAv ve l)) (ke a) = .ok (ve b) := by
  show (if keyOk t (ke a) then (match lookD (dAk ke l) (dAv ve l) (ke a) with | some d => Res.ok d | none => .bot) else .bot) = _
  rw [h.ok, if_pos rfl, lookD_of h, hb]; rfl
theorem look_mem {l : List (κ × β)} {a : κ} (h : a ∈ l.map (·.1)) : ∃ b, look l a = some b ∧ (a, b) ∈ l := by
  induction l with
  | nil => cases h
  | cons p l ih =>
    unfold look
    by_cases q : p.1 = a
    · exact ⟨p.2, if_pos q, by rw [← q]; exact List.mem_cons_self⟩
    · rw [if_neg q]
      rw [List.map_cons] at h
      rcases List.mem_cons.mp h with z | z
      · exact absurd z.symm q
      · obtain ⟨b, h1, h2⟩ := ih z
        exact ⟨b, h1, List.mem_cons_of_mem _ h2⟩
/-- d[k] = v at a slot of one's own -/
theorem put_ok (h : KeyG t ke) {i : Nat} {S : List Nat} {fv fk : DSt → Res D} {δ : DSt} {l : List (κ × β)} {a : κ} {b : β} (hd : δ[i]? = some (some (.ownd t (dAk ke l) (dAv ve l)))) (hv : fv δ = .ok (ve b)) (hf : flat (ve b) = true) (hk : fk δ = .ok (ke a)) (hl : l.length < sizeLine) :
    putF i S fv fk δ = .ok (.nx (δ.set i (some (.ownd t (dAk ke (putA l a b)) (dAv ve (putA l a b)))))) := by
  unfold DL.putF
  simp only [hd, hv, ev_ok, hf, if_true, hk]
  rw [h.ok, putKs_of h a b, putVs_of h]
  rw [show (true && decide ((dAk ke l).length < sizeLine)) = true by simpa [dAk] using hl, if_pos rfl]
end

/-! ### folding over a list whose states stand in a clean form -/
theorem for_st {α σ : Type} (enc : α → D) (E : σ → DSt) (step : σ → α → σ) (I : List α → σ → Prop) {p : Pat} {body : DSt → Res Out} {l0 : List α}
    (h : ∀ done a rest s, l0 = done ++ a :: rest → I done s → (nE (bindP p (enc a) (E s)) >>= body) = .ok (.nx (E (step s a))) ∧ I (done ++ [a]) (step s a)) :
    ∀ l done s, l0 = done ++ l → I done s → forGo p body (l.map enc) (E s) = .ok (.nx (E (l.foldl step s))) ∧ I l0 (l.foldl step s)
  | [], done, s, e, hI => by
    rw [List.append_nil] at e
    subst e
    exact ⟨rfl, hI⟩
  | a :: l, done, s, e, hI => by
    obtain ⟨h1, h2⟩ := h done a l s e hI
    obtain ⟨h3, h4⟩ := for_st enc E step I h l (done ++ [a]) (step s a) (by rw [List.append_assoc]; exact e) h2
    refine ⟨?_, h4⟩
    rw [List.map_cons, forGo]
    cases q : bindP p (enc a) (E s) with
    | ok δ1 =>
      rw [q, ev_nE, ev_ok] at h1
      rw [ev_nE, ok_bind, h1, ok_bind]
      exact h3
    | err x => rw [q] at h1; cases h1
    | bot => rw [q] at h1; cases h1
    | pick _ _ => rw [q] at h1; cases h1
/-- .. the state of the fold -/
theorem for_fold {α σ : Type} (enc : α → D) (E : σ → DSt) (step : σ → α → σ) (I : List α → σ → Prop) {p : Pat} {body : DSt → Res Out} {l : List α} {s : σ} (h0 : I [] s)
    (h : ∀ done a rest s, l = done ++ a :: rest → I done s → (nE (bindP p (enc a) (E s)) >>= body) = .ok (.nx (E (step s a))) ∧ I (done ++ [a]) (step s a)) :
    forGo p body (l.map enc) (E s) = .ok (.nx (E (l.foldl step s))) ∧ I l (l.foldl step s) := for_st enc E step I h l [] s rfl h0
/-- a state told by an invariant alone -/
theorem for_ex {α σ : Type} (enc : α → D) (E : σ → DSt) (I : List α → σ → Prop) {p : Pat} {body : DSt → Res Out} {l : List α} {s : σ} (h0 : I [] s)
    (h : ∀ done a rest s, l = done ++ a :: rest → I done s → ∃ s', (nE (bindP p (enc a) (E s)) >>= body) = .ok (.nx (E s')) ∧ I (done ++ [a]) s') :
    ∃ s', forGo p body (l.map enc) (E s) = .ok (.nx (E s')) ∧ I l s' := by
  obtain ⟨δ', h1, s', rfl, h2⟩ := for_inv0 (p := p) (body := body) enc (fun done δ => ∃ s, δ = E s ∧ I done s) (l := l) (δ := E s) ⟨s, rfl, h0⟩ (by
    rintro done a rest δ e ⟨s, rfl, hI⟩
    obtain ⟨s', g1, g2⟩ := h done a rest s e hI
    exact ⟨E s', g1, s', rfl, g2⟩)
  exact ⟨s', h1, h2⟩
/-- .. over a range -/
theorem rng_ex {σ : Type} (E : σ → DSt) (I : Nat → σ → Prop) {p : Pat} {body : DSt → Res Out} {lo hi : Int} {s : σ} (hlh : lo ≤ hi) (h0 : I 0 s)
    (h : ∀ (k : Nat) s, lo + k < hi → I k s → ∃ s', (nE (bindP p (.int (lo + k)) (E s)) >>= body) = .ok (.nx (E s')) ∧ I (k + 1) s') :
    ∃ s', forGo p body (rngL lo hi) (E s) = .ok (.nx (E s')) ∧ I (hi - lo).toNat s' := by
  obtain ⟨δ', h1, s', rfl, h2⟩ := rng_inv (p := p) (body := body) (fun k δ => ∃ s, δ = E s ∧ I k s) (lo := lo) (hi := hi) (δ := E s) hlh ⟨s, rfl, h0⟩ (by
    rintro k δ hk ⟨s, rfl, hI⟩
    obtain ⟨s', g1, g2⟩ := h k s hk hI
    exact ⟨E s', g1, s', rfl, g2⟩)
  exact ⟨s', h1, h2⟩
theorem rngL_nil {lo hi : Int} (h : hi ≤ lo) : rngL lo hi = [] := by
  unfold rngL
  rw [show (hi - lo).toNat = 0 by omega]; rfl
theorem lcGo_ex {α β : Type} (enc : α → D) (enc' : β → D) (P : β → Prop) {p : Pat} {δ : DSt} {fe : DSt → Res D} : ∀ l : List α, (∀ a ∈ l, ∃ δ1 b, nE (bindP p (enc a) δ) = .ok δ1 ∧ fe δ1 = .ok (enc' b) ∧ P b) → ∃ bs : List β, lcGo p δ tY fe (l.map enc) = .ok (bs.map enc') ∧ bs.length = l.length ∧ ∀ b ∈ bs, P b
  | [], _ => ⟨[], rfl, rfl, by simp⟩
  | a :: l, h => by
    obtain ⟨δ1, b, h1, h2, h3⟩ := h a List.mem_cons_self
    obtain ⟨bs, g1, g2, g3⟩ := lcGo_ex enc enc' P l fun x hx => h x (List.mem_cons_of_mem _ hx)
    refine ⟨b :: bs, ?_, by simp [g2], fun x hx => ?_⟩
    · rw [List.map_cons, lcGo, h1, ok_bind]
      show (nE (fe δ1) >>= fun y => lcGo p δ tY fe (l.map enc) >>= fun ys => Res.ok (y :: ys)) = _
      rw [h2, ev_nE, ok_bind, g1, ok_bind]; rfl
    · rcases List.mem_cons.mp hx with rfl | hx
      · exact h3
      · exact g3 x hx
theorem lcF_ex {α β : Type} (enc : α → D) (enc' : β → D) (P : β → Prop) {p : Pat} {vs : List Nat} {δ : DSt} {gs : DSt → Res (List D)} {fe : DSt → Res D} {l : List α} (hg : gs δ = .ok (l.map enc)) (hl : l.length ≤ sizeLine)
    (h : ∀ a ∈ l, ∃ δ1 b, nE (bindP p (enc a) (wipeD δ vs)) = .ok δ1 ∧ fe δ1 = .ok (enc' b) ∧ P b) : ∃ bs : List β, lcF gs p vs tY fe δ = .ok (bs.map enc') ∧ bs.length = l.length ∧ ∀ b ∈ bs, P b := by
  obtain ⟨bs, g1, g2, g3⟩ := lcGo_ex enc enc' P l h
  refine ⟨bs, ?_, g2, g3⟩
  unfold lcF
  rw [hg, ok_bind, g1, ok_bind]
  exact lstD_ok (by rw [List.length_map, g2]; exact hl)
/-! ### more to work out -/
@[simp] theorem ev_lrg1F (f δ) : lrg1F f δ = (f δ >>= fun x => lrg1D [x]) := rfl
@[simp] theorem ev_lrg2F (f g δ) : lrg2F f g δ = (f δ >>= fun x => g δ >>= fun y => lrg2D [x, y]) := rfl
theorem lrg2_ok {i j : Int} (h : -1000000 ≤ i ∧ i ≤ 1000000) (h' : -1000000 ≤ j ∧ j ≤ 1000000) : lrg2D [.int i, .int j] = .ok (rngL i j) := if_pos (by omega)
theorem lrg1_ok {j : Int} (h' : -1000000 ≤ j ∧ j ≤ 1000000) : lrg1D [.int j] = .ok (rngL 0 j) := if_pos (by omega)

theorem addL_ok {xs ys : List D} (h : xs.length + ys.length ≤ sizeLine) : addLD (.list xs) (.list ys) = .ok (xs ++ ys) := if_pos h
@[simp] theorem ev_b2L (g : D → D → Res (List D)) (fa fb δ) : b2L g fa fb δ = (fa δ >>= fun x => fb δ >>= fun y => g x y) := rfl

@[simp] theorem ev_downd (t ks vs) : (SV.ownd t ks vs).d = dcD t ks vs := rfl
@[simp] theorem orV_t (k) : orV (.bool true) k = .ok (.bool true) := rfl
@[simp] theorem orV_f (k) : orV (.bool false) k = k := rfl
@[simp] theorem andV_t (k) : andV (.bool true) k = k := rfl
@[simp] theorem andV_f (k) : andV (.bool false) k = .ok (.bool false) := rfl

@[simp] theorem ev_ninL (a : Int) (c : List Int) : ninD (.int a) (.list (iL c)) = .ok (.bool (!decide (a ∈ c))) := by
  unfold ninD
  simp only [shaped_int, shaped_lI c, Bool.and_self, if_true, any_ints]
@[simp] theorem ev_listT (xs : List D) : listD [.tuple xs] = .ok xs := rfl
@[simp] theorem ev_listL (xs : List D) : listD [.list xs] = .ok xs := rfl
@[simp] theorem ix_L0 (a : D) (ds : List D) : ixD (.list (a :: ds)) (.int 0) = .ok a := ix_L (k := 0) rfl
def asgLK (r : Res (List D)) (S : List Nat) (i : Nat) (δ : DSt) : Res Out := r >>= fun xs => .ok (.nx ((if flatAll xs then δ else freeze S 0 δ).set i (some (.val (.list xs)))))
@[simp] theorem ev_asgLV (S f i δ) : asgLV S f i δ = asgLK (f δ) S i δ := rfl
@[simp] theorem asgLK_fl {d : List D} {S i δ} (h : flatAll d = true) : asgLK (.ok d) S i δ = .ok (.nx (δ.set i (some (.val (.list d))))) := by
  show Res.ok (Out.nx ((if flatAll d then δ else freeze S 0 δ).set i (some (.val (.list d))))) = _
  rw [h]; rfl
@[simp] theorem asgLK_nf {d : List D} {S i δ} (h : flatAll d = false) : asgLK (.ok d) S i δ = .ok (.nx ((freeze S 0 δ).set i (some (.val (.list d))))) := by
  show Res.ok (Out.nx ((if flatAll d then δ else freeze S 0 δ).set i (some (.val (.list d))))) = _
  rw [h]; rfl
@[simp] theorem ev_clrF (vs f δ) : clr vs f δ = f (wipeD δ vs) := rfl
theorem sorted_eq (c : List Int) : sortedD [.list (iL c)] = .ok (sortL (iL c)) := by
  show (if sortOk (iL c) then Res.ok (sortL (iL c)) else .bot) = _
  rw [sortOk_ints, if_pos rfl]
abbrev sI (c : List Int) : List Int := c.mergeSort fun a b => decide (a ≤ b)
theorem sortL_ints (c : List Int) : sortL (iL c) = iL (sI c) := by
  unfold sortL
  have h := PySem.W.dataLe_int (β := Int) (fun x => x)
  rw [show iL (sI c) = (sI c).map PyData.int from rfl, List.map_mergeSort]
  intro a _ b _
  exact (congrFun (congrFun h a) b).symm
@[simp] theorem ev_sorted3L (c : List Int) : sorted3 [.list (iL c)] = .ok (iL (sI c)) := by
  show sortedD [.list (iL c)] = _
  rw [sorted_eq, sortL_ints]
@[simp] theorem ev_sorted3T (c : List Int) : sorted3 [.tuple (iL c)] = .ok (iL (sI c)) := by
  show (if sortOk (iL c) then Res.ok (sortL (iL c)) else .bot) = _
  rw [sortOk_ints, if_pos rfl, sortL_ints]
@[simp] theorem ev_sortedDL (c : List Int) : sortedD [.list (iL c)] = .ok (iL (sI c)) := by rw [sorted_eq, sortL_ints]
abbrev sT (cs : List (List Int)) : List (List Int) := cs.mergeSort fun a b => decide (a ≤ b)
@[simp] theorem ev_sorted3LT (c : List (List Int)) : sorted3 [.list (c.map tI)] = .ok ((sT c).map tI) := by
  show (if sortOk (c.map tI) then Res.ok (sortL (c.map tI)) else .bot) = _
  rw [sortOk_tups, if_pos rfl, sortL_tups]
@[simp] theorem ev_sorted3TT (c : List (List Int)) : sorted3 [.tuple (c.map tI)] = .ok ((sT c).map tI) := by
  show (if sortOk (c.map tI) then Res.ok (sortL (c.map tI)) else .bot) = _
  rw [sortOk_tups, if_pos rfl, sortL_tups]
@[simp] theorem ev_sortedDT (c : List (List Int)) : sortedD [.list (c.map tI)] = .ok ((sT c).map tI) := by
  show (if sortOk (c.map tI) then Res.ok (sortL (c.map tI)) else .bot) = _
  rw [sortOk_tups, if_pos rfl, sortL_tups]
theorem sI_perm (c : List Int) : (sI c).Perm c := List.mergeSort_perm _ _
theorem sI_mem {c : List Int} {x : Int} : x ∈ sI c ↔ x ∈ c := (sI_perm c).mem_iff
theorem sI_le (c : List Int) : (sI c).Pairwise (· ≤ ·) := (List.pairwise_mergeSort (fun x y z h1 h2 => by simp at *; omega) (fun x y => by simp; omega) c).imp fun h => by simpa using h
theorem sI_len (c : List Int) : (sI c).length = c.length := List.length_mergeSort c
theorem sI_lt {c : List Int} (h : c.Nodup) : (sI c).Pairwise (· < ·) := by
  have h1 := sI_le c
  have h2 := (sI_perm c).nodup_iff.mpr h
  exact (h1.and h2).imp fun ⟨a, b⟩ => by omega
theorem add_T {xs ys : List D} (h : xs.length + ys.length ≤ sizeLine) : addD (.tuple xs) (.tuple ys) = .ok (.tuple (xs ++ ys)) := if_pos h
theorem add_L {xs ys : List D} (h : xs.length + ys.length ≤ sizeLine) : addD (.list xs) (.list ys) = .ok (.list (xs ++ ys)) := if_pos h
theorem h1000 : (1000000 : Nat) ≤ sizeLine := le_size (Nat.le_refl _)
/-- an index from the end -/
theorem ix_last {ds : List D} {d : D} (h : ds.getLast? = some d) : ixD (.tuple ds) (.int (-1)) = .ok d := by
  have hl : ds ≠ [] := fun e => by rw [e] at h; cases h
  have h2 : 0 < ds.length := List.length_pos_iff.mpr hl
  show (match atI ds (-1 : Int) with | some d => Res.ok d | none => .bot) = _
  have : atI ds (-1) = some d := by
    unfold atI ixN
    have hk : ¬ (0 : Int) ≤ -1 := by decide
    have h3 : (0 : Int) ≤ ds.length + -1 := by omega
    have h4 : (-1 + (ds.length : Int)).toNat = ds.length - 1 := by omega
    have h5 : (1 : Int) ≤ ds.length := by omega
    rw [List.getLast?_eq_getElem?] at h
    simp [hk, h5, h4, h]
  rw [this]
end DL

set_option Elab.async false
set_option linter.all false
set_option maxRecDepth 100000
set_option maxHeartbeats 4000000
namespace DL
open PySem PySem.Spec L2
theorem allI_ex : ∀ ds : List D, allI ds = true → ∃ ns : List Int, ds = iL ns
  | [], _ => ⟨[], rfl⟩
  | .int i :: ds, h => by
    obtain ⟨ns, e⟩ := allI_ex ds h
    exact ⟨i :: ns, by rw [e]; rfl⟩
  | .none :: _, h => by cases h
  | .bool _ :: _, h => by cases h
  | .str _ :: _, h => by cases h
  | .list _ :: _, h => by cases h
  | .tuple _ :: _, h => by cases h
  | .dict _ :: _, h => by cases h
theorem small_L5 (L : List D) (h : L.length ≤ 100) : lstD L = .ok L := by
  have := h1000
  exact lstD_ok (by omega)
theorem ix5_0 (a b c d e : D) : ixD (.list [a, b, c, d, e]) (.int 0) = .ok a := ix_L (k := 0) rfl
theorem ix5_1 (a b c d e : D) : ixD (.list [a, b, c, d, e]) (.int 1) = .ok b := ix_L (k := 1) rfl
theorem ix5_2 (a b c d e : D) : ixD (.list [a, b, c, d, e]) (.int 2) = .ok c := ix_L (k := 2) rfl
theorem ix5_3 (a b c d e : D) : ixD (.list [a, b, c, d, e]) (.int 3) = .ok d := ix_L (k := 3) rfl
theorem ix5_4 (a b c d e : D) : ixD (.list [a, b, c, d, e]) (.int 4) = .ok e := ix_L (k := 4) rfl
theorem seqM_nx {f g : DSt → Res OutM} {δ δ' : DSt} (h : f δ = .ok (.nx δ')) : seqM f g δ = g δ' := by
  unfold seqM; rw [h]; rfl
end DL

set_option maxRecDepth 100000
set_option maxHeartbeats 4000000
namespace Law
open PySem PySem.Spec L2 DL
open PyProof.Rows hiding St
/-! ### the text (printed by gen.py) -/
def topS (i : Nat) : Stmt := PySem.Challenge.pw_rebut_k23_trees.main.body.getD i (.Pass ⟨0, 0, 0, 0⟩)
structure MB (mg : Str → Option Value) : Prop where
  m_all : mg "all" = none
  m_bool : mg "bool" = none
  m_int : mg "int" = none
  m_isinstance : mg "isinstance" = none
  m_len : mg "len" = none
  m_list : mg "list" = none
  m_max : mg "max" = none
  m_range : mg "range" = none
  m_set : mg "set" = none
  m_sorted : mg "sorted" = none
  m_str : mg "str" = none
  m_tuple : mg "tuple" = none
  ok : True
abbrev s_law_pool : Stmt := topS 15
abbrev N_law_pool : List Str := ["_law_script", "_law_salt", "_law_cell"]
theorem sc_law_pool : FnScope N_law_pool ["_law_script"] (defScope s_law_pool) := ⟨rfl, rfl, rfl, by decide +kernel, rfl, by decide +kernel, by decide +kernel⟩
abbrev S_law_pool_1 (v_law_script v_law_salt : SV) : DSt := [some v_law_script, some v_law_salt, none]
def lp_law_pool_1 : DSt → Res Out :=
  seqF (asgF [1, 2] (b2 modD (u1A intD (aCons (b2 addD (b2 mulD (vr 1) (cI 31)) (vr 2)) (aNil))) (cI 1000003)) (.nm 1)) (clr [2] (sNil))
def b_law_pool : DSt → Res OutF :=
  seqU (asgF [] (cI 7) (.nm 1))
  (seqU (forFC [0] [2] (u1LE seqD (slF (vr 0) (oN) (oS (cI 63)))) (.nm 2) (lp_law_pool_1))
  (retL (u1L lstD (aCons (asL (u1L listD (aCons (vr 0) (aNil)))) (aCons (cI 0) (aCons (cI 0) (aCons (cI 0) (aCons (vr 1) (aNil)))))))))
def g0_law_pool : List PyData → Res FR := fnU 3 b_law_pool
def g_law_pool : List PyData → Res PyData := poolG
theorem ok_law_pool : PoolOk g0_law_pool := by
  intro ds ha hl
  have hz := h1000
  obtain ⟨ns, rfl⟩ := allI_ex ds ha
  obtain ⟨ys, e1, hy⟩ : ∃ ys : List Int, sliceD (.list (iL ns)) none (some 63) = .ok (.list (iL ys)) ∧ ys.length ≤ ns.length := by
    refine ⟨(ns.drop 0).take (HT.sIx (iL ns).length (iL ns).length (some 63) - 0), ?_, ?_⟩
    · show Res.ok (PyData.list (DL.cutD (iL ns) none (some 63))) = _
      unfold DL.cutD
      simp only [List.map_take, List.map_drop]
      rfl
    · rw [List.length_take]
      simp
      omega
  obtain ⟨s, h1, _⟩ := for_ex (p := .nm 2) (body := lp_law_pool_1) PyData.int (fun s : Int => [some (.val (.list (iL ns))), some (.val (.int s)), none]) (fun _ _ => True) (l := ys) (s := 7) trivial (by
    rintro done a rest s e _
    exact ⟨(s * 31 + a) % 1000003, by simp [lp_law_pool_1, sq], trivial⟩)
  refine ⟨s, ?_⟩
  have e0 : startD 3 [PyData.list (iL ns)] = [some (.val (.list (iL ns))), none, none] := rfl
  unfold g0_law_pool fnU b_law_pool
  rw [e0]
  have h1 : forGo (.nm 2) lp_law_pool_1 (iL ys) [some (.val (.list (iL ns))), some (.val (.int 7)), none] = .ok (.nx [some (.val (.list (iL ns))), some (.val (.int s)), none]) := h1
  generalize iL ys = Y at e1 h1
  generalize iL ns = X at e1 h1 ⊢
  have s5 : lstD [PyData.list X, .int 0, .int 0, .int 0, .int s] = .ok [PyData.list X, .int 0, .int 0, .int 0, .int s] := small_L5 _ (by simp)
  simp [seqU, retL, e1, h1, s5]

abbrev s_law_spread : Stmt := topS 16
abbrev N_law_spread : List Str := ["_law_cell", "_law_mixed", "_law_total", "_law_k"]
theorem sc_law_spread : FnScope N_law_spread ["_law_cell"] (defScope s_law_spread) := ⟨rfl, rfl, rfl, by decide +kernel, rfl, by decide +kernel, by decide +kernel⟩
abbrev S_law_spread_1 (v_law_mixed v_law_total : SV) : DSt := [none, some v_law_mixed, some v_law_total, none]
def lp_law_spread_1 : DSt → Res Out :=
  seqF (asgF [1, 3] (b2 modD (u1A intD (aCons (b2 addD (b2 addD (b2 mulD (vr 1) (cI 48271)) (cI 12345)) (vr 3)) (aNil))) (cI 2147483647)) (.nm 1))
  (seqF (asgF [2, 1] (b2 addD (b2 mulD (vr 2) (cI 2147483647)) (vr 1)) (.nm 2)) (clr [3] (sNil)))
def kx_law_spread_1 : DSt → Res Out :=
  clr [1] (sRt (vr 2))
def b_law_spread : DSt → Res Out :=
  seqF (asgF [0] (b2 modD (u1A intD (aCons (vr 0) (aNil))) (cI 2147483647)) (.nm 1))
  (seqF (asgF [] (cI 1) (.nm 2))
  (seqF (forRC [0, 3] (u1L rng1D (aCons (cI 4) (aNil))) (.nm 3) (lp_law_spread_1))
  (kx_law_spread_1)))
def g_law_spread : List PyData → Res PyData := fnD 4 b_law_spread
abbrev s_law_draw : Stmt := topS 17
abbrev N_law_draw : List Str := ["_law_pool_here", "_law_many", "_law_cell", "_law_mixed", "_law_value"]
theorem sc_law_draw : FnScope N_law_draw ["_law_pool_here", "_law_many"] (defScope s_law_draw) := ⟨rfl, rfl, rfl, by decide +kernel, rfl, by decide +kernel, by decide +kernel⟩
def b_law_draw : DSt → Res OutM :=
  seqM (ifM (tAnd' (tB2 leD (b2 ixD (vr 0) (cI 2)) (cI 0)) (tB2 ltD (b2 ixD (vr 0) (cI 1)) (u1A lenD (aCons (unF (b2 ixD (vr 0) (cI 0))) (aNil))))) (seqM (upM (asgF [0, 0] (b2 ixD (unF (b2 ixD (vr 0) (cI 0))) (b2 ixD (vr 0) (cI 1))) (.nm 2)))
  (seqM (upM (lsetF 0 [0] (b2 addD (b2 ixD (vr 0) (cI 1)) (cI 1)) (cI 1)))
  (seqM (upM (lsetF 0 [2] (vr 2) (cI 2)))
  (ifM (tB2 ltD (vr 2) (cI 1000000000000000000)) (upM (lsetF 0 [2] (callF g_law_spread (aCons (vr 2) (aNil))) (cI 2))) (nilM))))) (nilM))
  (seqM (upM (lsetF 0 [0] (b2 addD (b2 ixD (vr 0) (cI 3)) (cI 1)) (cI 3)))
  (seqM (ifM (tB2 leD (b2 ixD (vr 0) (cI 2)) (cI 0)) (seqM (upM (asgF [0, 0] (b2 modD (u1A intD (aCons (b2 addD (b2 addD (b2 mulD (b2 ixD (vr 0) (cI 4)) (cI 48271)) (b2 mulD (b2 ixD (vr 0) (cI 3)) (cI 69621))) (cI 1)) (aNil))) (cI 2147483647)) (.nm 3)))
  (seqM (upM (asgF [3, 0] (b2 modD (u1A intD (aCons (b2 addD (b2 mulD (vr 3) (cI 16807)) (b2 ixD (vr 0) (cI 3))) (aNil))) (cI 2147483629)) (.nm 3)))
  (retM (b2 modD (b2 fdivD (vr 3) (cI 5)) (vr 1))))) (nilM))
  (seqM (upM (asgF [0, 1] (b2 modD (u1A intD (aCons (b2 ixD (vr 0) (cI 2)) (aNil))) (vr 1)) (.nm 4)))
  (seqM (upM (lsetF 0 [0, 1] (b2 fdivD (b2 ixD (vr 0) (cI 2)) (vr 1)) (cI 2)))
  (retM (vr 4))))))
def g0_law_draw : List PyData → Res (PyData × List (List PyData)) := fnM 5 [true, false] b_law_draw
def g_law_draw : List PyData → Res PyData := drawG
theorem spread_ok (c : Int) : ∃ t : Int, g_law_spread [.int c] = .ok (.int t) := by
  obtain ⟨s, h1, _⟩ := rng_ex (p := .nm 3) (body := lp_law_spread_1) (fun s : Int × Int => S_law_spread_1 (.val (.int s.1)) (.val (.int s.2))) (fun _ _ => True) (lo := 0) (hi := 4) (s := (c % 2147483647, 1)) (by decide) trivial (by
    rintro k s hk _
    generalize (0 + (k : Int)) = x
    exact ⟨(_, _), by simp [lp_law_spread_1, sq]; exact ⟨rfl, rfl⟩, trivial⟩)
  have h1 : forGo (.nm 3) lp_law_spread_1 (rngL 0 4) [none, some (.val (.int (c % 2147483647))), some (.val (.int 1)), none] = .ok (.nx (S_law_spread_1 (.val (.int s.1)) (.val (.int s.2)))) := h1
  have hr : rng1D [.int 4] = .ok (rngL 0 4) := rng1_ok (by decide)
  exact ⟨s.2, fn_rt (by simp [b_law_spread, startD, sq, hr, h1, kx_law_spread_1])⟩
theorem ok_law_draw : DrawOk g0_law_draw := by
  intro b ds i1 i2 i3 i4 m ha h1 hm hm2
  have e0 : startM 5 [true, false] [.list (PoolL b ds i1 i2 i3 i4), .int m] = [some (.own (PoolL b ds i1 i2 i3 i4)), some (.val (.int m)), none, none, none] := rfl
  obtain ⟨j1, j2, cc, hj, s1⟩ : ∃ (j1 j2 : Int) (cc : Option SV), 0 ≤ j1 ∧ (ifM (tAnd' (tB2 leD (b2 ixD (vr 0) (cI 2)) (cI 0)) (tB2 ltD (b2 ixD (vr 0) (cI 1)) (u1A lenD (aCons (unF (b2 ixD (vr 0) (cI 0))) (aNil))))) (seqM (upM (asgF [0, 0] (b2 ixD (unF (b2 ixD (vr 0) (cI 0))) (b2 ixD (vr 0) (cI 1))) (.nm 2)))
  (seqM (upM (lsetF 0 [0] (b2 addD (b2 ixD (vr 0) (cI 1)) (cI 1)) (cI 1)))
  (seqM (upM (lsetF 0 [2] (vr 2) (cI 2)))
  (ifM (tB2 ltD (vr 2) (cI 1000000000000000000)) (upM (lsetF 0 [2] (callF g_law_spread (aCons (vr 2) (aNil))) (cI 2))) (nilM))))) (nilM)) [some (.own (PoolL b ds i1 i2 i3 i4)), some (.val (.int m)), none, none, none] = .ok (.nx [some (.own (PoolL b ds j1 j2 i3 i4)), some (.val (.int m)), cc, none, none]) := by
    unfold PoolL
    by_cases h : i2 ≤ 0 ∧ i1 < ds.length
    · obtain ⟨ns, rfl⟩ := allI_ex ds ha
      have hk : i1.toNat < ns.length := by rw [List.length_map] at h; omega
      have e : ixD (.list (iL ns)) (.int i1) = .ok (.int (ns[i1.toNat]'hk)) := by
        have := ix_L (ds := iL ns) (k := i1.toNat) (d := .int (ns[i1.toNat]'hk)) (by rw [List.getElem?_map, List.getElem?_eq_getElem hk]; rfl)
        rwa [show ((i1.toNat : Nat) : Int) = i1 by omega] at this
      generalize (ns[i1.toNat]'hk) = c at e
      have hl : lenD [.list (iL ns)] = .ok (.int ((iL ns).length : Int)) := rfl
      obtain ⟨hi2, hi1⟩ := h
      generalize ((iL ns).length : Int) = L at hl hi1
      generalize iL ns = X at e hl ⊢
      by_cases hc : c < 1000000000000000000
      · obtain ⟨t, ht⟩ := spread_ok c
        exact ⟨i1 + 1, t, some (.val (.int c)), by omega, by simp [ifM, seqM, upM, nilM, lsetF, unF, ixN, ix5_0, ix5_1, ix5_2, ix5_3, ix5_4, hi2, hl, hi1, e, hc, ht]⟩
      · exact ⟨i1 + 1, c, some (.val (.int c)), by omega, by simp [ifM, seqM, upM, nilM, lsetF, unF, ixN, ix5_0, ix5_1, ix5_2, ix5_3, ix5_4, hi2, hl, hi1, e, hc]⟩
    · refine ⟨i1, i2, none, h1, ?_⟩
      by_cases hi2 : i2 ≤ 0
      · have hi1 : ¬ i1 < (ds.length : Int) := fun z => h ⟨hi2, z⟩
        have hl : lenD [.list ds] = .ok (.int (ds.length : Int)) := rfl
        generalize (ds.length : Int) = L at hl hi1
        simp [ifM, nilM, unF, ix5_0, ix5_1, ix5_2, hi2, hl, hi1]
      · simp [ifM, nilM, ix5_0, ix5_1, ix5_2, hi2]
  unfold g0_law_draw fnM b_law_draw
  rw [e0]
  by_cases hj2 : j2 ≤ 0
  · refine ⟨((i4 * 48271 + (i3 + 1) * 69621 + 1) % 2147483647 * 16807 + (i3 + 1)) % 2147483629 / 5 % m, j1, j2, i3 + 1, i4, Int.emod_nonneg _ (by omega), Int.emod_lt_of_pos _ hm, hj, ?_⟩
    rw [seqM_nx s1]
    unfold PoolL
    simp [ifM, seqM, upM, nilM, retM, lsetF, ixN, ix5_0, ix5_1, ix5_2, ix5_3, ix5_4, hj2, hm, outM, contM]
  · refine ⟨j2 % m, j1, j2 / m, i3 + 1, i4, Int.emod_nonneg _ (by omega), Int.emod_lt_of_pos _ hm, hj, ?_⟩
    rw [seqM_nx s1]
    unfold PoolL
    simp [ifM, seqM, upM, nilM, retM, lsetF, ixN, ix5_0, ix5_1, ix5_2, ix5_3, ix5_4, hj2, hm, hm2, outM, contM]

abbrev s_law_some_clause : Stmt := topS 28
abbrev N_law_some_clause : List Str := ["_law_pool_here", "_law_n", "_law_most", "_law_found", "_law_k", "_law_v"]
theorem sc_law_some_clause : FnScope N_law_some_clause ["_law_pool_here", "_law_n", "_law_most"] (defScope s_law_some_clause) := ⟨rfl, rfl, rfl, by decide +kernel, rfl, by decide +kernel, by decide +kernel⟩
abbrev S_law_some_clause_1 (v_law_pool_here v_law_n v_law_found : SV) : DSt := [some v_law_pool_here, some v_law_n, none, some v_law_found, none, none]
def lp_law_some_clause_1 : DSt → Res Out :=
  seqF (asgF [0, 1] (b2 addD (cI 1) (callF g_law_draw (aCons (vr 0) (aCons (vr 1) (aNil))))) (.nm 5))
  (seqF (ifS (tAnd' (tB2 ninD (vr 5) (vr 3)) (tB2 ninD (u1 negD (vr 5)) (vr 3))) (appF 3 [0, 5, 5] (ifE (tB2 eqD (callF g_law_draw (aCons (vr 0) (aCons (cI 2) (aNil)))) (cI 0)) (vr 5) (u1 negD (vr 5)))) (sNil)) (clr [4, 5] (sNil)))
def kx_law_some_clause_1 : DSt → Res Out :=
  clr [0, 1] (sRt (u1A tupleD (aCons (asL (u1L sorted3 (aCons (vr 3) (aNil)))) (aNil))))
def b_law_some_clause : DSt → Res Out :=
  seqF (asgO [] (u1L lstD (aNil)) 3)
  (seqF (forRC [2, 4, 5] (u1L rng1D (aCons (callF g_law_draw (aCons (vr 0) (aCons (b2 addD (vr 2) (cI 1)) (aNil)))) (aNil))) (.nm 4) (lp_law_some_clause_1))
  (kx_law_some_clause_1))
def g_law_some_clause : List PyData → Res PyData := fnD 6 b_law_some_clause
abbrev s_law_drawn_formula : Stmt := topS 29
abbrev N_law_drawn_formula : List Str := ["_law_pool_here", "_law_most", "_law_n", "_law_rows", "_law_k", "_law_row"]
theorem sc_law_drawn_formula : FnScope N_law_drawn_formula ["_law_pool_here", "_law_most"] (defScope s_law_drawn_formula) := ⟨rfl, rfl, rfl, by decide +kernel, rfl, by decide +kernel, by decide +kernel⟩
def b_law_drawn_formula : DSt → Res Out :=
  seqF (asgF [0, 1] (b2 addD (cI 1) (callF g_law_draw (aCons (vr 0) (aCons (vr 1) (aNil))))) (.nm 2))
  (seqF (asgLV [0, 0, 2] (lcF (u1L rng1D (aCons (callF g_law_draw (aCons (vr 0) (aCons (cI 7) (aNil)))) (aNil))) (.nm 4) [4] (tY) (callF g_law_some_clause (aCons (vr 0) (aCons (vr 2) (aCons (cI 3) (aNil)))))) 3)
  (seqF (asgLV [3, 5, 0, 5] (lcF (u1LE seqD (vr 3)) (.nm 5) [5] (tOr' (tB2 gtD (u1A lenD (aCons (vr 5) (aNil))) (cI 0)) (tB2 eqD (callF g_law_draw (aCons (vr 0) (aCons (cI 6) (aNil)))) (cI 0))) (vr 5)) 3)
  (sRt (u1A tupD (aCons (vr 2) (aCons (u1A tupleD (aCons (asL (u1LE sortSetA (vr 3))) (aNil))) (aNil)))))))
def g_law_drawn_formula : List PyData → Res PyData := fnD 6 b_law_drawn_formula
abbrev s_law_with : Stmt := topS 20
abbrev N_law_with : List Str := ["_law_cube", "_law_literal"]
theorem sc_law_with : FnScope N_law_with ["_law_cube", "_law_literal"] (defScope s_law_with) := ⟨rfl, rfl, rfl, by decide +kernel, rfl, by decide +kernel, by decide +kernel⟩
def b_law_with : DSt → Res Out :=
  sRt (u1A tupleD (aCons (asL (u1L sorted3 (aCons (b2 addD (asL (u1L listD (aCons (vr 0) (aNil)))) (asL (u1L lstD (aCons (vr 1) (aNil))))) (aNil)))) (aNil)))
def g_law_with : List PyData → Res PyData := fnD 2 b_law_with
abbrev s_law_cubes : Stmt := topS 26
abbrev N_law_cubes : List Str := ["_law_n", "_law_found", "_law_v", "_law_more", "_law_cube"]
theorem sc_law_cubes : FnScope N_law_cubes ["_law_n"] (defScope s_law_cubes) := ⟨rfl, rfl, rfl, by decide +kernel, rfl, by decide +kernel, by decide +kernel⟩
abbrev S_law_cubes_1 (v_law_found v_law_v v_law_more : SV) : DSt := [none, some v_law_found, some v_law_v, some v_law_more, none]
abbrev S_law_cubes_2 (v_law_found : SV) : DSt := [none, some v_law_found, none, none, none]
def lp_law_cubes_1 : DSt → Res Out :=
  seqF (asgF [3, 4, 2, 4, 2] (b2 addD (vr 3) (asL (u1L lstD (aCons (callF g_law_with (aCons (vr 4) (aCons (u1 negD (vr 2)) (aNil)))) (aCons (callF g_law_with (aCons (vr 4) (aCons (vr 2) (aNil)))) (aNil)))))) (.nm 3)) (clr [4] (sNil))
def kx_law_cubes_1 : DSt → Res Out :=
  clr [2] (seqF (asgF [1, 3] (b2 addD (vr 1) (vr 3)) (.nm 1)) (clr [2, 3, 4] (sNil)))
def lp_law_cubes_2 : DSt → Res Out :=
  seqF (asgLV [] (u1L lstD (aNil)) 3)
  (seqF (forFC [1] [0, 4] (u1LE seqD (vr 1)) (.nm 4) (lp_law_cubes_1))
  (kx_law_cubes_1))
def kx_law_cubes_2 : DSt → Res Out :=
  sRt (asL (u1L sorted3 (aCons (vr 1) (aNil))))
def b_law_cubes : DSt → Res Out :=
  seqF (asgLV [] (u1L lstD (aCons (u1A tupD (aNil)) (aNil))) 1)
  (seqF (forRC [0, 2, 3, 4] (u1L rng2D (aCons (cI 1) (aCons (b2 addD (vr 0) (cI 1)) (aNil)))) (.nm 2) (lp_law_cubes_2))
  (kx_law_cubes_2))
def g_law_cubes : List PyData → Res PyData := fnD 5 b_law_cubes
abbrev s_law_within : Stmt := topS 22
abbrev N_law_within : List Str := ["_law_small", "_law_large", "_law_literal"]
theorem sc_law_within : FnScope N_law_within ["_law_small", "_law_large"] (defScope s_law_within) := ⟨rfl, rfl, rfl, by decide +kernel, rfl, by decide +kernel, by decide +kernel⟩
def b_law_within : DSt → Res Out :=
  sRt (b2 eqD (u1A lenD (aCons (asL (lcF (u1LE seqD (vr 0)) (.nm 2) [2] (tB2 ninD (vr 2) (vr 1)) (vr 2))) (aNil))) (cI 0))
def g_law_within : List PyData → Res PyData := fnD 3 b_law_within
abbrev s_law_negated : Stmt := topS 21
abbrev N_law_negated : List Str := ["_law_cube", "_law_literal"]
theorem sc_law_negated : FnScope N_law_negated ["_law_cube"] (defScope s_law_negated) := ⟨rfl, rfl, rfl, by decide +kernel, rfl, by decide +kernel, by decide +kernel⟩
def b_law_negated : DSt → Res Out :=
  sRt (u1A tupleD (aCons (asL (u1L sorted3 (aCons (asL (lcF (u1LE seqD (vr 0)) (.nm 1) [1] (tY) (u1 negD (vr 1)))) (aNil)))) (aNil)))
def g_law_negated : List PyData → Res PyData := fnD 2 b_law_negated
abbrev s_law_fails : Stmt := topS 23
abbrev N_law_fails : List Str := ["_law_cube", "_law_clause"]
theorem sc_law_fails : FnScope N_law_fails ["_law_cube", "_law_clause"] (defScope s_law_fails) := ⟨rfl, rfl, rfl, by decide +kernel, rfl, by decide +kernel, by decide +kernel⟩
def b_law_fails : DSt → Res Out :=
  sRt (callF g_law_within (aCons (callF g_law_negated (aCons (vr 1) (aNil))) (aCons (vr 0) (aNil))))
def g_law_fails : List PyData → Res PyData := fnD 2 b_law_fails
abbrev s_law_leaf : Stmt := topS 24
abbrev N_law_leaf : List Str := ["_law_formula", "_law_cube", "_law_k"]
theorem sc_law_leaf : FnScope N_law_leaf ["_law_formula", "_law_cube"] (defScope s_law_leaf) := ⟨rfl, rfl, rfl, by decide +kernel, rfl, by decide +kernel, by decide +kernel⟩
abbrev S_law_leaf_1 (v_law_formula v_law_cube : SV) : DSt := [some v_law_formula, some v_law_cube, none]
def lp_law_leaf_1 : DSt → Res Out :=
  seqF (ifS (tTr (callF g_law_fails (aCons (vr 1) (aCons (b2 ixD (b2 ixD (vr 0) (cI 1)) (vr 2)) (aNil))))) (sRt (vr 2)) (sNil)) (clr [2] (sNil))
def kx_law_leaf_1 : DSt → Res Out :=
  clr [0, 1] (sRt (u1 negD (cI 1)))
def b_law_leaf : DSt → Res Out :=
  seqF (forRC [2] (u1L rng1D (aCons (u1A lenD (aCons (b2 ixD (vr 0) (cI 1)) (aNil))) (aNil))) (.nm 2) (lp_law_leaf_1))
  (kx_law_leaf_1)
def g_law_leaf : List PyData → Res PyData := fnD 3 b_law_leaf
abbrev s_law_model : Stmt := topS 27
abbrev N_law_model : List Str := ["_law_formula", "_law_cube"]
theorem sc_law_model : FnScope N_law_model ["_law_formula"] (defScope s_law_model) := ⟨rfl, rfl, rfl, by decide +kernel, rfl, by decide +kernel, by decide +kernel⟩
abbrev S_law_model_1 (v_law_formula : SV) : DSt := [some v_law_formula, none]
def lp_law_model_1 : DSt → Res Out :=
  seqF (ifS (tAnd' (tB2 eqD (u1A lenD (aCons (vr 1) (aNil))) (b2 ixD (vr 0) (cI 0))) (tB2 ltD (callF g_law_leaf (aCons (vr 0) (aCons (vr 1) (aNil)))) (cI 0))) (sRt (vr 1)) (sNil)) (clr [1] (sNil))
def kx_law_model_1 : DSt → Res Out :=
  clr [0] (sRt (cN))
def b_law_model : DSt → Res Out :=
  seqF (forFC [0] [1] (u1LE seqD (callF g_law_cubes (aCons (b2 ixD (vr 0) (cI 0)) (aNil)))) (.nm 1) (lp_law_model_1))
  (kx_law_model_1)
def g_law_model : List PyData → Res PyData := fnD 2 b_law_model
abbrev s_law_false_formula : Stmt := topS 30
abbrev N_law_false_formula : List Str := ["_law_pool_here", "_law_most", "_law_formula", "_law_k", "_law_model_here", "_law_clause", "_law_literal"]
theorem sc_law_false_formula : FnScope N_law_false_formula ["_law_pool_here", "_law_most"] (defScope s_law_false_formula) := ⟨rfl, rfl, rfl, by decide +kernel, rfl, by decide +kernel, by decide +kernel⟩
abbrev S_law_false_formula_1 (v_law_pool_here v_law_formula : SV) : DSt := [some v_law_pool_here, none, some v_law_formula, none, none, none, none]
def lp_law_false_formula_1 : DSt → Res Out :=
  seqF (asgF [2] (callF g_law_model (aCons (vr 2) (aNil))) (.nm 4))
  (seqF (ifS (tB2 isnD (vr 4) (cN)) (seqF (asgF [4, 0, 6] (u1A tupleD (aCons (asL (lcF (u1LE seqD (vr 4)) (.nm 6) [6] (tB2 gtD (callF g_law_draw (aCons (vr 0) (aCons (cI 3) (aNil)))) (cI 0)) (u1 negD (vr 6)))) (aNil))) (.nm 5))
  (seqF (ifS (tB2 eqD (u1A lenD (aCons (vr 5) (aNil))) (cI 0)) (asgF [4, 0, 4] (u1A tupD (aCons (u1 negD (b2 ixD (vr 4) (callF g_law_draw (aCons (vr 0) (aCons (u1A lenD (aCons (vr 4) (aNil))) (aNil)))))) (aNil))) (.nm 5)) (sNil))
  (asgF [2, 2, 5] (u1A tupD (aCons (b2 ixD (vr 2) (cI 0)) (aCons (u1A tupleD (aCons (asL (u1L sorted3 (aCons (b2 addD (asL (u1L listD (aCons (b2 ixD (vr 2) (cI 1)) (aNil)))) (asL (u1L lstD (aCons (u1A tupleD (aCons (asL (u1L sorted3 (aCons (vr 5) (aNil)))) (aNil))) (aNil))))) (aNil)))) (aNil))) (aNil)))) (.nm 2)))) (sNil)) (clr [3, 4, 5] (sNil)))
def kx_law_false_formula_1 : DSt → Res Out :=
  clr [0] (sRt (vr 2))
def b_law_false_formula : DSt → Res Out :=
  seqF (asgF [0, 1] (callF g_law_drawn_formula (aCons (vr 0) (aCons (vr 1) (aNil)))) (.nm 2))
  (seqF (forRC [1, 3, 4, 5] (u1L rng1D (aCons (b2 shlD (cI 1) (b2 ixD (vr 2) (cI 0))) (aNil))) (.nm 3) (lp_law_false_formula_1))
  (kx_law_false_formula_1))
def g_law_false_formula : List PyData → Res PyData := fnD 7 b_law_false_formula
abbrev s_law_free : Stmt := topS 25
abbrev N_law_free : List Str := ["_law_formula", "_law_cube", "_law_v"]
theorem sc_law_free : FnScope N_law_free ["_law_formula", "_law_cube"] (defScope s_law_free) := ⟨rfl, rfl, rfl, by decide +kernel, rfl, by decide +kernel, by decide +kernel⟩
def b_law_free : DSt → Res Out :=
  sRt (asL (lcF (u1L rng2D (aCons (cI 1) (aCons (b2 addD (b2 ixD (vr 0) (cI 0)) (cI 1)) (aNil)))) (.nm 2) [2] (tAnd' (tB2 ninD (vr 2) (vr 1)) (tB2 ninD (u1 negD (vr 2)) (vr 1))) (vr 2)))
def g_law_free : List PyData → Res PyData := fnD 3 b_law_free
abbrev s_law_some_tree : Stmt := topS 33
abbrev N_law_some_tree : List Str := ["_law_pool_here", "_law_formula", "_law_cube", "_law_leaf_here", "_law_fit", "_law_free_here", "_law_v", "_law_k"]
theorem sc_law_some_tree : FnScope N_law_some_tree ["_law_pool_here", "_law_formula", "_law_cube"] (defScope s_law_some_tree) := ⟨rfl, rfl, rfl, by decide +kernel, rfl, by decide +kernel, by decide +kernel⟩
def b_law_some_tree (gself : List PyData → Res PyData) : DSt → Res Out :=
  seqF (asgF [1, 2] (callF g_law_leaf (aCons (vr 1) (aCons (vr 2) (aNil)))) (.nm 3))
  (seqF (ifS (tAnd' (tB2 geD (vr 3) (cI 0)) (tOr' (tB2 eqD (u1A lenD (aCons (callF g_law_free (aCons (vr 1) (aCons (vr 2) (aNil)))) (aNil))) (cI 0)) (tB2 gtD (callF g_law_draw (aCons (vr 0) (aCons (cI 8) (aNil)))) (cI 0)))) (seqF (asgLV [1, 2, 1, 7, 7] (lcF (u1L rng1D (aCons (u1A lenD (aCons (b2 ixD (vr 1) (cI 1)) (aNil))) (aNil))) (.nm 7) [7] (tTr (callF g_law_fails (aCons (vr 2) (aCons (b2 ixD (b2 ixD (vr 1) (cI 1)) (vr 7)) (aNil))))) (vr 7)) 4)
  (sRt (u1A tupD (aCons (cS "leaf") (aCons (b2 ixD (vr 4) (callF g_law_draw (aCons (vr 0) (aCons (u1A lenD (aCons (vr 4) (aNil))) (aNil))))) (aNil)))))) (sNil))
  (seqF (asgF [1, 2] (callF g_law_free (aCons (vr 1) (aCons (vr 2) (aNil)))) (.nm 5))
  (seqF (asgF [5, 0, 5] (b2 ixD (vr 5) (callF g_law_draw (aCons (vr 0) (aCons (u1A lenD (aCons (vr 5) (aNil))) (aNil))))) (.nm 6))
  (sRt (u1A tupD (aCons (cS "ask") (aCons (vr 6) (aCons (callF gself (aCons (vr 0) (aCons (vr 1) (aCons (callF g_law_with (aCons (vr 2) (aCons (u1 negD (vr 6)) (aNil)))) (aNil))))) (aCons (callF gself (aCons (vr 0) (aCons (vr 1) (aCons (callF g_law_with (aCons (vr 2) (aCons (vr 6) (aNil)))) (aNil))))) (aNil))))))))))
def gN_law_some_tree : Nat → List PyData → Res PyData
  | 0 => fnD 8 (fun _ => .bot)
  | k + 1 => fnD 8 (b_law_some_tree (gN_law_some_tree k))
def g_law_some_tree : List PyData → Res PyData := gN_law_some_tree 12
abbrev s_law_same : Stmt := topS 13
abbrev N_law_same : List Str := ["_law_actual", "_law_due", "_law_k"]
theorem sc_law_same : FnScope N_law_same ["_law_actual", "_law_due"] (defScope s_law_same) := ⟨rfl, rfl, rfl, by decide +kernel, rfl, by decide +kernel, by decide +kernel⟩
abbrev S_law_same_1 (v_law_actual v_law_due : SV) : DSt := [some v_law_actual, some v_law_due, none]
def lp_law_same_1 (gself : List PyData → Res PyData) : DSt → Res Out :=
  seqF (ifS (tNt (tTr (callF gself (aCons (b2 ixD (vr 0) (vr 2)) (aCons (b2 ixD (vr 1) (vr 2)) (aNil)))))) (sRt (cB false)) (sNil)) (clr [2] (sNil))
def kx_law_same_1 (gself : List PyData → Res PyData) : DSt → Res Out :=
  clr [0, 1] (sRt (cB true))
def b_law_same (gself : List PyData → Res PyData) : DSt → Res Out :=
  seqF (ifS (tOr' (tTr (u1 (isiD "tuple") (vr 1))) (tTr (u1 (isiD "list") (vr 1)))) (seqF (ifS (tOr' (tB2 neD (u1 (isiD "tuple") (vr 1)) (u1 (isiD "tuple") (vr 0))) (tB2 neD (u1 (isiD "list") (vr 1)) (u1 (isiD "list") (vr 0)))) (sRt (cB false)) (sNil))
  (seqF (ifS (tB2 neD (u1A lenD (aCons (vr 0) (aNil))) (u1A lenD (aCons (vr 1) (aNil)))) (sRt (cB false)) (sNil))
  (seqF (forRC [2] (u1L rng1D (aCons (u1A lenD (aCons (vr 1) (aNil))) (aNil))) (.nm 2) (lp_law_same_1 gself))
  (kx_law_same_1 gself)))) (sNil))
  (seqF (ifS (tB2 isD (vr 1) (cN)) (sRt (b2 isD (vr 0) (cN))) (sNil))
  (seqF (ifS (tTr (u1 (isiD "bool") (vr 1))) (sRt (andF (u1 (isiD "bool") (vr 0)) (b2 eqD (vr 0) (vr 1)))) (sNil))
  (seqF (ifS (tTr (u1 (isiD "int") (vr 1))) (sRt (andF (u1 (isiD "int") (vr 0)) (andF (u1 notV (u1 (isiD "bool") (vr 0))) (b2 eqD (vr 0) (vr 1))))) (sNil))
  (sRt (andF (u1 (isiD "str") (vr 0)) (b2 eqD (vr 0) (vr 1)))))))
def gN_law_same : Nat → List PyData → Res PyData
  | 0 => fnD 3 (fun _ => .bot)
  | k + 1 => fnD 3 (b_law_same (gN_law_same k))
def g_law_same : List PyData → Res PyData := gN_law_same 12
abbrev s_is_integer : Stmt := topS 1
abbrev N_is_integer : List Str := ["value"]
theorem sc_is_integer : FnScope N_is_integer ["value"] (defScope s_is_integer) := ⟨rfl, rfl, rfl, by decide +kernel, rfl, by decide +kernel, by decide +kernel⟩
def b_is_integer : DSt → Res Out :=
  sRt (andF (u1 (isiD "int") (vr 0)) (u1 notV (u1 (isiD "bool") (vr 0))))
def g_is_integer : List PyData → Res PyData := fnD 1 b_is_integer
abbrev s_is_number : Stmt := topS 2
abbrev N_is_number : List Str := ["value"]
theorem sc_is_number : FnScope N_is_number ["value"] (defScope s_is_number) := ⟨rfl, rfl, rfl, by decide +kernel, rfl, by decide +kernel, by decide +kernel⟩
def b_is_number : DSt → Res Out :=
  sRt (andF (callF g_is_integer (aCons (vr 0) (aNil))) (b2 geD (vr 0) (cI 0)))
def g_is_number : List PyData → Res PyData := fnD 1 b_is_number
abbrev s_falsifies : Stmt := topS 3
abbrev N_falsifies : List Str := ["cube", "clause", "literal"]
theorem sc_falsifies : FnScope N_falsifies ["cube", "clause"] (defScope s_falsifies) := ⟨rfl, rfl, rfl, by decide +kernel, rfl, by decide +kernel, by decide +kernel⟩
def b_falsifies : DSt → Res Out :=
  sRt (u1A allD (aCons (asL (lcF (u1LE seqD (vr 1)) (.nm 2) [2] (tY) (b2 inD (u1 negD (vr 2)) (vr 0)))) (aNil)))
def g_falsifies : List PyData → Res PyData := fnD 3 b_falsifies
abbrev s_with_literal : Stmt := topS 4
abbrev N_with_literal : List Str := ["cube", "literal"]
theorem sc_with_literal : FnScope N_with_literal ["cube", "literal"] (defScope s_with_literal) := ⟨rfl, rfl, rfl, by decide +kernel, rfl, by decide +kernel, by decide +kernel⟩
def b_with_literal : DSt → Res Out :=
  sRt (u1A tupleD (aCons (asL (u1L sorted3 (aCons (asL (u1L lstD (stF (vr 0) (aCons (vr 1) (aNil))))) (aNil)))) (aNil)))
def g_with_literal : List PyData → Res PyData := fnD 2 b_with_literal
abbrev s_is_tree_below : Stmt := topS 6
abbrev N_is_tree_below : List Str := ["formula", "value", "cube", "_", "v", "low", "high"]
theorem sc_is_tree_below : FnScope N_is_tree_below ["formula", "value", "cube"] (defScope s_is_tree_below) := ⟨rfl, rfl, rfl, by decide +kernel, rfl, by decide +kernel, by decide +kernel⟩
def b_is_tree_below (gself : List PyData → Res PyData) : DSt → Res Out :=
  seqF (ifS (tOr' (tNt (tTr (u1 (isiD "tuple") (vr 1)))) (tOr' (tB2 ltD (u1A lenD (aCons (vr 1) (aNil))) (cI 2)) (tNt (tTr (callF g_is_number (aCons (b2 ixD (vr 1) (cI 1)) (aNil))))))) (sRt (cB false)) (sNil))
  (seqF (ifS (tAnd' (tB2 eqD (b2 ixD (vr 1) (cI 0)) (cS "leaf")) (tB2 eqD (u1A lenD (aCons (vr 1) (aNil))) (cI 2))) (sRt (andF (b2 ltD (b2 ixD (vr 1) (cI 1)) (u1A lenD (aCons (b2 ixD (vr 0) (cI 1)) (aNil)))) (callF g_falsifies (aCons (vr 2) (aCons (b2 ixD (b2 ixD (vr 0) (cI 1)) (b2 ixD (vr 1) (cI 1))) (aNil)))))) (sNil))
  (seqF (ifS (tOr' (tB2 neD (b2 ixD (vr 1) (cI 0)) (cS "ask")) (tB2 neD (u1A lenD (aCons (vr 1) (aNil))) (cI 4))) (sRt (cB false)) (sNil))
  (seqF (asgF [1] (vr 1) (.tp [3, 4, 5, 6]))
  (seqF (ifS (tOr' (tB2 eqD (vr 4) (cI 0)) (tOr' (tB2 gtD (vr 4) (b2 ixD (vr 0) (cI 0))) (tOr' (tB2 inD (vr 4) (vr 2)) (tB2 inD (u1 negD (vr 4)) (vr 2))))) (sRt (cB false)) (sNil))
  (seqF (ifS (tNt (tTr (callF gself (aCons (vr 0) (aCons (vr 5) (aCons (callF g_with_literal (aCons (vr 2) (aCons (u1 negD (vr 4)) (aNil)))) (aNil))))))) (sRt (cB false)) (sNil))
  (sRt (callF gself (aCons (vr 0) (aCons (vr 6) (aCons (callF g_with_literal (aCons (vr 2) (aCons (vr 4) (aNil)))) (aNil)))))))))))
def gN_is_tree_below : Nat → List PyData → Res PyData
  | 0 => fnD 7 (fun _ => .bot)
  | k + 1 => fnD 7 (b_is_tree_below (gN_is_tree_below k))
def g_is_tree_below : List PyData → Res PyData := gN_is_tree_below 12
abbrev s_is_tree : Stmt := topS 7
abbrev N_is_tree : List Str := ["formula", "value"]
theorem sc_is_tree : FnScope N_is_tree ["formula", "value"] (defScope s_is_tree) := ⟨rfl, rfl, rfl, by decide +kernel, rfl, by decide +kernel, by decide +kernel⟩
def b_is_tree : DSt → Res Out :=
  sRt (callF g_is_tree_below (aCons (vr 0) (aCons (vr 1) (aCons (u1A tupD (aNil)) (aNil)))))
def g_is_tree : List PyData → Res PyData := fnD 2 b_is_tree
abbrev s_law_depth : Stmt := topS 34
abbrev N_law_depth : List Str := ["_law_tree"]
theorem sc_law_depth : FnScope N_law_depth ["_law_tree"] (defScope s_law_depth) := ⟨rfl, rfl, rfl, by decide +kernel, rfl, by decide +kernel, by decide +kernel⟩
def b_law_depth (gself : List PyData → Res PyData) : DSt → Res Out :=
  sRt (ifE (tB2 eqD (b2 ixD (vr 0) (cI 0)) (cS "leaf")) (cI 0) (b2 addD (cI 1) (u1A maxD2 (aCons (callF gself (aCons (b2 ixD (vr 0) (cI 2)) (aNil))) (aCons (callF gself (aCons (b2 ixD (vr 0) (cI 3)) (aNil))) (aNil))))))
def gN_law_depth : Nat → List PyData → Res PyData
  | 0 => fnD 1 (fun _ => .bot)
  | k + 1 => fnD 1 (b_law_depth (gN_law_depth k))
def g_law_depth : List PyData → Res PyData := gN_law_depth 12
abbrev s_tree_depth : Stmt := topS 8
abbrev N_tree_depth : List Str := ["tree"]
theorem sc_tree_depth : FnScope N_tree_depth ["tree"] (defScope s_tree_depth) := ⟨rfl, rfl, rfl, by decide +kernel, rfl, by decide +kernel, by decide +kernel⟩
def b_tree_depth (gself : List PyData → Res PyData) : DSt → Res Out :=
  sRt (ifE (tB2 eqD (b2 ixD (vr 0) (cI 0)) (cS "leaf")) (cI 0) (b2 addD (cI 1) (u1A maxD2 (aCons (callF gself (aCons (b2 ixD (vr 0) (cI 2)) (aNil))) (aCons (callF gself (aCons (b2 ixD (vr 0) (cI 3)) (aNil))) (aNil))))))
def gN_tree_depth : Nat → List PyData → Res PyData
  | 0 => fnD 1 (fun _ => .bot)
  | k + 1 => fnD 1 (b_tree_depth (gN_tree_depth k))
def g_tree_depth : List PyData → Res PyData := gN_tree_depth 12
abbrev s_law_leaves : Stmt := topS 35
abbrev N_law_leaves : List Str := ["_law_tree"]
theorem sc_law_leaves : FnScope N_law_leaves ["_law_tree"] (defScope s_law_leaves) := ⟨rfl, rfl, rfl, by decide +kernel, rfl, by decide +kernel, by decide +kernel⟩
def b_law_leaves (gself : List PyData → Res PyData) : DSt → Res Out :=
  sRt (ifE (tB2 eqD (b2 ixD (vr 0) (cI 0)) (cS "leaf")) (cI 1) (b2 addD (callF gself (aCons (b2 ixD (vr 0) (cI 2)) (aNil))) (callF gself (aCons (b2 ixD (vr 0) (cI 3)) (aNil)))))
def gN_law_leaves : Nat → List PyData → Res PyData
  | 0 => fnD 1 (fun _ => .bot)
  | k + 1 => fnD 1 (b_law_leaves (gN_law_leaves k))
def g_law_leaves : List PyData → Res PyData := gN_law_leaves 12
abbrev s_tree_leaves : Stmt := topS 9
abbrev N_tree_leaves : List Str := ["tree"]
theorem sc_tree_leaves : FnScope N_tree_leaves ["tree"] (defScope s_tree_leaves) := ⟨rfl, rfl, rfl, by decide +kernel, rfl, by decide +kernel, by decide +kernel⟩
def b_tree_leaves (gself : List PyData → Res PyData) : DSt → Res Out :=
  sRt (ifE (tB2 eqD (b2 ixD (vr 0) (cI 0)) (cS "leaf")) (cI 1) (b2 addD (callF gself (aCons (b2 ixD (vr 0) (cI 2)) (aNil))) (callF gself (aCons (b2 ixD (vr 0) (cI 3)) (aNil)))))
def gN_tree_leaves : Nat → List PyData → Res PyData
  | 0 => fnD 1 (fun _ => .bot)
  | k + 1 => fnD 1 (b_tree_leaves (gN_tree_leaves k))
def g_tree_leaves : List PyData → Res PyData := gN_tree_leaves 12
abbrev s_law_rank : Stmt := topS 36
abbrev N_law_rank : List Str := ["_law_tree", "_law_low", "_law_high"]
theorem sc_law_rank : FnScope N_law_rank ["_law_tree"] (defScope s_law_rank) := ⟨rfl, rfl, rfl, by decide +kernel, rfl, by decide +kernel, by decide +kernel⟩
def b_law_rank (gself : List PyData → Res PyData) : DSt → Res Out :=
  seqF (ifS (tB2 eqD (b2 ixD (vr 0) (cI 0)) (cS "leaf")) (sRt (cI 0)) (sNil))
  (seqF (asgF [0] (callF gself (aCons (b2 ixD (vr 0) (cI 2)) (aNil))) (.nm 1))
  (seqF (asgF [0] (callF gself (aCons (b2 ixD (vr 0) (cI 3)) (aNil))) (.nm 2))
  (sRt (b2 addD (u1A maxD2 (aCons (vr 1) (aCons (vr 2) (aNil)))) (u1A intD (aCons (b2 eqD (vr 1) (vr 2)) (aNil)))))))
def gN_law_rank : Nat → List PyData → Res PyData
  | 0 => fnD 3 (fun _ => .bot)
  | k + 1 => fnD 3 (b_law_rank (gN_law_rank k))
def g_law_rank : List PyData → Res PyData := gN_law_rank 12
abbrev s_tree_rank : Stmt := topS 10
abbrev N_tree_rank : List Str := ["tree", "low", "high"]
theorem sc_tree_rank : FnScope N_tree_rank ["tree"] (defScope s_tree_rank) := ⟨rfl, rfl, rfl, by decide +kernel, rfl, by decide +kernel, by decide +kernel⟩
def b_tree_rank (gself : List PyData → Res PyData) : DSt → Res Out :=
  seqF (ifS (tB2 eqD (b2 ixD (vr 0) (cI 0)) (cS "leaf")) (sRt (cI 0)) (sNil))
  (seqF (parF 1 2 [0, 0] (aCons (callF gself (aCons (b2 ixD (vr 0) (cI 2)) (aNil))) (aCons (callF gself (aCons (b2 ixD (vr 0) (cI 3)) (aNil))) (aNil))))
  (sRt (b2 addD (u1A maxD2 (aCons (vr 1) (aCons (vr 2) (aNil)))) (u1A intD (aCons (b2 eqD (vr 1) (vr 2)) (aNil))))))
def gN_tree_rank : Nat → List PyData → Res PyData
  | 0 => fnD 3 (fun _ => .bot)
  | k + 1 => fnD 3 (b_tree_rank (gN_tree_rank k))
def g_tree_rank : List PyData → Res PyData := gN_tree_rank 12
abbrev s_find_leaf : Stmt := topS 11
abbrev N_find_leaf : List Str := ["tree", "cube"]
theorem sc_find_leaf : FnScope N_find_leaf ["tree", "cube"] (defScope s_find_leaf) := ⟨rfl, rfl, rfl, by decide +kernel, rfl, by decide +kernel, by decide +kernel⟩
def fuel_find_leaf_0 : DSt → Nat := fun _ => 1000
abbrev S_find_leaf_1 (v_tree v_cube : SV) : DSt := [some v_tree, some v_cube]
def lp_find_leaf_1 : DSt → Res Out :=
  asgF [0, 1, 0, 0] (ifE (tB2 inD (b2 ixD (vr 0) (cI 1)) (vr 1)) (b2 ixD (vr 0) (cI 3)) (b2 ixD (vr 0) (cI 2))) (.nm 0)
def kx_find_leaf_1 : DSt → Res Out :=
  clr [1] (sRt (b2 ixD (vr 0) (cI 1)))
def b_find_leaf : DSt → Res Out :=
  seqF (clr [] (whF fuel_find_leaf_0 (tB2 eqD (b2 ixD (vr 0) (cI 0)) (cS "ask")) (lp_find_leaf_1)))
  (kx_find_leaf_1)
def g_find_leaf : List PyData → Res PyData := fnD 2 b_find_leaf
abbrev s_law_end : Stmt := topS 38
abbrev N_law_end : List Str := ["_law_tree", "_law_cube"]
theorem sc_law_end : FnScope N_law_end ["_law_tree", "_law_cube"] (defScope s_law_end) := ⟨rfl, rfl, rfl, by decide +kernel, rfl, by decide +kernel, by decide +kernel⟩
def b_law_end (gself : List PyData → Res PyData) : DSt → Res Out :=
  seqF (ifS (tB2 eqD (b2 ixD (vr 0) (cI 0)) (cS "leaf")) (sRt (b2 ixD (vr 0) (cI 1))) (sNil))
  (sRt (callF gself (aCons (ifE (tB2 inD (b2 ixD (vr 0) (cI 1)) (vr 1)) (b2 ixD (vr 0) (cI 3)) (b2 ixD (vr 0) (cI 2))) (aCons (vr 1) (aNil)))))
def gN_law_end : Nat → List PyData → Res PyData
  | 0 => fnD 2 (fun _ => .bot)
  | k + 1 => fnD 2 (b_law_end (gN_law_end k))
def g_law_end : List PyData → Res PyData := gN_law_end 12
abbrev s_law_is_integer : Stmt := topS 14
abbrev N_law_is_integer : List Str := ["_law_actual"]
theorem sc_law_is_integer : FnScope N_law_is_integer ["_law_actual"] (defScope s_law_is_integer) := ⟨rfl, rfl, rfl, by decide +kernel, rfl, by decide +kernel, by decide +kernel⟩
def b_law_is_integer : DSt → Res Out :=
  sRt (andF (u1 (isiD "int") (vr 0)) (u1 notV (u1 (isiD "bool") (vr 0))))
def g_law_is_integer : List PyData → Res PyData := fnD 1 b_law_is_integer
abbrev s_law_bent : Stmt := topS 31
abbrev N_law_bent : List Str := ["_law_pool_here", "_law_value", "_law_at", "_law_turn", "_law_other", "_law_items"]
theorem sc_law_bent : FnScope N_law_bent ["_law_pool_here", "_law_value"] (defScope s_law_bent) := ⟨rfl, rfl, rfl, by decide +kernel, rfl, by decide +kernel, by decide +kernel⟩
def b_law_bent (gself : List PyData → Res PyData) : DSt → Res Out :=
  seqF (ifS (tAnd' (tTr (u1 (isiD "tuple") (vr 1))) (tAnd' (tB2 gtD (u1A lenD (aCons (vr 1) (aNil))) (cI 0)) (tB2 gtD (callF g_law_draw (aCons (vr 0) (aCons (cI 3) (aNil)))) (cI 0)))) (seqF (asgF [0, 1] (callF g_law_draw (aCons (vr 0) (aCons (u1A lenD (aCons (vr 1) (aNil))) (aNil)))) (.nm 2))
  (sRt (b2 addD (b2 addD (slF (vr 1) (oN) (oS (vr 2))) (u1A tupD (aCons (callF gself (aCons (vr 0) (aCons (b2 ixD (vr 1) (vr 2)) (aNil)))) (aNil)))) (slF (vr 1) (oS (b2 addD (vr 2) (cI 1))) (oN))))) (sNil))
  (seqF (asgF [0] (callF g_law_draw (aCons (vr 0) (aCons (cI 9) (aNil)))) (.nm 3))
  (seqF (ifS (tB2 eqD (vr 3) (cI 0)) (sRt (b2 ixD (u1A tupD (aCons (cS "x") (aCons (cB true) (aCons (u1A tupD (aNil)) (aCons (cI 0) (aCons (u1 negD (cI 1)) (aCons (cN) (aCons (cB false) (aNil))))))))) (callF g_law_draw (aCons (vr 0) (aCons (cI 7) (aNil)))))) (sNil))
  (seqF (ifS (tTr (callF g_law_is_integer (aCons (vr 1) (aNil)))) (sRt (b2 addD (vr 1) (b2 ixD (u1A tupD (aCons (cI 1) (aCons (u1 negD (cI 1)) (aCons (cI 2) (aCons (cI 0) (aNil)))))) (callF g_law_draw (aCons (vr 0) (aCons (cI 4) (aNil))))))) (sNil))
  (seqF (ifS (tOr' (tNt (tTr (u1 (isiD "tuple") (vr 1)))) (tB2 eqD (u1A lenD (aCons (vr 1) (aNil))) (cI 0))) (sRt (ifE (tB2 ltD (vr 3) (cI 5)) (u1A tupD (aCons (vr 1) (aCons (cI 0) (aNil)))) (u1A tupD (aNil)))) (sNil))
  (seqF (asgF [0, 1] (callF g_law_draw (aCons (vr 0) (aCons (u1A lenD (aCons (vr 1) (aNil))) (aNil)))) (.nm 2))
  (seqF (ifS (tB2 ltD (vr 3) (cI 3)) (sRt (b2 addD (slF (vr 1) (oN) (oS (vr 2))) (slF (vr 1) (oS (b2 addD (vr 2) (cI 1))) (oN)))) (sNil))
  (seqF (ifS (tB2 ltD (vr 3) (cI 5)) (sRt (b2 addD (b2 addD (slF (vr 1) (oN) (oS (vr 2))) (u1A tupD (aCons (b2 ixD (vr 1) (vr 2)) (aNil)))) (slF (vr 1) (oS (vr 2)) (oN)))) (sNil))
  (seqF (ifS (tB2 eqD (vr 3) (cI 5)) (sRt (asL (u1L listD (aCons (vr 1) (aNil))))) (sNil))
  (seqF (asgF [0, 1] (callF g_law_draw (aCons (vr 0) (aCons (u1A lenD (aCons (vr 1) (aNil))) (aNil)))) (.nm 4))
  (seqF (asgO [1] (u1L listD (aCons (vr 1) (aNil))) 5)
  (seqF (lsetF 5 [1, 4] (b2 ixD (vr 1) (vr 4)) (vr 2))
  (seqF (lsetF 5 [1, 2] (b2 ixD (vr 1) (vr 2)) (vr 4))
  (sRt (u1A tupleD (aCons (vr 5) (aNil))))))))))))))))
def gN_law_bent : Nat → List PyData → Res PyData
  | 0 => fnD 6 (fun _ => .bot)
  | k + 1 => fnD 6 (b_law_bent (gN_law_bent k))
def g_law_bent : List PyData → Res PyData := gN_law_bent 24
abbrev s_law_is_tree : Stmt := topS 37
abbrev N_law_is_tree : List Str := ["_law_formula", "_law_value", "_law_cube", "_law_v"]
theorem sc_law_is_tree : FnScope N_law_is_tree ["_law_formula", "_law_value", "_law_cube"] (defScope s_law_is_tree) := ⟨rfl, rfl, rfl, by decide +kernel, rfl, by decide +kernel, by decide +kernel⟩
def b_law_is_tree (gself : List PyData → Res PyData) : DSt → Res Out :=
  seqF (ifS (tOr' (tNt (tTr (u1 (isiD "tuple") (vr 1)))) (tOr' (tB2 ltD (u1A lenD (aCons (vr 1) (aNil))) (cI 2)) (tNt (tTr (callF g_law_is_integer (aCons (b2 ixD (vr 1) (cI 1)) (aNil))))))) (sRt (cB false)) (sNil))
  (seqF (ifS (tAnd' (tB2 eqD (u1A lenD (aCons (vr 1) (aNil))) (cI 2)) (tB2 eqD (b2 ixD (vr 1) (cI 0)) (cS "leaf"))) (sRt (andF (chF leD ltD (cI 0) (b2 ixD (vr 1) (cI 1)) (u1A lenD (aCons (b2 ixD (vr 0) (cI 1)) (aNil)))) (callF g_law_fails (aCons (vr 2) (aCons (b2 ixD (b2 ixD (vr 0) (cI 1)) (b2 ixD (vr 1) (cI 1))) (aNil)))))) (sNil))
  (seqF (ifS (tOr' (tB2 neD (u1A lenD (aCons (vr 1) (aNil))) (cI 4)) (tOr' (tB2 neD (b2 ixD (vr 1) (cI 0)) (cS "ask")) (tB2 ninD (b2 ixD (vr 1) (cI 1)) (callF g_law_free (aCons (vr 0) (aCons (vr 2) (aNil))))))) (sRt (cB false)) (sNil))
  (seqF (asgF [1] (b2 ixD (vr 1) (cI 1)) (.nm 3))
  (sRt (andF (callF gself (aCons (vr 0) (aCons (b2 ixD (vr 1) (cI 2)) (aCons (callF g_law_with (aCons (vr 2) (aCons (u1 negD (vr 3)) (aNil)))) (aNil))))) (callF gself (aCons (vr 0) (aCons (b2 ixD (vr 1) (cI 3)) (aCons (callF g_law_with (aCons (vr 2) (aCons (vr 3) (aNil)))) (aNil))))))))))
def gN_law_is_tree : Nat → List PyData → Res PyData
  | 0 => fnD 4 (fun _ => .bot)
  | k + 1 => fnD 4 (b_law_is_tree (gN_law_is_tree k))
def g_law_is_tree : List PyData → Res PyData := gN_law_is_tree 12
abbrev s_law : Stmt := topS 39
abbrev N_law : List Str := ["_law_script", "_law_pool_here", "_law_formula", "_law_tree", "_law_cube", "_law_leaf_here", "_law_value", "_law_turn"]
theorem sc_law : FnScope N_law ["_law_script"] (defScope s_law) := ⟨rfl, rfl, rfl, by decide +kernel, rfl, by decide +kernel, by decide +kernel⟩
abbrev S_law_1 (v_law_pool_here v_law_formula v_law_tree : SV) : DSt := [none, some v_law_pool_here, some v_law_formula, some v_law_tree, none, none, none, none]
abbrev S_law_2 (v_law_pool_here v_law_formula v_law_tree v_law_value : SV) : DSt := [none, some v_law_pool_here, some v_law_formula, some v_law_tree, none, none, some v_law_value, none]
def lp_law_1 : DSt → Res Out :=
  seqF (ifS (tB2 eqD (u1A lenD (aCons (vr 4) (aNil))) (b2 ixD (vr 2) (cI 0))) (seqF (asgF [3, 4] (callF g_find_leaf (aCons (vr 3) (aCons (vr 4) (aNil)))) (.nm 5))
  (ifS (tOr' (tNt (tTr (callF g_law_same (aCons (vr 5) (aCons (callF g_law_end (aCons (vr 3) (aCons (vr 4) (aNil)))) (aNil)))))) (tNt (tTr (callF g_law_fails (aCons (vr 4) (aCons (b2 ixD (b2 ixD (vr 2) (cI 1)) (vr 5)) (aNil))))))) (sRt (cB false)) (sNil))) (sNil)) (clr [4, 5] (sNil))
def lp_law_2 : DSt → Res Out :=
  seqF (asgF [1, 1, 6, 3] (callF g_law_bent (aCons (vr 1) (aCons (ifE (tB2 eqD (callF g_law_draw (aCons (vr 1) (aCons (cI 3) (aNil)))) (cI 0)) (vr 6) (vr 3)) (aNil)))) (.nm 6))
  (seqF (ifS (tNt (tTr (callF g_law_same (aCons (callF g_is_tree (aCons (vr 2) (aCons (vr 6) (aNil)))) (aCons (callF g_law_is_tree (aCons (vr 2) (aCons (vr 6) (aCons (u1A tupD (aNil)) (aNil))))) (aNil)))))) (sRt (cB false)) (sNil)) (clr [7] (sNil)))
def kx_law_1 : DSt → Res Out :=
  clr [1, 2, 3, 6] (sRt (cB true))
def kx_law_2 : DSt → Res Out :=
  seqF (asgF [3] (vr 3) (.nm 6))
  (seqF (forRC [0, 4, 5, 7] (u1L rng1D (aCons (cI 8) (aNil))) (.nm 7) (lp_law_2))
  (kx_law_1))
def b_law : DSt → Res Out :=
  seqF (asgF [0] (callF g_law_pool (aCons (vr 0) (aNil))) (.nm 1))
  (seqF (asgF [1] (callF g_law_false_formula (aCons (vr 1) (aCons (cI 4) (aNil)))) (.nm 2))
  (seqF (asgF [1, 2] (callF g_law_some_tree (aCons (vr 1) (aCons (vr 2) (aCons (u1A tupD (aNil)) (aNil))))) (.nm 3))
  (seqF (ifS (tOr' (tNt (tTr (callF g_law_same (aCons (callF g_is_tree (aCons (vr 2) (aCons (vr 3) (aNil)))) (aCons (cB true) (aNil)))))) (tNt (tTr (callF g_law_same (aCons (callF g_tree_depth (aCons (vr 3) (aNil))) (aCons (callF g_law_depth (aCons (vr 3) (aNil))) (aNil))))))) (sRt (cB false)) (sNil))
  (seqF (ifS (tOr' (tNt (tTr (callF g_law_same (aCons (callF g_tree_leaves (aCons (vr 3) (aNil))) (aCons (callF g_law_leaves (aCons (vr 3) (aNil))) (aNil)))))) (tNt (tTr (callF g_law_same (aCons (callF g_tree_rank (aCons (vr 3) (aNil))) (aCons (callF g_law_rank (aCons (vr 3) (aNil))) (aNil))))))) (sRt (cB false)) (sNil))
  (seqF (forFC [2] [0, 4, 5, 6, 7] (u1LE seqD (callF g_law_cubes (aCons (b2 ixD (vr 2) (cI 0)) (aNil)))) (.nm 4) (lp_law_1))
  (kx_law_2))))))
def g_law : List PyData → Res PyData := fnD 8 b_law
section
variable {P : Program} {w : World} {K : PySem.W.Frag} {mg : Str → Option Value} {base : Heap}
theorem fd_law_pool (B : MB mg) (T : TxtF K mg "_law_pool" s_law_pool ["_law_script"])   : FD P w K mg base 1 1 "_law_pool" g_law_pool := by
  obtain ⟨f, fd, F, hm, b⟩ := T.ex
  have nd := sc_law_pool.nd
  refine pool_of ?_ ok_law_pool
  exact fdf_of F hm b sc_law_pool (g := b_law_pool) (fun cdv A outer s H E hr => ⟨_,
    dfu_cons (ds_set (i := 1) nd rfl (by first | exact Or.inl rfl | exact Or.inr rfl) (de_int))
      (dfu_cons (ds_forC [2] PassesOwn.never rfl (di_seqK K (de_sliceK K (dv 0) (do_none) (do_some (de_int)))) (dg_name (i := 2) nd rfl (by first | exact Or.inl rfl | exact Or.inr rfl)) (dss_cons (ds_set (i := 1) nd rfl (by first | exact Or.inl rfl | exact Or.inr rfl) (de_op od_mod opI2_ne (de_cty (cd_int) (by rfl) (by exact B.m_int) (by decide +kernel) (da_cons (de_op (od_addK K) addD_ne (de_op od_mul opI2_ne (dv 1) (de_int)) (dv 2)) (da_nil))) (de_int))) (dss_clr [2] (dss_nil))))
      (dfu_retL (df_lst (da_cons (de_of_df (df_cty (cf_listK K) (by rfl) (by exact B.m_list) (by decide +kernel) (da_cons (dv 0) (da_nil)))) (da_cons (de_int) (da_cons (de_int) (da_cons (de_int) (da_cons (dv 1) (da_nil)))))))))⟩)
theorem fd_law_spread (B : MB mg) (T : TxtF K mg "_law_spread" s_law_spread ["_law_cell"])   : FD P w K mg base 1 1 "_law_spread" g_law_spread := by
  obtain ⟨f, fd, F, hm, b⟩ := T.ex
  have nd := sc_law_spread.nd
  exact fd_of F hm b sc_law_spread (g := b_law_spread) (fun cdv A outer s H E hr => ⟨_,
    dss_cons (ds_set (i := 1) nd rfl (by first | exact Or.inl rfl | exact Or.inr rfl) (de_op od_mod opI2_ne (de_cty (cd_int) (by rfl) (by exact B.m_int) (by decide +kernel) (da_cons (dv 0) (da_nil))) (de_int)))
      (dss_cons (ds_set (i := 2) nd rfl (by first | exact Or.inl rfl | exact Or.inr rfl) (de_int))
      (dss_cons (ds_forRC [0, 3] PassesOwn.never rfl (dr_range1 (by rfl) (by exact B.m_range) (da_cons (de_int) (da_nil))) (dg_name (i := 3) nd rfl (by first | exact Or.inl rfl | exact Or.inr rfl)) (dss_cons (ds_set (i := 1) nd rfl (by first | exact Or.inl rfl | exact Or.inr rfl) (de_op od_mod opI2_ne (de_cty (cd_int) (by rfl) (by exact B.m_int) (by decide +kernel) (da_cons (de_op (od_addK K) addD_ne (de_op (od_addK K) addD_ne (de_op od_mul opI2_ne (dv 1) (de_int)) (de_int)) (dv 3)) (da_nil))) (de_int)))
      (dss_cons (ds_set (i := 2) nd rfl (by first | exact Or.inl rfl | exact Or.inr rfl) (de_op (od_addK K) addD_ne (de_op od_mul opI2_ne (dv 2) (de_int)) (dv 1))) (dss_clr [3] (dss_nil)))))
      (dss_clr [1] (dss_one (ds_ret (dv 2))))))⟩)
theorem fd_law_draw (B : MB mg) (T : TxtF K mg "_law_draw" s_law_draw ["_law_pool_here", "_law_many"])  (c_law_spread : FD P w K mg base 1 1 "_law_spread" g_law_spread) : FD P w K mg base 2 2 "_law_draw" g_law_draw := by
  obtain ⟨f, fd, F, hm, b⟩ := T.ex
  have nd := sc_law_draw.nd
  refine draw_of ?_ ok_law_draw
  exact fdm_of F hm b sc_law_draw rfl (g := b_law_draw) (fun cdv A outer s H E hr => ⟨_,
    dmu_cons (dmu_if (DW.dt (dw_and (dt_cmp (od_leK K (hu64 hr)) leD_ne (nomark _) (de_ixK K (fun _ _ => rfl) (dv 0) (de_int)) (de_int)) (dw_and1 (dt_cmp (od_ltK K (hu64 hr)) ltD_ne (nomark _) (de_ixK K (fun _ _ => rfl) (dv 0) (de_int)) (de_cb (cd_lenK K) (by rfl) (by exact B.m_len) (by decide +kernel) (da_cons (de_unn (de_ixK K (fun _ _ => rfl) (dv 0) (de_int))) (da_nil))))))) (dmu_cons (dmu_set (i := 2) nd rfl (by first | exact Or.inl rfl | exact Or.inr rfl) (de_ixK K (fun _ _ => rfl) (de_unn (de_ixK K (fun _ _ => rfl) (dv 0) (de_int))) (de_ixK K (fun _ _ => rfl) (dv 0) (de_int))) (by decide))
      (dmu_cons (dmu_lset (i := 0) rfl (by first | exact Or.inl rfl | exact Or.inr (Or.inl rfl) | exact Or.inr (Or.inr rfl)) (de_op (od_addK K) addD_ne (de_ixK K (fun _ _ => rfl) (dv 0) (de_int)) (de_int)) (de_int))
      (dmu_cons (dmu_lset (i := 0) rfl (by first | exact Or.inl rfl | exact Or.inr (Or.inl rfl) | exact Or.inr (Or.inr rfl)) (dv 2) (de_int))
      (dmu_one (dmu_if (dt_cmp (od_ltK K (hu64 hr)) ltD_ne (nomark _) (dv 2) (de_int)) (dmu_one (dmu_lset (i := 0) rfl (by first | exact Or.inl rfl | exact Or.inr (Or.inl rfl) | exact Or.inr (Or.inr rfl)) (de_callK K mg c_law_spread hr (by decide) (by rfl) (by rfl) (da_cons (dv 2) (da_nil))) (de_int))) (dmu_nil)))))) (dmu_nil))
      (dmu_cons (dmu_lset (i := 0) rfl (by first | exact Or.inl rfl | exact Or.inr (Or.inl rfl) | exact Or.inr (Or.inr rfl)) (de_op (od_addK K) addD_ne (de_ixK K (fun _ _ => rfl) (dv 0) (de_int)) (de_int)) (de_int))
      (dmu_cons (dmu_if (dt_cmp (od_leK K (hu64 hr)) leD_ne (nomark _) (de_ixK K (fun _ _ => rfl) (dv 0) (de_int)) (de_int)) (dmu_cons (dmu_set (i := 3) nd rfl (by first | exact Or.inl rfl | exact Or.inr rfl) (de_op od_mod opI2_ne (de_cty (cd_int) (by rfl) (by exact B.m_int) (by decide +kernel) (da_cons (de_op (od_addK K) addD_ne (de_op (od_addK K) addD_ne (de_op od_mul opI2_ne (de_ixK K (fun _ _ => rfl) (dv 0) (de_int)) (de_int)) (de_op od_mul opI2_ne (de_ixK K (fun _ _ => rfl) (dv 0) (de_int)) (de_int))) (de_int)) (da_nil))) (de_int)) (by decide))
      (dmu_cons (dmu_set (i := 3) nd rfl (by first | exact Or.inl rfl | exact Or.inr rfl) (de_op od_mod opI2_ne (de_cty (cd_int) (by rfl) (by exact B.m_int) (by decide +kernel) (da_cons (de_op (od_addK K) addD_ne (de_op od_mul opI2_ne (dv 3) (de_int)) (de_ixK K (fun _ _ => rfl) (dv 0) (de_int))) (da_nil))) (de_int)) (by decide))
      (dmu_one (dmu_ret (de_op od_mod opI2_ne (de_op od_fdiv opI2_ne (dv 3) (de_int)) (dv 1)))))) (dmu_nil))
      (dmu_cons (dmu_set (i := 4) nd rfl (by first | exact Or.inl rfl | exact Or.inr rfl) (de_op od_mod opI2_ne (de_cty (cd_int) (by rfl) (by exact B.m_int) (by decide +kernel) (da_cons (de_ixK K (fun _ _ => rfl) (dv 0) (de_int)) (da_nil))) (dv 1)) (by decide))
      (dmu_cons (dmu_lset (i := 0) rfl (by first | exact Or.inl rfl | exact Or.inr (Or.inl rfl) | exact Or.inr (Or.inr rfl)) (de_op od_fdiv opI2_ne (de_ixK K (fun _ _ => rfl) (dv 0) (de_int)) (dv 1)) (de_int))
      (dmu_one (dmu_ret (dv 4)))))))⟩)
theorem fd_law_some_clause (B : MB mg) (T : TxtF K mg "_law_some_clause" s_law_some_clause ["_law_pool_here", "_law_n", "_law_most"])  (c_law_draw : FD P w K mg base 2 2 "_law_draw" g_law_draw) : FD P w K mg base 3 3 "_law_some_clause" g_law_some_clause := by
  obtain ⟨f, fd, F, hm, b⟩ := T.ex
  have nd := sc_law_some_clause.nd
  exact fd_of F hm b sc_law_some_clause (g := b_law_some_clause) (fun cdv A outer s H E hr => ⟨_,
    dss_cons (ds_setO (i := 3) nd rfl (by first | exact Or.inl rfl | exact Or.inr rfl) (df_lst (da_nil)))
      (dss_cons (ds_forRC [2, 4, 5] PassesOwn.never rfl (dr_range1 (by rfl) (by exact B.m_range) (da_cons (de_callK K mg c_law_draw hr (by decide) (by rfl) (by rfl) (da_cons (dv 0) (da_cons (de_op (od_addK K) addD_ne (dv 2) (de_int)) (da_nil)))) (da_nil))) (dg_name (i := 4) nd rfl (by first | exact Or.inl rfl | exact Or.inr rfl)) (dss_cons (ds_set (i := 5) nd rfl (by first | exact Or.inl rfl | exact Or.inr rfl) (de_op (od_addK K) addD_ne (de_int) (de_callK K mg c_law_draw hr (by decide) (by rfl) (by rfl) (da_cons (dv 0) (da_cons (dv 1) (da_nil))))))
      (dss_cons (ds_if (DW.dt (dw_and (dt_cmp (od_ninK K (hu65 hr)) ninD_ne rfl (dv 5) (dv 3)) (dw_and1 (dt_cmp (od_ninK K (hu65 hr)) ninD_ne rfl (de_neg (dv 5)) (dv 3))))) (dss_one (ds_append (i := 3) rfl (by first | exact Or.inl rfl | exact Or.inr (Or.inl rfl) | exact Or.inr (Or.inr rfl)) (de_ifExp (dt_cmp (od_eqK K (hu64 hr)) eqD_ne (nomark _) (de_callK K mg c_law_draw hr (by decide) (by rfl) (by rfl) (da_cons (dv 0) (da_cons (de_int) (da_nil)))) (de_int)) (dv 5) (de_neg (dv 5))))) (dss_nil)) (dss_clr [4, 5] (dss_nil)))))
      (dss_clr [0, 1] (dss_one (ds_ret (de_cty (cd_tupleK K) (by rfl) (by exact B.m_tuple) (by decide +kernel) (da_cons (de_of_df (df_cb (cf_sorted3 K (hu66 hr) rfl) (by rfl) (by exact B.m_sorted) (by decide +kernel) (da_cons (dv 3) (da_nil)))) (da_nil)))))))⟩)
theorem fd_law_drawn_formula (B : MB mg) (T : TxtF K mg "_law_drawn_formula" s_law_drawn_formula ["_law_pool_here", "_law_most"])  (c_law_draw : FD P w K mg base 2 2 "_law_draw" g_law_draw) (c_law_some_clause : FD P w K mg base 3 3 "_law_some_clause" g_law_some_clause) : FD P w K mg base 4 2 "_law_drawn_formula" g_law_drawn_formula := by
  obtain ⟨f, fd, F, hm, b⟩ := T.ex
  have nd := sc_law_drawn_formula.nd
  exact fd_of F hm b sc_law_drawn_formula (g := b_law_drawn_formula) (fun cdv A outer s H E hr => ⟨_,
    dss_cons (ds_set (i := 2) nd rfl (by first | exact Or.inl rfl | exact Or.inr rfl) (de_op (od_addK K) addD_ne (de_int) (de_callK K mg c_law_draw hr (by decide) (by rfl) (by rfl) (da_cons (dv 0) (da_cons (dv 1) (da_nil))))))
      (dss_cons (ds_toVal (ds_setLc (i := 3) rfl rfl (sw_true rfl rfl rfl (by decide +kernel)) (own := [("_law_k", 4)]) rfl nd ((dr_range1 (by rfl) (by exact B.m_range) (da_cons (de_callK K mg c_law_draw hr (by decide) (by rfl) (by rfl) (da_cons (dv 0) (da_cons (de_int) (da_nil)))) (da_nil))).di) (blkOk_by (own := [("_law_k", 4)]) (N := N_law_drawn_formula) (sc := defScope s_law_drawn_formula) (by decide +kernel)) (fun _ _ _ _ _ => dg_name (i := 4) nd rfl (by first | exact Or.inl rfl | exact Or.inr rfl)) (by decide) (fun _ _ _ _ _ => dts_nil) (fun _ _ _ _ _ => de_callK K mg c_law_some_clause hr (by decide) (by rfl) (by rfl) (da_cons (dv 0) (da_cons (dv 2) (da_cons (de_int) (da_nil)))))))
      (dss_cons (ds_toVal (ds_setLc (i := 3) rfl rfl (sw_true rfl rfl rfl (by decide +kernel)) (own := [("_law_row", 5)]) rfl nd (di_seqK K (dv 3)) (blkOk_by (own := [("_law_row", 5)]) (N := N_law_drawn_formula) (sc := defScope s_law_drawn_formula) (by decide +kernel)) (fun _ _ _ _ _ => dg_name (i := 5) nd rfl (by first | exact Or.inl rfl | exact Or.inr rfl)) (by decide) (fun _ _ _ _ _ => dts_one (DW.dt (dw_or (dt_cmp (od_gtK K (hu64 hr)) gtD_ne (nomark _) (de_cb (cd_lenK K) (by rfl) (by exact B.m_len) (by decide +kernel) (da_cons (dv 5) (da_nil))) (de_int)) (dw_or1 (dt_cmp (od_eqK K (hu64 hr)) eqD_ne (nomark _) (de_callK K mg c_law_draw hr (by decide) (by rfl) (by rfl) (da_cons (dv 0) (da_cons (de_int) (da_nil)))) (de_int)))))) (fun _ _ _ _ _ => dv 5)))
      (dss_one (ds_ret (de_tup (da_cons (dv 2) (da_cons (de_cty (cd_tupleK K) (by rfl) (by exact B.m_tuple) (by decide +kernel) (da_cons (de_of_df (df_sortSetA K P w (hu66 hr) rfl (by rfl) (by exact B.m_sorted) (by rfl) (by exact B.m_set) (dv 3))) (da_nil))) (da_nil))))))))⟩)
theorem fd_law_with (B : MB mg) (T : TxtF K mg "_law_with" s_law_with ["_law_cube", "_law_literal"])   : FD P w K mg base 1 2 "_law_with" g_law_with := by
  obtain ⟨f, fd, F, hm, b⟩ := T.ex
  have nd := sc_law_with.nd
  exact fd_of F hm b sc_law_with (g := b_law_with) (fun cdv A outer s H E hr => ⟨_,
    dss_one (ds_ret (de_cty (cd_tupleK K) (by rfl) (by exact B.m_tuple) (by decide +kernel) (da_cons (de_of_df (df_cb (cf_sorted3 K (hu66 hr) rfl) (by rfl) (by exact B.m_sorted) (by decide +kernel) (da_cons (de_op (od_addK K) addD_ne (de_of_df (df_cty (cf_listK K) (by rfl) (by exact B.m_list) (by decide +kernel) (da_cons (dv 0) (da_nil)))) (de_of_df (df_lst (da_cons (dv 1) (da_nil))))) (da_nil)))) (da_nil))))⟩)
theorem fd_law_cubes (B : MB mg) (T : TxtF K mg "_law_cubes" s_law_cubes ["_law_n"])  (c_law_with : FD P w K mg base 1 2 "_law_with" g_law_with) : FD P w K mg base 2 1 "_law_cubes" g_law_cubes := by
  obtain ⟨f, fd, F, hm, b⟩ := T.ex
  have nd := sc_law_cubes.nd
  exact fd_of F hm b sc_law_cubes (g := b_law_cubes) (fun cdv A outer s H E hr => ⟨_,
    dss_cons (ds_toVal (ds_setO (i := 1) nd rfl (by first | exact Or.inl rfl | exact Or.inr rfl) (df_lst (da_cons (de_tup (da_nil)) (da_nil)))))
      (dss_cons (ds_forRC [0, 2, 3, 4] PassesOwn.never rfl (dr_range2 (by rfl) (by exact B.m_range) (da_cons (de_int) (da_cons (de_op (od_addK K) addD_ne (dv 0) (de_int)) (da_nil)))) (dg_name (i := 2) nd rfl (by first | exact Or.inl rfl | exact Or.inr rfl)) (dss_cons (ds_toVal (ds_setO (i := 3) nd rfl (by first | exact Or.inl rfl | exact Or.inr rfl) (df_lst (da_nil))))
      (dss_cons (ds_forC [0, 4] PassesOwn.never rfl (di_seqK K (dv 1)) (dg_name (i := 4) nd rfl (by first | exact Or.inl rfl | exact Or.inr rfl)) (dss_cons (ds_set (i := 3) nd rfl (by first | exact Or.inl rfl | exact Or.inr rfl) (de_op (od_addK K) addD_ne (dv 3) (de_of_df (df_lst (da_cons (de_callK K mg c_law_with hr (by decide) (by rfl) (by rfl) (da_cons (dv 4) (da_cons (de_neg (dv 2)) (da_nil)))) (da_cons (de_callK K mg c_law_with hr (by decide) (by rfl) (by rfl) (da_cons (dv 4) (da_cons (dv 2) (da_nil)))) (da_nil))))))) (dss_clr [4] (dss_nil))))
      (dss_clr [2] (dss_cons (ds_set (i := 1) nd rfl (by first | exact Or.inl rfl | exact Or.inr rfl) (de_op (od_addK K) addD_ne (dv 1) (dv 3))) (dss_clr [2, 3, 4] (dss_nil)))))))
      (dss_one (ds_ret (de_of_df (df_cb (cf_sorted3 K (hu66 hr) rfl) (by rfl) (by exact B.m_sorted) (by decide +kernel) (da_cons (dv 1) (da_nil)))))))⟩)
theorem fd_law_within (B : MB mg) (T : TxtF K mg "_law_within" s_law_within ["_law_small", "_law_large"])   : FD P w K mg base 1 2 "_law_within" g_law_within := by
  obtain ⟨f, fd, F, hm, b⟩ := T.ex
  have nd := sc_law_within.nd
  exact fd_of F hm b sc_law_within (g := b_law_within) (fun cdv A outer s H E hr => ⟨_,
    dss_one (ds_ret (de_cmp (od_eqK K (hu64 hr)) eqD_ne (nomark _) (de_cb (cd_lenK K) (by rfl) (by exact B.m_len) (by decide +kernel) (da_cons (de_of_df (df_lc (own := [("_law_literal", 2)]) rfl nd (di_seqK K (dv 0)) (blkOk_by (own := [("_law_literal", 2)]) (N := N_law_within) (sc := defScope s_law_within) (by decide +kernel)) (fun _ _ _ _ _ => dg_name (i := 2) nd rfl (by first | exact Or.inl rfl | exact Or.inr rfl)) (by decide) (fun _ _ _ _ _ => dts_one (dt_cmp (od_ninK K (hu65 hr)) ninD_ne rfl (dv 2) (dv 1))) (fun _ _ _ _ _ => dv 2))) (da_nil))) (de_int)))⟩)
theorem fd_law_negated (B : MB mg) (T : TxtF K mg "_law_negated" s_law_negated ["_law_cube"])   : FD P w K mg base 1 1 "_law_negated" g_law_negated := by
  obtain ⟨f, fd, F, hm, b⟩ := T.ex
  have nd := sc_law_negated.nd
  exact fd_of F hm b sc_law_negated (g := b_law_negated) (fun cdv A outer s H E hr => ⟨_,
    dss_one (ds_ret (de_cty (cd_tupleK K) (by rfl) (by exact B.m_tuple) (by decide +kernel) (da_cons (de_of_df (df_cb (cf_sorted3 K (hu66 hr) rfl) (by rfl) (by exact B.m_sorted) (by decide +kernel) (da_cons (de_of_df (df_lc (own := [("_law_literal", 1)]) rfl nd (di_seqK K (dv 0)) (blkOk_by (own := [("_law_literal", 1)]) (N := N_law_negated) (sc := defScope s_law_negated) (by decide +kernel)) (fun _ _ _ _ _ => dg_name (i := 1) nd rfl (by first | exact Or.inl rfl | exact Or.inr rfl)) (by decide) (fun _ _ _ _ _ => dts_nil) (fun _ _ _ _ _ => de_neg (dv 1)))) (da_nil)))) (da_nil))))⟩)
theorem fd_law_fails (B : MB mg) (T : TxtF K mg "_law_fails" s_law_fails ["_law_cube", "_law_clause"])  (c_law_within : FD P w K mg base 1 2 "_law_within" g_law_within) (c_law_negated : FD P w K mg base 1 1 "_law_negated" g_law_negated) : FD P w K mg base 2 2 "_law_fails" g_law_fails := by
  obtain ⟨f, fd, F, hm, b⟩ := T.ex
  have nd := sc_law_fails.nd
  exact fd_of F hm b sc_law_fails (g := b_law_fails) (fun cdv A outer s H E hr => ⟨_,
    dss_one (ds_ret (de_callK K mg c_law_within hr (by decide) (by rfl) (by rfl) (da_cons (de_callK K mg c_law_negated hr (by decide) (by rfl) (by rfl) (da_cons (dv 1) (da_nil))) (da_cons (dv 0) (da_nil)))))⟩)
theorem fd_law_leaf (B : MB mg) (T : TxtF K mg "_law_leaf" s_law_leaf ["_law_formula", "_law_cube"])  (c_law_fails : FD P w K mg base 2 2 "_law_fails" g_law_fails) : FD P w K mg base 3 2 "_law_leaf" g_law_leaf := by
  obtain ⟨f, fd, F, hm, b⟩ := T.ex
  have nd := sc_law_leaf.nd
  exact fd_of F hm b sc_law_leaf (g := b_law_leaf) (fun cdv A outer s H E hr => ⟨_,
    dss_cons (ds_forRC [2] PassesOwn.never rfl (dr_range1 (by rfl) (by exact B.m_range) (da_cons (de_cb (cd_lenK K) (by rfl) (by exact B.m_len) (by decide +kernel) (da_cons (de_ixK K (fun _ _ => rfl) (dv 0) (de_int)) (da_nil))) (da_nil))) (dg_name (i := 2) nd rfl (by first | exact Or.inl rfl | exact Or.inr rfl)) (dss_cons (ds_if (dt_truthK K (de_callK K mg c_law_fails hr (by decide) (by rfl) (by rfl) (da_cons (dv 1) (da_cons (de_ixK K (fun _ _ => rfl) (de_ixK K (fun _ _ => rfl) (dv 0) (de_int)) (dv 2)) (da_nil))))) (dss_one (ds_ret (dv 2))) (dss_nil)) (dss_clr [2] (dss_nil))))
      (dss_clr [0, 1] (dss_one (ds_ret (de_neg (de_int)))))⟩)
theorem fd_law_model (B : MB mg) (T : TxtF K mg "_law_model" s_law_model ["_law_formula"])  (c_law_cubes : FD P w K mg base 2 1 "_law_cubes" g_law_cubes) (c_law_leaf : FD P w K mg base 3 2 "_law_leaf" g_law_leaf) : FD P w K mg base 4 1 "_law_model" g_law_model := by
  obtain ⟨f, fd, F, hm, b⟩ := T.ex
  have nd := sc_law_model.nd
  exact fd_of F hm b sc_law_model (g := b_law_model) (fun cdv A outer s H E hr => ⟨_,
    dss_cons (ds_forC [1] PassesOwn.never rfl (di_seqK K (de_callK K mg c_law_cubes hr (by decide) (by rfl) (by rfl) (da_cons (de_ixK K (fun _ _ => rfl) (dv 0) (de_int)) (da_nil)))) (dg_name (i := 1) nd rfl (by first | exact Or.inl rfl | exact Or.inr rfl)) (dss_cons (ds_if (DW.dt (dw_and (dt_cmp (od_eqK K (hu64 hr)) eqD_ne (nomark _) (de_cb (cd_lenK K) (by rfl) (by exact B.m_len) (by decide +kernel) (da_cons (dv 1) (da_nil))) (de_ixK K (fun _ _ => rfl) (dv 0) (de_int))) (dw_and1 (dt_cmp (od_ltK K (hu64 hr)) ltD_ne (nomark _) (de_callK K mg c_law_leaf hr (by decide) (by rfl) (by rfl) (da_cons (dv 0) (da_cons (dv 1) (da_nil)))) (de_int))))) (dss_one (ds_ret (dv 1))) (dss_nil)) (dss_clr [1] (dss_nil))))
      (dss_clr [0] (dss_one (ds_ret (de_non))))⟩)
theorem fd_law_false_formula (B : MB mg) (T : TxtF K mg "_law_false_formula" s_law_false_formula ["_law_pool_here", "_law_most"])  (c_law_drawn_formula : FD P w K mg base 4 2 "_law_drawn_formula" g_law_drawn_formula) (c_law_model : FD P w K mg base 4 1 "_law_model" g_law_model) (c_law_draw : FD P w K mg base 2 2 "_law_draw" g_law_draw) : FD P w K mg base 5 2 "_law_false_formula" g_law_false_formula := by
  obtain ⟨f, fd, F, hm, b⟩ := T.ex
  have nd := sc_law_false_formula.nd
  exact fd_of F hm b sc_law_false_formula (g := b_law_false_formula) (fun cdv A outer s H E hr => ⟨_,
    dss_cons (ds_set (i := 2) nd rfl (by first | exact Or.inl rfl | exact Or.inr rfl) (de_callK K mg c_law_drawn_formula hr (by decide) (by rfl) (by rfl) (da_cons (dv 0) (da_cons (dv 1) (da_nil)))))
      (dss_cons (ds_forRC [1, 3, 4, 5] PassesOwn.never rfl (dr_range1 (by rfl) (by exact B.m_range) (da_cons (de_op od_shl opI2_ne (de_int) (de_ixK K (fun _ _ => rfl) (dv 2) (de_int))) (da_nil))) (dg_name (i := 3) nd rfl (by first | exact Or.inl rfl | exact Or.inr rfl)) (dss_cons (ds_set (i := 4) nd rfl (by first | exact Or.inl rfl | exact Or.inr rfl) (de_callK K mg c_law_model hr (by decide) (by rfl) (by rfl) (da_cons (dv 2) (da_nil))))
      (dss_cons (ds_if (dt_cmp od_isn isnD_ne (nomark _) (dv 4) (de_non)) (dss_cons (ds_set (i := 5) nd rfl (by first | exact Or.inl rfl | exact Or.inr rfl) (de_cty (cd_tupleK K) (by rfl) (by exact B.m_tuple) (by decide +kernel) (da_cons (de_of_df (df_lc (own := [("_law_literal", 6)]) rfl nd (di_seqK K (dv 4)) (blkOk_by (own := [("_law_literal", 6)]) (N := N_law_false_formula) (sc := defScope s_law_false_formula) (by decide +kernel)) (fun _ _ _ _ _ => dg_name (i := 6) nd rfl (by first | exact Or.inl rfl | exact Or.inr rfl)) (by decide) (fun _ _ _ _ _ => dts_one (dt_cmp (od_gtK K (hu64 hr)) gtD_ne (nomark _) (de_callK K mg c_law_draw hr (by decide) (by rfl) (by rfl) (da_cons (dv 0) (da_cons (de_int) (da_nil)))) (de_int))) (fun _ _ _ _ _ => de_neg (dv 6)))) (da_nil))))
      (dss_cons (ds_if (dt_cmp (od_eqK K (hu64 hr)) eqD_ne (nomark _) (de_cb (cd_lenK K) (by rfl) (by exact B.m_len) (by decide +kernel) (da_cons (dv 5) (da_nil))) (de_int)) (dss_one (ds_set (i := 5) nd rfl (by first | exact Or.inl rfl | exact Or.inr rfl) (de_tup (da_cons (de_neg (de_ixK K (fun _ _ => rfl) (dv 4) (de_callK K mg c_law_draw hr (by decide) (by rfl) (by rfl) (da_cons (dv 0) (da_cons (de_cb (cd_lenK K) (by rfl) (by exact B.m_len) (by decide +kernel) (da_cons (dv 4) (da_nil))) (da_nil)))))) (da_nil))))) (dss_nil))
      (dss_one (ds_set (i := 2) nd rfl (by first | exact Or.inl rfl | exact Or.inr rfl) (de_tup (da_cons (de_ixK K (fun _ _ => rfl) (dv 2) (de_int)) (da_cons (de_cty (cd_tupleK K) (by rfl) (by exact B.m_tuple) (by decide +kernel) (da_cons (de_of_df (df_cb (cf_sorted3 K (hu66 hr) rfl) (by rfl) (by exact B.m_sorted) (by decide +kernel) (da_cons (de_op (od_addK K) addD_ne (de_of_df (df_cty (cf_listK K) (by rfl) (by exact B.m_list) (by decide +kernel) (da_cons (de_ixK K (fun _ _ => rfl) (dv 2) (de_int)) (da_nil)))) (de_of_df (df_lst (da_cons (de_cty (cd_tupleK K) (by rfl) (by exact B.m_tuple) (by decide +kernel) (da_cons (de_of_df (df_cb (cf_sorted3 K (hu66 hr) rfl) (by rfl) (by exact B.m_sorted) (by decide +kernel) (da_cons (dv 5) (da_nil)))) (da_nil))) (da_nil))))) (da_nil)))) (da_nil))) (da_nil)))))))) (dss_nil)) (dss_clr [3, 4, 5] (dss_nil)))))
      (dss_clr [0] (dss_one (ds_ret (dv 2)))))⟩)
theorem fd_law_free (B : MB mg) (T : TxtF K mg "_law_free" s_law_free ["_law_formula", "_law_cube"])   : FD P w K mg base 1 2 "_law_free" g_law_free := by
  obtain ⟨f, fd, F, hm, b⟩ := T.ex
  have nd := sc_law_free.nd
  exact fd_of F hm b sc_law_free (g := b_law_free) (fun cdv A outer s H E hr => ⟨_,
    dss_one (ds_ret (de_of_df (df_lc (own := [("_law_v", 2)]) rfl nd ((dr_range2 (by rfl) (by exact B.m_range) (da_cons (de_int) (da_cons (de_op (od_addK K) addD_ne (de_ixK K (fun _ _ => rfl) (dv 0) (de_int)) (de_int)) (da_nil)))).di) (blkOk_by (own := [("_law_v", 2)]) (N := N_law_free) (sc := defScope s_law_free) (by decide +kernel)) (fun _ _ _ _ _ => dg_name (i := 2) nd rfl (by first | exact Or.inl rfl | exact Or.inr rfl)) (by decide) (fun _ _ _ _ _ => dts_one (DW.dt (dw_and (dt_cmp (od_ninK K (hu65 hr)) ninD_ne rfl (dv 2) (dv 1)) (dw_and1 (dt_cmp (od_ninK K (hu65 hr)) ninD_ne rfl (de_neg (dv 2)) (dv 1)))))) (fun _ _ _ _ _ => dv 2))))⟩)
theorem fdN_law_some_tree (B : MB mg) (T : TxtF K mg "_law_some_tree" s_law_some_tree ["_law_pool_here", "_law_formula", "_law_cube"])  (c_law_leaf : FD P w K mg base 3 2 "_law_leaf" g_law_leaf) (c_law_free : FD P w K mg base 1 2 "_law_free" g_law_free) (c_law_draw : FD P w K mg base 2 2 "_law_draw" g_law_draw) (c_law_fails : FD P w K mg base 2 2 "_law_fails" g_law_fails) (c_law_with : FD P w K mg base 1 2 "_law_with" g_law_with) : ∀ k : Nat, FD P w K mg base (4 + k) 3 "_law_some_tree" (gN_law_some_tree k)
  | 0 => by
    obtain ⟨f, fd, F, hm, b⟩ := T.ex
    exact fd_of F hm b sc_law_some_tree (g := fun _ => .bot) (fun cdv A outer s H E hr => ⟨_, dss_bot⟩)
  | k + 1 => by
    have c_self := fdN_law_some_tree B T c_law_leaf c_law_free c_law_draw c_law_fails c_law_with k
    obtain ⟨f, fd, F, hm, b⟩ := T.ex
    have nd := sc_law_some_tree.nd
    exact fd_of F hm b sc_law_some_tree (g := b_law_some_tree (gN_law_some_tree k)) (fun cdv A outer s H E hr => ⟨_,
    dss_cons (ds_set (i := 3) nd rfl (by first | exact Or.inl rfl | exact Or.inr rfl) (de_callK K mg c_law_leaf hr (Nat.le_trans (by decide) (Nat.le_add_right _ _)) (by rfl) (by rfl) (da_cons (dv 1) (da_cons (dv 2) (da_nil)))))
      (dss_cons (ds_if (DW.dt (dw_and (dt_cmp (od_geK K (hu64 hr)) geD_ne (nomark _) (dv 3) (de_int)) (dw_and1 (DW.dt (dw_or (dt_cmp (od_eqK K (hu64 hr)) eqD_ne (nomark _) (de_cb (cd_lenK K) (by rfl) (by exact B.m_len) (by decide +kernel) (da_cons (de_callK K mg c_law_free hr (Nat.le_trans (by decide) (Nat.le_add_right _ _)) (by rfl) (by rfl) (da_cons (dv 1) (da_cons (dv 2) (da_nil)))) (da_nil))) (de_int)) (dw_or1 (dt_cmp (od_gtK K (hu64 hr)) gtD_ne (nomark _) (de_callK K mg c_law_draw hr (Nat.le_trans (by decide) (Nat.le_add_right _ _)) (by rfl) (by rfl) (da_cons (dv 0) (da_cons (de_int) (da_nil)))) (de_int)))))))) (dss_cons (ds_toVal (ds_setLc (i := 4) rfl rfl (sw_true rfl rfl rfl (by decide +kernel)) (own := [("_law_k", 7)]) rfl nd ((dr_range1 (by rfl) (by exact B.m_range) (da_cons (de_cb (cd_lenK K) (by rfl) (by exact B.m_len) (by decide +kernel) (da_cons (de_ixK K (fun _ _ => rfl) (dv 1) (de_int)) (da_nil))) (da_nil))).di) (blkOk_by (own := [("_law_k", 7)]) (N := N_law_some_tree) (sc := defScope s_law_some_tree) (by decide +kernel)) (fun _ _ _ _ _ => dg_name (i := 7) nd rfl (by first | exact Or.inl rfl | exact Or.inr rfl)) (by decide) (fun _ _ _ _ _ => dts_one (dt_truthK K (de_callK K mg c_law_fails hr (Nat.le_trans (by decide) (Nat.le_add_right _ _)) (by rfl) (by rfl) (da_cons (dv 2) (da_cons (de_ixK K (fun _ _ => rfl) (de_ixK K (fun _ _ => rfl) (dv 1) (de_int)) (dv 7)) (da_nil)))))) (fun _ _ _ _ _ => dv 7)))
      (dss_one (ds_ret (de_tup (da_cons (de_str) (da_cons (de_ixK K (fun _ _ => rfl) (dv 4) (de_callK K mg c_law_draw hr (Nat.le_trans (by decide) (Nat.le_add_right _ _)) (by rfl) (by rfl) (da_cons (dv 0) (da_cons (de_cb (cd_lenK K) (by rfl) (by exact B.m_len) (by decide +kernel) (da_cons (dv 4) (da_nil))) (da_nil))))) (da_nil))))))) (dss_nil))
      (dss_cons (ds_set (i := 5) nd rfl (by first | exact Or.inl rfl | exact Or.inr rfl) (de_callK K mg c_law_free hr (Nat.le_trans (by decide) (Nat.le_add_right _ _)) (by rfl) (by rfl) (da_cons (dv 1) (da_cons (dv 2) (da_nil)))))
      (dss_cons (ds_set (i := 6) nd rfl (by first | exact Or.inl rfl | exact Or.inr rfl) (de_ixK K (fun _ _ => rfl) (dv 5) (de_callK K mg c_law_draw hr (Nat.le_trans (by decide) (Nat.le_add_right _ _)) (by rfl) (by rfl) (da_cons (dv 0) (da_cons (de_cb (cd_lenK K) (by rfl) (by exact B.m_len) (by decide +kernel) (da_cons (dv 5) (da_nil))) (da_nil))))))
      (dss_one (ds_ret (de_tup (da_cons (de_str) (da_cons (dv 6) (da_cons (de_callK K mg c_self hr (Nat.le_refl _) (by rfl) (by rfl) (da_cons (dv 0) (da_cons (dv 1) (da_cons (de_callK K mg c_law_with hr (Nat.le_trans (by decide) (Nat.le_add_right _ _)) (by rfl) (by rfl) (da_cons (dv 2) (da_cons (de_neg (dv 6)) (da_nil)))) (da_nil))))) (da_cons (de_callK K mg c_self hr (Nat.le_refl _) (by rfl) (by rfl) (da_cons (dv 0) (da_cons (dv 1) (da_cons (de_callK K mg c_law_with hr (Nat.le_trans (by decide) (Nat.le_add_right _ _)) (by rfl) (by rfl) (da_cons (dv 2) (da_cons (dv 6) (da_nil)))) (da_nil))))) (da_nil)))))))))))⟩)
theorem fd_law_some_tree (B : MB mg) (T : TxtF K mg "_law_some_tree" s_law_some_tree ["_law_pool_here", "_law_formula", "_law_cube"])  (c_law_leaf : FD P w K mg base 3 2 "_law_leaf" g_law_leaf) (c_law_free : FD P w K mg base 1 2 "_law_free" g_law_free) (c_law_draw : FD P w K mg base 2 2 "_law_draw" g_law_draw) (c_law_fails : FD P w K mg base 2 2 "_law_fails" g_law_fails) (c_law_with : FD P w K mg base 1 2 "_law_with" g_law_with) : FD P w K mg base 16 3 "_law_some_tree" g_law_some_tree := fdN_law_some_tree B T c_law_leaf c_law_free c_law_draw c_law_fails c_law_with 12
theorem fdN_law_same (B : MB mg) (T : TxtF K mg "_law_same" s_law_same ["_law_actual", "_law_due"])   : ∀ k : Nat, FD P w K mg base (1 + k) 2 "_law_same" (gN_law_same k)
  | 0 => by
    obtain ⟨f, fd, F, hm, b⟩ := T.ex
    exact fd_of F hm b sc_law_same (g := fun _ => .bot) (fun cdv A outer s H E hr => ⟨_, dss_bot⟩)
  | k + 1 => by
    have c_self := fdN_law_same B T  k
    obtain ⟨f, fd, F, hm, b⟩ := T.ex
    have nd := sc_law_same.nd
    exact fd_of F hm b sc_law_same (g := b_law_same (gN_law_same k)) (fun cdv A outer s H E hr => ⟨_,
    dss_cons (ds_if (DW.dt (dw_or (dt_truthK K (de_isiK K (T := "tuple") (by rfl) (by exact B.m_isinstance) (by rfl) (by exact B.m_tuple) (by decide +kernel) (dv 1))) (dw_or1 (dt_truthK K (de_isiK K (T := "list") (by rfl) (by exact B.m_isinstance) (by rfl) (by exact B.m_list) (by decide +kernel) (dv 1)))))) (dss_cons (ds_if (DW.dt (dw_or (dt_cmp (od_neK K (hu64 hr)) neD_ne (nomark _) (de_isiK K (T := "tuple") (by rfl) (by exact B.m_isinstance) (by rfl) (by exact B.m_tuple) (by decide +kernel) (dv 1)) (de_isiK K (T := "tuple") (by rfl) (by exact B.m_isinstance) (by rfl) (by exact B.m_tuple) (by decide +kernel) (dv 0))) (dw_or1 (dt_cmp (od_neK K (hu64 hr)) neD_ne (nomark _) (de_isiK K (T := "list") (by rfl) (by exact B.m_isinstance) (by rfl) (by exact B.m_list) (by decide +kernel) (dv 1)) (de_isiK K (T := "list") (by rfl) (by exact B.m_isinstance) (by rfl) (by exact B.m_list) (by decide +kernel) (dv 0)))))) (dss_one (ds_ret (de_bl))) (dss_nil))
      (dss_cons (ds_if (dt_cmp (od_neK K (hu64 hr)) neD_ne (nomark _) (de_cb (cd_lenK K) (by rfl) (by exact B.m_len) (by decide +kernel) (da_cons (dv 0) (da_nil))) (de_cb (cd_lenK K) (by rfl) (by exact B.m_len) (by decide +kernel) (da_cons (dv 1) (da_nil)))) (dss_one (ds_ret (de_bl))) (dss_nil))
      (dss_cons (ds_forRC [2] PassesOwn.never rfl (dr_range1 (by rfl) (by exact B.m_range) (da_cons (de_cb (cd_lenK K) (by rfl) (by exact B.m_len) (by decide +kernel) (da_cons (dv 1) (da_nil))) (da_nil))) (dg_name (i := 2) nd rfl (by first | exact Or.inl rfl | exact Or.inr rfl)) (dss_cons (ds_if (dt_not (dt_truthK K (de_callK K mg c_self hr (Nat.le_refl _) (by rfl) (by rfl) (da_cons (de_ixK K (fun _ _ => rfl) (dv 0) (dv 2)) (da_cons (de_ixK K (fun _ _ => rfl) (dv 1) (dv 2)) (da_nil)))))) (dss_one (ds_ret (de_bl))) (dss_nil)) (dss_clr [2] (dss_nil))))
      (dss_clr [0, 1] (dss_one (ds_ret (de_bl))))))) (dss_nil))
      (dss_cons (ds_if (dt_cmp od_is isD_ne (nomark _) (dv 1) (de_non)) (dss_one (ds_ret (de_cmp od_is isD_ne (nomark _) (dv 0) (de_non)))) (dss_nil))
      (dss_cons (ds_if (dt_truthK K (de_isiK K (T := "bool") (by rfl) (by exact B.m_isinstance) (by rfl) (by exact B.m_bool) (by decide +kernel) (dv 1))) (dss_one (ds_ret (de_and (de_isiK K (T := "bool") (by rfl) (by exact B.m_isinstance) (by rfl) (by exact B.m_bool) (by decide +kernel) (dv 0)) (de_one (de_cmp (od_eqK K (hu64 hr)) eqD_ne (nomark _) (dv 0) (dv 1)))))) (dss_nil))
      (dss_cons (ds_if (dt_truthK K (de_isiK K (T := "int") (by rfl) (by exact B.m_isinstance) (by rfl) (by exact B.m_int) (by decide +kernel) (dv 1))) (dss_one (ds_ret (de_and (de_isiK K (T := "int") (by rfl) (by exact B.m_isinstance) (by rfl) (by exact B.m_int) (by decide +kernel) (dv 0)) (de_and (de_not (de_isiK K (T := "bool") (by rfl) (by exact B.m_isinstance) (by rfl) (by exact B.m_bool) (by decide +kernel) (dv 0))) (de_one (de_cmp (od_eqK K (hu64 hr)) eqD_ne (nomark _) (dv 0) (dv 1))))))) (dss_nil))
      (dss_one (ds_ret (de_and (de_isiK K (T := "str") (by rfl) (by exact B.m_isinstance) (by rfl) (by exact B.m_str) (by decide +kernel) (dv 0)) (de_one (de_cmp (od_eqK K (hu64 hr)) eqD_ne (nomark _) (dv 0) (dv 1)))))))))⟩)
theorem fd_law_same (B : MB mg) (T : TxtF K mg "_law_same" s_law_same ["_law_actual", "_law_due"])   : FD P w K mg base 13 2 "_law_same" g_law_same := fdN_law_same B T  12
theorem fd_is_integer (B : MB mg) (T : TxtF K mg "is_integer" s_is_integer ["value"])   : FD P w K mg base 1 1 "is_integer" g_is_integer := by
  obtain ⟨f, fd, F, hm, b⟩ := T.ex
  have nd := sc_is_integer.nd
  exact fd_of F hm b sc_is_integer (g := b_is_integer) (fun cdv A outer s H E hr => ⟨_,
    dss_one (ds_ret (de_and (de_isiK K (T := "int") (by rfl) (by exact B.m_isinstance) (by rfl) (by exact B.m_int) (by decide +kernel) (dv 0)) (de_one (de_not (de_isiK K (T := "bool") (by rfl) (by exact B.m_isinstance) (by rfl) (by exact B.m_bool) (by decide +kernel) (dv 0))))))⟩)
theorem fd_is_number (B : MB mg) (T : TxtF K mg "is_number" s_is_number ["value"])  (c_is_integer : FD P w K mg base 1 1 "is_integer" g_is_integer) : FD P w K mg base 2 1 "is_number" g_is_number := by
  obtain ⟨f, fd, F, hm, b⟩ := T.ex
  have nd := sc_is_number.nd
  exact fd_of F hm b sc_is_number (g := b_is_number) (fun cdv A outer s H E hr => ⟨_,
    dss_one (ds_ret (de_and (de_callK K mg c_is_integer hr (by decide) (by rfl) (by rfl) (da_cons (dv 0) (da_nil))) (de_one (de_cmp (od_geK K (hu64 hr)) geD_ne (nomark _) (dv 0) (de_int)))))⟩)
theorem fd_falsifies (B : MB mg) (T : TxtF K mg "falsifies" s_falsifies ["cube", "clause"])   : FD P w K mg base 1 2 "falsifies" g_falsifies := by
  obtain ⟨f, fd, F, hm, b⟩ := T.ex
  have nd := sc_falsifies.nd
  exact fd_of F hm b sc_falsifies (g := b_falsifies) (fun cdv A outer s H E hr => ⟨_,
    dss_one (ds_ret (de_cb (cd_allK K rfl) (by rfl) (by exact B.m_all) (by decide +kernel) (da_cons (de_of_df (df_lc (own := [("literal", 2)]) rfl nd (di_seqK K (dv 1)) (blkOk_by (own := [("literal", 2)]) (N := N_falsifies) (sc := defScope s_falsifies) (by decide +kernel)) (fun _ _ _ _ _ => dg_name (i := 2) nd rfl (by first | exact Or.inl rfl | exact Or.inr rfl)) (by decide) (fun _ _ _ _ _ => dts_nil) (fun _ _ _ _ _ => de_cmp (od_inK K (hu65 hr)) inD_ne rfl (de_neg (dv 2)) (dv 0)))) (da_nil))))⟩)
theorem fd_with_literal (B : MB mg) (T : TxtF K mg "with_literal" s_with_literal ["cube", "literal"])   : FD P w K mg base 1 2 "with_literal" g_with_literal := by
  obtain ⟨f, fd, F, hm, b⟩ := T.ex
  have nd := sc_with_literal.nd
  exact fd_of F hm b sc_with_literal (g := b_with_literal) (fun cdv A outer s H E hr => ⟨_,
    dss_one (ds_ret (de_cty (cd_tupleK K) (by rfl) (by exact B.m_tuple) (by decide +kernel) (da_cons (de_of_df (df_cb (cf_sorted3 K (hu66 hr) rfl) (by rfl) (by exact B.m_sorted) (by decide +kernel) (da_cons (de_of_df (df_lstS (das_starK K (dv 0) (das_cons (dv 1) (da_nil.das))))) (da_nil)))) (da_nil))))⟩)
theorem fdN_is_tree_below (B : MB mg) (T : TxtF K mg "is_tree_below" s_is_tree_below ["formula", "value", "cube"])  (c_is_number : FD P w K mg base 2 1 "is_number" g_is_number) (c_falsifies : FD P w K mg base 1 2 "falsifies" g_falsifies) (c_with_literal : FD P w K mg base 1 2 "with_literal" g_with_literal) : ∀ k : Nat, FD P w K mg base (3 + k) 3 "is_tree_below" (gN_is_tree_below k)
  | 0 => by
    obtain ⟨f, fd, F, hm, b⟩ := T.ex
    exact fd_of F hm b sc_is_tree_below (g := fun _ => .bot) (fun cdv A outer s H E hr => ⟨_, dss_bot⟩)
  | k + 1 => by
    have c_self := fdN_is_tree_below B T c_is_number c_falsifies c_with_literal k
    obtain ⟨f, fd, F, hm, b⟩ := T.ex
    have nd := sc_is_tree_below.nd
    exact fd_of F hm b sc_is_tree_below (g := b_is_tree_below (gN_is_tree_below k)) (fun cdv A outer s H E hr => ⟨_,
    dss_cons (ds_if (DW.dt (dw_or (dt_not (dt_truthK K (de_isiK K (T := "tuple") (by rfl) (by exact B.m_isinstance) (by rfl) (by exact B.m_tuple) (by decide +kernel) (dv 1)))) (dw_or (dt_cmp (od_ltK K (hu64 hr)) ltD_ne (nomark _) (de_cb (cd_lenK K) (by rfl) (by exact B.m_len) (by decide +kernel) (da_cons (dv 1) (da_nil))) (de_int)) (dw_or1 (dt_not (dt_truthK K (de_callK K mg c_is_number hr (Nat.le_trans (by decide) (Nat.le_add_right _ _)) (by rfl) (by rfl) (da_cons (de_ixK K (fun _ _ => rfl) (dv 1) (de_int)) (da_nil))))))))) (dss_one (ds_ret (de_bl))) (dss_nil))
      (dss_cons (ds_if (DW.dt (dw_and (dt_cmp (od_eqK K (hu64 hr)) eqD_ne (nomark _) (de_ixK K (fun _ _ => rfl) (dv 1) (de_int)) (de_str)) (dw_and1 (dt_cmp (od_eqK K (hu64 hr)) eqD_ne (nomark _) (de_cb (cd_lenK K) (by rfl) (by exact B.m_len) (by decide +kernel) (da_cons (dv 1) (da_nil))) (de_int))))) (dss_one (ds_ret (de_and (de_cmp (od_ltK K (hu64 hr)) ltD_ne (nomark _) (de_ixK K (fun _ _ => rfl) (dv 1) (de_int)) (de_cb (cd_lenK K) (by rfl) (by exact B.m_len) (by decide +kernel) (da_cons (de_ixK K (fun _ _ => rfl) (dv 0) (de_int)) (da_nil)))) (de_one (de_callK K mg c_falsifies hr (Nat.le_trans (by decide) (Nat.le_add_right _ _)) (by rfl) (by rfl) (da_cons (dv 2) (da_cons (de_ixK K (fun _ _ => rfl) (de_ixK K (fun _ _ => rfl) (dv 0) (de_int)) (de_ixK K (fun _ _ => rfl) (dv 1) (de_int))) (da_nil)))))))) (dss_nil))
      (dss_cons (ds_if (DW.dt (dw_or (dt_cmp (od_neK K (hu64 hr)) neD_ne (nomark _) (de_ixK K (fun _ _ => rfl) (dv 1) (de_int)) (de_str)) (dw_or1 (dt_cmp (od_neK K (hu64 hr)) neD_ne (nomark _) (de_cb (cd_lenK K) (by rfl) (by exact B.m_len) (by decide +kernel) (da_cons (dv 1) (da_nil))) (de_int))))) (dss_one (ds_ret (de_bl))) (dss_nil))
      (dss_cons (ds_asg (dg_tupK K rfl (dgs_cons (i := 3) nd rfl (by first | exact Or.inl rfl | exact Or.inr rfl) (dgs_cons (i := 4) nd rfl (by first | exact Or.inl rfl | exact Or.inr rfl) (dgs_cons (i := 5) nd rfl (by first | exact Or.inl rfl | exact Or.inr rfl) (dgs_cons (i := 6) nd rfl (by first | exact Or.inl rfl | exact Or.inr rfl) (dgs_nil))))) rfl) (dv 1))
      (dss_cons (ds_if (DW.dt (dw_or (dt_cmp (od_eqK K (hu64 hr)) eqD_ne (nomark _) (dv 4) (de_int)) (dw_or (dt_cmp (od_gtK K (hu64 hr)) gtD_ne (nomark _) (dv 4) (de_ixK K (fun _ _ => rfl) (dv 0) (de_int))) (dw_or (dt_cmp (od_inK K (hu65 hr)) inD_ne rfl (dv 4) (dv 2)) (dw_or1 (dt_cmp (od_inK K (hu65 hr)) inD_ne rfl (de_neg (dv 4)) (dv 2))))))) (dss_one (ds_ret (de_bl))) (dss_nil))
      (dss_cons (ds_if (dt_not (dt_truthK K (de_callK K mg c_self hr (Nat.le_refl _) (by rfl) (by rfl) (da_cons (dv 0) (da_cons (dv 5) (da_cons (de_callK K mg c_with_literal hr (Nat.le_trans (by decide) (Nat.le_add_right _ _)) (by rfl) (by rfl) (da_cons (dv 2) (da_cons (de_neg (dv 4)) (da_nil)))) (da_nil))))))) (dss_one (ds_ret (de_bl))) (dss_nil))
      (dss_one (ds_ret (de_callK K mg c_self hr (Nat.le_refl _) (by rfl) (by rfl) (da_cons (dv 0) (da_cons (dv 6) (da_cons (de_callK K mg c_with_literal hr (Nat.le_trans (by decide) (Nat.le_add_right _ _)) (by rfl) (by rfl) (da_cons (dv 2) (da_cons (dv 4) (da_nil)))) (da_nil))))))))))))⟩)
theorem fd_is_tree_below (B : MB mg) (T : TxtF K mg "is_tree_below" s_is_tree_below ["formula", "value", "cube"])  (c_is_number : FD P w K mg base 2 1 "is_number" g_is_number) (c_falsifies : FD P w K mg base 1 2 "falsifies" g_falsifies) (c_with_literal : FD P w K mg base 1 2 "with_literal" g_with_literal) : FD P w K mg base 15 3 "is_tree_below" g_is_tree_below := fdN_is_tree_below B T c_is_number c_falsifies c_with_literal 12
theorem fd_is_tree (B : MB mg) (T : TxtF K mg "is_tree" s_is_tree ["formula", "value"])  (c_is_tree_below : FD P w K mg base 15 3 "is_tree_below" g_is_tree_below) : FD P w K mg base 16 2 "is_tree" g_is_tree := by
  obtain ⟨f, fd, F, hm, b⟩ := T.ex
  have nd := sc_is_tree.nd
  exact fd_of F hm b sc_is_tree (g := b_is_tree) (fun cdv A outer s H E hr => ⟨_,
    dss_one (ds_ret (de_callK K mg c_is_tree_below hr (by decide) (by rfl) (by rfl) (da_cons (dv 0) (da_cons (dv 1) (da_cons (de_tup (da_nil)) (da_nil))))))⟩)
theorem fdN_law_depth (B : MB mg) (T : TxtF K mg "_law_depth" s_law_depth ["_law_tree"])   : ∀ k : Nat, FD P w K mg base (1 + k) 1 "_law_depth" (gN_law_depth k)
  | 0 => by
    obtain ⟨f, fd, F, hm, b⟩ := T.ex
    exact fd_of F hm b sc_law_depth (g := fun _ => .bot) (fun cdv A outer s H E hr => ⟨_, dss_bot⟩)
  | k + 1 => by
    have c_self := fdN_law_depth B T  k
    obtain ⟨f, fd, F, hm, b⟩ := T.ex
    have nd := sc_law_depth.nd
    exact fd_of F hm b sc_law_depth (g := b_law_depth (gN_law_depth k)) (fun cdv A outer s H E hr => ⟨_,
    dss_one (ds_ret (de_ifExp (dt_cmp (od_eqK K (hu64 hr)) eqD_ne (nomark _) (de_ixK K (fun _ _ => rfl) (dv 0) (de_int)) (de_str)) (de_int) (de_op (od_addK K) addD_ne (de_int) (de_cb (cd_max2 rfl) (by rfl) (by exact B.m_max) (by decide +kernel) (da_cons (de_callK K mg c_self hr (Nat.le_refl _) (by rfl) (by rfl) (da_cons (de_ixK K (fun _ _ => rfl) (dv 0) (de_int)) (da_nil))) (da_cons (de_callK K mg c_self hr (Nat.le_refl _) (by rfl) (by rfl) (da_cons (de_ixK K (fun _ _ => rfl) (dv 0) (de_int)) (da_nil))) (da_nil)))))))⟩)
theorem fd_law_depth (B : MB mg) (T : TxtF K mg "_law_depth" s_law_depth ["_law_tree"])   : FD P w K mg base 13 1 "_law_depth" g_law_depth := fdN_law_depth B T  12
theorem fdN_tree_depth (B : MB mg) (T : TxtF K mg "tree_depth" s_tree_depth ["tree"])   : ∀ k : Nat, FD P w K mg base (1 + k) 1 "tree_depth" (gN_tree_depth k)
  | 0 => by
    obtain ⟨f, fd, F, hm, b⟩ := T.ex
    exact fd_of F hm b sc_tree_depth (g := fun _ => .bot) (fun cdv A outer s H E hr => ⟨_, dss_bot⟩)
  | k + 1 => by
    have c_self := fdN_tree_depth B T  k
    obtain ⟨f, fd, F, hm, b⟩ := T.ex
    have nd := sc_tree_depth.nd
    exact fd_of F hm b sc_tree_depth (g := b_tree_depth (gN_tree_depth k)) (fun cdv A outer s H E hr => ⟨_,
    dss_one (ds_ret (de_ifExp (dt_cmp (od_eqK K (hu64 hr)) eqD_ne (nomark _) (de_ixK K (fun _ _ => rfl) (dv 0) (de_int)) (de_str)) (de_int) (de_op (od_addK K) addD_ne (de_int) (de_cb (cd_max2 rfl) (by rfl) (by exact B.m_max) (by decide +kernel) (da_cons (de_callK K mg c_self hr (Nat.le_refl _) (by rfl) (by rfl) (da_cons (de_ixK K (fun _ _ => rfl) (dv 0) (de_int)) (da_nil))) (da_cons (de_callK K mg c_self hr (Nat.le_refl _) (by rfl) (by rfl) (da_cons (de_ixK K (fun _ _ => rfl) (dv 0) (de_int)) (da_nil))) (da_nil)))))))⟩)
theorem fd_tree_depth (B : MB mg) (T : TxtF K mg "tree_depth" s_tree_depth ["tree"])   : FD P w K mg base 13 1 "tree_depth" g_tree_depth := fdN_tree_depth B T  12
theorem fdN_law_leaves (B : MB mg) (T : TxtF K mg "_law_leaves" s_law_leaves ["_law_tree"])   : ∀ k : Nat, FD P w K mg base (1 + k) 1 "_law_leaves" (gN_law_leaves k)
  | 0 => by
    obtain ⟨f, fd, F, hm, b⟩ := T.ex
    exact fd_of F hm b sc_law_leaves (g := fun _ => .bot) (fun cdv A outer s H E hr => ⟨_, dss_bot⟩)
  | k + 1 => by
    have c_self := fdN_law_leaves B T  k
    obtain ⟨f, fd, F, hm, b⟩ := T.ex
    have nd := sc_law_leaves.nd
    exact fd_of F hm b sc_law_leaves (g := b_law_leaves (gN_law_leaves k)) (fun cdv A outer s H E hr => ⟨_,
    dss_one (ds_ret (de_ifExp (dt_cmp (od_eqK K (hu64 hr)) eqD_ne (nomark _) (de_ixK K (fun _ _ => rfl) (dv 0) (de_int)) (de_str)) (de_int) (de_op (od_addK K) addD_ne (de_callK K mg c_self hr (Nat.le_refl _) (by rfl) (by rfl) (da_cons (de_ixK K (fun _ _ => rfl) (dv 0) (de_int)) (da_nil))) (de_callK K mg c_self hr (Nat.le_refl _) (by rfl) (by rfl) (da_cons (de_ixK K (fun _ _ => rfl) (dv 0) (de_int)) (da_nil))))))⟩)
theorem fd_law_leaves (B : MB mg) (T : TxtF K mg "_law_leaves" s_law_leaves ["_law_tree"])   : FD P w K mg base 13 1 "_law_leaves" g_law_leaves := fdN_law_leaves B T  12
theorem fdN_tree_leaves (B : MB mg) (T : TxtF K mg "tree_leaves" s_tree_leaves ["tree"])   : ∀ k : Nat, FD P w K mg base (1 + k) 1 "tree_leaves" (gN_tree_leaves k)
  | 0 => by
    obtain ⟨f, fd, F, hm, b⟩ := T.ex
    exact fd_of F hm b sc_tree_leaves (g := fun _ => .bot) (fun cdv A outer s H E hr => ⟨_, dss_bot⟩)
  | k + 1 => by
    have c_self := fdN_tree_leaves B T  k
    obtain ⟨f, fd, F, hm, b⟩ := T.ex
    have nd := sc_tree_leaves.nd
    exact fd_of F hm b sc_tree_leaves (g := b_tree_leaves (gN_tree_leaves k)) (fun cdv A outer s H E hr => ⟨_,
    dss_one (ds_ret (de_ifExp (dt_cmp (od_eqK K (hu64 hr)) eqD_ne (nomark _) (de_ixK K (fun _ _ => rfl) (dv 0) (de_int)) (de_str)) (de_int) (de_op (od_addK K) addD_ne (de_callK K mg c_self hr (Nat.le_refl _) (by rfl) (by rfl) (da_cons (de_ixK K (fun _ _ => rfl) (dv 0) (de_int)) (da_nil))) (de_callK K mg c_self hr (Nat.le_refl _) (by rfl) (by rfl) (da_cons (de_ixK K (fun _ _ => rfl) (dv 0) (de_int)) (da_nil))))))⟩)
theorem fd_tree_leaves (B : MB mg) (T : TxtF K mg "tree_leaves" s_tree_leaves ["tree"])   : FD P w K mg base 13 1 "tree_leaves" g_tree_leaves := fdN_tree_leaves B T  12
theorem fdN_law_rank (B : MB mg) (T : TxtF K mg "_law_rank" s_law_rank ["_law_tree"])   : ∀ k : Nat, FD P w K mg base (1 + k) 1 "_law_rank" (gN_law_rank k)
  | 0 => by
    obtain ⟨f, fd, F, hm, b⟩ := T.ex
    exact fd_of F hm b sc_law_rank (g := fun _ => .bot) (fun cdv A outer s H E hr => ⟨_, dss_bot⟩)
  | k + 1 => by
    have c_self := fdN_law_rank B T  k
    obtain ⟨f, fd, F, hm, b⟩ := T.ex
    have nd := sc_law_rank.nd
    exact fd_of F hm b sc_law_rank (g := b_law_rank (gN_law_rank k)) (fun cdv A outer s H E hr => ⟨_,
    dss_cons (ds_if (dt_cmp (od_eqK K (hu64 hr)) eqD_ne (nomark _) (de_ixK K (fun _ _ => rfl) (dv 0) (de_int)) (de_str)) (dss_one (ds_ret (de_int))) (dss_nil))
      (dss_cons (ds_set (i := 1) nd rfl (by first | exact Or.inl rfl | exact Or.inr rfl) (de_callK K mg c_self hr (Nat.le_refl _) (by rfl) (by rfl) (da_cons (de_ixK K (fun _ _ => rfl) (dv 0) (de_int)) (da_nil))))
      (dss_cons (ds_set (i := 2) nd rfl (by first | exact Or.inl rfl | exact Or.inr rfl) (de_callK K mg c_self hr (Nat.le_refl _) (by rfl) (by rfl) (da_cons (de_ixK K (fun _ _ => rfl) (dv 0) (de_int)) (da_nil))))
      (dss_one (ds_ret (de_op (od_addK K) addD_ne (de_cb (cd_max2 rfl) (by rfl) (by exact B.m_max) (by decide +kernel) (da_cons (dv 1) (da_cons (dv 2) (da_nil)))) (de_cty (cd_int) (by rfl) (by exact B.m_int) (by decide +kernel) (da_cons (de_cmp (od_eqK K (hu64 hr)) eqD_ne (nomark _) (dv 1) (dv 2)) (da_nil))))))))⟩)
theorem fd_law_rank (B : MB mg) (T : TxtF K mg "_law_rank" s_law_rank ["_law_tree"])   : FD P w K mg base 13 1 "_law_rank" g_law_rank := fdN_law_rank B T  12
theorem fdN_tree_rank (B : MB mg) (T : TxtF K mg "tree_rank" s_tree_rank ["tree"])   : ∀ k : Nat, FD P w K mg base (1 + k) 1 "tree_rank" (gN_tree_rank k)
  | 0 => by
    obtain ⟨f, fd, F, hm, b⟩ := T.ex
    exact fd_of F hm b sc_tree_rank (g := fun _ => .bot) (fun cdv A outer s H E hr => ⟨_, dss_bot⟩)
  | k + 1 => by
    have c_self := fdN_tree_rank B T  k
    obtain ⟨f, fd, F, hm, b⟩ := T.ex
    have nd := sc_tree_rank.nd
    exact fd_of F hm b sc_tree_rank (g := b_tree_rank (gN_tree_rank k)) (fun cdv A outer s H E hr => ⟨_,
    dss_cons (ds_if (dt_cmp (od_eqK K (hu64 hr)) eqD_ne (nomark _) (de_ixK K (fun _ _ => rfl) (dv 0) (de_int)) (de_str)) (dss_one (ds_ret (de_int))) (dss_nil))
      (dss_cons (ds_par (i := 1) (j := 2) rfl nd rfl rfl (by decide) rfl rfl (da_cons (de_callK K mg c_self hr (Nat.le_refl _) (by rfl) (by rfl) (da_cons (de_ixK K (fun _ _ => rfl) (dv 0) (de_int)) (da_nil))) (da_cons (de_callK K mg c_self hr (Nat.le_refl _) (by rfl) (by rfl) (da_cons (de_ixK K (fun _ _ => rfl) (dv 0) (de_int)) (da_nil))) (da_nil))) (by rfl))
      (dss_one (ds_ret (de_op (od_addK K) addD_ne (de_cb (cd_max2 rfl) (by rfl) (by exact B.m_max) (by decide +kernel) (da_cons (dv 1) (da_cons (dv 2) (da_nil)))) (de_cty (cd_int) (by rfl) (by exact B.m_int) (by decide +kernel) (da_cons (de_cmp (od_eqK K (hu64 hr)) eqD_ne (nomark _) (dv 1) (dv 2)) (da_nil)))))))⟩)
theorem fd_tree_rank (B : MB mg) (T : TxtF K mg "tree_rank" s_tree_rank ["tree"])   : FD P w K mg base 13 1 "tree_rank" g_tree_rank := fdN_tree_rank B T  12
theorem fd_find_leaf (B : MB mg) (T : TxtF K mg "find_leaf" s_find_leaf ["tree", "cube"])   : FD P w K mg base 1 2 "find_leaf" g_find_leaf := by
  obtain ⟨f, fd, F, hm, b⟩ := T.ex
  have nd := sc_find_leaf.nd
  exact fd_of F hm b sc_find_leaf (g := b_find_leaf) (fun cdv A outer s H E hr => ⟨_,
    dss_cons (ds_clr [] (ds_while fuel_find_leaf_0 PassesOwn.never (dt_cmp (od_eqK K (hu64 hr)) eqD_ne (nomark _) (de_ixK K (fun _ _ => rfl) (dv 0) (de_int)) (de_str)) (dss_one (ds_set (i := 0) nd rfl (by first | exact Or.inl rfl | exact Or.inr rfl) (de_ifExp (dt_cmp (od_inK K (hu65 hr)) inD_ne rfl (de_ixK K (fun _ _ => rfl) (dv 0) (de_int)) (dv 1)) (de_ixK K (fun _ _ => rfl) (dv 0) (de_int)) (de_ixK K (fun _ _ => rfl) (dv 0) (de_int)))))))
      (dss_clr [1] (dss_one (ds_ret (de_ixK K (fun _ _ => rfl) (dv 0) (de_int)))))⟩)
theorem fdN_law_end (B : MB mg) (T : TxtF K mg "_law_end" s_law_end ["_law_tree", "_law_cube"])   : ∀ k : Nat, FD P w K mg base (1 + k) 2 "_law_end" (gN_law_end k)
  | 0 => by
    obtain ⟨f, fd, F, hm, b⟩ := T.ex
    exact fd_of F hm b sc_law_end (g := fun _ => .bot) (fun cdv A outer s H E hr => ⟨_, dss_bot⟩)
  | k + 1 => by
    have c_self := fdN_law_end B T  k
    obtain ⟨f, fd, F, hm, b⟩ := T.ex
    have nd := sc_law_end.nd
    exact fd_of F hm b sc_law_end (g := b_law_end (gN_law_end k)) (fun cdv A outer s H E hr => ⟨_,
    dss_cons (ds_if (dt_cmp (od_eqK K (hu64 hr)) eqD_ne (nomark _) (de_ixK K (fun _ _ => rfl) (dv 0) (de_int)) (de_str)) (dss_one (ds_ret (de_ixK K (fun _ _ => rfl) (dv 0) (de_int)))) (dss_nil))
      (dss_one (ds_ret (de_callK K mg c_self hr (Nat.le_refl _) (by rfl) (by rfl) (da_cons (de_ifExp (dt_cmp (od_inK K (hu65 hr)) inD_ne rfl (de_ixK K (fun _ _ => rfl) (dv 0) (de_int)) (dv 1)) (de_ixK K (fun _ _ => rfl) (dv 0) (de_int)) (de_ixK K (fun _ _ => rfl) (dv 0) (de_int))) (da_cons (dv 1) (da_nil))))))⟩)
theorem fd_law_end (B : MB mg) (T : TxtF K mg "_law_end" s_law_end ["_law_tree", "_law_cube"])   : FD P w K mg base 13 2 "_law_end" g_law_end := fdN_law_end B T  12
theorem fd_law_is_integer (B : MB mg) (T : TxtF K mg "_law_is_integer" s_law_is_integer ["_law_actual"])   : FD P w K mg base 1 1 "_law_is_integer" g_law_is_integer := by
  obtain ⟨f, fd, F, hm, b⟩ := T.ex
  have nd := sc_law_is_integer.nd
  exact fd_of F hm b sc_law_is_integer (g := b_law_is_integer) (fun cdv A outer s H E hr => ⟨_,
    dss_one (ds_ret (de_and (de_isiK K (T := "int") (by rfl) (by exact B.m_isinstance) (by rfl) (by exact B.m_int) (by decide +kernel) (dv 0)) (de_one (de_not (de_isiK K (T := "bool") (by rfl) (by exact B.m_isinstance) (by rfl) (by exact B.m_bool) (by decide +kernel) (dv 0))))))⟩)
theorem fdN_law_bent (B : MB mg) (T : TxtF K mg "_law_bent" s_law_bent ["_law_pool_here", "_law_value"])  (c_law_draw : FD P w K mg base 2 2 "_law_draw" g_law_draw) (c_law_is_integer : FD P w K mg base 1 1 "_law_is_integer" g_law_is_integer) : ∀ k : Nat, FD P w K mg base (3 + k) 2 "_law_bent" (gN_law_bent k)
  | 0 => by
    obtain ⟨f, fd, F, hm, b⟩ := T.ex
    exact fd_of F hm b sc_law_bent (g := fun _ => .bot) (fun cdv A outer s H E hr => ⟨_, dss_bot⟩)
  | k + 1 => by
    have c_self := fdN_law_bent B T c_law_draw c_law_is_integer k
    obtain ⟨f, fd, F, hm, b⟩ := T.ex
    have nd := sc_law_bent.nd
    exact fd_of F hm b sc_law_bent (g := b_law_bent (gN_law_bent k)) (fun cdv A outer s H E hr => ⟨_,
    dss_cons (ds_if (DW.dt (dw_and (dt_truthK K (de_isiK K (T := "tuple") (by rfl) (by exact B.m_isinstance) (by rfl) (by exact B.m_tuple) (by decide +kernel) (dv 1))) (dw_and (dt_cmp (od_gtK K (hu64 hr)) gtD_ne (nomark _) (de_cb (cd_lenK K) (by rfl) (by exact B.m_len) (by decide +kernel) (da_cons (dv 1) (da_nil))) (de_int)) (dw_and1 (dt_cmp (od_gtK K (hu64 hr)) gtD_ne (nomark _) (de_callK K mg c_law_draw hr (Nat.le_trans (by decide) (Nat.le_add_right _ _)) (by rfl) (by rfl) (da_cons (dv 0) (da_cons (de_int) (da_nil)))) (de_int)))))) (dss_cons (ds_set (i := 2) nd rfl (by first | exact Or.inl rfl | exact Or.inr rfl) (de_callK K mg c_law_draw hr (Nat.le_trans (by decide) (Nat.le_add_right _ _)) (by rfl) (by rfl) (da_cons (dv 0) (da_cons (de_cb (cd_lenK K) (by rfl) (by exact B.m_len) (by decide +kernel) (da_cons (dv 1) (da_nil))) (da_nil)))))
      (dss_one (ds_ret (de_op (od_addK K) addD_ne (de_op (od_addK K) addD_ne (de_sliceK K (dv 1) (do_none) (do_some (dv 2))) (de_tup (da_cons (de_callK K mg c_self hr (Nat.le_refl _) (by rfl) (by rfl) (da_cons (dv 0) (da_cons (de_ixK K (fun _ _ => rfl) (dv 1) (dv 2)) (da_nil)))) (da_nil)))) (de_sliceK K (dv 1) (do_some (de_op (od_addK K) addD_ne (dv 2) (de_int))) (do_none)))))) (dss_nil))
      (dss_cons (ds_set (i := 3) nd rfl (by first | exact Or.inl rfl | exact Or.inr rfl) (de_callK K mg c_law_draw hr (Nat.le_trans (by decide) (Nat.le_add_right _ _)) (by rfl) (by rfl) (da_cons (dv 0) (da_cons (de_int) (da_nil)))))
      (dss_cons (ds_if (dt_cmp (od_eqK K (hu64 hr)) eqD_ne (nomark _) (dv 3) (de_int)) (dss_one (ds_ret (de_ixK K (fun _ _ => rfl) (de_tup (da_cons (de_str) (da_cons (de_bl) (da_cons (de_tup (da_nil)) (da_cons (de_int) (da_cons (de_neg (de_int)) (da_cons (de_non) (da_cons (de_bl) (da_nil))))))))) (de_callK K mg c_law_draw hr (Nat.le_trans (by decide) (Nat.le_add_right _ _)) (by rfl) (by rfl) (da_cons (dv 0) (da_cons (de_int) (da_nil))))))) (dss_nil))
      (dss_cons (ds_if (dt_truthK K (de_callK K mg c_law_is_integer hr (Nat.le_trans (by decide) (Nat.le_add_right _ _)) (by rfl) (by rfl) (da_cons (dv 1) (da_nil)))) (dss_one (ds_ret (de_op (od_addK K) addD_ne (dv 1) (de_ixK K (fun _ _ => rfl) (de_tup (da_cons (de_int) (da_cons (de_neg (de_int)) (da_cons (de_int) (da_cons (de_int) (da_nil)))))) (de_callK K mg c_law_draw hr (Nat.le_trans (by decide) (Nat.le_add_right _ _)) (by rfl) (by rfl) (da_cons (dv 0) (da_cons (de_int) (da_nil)))))))) (dss_nil))
      (dss_cons (ds_if (DW.dt (dw_or (dt_not (dt_truthK K (de_isiK K (T := "tuple") (by rfl) (by exact B.m_isinstance) (by rfl) (by exact B.m_tuple) (by decide +kernel) (dv 1)))) (dw_or1 (dt_cmp (od_eqK K (hu64 hr)) eqD_ne (nomark _) (de_cb (cd_lenK K) (by rfl) (by exact B.m_len) (by decide +kernel) (da_cons (dv 1) (da_nil))) (de_int))))) (dss_one (ds_ret (de_ifExp (dt_cmp (od_ltK K (hu64 hr)) ltD_ne (nomark _) (dv 3) (de_int)) (de_tup (da_cons (dv 1) (da_cons (de_int) (da_nil)))) (de_tup (da_nil))))) (dss_nil))
      (dss_cons (ds_set (i := 2) nd rfl (by first | exact Or.inl rfl | exact Or.inr rfl) (de_callK K mg c_law_draw hr (Nat.le_trans (by decide) (Nat.le_add_right _ _)) (by rfl) (by rfl) (da_cons (dv 0) (da_cons (de_cb (cd_lenK K) (by rfl) (by exact B.m_len) (by decide +kernel) (da_cons (dv 1) (da_nil))) (da_nil)))))
      (dss_cons (ds_if (dt_cmp (od_ltK K (hu64 hr)) ltD_ne (nomark _) (dv 3) (de_int)) (dss_one (ds_ret (de_op (od_addK K) addD_ne (de_sliceK K (dv 1) (do_none) (do_some (dv 2))) (de_sliceK K (dv 1) (do_some (de_op (od_addK K) addD_ne (dv 2) (de_int))) (do_none))))) (dss_nil))
      (dss_cons (ds_if (dt_cmp (od_ltK K (hu64 hr)) ltD_ne (nomark _) (dv 3) (de_int)) (dss_one (ds_ret (de_op (od_addK K) addD_ne (de_op (od_addK K) addD_ne (de_sliceK K (dv 1) (do_none) (do_some (dv 2))) (de_tup (da_cons (de_ixK K (fun _ _ => rfl) (dv 1) (dv 2)) (da_nil)))) (de_sliceK K (dv 1) (do_some (dv 2)) (do_none))))) (dss_nil))
      (dss_cons (ds_if (dt_cmp (od_eqK K (hu64 hr)) eqD_ne (nomark _) (dv 3) (de_int)) (dss_one (ds_ret (de_of_df (df_cty (cf_listK K) (by rfl) (by exact B.m_list) (by decide +kernel) (da_cons (dv 1) (da_nil)))))) (dss_nil))
      (dss_cons (ds_set (i := 4) nd rfl (by first | exact Or.inl rfl | exact Or.inr rfl) (de_callK K mg c_law_draw hr (Nat.le_trans (by decide) (Nat.le_add_right _ _)) (by rfl) (by rfl) (da_cons (dv 0) (da_cons (de_cb (cd_lenK K) (by rfl) (by exact B.m_len) (by decide +kernel) (da_cons (dv 1) (da_nil))) (da_nil)))))
      (dss_cons (ds_setO (i := 5) nd rfl (by first | exact Or.inl rfl | exact Or.inr rfl) (df_cty (cf_listK K) (by rfl) (by exact B.m_list) (by decide +kernel) (da_cons (dv 1) (da_nil))))
      (dss_cons (ds_lset (i := 5) rfl (by first | exact Or.inl rfl | exact Or.inr (Or.inl rfl) | exact Or.inr (Or.inr rfl)) (de_ixK K (fun _ _ => rfl) (dv 1) (dv 4)) (dv 2))
      (dss_cons (ds_lset (i := 5) rfl (by first | exact Or.inl rfl | exact Or.inr (Or.inl rfl) | exact Or.inr (Or.inr rfl)) (de_ixK K (fun _ _ => rfl) (dv 1) (dv 2)) (dv 4))
      (dss_one (ds_ret (de_cty (cd_tupleK K) (by rfl) (by exact B.m_tuple) (by decide +kernel) (da_cons (dv 5) (da_nil)))))))))))))))))⟩)
theorem fd_law_bent (B : MB mg) (T : TxtF K mg "_law_bent" s_law_bent ["_law_pool_here", "_law_value"])  (c_law_draw : FD P w K mg base 2 2 "_law_draw" g_law_draw) (c_law_is_integer : FD P w K mg base 1 1 "_law_is_integer" g_law_is_integer) : FD P w K mg base 27 2 "_law_bent" g_law_bent := fdN_law_bent B T c_law_draw c_law_is_integer 24
theorem fdN_law_is_tree (B : MB mg) (T : TxtF K mg "_law_is_tree" s_law_is_tree ["_law_formula", "_law_value", "_law_cube"])  (c_law_is_integer : FD P w K mg base 1 1 "_law_is_integer" g_law_is_integer) (c_law_fails : FD P w K mg base 2 2 "_law_fails" g_law_fails) (c_law_free : FD P w K mg base 1 2 "_law_free" g_law_free) (c_law_with : FD P w K mg base 1 2 "_law_with" g_law_with) : ∀ k : Nat, FD P w K mg base (3 + k) 3 "_law_is_tree" (gN_law_is_tree k)
  | 0 => by
    obtain ⟨f, fd, F, hm, b⟩ := T.ex
    exact fd_of F hm b sc_law_is_tree (g := fun _ => .bot) (fun cdv A outer s H E hr => ⟨_, dss_bot⟩)
  | k + 1 => by
    have c_self := fdN_law_is_tree B T c_law_is_integer c_law_fails c_law_free c_law_with k
    obtain ⟨f, fd, F, hm, b⟩ := T.ex
    have nd := sc_law_is_tree.nd
    exact fd_of F hm b sc_law_is_tree (g := b_law_is_tree (gN_law_is_tree k)) (fun cdv A outer s H E hr => ⟨_,
    dss_cons (ds_if (DW.dt (dw_or (dt_not (dt_truthK K (de_isiK K (T := "tuple") (by rfl) (by exact B.m_isinstance) (by rfl) (by exact B.m_tuple) (by decide +kernel) (dv 1)))) (dw_or (dt_cmp (od_ltK K (hu64 hr)) ltD_ne (nomark _) (de_cb (cd_lenK K) (by rfl) (by exact B.m_len) (by decide +kernel) (da_cons (dv 1) (da_nil))) (de_int)) (dw_or1 (dt_not (dt_truthK K (de_callK K mg c_law_is_integer hr (Nat.le_trans (by decide) (Nat.le_add_right _ _)) (by rfl) (by rfl) (da_cons (de_ixK K (fun _ _ => rfl) (dv 1) (de_int)) (da_nil))))))))) (dss_one (ds_ret (de_bl))) (dss_nil))
      (dss_cons (ds_if (DW.dt (dw_and (dt_cmp (od_eqK K (hu64 hr)) eqD_ne (nomark _) (de_cb (cd_lenK K) (by rfl) (by exact B.m_len) (by decide +kernel) (da_cons (dv 1) (da_nil))) (de_int)) (dw_and1 (dt_cmp (od_eqK K (hu64 hr)) eqD_ne (nomark _) (de_ixK K (fun _ _ => rfl) (dv 1) (de_int)) (de_str))))) (dss_one (ds_ret (de_and (de_chain (od_leK K (hu64 hr)) leD_ne (od_ltK K (hu64 hr)) ltD_ne (de_int) (de_ixK K (fun _ _ => rfl) (dv 1) (de_int)) (de_cb (cd_lenK K) (by rfl) (by exact B.m_len) (by decide +kernel) (da_cons (de_ixK K (fun _ _ => rfl) (dv 0) (de_int)) (da_nil)))) (de_one (de_callK K mg c_law_fails hr (Nat.le_trans (by decide) (Nat.le_add_right _ _)) (by rfl) (by rfl) (da_cons (dv 2) (da_cons (de_ixK K (fun _ _ => rfl) (de_ixK K (fun _ _ => rfl) (dv 0) (de_int)) (de_ixK K (fun _ _ => rfl) (dv 1) (de_int))) (da_nil)))))))) (dss_nil))
      (dss_cons (ds_if (DW.dt (dw_or (dt_cmp (od_neK K (hu64 hr)) neD_ne (nomark _) (de_cb (cd_lenK K) (by rfl) (by exact B.m_len) (by decide +kernel) (da_cons (dv 1) (da_nil))) (de_int)) (dw_or (dt_cmp (od_neK K (hu64 hr)) neD_ne (nomark _) (de_ixK K (fun _ _ => rfl) (dv 1) (de_int)) (de_str)) (dw_or1 (dt_cmp (od_ninK K (hu65 hr)) ninD_ne rfl (de_ixK K (fun _ _ => rfl) (dv 1) (de_int)) (de_callK K mg c_law_free hr (Nat.le_trans (by decide) (Nat.le_add_right _ _)) (by rfl) (by rfl) (da_cons (dv 0) (da_cons (dv 2) (da_nil))))))))) (dss_one (ds_ret (de_bl))) (dss_nil))
      (dss_cons (ds_set (i := 3) nd rfl (by first | exact Or.inl rfl | exact Or.inr rfl) (de_ixK K (fun _ _ => rfl) (dv 1) (de_int)))
      (dss_one (ds_ret (de_and (de_callK K mg c_self hr (Nat.le_refl _) (by rfl) (by rfl) (da_cons (dv 0) (da_cons (de_ixK K (fun _ _ => rfl) (dv 1) (de_int)) (da_cons (de_callK K mg c_law_with hr (Nat.le_trans (by decide) (Nat.le_add_right _ _)) (by rfl) (by rfl) (da_cons (dv 2) (da_cons (de_neg (dv 3)) (da_nil)))) (da_nil))))) (de_one (de_callK K mg c_self hr (Nat.le_refl _) (by rfl) (by rfl) (da_cons (dv 0) (da_cons (de_ixK K (fun _ _ => rfl) (dv 1) (de_int)) (da_cons (de_callK K mg c_law_with hr (Nat.le_trans (by decide) (Nat.le_add_right _ _)) (by rfl) (by rfl) (da_cons (dv 2) (da_cons (dv 3) (da_nil)))) (da_nil))))))))))))⟩)
theorem fd_law_is_tree (B : MB mg) (T : TxtF K mg "_law_is_tree" s_law_is_tree ["_law_formula", "_law_value", "_law_cube"])  (c_law_is_integer : FD P w K mg base 1 1 "_law_is_integer" g_law_is_integer) (c_law_fails : FD P w K mg base 2 2 "_law_fails" g_law_fails) (c_law_free : FD P w K mg base 1 2 "_law_free" g_law_free) (c_law_with : FD P w K mg base 1 2 "_law_with" g_law_with) : FD P w K mg base 15 3 "_law_is_tree" g_law_is_tree := fdN_law_is_tree B T c_law_is_integer c_law_fails c_law_free c_law_with 12
theorem fn_law (B : MB mg)  (c_law_pool : FD P w K mg base 1 1 "_law_pool" g_law_pool) (c_law_false_formula : FD P w K mg base 5 2 "_law_false_formula" g_law_false_formula) (c_law_some_tree : FD P w K mg base 16 3 "_law_some_tree" g_law_some_tree) (c_law_same : FD P w K mg base 13 2 "_law_same" g_law_same) (c_is_tree : FD P w K mg base 16 2 "is_tree" g_is_tree) (c_law_depth : FD P w K mg base 13 1 "_law_depth" g_law_depth) (c_tree_depth : FD P w K mg base 13 1 "tree_depth" g_tree_depth) (c_law_leaves : FD P w K mg base 13 1 "_law_leaves" g_law_leaves) (c_tree_leaves : FD P w K mg base 13 1 "tree_leaves" g_tree_leaves) (c_law_rank : FD P w K mg base 13 1 "_law_rank" g_law_rank) (c_tree_rank : FD P w K mg base 13 1 "tree_rank" g_tree_rank) (c_law_cubes : FD P w K mg base 2 1 "_law_cubes" g_law_cubes) (c_find_leaf : FD P w K mg base 1 2 "find_leaf" g_find_leaf) (c_law_end : FD P w K mg base 13 2 "_law_end" g_law_end) (c_law_fails : FD P w K mg base 2 2 "_law_fails" g_law_fails) (c_law_bent : FD P w K mg base 27 2 "_law_bent" g_law_bent) (c_law_draw : FD P w K mg base 2 2 "_law_draw" g_law_draw) (c_law_is_tree : FD P w K mg base 15 3 "_law_is_tree" g_law_is_tree) {f : Addr} {fd : FuncData} (F : Fun K "law" "law" s_law f fd) : FnOk P w K mg base CX0 28 f fd ["_law_script"] (spD K mg 1 g_law) := by
  have nd := sc_law.nd
  exact DL.fn_of F sc_law (g := b_law) (fun cdv A outer s H E hr => ⟨_,
    dss_cons (ds_set (i := 1) nd rfl (by first | exact Or.inl rfl | exact Or.inr rfl) (de_callK K mg c_law_pool hr (by decide) (by rfl) (by rfl) (da_cons (dv 0) (da_nil))))
      (dss_cons (ds_set (i := 2) nd rfl (by first | exact Or.inl rfl | exact Or.inr rfl) (de_callK K mg c_law_false_formula hr (by decide) (by rfl) (by rfl) (da_cons (dv 1) (da_cons (de_int) (da_nil)))))
      (dss_cons (ds_set (i := 3) nd rfl (by first | exact Or.inl rfl | exact Or.inr rfl) (de_callK K mg c_law_some_tree hr (by decide) (by rfl) (by rfl) (da_cons (dv 1) (da_cons (dv 2) (da_cons (de_tup (da_nil)) (da_nil))))))
      (dss_cons (ds_if (DW.dt (dw_or (dt_not (dt_truthK K (de_callK K mg c_law_same hr (by decide) (by rfl) (by rfl) (da_cons (de_callK K mg c_is_tree hr (by decide) (by rfl) (by rfl) (da_cons (dv 2) (da_cons (dv 3) (da_nil)))) (da_cons (de_bl) (da_nil)))))) (dw_or1 (dt_not (dt_truthK K (de_callK K mg c_law_same hr (by decide) (by rfl) (by rfl) (da_cons (de_callK K mg c_tree_depth hr (by decide) (by rfl) (by rfl) (da_cons (dv 3) (da_nil))) (da_cons (de_callK K mg c_law_depth hr (by decide) (by rfl) (by rfl) (da_cons (dv 3) (da_nil))) (da_nil))))))))) (dss_one (ds_ret (de_bl))) (dss_nil))
      (dss_cons (ds_if (DW.dt (dw_or (dt_not (dt_truthK K (de_callK K mg c_law_same hr (by decide) (by rfl) (by rfl) (da_cons (de_callK K mg c_tree_leaves hr (by decide) (by rfl) (by rfl) (da_cons (dv 3) (da_nil))) (da_cons (de_callK K mg c_law_leaves hr (by decide) (by rfl) (by rfl) (da_cons (dv 3) (da_nil))) (da_nil)))))) (dw_or1 (dt_not (dt_truthK K (de_callK K mg c_law_same hr (by decide) (by rfl) (by rfl) (da_cons (de_callK K mg c_tree_rank hr (by decide) (by rfl) (by rfl) (da_cons (dv 3) (da_nil))) (da_cons (de_callK K mg c_law_rank hr (by decide) (by rfl) (by rfl) (da_cons (dv 3) (da_nil))) (da_nil))))))))) (dss_one (ds_ret (de_bl))) (dss_nil))
      (dss_cons (ds_forC [0, 4, 5, 6, 7] PassesOwn.never rfl (di_seqK K (de_callK K mg c_law_cubes hr (by decide) (by rfl) (by rfl) (da_cons (de_ixK K (fun _ _ => rfl) (dv 2) (de_int)) (da_nil)))) (dg_name (i := 4) nd rfl (by first | exact Or.inl rfl | exact Or.inr rfl)) (dss_cons (ds_if (dt_cmp (od_eqK K (hu64 hr)) eqD_ne (nomark _) (de_cb (cd_lenK K) (by rfl) (by exact B.m_len) (by decide +kernel) (da_cons (dv 4) (da_nil))) (de_ixK K (fun _ _ => rfl) (dv 2) (de_int))) (dss_cons (ds_set (i := 5) nd rfl (by first | exact Or.inl rfl | exact Or.inr rfl) (de_callK K mg c_find_leaf hr (by decide) (by rfl) (by rfl) (da_cons (dv 3) (da_cons (dv 4) (da_nil)))))
      (dss_one (ds_if (DW.dt (dw_or (dt_not (dt_truthK K (de_callK K mg c_law_same hr (by decide) (by rfl) (by rfl) (da_cons (dv 5) (da_cons (de_callK K mg c_law_end hr (by decide) (by rfl) (by rfl) (da_cons (dv 3) (da_cons (dv 4) (da_nil)))) (da_nil)))))) (dw_or1 (dt_not (dt_truthK K (de_callK K mg c_law_fails hr (by decide) (by rfl) (by rfl) (da_cons (dv 4) (da_cons (de_ixK K (fun _ _ => rfl) (de_ixK K (fun _ _ => rfl) (dv 2) (de_int)) (dv 5)) (da_nil))))))))) (dss_one (ds_ret (de_bl))) (dss_nil)))) (dss_nil)) (dss_clr [4, 5] (dss_nil))))
      (dss_cons (ds_set (i := 6) nd rfl (by first | exact Or.inl rfl | exact Or.inr rfl) (dv 3))
      (dss_cons (ds_forRC [0, 4, 5, 7] PassesOwn.never rfl (dr_range1 (by rfl) (by exact B.m_range) (da_cons (de_int) (da_nil))) (dg_name (i := 7) nd rfl (by first | exact Or.inl rfl | exact Or.inr rfl)) (dss_cons (ds_set (i := 6) nd rfl (by first | exact Or.inl rfl | exact Or.inr rfl) (de_callK K mg c_law_bent hr (by decide) (by rfl) (by rfl) (da_cons (dv 1) (da_cons (de_ifExp (dt_cmp (od_eqK K (hu64 hr)) eqD_ne (nomark _) (de_callK K mg c_law_draw hr (by decide) (by rfl) (by rfl) (da_cons (dv 1) (da_cons (de_int) (da_nil)))) (de_int)) (dv 6) (dv 3)) (da_nil)))))
      (dss_cons (ds_if (dt_not (dt_truthK K (de_callK K mg c_law_same hr (by decide) (by rfl) (by rfl) (da_cons (de_callK K mg c_is_tree hr (by decide) (by rfl) (by rfl) (da_cons (dv 2) (da_cons (dv 6) (da_nil)))) (da_cons (de_callK K mg c_law_is_tree hr (by decide) (by rfl) (by rfl) (da_cons (dv 2) (da_cons (dv 6) (da_cons (de_tup (da_nil)) (da_nil))))) (da_nil)))))) (dss_one (ds_ret (de_bl))) (dss_nil)) (dss_clr [7] (dss_nil)))))
      (dss_clr [1, 2, 3, 6] (dss_one (ds_ret (de_bl)))))))))))⟩)
end
section
variable {P : Program} {w : World} {K : PySem.W.Frag} {mg : Str → Option Value}
structure Txt (K : PySem.W.Frag) (mg : Str → Option Value) : Prop where
  B : MB mg
  t_law_pool : TxtF K mg "_law_pool" s_law_pool ["_law_script"]
  t_law_spread : TxtF K mg "_law_spread" s_law_spread ["_law_cell"]
  t_law_draw : TxtF K mg "_law_draw" s_law_draw ["_law_pool_here", "_law_many"]
  t_law_some_clause : TxtF K mg "_law_some_clause" s_law_some_clause ["_law_pool_here", "_law_n", "_law_most"]
  t_law_drawn_formula : TxtF K mg "_law_drawn_formula" s_law_drawn_formula ["_law_pool_here", "_law_most"]
  t_law_with : TxtF K mg "_law_with" s_law_with ["_law_cube", "_law_literal"]
  t_law_cubes : TxtF K mg "_law_cubes" s_law_cubes ["_law_n"]
  t_law_within : TxtF K mg "_law_within" s_law_within ["_law_small", "_law_large"]
  t_law_negated : TxtF K mg "_law_negated" s_law_negated ["_law_cube"]
  t_law_fails : TxtF K mg "_law_fails" s_law_fails ["_law_cube", "_law_clause"]
  t_law_leaf : TxtF K mg "_law_leaf" s_law_leaf ["_law_formula", "_law_cube"]
  t_law_model : TxtF K mg "_law_model" s_law_model ["_law_formula"]
  t_law_false_formula : TxtF K mg "_law_false_formula" s_law_false_formula ["_law_pool_here", "_law_most"]
  t_law_free : TxtF K mg "_law_free" s_law_free ["_law_formula", "_law_cube"]
  t_law_some_tree : TxtF K mg "_law_some_tree" s_law_some_tree ["_law_pool_here", "_law_formula", "_law_cube"]
  t_law_same : TxtF K mg "_law_same" s_law_same ["_law_actual", "_law_due"]
  t_is_integer : TxtF K mg "is_integer" s_is_integer ["value"]
  t_is_number : TxtF K mg "is_number" s_is_number ["value"]
  t_falsifies : TxtF K mg "falsifies" s_falsifies ["cube", "clause"]
  t_with_literal : TxtF K mg "with_literal" s_with_literal ["cube", "literal"]
  t_is_tree_below : TxtF K mg "is_tree_below" s_is_tree_below ["formula", "value", "cube"]
  t_is_tree : TxtF K mg "is_tree" s_is_tree ["formula", "value"]
  t_law_depth : TxtF K mg "_law_depth" s_law_depth ["_law_tree"]
  t_tree_depth : TxtF K mg "tree_depth" s_tree_depth ["tree"]
  t_law_leaves : TxtF K mg "_law_leaves" s_law_leaves ["_law_tree"]
  t_tree_leaves : TxtF K mg "tree_leaves" s_tree_leaves ["tree"]
  t_law_rank : TxtF K mg "_law_rank" s_law_rank ["_law_tree"]
  t_tree_rank : TxtF K mg "tree_rank" s_tree_rank ["tree"]
  t_find_leaf : TxtF K mg "find_leaf" s_find_leaf ["tree", "cube"]
  t_law_end : TxtF K mg "_law_end" s_law_end ["_law_tree", "_law_cube"]
  t_law_is_integer : TxtF K mg "_law_is_integer" s_law_is_integer ["_law_actual"]
  t_law_bent : TxtF K mg "_law_bent" s_law_bent ["_law_pool_here", "_law_value"]
  t_law_is_tree : TxtF K mg "_law_is_tree" s_law_is_tree ["_law_formula", "_law_value", "_law_cube"]
  t_law : TxtF K mg "law" s_law ["_law_script"]
theorem all_law (T : Txt K mg) (base : Heap) {f : Addr} {fd : FuncData} (F : Fun K "law" "law" s_law f fd) : FnOk P w K mg base CX0 28 f fd ["_law_script"] (spD K mg 1 g_law) := by
  have c_law_pool : FD P w K mg base 1 1 "_law_pool" g_law_pool := fd_law_pool T.B T.t_law_pool 
  have c_law_spread : FD P w K mg base 1 1 "_law_spread" g_law_spread := fd_law_spread T.B T.t_law_spread 
  have c_law_draw : FD P w K mg base 2 2 "_law_draw" g_law_draw := fd_law_draw T.B T.t_law_draw c_law_spread
  have c_law_some_clause : FD P w K mg base 3 3 "_law_some_clause" g_law_some_clause := fd_law_some_clause T.B T.t_law_some_clause c_law_draw
  have c_law_drawn_formula : FD P w K mg base 4 2 "_law_drawn_formula" g_law_drawn_formula := fd_law_drawn_formula T.B T.t_law_drawn_formula c_law_draw c_law_some_clause
  have c_law_with : FD P w K mg base 1 2 "_law_with" g_law_with := fd_law_with T.B T.t_law_with 
  have c_law_cubes : FD P w K mg base 2 1 "_law_cubes" g_law_cubes := fd_law_cubes T.B T.t_law_cubes c_law_with
  have c_law_within : FD P w K mg base 1 2 "_law_within" g_law_within := fd_law_within T.B T.t_law_within 
  have c_law_negated : FD P w K mg base 1 1 "_law_negated" g_law_negated := fd_law_negated T.B T.t_law_negated 
  have c_law_fails : FD P w K mg base 2 2 "_law_fails" g_law_fails := fd_law_fails T.B T.t_law_fails c_law_within c_law_negated
  have c_law_leaf : FD P w K mg base 3 2 "_law_leaf" g_law_leaf := fd_law_leaf T.B T.t_law_leaf c_law_fails
  have c_law_model : FD P w K mg base 4 1 "_law_model" g_law_model := fd_law_model T.B T.t_law_model c_law_cubes c_law_leaf
  have c_law_false_formula : FD P w K mg base 5 2 "_law_false_formula" g_law_false_formula := fd_law_false_formula T.B T.t_law_false_formula c_law_drawn_formula c_law_model c_law_draw
  have c_law_free : FD P w K mg base 1 2 "_law_free" g_law_free := fd_law_free T.B T.t_law_free 
  have c_law_some_tree : FD P w K mg base 16 3 "_law_some_tree" g_law_some_tree := fd_law_some_tree T.B T.t_law_some_tree c_law_leaf c_law_free c_law_draw c_law_fails c_law_with
  have c_law_same : FD P w K mg base 13 2 "_law_same" g_law_same := fd_law_same T.B T.t_law_same 
  have c_is_integer : FD P w K mg base 1 1 "is_integer" g_is_integer := fd_is_integer T.B T.t_is_integer 
  have c_is_number : FD P w K mg base 2 1 "is_number" g_is_number := fd_is_number T.B T.t_is_number c_is_integer
  have c_falsifies : FD P w K mg base 1 2 "falsifies" g_falsifies := fd_falsifies T.B T.t_falsifies 
  have c_with_literal : FD P w K mg base 1 2 "with_literal" g_with_literal := fd_with_literal T.B T.t_with_literal 
  have c_is_tree_below : FD P w K mg base 15 3 "is_tree_below" g_is_tree_below := fd_is_tree_below T.B T.t_is_tree_below c_is_number c_falsifies c_with_literal
  have c_is_tree : FD P w K mg base 16 2 "is_tree" g_is_tree := fd_is_tree T.B T.t_is_tree c_is_tree_below
  have c_law_depth : FD P w K mg base 13 1 "_law_depth" g_law_depth := fd_law_depth T.B T.t_law_depth 
  have c_tree_depth : FD P w K mg base 13 1 "tree_depth" g_tree_depth := fd_tree_depth T.B T.t_tree_depth 
  have c_law_leaves : FD P w K mg base 13 1 "_law_leaves" g_law_leaves := fd_law_leaves T.B T.t_law_leaves 
  have c_tree_leaves : FD P w K mg base 13 1 "tree_leaves" g_tree_leaves := fd_tree_leaves T.B T.t_tree_leaves 
  have c_law_rank : FD P w K mg base 13 1 "_law_rank" g_law_rank := fd_law_rank T.B T.t_law_rank 
  have c_tree_rank : FD P w K mg base 13 1 "tree_rank" g_tree_rank := fd_tree_rank T.B T.t_tree_rank 
  have c_find_leaf : FD P w K mg base 1 2 "find_leaf" g_find_leaf := fd_find_leaf T.B T.t_find_leaf 
  have c_law_end : FD P w K mg base 13 2 "_law_end" g_law_end := fd_law_end T.B T.t_law_end 
  have c_law_is_integer : FD P w K mg base 1 1 "_law_is_integer" g_law_is_integer := fd_law_is_integer T.B T.t_law_is_integer 
  have c_law_bent : FD P w K mg base 27 2 "_law_bent" g_law_bent := fd_law_bent T.B T.t_law_bent c_law_draw c_law_is_integer
  have c_law_is_tree : FD P w K mg base 15 3 "_law_is_tree" g_law_is_tree := fd_law_is_tree T.B T.t_law_is_tree c_law_is_integer c_law_fails c_law_free c_law_with
  exact fn_law T.B c_law_pool c_law_false_formula c_law_some_tree c_law_same c_is_tree c_law_depth c_tree_depth c_law_leaves c_tree_leaves c_law_rank c_tree_rank c_law_cubes c_find_leaf c_law_end c_law_fails c_law_bent c_law_draw c_law_is_tree F
end

end Law

set_option linter.all false
namespace Lin
/-! sums over two elements, plain -/
def X (U : List Int) (f s : Int → Bool) : Bool := U.foldr (fun v b => ((f v && s v) ^^ b)) false
theorem X_cons (v : Int) (U f s) : X (v :: U) f s = ((f v && s v) ^^ X U f s) := rfl
theorem X_congr {U : List Int} {f g s t : Int → Bool} (h : ∀ v ∈ U, (f v && s v) = (g v && t v)) : X U f s = X U g t := by
  induction U with
  | nil => rfl
  | cons v U ih =>
    rw [X_cons, X_cons, h v List.mem_cons_self, ih fun x hx => h x (List.mem_cons_of_mem _ hx)]
theorem X_xor (U : List Int) (f s t : Int → Bool) : X U f (fun v => (s v ^^ t v)) = (X U f s ^^ X U f t) := by
  induction U with
  | nil => rfl
  | cons v U ih =>
    rw [X_cons, X_cons, X_cons, ih]
    cases f v <;> cases s v <;> cases t v <;> cases X U f s <;> cases X U f t <;> rfl
theorem X_xorL (U : List Int) (f g s : Int → Bool) : X U (fun v => (f v ^^ g v)) s = (X U f s ^^ X U g s) := by
  induction U with
  | nil => rfl
  | cons v U ih =>
    rw [X_cons, X_cons, X_cons, ih]
    cases f v <;> cases g v <;> cases s v <;> cases X U f s <;> cases X U g s <;> rfl
theorem X_count (U : List Int) (f s : Int → Bool) : ((U.filter s).filter f).length % 2 = (X U f s).toNat := by
  induction U with
  | nil => rfl
  | cons v U ih =>
    rw [X_cons, List.filter_cons]
    cases hs : s v with
    | false =>
      rw [if_neg Bool.false_ne_true, ih]
      cases f v <;> cases X U f s <;> rfl
    | true =>
      rw [if_pos rfl, List.filter_cons]
      cases hf : f v with
      | false =>
        rw [if_neg Bool.false_ne_true, ih]
        cases X U f s <;> rfl
      | true =>
        rw [if_pos rfl, List.length_cons]
        cases hx : X U f s with
        | false => rw [hx] at ih; simp at ih ⊢; omega
        | true => rw [hx] at ih; simp at ih ⊢; omega
theorem X_nil {U : List Int} {f s : Int → Bool} (h : ∀ v ∈ U, s v = false) : X U f s = false := by
  induction U with
  | nil => rfl
  | cons v U ih => rw [X_cons, h v List.mem_cons_self, ih fun x hx => h x (List.mem_cons_of_mem _ hx)]; simp
/-- at one place alone -/
theorem X_one {U : List Int} (nd : U.Nodup) {k : Int} (hk : k ∈ U) {δ : Bool} {s : Int → Bool} (hs : s k = true) : X U (fun v => (decide (v = k) && δ)) s = δ := by
  induction U with
  | nil => cases hk
  | cons v U ih =>
    obtain ⟨h1, h2⟩ := List.nodup_cons.mp nd
    rw [X_cons]
    by_cases e : v = k
    · subst e
      rw [hs, X_congr (g := fun _ => false) (t := s) (fun x hx => by
        have : x ≠ v := fun q => h1 (q ▸ hx)
        simp [this]), X_congr (f := fun _ => false) (g := fun _ => true) (t := fun _ => false) (fun _ _ => rfl), X_nil fun _ _ => rfl]
      simp
    · rcases List.mem_cons.mp hk with q | q
      · exact absurd q.symm e
      · rw [ih h2 q]; simp [e]
/-- a row: its last variable, which variables, its parity -/
structure Row where
  k : Int
  s : Int → Bool
  p : Bool
def Sat (U : List Int) (f : Int → Bool) (r : Row) : Prop := X U f r.s = r.p
theorem solve {U : List Int} (nd : U.Nodup) (n : Nat) (hU : ∀ v ∈ U, 1 ≤ v ∧ v ≤ n) (rows : List Row) (hk : ∀ r ∈ rows, r.k ∈ U ∧ r.s r.k = true ∧ ∀ v, r.s v = true → v ≤ r.k) (hd : ∀ r ∈ rows, ∀ r' ∈ rows, r.k = r'.k → r = r') (g : Int → Bool) :
    ∃ f : Int → Bool, (∀ r ∈ rows, Sat U f r) ∧ ∀ v, (∀ r ∈ rows, r.k ≠ v) → f v = g v := by
  have key : ∀ m : Nat, ∃ f : Int → Bool, (∀ r ∈ rows, r.k ≤ m → Sat U f r) ∧ ∀ v, (∀ r ∈ rows, r.k ≠ v) → f v = g v := by
    intro m
    induction m with
    | zero => exact ⟨g, fun r hr h => by have := hU _ (hk r hr).1; omega, fun _ _ => rfl⟩
    | succ m ih =>
      obtain ⟨f, h1, h2⟩ := ih
      by_cases hr : ∃ r ∈ rows, r.k = ((m + 1 : Nat) : Int)
      · obtain ⟨r, hr, e⟩ := hr
        obtain ⟨δ, hδ⟩ : ∃ δ : Bool, δ = (X U f r.s ^^ r.p) := ⟨_, rfl⟩
        refine ⟨fun v => (f v ^^ (decide (v = r.k) && δ)), fun r' hr' hle => ?_, fun v hv => ?_⟩
        · unfold Sat
          rw [X_xorL]
          by_cases q : r'.k = r.k
          · have := hd r' hr' r hr q
            subst this
            rw [X_one nd (hk _ hr').1 (hk _ hr').2.1, hδ]
            cases X U f r'.s <;> cases r'.p <;> rfl
          · have hlt : r'.k ≤ m := by rw [e] at q; omega
            rw [X_congr (f := fun v => (decide (v = r.k) && δ)) (g := fun _ => true) (t := fun _ => false) (fun v _ => by
              by_cases z : v = r.k
              · have : r'.s v = false := by
                  cases w : r'.s v with
                  | false => rfl
                  | true => have := (hk r' hr').2.2 v w; omega
                simp [this]
              · simp [z]), X_nil fun _ _ => rfl, h1 r' hr' hlt]
            simp
        · have : v ≠ r.k := fun z => hv r hr z.symm
          simp [this, h2 v hv]
      · refine ⟨f, fun r hr' hle => h1 r hr' ?_, h2⟩
        have : r.k ≠ ((m + 1 : Nat) : Int) := fun z => hr ⟨r, hr', z⟩
        omega
  obtain ⟨f, h1, h2⟩ := key n
  exact ⟨f, fun r hr => h1 r hr (hU _ (hk r hr).1).2, h2⟩

/-! ascending lists -/
abbrev Asc (l : List Int) : Prop := l.Pairwise (· < ·)
theorem asc_ext : ∀ {a b : List Int}, Asc a → Asc b → (∀ x, x ∈ a ↔ x ∈ b) → a = b
  | [], [], _, _, _ => rfl
  | [], y :: b, _, _, h => absurd ((h y).mpr List.mem_cons_self) (by simp)
  | x :: a, [], _, _, h => absurd ((h x).mp List.mem_cons_self) (by simp)
  | x :: a, y :: b, ha, hb, h => by
    obtain ⟨a1, a2⟩ := List.pairwise_cons.mp ha
    obtain ⟨b1, b2⟩ := List.pairwise_cons.mp hb
    have e : x = y := by
      have hx := (h x).mp List.mem_cons_self
      have hy := (h y).mpr List.mem_cons_self
      rcases List.mem_cons.mp hx with q | q
      · exact q
      · rcases List.mem_cons.mp hy with r | r
        · exact r.symm
        · have := b1 x q
          have := a1 y r
          omega
    subst e
    rw [asc_ext a2 b2 fun z => ⟨fun hz => by
      have := a1 z hz
      rcases List.mem_cons.mp ((h z).mp (List.mem_cons_of_mem _ hz)) with q | q
      · omega
      · exact q, fun hz => by
      have := b1 z hz
      rcases List.mem_cons.mp ((h z).mpr (List.mem_cons_of_mem _ hz)) with q | q
      · omega
      · exact q⟩]
theorem Asc.nodup {l : List Int} (h : Asc l) : l.Nodup := h.imp fun h e => by omega
/-- 1 .. n -/
def rg (n : Nat) : List Int := (List.range n).map fun (k : Nat) => 1 + (k : Int)
theorem mem_rg {n : Nat} {v : Int} : v ∈ rg n ↔ 1 ≤ v ∧ v ≤ n := by
  unfold rg
  rw [List.mem_map]
  constructor
  · rintro ⟨k, hk, rfl⟩
    have := List.mem_range.mp hk
    omega
  · rintro ⟨h1, h2⟩
    exact ⟨(v - 1).toNat, List.mem_range.mpr (by omega), by omega⟩
theorem rg_asc (n : Nat) : Asc (rg n) := by
  unfold rg Asc
  rw [List.pairwise_map]
  exact List.pairwise_lt_range.imp fun h => by omega
/-- ascending, of 1 .. n -/
structure Vs (n : Nat) (l : List Int) : Prop where
  asc : Asc l
  sm : ∀ v ∈ l, 1 ≤ v ∧ v ≤ n
theorem Vs.eq {n : Nat} {l : List Int} (h : Vs n l) : l = (rg n).filter fun v => decide (v ∈ l) := by
  refine asc_ext h.asc ((rg_asc n).filter _) fun x => ?_
  rw [List.mem_filter, mem_rg]
  constructor
  · exact fun hx => ⟨h.sm x hx, by simpa using hx⟩
  · exact fun hx => by simpa using hx.2
abbrev Mem (l : List Int) (v : Int) : Bool := decide (v ∈ l)
theorem Vs.count {n : Nat} {l : List Int} (h : Vs n l) (f : Int → Bool) : (l.filter f).length % 2 = (X (rg n) f (Mem l)).toNat := by
  have := X_count (rg n) f (Mem l)
  rw [← h.eq] at this
  exact this
theorem Vs.len {n : Nat} {l : List Int} (h : Vs n l) : l.length ≤ n := by
  rw [h.eq]
  refine Nat.le_trans (List.length_filter_le _ _) ?_
  simp [rg]
/-- the last one -/
theorem asc_last {l : List Int} (h : Asc l) (hn : l ≠ []) : ∀ v ∈ l, v ≤ l.getLast hn := by
  intro v hv
  induction l with
  | nil => cases hv
  | cons x l ih =>
    obtain ⟨h1, h2⟩ := List.pairwise_cons.mp h
    by_cases e : l = []
    · subst e
      simp at hv ⊢
      omega
    · rw [List.getLast_cons e]
      rcases List.mem_cons.mp hv with q | q
      · have := h1 _ (List.getLast_mem e)
        omega
      · exact ih h2 e q
end Lin

set_option Elab.async false
set_option linter.all false
set_option maxRecDepth 100000
set_option maxHeartbeats 2000000
namespace DL
open PySem PySem.Spec L2
theorem cut1 (xs : List D) : cutD xs (some 1) none = xs.drop 1 := by
  unfold cutD
  rw [show HT.sIx xs.length xs.length none = xs.length from rfl, show HT.sIx xs.length 0 (some 1) = min 1 xs.length from HT.sIx_nat xs.length 0 1]
  rcases xs with _ | ⟨x, xs⟩
  · rfl
  · rw [show min 1 (x :: xs).length = 1 by simp]
    exact List.take_of_length_le (by simp)
theorem zip_map {α : Type} (e : α → D) : ∀ a b : List α, zipL (a.map e) (b.map e) = (a.zip b).map fun p => .tuple [e p.1, e p.2]
  | [], _ => by simp [zipL]
  | _ :: _, [] => by simp [zipL]
  | x :: a, y :: b => by
    rw [List.map_cons, List.map_cons, zipL, zip_map e a b]; rfl
theorem kb_tt : kitB "tuple" "tuple" = some true := by decide +kernel
@[simp] theorem ev_istt (a : List D) : isiD "tuple" (.tuple a) = .ok (.bool true) := isi_of kb_tt
theorem lt_tI (a b : List Int) : ltD (tI a) (tI b) = .ok (.bool (decide (a < b))) := by
  have h : cmpOk (tI a) (tI b) = true := by
    unfold cmpOk
    rw [show PySem.W.alike (tI a) (tI b) = PySem.W.alikeAll (iL a) (iL b) by simp [PySem.W.alike], alike_ints, show (tI a).depth = PyData.depthAll (iL a) + 1 by simp [PyData.depth], depth_ints, show nodc (tI a) = nodcAll (iL a) by simp [nodc], show nodc (tI b) = nodcAll (iL b) by simp [nodc], nodc_ints, nodc_ints]
    rfl
  unfold ltD
  rw [h, if_pos rfl, dataLt_tI]
theorem chain_all {α : Type} {R : α → α → Prop} {f : α → α → Bool} (hf : ∀ a b, R a b → f a b = true) {l : List α} (h : l.Pairwise R) : ((l.zip (l.drop 1)).all fun p => f p.1 p.2) = true := by
  induction l with
  | nil => rfl
  | cons x l ih =>
    obtain ⟨h1, h2⟩ := List.pairwise_cons.mp h
    cases l with
    | nil => rfl
    | cons y l =>
      have := ih h2
      simp at this ⊢
      exact ⟨hf x y (h1 y (by simp)), this⟩
end DL
namespace DL
open PySem PySem.Spec L2
def isTupB : D → Bool
  | .tuple _ => true
  | _ => false
def isIntB : D → Bool
  | .int _ => true
  | _ => false
def isBoolB : D → Bool
  | .bool _ => true
  | _ => false
def toI : D → Int
  | .int i => i
  | _ => 0
theorem kq1 : kitB "NoneType" "tuple" = some false := by decide +kernel
theorem kq2 : kitB "bool" "tuple" = some false := by decide +kernel
theorem kq3 : kitB "int" "tuple" = some false := by decide +kernel
theorem kq4 : kitB "str" "tuple" = some false := by decide +kernel
theorem kq5 : kitB "list" "tuple" = some false := by decide +kernel
theorem kq6 : kitB "dict" "tuple" = some false := by decide +kernel
theorem kr1 : kitB "NoneType" "int" = some false := by decide +kernel
theorem kr2 : kitB "bool" "int" = some true := by decide +kernel
theorem kr4 : kitB "str" "int" = some false := by decide +kernel
theorem kr5 : kitB "list" "int" = some false := by decide +kernel
theorem kr6 : kitB "dict" "int" = some false := by decide +kernel
theorem kr7 : kitB "tuple" "int" = some false := by decide +kernel
theorem isi_tup (d : D) (np : isPool d = false := by first | rfl | assumption) : isiD "tuple" d = .ok (.bool (isTupB d)) := by
  cases d with
  | none => exact isi_of kq1
  | bool _ => exact isi_of kq2
  | int _ => exact isi_of kq3
  | str _ => exact isi_of kq4
  | list _ => exact isi_of kq5
  | dict _ => exact isi_of kq6 np
  | tuple _ => exact isi_of kb_tt
theorem isi_int (d : D) (np : isPool d = false := by first | rfl | assumption) : isiD "int" d = .ok (.bool (isIntB d || isBoolB d)) := by
  cases d with
  | none => exact isi_of kr1
  | bool _ => exact isi_of kr2
  | int _ => exact isi_of kb_ii
  | str _ => exact isi_of kr4
  | list _ => exact isi_of kr5
  | dict _ => exact isi_of kr6 np
  | tuple _ => exact isi_of kr7
theorem ints_of {ds : List D} (h : ds.all isIntB = true) : ds = iL (ds.map toI) := by
  induction ds with
  | nil => rfl
  | cons d ds ih =>
    rw [List.all_cons, Bool.and_eq_true] at h
    cases d with
    | int i => exact congrArg (PyData.int i :: ·) (ih h.2)
    | _ => cases h.1
/-- ascending, pair by pair, is ascending -/
theorem chain_iff {α : Type} {R : α → α → Prop} {f : α → α → Bool} (tr : ∀ a b c, R a b → R b c → R a c) (hf : ∀ a b, f a b = true ↔ R a b) : ∀ l : List α, ((l.zip (l.drop 1)).all fun p => f p.1 p.2) = true ↔ l.Pairwise R
  | [] => ⟨fun _ => .nil, fun _ => rfl⟩
  | [x] => ⟨fun _ => List.pairwise_singleton _ _, fun _ => rfl⟩
  | x :: y :: l => by
    have ih := chain_iff tr hf (y :: l)
    rw [show ((x :: y :: l).zip ((x :: y :: l).drop 1)) = (x, y) :: ((y :: l).zip ((y :: l).drop 1)) from rfl, List.all_cons, Bool.and_eq_true, ih, hf]
    refine ⟨fun ⟨h1, h2⟩ => List.pairwise_cons.mpr ⟨fun z hz => ?_, h2⟩, fun h => ⟨(List.pairwise_cons.mp h).1 y List.mem_cons_self, (List.pairwise_cons.mp h).2⟩⟩
    rcases List.mem_cons.mp hz with rfl | hz
    · exact h1
    · exact tr _ _ _ h1 ((List.pairwise_cons.mp h2).1 z hz)
def ascI (l : List Int) : Bool := (l.zip (l.drop 1)).all fun p => decide (p.1 < p.2)
theorem ascI_eq (l : List Int) : ascI l = decide (l = sortUI l) := by
  have h : ascI l = true ↔ l.Pairwise (· < ·) := chain_iff (R := fun a b : Int => a < b) (f := fun a b => decide (a < b)) (fun _ _ _ => Int.lt_trans) (fun a b => decide_eq_true_iff) l
  rw [Bool.eq_iff_iff, h, decide_eq_true_eq]
  refine ⟨fun p => sortUI_of p fun _ => Iff.rfl, fun e => ?_⟩
  rw [e]
  exact sortUI_lt l
end DL
namespace Law
open PySem PySem.Spec L2 DL Lin
/-! sorted tuples -/
theorem sT_perm (c : List (List Int)) : (sT c).Perm c := List.mergeSort_perm _ _
theorem sT_mem {c : List (List Int)} {x : List Int} : x ∈ sT c ↔ x ∈ c := (sT_perm c).mem_iff
theorem sT_le (c : List (List Int)) : (sT c).Pairwise (· ≤ ·) := by
  have tr : ∀ x y z : List Int, decide (x ≤ y) = true → decide (y ≤ z) = true → decide (x ≤ z) = true := fun x y z h1 h2 => decide_eq_true (List.le_trans (of_decide_eq_true h1) (of_decide_eq_true h2))
  have tt : ∀ x y : List Int, (decide (x ≤ y) || decide (y ≤ x)) = true := fun x y => by
    rcases List.le_total x y with q | q
    · simp [q]
    · simp [q]
  exact (List.pairwise_mergeSort tr tt c).imp fun h => of_decide_eq_true h
theorem lt_of_le_ne {a b : List Int} (h : a ≤ b) (hn : a ≠ b) : a < b := by
  rcases Classical.em (a < b) with q | q
  · exact q
  · exact absurd (List.le_antisymm h (List.not_lt.mp q)) hn
theorem sT_lt {c : List (List Int)} (h : c.Nodup) : (sT c).Pairwise (· < ·) := by
  have h1 := sT_le c
  have h2 := (sT_perm c).nodup_iff.mpr h
  exact (h1.and h2).imp fun ⟨a, b⟩ => lt_of_le_ne a b
theorem sT_eq {a b : List (List Int)} (h : a.Perm b) : sT a = sT b := sortT_perm h
theorem sT_len (c : List (List Int)) : (sT c).length = c.length := List.length_mergeSort c
theorem nodup_lt {c : List (List Int)} (h : c.Pairwise (· < ·)) : c.Nodup := h.imp fun {a b} h e => by subst e; exact List.lt_irrefl _ h
/-- ascending, the same members -/
theorem ltT_ext {a b : List (List Int)} (ha : a.Pairwise (· < ·)) (hb : b.Pairwise (· < ·)) (h : ∀ x, x ∈ a ↔ x ∈ b) : a = b :=
  List.Perm.eq_of_pairwise (fun x y _ _ h1 h2 => absurd (List.lt_trans h1 h2) (List.lt_irrefl _)) ha hb ((List.perm_ext_iff_of_nodup (nodup_lt ha) (nodup_lt hb)).mpr h)
theorem sortA_keys (cs : List (List Int)) (vs : List D) (h : ∀ c ∈ cs, c.length ≤ 1000) (hl : cs.length ≤ 1000) : sorted3 [dcD true (cs.map tI) vs] = .ok ((sT cs).map tI) := by
  have hz := h1000
  show (if (sortOk (cs.map tI) && (cs.map tI).all (fun k => match k with | .tuple xs => decide (xs.length ≤ sizeLine) | _ => true) && decide ((cs.map tI).length ≤ sizeLine)) = true then Res.ok (sortL (cs.map tI)) else .bot) = _
  rw [if_pos, sortL_tups]
  rw [Bool.and_eq_true, Bool.and_eq_true]
  refine ⟨⟨sortOk_tups cs, List.all_eq_true.mpr fun k hk => ?_⟩, decide_eq_true (by rw [List.length_map]; omega)⟩
  obtain ⟨c, hc, rfl⟩ := List.mem_map.mp hk
  exact decide_eq_true (by rw [List.length_map]; have := h c hc; omega)
/-- keys put: once each -/
def putK (cs : List (List Int)) (c : List Int) : List (List Int) := if c ∈ cs then cs else cs ++ [c]
theorem putK_mem {cs : List (List Int)} {c x : List Int} : x ∈ putK cs c ↔ x ∈ cs ∨ x = c := by
  unfold putK
  by_cases h : c ∈ cs
  · rw [if_pos h]
    exact ⟨.inl, fun z => z.elim _root_.id fun e => e ▸ h⟩
  · rw [if_neg h, List.mem_append, List.mem_singleton]
theorem putK_nodup {cs : List (List Int)} {c : List Int} (h : cs.Nodup) : (putK cs c).Nodup := by
  unfold putK
  by_cases q : c ∈ cs
  · rw [if_pos q]; exact h
  · rw [if_neg q, List.nodup_append]
    exact ⟨h, by simp, fun a ha b hb e => q (by rw [List.mem_singleton] at hb; rw [← hb, ← e]; exact ha)⟩
theorem putK_len {cs : List (List Int)} {c : List Int} : (putK cs c).length ≤ cs.length + 1 := by
  unfold putK
  split
  · omega
  · simp
theorem putKs_tI (cs : List (List Int)) (c : List Int) : putKs (cs.map tI) (tI c) = (putK cs c).map tI := by
  unfold putKs putK
  rw [hasK_keys kg_tI]
  by_cases h : c ∈ cs
  · simp [h]
  · simp [h]
/-- d[c] = v at a slot of one's own, keys alone -/
theorem putT_ok {i : Nat} {S : List Nat} {fv fk : DSt → Res D} {δ : DSt} {cs : List (List Int)} {vs : List D} {c : List Int} {v : D} (hd : δ[i]? = some (some (.ownd true (cs.map tI) vs))) (hv : fv δ = .ok v) (hf : flat v = true) (hk : fk δ = .ok (tI c)) (hl : cs.length < sizeLine) :
    putF i S fv fk δ = .ok (.nx (δ.set i (some (.ownd true ((putK cs c).map tI) (putVs (cs.map tI) vs (tI c) v))))) := by
  unfold DL.putF
  simp only [hd, hv, ev_ok, hf, if_true, hk]
  rw [kg_tI.ok, putKs_tI]
  rw [show (true && decide ((cs.map tI).length < sizeLine)) = true by simpa using hl, if_pos rfl]
def ascT (l : List (List Int)) : Bool := (l.zip (l.drop 1)).all fun p => decide (p.1 < p.2)
theorem ascT_eq (l : List (List Int)) : ascT l = decide (l = sortU l) := by
  have h : ascT l = true ↔ l.Pairwise (· < ·) := chain_iff (R := fun a b : List Int => a < b) (f := fun a b : List Int => decide (a < b)) (fun _ _ _ => List.lt_trans) (fun a b => decide_eq_true_iff) l
  have hp : (sortU l).Pairwise (· < ·) := sT_lt (ddup_nodup l)
  have hm : ∀ x, x ∈ sortU l ↔ x ∈ l := fun x => by
    unfold sortU
    rw [(List.mergeSort_perm (ddup l) _).mem_iff, ddup_mem]
  rw [Bool.eq_iff_iff, h, decide_eq_true_eq]
  refine ⟨fun p => ltT_ext p hp fun x => (hm x).symm, fun e => ?_⟩
  rw [e]
  exact hp
theorem tOr_t {f g : DSt → Res Bool} {δ : DSt} (h : f δ = .ok true) : tOr' f g δ = .ok true := by
  show (f δ >>= fun x => if x then Res.ok true else g δ) = _
  rw [h]; rfl
theorem tOr_f {f g : DSt → Res Bool} {δ : DSt} {r : Res Bool} (h : f δ = .ok false) (h2 : g δ = r) : tOr' f g δ = r := by
  show (f δ >>= fun x => if x then Res.ok true else g δ) = _
  rw [h]; exact h2
theorem if_ret {c : DSt → Res Bool} {b : Bool} {k : DSt → Res Out} {δ : DSt} (h : c δ = .ok true) : seqF (ifS c (sRt (cB b)) sNil) k δ = .ok (.rt (.bool b)) := by
  rw [sq, ev_ifS, h, ifK_t]; rfl
theorem if_go {c : DSt → Res Bool} {f k : DSt → Res Out} {δ : DSt} {r : Res Out} (h : c δ = .ok false) (h2 : k δ = r) : seqF (ifS c f sNil) k δ = r := by
  rw [sq, ev_ifS, h, ifK_f]; exact h2
def NiceC (v : D) : Prop := ∀ ds, v = .tuple ds → ds.length < 64
theorem ix_ex {L : List D} {k : Int} (h0 : 0 ≤ k) (h1 : k < L.length) : ∃ x ∈ L, ixD (.list L) (.int k) = .ok x := by
  have hk : k.toNat < L.length := by omega
  refine ⟨L[k.toNat], List.getElem_mem hk, ?_⟩
  have := ix_L (ds := L) (k := k.toNat) (d := L[k.toNat]) (List.getElem?_eq_getElem hk)
  rwa [show ((k.toNat : Nat) : Int) = k by omega] at this
theorem nc_tI {c : List Int} (h : c.length < 64) : NiceC (tI c) := by
  intro ds e
  cases e
  rw [List.length_map]
  exact h
theorem small_L (L : List D) (h : L.length ≤ 100) : lstD L = .ok L := by
  have := h1000
  exact lstD_ok (by omega)
theorem small_T (L : List D) (h : L.length ≤ 100) : tupD L = .ok (.tuple L) := by
  have := h1000
  exact if_pos (by omega)
theorem pickB {fl fk : DSt → Res D} {L : List D} {k : Int} {δ : DSt} (hl : fl δ = .ok (.list L)) (hk : fk δ = .ok (.int k)) (h0 : 0 ≤ k) (h1 : k < L.length) : ∃ x ∈ L, b2 ixD fl fk δ = .ok x := by
  obtain ⟨x, hx, e⟩ := ix_ex h0 h1
  exact ⟨x, hx, by rw [ev_b2, hl, ok_bind, hk, ok_bind, e]⟩
theorem cut_tI (cs : List (List Int)) (lo hi) : ∃ ys : List (List Int), cutD (cs.map tI) lo hi = ys.map tI ∧ ys.length ≤ cs.length ∧ ∀ y ∈ ys, y ∈ cs := by
  refine ⟨(cs.drop (HT.sIx (cs.map tI).length 0 lo)).take (HT.sIx (cs.map tI).length (cs.map tI).length hi - HT.sIx (cs.map tI).length 0 lo), ?_, ?_, fun y hy => List.mem_of_mem_drop (List.mem_of_mem_take hy)⟩
  · unfold cutD
    simp only [List.map_take, List.map_drop]
  · simp
    omega
end Law

set_option Elab.async false
set_option linter.all false
set_option maxRecDepth 100000
set_option maxHeartbeats 2000000
namespace DL
open PySem PySem.Spec L2
/-! ### whatever is drawn -/
structure Al {α : Type} (r : Res α) (P : α → Prop) : Prop where
  wp : r.wp P fun _ => False
section
variable {α β : Type} {r r' : Res α} {P Q : α → Prop} {δ δ' : DSt} {f g : DSt → Res Out} {R : Out → Prop}
@[simp] theorem al_ok {a : α} : Al (.ok a) P ↔ P a := ⟨fun h => h.wp, fun h => ⟨h⟩⟩
@[simp] theorem al_bind {f : α → Res β} {P : β → Prop} : Al (r >>= f) P ↔ Al r fun a => Al (f a) P := by
  have e := wp_bind r f P fun _ => False
  constructor
  · intro h
    have h := h.wp
    rw [e] at h
    exact ⟨wp_mono h (fun _ h => ⟨h⟩) fun _ h => h⟩
  · intro h
    refine ⟨?_⟩
    rw [e]
    exact wp_mono h.wp (fun _ h => h.wp) fun _ h => h
theorem al_mono (h : Al r P) (hq : ∀ a, P a → Q a) : Al r Q := ⟨wp_mono h.wp hq fun _ h => h⟩
theorem al_eq {a : α} (h : r = .ok a) (hp : P a) : Al r P := by rw [h]; exact al_ok.mpr hp
theorem al_pick {m : Int} {k : Int → Res α} : Al (.pick m k) P ↔ 0 < m ∧ ∀ i, 0 ≤ i → i < m → Al (k i) P :=
  ⟨fun h => ⟨h.wp.1, fun i h0 h1 => ⟨h.wp.2 i h0 h1⟩⟩, fun h => ⟨⟨h.1, fun i h0 h1 => (h.2 i h0 h1).wp⟩⟩⟩
@[simp] theorem al_nE : Al (nE r) P ↔ Al r P := by
  induction r with
  | ok a => exact Iff.rfl
  | bot => exact Iff.rfl
  | err x => exact ⟨fun h => h.wp.elim, fun h => h.wp.elim⟩
  | pick m k ih =>
    rw [show nE (Res.pick m k) = .pick m fun i => nE (k i) from rfl, al_pick, al_pick]
    simp only [ih]
theorem al_and (h : Al r P) (h2 : Al r Q) : Al r fun a => P a ∧ Q a := by
  induction r with
  | ok a => exact al_ok.mpr ⟨al_ok.mp h, al_ok.mp h2⟩
  | bot => exact h.wp.elim
  | err x => exact h.wp.elim
  | pick m k ih =>
    rw [al_pick] at *
    exact ⟨h.1, fun i h0 h1 => ih i (h.2 i h0 h1) (h2.2 i h0 h1)⟩
theorem al_fn {n : Nat} {b : DSt → Res Out} {ds : List D} {P : D → Prop} (h : Al (b (startD n ds)) fun o => Al (fnK o) P) : Al (fnD n b ds) P := by
  unfold fnD
  rw [al_bind, al_nE]
  exact h
@[simp] theorem fnK_rt (d : D) : fnK (.rt d) = .ok d := rfl
def seqO (o : Out) (g : DSt → Res Out) : Res Out := match o with
  | .nx δ => g δ
  | o => .ok o
@[simp] theorem seqO_nx : seqO (.nx δ) g = g δ := rfl
@[simp] theorem seqO_rt (d : D) : seqO (.rt d) g = .ok (.rt d) := rfl
@[simp] theorem seqO_bk : seqO (.bk δ) g = .ok (.bk δ) := rfl
@[simp] theorem seqO_ct : seqO (.ct δ) g = .ok (.ct δ) := rfl
@[simp] theorem al_sq : Al (seqF f g δ) R ↔ Al (f δ) fun o => Al (seqO o g) R := by
  rw [sq]
  exact al_bind
def asgD (d : D) (S : List Nat) (p : Pat) (δ : DSt) : Res Out := nE (bindP p d (if flat d then δ else freeze S 0 δ)) >>= fun δ' => .ok (.nx δ')
@[simp] theorem al_asgK {r : Res D} {S : List Nat} {p : Pat} : Al (asgK r S p δ) R ↔ Al r fun d => Al (asgD d S p δ) R := al_bind
@[simp] theorem al_asg {f : DSt → Res D} {S : List Nat} {p : Pat} : Al (asgF S f p δ) R ↔ Al (f δ) fun d => Al (asgD d S p δ) R := al_asgK
theorem asgD_fl {d : D} {S : List Nat} {p : Pat} (h : flat d = true) : asgD d S p δ = (nE (bindP p d δ) >>= fun δ' => .ok (.nx δ')) := by
  unfold asgD; rw [h]; rfl
@[simp] theorem asgD_int (i : Int) (S : List Nat) (p : Pat) : asgD (.int i) S p δ = (nE (bindP p (.int i) δ) >>= fun δ' => .ok (.nx δ')) := asgD_fl (by simp)
@[simp] theorem asgD_none (S : List Nat) (p : Pat) : asgD .none S p δ = (nE (bindP p .none δ) >>= fun δ' => .ok (.nx δ')) := asgD_fl (by simp)
@[simp] theorem asgD_tI (c : List Int) (S : List Nat) (p : Pat) : asgD (.tuple (c.map .int)) S p δ = (nE (bindP p (.tuple (c.map .int)) δ) >>= fun δ' => .ok (.nx δ')) := asgD_fl (by simp)
theorem asgD_v {d : D} {S : List Nat} {p : Pat} (hz : freeze S 0 δ = δ) : asgD d S p δ = (nE (bindP p d δ) >>= fun δ' => .ok (.nx δ')) := by
  unfold asgD
  rw [hz]
  have : (if flat d = true then δ else δ) = δ := by split <;> rfl
  rw [this]
theorem al_asgL {f : DSt → Res (List D)} {S : List Nat} {i : Nat} : Al (asgLV S f i δ) R ↔ Al (f δ) fun d => Al (Res.ok (Out.nx ((if flatAll d then δ else freeze S 0 δ).set i (some (SV.val (PyData.list d)))))) R := al_bind
theorem al_asgO {f : DSt → Res (List D)} {S : List Nat} {i : Nat} : Al (asgO S f i δ) R ↔ Al (f δ) fun d => Al (Res.ok (Out.nx ((if flatAll d then δ else freeze S 0 δ).set i (some (SV.own d))))) R := al_bind
def asgLD (xs : List D) (S : List Nat) (i : Nat) (δ : DSt) : Res Out := .ok (.nx ((if flatAll xs then δ else freeze S 0 δ).set i (some (.val (.list xs)))))
@[simp] theorem al_asgLK {r : Res (List D)} {S : List Nat} {i : Nat} : Al (asgLK r S i δ) R ↔ Al r fun d => Al (asgLD d S i δ) R := al_bind
theorem asgLD_fl {xs : List D} {S : List Nat} {i : Nat} (h : flatAll xs = true) : asgLD xs S i δ = .ok (.nx (δ.set i (some (.val (.list xs))))) := by
  unfold asgLD; rw [h]; rfl
theorem asgLD_v {xs : List D} {S : List Nat} {i : Nat} (hz : freeze S 0 δ = δ) : asgLD xs S i δ = .ok (.nx (δ.set i (some (.val (.list xs))))) := by
  unfold asgLD
  rw [hz]
  have : (if flatAll xs = true then δ else δ) = δ := by split <;> rfl
  rw [this]
def asgOD (xs : List D) (S : List Nat) (i : Nat) (δ : DSt) : Res Out := .ok (.nx ((if flatAll xs then δ else freeze S 0 δ).set i (some (.own xs))))
@[simp] theorem al_asgOK {r : Res (List D)} {S : List Nat} {i : Nat} : Al (asgOK r S i δ) R ↔ Al r fun d => Al (asgOD d S i δ) R := al_bind
@[simp] theorem al_ifK {r : Res Bool} : Al (ifK r f g δ) R ↔ Al r fun b => Al (if b then f δ else g δ) R := al_bind
theorem al_u1 {g : D → Res D} {fe : DSt → Res D} {P : D → Prop} : Al (u1 g fe δ) P ↔ Al (fe δ) fun d => Al (g d) P := al_bind
theorem al_u1A {g : List D → Res D} {fe : DSt → Res (List D)} {P : D → Prop} : Al (u1A g fe δ) P ↔ Al (fe δ) fun d => Al (g d) P := al_bind
theorem al_b2 {g : D → D → Res D} {fa fb : DSt → Res D} {P : D → Prop} : Al (b2 g fa fb δ) P ↔ Al (fa δ) fun x => Al (fb δ) fun y => Al (g x y) P := by
  rw [ev_b2, al_bind]
  simp only [al_bind]
theorem al_aCons {fe : DSt → Res D} {ge : DSt → Res (List D)} {P : List D → Prop} : Al (aCons fe ge δ) P ↔ Al (fe δ) fun x => Al (ge δ) fun xs => P (x :: xs) := by
  rw [ev_aCons, al_bind]
  simp only [al_bind, al_ok]
theorem al_callF {g : List D → Res D} {fe : DSt → Res (List D)} {P : D → Prop} : Al (callF g fe δ) P ↔ Al (fe δ) fun ds => Al (g ds) P := by
  rw [ev_callF, al_bind]
  simp only [al_nE]
theorem al_asL {fe : DSt → Res (List D)} {P : D → Prop} : Al (asL fe δ) P ↔ Al (fe δ) fun xs => P (.list xs) := by
  rw [ev_asL, al_bind]
  simp only [al_ok]
theorem al_tupL {fe : DSt → Res (List D)} {P : D → Prop} : Al (u1A tupleD (aCons (asL fe) aNil) δ) P ↔ Al (fe δ) fun xs => P (.tuple xs) := by
  rw [al_u1A, al_aCons, al_asL]
  simp only [ev_aNil, al_ok, ev_tupL]
theorem al_sRt {fe : DSt → Res D} : Al (sRt fe δ) R ↔ Al (fe δ) fun d => R (.rt d) := by
  rw [ev_sRt, al_bind]
  simp only [al_ok]
theorem al_tB2 {g : D → D → Res D} {fa fb : DSt → Res D} {P : Bool → Prop} : Al (tB2 g fa fb δ) P ↔ Al (fa δ) fun x => Al (fb δ) fun y => Al (g x y) fun z => Al (asB z) P := by
  rw [ev_tB2, al_bind]
  simp only [al_bind]
theorem al_tAnd {fa fb : DSt → Res Bool} {P : Bool → Prop} : Al (tAnd' fa fb δ) P ↔ Al (fa δ) fun x => Al (if x then fb δ else .ok false) P := al_bind
theorem al_tOr {fa fb : DSt → Res Bool} {P : Bool → Prop} : Al (tOr' fa fb δ) P ↔ Al (fa δ) fun x => Al (if x then .ok true else fb δ) P := al_bind
theorem al_tNt {fa : DSt → Res Bool} {P : Bool → Prop} : Al (tNt fa δ) P ↔ Al (fa δ) fun x => P (!x) := by
  rw [ev_tNt, al_bind]
  simp only [al_ok]
theorem al_tTr {fe : DSt → Res D} {P : Bool → Prop} : Al (tTr fe δ) P ↔ Al (fe δ) fun d => Al (truD d) P := al_bind
theorem al_if {c : DSt → Res Bool} : Al (ifS c f g δ) R ↔ Al (c δ) fun b => Al (if b then f δ else g δ) R := al_bind
theorem al_app {i : Nat} {S : List Nat} {fe : DSt → Res D} {xs : List D} (h : δ[i]? = some (some (.own xs))) (hl : xs.length < sizeLine) (hf : Al (fe δ) fun d => flat d = true ∧ R (.nx (δ.set i (some (.own (xs ++ [d])))))) : Al (appF i S fe δ) R := by
  unfold appF
  simp only [h]
  refine al_bind.mpr (al_mono hf fun d ⟨h1, h2⟩ => ?_)
  simp only [h1, if_true, h, hl]
  exact al_ok.mpr h2
theorem al_draw {m : Int} (h0 : 0 < m) (h1 : m < 1073741824) : Al (drawG [.dict [], .int m]) fun d => ∃ i : Int, d = PyData.int i ∧ 0 ≤ i ∧ i < m := by
  have e : drawG [.dict [], .int m] = Res.pick m (fun i => Res.ok (PyData.int i)) := if_pos ⟨h0, h1⟩
  rw [e, al_pick]
  exact ⟨h0, fun i a b => al_ok.mpr ⟨i, rfl, a, b⟩⟩
/-! loops -/
theorem al_for_st {α σ : Type} (enc : α → D) (E : σ → DSt) (I : List α → σ → Prop) {p : Pat} {body : DSt → Res Out} {l0 : List α}
    (h : ∀ done a rest s, l0 = done ++ a :: rest → I done s → Al (nE (bindP p (enc a) (E s)) >>= body) fun o => ∃ s', o = .nx (E s') ∧ I (done ++ [a]) s') :
    ∀ l done s, l0 = done ++ l → I done s → Al (forGo p body (l.map enc) (E s)) fun o => ∃ s', o = .nx (E s') ∧ I l0 s'
  | [], done, s, e, hI => by
    rw [List.append_nil] at e
    subst e
    exact al_ok.mpr ⟨s, rfl, hI⟩
  | a :: l, done, s, e, hI => by
    have h1 := h done a l s e hI
    rw [List.map_cons, forGo]
    rw [al_bind] at h1
    refine al_bind.mpr (al_mono h1 fun δ1 h1 => ?_)
    refine al_bind.mpr (al_mono h1 fun o ho => ?_)
    obtain ⟨s', rfl, hI'⟩ := ho
    exact al_for_st enc E I h l (done ++ [a]) s' (by rw [List.append_assoc]; exact e) hI'
theorem al_for {α σ : Type} (enc : α → D) (E : σ → DSt) (I : List α → σ → Prop) {p : Pat} {body : DSt → Res Out} {l : List α} {s : σ} (h0 : I [] s)
    (h : ∀ done a rest s, l = done ++ a :: rest → I done s → Al (nE (bindP p (enc a) (E s)) >>= body) fun o => ∃ s', o = .nx (E s') ∧ I (done ++ [a]) s') :
    Al (forGo p body (l.map enc) (E s)) fun o => ∃ s', o = .nx (E s') ∧ I l s' := al_for_st enc E I h l [] s rfl h0
theorem al_rng {σ : Type} (E : σ → DSt) (I : Nat → σ → Prop) {p : Pat} {body : DSt → Res Out} {lo hi : Int} {s : σ} (hlh : lo ≤ hi) (h0 : I 0 s)
    (h : ∀ (k : Nat) s, lo + k < hi → I k s → Al (nE (bindP p (.int (lo + k)) (E s)) >>= body) fun o => ∃ s', o = .nx (E s') ∧ I (k + 1) s') :
    Al (forGo p body (rngL lo hi) (E s)) fun o => ∃ s', o = .nx (E s') ∧ I (hi - lo).toNat s' := by
  rw [rngL_map]
  have e : ((List.range (hi - lo).toNat).map fun (k : Nat) => lo + (k : Int)).length = (hi - lo).toNat := rng_len
  refine al_mono (al_for PyData.int E (fun done s => I done.length s) (l := (List.range (hi - lo).toNat).map fun (k : Nat) => lo + (k : Int)) h0 (fun done a rest s ed hI => ?_)) fun o ⟨s', h1, h2⟩ => ⟨s', h1, by rw [e] at h2; exact h2⟩
  have hk : done.length < (hi - lo).toNat := by
    have := congrArg List.length ed
    rw [e] at this
    simp at this
    omega
  have ha : a = lo + (done.length : Int) := by
    have := congrArg (fun l => l[done.length]?) ed
    simp at this
    rw [List.getElem?_range hk] at this
    simp at this
    exact this.symm
  subst ha
  have := h done.length s (by omega) hI
  rw [List.length_append, List.length_singleton]
  exact this
/-! new lists -/
theorem al_lcGo {α β : Type} (enc : α → D) (enc' : β → D) (P : α → β → Prop) {p : Pat} {δ : DSt} {ft : DSt → Res Bool} {fe : DSt → Res D} : ∀ l : List α, (∀ a ∈ l, ∃ δ1, nE (bindP p (enc a) δ) = .ok δ1 ∧ Al (ft δ1) fun b => b = true → Al (fe δ1) fun d => ∃ b, d = enc' b ∧ P a b) →
    Al (lcGo p δ ft fe (l.map enc)) fun ds => ∃ bs : List β, ds = bs.map enc' ∧ bs.length ≤ l.length ∧ ∀ b ∈ bs, ∃ a ∈ l, P a b
  | [], _ => al_ok.mpr ⟨[], rfl, Nat.le_refl _, by simp⟩
  | a :: l, h => by
    obtain ⟨δ1, h1, h2⟩ := h a List.mem_cons_self
    have ih := al_lcGo enc enc' P l fun x hx => h x (List.mem_cons_of_mem _ hx)
    rw [List.map_cons, lcGo, h1]
    rw [ok_bind]
    refine al_bind.mpr (al_nE.mpr (al_mono h2 fun b hb => ?_))
    cases b with
    | true =>
      refine al_bind.mpr (al_nE.mpr (al_mono (hb rfl) fun d ⟨b, e, hp⟩ => ?_))
      refine al_bind.mpr (al_mono ih fun ds ⟨bs, e2, h3, h4⟩ => ?_)
      refine al_ok.mpr ⟨b :: bs, by rw [e, e2]; rfl, by simp; omega, fun x hx => ?_⟩
      rcases List.mem_cons.mp hx with rfl | hx
      · exact ⟨a, List.mem_cons_self, hp⟩
      · obtain ⟨y, hy, hq⟩ := h4 x hx
        exact ⟨y, List.mem_cons_of_mem _ hy, hq⟩
    | false =>
      exact al_mono ih fun ds ⟨bs, e2, h3, h4⟩ => ⟨bs, e2, by simp; omega, fun x hx => by
        obtain ⟨y, hy, hq⟩ := h4 x hx
        exact ⟨y, List.mem_cons_of_mem _ hy, hq⟩⟩
theorem al_lc {α β : Type} (enc : α → D) (enc' : β → D) (P : α → β → Prop) {p : Pat} {vs : List Nat} {δ : DSt} {gs : DSt → Res (List D)} {ft : DSt → Res Bool} {fe : DSt → Res D} {l : List α} (hg : gs δ = .ok (l.map enc)) (hl : l.length ≤ sizeLine)
    (h : ∀ a ∈ l, ∃ δ1, nE (bindP p (enc a) (wipeD δ vs)) = .ok δ1 ∧ Al (ft δ1) fun b => b = true → Al (fe δ1) fun d => ∃ b, d = enc' b ∧ P a b) :
    Al (lcF gs p vs ft fe δ) fun ds => ∃ bs : List β, ds = bs.map enc' ∧ bs.length ≤ l.length ∧ ∀ b ∈ bs, ∃ a ∈ l, P a b := by
  unfold lcF
  rw [hg, ok_bind]
  refine al_bind.mpr (al_mono (al_lcGo enc enc' P l h) fun ds ⟨bs, e, h1, h2⟩ => ?_)
  rw [lstD_ok (by rw [e, List.length_map]; omega)]
  exact al_ok.mpr ⟨bs, e, h1, h2⟩
theorem al_lcGoS {α : Type} (enc : α → D) (g : α → D) {p : Pat} {δ : DSt} {ft : DSt → Res Bool} {fe : DSt → Res D} : ∀ l : List α, (∀ a ∈ l, ∃ δ1, nE (bindP p (enc a) δ) = .ok δ1 ∧ (Al (ft δ1) fun _ => True) ∧ fe δ1 = .ok (g a)) →
    Al (lcGo p δ ft fe (l.map enc)) fun ds => ∃ sub : List α, sub.Sublist l ∧ ds = sub.map g
  | [], _ => al_ok.mpr ⟨[], .slnil, rfl⟩
  | a :: l, h => by
    obtain ⟨δ1, h1, h2, h3⟩ := h a List.mem_cons_self
    have ih := al_lcGoS enc g l fun x hx => h x (List.mem_cons_of_mem _ hx)
    rw [List.map_cons, lcGo, h1]
    rw [ok_bind]
    refine al_bind.mpr (al_nE.mpr (al_mono h2 fun b _ => ?_))
    cases b with
    | true =>
      rw [if_pos rfl, h3]
      refine al_bind.mpr (al_nE.mpr (al_ok.mpr ?_))
      exact al_bind.mpr (al_mono ih fun ds ⟨sub, h4, e⟩ => al_ok.mpr ⟨a :: sub, h4.cons₂ a, by rw [e]; rfl⟩)
    | false =>
      exact al_mono ih fun ds ⟨sub, h4, e⟩ => ⟨sub, h4.cons a, e⟩
theorem al_lcS {α : Type} (enc : α → D) (g : α → D) {p : Pat} {vs : List Nat} {δ : DSt} {gs : DSt → Res (List D)} {ft : DSt → Res Bool} {fe : DSt → Res D} {l : List α} (hg : gs δ = .ok (l.map enc)) (hl : l.length ≤ sizeLine)
    (h : ∀ a ∈ l, ∃ δ1, nE (bindP p (enc a) (wipeD δ vs)) = .ok δ1 ∧ (Al (ft δ1) fun _ => True) ∧ fe δ1 = .ok (g a)) :
    Al (lcF gs p vs ft fe δ) fun ds => ∃ sub : List α, sub.Sublist l ∧ ds = sub.map g := by
  unfold lcF
  rw [hg, ok_bind]
  refine al_bind.mpr (al_mono (al_lcGoS enc g l h) fun ds ⟨sub, h1, e⟩ => ?_)
  rw [lstD_ok (by rw [e, List.length_map]; have := h1.length_le; omega)]
  exact al_ok.mpr ⟨sub, h1, e⟩
theorem al_lcA {α β : Type} (enc : α → D) (enc' : β → D) (Pa : α → Prop) (P : β → Prop) (M : Nat) {p : Pat} {vs : List Nat} {δ : DSt} {gs : DSt → Res (List D)} {ft : DSt → Res Bool} {fe : DSt → Res D} (hg : Al (gs δ) fun xs => ∃ l : List α, xs = l.map enc ∧ l.length ≤ M ∧ ∀ a ∈ l, Pa a) (hM : M ≤ 100000)
    (h : ∀ a, Pa a → ∃ δ1, nE (bindP p (enc a) (wipeD δ vs)) = .ok δ1 ∧ Al (ft δ1) fun b => b = true → Al (fe δ1) fun d => ∃ b, d = enc' b ∧ P b) :
    Al (lcF gs p vs ft fe δ) fun ds => ∃ bs : List β, ds = bs.map enc' ∧ bs.length ≤ M ∧ ∀ b ∈ bs, P b := by
  have hz := h1000
  unfold lcF
  refine al_bind.mpr (al_mono hg fun xs ⟨l, e, hl, ha⟩ => ?_)
  subst e
  refine al_bind.mpr (al_mono (al_lcGo enc enc' (fun _ b => P b) l fun a hm => h a (ha a hm)) fun ds ⟨bs, e, h1, h2⟩ => ?_)
  rw [lstD_ok (by rw [e, List.length_map]; omega)]
  exact al_ok.mpr ⟨bs, e, by omega, fun b hb => by obtain ⟨_, _, hp⟩ := h2 b hb; exact hp⟩
theorem al_rngL {j : Int} (h0 : 0 ≤ j) (h1 : j ≤ 1000) : Al (rng1D [.int j]) fun xs => ∃ l : List Int, xs = l.map PyData.int ∧ l.length ≤ j.toNat ∧ ∀ a ∈ l, 0 ≤ a ∧ a < j := by
  rw [rng1_ok (by omega), rngL_map]
  exact al_ok.mpr ⟨_, rfl, by rw [rng_len]; omega, fun a ha => mem_rng ha⟩
end
end DL

set_option Elab.async false
set_option linter.all false
set_option maxRecDepth 100000
set_option maxHeartbeats 4000000
namespace Law
open PySem PySem.Spec L2 DL Lin
/-! ### all assignments -/
/-- with the signs f -/
def sgF (n : Nat) (f : Int → Bool) : List Int := (rg n).map fun v => if f v then v else -v
theorem rg_succ (k : Nat) : rg (k + 1) = rg k ++ [1 + (k : Int)] := by
  unfold rg
  rw [List.range_succ, List.map_append]; rfl
theorem sgF_succ (k : Nat) (f : Int → Bool) : sgF (k + 1) f = sgF k f ++ [if f (1 + (k : Int)) then 1 + (k : Int) else -(1 + (k : Int))] := by
  unfold sgF
  rw [rg_succ, List.map_append]; rfl
theorem sgF_congr {n : Nat} {f g : Int → Bool} (h : ∀ v ∈ rg n, f v = g v) : sgF n f = sgF n g := by
  unfold sgF
  exact List.map_congr_left fun v hv => by rw [h v hv]
theorem sgF_mem {n : Nat} {f : Int → Bool} {l : Int} : l ∈ sgF n f ↔ (1 ≤ (l.natAbs : Int) ∧ (l.natAbs : Int) ≤ n) ∧ (0 < l ∧ f l = true ∨ l < 0 ∧ f (-l) = false) := by
  unfold sgF
  rw [List.mem_map]
  constructor
  · rintro ⟨v, hv, rfl⟩
    have hv := mem_rg.mp hv
    cases hf : f v with
    | true =>
      simp only [if_true]
      exact ⟨by omega, .inl ⟨by omega, hf⟩⟩
    | false =>
      simp only [Bool.false_eq_true, if_false]
      exact ⟨by omega, .inr ⟨by omega, by rw [Int.neg_neg]; exact hf⟩⟩
  · rintro ⟨h, ⟨h1, h2⟩ | ⟨h1, h2⟩⟩
    · exact ⟨l, mem_rg.mpr (by omega), by rw [h2]; rfl⟩
    · exact ⟨-l, mem_rg.mpr (by omega), by rw [h2]; simp⟩
theorem sgF_nodup (n : Nat) (f : Int → Bool) : (sgF n f).Nodup := by
  unfold sgF List.Nodup
  rw [List.pairwise_map]
  refine (List.Pairwise.and_mem.mp (rg_asc n)).imp fun {a b} h e => ?_
  obtain ⟨ha, hb, h⟩ := h
  have ha := mem_rg.mp ha
  have hb := mem_rg.mp hb
  split at e <;> split at e <;> omega
theorem sgF_len (n : Nat) (f : Int → Bool) : (sgF n f).length = n := by simp [sgF, rg]
/-- an assignment of 1 .. n -/
structure Full (n : Nat) (m : List Int) : Prop where
  asc : Asc m
  sm : ∀ l ∈ m, 1 ≤ (l.natAbs : Int) ∧ (l.natAbs : Int) ≤ n
  co : ∀ l ∈ m, -l ∉ m
  all : ∀ v : Int, 1 ≤ v → v ≤ n → v ∈ m ∨ -v ∈ m
theorem full_iff {n : Nat} {m : List Int} : Full n m ↔ ∃ f, m = sI (sgF n f) := by
  constructor
  · intro h
    refine ⟨fun v => decide (v ∈ m), asc_ext h.asc (sI_lt (sgF_nodup _ _)) fun l => ?_⟩
    rw [sI_mem, sgF_mem]
    constructor
    · intro hl
      have hs := h.sm l hl
      refine ⟨hs, ?_⟩
      rcases Int.lt_or_lt_of_ne (show l ≠ 0 by omega) with q | q
      · exact .inr ⟨q, decide_eq_false (h.co l hl)⟩
      · exact .inl ⟨q, decide_eq_true hl⟩
    · rintro ⟨hs, ⟨h1, h2⟩ | ⟨h1, h2⟩⟩
      · exact of_decide_eq_true h2
      · rcases h.all (-l) (by omega) (by omega) with q | q
        · exact absurd q (of_decide_eq_false h2)
        · rwa [Int.neg_neg] at q
  · rintro ⟨f, rfl⟩
    refine ⟨sI_lt (sgF_nodup _ _), fun l hl => (sgF_mem.mp (sI_mem.mp hl)).1, fun l hl z => ?_, fun v h1 h2 => ?_⟩
    · have a := (sgF_mem.mp (sI_mem.mp hl))
      have b := (sgF_mem.mp (sI_mem.mp z))
      rcases a.2 with ⟨a1, a2⟩ | ⟨a1, a2⟩ <;> rcases b.2 with ⟨b1, b2⟩ | ⟨b1, b2⟩
      · omega
      · rw [Int.neg_neg, a2] at b2; cases b2
      · rw [a2] at b2; cases b2
      · omega
    · cases hf : f v with
      | true => exact .inl (sI_mem.mpr (sgF_mem.mpr ⟨by omega, .inl ⟨by omega, hf⟩⟩))
      | false => exact .inr (sI_mem.mpr (sgF_mem.mpr ⟨by omega, .inr ⟨by omega, by rw [Int.neg_neg]; exact hf⟩⟩))
theorem sI_sgF_inj {n : Nat} {f g : Int → Bool} (h : sI (sgF n f) = sI (sgF n g)) : sgF n f = sgF n g := by
  refine sgF_congr fun v hv => ?_
  have hv := mem_rg.mp hv
  have e : v ∈ sgF n f ↔ v ∈ sgF n g := by rw [← sI_mem, h, sI_mem]
  rw [sgF_mem, sgF_mem] at e
  cases hf : f v <;> cases hg : g v <;> rw [hf, hg] at e <;> simp at e <;> first | rfl | (exfalso; omega)
/-- the unsorted cubes -/
structure Uq (k : Nat) (qs : List (List Int)) : Prop where
  nd : qs.Nodup
  mem : ∀ q, q ∈ qs ↔ ∃ f, q = sgF k f
  len : qs.length = 2 ^ k
def nextQ (qs : List (List Int)) (v : Int) : List (List Int) := qs.flatMap fun q => [q ++ [v], q ++ [-v]]
theorem nextQ_len (qs : List (List Int)) (v : Int) : (nextQ qs v).length = 2 * qs.length := by
  unfold nextQ
  induction qs with
  | nil => rfl
  | cons q qs ih => rw [List.flatMap_cons, List.length_append, ih]; simp; omega
theorem Uq.next {k : Nat} {qs : List (List Int)} (h : Uq k qs) : Uq (k + 1) (nextQ qs (1 + k)) := by
  refine ⟨?_, fun q => ?_, ?_⟩
  · unfold nextQ List.Nodup
    rw [List.pairwise_flatMap]
    refine ⟨fun q _ => ?_, h.nd.imp fun {a b} hab x hx y hy e => hab ?_⟩
    · simp
      omega
    · have ha : ∃ s, x = a ++ [s] := by
        simp at hx
        rcases hx with rfl | rfl
        · exact ⟨_, rfl⟩
        · exact ⟨_, rfl⟩
      have hb : ∃ s, y = b ++ [s] := by
        simp at hy
        rcases hy with rfl | rfl
        · exact ⟨_, rfl⟩
        · exact ⟨_, rfl⟩
      obtain ⟨s, rfl⟩ := ha
      obtain ⟨t, rfl⟩ := hb
      exact (List.append_inj' e rfl).1
  · unfold nextQ
    rw [List.mem_flatMap]
    constructor
    · rintro ⟨p, hp, hq⟩
      obtain ⟨f, rfl⟩ := (h.mem p).mp hp
      have hne : ∀ v ∈ rg k, v ≠ 1 + (k : Int) := fun v hv => by have := mem_rg.mp hv; omega
      simp at hq
      rcases hq with rfl | rfl
      · refine ⟨fun v => if v = 1 + (k : Int) then true else f v, ?_⟩
        rw [sgF_succ, sgF_congr (f := f) (g := fun v => if v = 1 + (k : Int) then true else f v) fun v hv => by rw [if_neg (hne v hv)]]
        simp
      · refine ⟨fun v => if v = 1 + (k : Int) then false else f v, ?_⟩
        rw [sgF_succ, sgF_congr (f := f) (g := fun v => if v = 1 + (k : Int) then false else f v) fun v hv => by rw [if_neg (hne v hv)]]
        simp
    · rintro ⟨f, rfl⟩
      refine ⟨sgF k f, (h.mem _).mpr ⟨f, rfl⟩, ?_⟩
      rw [sgF_succ]
      cases f (1 + (k : Int)) <;> simp
  · rw [nextQ_len, h.len, Nat.pow_succ]; omega
/-- the same assignments, row after row -/
def nextA (qs : List (List Int)) (v : Int) : List (List Int) := (qs.map fun q => q ++ [v]) ++ qs.map fun q => q ++ [-v]
theorem nextA_perm (v : Int) : ∀ qs : List (List Int), (nextA qs v).Perm (nextQ qs v)
  | [] => .refl _
  | q :: qs => by
    have h := nextA_perm v qs
    unfold nextA nextQ at *
    rw [List.map_cons, List.map_cons, List.flatMap_cons]
    exact ((List.perm_middle (l₁ := (q ++ [v]) :: qs.map fun q => q ++ [v])).trans (List.Perm.swap _ _ _)).trans ((h.cons _).cons _)
theorem Uq.nextA {k : Nat} {qs : List (List Int)} (h : Uq k qs) : Uq (k + 1) (nextA qs (1 + k)) :=
  ⟨(nextA_perm _ qs).nodup_iff.mpr h.next.nd, fun q => (nextA_perm _ qs).mem_iff.trans (h.next.mem q), (nextA_perm _ qs).length_eq.trans h.next.len⟩
theorem uq_zero : Uq 0 [[]] := ⟨by simp, fun q => by simp [sgF, rg], rfl⟩
theorem Uq.sorted {n : Nat} {s : List (List Int)} (h2 : Uq n s) : (s.map sI).Nodup ∧ (∀ m, m ∈ s.map sI ↔ Full n m) ∧ (s.map sI).length = 2 ^ n ∧ ∀ q ∈ s.map sI, q.length = n := by
  refine ⟨?_, fun m => ?_, by rw [List.length_map, h2.len], fun q hq => ?_⟩
  · unfold List.Nodup
    rw [List.pairwise_map]
    refine (List.Pairwise.and_mem.mp h2.nd).imp fun {a b} h e => ?_
    obtain ⟨ha, hb, h⟩ := h
    obtain ⟨f, rfl⟩ := (h2.mem a).mp ha
    obtain ⟨g, rfl⟩ := (h2.mem b).mp hb
    exact h (sI_sgF_inj e)
  · rw [List.mem_map, full_iff]
    constructor
    · rintro ⟨a, ha, rfl⟩
      obtain ⟨f, rfl⟩ := (h2.mem a).mp ha
      exact ⟨f, rfl⟩
    · rintro ⟨f, rfl⟩
      exact ⟨_, (h2.mem _).mpr ⟨f, rfl⟩, rfl⟩
  · obtain ⟨a, ha, rfl⟩ := List.mem_map.mp hq
    obtain ⟨f, rfl⟩ := (h2.mem a).mp ha
    rw [sI_len, sgF_len]
theorem Uq.lens {k : Nat} {qs : List (List Int)} (h : Uq k qs) : ∀ q ∈ qs, q.length = k := by
  intro q hq
  obtain ⟨f, rfl⟩ := (h.mem q).mp hq
  exact sgF_len k f
end Law

set_option Elab.async false
set_option linter.all false
set_option maxRecDepth 100000
set_option maxHeartbeats 1000000
namespace Law
open PySem PySem.Spec L2 DL Lin
/-! ### a loop, step by step -/
theorem go_step {p : Pat} {body : DSt → Res Out} {x : D} {r : List D} {δ : DSt} : forGo p body (x :: r) δ = ((nE (bindP p x δ) >>= body) >>= fun o => match o with
    | .nx δ2 => forGo p body r δ2
    | .ct δ2 => forGo p body r δ2
    | .bk δ2 => .ok (.nx δ2)
    | .rt d => .ok (.rt d)) := by
  rw [forGo]
  exact (Res.bind_assoc _ _ _).symm
theorem go_nx {p : Pat} {body : DSt → Res Out} {x : D} {r : List D} {δ δ2 : DSt} (h : (nE (bindP p x δ) >>= body) = .ok (.nx δ2)) : forGo p body (x :: r) δ = forGo p body r δ2 := by
  rw [go_step, h]; rfl
theorem go_bk {p : Pat} {body : DSt → Res Out} {x : D} {r : List D} {δ δ2 : DSt} (h : (nE (bindP p x δ) >>= body) = .ok (.bk δ2)) : forGo p body (x :: r) δ = .ok (.nx δ2) := by
  rw [go_step, h]; rfl
theorem go_rt {p : Pat} {body : DSt → Res Out} {x : D} {r : List D} {δ : DSt} {d : D} (h : (nE (bindP p x δ) >>= body) = .ok (.rt d)) : forGo p body (x :: r) δ = .ok (.rt d) := by
  rw [go_step, h]; rfl
/-- the first item at which a loop returns -/
theorem go_find {α : Type} (enc : α → D) {p : Pat} {body : DSt → Res Out} {δ : DSt} (t : α → Bool) (out : α → D) : ∀ l : List α, (∀ a ∈ l, (nE (bindP p (enc a) δ) >>= body) = .ok (if t a = true then .rt (out a) else .nx δ)) →
    forGo p body (l.map enc) δ = .ok (match l.find? t with | some a => .rt (out a) | none => .nx δ)
  | [], _ => rfl
  | a :: l, h => by
    have ha := h a List.mem_cons_self
    have ih := go_find enc t out l fun b hb => h b (List.mem_cons_of_mem _ hb)
    cases ht : t a with
    | true =>
      rw [ht, if_pos rfl] at ha
      rw [List.map_cons, go_rt ha, List.find?_cons, ht]
    | false =>
      rw [ht, if_neg (by decide)] at ha
      rw [List.map_cons, go_nx ha, ih, List.find?_cons, ht]
end Law

set_option Elab.async false
set_option linter.all false
set_option maxRecDepth 100000
set_option maxHeartbeats 1000000
namespace Law
open PySem PySem.Spec L2 DL Lin
/-! ### words and trees of queries -/
theorem str_eq {a b : Str} {r : Bool} (ha : SeqAt.shaped (.str a) = true) (hb : SeqAt.shaped (.str b) = true) (h : (a == b) = r) : eqD (.str a) (.str b) = .ok (.bool r) := by
  unfold eqD
  rw [ha, hb]
  show Res.ok (PyData.bool (a == b)) = _
  rw [h]
theorem str_ne {a b : Str} {r : Bool} (ha : SeqAt.shaped (.str a) = true) (hb : SeqAt.shaped (.str b) = true) (h : (!(a == b)) = r) : neD (.str a) (.str b) = .ok (.bool r) := by
  unfold neD
  rw [ha, hb]
  show Res.ok (PyData.bool (!(a == b))) = _
  rw [h]
theorem shL : SeqAt.shaped (.str "leaf") = true := by decide +kernel
theorem shA : SeqAt.shaped (.str "ask") = true := by decide +kernel
theorem shS : SeqAt.shaped (.str "sum") = true := by decide +kernel
theorem wLL : eqD (.str "leaf") (.str "leaf") = .ok (.bool true) := str_eq shL shL (by decide +kernel)
theorem wAL : eqD (.str "ask") (.str "leaf") = .ok (.bool false) := str_eq shA shL (by decide +kernel)
theorem wSL : eqD (.str "sum") (.str "leaf") = .ok (.bool false) := str_eq shS shL (by decide +kernel)
theorem wLS : eqD (.str "leaf") (.str "sum") = .ok (.bool false) := str_eq shL shS (by decide +kernel)
theorem wSS : eqD (.str "sum") (.str "sum") = .ok (.bool true) := str_eq shS shS (by decide +kernel)
theorem wLA : eqD (.str "leaf") (.str "ask") = .ok (.bool false) := str_eq shL shA (by decide +kernel)
theorem wAA : eqD (.str "ask") (.str "ask") = .ok (.bool true) := str_eq shA shA (by decide +kernel)
theorem vLS : neD (.str "leaf") (.str "sum") = .ok (.bool true) := str_ne shL shS (by decide +kernel)
theorem vSS : neD (.str "sum") (.str "sum") = .ok (.bool false) := str_ne shS shS (by decide +kernel)
theorem vAS : neD (.str "ask") (.str "sum") = .ok (.bool true) := str_ne shA shS (by decide +kernel)
theorem vLA : neD (.str "leaf") (.str "ask") = .ok (.bool true) := str_ne shL shA (by decide +kernel)
theorem vAA : neD (.str "ask") (.str "ask") = .ok (.bool false) := str_ne shA shA (by decide +kernel)
theorem srt_T (xs : List Int) : sorted3 [.tuple (iL xs)] = .ok (iL (sI xs)) := by simp
theorem srt_L (xs : List Int) : sorted3 [.list (iL xs)] = .ok (iL (sI xs)) := by simp
theorem iL_app (a b : List Int) : iL (a ++ b) = iL a ++ iL b := List.map_append
inductive Tr where
  | leaf (k : Int)
  | ask (v : Int) (a b : Tr)
def encT : Tr → D
  | .leaf k => .tuple [.str "leaf", .int k]
  | .ask v a b => .tuple [.str "ask", .int v, encT a, encT b]
def dpT : Tr → Nat
  | .leaf _ => 0
  | .ask _ a b => max (dpT a) (dpT b) + 1
/-- right for the formula behind the answers q -/
def Rt (n : Int) (cs : List (List Int)) : Tr → List Int → Prop
  | .leaf k, q => ∃ i : Nat, k = i ∧ ∃ c, cs[i]? = some c ∧ ∀ l ∈ c, -l ∈ q
  | .ask v a b, q => (1 ≤ v ∧ v ≤ n ∧ v ∉ q ∧ -v ∉ q) ∧ Rt n cs a (sI (q ++ [-v])) ∧ Rt n cs b (sI (q ++ [v]))
theorem flat_T : ∀ T : Tr, flat (encT T) = true
  | .leaf k => rfl
  | .ask v a b => by
    have h1 := flat_T a
    have h2 := flat_T b
    simp [encT, h1, h2]
/-- a partial assignment of 1 .. n -/
structure PC (n : Int) (q : List Int) : Prop where
  asc : Asc q
  sm : ∀ l ∈ q, 1 ≤ (l.natAbs : Int) ∧ (l.natAbs : Int) ≤ n
  co : ∀ l ∈ q, -l ∉ q
theorem pc_nil (n : Int) : PC n [] := ⟨.nil, by simp, by simp⟩
theorem pc_put {n v : Int} {q : List Int} (h : PC n q) (h1 : 1 ≤ (v.natAbs : Int)) (h2 : (v.natAbs : Int) ≤ n) (h3 : v ∉ q) (h4 : -v ∉ q) : PC n (sI (q ++ [v])) := by
  have nd : (q ++ [v]).Nodup := by
    rw [List.nodup_append]
    refine ⟨h.asc.imp fun {a b} h e => by omega, by simp, fun x hx y hy e => h3 ?_⟩
    rw [List.mem_singleton] at hy
    rw [← hy, ← e]; exact hx
  have mm : ∀ l, l ∈ sI (q ++ [v]) ↔ l ∈ q ∨ l = v := fun l => by rw [sI_mem, List.mem_append, List.mem_singleton]
  refine ⟨sI_lt nd, fun l hl => ?_, fun l hl z => ?_⟩
  · rcases (mm l).mp hl with h5 | rfl
    · exact h.sm l h5
    · exact ⟨h1, h2⟩
  · rcases (mm l).mp hl with h5 | rfl <;> rcases (mm _).mp z with h6 | h6
    · exact h.co l h5 h6
    · exact h4 (by rw [← h6, Int.neg_neg]; exact h5)
    · exact h4 h6
    · omega
/-- the variables that are not asked yet -/
def frL (N : Nat) (q : List Int) : List Int := (rg N).filter fun v => !decide (v ∈ q) && !decide (-v ∈ q)
theorem fr_mem {N : Nat} {q : List Int} {v : Int} : v ∈ frL N q ↔ (1 ≤ v ∧ v ≤ N) ∧ v ∉ q ∧ -v ∉ q := by
  unfold frL
  rw [List.mem_filter, mem_rg]
  simp
theorem fr_nil {n : Int} {N : Nat} {q : List Int} (hN : n = N) (h : PC n q) (hf : frL N q = []) : Full N q := by
  refine ⟨h.asc, fun l hl => by have := h.sm l hl; omega, h.co, fun v h1 h2 => ?_⟩
  refine Classical.byContradiction fun z => ?_
  have : v ∈ frL N q := fr_mem.mpr ⟨⟨h1, h2⟩, fun y => z (.inl y), fun y => z (.inr y)⟩
  rw [hf] at this
  cases this
theorem fr_less {N : Nat} {q : List Int} {v l : Int} (hv : v ∈ frL N q) (hl : l = v ∨ l = -v) : (frL N (sI (q ++ [l]))).length + 1 ≤ (frL N q).length := by
  have mm : ∀ x, x ∈ sI (q ++ [l]) ↔ x ∈ q ∨ x = l := fun x => by rw [sI_mem, List.mem_append, List.mem_singleton]
  have e : frL N (sI (q ++ [l])) = (frL N q).filter fun x => !decide (x = l) && !decide (-x = l) := by
    unfold frL
    rw [List.filter_filter]
    refine List.filter_congr fun x _ => ?_
    simp only [mm]
    by_cases a1 : x ∈ q <;> by_cases a2 : -x ∈ q <;> by_cases a3 : x = l <;> by_cases a4 : -x = l <;> simp [a1, a2, a3, a4]
  have h1 : ((frL N q).filter fun x => !decide (x = l) && !decide (-x = l)).length < (frL N q).length := by
    refine Nat.lt_of_le_of_ne (List.length_filter_le _ _) fun h => ?_
    have := (List.length_filter_eq_length_iff.mp h) v hv
    rcases hl with rfl | rfl <;> simp at this
  rw [e]; omega
theorem full_len {N : Nat} {q : List Int} (h : Full N q) : q.length = N := by
  obtain ⟨f, rfl⟩ := full_iff.mp h
  rw [sI_len, sgF_len]
end Law

set_option Elab.async false
set_option linter.all false
set_option maxRecDepth 100000
set_option maxHeartbeats 1000000
namespace Law
open PySem PySem.Spec L2 DL Lin
/-! ### helpers of the laws of draws: cubes, clauses that fail -/
theorem asgF_v {S : List Nat} {f : DSt → Res D} {p : Pat} {d : D} {δ δ3 : DSt} (hf : f δ = .ok d) (hz : freeze S 0 δ = δ) (hb : nE (bindP p d δ) = .ok δ3) : asgF S f p δ = .ok (.nx δ3) := by
  unfold asgF
  rw [hf, ok_bind, hz]
  have : (if flat d = true then δ else δ) = δ := by split <;> rfl
  rw [this, hb]; rfl
theorem asgLV_v {S : List Nat} {f : DSt → Res (List D)} {i : Nat} {xs : List D} {δ : DSt} (hf : f δ = .ok xs) (hz : freeze S 0 δ = δ) : asgLV S f i δ = .ok (.nx (δ.set i (some (.val (.list xs))))) := by
  unfold asgLV
  rw [hf, ok_bind, hz]
  have : (if flatAll xs = true then δ else δ) = δ := by split <;> rfl
  rw [this]
theorem sq_nx {f g : DSt → Res Out} {δ δ' : DSt} (h : f δ = .ok (.nx δ')) : seqF f g δ = g δ' := by
  unfold seqF; rw [h]; rfl
theorem with_ok (q : List Int) (l : Int) (h : q.length ≤ 1000) : g_law_with [tI q, .int l] = .ok (tI (sI (q ++ [l]))) := by
  have hz := h1000
  have ha : addD (.list (iL q)) (.list [.int l]) = .ok (.list (iL (q ++ [l]))) := by rw [add_L (by simp; omega)]; simp
  have hl : listD [tI q] = .ok (iL q) := rfl
  have s1 := small_L [PyData.int l] (by simp)
  have hs := ev_sorted3L (q ++ [l])
  have e0 : startD 2 [tI q, .int l] = [some (.val (tI q)), some (.val (.int l))] := rfl
  refine fn_rt ?_
  rw [e0]
  show _ = Res.ok (Out.rt (.tuple (iL (sI (q ++ [l])))))
  generalize iL (sI (q ++ [l])) = R at hs ⊢
  generalize iL (q ++ [l]) = A at ha hs
  generalize iL q = Q at ha hl
  generalize tI q = T at hl ⊢
  simp [b_law_with, hl, ha, s1, hs]
/-! all partial assignments -/
def bothP (v : Int) (q : List Int) : List (List Int) := [sI (q ++ [-v]), sI (q ++ [v])]
abbrev cbS1 (fs : List (List Int)) (v : Int) (ms : List (List Int)) : DSt := S_law_cubes_1 (.val (.list (fs.map tI))) (.val (.int v)) (.val (.list (ms.map tI)))
abbrev cbS2 (fs : List (List Int)) : DSt := S_law_cubes_2 (.val (.list (fs.map tI)))
theorem cb_step (fs : List (List Int)) (v : Int) (q : List Int) (ms : List (List Int)) (hq : q.length ≤ 1000) (hm : ms.length ≤ 100000) : (nE (bindP (.nm 4) (tI q) (cbS1 fs v ms)) >>= lp_law_cubes_1) = .ok (.nx (cbS1 fs v (ms ++ bothP v q))) := by
  have hz := h1000
  have h1 := with_ok q (-v) hq
  have h2 := with_ok q v hq
  have h3 : addD (.list (ms.map tI)) (.list [tI (sI (q ++ [-v])), tI (sI (q ++ [v]))]) = .ok (.list ((ms ++ bothP v q).map tI)) := by rw [add_L (by simp; omega)]; simp [bothP]
  have e : cbS1 fs v (ms ++ bothP v q) = [none, some (.val (.list (fs.map tI))), some (.val (.int v)), some (.val (.list ((ms ++ bothP v q).map tI))), none] := rfl
  have e1 : nE (bindP (.nm 4) (tI q) (cbS1 fs v ms)) = .ok [none, some (.val (.list (fs.map tI))), some (.val (.int v)), some (.val (.list (ms.map tI))), some (.val (tI q))] := rfl
  rw [e, e1, ok_bind]
  have fl : freeze [3, 4, 2, 4, 2] 0 [none, some (.val (.list (fs.map tI))), some (.val (.int v)), some (.val (.list (ms.map tI))), some (.val (tI q))] = [none, some (.val (.list (fs.map tI))), some (.val (.int v)), some (.val (.list (ms.map tI))), some (.val (tI q))] := rfl
  generalize (ms ++ bothP v q).map tI = R at h3 ⊢
  generalize tI (sI (q ++ [-v])) = A at h1 h3
  generalize tI (sI (q ++ [v])) = B at h2 h3
  generalize ms.map tI = M at h3 fl ⊢
  generalize fs.map tI = F at fl ⊢
  generalize tI q = T at h1 h2 fl ⊢
  have s2 := small_L [A, B] (by simp)
  unfold lp_law_cubes_1
  rw [sq_nx (asgF_v (δ3 := [none, some (.val (.list F)), some (.val (.int v)), some (.val (.list R)), some (.val T)]) (by simp [h1, h2, h3]) fl rfl)]
  simp
theorem cb_in (fs : List (List Int)) (v : Int) (qs : List (List Int)) (hq : ∀ q ∈ qs, q.length ≤ 1000) (hl : qs.length ≤ 10000) : forGo (.nm 4) lp_law_cubes_1 (qs.map tI) (cbS1 fs v []) = .ok (.nx (cbS1 fs v (qs.flatMap (bothP v)))) := by
  obtain ⟨ms, h1, h2, _⟩ := for_ex (p := .nm 4) (body := lp_law_cubes_1) tI (cbS1 fs v) (fun done ms => ms = done.flatMap (bothP v) ∧ ms.length = 2 * done.length) (l := qs) (s := []) ⟨rfl, rfl⟩ (by
    rintro done q rest ms e ⟨i1, i2⟩
    have h3 : done.length + 1 + rest.length = qs.length := by rw [e]; simp; omega
    refine ⟨_, cb_step fs v q _ (hq q (by rw [e]; simp)) (by omega), ?_, ?_⟩
    · rw [i1, List.flatMap_append]; simp
    · rw [List.length_append, i2, List.length_append]; simp [bothP]; omega)
  rw [h1, h2]
theorem both_len (v : Int) : ∀ qs : List (List Int), (qs.flatMap (bothP v)).length = 2 * qs.length
  | [] => rfl
  | q :: qs => by rw [List.flatMap_cons, List.length_append, both_len v qs]; simp [bothP]; omega
theorem cb_turn (v : Int) (qs : List (List Int)) (hq : ∀ q ∈ qs, q.length ≤ 1000) (hl : qs.length ≤ 10000) : (nE (bindP (.nm 2) (.int v) (cbS2 qs)) >>= lp_law_cubes_2) = .ok (.nx (cbS2 (qs ++ qs.flatMap (bothP v)))) := by
  have hz := h1000
  have h := cb_in qs v qs hq hl
  have h : forGo (.nm 4) lp_law_cubes_1 (qs.map tI) [none, some (.val (.list (qs.map tI))), some (.val (.int v)), some (.val (.list [])), none] = .ok (.nx [none, some (.val (.list (qs.map tI))), some (.val (.int v)), some (.val (.list ((qs.flatMap (bothP v)).map tI))), none]) := h
  have h3 : addD (.list (qs.map tI)) (.list ((qs.flatMap (bothP v)).map tI)) = .ok (.list ((qs ++ qs.flatMap (bothP v)).map tI)) := by
    have := both_len v qs
    rw [add_L (by rw [List.length_map, List.length_map]; omega), List.map_append]
  have e : cbS2 (qs ++ qs.flatMap (bothP v)) = [none, some (.val (.list ((qs ++ qs.flatMap (bothP v)).map tI))), none, none, none] := rfl
  have e1 : nE (bindP (.nm 2) (.int v) (cbS2 qs)) = .ok [none, some (.val (.list (qs.map tI))), some (.val (.int v)), none, none] := rfl
  rw [e, e1, ok_bind]
  generalize (qs ++ qs.flatMap (bothP v)).map tI = R at h3 ⊢
  generalize (qs.flatMap (bothP v)).map tI = G at h h3
  generalize qs.map tI = M at h h3 ⊢
  have hk : kx_law_cubes_1 [none, some (.val (.list M)), some (.val (.int v)), some (.val (.list G)), none] = .ok (.nx [none, some (.val (.list R)), none, none, none]) := by
    unfold kx_law_cubes_1
    rw [ev_clrF]
    have ew : wipeD [none, some (.val (.list M)), some (.val (.int v)), some (.val (.list G)), none] [2] = [none, some (.val (.list M)), none, some (.val (.list G)), none] := rfl
    rw [ew, sq_nx (asgF_v (δ3 := [none, some (.val (.list R)), none, some (.val (.list G)), none]) (by simp [h3]) rfl rfl)]
    simp
  simp [lp_law_cubes_2, sq, h, hk]
theorem pc_up {k : Nat} {q : List Int} (h : PC k q) : PC ((k + 1 : Nat) : Int) q := ⟨h.asc, fun l hl => by have := h.sm l hl; omega, h.co⟩
theorem cubes_next {k : Nat} {qs : List (List Int)} (h : ∀ q, q ∈ qs ↔ PC k q) (q : List Int) : q ∈ qs ++ qs.flatMap (bothP (1 + k)) ↔ PC ((k + 1 : Nat) : Int) q := by
  rw [List.mem_append, List.mem_flatMap]
  constructor
  · rintro (hq | ⟨r, hr, hq⟩)
    · exact pc_up ((h q).mp hq)
    · have hr := (h r).mp hr
      have out : ∀ l : Int, l.natAbs = k + 1 → l ∉ r := fun l hl z => by have := hr.sm l z; omega
      rcases List.mem_cons.mp hq with rfl | hq
      · exact pc_put (pc_up hr) (by omega) (by omega) (out _ (by omega)) (out _ (by omega))
      · rw [List.mem_singleton.mp hq]
        exact pc_put (pc_up hr) (by omega) (by omega) (out _ (by omega)) (out _ (by omega))
  · intro hq
    have small : ∀ r : List Int, (∀ l, l ∈ r ↔ l ∈ q ∧ l.natAbs ≠ k + 1) → Asc r → r ∈ qs := fun r hm ha => (h r).mpr ⟨ha, fun l hl => by
      obtain ⟨h1, h2⟩ := (hm l).mp hl
      have := hq.sm l h1
      omega, fun l hl z => hq.co l ((hm l).mp hl).1 ((hm _).mp z).1⟩
    have hf : Asc (q.filter fun l => !decide (l.natAbs = k + 1)) := hq.asc.filter _
    have hmf : ∀ l, l ∈ (q.filter fun l => !decide (l.natAbs = k + 1)) ↔ l ∈ q ∧ l.natAbs ≠ k + 1 := fun l => by rw [List.mem_filter]; simp
    by_cases h1 : ∃ l ∈ q, l.natAbs = k + 1
    · obtain ⟨l, hl, hk⟩ := h1
      refine .inr ⟨_, small _ hmf hf, ?_⟩
      have nd : ((q.filter fun x => !decide (x.natAbs = k + 1)) ++ [l]).Nodup := by
        rw [List.nodup_append]
        refine ⟨(hf.imp fun {a b} h e => by omega), by simp, fun x hx y hy e => ?_⟩
        rw [List.mem_singleton] at hy
        exact ((hmf x).mp hx).2 (by rw [e, hy]; exact hk)
      have e : q = sI ((q.filter fun x => !decide (x.natAbs = k + 1)) ++ [l]) := asc_ext hq.asc (sI_lt nd) fun x => by
        rw [sI_mem, List.mem_append, List.mem_singleton, hmf]
        constructor
        · intro hx
          by_cases hx2 : x.natAbs = k + 1
          · right
            rcases (show x = l ∨ x = -l by omega) with z | z
            · exact z
            · exact absurd (z ▸ hx) (hq.co l hl)
          · exact .inl ⟨hx, hx2⟩
        · rintro (hx | rfl)
          · exact hx.1
          · exact hl
      unfold bothP
      rw [List.mem_cons, List.mem_singleton]
      rcases (show l = -(1 + (k : Int)) ∨ l = 1 + (k : Int) by omega) with z | z
      · rw [z] at e
        exact .inl e
      · rw [z] at e
        exact .inr e
    · exact .inl (small q (fun l => ⟨fun hl => ⟨hl, fun z => h1 ⟨l, hl, z⟩⟩, fun h => h.1⟩) hq.asc)
end Law

set_option Elab.async false
set_option linter.all false
set_option maxRecDepth 100000
set_option maxHeartbeats 1000000
namespace Law
open PySem PySem.Spec L2 DL Lin
theorem pc_le {N : Nat} : ∀ (m : Nat) (q : List Int), (frL N q).length ≤ m → PC (N : Int) q → q.length ≤ N ∧ (q.length = N → Full N q)
  | m, q, hm, h => by
    cases hf : frL N q with
    | nil => exact ⟨by have := full_len (fr_nil rfl h hf); omega, fun _ => fr_nil rfl h hf⟩
    | cons v r =>
      have hv : v ∈ frL N q := by rw [hf]; exact List.mem_cons_self
      have hless := fr_less hv (.inl rfl : v = v ∨ v = -v)
      have hv2 := fr_mem.mp hv
      cases m with
      | zero => rw [hf] at hm; simp at hm
      | succ m =>
        have ih := pc_le m (sI (q ++ [v])) (by omega) (pc_put h (by omega) (by omega) hv2.2.1 hv2.2.2)
        have hl : (sI (q ++ [v])).length = q.length + 1 := by rw [sI_len]; simp
        exact ⟨by omega, fun e => by omega⟩
theorem pc_len {n : Int} {N : Nat} {q : List Int} (hN : n = N) (h : PC n q) : q.length ≤ N := by
  subst hN
  exact (pc_le _ q (Nat.le_refl _) h).1
theorem full_pc {N : Nat} {q : List Int} (h : Full N q) : PC (N : Int) q := ⟨h.asc, fun l hl => by have := h.sm l hl; omega, h.co⟩
theorem pc_full {n : Int} {N : Nat} {q : List Int} (hN : n = N) (h : PC n q) : q.length = N ↔ Full N q := by
  subst hN
  exact ⟨(pc_le _ q (Nat.le_refl _) h).2, full_len⟩
theorem cubes_ok (N : Int) (n : Nat) (hN : N = n) (hn : n ≤ 6) : ∃ qs : List (List Int), (∀ q, q ∈ qs ↔ PC N q) ∧ qs.length ≤ 729 ∧ g_law_cubes [.int N] = .ok (.list (qs.map tI)) := by
  have hz := h1000
  have hp : ∀ k, k ≤ 6 → 3 ^ k ≤ 3 ^ 6 := fun k h => Nat.pow_le_pow_right (by decide) h
  obtain ⟨qs, h1, h2, h3⟩ := rng_ex (p := .nm 2) (body := lp_law_cubes_2) cbS2 (fun k (qs : List (List Int)) => qs.length = 3 ^ k ∧ ∀ q, q ∈ qs ↔ PC k q) (lo := 1) (hi := N + 1) (s := [[]]) (by omega) ⟨rfl, fun q => by
      rw [List.mem_singleton]
      refine ⟨fun e => e ▸ pc_nil _, fun h => ?_⟩
      have := pc_len (N := 0) rfl h
      exact List.length_eq_zero_iff.mp (by omega)⟩ (by
    rintro k qs hk ⟨i1, i2⟩
    have := hp k (by omega)
    refine ⟨_, cb_turn (1 + k) qs (fun q hq => by have := pc_len rfl ((i2 q).mp hq); omega) (by omega), ?_, cubes_next i2⟩
    rw [List.length_append, both_len, i1, Nat.pow_succ]; omega)
  have hk := hp n hn
  rw [show (N + 1 - 1).toNat = n by omega] at h2 h3
  refine ⟨sT qs, fun q => by rw [sT_mem, h3, hN], by rw [sT_len]; omega, fn_rt ?_⟩
  have e0 : startD 5 [PyData.int N] = [some (.val (.int N)), none, none, none, none] := rfl
  have hr : rng2D [.int 1, .int (N + 1)] = .ok (rngL 1 (N + 1)) := rng2_ok (by omega) (by omega)
  have h1 : forGo (.nm 2) lp_law_cubes_2 (rngL 1 (N + 1)) [none, some (.val (.list [.tuple []])), none, none, none] = .ok (.nx [none, some (.val (.list (qs.map tI))), none, none, none]) := h1
  have hs := ev_sorted3LT qs
  rw [e0]
  generalize (sT qs).map tI = R at hs ⊢
  generalize qs.map tI = Q at hs h1
  generalize rngL 1 (N + 1) = RL at hr h1
  have s1 := small_L [PyData.tuple []] (by simp)
  have hk : kx_law_cubes_2 [none, some (.val (.list Q)), none, none, none] = .ok (.rt (.list R)) := by simp [kx_law_cubes_2, hs]
  unfold b_law_cubes
  rw [sq_nx (asgLV_v (xs := [.tuple []]) (by simp [s1]) rfl)]
  simp [sq, hr, h1, hk]
/-! a clause fails -/
def failB (q c : List Int) : Bool := c.all fun l => decide (-l ∈ q)
theorem within_ok (a b : List Int) (ha : a.length ≤ 1000) : g_law_within [tI a, tI b] = .ok (.bool (a.all fun l => decide (l ∈ b))) := by
  have hz := h1000
  have lc := lcF_ok (δ := [some (.val (tI a)), some (.val (tI b)), none]) (vs := [2]) (p := .nm 2) (gs := u1LE seqD (vr 0)) (ft := tB2 ninD (vr 2) (vr 1)) (fe := vr 2) PyData.int (fun v => !decide (v ∈ b)) PyData.int (l := a) (by simp) (by omega) (by
    intro v hv
    exact ⟨_, rfl, by simp, fun _ => by simp⟩)
  have hb : decide ((((a.filter fun v => !decide (v ∈ b)).length : Nat) : Int) = 0) = (a.all fun l => decide (l ∈ b)) := by
    rw [Bool.eq_iff_iff, decide_eq_true_eq, List.all_eq_true]
    constructor
    · intro h l hl
      have h0 : (a.filter fun v => !decide (v ∈ b)) = [] := List.length_eq_zero_iff.mp (by omega)
      have := List.filter_eq_nil_iff.mp h0 l hl
      simpa using this
    · intro h
      have h0 : (a.filter fun v => !decide (v ∈ b)) = [] := List.filter_eq_nil_iff.mpr fun l hl => by have := h l hl; simpa using this
      rw [h0]; rfl
  have hl : lenD [.list ((a.filter fun v => !decide (v ∈ b)).map PyData.int)] = .ok (.int (((a.filter fun v => !decide (v ∈ b)).length : Nat) : Int)) := by simp
  have e0 : startD 3 [tI a, tI b] = [some (.val (tI a)), some (.val (tI b)), none] := rfl
  refine fn_rt ?_
  rw [e0, ← hb]
  generalize (((a.filter fun v => !decide (v ∈ b)).length : Nat) : Int) = N at hl ⊢
  generalize (a.filter fun v => !decide (v ∈ b)).map PyData.int = F at lc hl
  simp [b_law_within, lc, hl]
theorem negated_ok (c : List Int) (hc : c.length ≤ 1000) : g_law_negated [tI c] = .ok (tI (sI (c.map fun l => -l))) := by
  have hz := h1000
  have lc := lcF_all (δ := [some (.val (tI c)), none]) (vs := [1]) (p := .nm 1) (gs := u1LE seqD (vr 0)) (fe := u1 negD (vr 1)) PyData.int (fun l => PyData.int (-l)) (l := c) (by simp) (by omega) (by
    intro v hv
    exact ⟨_, rfl, by simp⟩)
  rw [show (c.map fun l => PyData.int (-l)) = iL (c.map fun l => -l) by rw [show iL (c.map fun l => -l) = (c.map fun l => -l).map PyData.int from rfl, List.map_map]; rfl] at lc
  have hs := ev_sorted3L (c.map fun l => -l)
  have e0 : startD 2 [tI c] = [some (.val (tI c)), none] := rfl
  refine fn_rt ?_
  rw [e0]
  show _ = Res.ok (Out.rt (.tuple (iL (sI (c.map fun l => -l)))))
  generalize iL (sI (c.map fun l => -l)) = R at hs ⊢
  generalize iL (c.map fun l => -l) = A at lc hs
  simp [b_law_negated, lc, hs]
theorem fails_ok (q c : List Int) (hc : c.length ≤ 1000) : g_law_fails [tI q, tI c] = .ok (.bool (failB q c)) := by
  have h1 := negated_ok c hc
  have h2 := within_ok (sI (c.map fun l => -l)) q (by rw [sI_len, List.length_map]; omega)
  have hb : ((sI (c.map fun l => -l)).all fun l => decide (l ∈ q)) = failB q c := by
    rw [Bool.eq_iff_iff, List.all_eq_true]
    unfold failB
    rw [List.all_eq_true]
    constructor
    · intro h l hl
      exact h (-l) (sI_mem.mpr (List.mem_map.mpr ⟨l, hl, rfl⟩))
    · intro h l hl
      obtain ⟨x, hx, rfl⟩ := List.mem_map.mp (sI_mem.mp hl)
      exact h x hx
  rw [hb] at h2
  have e0 : startD 2 [tI q, tI c] = [some (.val (tI q)), some (.val (tI c))] := rfl
  refine fn_rt ?_
  rw [e0]
  generalize failB q c = b at h2 ⊢
  generalize tI (sI (c.map fun l => -l)) = A at h1 h2
  simp [b_law_fails, h1, h2]
/-! the first clause that fails -/
abbrev encF (n : Int) (cs : List (List Int)) : D := .tuple [.int n, .tuple (cs.map tI)]
def leafO (cs : List (List Int)) (q : List Int) : Option Nat := (List.range cs.length).find? fun k => failB q (cs.getD k [])
def leafI (cs : List (List Int)) (q : List Int) : Int := match leafO cs q with
  | some k => k
  | none => -1
theorem leaf_none {cs : List (List Int)} {q : List Int} : leafO cs q = none ↔ ∀ c ∈ cs, failB q c = false := by
  unfold leafO
  rw [List.find?_eq_none]
  constructor
  · intro h c hc
    obtain ⟨k, hk, rfl⟩ := List.getElem_of_mem hc
    have := h k (List.mem_range.mpr hk)
    rw [List.getD_eq_getElem?_getD, List.getElem?_eq_getElem hk] at this
    simpa using this
  · intro h k hk
    have hk := List.mem_range.mp hk
    rw [List.getD_eq_getElem?_getD, List.getElem?_eq_getElem hk]
    simpa using h _ (List.getElem_mem hk)
theorem leaf_some {cs : List (List Int)} {q : List Int} {k : Nat} (h : leafO cs q = some k) : ∃ hk : k < cs.length, failB q cs[k] = true := by
  have h1 := List.mem_range.mp (List.mem_of_find?_eq_some h)
  have h2 := List.find?_some h
  rw [List.getD_eq_getElem?_getD, List.getElem?_eq_getElem h1] at h2
  exact ⟨h1, h2⟩
theorem leaf_neg {cs : List (List Int)} {q : List Int} : leafI cs q < 0 ↔ ∀ c ∈ cs, failB q c = false := by
  rw [← leaf_none]
  unfold leafI
  cases leafO cs q with
  | none => simp
  | some k => simp
theorem ix_getD {cs : List (List Int)} {k : Nat} (x : Int) (hx : x = k) (hk : k < cs.length) : ixD (.tuple (cs.map tI)) (.int x) = .ok (tI (cs.getD k [])) := by
  subst hx
  exact ix_T (by rw [List.getElem?_map, List.getElem?_eq_getElem hk, List.getD_eq_getElem?_getD, List.getElem?_eq_getElem hk]; rfl)
theorem leaf_run0 (n L : Int) (CS RG : List D) (Q : D) (hn : lenD [.tuple CS] = .ok (.int L)) (hr : rng1D [.int L] = .ok RG) (go : forGo (.nm 2) lp_law_leaf_1 RG (S_law_leaf_1 (.val (.tuple [.int n, .tuple CS])) (.val Q)) = .ok (.nx (S_law_leaf_1 (.val (.tuple [.int n, .tuple CS])) (.val Q)))) : g_law_leaf [PyData.tuple [.int n, .tuple CS], Q] = .ok (.int (-1)) := by
  have e0 : startD 3 [PyData.tuple [.int n, .tuple CS], Q] = [some (.val (.tuple [.int n, .tuple CS])), some (.val Q), none] := rfl
  refine fn_rt ?_
  rw [e0]
  simp [b_law_leaf, sq, hn, hr, go, kx_law_leaf_1]
theorem leaf_run1 (n L k : Int) (CS RG : List D) (Q : D) (hn : lenD [.tuple CS] = .ok (.int L)) (hr : rng1D [.int L] = .ok RG) (go : forGo (.nm 2) lp_law_leaf_1 RG (S_law_leaf_1 (.val (.tuple [.int n, .tuple CS])) (.val Q)) = .ok (.rt (.int k))) : g_law_leaf [PyData.tuple [.int n, .tuple CS], Q] = .ok (.int k) := by
  have e0 : startD 3 [PyData.tuple [.int n, .tuple CS], Q] = [some (.val (.tuple [.int n, .tuple CS])), some (.val Q), none] := rfl
  refine fn_rt ?_
  rw [e0]
  simp [b_law_leaf, sq, hn, hr, go]
theorem leaf_ok (n : Int) (cs : List (List Int)) (q : List Int) (hl : cs.length ≤ 1000) (hc : ∀ c ∈ cs, c.length ≤ 1000) : g_law_leaf [encF n cs, tI q] = .ok (.int (leafI cs q)) := by
  show g_law_leaf [PyData.tuple [.int n, .tuple (cs.map tI)], tI q] = _
  have hz := h1000
  have hr : rng1D [.int (cs.length : Int)] = .ok ((List.range cs.length).map fun k : Nat => PyData.int (k : Int)) := by
    rw [rng1_ok (by omega)]
    unfold rngL
    rw [show ((cs.length : Int) - 0).toNat = cs.length by omega]
    simp
  have go := go_find (fun k : Nat => PyData.int (k : Int)) (p := .nm 2) (body := lp_law_leaf_1) (δ := S_law_leaf_1 (.val (PyData.tuple [.int n, .tuple (cs.map tI)])) (.val (tI q))) (fun k => failB q (cs.getD k [])) (fun k => PyData.int (k : Int)) (List.range cs.length) (by
    intro k hk
    have hk := List.mem_range.mp hk
    have hx := ix_getD (cs := cs) (k : Int) rfl hk
    have hf := fails_ok q (cs.getD k []) (by rw [List.getD_eq_getElem?_getD, List.getElem?_eq_getElem hk]; exact hc _ (List.getElem_mem hk))
    generalize ((k : Int)) = x at hx ⊢
    generalize tI (cs.getD k []) = C at hx hf
    generalize cs.map tI = CS at hx ⊢
    generalize tI q = Q at hf ⊢
    generalize failB q (cs.getD k []) = b at hf ⊢
    have e1 : nE (bindP (.nm 2) (.int x) (S_law_leaf_1 (.val (.tuple [.int n, .tuple CS])) (.val Q))) = .ok [some (.val (.tuple [.int n, .tuple CS])), some (.val Q), some (.val (.int x))] := rfl
    rw [e1, ok_bind]
    cases b <;> simp [lp_law_leaf_1, sq, hx, hf])
  have hn : lenD [.tuple (cs.map tI)] = .ok (.int (cs.length : Int)) := by simp
  unfold leafI leafO
  cases hf : (List.range cs.length).find? (fun k => failB q (cs.getD k [])) with
  | none =>
    rw [hf] at go
    exact leaf_run0 n _ _ _ _ hn hr go
  | some k =>
    rw [hf] at go
    exact leaf_run1 n _ _ _ _ _ hn hr go
theorem model_step (n L k : Int) (F Q : D) (hF : ixD F (.int 0) = .ok (.int n)) (h1 : g_law_leaf [F, Q] = .ok (.int k)) (hln : lenD [Q] = .ok (.int L)) : (nE (bindP (.nm 1) Q (S_law_model_1 (.val F))) >>= lp_law_model_1) = .ok (if (decide (L = n) && decide (k < 0)) = true then .rt Q else .nx (S_law_model_1 (.val F))) := by
  have e1 : nE (bindP (.nm 1) Q (S_law_model_1 (.val F))) = .ok [some (.val F), some (.val Q)] := rfl
  rw [e1, ok_bind]
  by_cases e : L = n
  · by_cases e2 : k < 0 <;> simp [lp_law_model_1, sq, hln, hF, h1, e, e2]
  · simp [lp_law_model_1, sq, hln, hF, e]
theorem model_run (n : Int) (F : D) (QS : List D) (o : Out) (hF : ixD F (.int 0) = .ok (.int n)) (q3 : g_law_cubes [.int n] = .ok (.list QS)) (go : forGo (.nm 1) lp_law_model_1 QS (S_law_model_1 (.val F)) = .ok o) : g_law_model [F] = (match o with | .rt d => .ok d | .nx _ => .ok .none | _ => .bot) := by
  have e0 : startD 2 [F] = [some (.val F), none] := rfl
  unfold g_law_model fnD
  rw [e0]
  cases o with
  | rt d => simp [b_law_model, sq, hF, q3, go]
  | nx δ => simp [b_law_model, sq, hF, q3, go, kx_law_model_1, fnK]
  | bk δ => simp [b_law_model, sq, hF, q3, go, fnK]
  | ct δ => simp [b_law_model, sq, hF, q3, go, fnK]
theorem model_ok (n : Int) (N : Nat) (hN : n = N) (hn : N ≤ 6) (cs : List (List Int)) (hl : cs.length ≤ 1000) (hc : ∀ c ∈ cs, c.length ≤ 1000) :
    (∃ q, g_law_model [encF n cs] = .ok (tI q) ∧ Full N q ∧ ∀ c ∈ cs, failB q c = false) ∨ (g_law_model [encF n cs] = .ok .none ∧ ∀ q, Full N q → ∃ c ∈ cs, failB q c = true) := by
  obtain ⟨qs, q1, q2, q3⟩ := cubes_ok n N hN hn
  have go := go_find tI (p := .nm 1) (body := lp_law_model_1) (δ := S_law_model_1 (.val (encF n cs))) (fun q => decide ((q.length : Int) = n) && decide (leafI cs q < 0)) tI qs (fun q hq => model_step n (q.length : Int) (leafI cs q) (encF n cs) (tI q) (ix_T0 _ _) (leaf_ok n cs q hl hc) (by simp))
  cases hf : qs.find? (fun q => decide ((q.length : Int) = n) && decide (leafI cs q < 0)) with
  | some q =>
    left
    have h1 := (q1 q).mp (List.mem_of_find?_eq_some hf)
    have h2 := List.find?_some hf
    rw [Bool.and_eq_true, decide_eq_true_eq, decide_eq_true_eq] at h2
    rw [hf] at go
    exact ⟨q, model_run n _ _ _ (ix_T0 _ _) q3 go, (pc_full hN h1).mp (by omega), leaf_neg.mp h2.2⟩
  | none =>
    right
    rw [hf] at go
    refine ⟨model_run n _ _ _ (ix_T0 _ _) q3 go, fun q hq => Classical.byContradiction fun z => ?_⟩
    have hm := (q1 q).mpr (hN ▸ full_pc hq)
    have h3 := List.find?_eq_none.mp hf q hm
    have hlen := full_len hq
    have hneg : leafI cs q < 0 := leaf_neg.mpr fun c hc2 => by
      cases hb : failB q c with
      | false => rfl
      | true => exact absurd ⟨c, hc2, hb⟩ z
    exact h3 (Bool.and_eq_true_iff.mpr ⟨decide_eq_true (by omega), decide_eq_true hneg⟩)
end Law

set_option Elab.async false
set_option linter.all false
set_option maxRecDepth 100000
set_option maxHeartbeats 1000000
namespace Law
open PySem PySem.Spec L2 DL Lin
/-! ### drawn clauses and formulas -/
theorem al_dr {m : Int} (h0 : 0 < m) (h1 : m < 1073741824) : Al (g_law_draw [.dict [], .int m]) fun d => ∃ i : Int, d = PyData.int i ∧ 0 ≤ i ∧ i < m := al_draw h0 h1
/-- literals of a clause, unsorted -/
structure Lit (n : Int) (s : List Int) : Prop where
  nd : s.Nodup
  sm : ∀ l ∈ s, 1 ≤ (l.natAbs : Int) ∧ (l.natAbs : Int) ≤ n
  co : ∀ l ∈ s, -l ∉ s
theorem Lit.pc {n : Int} {s : List Int} (h : Lit n s) : PC n (sI s) := ⟨sI_lt h.nd, fun l hl => h.sm l (sI_mem.mp hl), fun l hl z => h.co l (sI_mem.mp hl) (sI_mem.mp z)⟩
theorem Lit.put {n v l : Int} {s : List Int} (h : Lit n s) (h1 : 1 ≤ v) (h2 : v ≤ n) (h3 : v ∉ s) (h4 : -v ∉ s) (hl : l = v ∨ l = -v) : Lit n (s ++ [l]) := by
  have hs : l ∉ s ∧ -l ∉ s := by
    rcases hl with rfl | rfl
    · exact ⟨h3, h4⟩
    · exact ⟨h4, by rw [Int.neg_neg]; exact h3⟩
  refine ⟨?_, fun x hx => ?_, fun x hx z => ?_⟩
  · rw [List.nodup_append]
    refine ⟨h.nd, by simp, fun x hx y hy e => hs.1 ?_⟩
    rw [List.mem_singleton] at hy
    rw [← hy, ← e]; exact hx
  · rcases List.mem_append.mp hx with hx | hx
    · exact h.sm x hx
    · rw [List.mem_singleton.mp hx]; omega
  · rcases List.mem_append.mp hx with hx | hx <;> rcases List.mem_append.mp z with z | z
    · exact h.co x hx z
    · rw [List.mem_singleton] at z
      exact hs.2 (by rw [← z, Int.neg_neg]; exact hx)
    · rw [List.mem_singleton] at hx
      exact hs.2 (by rw [← hx]; exact z)
    · rw [List.mem_singleton] at hx z; omega
abbrev scE (n : Int) (s : List Int) : DSt := S_law_some_clause_1 (.val (.dict [])) (.val (.int n)) (.own (iL s))
theorem sc_step (n a : Int) (hn : 1 ≤ n ∧ n ≤ 100) (s : List Int) (h : Lit n s) (hl : s.length ≤ 1000) : Al (nE (bindP (.nm 4) (.int a) (scE n s)) >>= lp_law_some_clause_1) fun o => ∃ s', o = .nx (scE n s') ∧ Lit n s' ∧ s'.length ≤ s.length + 1 := by
  have hz := h1000
  have e1 : nE (bindP (.nm 4) (.int a) (scE n s)) = .ok [some (.val (.dict [])), some (.val (.int n)), none, some (.own (iL s)), some (.val (.int a)), none] := rfl
  rw [e1, ok_bind]
  simp [lp_law_some_clause_1]
  refine al_mono (al_dr (by omega) (by omega)) ?_
  rintro _ ⟨i, rfl, h0, h1⟩
  by_cases h2 : (1 + i) ∈ s
  · simp [h2]
    exact ⟨s, rfl, h, Nat.le_succ _⟩
  · by_cases h3 : -(1 + i) ∈ s
    · simp [h2, h3]
      exact ⟨s, rfl, h, Nat.le_succ _⟩
    · simp [h2, h3]
      refine al_app rfl (by rw [List.length_map]; omega) ?_
      simp
      refine al_mono (al_dr (by omega) (by omega)) ?_
      rintro _ ⟨j, rfl, j0, j1⟩
      by_cases hj : j = 0
      · simp [hj]
        exact ⟨s ++ [1 + i], by simp, h.put (by omega) (by omega) h2 h3 (.inl rfl), by simp⟩
      · simp [hj]
        exact ⟨s ++ [-(1 + i)], by simp, h.put (by omega) (by omega) h2 h3 (.inr rfl), by simp⟩
theorem some_clause_al (n m : Int) (hn : 1 ≤ n ∧ n ≤ 100) (hm : 0 ≤ m ∧ m ≤ 100) : Al (g_law_some_clause [.dict [], .int n, .int m]) fun d => ∃ c, d = tI c ∧ PC n c ∧ (c.length : Int) ≤ m := by
  have hz := h1000
  have e0 : startD 6 [.dict [], .int n, .int m] = [some (.val (.dict [])), some (.val (.int n)), some (.val (.int m)), none, none, none] := rfl
  refine al_fn ?_
  rw [e0]
  simp [b_law_some_clause]
  refine al_mono (al_dr (by omega) (by omega)) ?_
  rintro _ ⟨j, rfl, j0, j1⟩
  have hr : rng1D [.int j] = .ok (rngL 0 j) := rng1_ok (by omega)
  rw [hr, al_ok]
  refine al_mono (al_rng (scE n) (fun k s => Lit n s ∧ s.length ≤ k) (s := []) j0 ⟨⟨.nil, by simp, by simp⟩, Nat.le_refl _⟩ fun k s hk ⟨i1, i2⟩ => ?_) ?_
  · refine al_mono (sc_step n _ hn s i1 (by omega)) ?_
    rintro o ⟨s', rfl, g1, g2⟩
    exact ⟨s', rfl, g1, by omega⟩
  · rintro _ ⟨s, rfl, i1, i2⟩
    simp [kx_law_some_clause_1]
    exact ⟨sI s, rfl, i1.pc, by rw [sI_len]; omega⟩
structure Fm (n : Int) (cs : List (List Int)) : Prop where
  pc : ∀ c ∈ cs, PC n c
  asc : cs.Pairwise (· < ·)
theorem drawn_formula_al (m : Int) (hm : 1 ≤ m ∧ m ≤ 100) : Al (g_law_drawn_formula [.dict [], .int m]) fun d => ∃ n cs, d = encF n cs ∧ 1 ≤ n ∧ n ≤ m ∧ Fm n cs ∧ cs.length ≤ 6 := by
  have hz := h1000
  have e0 : startD 6 [.dict [], .int m] = [some (.val (.dict [])), some (.val (.int m)), none, none, none, none] := rfl
  refine al_fn ?_
  rw [e0]
  simp [b_law_drawn_formula]
  refine al_mono (al_dr (by omega) (by omega)) ?_
  rintro _ ⟨i, rfl, i0, i1⟩
  simp
  generalize hn : 1 + i = n
  have hn0 : 1 ≤ n ∧ n ≤ m := by omega
  refine al_mono (al_lcA PyData.int tI (fun _ => True) (fun c => PC n c ∧ (c.length : Int) ≤ 3) 6 ?_ (by omega) fun a _ => ⟨[some (.val (.dict [])), some (.val (.int m)), some (.val (.int n)), none, some (.val (.int a)), none], rfl, ?_⟩) ?_
  · simp
    refine al_mono (al_dr (by omega) (by omega)) ?_
    rintro _ ⟨j, rfl, j0, j1⟩
    refine al_mono (al_rngL j0 (by omega)) ?_
    rintro _ ⟨l, rfl, hl, _⟩
    exact ⟨l, rfl, by omega⟩
  · simp
    exact some_clause_al n 3 (by omega) (by omega)
  rintro _ ⟨rs, rfl, r1, r2⟩
  rw [asgLD_fl (flatAll_tI rs)]
  simp
  refine al_mono (al_lcA tI tI (fun c => PC n c ∧ (c.length : Int) ≤ 3) (fun c => PC n c ∧ (c.length : Int) ≤ 3) 6 ?_ (by omega) fun c hc => ⟨[some (.val (.dict [])), some (.val (.int m)), some (.val (.int n)), some (.val (.list (rs.map tI))), none, some (.val (tI c))], rfl, ?_⟩) ?_
  · simp
    exact ⟨rs, rfl, r1, r2⟩
  · have key : ∀ b : Bool, b = true → ∃ b, tI c = tI b ∧ PC n b ∧ (b.length : Int) ≤ 3 := fun _ _ => ⟨c, rfl, hc⟩
    simp
    by_cases h0 : 0 < c.length
    · simp [h0]
      exact ⟨c, rfl, hc⟩
    · simp [h0]
      refine al_mono (al_dr (by omega) (by omega)) ?_
      rintro _ ⟨j, rfl, j0, j1⟩
      simp
      exact fun _ => ⟨c, rfl, hc⟩
  rintro _ ⟨ts, rfl, t1, t2⟩
  rw [asgLD_fl (flatAll_tI ts)]
  have hs := sortSetA_L (cs := ts) (by omega)
  have e : ∀ c, c ∈ sortU ts ↔ c ∈ ts := fun c => by
    unfold sortU
    rw [(List.mergeSort_perm (ddup ts) _).mem_iff, ddup_mem]
  have hlen : (sortU ts).length ≤ 6 := by
    have := ddup_len ts
    unfold sortU
    rw [List.length_mergeSort]
    omega
  have hF : Fm n (sortU ts) := ⟨fun c hc => (t2 c ((e c).mp hc)).1, sT_lt (ddup_nodup ts)⟩
  generalize sortU ts = cs at hs hlen hF
  simp [hs]
  exact ⟨n, cs, ⟨rfl, rfl⟩, hn0.1, hn0.2, hF, hlen⟩
end Law

set_option Elab.async false
set_option linter.all false
set_option maxRecDepth 100000
set_option maxHeartbeats 1000000
namespace Law
open PySem PySem.Spec L2 DL Lin
/-! ### formulas without a model -/
theorem fulls (N : Nat) : ∃ fs : List (List Int), fs.length = 2 ^ N ∧ ∀ q, q ∈ fs ↔ Full N q := by
  have h : ∃ qs, Uq N qs := by
    induction N with
    | zero => exact ⟨[[]], by simp, fun q => ⟨fun h => ⟨fun _ => true, by rw [List.mem_singleton.mp h]; rfl⟩, fun ⟨f, e⟩ => by rw [e]; exact List.mem_singleton.mpr rfl⟩, rfl⟩
    | succ k ih => obtain ⟨qs, h⟩ := ih; exact ⟨_, h.next⟩
  obtain ⟨qs, h⟩ := h
  refine ⟨qs.map sI, by rw [List.length_map, h.len], fun q => ?_⟩
  rw [full_iff, List.mem_map]
  constructor
  · rintro ⟨p, hp, rfl⟩
    obtain ⟨f, rfl⟩ := (h.mem p).mp hp
    exact ⟨f, rfl⟩
  · rintro ⟨f, rfl⟩
    exact ⟨sgF N f, (h.mem _).mpr ⟨f, rfl⟩, rfl⟩
def mdl (cs : List (List Int)) (q : List Int) : Bool := cs.all fun c => !failB q c
def mct (fs cs : List (List Int)) : Nat := (fs.filter (mdl cs)).length
theorem mct_less {fs cs ds : List (List Int)} {q c : List Int} (hq : q ∈ fs) (hm : mdl cs q = true) (hc : c ∈ ds) (hf : failB q c = true) (hs : ∀ x ∈ cs, x ∈ ds) : mct fs ds + 1 ≤ mct fs cs := by
  have e : fs.filter (mdl ds) = (fs.filter (mdl cs)).filter (mdl ds) := by
    rw [List.filter_filter]
    refine List.filter_congr fun x _ => ?_
    rw [Bool.eq_iff_iff, Bool.and_eq_true]
    exact ⟨fun h => ⟨h, List.all_eq_true.mpr fun y hy => List.all_eq_true.mp h y (hs y hy)⟩, fun h => h.1⟩
  unfold mct
  rw [e]
  have h1 : ((fs.filter (mdl cs)).filter (mdl ds)).length < (fs.filter (mdl cs)).length := by
    refine Nat.lt_of_le_of_ne (List.length_filter_le _ _) fun h => ?_
    have := (List.length_filter_eq_length_iff.mp h) q (List.mem_filter.mpr ⟨hq, hm⟩)
    have := List.all_eq_true.mp this c hc
    rw [hf] at this
    cases this
  omega
/-- a formula of draws without a model -/
structure Un (N : Nat) (cs : List (List Int)) : Prop where
  fm : Fm (N : Int) cs
  un : ∀ q, Full N q → ∃ c ∈ cs, failB q c = true
theorem neg_lit {N : Nat} {q s : List Int} (hq : Full N q) (h : s.Sublist q) : Lit (N : Int) (s.map fun l => -l) := by
  refine ⟨?_, fun l hl => ?_, fun l hl z => ?_⟩
  · unfold List.Nodup
    rw [List.pairwise_map]
    exact (hq.asc.sublist h).imp fun {a b} h e => by omega
  · obtain ⟨x, hx, rfl⟩ := List.mem_map.mp hl
    have := hq.sm x (h.subset hx)
    omega
  · obtain ⟨x, hx, rfl⟩ := List.mem_map.mp hl
    obtain ⟨y, hy, e⟩ := List.mem_map.mp z
    have e : y = -x := by omega
    exact hq.co x (h.subset hx) (e ▸ h.subset hy)
theorem neg_fail {q s : List Int} (h : ∀ x ∈ s, x ∈ q) : failB q (sI (s.map fun l => -l)) = true := by
  unfold failB
  rw [List.all_eq_true]
  intro l hl
  obtain ⟨x, hx, rfl⟩ := List.mem_map.mp (sI_mem.mp hl)
  rw [Int.neg_neg]
  exact decide_eq_true (h x hx)
abbrev ffE (n : Int) (cs : List (List Int)) : DSt := S_law_false_formula_1 (.val (.dict [])) (.val (encF n cs))
theorem add_clause (n : Int) (cs : List (List Int)) (s : List Int) (hl : cs.length ≤ 1000) (q : D) (k : Option SV) : asgF [2, 2, 5] (u1A tupD (aCons (b2 ixD (vr 2) (cI 0)) (aCons (u1A tupleD (aCons (asL (u1L sorted3 (aCons (b2 addD (asL (u1L listD (aCons (b2 ixD (vr 2) (cI 1)) (aNil)))) (asL (u1L lstD (aCons (u1A tupleD (aCons (asL (u1L sorted3 (aCons (vr 5) (aNil)))) (aNil))) (aNil))))) (aNil)))) (aNil))) (aNil)))) (.nm 2) [some (.val (.dict [])), none, some (.val (encF n cs)), k, some (.val q), some (.val (tI s)), none] = .ok (.nx [some (.val (.dict [])), none, some (.val (encF n (sT (cs ++ [sI s])))), k, some (.val q), some (.val (tI s)), none]) := by
  have hz := h1000
  have h1 : sorted3 [tI s] = .ok (iL (sI s)) := ev_sorted3T s
  have h2 : lstD [tI (sI s)] = .ok [tI (sI s)] := small_L _ (by simp)
  have h3 : addD (.list (cs.map tI)) (.list [tI (sI s)]) = .ok (.list ((cs ++ [sI s]).map tI)) := by rw [add_L (by simp; omega)]; simp
  have h4 := ev_sorted3LT (cs ++ [sI s])
  have h5 : tupleD [.list (iL (sI s))] = .ok (tI (sI s)) := rfl
  show asgF _ _ _ [some (.val (.dict [])), none, some (.val (.tuple [.int n, .tuple (cs.map tI)])), k, some (.val q), some (.val (tI s)), none] = .ok (.nx [some (.val (.dict [])), none, some (.val (.tuple [.int n, .tuple ((sT (cs ++ [sI s])).map tI)])), k, some (.val q), some (.val (tI s)), none])
  have fz : ∀ a b c : D, freeze [2, 2, 5] 0 [some (.val (.dict [])), none, some (.val a), k, some (.val b), some (.val c), none] = [some (.val (.dict [])), none, some (.val a), k, some (.val b), some (.val c), none] := fun _ _ _ => rfl
  refine asgF_v ?_ (fz _ _ _) rfl
  generalize (sT (cs ++ [sI s])).map tI = R at h4 ⊢
  generalize (cs ++ [sI s]).map tI = A at h3 h4
  generalize tI (sI s) = S at h2 h3 h5
  generalize iL (sI s) = S0 at h1 h5
  generalize cs.map tI = C at h3 ⊢
  generalize tI s = T at h1 ⊢
  simp [h1, h2, h3, h4, h5]
theorem ff_none (n a : Int) (cs : List (List Int)) (h : g_law_model [encF n cs] = .ok .none) : (nE (bindP (.nm 3) (.int a) (ffE n cs)) >>= lp_law_false_formula_1) = .ok (.nx (ffE n cs)) := by
  have e1 : nE (bindP (.nm 3) (.int a) (ffE n cs)) = .ok [some (.val (.dict [])), none, some (.val (encF n cs)), some (.val (.int a)), none, none, none] := rfl
  rw [e1, ok_bind]
  show _ = Res.ok (Out.nx [some (.val (.dict [])), none, some (.val (encF n cs)), none, none, none, none])
  generalize encF n cs = F at h ⊢
  have hn : isnD .none .none = .ok (.bool false) := rfl
  simp [lp_law_false_formula_1, sq, h, hn]
theorem ff_some (n a : Int) (N : Nat) (hN : n = N) (hn : 1 ≤ N ∧ N ≤ 100) (cs : List (List Int)) (hl : cs.length ≤ 1000) (q : List Int) (hq : Full N q) (h : g_law_model [encF n cs] = .ok (tI q)) : Al (nE (bindP (.nm 3) (.int a) (ffE n cs)) >>= lp_law_false_formula_1) fun o => ∃ s : List Int, o = .nx (ffE n (sT (cs ++ [sI (s.map fun l => -l)]))) ∧ s.Sublist q := by
  have hz := h1000
  have hql := full_len hq
  have e1 : nE (bindP (.nm 3) (.int a) (ffE n cs)) = .ok [some (.val (.dict [])), none, some (.val (encF n cs)), some (.val (.int a)), none, none, none] := rfl
  rw [e1, ok_bind]
  have fin : ∀ s : List Int, seqO (.nx [some (.val (.dict [])), none, some (.val (encF n (sT (cs ++ [sI s])))), some (.val (.int a)), some (.val (tI q)), some (.val (tI s)), none]) (clr [3, 4, 5] sNil) = .ok (.nx (ffE n (sT (cs ++ [sI s])))) := fun s => rfl
  have ac := fun s : List Int => add_clause n cs s hl (tI q) (some (.val (.int a)))
  have hni : isnD (tI q) .none = .ok (.bool true) := rfl
  have as1 : asgF [2] (callF g_law_model (aCons (vr 2) (aNil))) (.nm 4) [some (.val (.dict [])), none, some (.val (encF n cs)), some (.val (.int a)), none, none, none] = .ok (.nx [some (.val (.dict [])), none, some (.val (encF n cs)), some (.val (.int a)), some (.val (tI q)), none, none]) := by
    refine asgF_v ?_ rfl rfl
    generalize encF n cs = F at h ⊢
    simp [h]
  unfold lp_law_false_formula_1
  rw [sq_nx as1]
  rw [al_sq, al_if]
  have lcl := al_lcS (δ := [some (.val (.dict [])), none, some (.val (encF n cs)), some (.val (.int a)), some (.val (tI q)), none, none]) (vs := [6]) (p := .nm 6) (gs := u1LE seqD (vr 4)) (ft := tB2 gtD (callF g_law_draw (aCons (vr 0) (aCons (cI 3) (aNil)))) (cI 0)) (fe := u1 negD (vr 6)) PyData.int (fun l => PyData.int (-l)) (l := q) (by simp) (by omega) (fun l hl => ⟨[some (.val (.dict [])), none, some (.val (encF n cs)), some (.val (.int a)), some (.val (tI q)), none, some (.val (.int l))], rfl, by
    simp
    refine al_mono (al_dr (by omega) (by omega)) ?_
    rintro _ ⟨j, rfl, _⟩
    simp, by simp⟩)
  generalize encF n cs = F at ac lcl ⊢
  refine al_eq (a := true) (by simp [hni]) ?_
  rw [if_pos rfl, al_sq, al_asg]
  rw [al_tupL]
  refine al_mono lcl ?_
  rintro _ ⟨s, hs, rfl⟩
  rw [show (s.map fun l => PyData.int (-l)) = iL (s.map fun l => -l) by rw [show iL (s.map fun l => -l) = (s.map fun l => -l).map PyData.int from rfl, List.map_map]; rfl]
  rw [asgD_fl (flat_tI (s.map fun l => -l)), ev_bindN, ev_nE, ev_ok, al_ok, seqO_nx]
  have ed : ([some (.val (.dict [])), none, some (.val F), some (.val (.int a)), some (.val (tI q)), none, none] : DSt).set 5 (some (.val (.tuple (iL (s.map fun l => -l))))) = [some (.val (.dict [])), none, some (.val F), some (.val (.int a)), some (.val (tI q)), some (.val (tI (s.map fun l => -l))), none] := rfl
  rw [ed, al_sq, al_if]
  have hln : lenD [tI (s.map fun l => -l)] = .ok (.int (s.length : Int)) := by simp
  have tail : ∀ t : List Int, t.Sublist q → Al (asgF [2, 2, 5] (u1A tupD (aCons (b2 ixD (vr 2) (cI 0)) (aCons (u1A tupleD (aCons (asL (u1L sorted3 (aCons (b2 addD (asL (u1L listD (aCons (b2 ixD (vr 2) (cI 1)) (aNil)))) (asL (u1L lstD (aCons (u1A tupleD (aCons (asL (u1L sorted3 (aCons (vr 5) (aNil)))) (aNil))) (aNil))))) (aNil)))) (aNil))) (aNil)))) (.nm 2) [some (.val (.dict [])), none, some (.val F), some (.val (.int a)), some (.val (tI q)), some (.val (tI (t.map fun l => -l))), none]) fun o => Al (seqO o (clr [3, 4, 5] sNil)) fun o => ∃ s : List Int, o = .nx (ffE n (sT (cs ++ [sI (s.map fun l => -l)]))) ∧ s.Sublist q := fun t ht => al_eq (ac _) (by rw [fin]; exact ⟨t, rfl, ht⟩)
  by_cases h0 : s = []
  · subst h0
    refine al_eq (a := true) (by simp) ?_
    rw [if_pos rfl, al_asg]
    have hlq : lenD [tI q] = .ok (.int (q.length : Int)) := by simp
    rw [al_u1A, al_aCons, al_u1, al_b2]
    refine al_eq (a := tI q) rfl ?_
    rw [al_callF]
    refine al_eq (a := [.dict [], .int (q.length : Int)]) ?_ ?_
    · generalize tI q = Q at hlq ⊢
      simp [hlq]
    refine al_mono (al_dr (by omega) (by omega)) ?_
    rintro _ ⟨j, rfl, j0, j1⟩
    have hk : j.toNat < q.length := by omega
    have hx : ixD (tI q) (.int j) = .ok (.int q[j.toNat]) := by
      have := ix_T (ds := iL q) (k := j.toNat) (d := .int q[j.toNat]) (by rw [List.getElem?_map, List.getElem?_eq_getElem hk]; rfl)
      rwa [show ((j.toNat : Nat) : Int) = j by omega] at this
    have hm : [q[j.toNat]].Sublist q := List.singleton_sublist.mpr (List.getElem_mem hk)
    have tl := tail [q[j.toNat]] hm
    generalize q[j.toNat] = x at hx tl
    rw [hx, al_ok, ev_neg, al_ok, ev_aNil, al_ok, ev_tup1, al_ok, asgD_fl (by simp), ev_bindN, ev_nE, ev_ok, al_ok, seqO_nx]
    exact tl
  · have hp : ¬ (s.length : Int) = 0 := fun z => h0 (List.length_eq_zero_iff.mp (by omega))
    refine al_eq (a := false) ?_ ?_
    · generalize tI (s.map fun l => -l) = T at hln ⊢
      simp [hln, h0]
    rw [if_neg (by decide)]
    rw [ev_sNil, al_ok, seqO_nx]
    exact tail s hs
end Law

set_option Elab.async false
set_option linter.all false
set_option maxRecDepth 100000
set_option maxHeartbeats 200000
namespace Law
open PySem PySem.Spec L2 DL Lin
def UnS (N : Nat) (ds : List (List Int)) : Prop := ∀ q, Full N q → ∃ c ∈ ds, failB q c = true
abbrev TurnP (n : Int) (N : Nat) (fs ds : List (List Int)) (o : Out) : Prop := ∃ es, o = .nx (ffE n es) ∧ Fm n es ∧ es.length ≤ ds.length + 1 ∧ (UnS N es ∨ mct fs es + 1 ≤ mct fs ds) ∧ (UnS N ds → UnS N es)
theorem ff_a (n a : Int) (N : Nat) (hN : n = N) (hn : 1 ≤ N ∧ N ≤ 6) (fs ds : List (List Int)) (f2 : ∀ q, q ∈ fs ↔ Full N q) (i1 : Fm n ds) (hl : ds.length ≤ 900) (q : List Int) (hq : g_law_model [encF n ds] = .ok (tI q)) (hfull : Full N q) (hsat : ∀ c ∈ ds, failB q c = false) : Al (nE (bindP (.nm 3) (.int a) (ffE n ds)) >>= lp_law_false_formula_1) (TurnP n N fs ds) := by
  refine al_mono (ff_some n a N hN ⟨hn.1, Nat.le_trans hn.2 (by decide)⟩ ds (Nat.le_trans hl (by decide)) q hfull hq) ?_
  rintro _ ⟨s, rfl, hs⟩
  have hlit := neg_lit hfull hs
  have hfl : failB q (sI (s.map fun l => -l)) = true := neg_fail fun x hx => hs.subset hx
  have hnew : sI (s.map fun l => -l) ∉ ds := fun z => by
    have := hsat _ z
    rw [hfl] at this
    cases this
  have hmq : mdl ds q = true := List.all_eq_true.mpr fun c hc => by rw [hsat c hc]; rfl
  refine ⟨_, rfl, ⟨fun c hc => ?_, sT_lt ?_⟩, ?_, .inr (mct_less ((f2 q).mpr hfull) hmq (sT_mem.mpr (by simp)) hfl fun x hx => sT_mem.mpr (List.mem_append_left _ hx)), fun i3 => ?_⟩
  · rcases List.mem_append.mp (sT_mem.mp hc) with h | h
    · exact i1.pc c h
    · rw [List.mem_singleton.mp h, hN]; exact hlit.pc
  · rw [List.nodup_append]
    exact ⟨nodup_lt i1.asc, by simp, fun x hx y hy e => hnew (by rw [List.mem_singleton] at hy; rw [← hy, ← e]; exact hx)⟩
  · rw [sT_len, List.length_append, List.length_singleton]; exact Nat.le_refl _
  · obtain ⟨c, hc, hc2⟩ := i3 q hfull
    rw [hsat c hc] at hc2
    cases hc2
theorem ff_b (n a : Int) (N : Nat) (fs ds : List (List Int)) (i1 : Fm n ds) (hq : g_law_model [encF n ds] = .ok .none) (hun : UnS N ds) : Al (nE (bindP (.nm 3) (.int a) (ffE n ds)) >>= lp_law_false_formula_1) (TurnP n N fs ds) :=
  al_eq (ff_none n a ds hq) ⟨ds, rfl, i1, Nat.le_succ _, .inl hun, fun _ => hun⟩
theorem ff_turn (n a : Int) (N : Nat) (hN : n = N) (hn : 1 ≤ N ∧ N ≤ 6) (fs ds : List (List Int)) (f2 : ∀ q, q ∈ fs ↔ Full N q) (i1 : Fm n ds) (hl : ds.length ≤ 900) : Al (nE (bindP (.nm 3) (.int a) (ffE n ds)) >>= lp_law_false_formula_1) (TurnP n N fs ds) :=
  (model_ok n N hN hn.2 ds (Nat.le_trans hl (by decide)) (fun c hc => Nat.le_trans (pc_len hN (i1.pc c hc)) (Nat.le_trans hn.2 (by decide)))).elim (fun ⟨q, h1, h2, h3⟩ => ff_a n a N hN hn fs ds f2 i1 hl q h1 h2 h3) (fun ⟨h1, h2⟩ => ff_b n a N fs ds i1 h1 h2)
theorem ff_gs (m n PI : Int) (F : D) (RL : List D) (hix : ixD F (.int 0) = .ok (.int n)) (hsh : shlD (.int 1) (.int n) = .ok (.int PI)) (hr : rng1D [.int PI] = .ok RL) : u1L rng1D (aCons (b2 shlD (cI 1) (b2 ixD (vr 2) (cI 0))) (aNil)) [some (.val (.dict [])), some (.val (.int m)), some (.val F), none, none, none, none] = .ok RL := by
  simp only [ev_u1L, ev_aCons, ev_b2, ev_cI, ev_ok, ev_vr, List.getElem?_cons_succ, List.getElem?_cons_zero, ev_dv, hix, hsh, hr, ev_aNil]
theorem shl_ok (n PI : Int) (N P : Nat) (hN : n = N) (hn : N ≤ 6) (hP : 2 ^ N = P) (hPI : PI = P) : shlD (.int 1) (.int n) = .ok (.int PI) := by
  show (if powB 1 n = true then Res.ok (PyData.int (1 * 2 ^ n.toNat)) else .bot) = _
  have : powB 1 n = true := decide_eq_true ⟨by omega, by omega, by decide⟩
  rw [if_pos this, hPI, hN, ← hP]
  simp
theorem false_formula_al (m : Int) (hm : 1 ≤ m ∧ m ≤ 6) : Al (g_law_false_formula [.dict [], .int m]) fun d => ∃ (n : Int) (N : Nat) (cs : List (List Int)), d = encF n cs ∧ n = N ∧ 1 ≤ n ∧ n ≤ m ∧ Un N cs ∧ cs.length ≤ 6 + 2 ^ N := by
  have hz := h1000
  have e0 : startD 7 [.dict [], .int m] = [some (.val (.dict [])), some (.val (.int m)), none, none, none, none, none] := rfl
  refine al_fn ?_
  rw [e0]
  unfold b_law_false_formula
  rw [al_sq, al_asg, al_callF]
  refine al_eq (a := [.dict [], .int m]) rfl ?_
  refine al_mono (drawn_formula_al m (by omega)) ?_
  rintro _ ⟨n, cs, rfl, n1, n2, hF, hl⟩
  obtain ⟨N, hN⟩ : ∃ N : Nat, n = N := ⟨n.toNat, by omega⟩
  have fl : flat (encF n cs) = true := by simp
  rw [asgD_fl fl, ev_bindN, ev_nE, ev_ok, al_ok, seqO_nx]
  have ed : ([some (.val (.dict [])), some (.val (.int m)), none, none, none, none, none] : DSt).set 2 (some (.val (encF n cs))) = [some (.val (.dict [])), some (.val (.int m)), some (.val (encF n cs)), none, none, none, none] := rfl
  rw [ed, al_sq]
  obtain ⟨P, hP, h64, fs, f1, f2⟩ : ∃ P, 2 ^ N = P ∧ P ≤ 64 ∧ ∃ fs : List (List Int), fs.length = P ∧ ∀ q, q ∈ fs ↔ Full N q := ⟨_, rfl, Nat.pow_le_pow_right (n := 2) (by decide) (show N ≤ 6 by omega), fulls N⟩
  obtain ⟨PI, hPI⟩ : ∃ PI : Int, PI = P := ⟨_, rfl⟩
  have hsh := shl_ok n PI N P hN (by omega) hP hPI
  have hr : rng1D [.int PI] = .ok (rngL 0 PI) := rng1_ok (by omega)
  have hm0 : mct fs cs ≤ P := by
    unfold mct
    have := List.length_filter_le (mdl cs) fs
    omega
  have go := al_rng (p := .nm 3) (body := lp_law_false_formula_1) (ffE n) (fun k ds => Fm n ds ∧ ds.length ≤ 6 + k ∧ (mct fs ds + k ≤ P ∨ UnS N ds)) (lo := 0) (hi := PI) (s := cs) (by omega) ⟨hF, by omega, .inl (by omega)⟩ (fun k ds hk ⟨i1, i2, i3⟩ => al_mono (ff_turn n _ N hN (by omega) fs ds f2 i1 (by omega)) fun o ⟨es, e, g1, g2, g3, g4⟩ => ⟨es, e, g1, by omega, by
    rcases i3 with i3 | i3
    · rcases g3 with g3 | g3
      · exact .inr g3
      · exact .inl (by omega)
    · exact .inr (g4 i3)⟩)
  have go : Al (forGo (.nm 3) lp_law_false_formula_1 (rngL 0 PI) [some (.val (.dict [])), none, some (.val (encF n cs)), none, none, none, none]) _ := go
  have hix : ixD (encF n cs) (.int 0) = .ok (.int n) := ix_T0 _ _
  generalize encF n cs = F at go hix ⊢
  generalize rngL 0 PI = RL at hr go
  rw [ev_forRC, ff_gs m n PI F RL hix hsh hr, ev_ok]
  refine al_mono go ?_
  rintro _ ⟨ds, rfl, g1, g2, g3⟩
  refine ⟨n, N, ds, rfl, hN, n1, n2, ⟨hN ▸ g1, fun q hq => ?_⟩, by rw [hP]; omega⟩
  rcases g3 with g3 | g3
  · have h0 : mct fs ds = 0 := by omega
    have := List.filter_eq_nil_iff.mp (List.length_eq_zero_iff.mp h0) q ((f2 q).mpr hq)
    refine Classical.byContradiction fun z => this (List.all_eq_true.mpr fun c hc => ?_)
    cases hb : failB q c with
    | false => rfl
    | true => exact absurd ⟨c, hc, hb⟩ z
  · exact g3 q hq
end Law

set_option Elab.async false
set_option linter.all false
set_option maxRecDepth 100000
set_option maxHeartbeats 400000
namespace Law
open PySem PySem.Spec L2 DL Lin
/-! ### drawn trees -/
theorem free_run (n : Int) (N : Nat) (hN : n = N) (hn : N ≤ 100) (F : D) (hF : ixD F (.int 0) = .ok (.int n)) (q : List Int) : g_law_free [F, tI q] = .ok (.list (iL (frL N q))) := by
  have hz := h1000
  have hr : rng2D [.int 1, .int (n + 1)] = .ok (iL (rg N)) := by
    rw [rng2_ok (by omega) (by omega), rngL_map, show (n + 1 - 1).toNat = N by omega]; rfl
  have lc := lcF_ok (δ := [some (.val F), some (.val (tI q)), none]) (vs := [2]) (p := .nm 2) (gs := u1L rng2D (aCons (cI 1) (aCons (b2 addD (b2 ixD (vr 0) (cI 0)) (cI 1)) (aNil)))) (ft := tAnd' (tB2 ninD (vr 2) (vr 1)) (tB2 ninD (u1 negD (vr 2)) (vr 1))) (fe := vr 2) PyData.int (fun v => !decide (v ∈ q) && !decide (-v ∈ q)) PyData.int (l := rg N) (by simp [hF, hr]) (by simp [rg]; omega) (by
    intro a ha
    refine ⟨_, rfl, ?_, fun _ => by simp⟩
    by_cases h1 : a ∈ q <;> by_cases h2 : -a ∈ q <;> simp [h1, h2])
  have e0 : startD 3 [F, tI q] = [some (.val F), some (.val (tI q)), none] := rfl
  refine fn_rt ?_
  rw [e0]
  have lc : _ = Res.ok (iL (frL N q)) := lc
  generalize iL (frL N q) = R at lc ⊢
  simp [b_law_free, lc]
theorem free_ok (n : Int) (N : Nat) (hN : n = N) (hn : N ≤ 100) (cs : List (List Int)) (q : List Int) : g_law_free [encF n cs, tI q] = .ok (.list (iL (frL N q))) := free_run n N hN hn _ (ix_T0 _ _) q
/-- which clauses fail -/
def fitL (cs : List (List Int)) (q : List Int) : List Nat := (List.range cs.length).filter fun k => failB q (cs.getD k [])
abbrev nL (l : List Nat) : List D := l.map fun k : Nat => PyData.int (k : Int)
theorem fit_step (F CSd Q C : D) (x : Int) (b : Bool) (o0 o3 o4 o5 o6 : Option SV) (hF : ixD F (.int 1) = .ok CSd) (hx : ixD CSd (.int x) = .ok C) (hf : g_law_fails [Q, C] = .ok (.bool b)) : (tTr (callF g_law_fails (aCons (vr 2) (aCons (b2 ixD (b2 ixD (vr 1) (cI 1)) (vr 7)) (aNil))))) [o0, some (.val F), some (.val Q), o3, o4, o5, o6, some (.val (.int x))] = .ok b := by
  simp [hF, hx, hf]
theorem fit_gs (F CSd Q : D) (L : Int) (RL : List D) (o0 o3 o4 o5 o6 : Option SV) (hF : ixD F (.int 1) = .ok CSd) (hln : lenD [CSd] = .ok (.int L)) (hr : rng1D [.int L] = .ok RL) : u1L rng1D (aCons (u1A lenD (aCons (b2 ixD (vr 1) (cI 1)) (aNil))) (aNil)) [o0, some (.val F), some (.val Q), o3, o4, o5, o6, none] = .ok RL := by
  simp [hF, hln, hr]
theorem rng_nats (L : Int) (k : Nat) (h : L = k) (hk : k ≤ 1000) : rng1D [.int L] = .ok (nL (List.range k)) := by
  rw [rng1_ok (by omega)]
  unfold rngL
  rw [show (L - 0).toNat = k by omega]
  congr 1
  exact List.map_congr_left fun x _ => by rw [Int.zero_add]
theorem fit_lc (F CSd : D) (cs : List (List Int)) (q : List Int) (hl : cs.length ≤ 1000) (hc : ∀ c ∈ cs, c.length ≤ 1000) (hCS : CSd = .tuple (cs.map tI)) (hF : ixD F (.int 1) = .ok CSd) (o0 o3 o4 o5 o6 : Option SV) : lcF (u1L rng1D (aCons (u1A lenD (aCons (b2 ixD (vr 1) (cI 1)) (aNil))) (aNil))) (.nm 7) [7] (tTr (callF g_law_fails (aCons (vr 2) (aCons (b2 ixD (b2 ixD (vr 1) (cI 1)) (vr 7)) (aNil))))) (vr 7) [o0, some (.val F), some (.val (tI q)), o3, o4, o5, o6, none] = .ok (nL (fitL cs q)) := by
  have hz := h1000
  have hln : lenD [CSd] = .ok (.int (cs.length : Int)) := by rw [hCS]; simp
  have hgs := fit_gs F CSd (tI q) _ _ o0 o3 o4 o5 o6 hF hln (rng_nats _ cs.length rfl hl)
  exact lcF_ok (δ := [o0, some (.val F), some (.val (tI q)), o3, o4, o5, o6, none]) (vs := [7]) (p := .nm 7) (ft := tTr (callF g_law_fails (aCons (vr 2) (aCons (b2 ixD (b2 ixD (vr 1) (cI 1)) (vr 7)) (aNil))))) (fe := vr 7) (fun k : Nat => PyData.int (k : Int)) (fun k => failB q (cs.getD k [])) (fun k : Nat => PyData.int (k : Int)) (l := List.range cs.length) hgs (by rw [List.length_range]; omega) (by
    intro k hk
    have hk := List.mem_range.mp hk
    have hx : ixD CSd (.int (k : Int)) = .ok (tI (cs.getD k [])) := by rw [hCS]; exact ix_getD (k : Int) rfl hk
    have hf := fails_ok q (cs.getD k []) (by rw [List.getD_eq_getElem?_getD, List.getElem?_eq_getElem hk]; exact hc _ (List.getElem_mem hk))
    exact ⟨[o0, some (.val F), some (.val (tI q)), o3, o4, o5, o6, some (.val (.int (k : Int)))], rfl, fit_step F CSd (tI q) _ _ _ o0 o3 o4 o5 o6 hF hx hf, fun _ => rfl⟩)
theorem fit_mem {cs : List (List Int)} {q : List Int} {k : Nat} (h : k ∈ fitL cs q) : ∃ hk : k < cs.length, failB q cs[k] = true := by
  unfold fitL at h
  rw [List.mem_filter, List.mem_range] at h
  have h2 := h.2
  rw [List.getD_eq_getElem?_getD, List.getElem?_eq_getElem h.1] at h2
  exact ⟨h.1, h2⟩
theorem fit_ne {cs : List (List Int)} {q : List Int} (h : ¬ leafI cs q < 0) : fitL cs q ≠ [] := fun e => by
  apply h
  rw [leaf_neg, ← leaf_none]
  unfold fitL at e
  unfold leafO
  rw [List.find?_eq_none]
  intro k hk
  exact List.filter_eq_nil_iff.mp e k hk
theorem fail_rt {cs : List (List Int)} {q : List Int} {n : Int} {k : Nat} (h : k ∈ fitL cs q) : Rt n cs (.leaf (k : Int)) q := by
  obtain ⟨hk, hf⟩ := fit_mem h
  refine ⟨k, rfl, cs[k], List.getElem?_eq_getElem hk, fun l hl => ?_⟩
  exact of_decide_eq_true (List.all_eq_true.mp hf l hl)
/-- a drawn place of a list -/
theorem pick_al {m : Int} {L : List D} {P : D → Prop} (hm : m = L.length) (h0 : 0 < m) (h1 : m < 1073741824) (h : ∀ x ∈ L, P x) : Al (g_law_draw [.dict [], .int m]) fun d => Al (ixD (.list L) d) P := by
  refine al_mono (al_dr h0 h1) ?_
  rintro _ ⟨i, rfl, i0, i1⟩
  obtain ⟨x, hx, e⟩ := ix_ex (L := L) i0 (by omega)
  exact al_eq e (h x hx)
abbrev trE (F Q : D) (a b c d e : Option SV) : DSt := [some (.val (.dict [])), some (.val F), some (.val Q), a, b, c, d, e]
/-- the leaf -/
def leafCode : DSt → Res Out := seqF (asgLV [1, 2, 1, 7, 7] (lcF (u1L rng1D (aCons (u1A lenD (aCons (b2 ixD (vr 1) (cI 1)) (aNil))) (aNil))) (.nm 7) [7] (tTr (callF g_law_fails (aCons (vr 2) (aCons (b2 ixD (b2 ixD (vr 1) (cI 1)) (vr 7)) (aNil))))) (vr 7)) 4)
  (sRt (u1A tupD (aCons (cS "leaf") (aCons (b2 ixD (vr 4) (callF g_law_draw (aCons (vr 0) (aCons (u1A lenD (aCons (vr 4) (aNil))) (aNil))))) (aNil)))))
theorem tree_leaf (g : List D → Res D) (F Q : D) (l : Int) (fit : List Nat) (hl : lcF (u1L rng1D (aCons (u1A lenD (aCons (b2 ixD (vr 1) (cI 1)) (aNil))) (aNil))) (.nm 7) [7] (tTr (callF g_law_fails (aCons (vr 2) (aCons (b2 ixD (b2 ixD (vr 1) (cI 1)) (vr 7)) (aNil))))) (vr 7) (trE F Q (some (.val (.int l))) none none none none) = .ok (nL fit)) (hne : fit ≠ []) (hlen : fit.length ≤ 1000) :
    Al (leafCode (trE F Q (some (.val (.int l))) none none none none)) fun o => ∃ k ∈ fit, o = .rt (encT (.leaf (k : Int))) := by
  have fL : flatAll (nL fit) = true := flatAll_of (e := fun k : Nat => PyData.int (k : Int)) (fun _ => by simp) fit
  have hp : 0 < fit.length := List.length_pos_iff.mpr hne
  unfold leafCode
  rw [al_sq, al_asgL]
  refine al_eq hl ?_
  rw [if_pos fL, al_ok, seqO_nx]
  have ed : (trE F Q (some (.val (.int l))) none none none none).set 4 (some (.val (.list (nL fit)))) = trE F Q (some (.val (.int l))) (some (.val (.list (nL fit)))) none none none := rfl
  rw [ed, al_sRt, al_u1A, al_aCons]
  refine al_eq (a := .str "leaf") rfl ?_
  rw [al_aCons, al_b2]
  refine al_eq (a := .list (nL fit)) rfl ?_
  rw [al_callF]
  have hln : lenD [.list (nL fit)] = .ok (.int (fit.length : Int)) := by simp
  refine al_eq (a := [.dict [], .int (fit.length : Int)]) ?_ ?_
  · generalize nL fit = X at hln ⊢
    simp [hln]
  refine pick_al (by simp) (by omega) (by omega) fun x hx => ?_
  obtain ⟨k, hk, rfl⟩ := List.mem_map.mp hx
  rw [ev_aNil, al_ok, ev_tup2, al_ok]
  exact ⟨k, hk, rfl⟩
end Law

set_option Elab.async false
set_option linter.all false
set_option maxRecDepth 100000
set_option maxHeartbeats 400000
namespace Law
open PySem PySem.Spec L2 DL Lin
def askCode (g : List D → Res D) : DSt → Res Out := seqF (asgF [1, 2] (callF g_law_free (aCons (vr 1) (aCons (vr 2) (aNil)))) (.nm 5))
  (seqF (asgF [5, 0, 5] (b2 ixD (vr 5) (callF g_law_draw (aCons (vr 0) (aCons (u1A lenD (aCons (vr 5) (aNil))) (aNil))))) (.nm 6))
  (sRt (u1A tupD (aCons (cS "ask") (aCons (vr 6) (aCons (callF g (aCons (vr 0) (aCons (vr 1) (aCons (callF g_law_with (aCons (vr 2) (aCons (u1 negD (vr 6)) (aNil)))) (aNil))))) (aCons (callF g (aCons (vr 0) (aCons (vr 1) (aCons (callF g_law_with (aCons (vr 2) (aCons (vr 6) (aNil)))) (aNil))))) (aNil))))))))
theorem tree_ask (g : List D → Res D) (F : D) (q fr : List Int) (l : Int) (hq : q.length ≤ 900) (hfree : g_law_free [F, tI q] = .ok (.list (iL fr))) (hne : fr ≠ []) (hlen : fr.length ≤ 1000) (P : Int → Bool → D → Prop)
    (hg : ∀ v ∈ fr, Al (g [.dict [], F, tI (sI (q ++ [-v]))]) (P v false) ∧ Al (g [.dict [], F, tI (sI (q ++ [v]))]) (P v true)) :
    Al (askCode g (trE F (tI q) (some (.val (.int l))) none none none none)) fun o => ∃ v ∈ fr, ∃ A B, o = .rt (.tuple [.str "ask", .int v, A, B]) ∧ P v false A ∧ P v true B := by
  have hz := h1000
  have hp : 0 < fr.length := List.length_pos_iff.mpr hne
  unfold askCode
  rw [al_sq, al_asg]
  refine al_eq (a := .list (iL fr)) (by simp [hfree]) ?_
  rw [asgD_v rfl, ev_bindN, ev_nE, ev_ok, al_ok, seqO_nx]
  have ed : (trE F (tI q) (some (.val (.int l))) none none none none).set 5 (some (.val (.list (iL fr)))) = trE F (tI q) (some (.val (.int l))) none (some (.val (.list (iL fr)))) none none := rfl
  rw [ed, al_sq, al_asg, al_b2]
  refine al_eq (a := .list (iL fr)) rfl ?_
  rw [al_callF]
  have hln : lenD [.list (iL fr)] = .ok (.int (fr.length : Int)) := by simp
  refine al_eq (a := [.dict [], .int (fr.length : Int)]) ?_ ?_
  · generalize iL fr = X at hln ⊢
    simp [hln]
  refine pick_al (by simp) (by omega) (by omega) fun x hx => ?_
  obtain ⟨v, hv, rfl⟩ := List.mem_map.mp hx
  rw [asgD_int, ev_bindN, ev_nE, ev_ok, al_ok, seqO_nx]
  have ed : (trE F (tI q) (some (.val (.int l))) none (some (.val (.list (iL fr)))) none none).set 6 (some (.val (.int v))) = trE F (tI q) (some (.val (.int l))) none (some (.val (.list (iL fr)))) (some (.val (.int v))) none := rfl
  have w1 := with_ok q (-v) (by omega)
  have w2 := with_ok q v (by omega)
  rw [ed, al_sRt, al_u1A, al_aCons]
  refine al_eq (a := .str "ask") rfl ?_
  rw [al_aCons]
  refine al_eq (a := .int v) rfl ?_
  rw [al_aCons, al_callF]
  refine al_eq (a := [.dict [], F, tI (sI (q ++ [-v]))]) ?_ ?_
  · generalize tI (sI (q ++ [-v])) = W at w1 ⊢
    generalize tI q = Q at w1 ⊢
    simp [w1]
  refine al_mono (hg v hv).1 fun A hA => ?_
  rw [al_aCons, al_callF]
  refine al_eq (a := [.dict [], F, tI (sI (q ++ [v]))]) ?_ ?_
  · generalize tI (sI (q ++ [v])) = W at w2 ⊢
    generalize tI q = Q at w2 ⊢
    simp [w2]
  refine al_mono (hg v hv).2 fun B hB => ?_
  rw [ev_aNil, al_ok, small_T _ (by simp), al_ok]
  exact ⟨v, hv, A, B, rfl, hA, hB⟩
theorem seqO_fin {o : Out} {Y : DSt → Res Out} {P : D → Prop} (h : ∃ d, o = .rt d ∧ P d) : Al (seqO o Y) fun o => Al (fnK o) P := by
  obtain ⟨d, e, p⟩ := h
  subst e
  rw [seqO_rt, al_ok, fnK_rt, al_ok]
  exact p
theorem fnK_fin {o : Out} {P : D → Prop} (h : ∃ d, o = .rt d ∧ P d) : Al (fnK o) P := by
  obtain ⟨d, e, p⟩ := h
  subst e
  rw [fnK_rt, al_ok]
  exact p
theorem tree_turn (g : List D → Res D) (F Q : D) (fr : List Int) (L : Int) (P : D → Prop) (h1 : g_law_leaf [F, Q] = .ok (.int L)) (h2 : g_law_free [F, Q] = .ok (.list (iL fr)))
    (leafK : ¬ L < 0 → Al (leafCode (trE F Q (some (.val (.int L))) none none none none)) fun o => ∃ d, o = .rt d ∧ P d) (askK : fr ≠ [] → Al (askCode g (trE F Q (some (.val (.int L))) none none none none)) fun o => ∃ d, o = .rt d ∧ P d) (noFr : fr = [] → ¬ L < 0) : Al (fnD 8 (b_law_some_tree g) [.dict [], F, Q]) P := by
  have e0 : startD 8 [.dict [], F, Q] = trE F Q none none none none none := rfl
  refine al_fn ?_
  rw [e0]
  show Al (seqF (asgF [1, 2] (callF g_law_leaf (aCons (vr 1) (aCons (vr 2) (aNil)))) (.nm 3)) (seqF (ifS (tAnd' (tB2 geD (vr 3) (cI 0)) (tOr' (tB2 eqD (u1A lenD (aCons (callF g_law_free (aCons (vr 1) (aCons (vr 2) (aNil)))) (aNil))) (cI 0)) (tB2 gtD (callF g_law_draw (aCons (vr 0) (aCons (cI 8) (aNil)))) (cI 0)))) leafCode (sNil)) (askCode g)) _) _
  rw [al_sq, al_asg]
  have hln : lenD [.list (iL fr)] = .ok (.int (fr.length : Int)) := by simp
  refine al_eq (a := .int L) (by simp [h1]) ?_
  rw [asgD_int, ev_bindN, ev_nE, ev_ok, al_ok, seqO_nx]
  have ed : (trE F Q none none none none none).set 3 (some (.val (.int L))) = trE F Q (some (.val (.int L))) none none none none := rfl
  rw [ed, al_sq, al_if, al_tAnd]
  by_cases hL : L < 0
  · refine al_eq (a := false) (by simp; omega) ?_
    rw [if_neg (by decide), al_ok, if_neg (by decide), ev_sNil, al_ok, seqO_nx]
    exact al_mono (askK fun e => noFr e hL) fun o ho => fnK_fin ho
  · refine al_eq (a := true) (by simp; omega) ?_
    rw [if_pos rfl, al_tOr]
    by_cases hf : fr = []
    · refine al_eq (a := true) ?_ ?_
      · subst hf
        simp [h2]
      rw [if_pos rfl, al_ok, if_pos rfl]
      exact al_mono (leafK hL) fun o ho => seqO_fin ho
    · have hp : ¬ (fr.length : Int) = 0 := fun z => hf (List.length_eq_zero_iff.mp (by omega))
      refine al_eq (a := false) ?_ ?_
      · generalize (fr.length : Int) = K at hln hp
        generalize iL fr = X at h2 hln
        simp [h2, hln, hp]
      rw [if_neg (by decide), al_tB2, al_callF]
      refine al_eq (a := [.dict [], .int 8]) rfl ?_
      refine al_mono (al_dr (by omega) (by omega)) ?_
      rintro _ ⟨j, rfl, j0, j1⟩
      rw [ev_cI, al_ok, ev_gt, al_ok, ev_asB, al_ok]
      by_cases hj : 0 < j
      · rw [decide_eq_true hj, if_pos rfl]
        exact al_mono (leafK hL) fun o ho => seqO_fin ho
      · rw [decide_eq_false hj, if_neg (by decide), ev_sNil, al_ok, seqO_nx]
        exact al_mono (askK hf) fun o ho => fnK_fin ho
theorem fr_small (N : Nat) (q : List Int) : (frL N q).length ≤ N := by
  unfold frL
  refine Nat.le_trans (List.length_filter_le _ _) ?_
  simp [rg]
theorem fit_small (cs : List (List Int)) (q : List Int) : (fitL cs q).length ≤ cs.length := by
  unfold fitL
  refine Nat.le_trans (List.length_filter_le _ _) ?_
  simp
theorem some_tree_al (n : Int) (N : Nat) (hN : n = N) (hn : N ≤ 6) (cs : List (List Int)) (hU : Un N cs) (hl : cs.length ≤ 1000) (k : Nat) : ∀ (d : Nat) (q : List Int), PC n q → (frL N q).length ≤ d → d < k → Al (gN_law_some_tree k [.dict [], encF n cs, tI q]) fun x => ∃ t, x = encT t ∧ Rt n cs t q ∧ dpT t ≤ d := by
  induction k with
  | zero => intro d q _ _ h; omega
  | succ k ih =>
    intro d q hq hd hk
    have hc : ∀ c ∈ cs, c.length ≤ 1000 := fun c hc => by have := pc_len rfl (hU.fm.pc c hc); omega
    have hql : q.length ≤ 900 := by have := pc_len hN hq; omega
    have h2 := free_ok n N hN (by omega) cs q
    refine tree_turn (gN_law_some_tree k) (encF n cs) (tI q) (frL N q) (leafI cs q) _ (leaf_ok n cs q hl hc) h2 (fun hneg => ?_) (fun hne => ?_) (fun e h => ?_)
    · refine al_mono (tree_leaf (gN_law_some_tree k) (encF n cs) (tI q) (leafI cs q) (fitL cs q) (fit_lc (encF n cs) (.tuple (cs.map tI)) cs q hl hc rfl (ix_T1 _ _ _) _ _ _ _ _) (fit_ne hneg) (Nat.le_trans (fit_small _ _) hl)) ?_
      rintro o ⟨i, hi, e⟩
      exact ⟨_, e, .leaf i, rfl, fail_rt hi, Nat.zero_le _⟩
    · have hd1 : 1 ≤ d := by
        have : 0 < (frL N q).length := List.length_pos_iff.mpr hne
        omega
      refine al_mono (tree_ask (gN_law_some_tree k) (encF n cs) q (frL N q) (leafI cs q) hql h2 hne (by have := fr_small N q; omega) (fun v b x => ∃ t, x = encT t ∧ Rt n cs t (sI (q ++ [if b then v else -v])) ∧ dpT t + 1 ≤ d) (fun v hv => ?_)) ?_
      · have hv2 := fr_mem.mp hv
        have l1 := fr_less hv (.inr rfl : -v = v ∨ -v = -v)
        have l2 := fr_less hv (.inl rfl : v = v ∨ v = -v)
        have i1 := ih (d - 1) (sI (q ++ [-v])) (pc_put hq (by omega) (by omega) hv2.2.2 (by rw [Int.neg_neg]; exact hv2.2.1)) (by omega) (by omega)
        have i2 := ih (d - 1) (sI (q ++ [v])) (pc_put hq (by omega) (by omega) hv2.2.1 hv2.2.2) (by omega) (by omega)
        exact ⟨al_mono i1 fun x ⟨t, e, r, p⟩ => ⟨t, e, r, by omega⟩, al_mono i2 fun x ⟨t, e, r, p⟩ => ⟨t, e, r, by omega⟩⟩
      · rintro o ⟨v, hv, A, B, e, ⟨t1, e1, r1, p1⟩, ⟨t2, e2, r2, p2⟩⟩
        have hv2 := fr_mem.mp hv
        refine ⟨_, e, .ask v t1 t2, by rw [e1, e2]; rfl, ⟨⟨by omega, by omega, hv2.2.1, hv2.2.2⟩, r1, r2⟩, ?_⟩
        show max (dpT t1) (dpT t2) + 1 ≤ d
        omega
    · obtain ⟨c, hc1, hc2⟩ := hU.un q (fr_nil hN hq e)
      rw [leaf_neg.mp h c hc1] at hc2
      cases hc2
end Law

set_option Elab.async false
set_option linter.all false
set_option maxRecDepth 100000
set_option maxHeartbeats 1000000
namespace DL
open PySem PySem.Spec L2
/-! two fors in a list -/
theorem lcGo_g {β : Type} (enc : β → D) (g : β → D) {p : Pat} {δ : DSt} {fe : DSt → Res D} (l : List β) (h : ∀ a ∈ l, ∃ δ1, nE (bindP p (enc a) δ) = .ok δ1 ∧ fe δ1 = .ok (g a)) : lcGo p δ tY fe (l.map enc) = .ok (l.map g) := by
  have := lcGo_ok enc (fun _ => true) g l (ft := tY) fun a ha => by
    obtain ⟨δ1, h1, h2⟩ := h a ha
    exact ⟨δ1, h1, rfl, fun _ => h2⟩
  rwa [filter_tt] at this
theorem lc2Go_all {α β : Type} (enc : α → D) (sub : α → List β) (enc2 : β → D) (g : α → β → D) {p p1 : Pat} {δ : DSt} {vs1 : List Nat} {gi : DSt → Res (List D)} {fe : DSt → Res D} : ∀ l : List α,
    (∀ a ∈ l, ∃ δ1, nE (bindP p (enc a) δ) = .ok δ1 ∧ gi δ1 = .ok ((sub a).map enc2) ∧ ∀ b ∈ sub a, ∃ δ2, nE (bindP p1 (enc2 b) (wipeD δ1 vs1)) = .ok δ2 ∧ fe δ2 = .ok (g a b)) →
    lc2Go p δ tY gi p1 vs1 tY fe (l.map enc) = .ok (l.flatMap fun a => (sub a).map (g a))
  | [], _ => rfl
  | a :: l, h => by
    obtain ⟨δ1, h1, h2, h3⟩ := h a List.mem_cons_self
    have ih := lc2Go_all enc sub enc2 g (p := p) (p1 := p1) (δ := δ) (vs1 := vs1) (gi := gi) (fe := fe) l fun b hb => h b (List.mem_cons_of_mem _ hb)
    have hi := lcGo_g enc2 (g a) (sub a) h3
    rw [List.map_cons, lc2Go, h1, ok_bind]
    show (nE (gi δ1) >>= fun es => lcGo p1 (wipeD δ1 vs1) tY fe es >>= fun zs => lc2Go p δ tY gi p1 vs1 tY fe (l.map enc) >>= fun ys => Res.ok (zs ++ ys)) = _
    rw [h2, ev_nE, ok_bind, hi, ok_bind, ih, ok_bind]
    rfl
theorem lc2F_all {α β : Type} (enc : α → D) (sub : α → List β) (enc2 : β → D) (g : α → β → D) {p p1 : Pat} {δ : DSt} {vs vs1 : List Nat} {gs gi : DSt → Res (List D)} {fe : DSt → Res D} {l : List α} (hg : gs δ = .ok (l.map enc)) (hl : (l.flatMap fun a => (sub a).map (g a)).length ≤ sizeLine)
    (h : ∀ a ∈ l, ∃ δ1, nE (bindP p (enc a) (wipeD δ vs)) = .ok δ1 ∧ gi δ1 = .ok ((sub a).map enc2) ∧ ∀ b ∈ sub a, ∃ δ2, nE (bindP p1 (enc2 b) (wipeD δ1 vs1)) = .ok δ2 ∧ fe δ2 = .ok (g a b)) :
    lc2F gs p vs tY gi p1 vs1 tY fe δ = .ok (l.flatMap fun a => (sub a).map (g a)) := by
  unfold lc2F
  rw [hg, ok_bind, lc2Go_all enc sub enc2 g l h, ok_bind]
  exact lstD_ok hl
theorem max_eq (a b : Int) : ∃ M, maxD2 [.int a, .int b] = .ok (.int M) ∧ a ≤ M ∧ b ≤ M ∧ (M = a ∨ M = b) := by
  refine ⟨_, rfl, ?_⟩
  split <;> omega
/-- a while loop, step by step -/
theorem wh_go {c : DSt → Res Bool} {b : DSt → Res Out} {k : Nat} {δ δ2 : DSt} (h : c δ = .ok true) (h2 : b δ = .ok (.nx δ2)) : whileGo c b (k + 1) δ = whileGo c b k δ2 := by
  rw [whileGo, h]
  show (b δ >>= _) = _
  rw [h2]; rfl
theorem wh_end {c : DSt → Res Bool} {b : DSt → Res Out} {k : Nat} {δ : DSt} (h : c δ = .ok false) : whileGo c b (k + 1) δ = .ok (.nx δ) := by
  rw [whileGo, h]; rfl
end DL

set_option Elab.async false
set_option linter.all false
set_option maxRecDepth 100000
set_option maxHeartbeats 400000
namespace Law
open PySem PySem.Spec L2 DL Lin
theorem same_int (k : Nat) (a : Int) : gN_law_same (k + 1) [.int a, .int a] = .ok (.bool true) := by
  have k1 : kitB "int" "list" = some false := by decide +kernel
  have i1 : isiD "tuple" (.int a) = .ok (.bool false) := isi_of kq3
  have i2 : isiD "list" (.int a) = .ok (.bool false) := isi_of k1
  have i3 : isD (.int a) .none = .ok (.bool false) := rfl
  have i4 : isiD "bool" (.int a) = .ok (.bool false) := isi_of kb_ib
  exact fn_rt (by simp [b_law_same, startD, sq, i1, i2, i3, i4])
theorem same_bool (k : Nat) (a : Bool) : gN_law_same (k + 1) [.bool a, .bool a] = .ok (.bool true) := by
  have k1 : kitB "bool" "list" = some false := by decide +kernel
  have i1 : isiD "tuple" (.bool a) = .ok (.bool false) := isi_of kq2
  have i2 : isiD "list" (.bool a) = .ok (.bool false) := isi_of k1
  have i3 : isD (.bool a) .none = .ok (.bool false) := rfl
  have i4 : isiD "bool" (.bool a) = .ok (.bool true) := isi_of kb_bb
  exact fn_rt (by simp [b_law_same, startD, sq, i1, i2, i3, i4])
theorem ixT2 (a b c d : D) : ixD (.tuple [a, b, c, d]) (.int 2) = .ok c := ix_T (k := 2) rfl
theorem ixT3 (a b c d : D) : ixD (.tuple [a, b, c, d]) (.int 3) = .ok d := ix_T (k := 3) rfl
/-! depth, leaves, rank -/
theorem depth_both : ∀ (t : Tr) (k : Nat), dpT t < k → ∃ x : Int, gN_law_depth k [encT t] = .ok (.int x) ∧ gN_tree_depth k [encT t] = .ok (.int x)
  | t, 0, h => by omega
  | .leaf i, k + 1, _ => ⟨0, fn_rt (by simp [b_law_depth, startD, encT, wLL]), fn_rt (by simp [b_tree_depth, startD, encT, wLL])⟩
  | .ask v a b, k + 1, h => by
    have hd : max (dpT a) (dpT b) + 1 < k + 1 := h
    obtain ⟨x, x1, x2⟩ := depth_both a k (by omega)
    obtain ⟨y, y1, y2⟩ := depth_both b k (by omega)
    obtain ⟨M, hM, _⟩ := max_eq x y
    generalize he : encT a = A at x1 x2
    generalize hf : encT b = B at y1 y2
    refine ⟨1 + M, fn_rt ?_, fn_rt ?_⟩
    · generalize gN_law_depth k = g at x1 y1
      simp [b_law_depth, startD, encT, he, hf, wAL, ixT2, ixT3, x1, y1, hM]
    · generalize gN_tree_depth k = g at x2 y2
      simp [b_tree_depth, startD, encT, he, hf, wAL, ixT2, ixT3, x2, y2, hM]
theorem leaves_both : ∀ (t : Tr) (k : Nat), dpT t < k → ∃ x : Int, gN_law_leaves k [encT t] = .ok (.int x) ∧ gN_tree_leaves k [encT t] = .ok (.int x)
  | t, 0, h => by omega
  | .leaf i, k + 1, _ => ⟨1, fn_rt (by simp [b_law_leaves, startD, encT, wLL]), fn_rt (by simp [b_tree_leaves, startD, encT, wLL])⟩
  | .ask v a b, k + 1, h => by
    have hd : max (dpT a) (dpT b) + 1 < k + 1 := h
    obtain ⟨x, x1, x2⟩ := leaves_both a k (by omega)
    obtain ⟨y, y1, y2⟩ := leaves_both b k (by omega)
    generalize he : encT a = A at x1 x2
    generalize hf : encT b = B at y1 y2
    refine ⟨x + y, fn_rt ?_, fn_rt ?_⟩
    · generalize gN_law_leaves k = g at x1 y1
      simp [b_law_leaves, startD, encT, he, hf, wAL, ixT2, ixT3, x1, y1]
    · generalize gN_tree_leaves k = g at x2 y2
      simp [b_tree_leaves, startD, encT, he, hf, wAL, ixT2, ixT3, x2, y2]
theorem rank_both : ∀ (t : Tr) (k : Nat), dpT t < k → ∃ x : Int, gN_law_rank k [encT t] = .ok (.int x) ∧ gN_tree_rank k [encT t] = .ok (.int x)
  | t, 0, h => by omega
  | .leaf i, k + 1, _ => ⟨0, fn_rt (by simp [b_law_rank, startD, sq, encT, wLL]), fn_rt (by simp [b_tree_rank, startD, sq, encT, wLL])⟩
  | .ask v a b, k + 1, h => by
    have hd : max (dpT a) (dpT b) + 1 < k + 1 := h
    obtain ⟨x, x1, x2⟩ := rank_both a k (by omega)
    obtain ⟨y, y1, y2⟩ := rank_both b k (by omega)
    obtain ⟨M, hM, _⟩ := max_eq x y
    generalize he : encT a = A at x1 x2
    generalize hf : encT b = B at y1 y2
    have hi : intD [.bool (decide (x = y))] = .ok (.int (if decide (x = y) = true then 1 else 0)) := rfl
    generalize (if decide (x = y) = true then (1 : Int) else 0) = r at hi
    refine ⟨M + r, fn_rt ?_, fn_rt ?_⟩
    · generalize gN_law_rank k = g at x1 y1
      simp [b_law_rank, startD, sq, encT, he, hf, wAL, ixT2, ixT3, x1, y1, hM, hi]
    · generalize gN_tree_rank k = g at x2 y2
      simp [b_tree_rank, startD, sq, encT, he, hf, wAL, ixT2, ixT3, x2, y2, hM, hi, parF]
end Law

set_option Elab.async false
set_option linter.all false
set_option maxRecDepth 100000
set_option maxHeartbeats 400000
namespace Law
open PySem PySem.Spec L2 DL Lin
def endI : Tr → List Int → Int
  | .leaf k, _ => k
  | .ask v a b, q => if v ∈ q then endI b q else endI a q
theorem law_end_ok (q : List Int) : ∀ (t : Tr) (k : Nat), dpT t < k → gN_law_end k [encT t, tI q] = .ok (.int (endI t q))
  | t, 0, h => by omega
  | .leaf i, k + 1, _ => fn_rt (by simp [b_law_end, startD, sq, encT, wLL, endI])
  | .ask v a b, k + 1, h => by
    have hd : max (dpT a) (dpT b) + 1 < k + 1 := h
    have x1 := law_end_ok q a k (by omega)
    have y1 := law_end_ok q b k (by omega)
    have hin : inD (.int v) (tI q) = .ok (.bool (decide (v ∈ q))) := ev_inT v q
    generalize he : encT a = A at x1
    generalize hf : encT b = B at y1
    refine fn_rt ?_
    generalize gN_law_end k = g at x1 y1 ⊢
    have e0 : startD 2 [encT (.ask v a b), tI q] = [some (.val (.tuple [.str "ask", .int v, A, B])), some (.val (tI q))] := by rw [← he, ← hf]; rfl
    rw [e0]
    generalize tI q = Q at x1 y1 hin ⊢
    by_cases hv : v ∈ q
    · rw [show endI (.ask v a b) q = endI b q from if_pos hv]
      rw [decide_eq_true hv] at hin
      generalize endI b q = r at y1 ⊢
      simp [b_law_end, sq, wAL, hin, ixT2, ixT3, y1]
    · rw [show endI (.ask v a b) q = endI a q from if_neg hv]
      rw [decide_eq_false hv] at hin
      generalize endI a q = r at x1 ⊢
      simp [b_law_end, sq, wAL, hin, ixT2, ixT3, x1]
theorem find_go (q : List Int) : ∀ (t : Tr) (k : Nat), dpT t < k → whileGo (tB2 eqD (b2 ixD (vr 0) (cI 0)) (cS "ask")) lp_find_leaf_1 k [some (.val (encT t)), some (.val (tI q))] = .ok (.nx [some (.val (.tuple [.str "leaf", .int (endI t q)])), some (.val (tI q))])
  | t, 0, h => by omega
  | .leaf i, k + 1, _ => wh_end (by simp [encT, wLA])
  | .ask v a b, k + 1, h => by
    have hd : max (dpT a) (dpT b) + 1 < k + 1 := h
    have x1 := find_go q a k (by omega)
    have y1 := find_go q b k (by omega)
    have hin : inD (.int v) (tI q) = .ok (.bool (decide (v ∈ q))) := ev_inT v q
    have fa := flat_T a
    have fb := flat_T b
    generalize he : encT a = A at x1 fa
    generalize hf : encT b = B at y1 fb
    have e0 : encT (.ask v a b) = .tuple [.str "ask", .int v, A, B] := by rw [← he, ← hf]; rfl
    rw [e0]
    generalize tI q = Q at x1 y1 hin ⊢
    by_cases hv : v ∈ q
    · rw [show endI (.ask v a b) q = endI b q from if_pos hv]
      rw [decide_eq_true hv] at hin
      rw [wh_go (δ2 := [some (.val B), some (.val Q)]) (by simp [wAA]) (by simp [lp_find_leaf_1, hin, ixT2, ixT3, fb])]
      exact y1
    · rw [show endI (.ask v a b) q = endI a q from if_neg hv]
      rw [decide_eq_false hv] at hin
      rw [wh_go (δ2 := [some (.val A), some (.val Q)]) (by simp [wAA]) (by simp [lp_find_leaf_1, hin, ixT2, ixT3, fa])]
      exact x1
theorem find_leaf_ok (q : List Int) (t : Tr) (h : dpT t < 1000) : g_find_leaf [encT t, tI q] = .ok (.int (endI t q)) := by
  have go := find_go q t 1000 h
  have e0 : startD 2 [encT t, tI q] = [some (.val (encT t)), some (.val (tI q))] := rfl
  refine fn_rt ?_
  rw [e0]
  have ew : ∀ δ : DSt, wipeD δ [] = δ := fun _ => rfl
  have go : whF fuel_find_leaf_0 (tB2 eqD (b2 ixD (vr 0) (cI 0)) (cS "ask")) lp_find_leaf_1 [some (.val (encT t)), some (.val (tI q))] = .ok (.nx [some (.val (.tuple [.str "leaf", .int (endI t q)])), some (.val (tI q))]) := go
  generalize encT t = T at go ⊢
  generalize tI q = Q at go ⊢
  generalize endI t q = r at go ⊢
  simp [b_find_leaf, sq, go, kx_find_leaf_1]
theorem rt_end {n : Int} {N : Nat} {cs : List (List Int)} {q : List Int} (hN : n = N) (hq : Full N q) : ∀ (t : Tr) (p : List Int), Rt n cs t p → (∀ l ∈ p, l ∈ q) → ∃ i : Nat, endI t q = i ∧ ∃ hi : i < cs.length, failB q cs[i] = true
  | .leaf k, p, ⟨i, e, c, hc, hf⟩, hp => by
    obtain ⟨hi, e2⟩ := List.getElem?_eq_some_iff.mp hc
    refine ⟨i, e, hi, ?_⟩
    unfold failB
    rw [List.all_eq_true, e2]
    exact fun l hl => decide_eq_true (hp _ (hf l hl))
  | .ask v a b, p, ⟨hv, ra, rb⟩, hp => by
    have put : ∀ x : Int, x ∈ q → ∀ l ∈ sI (p ++ [x]), l ∈ q := fun x hx l hl => by
      rcases List.mem_append.mp (sI_mem.mp hl) with h | h
      · exact hp l h
      · rw [List.mem_singleton.mp h]; exact hx
    by_cases h : v ∈ q
    · rw [show endI (.ask v a b) q = endI b q from if_pos h]
      exact rt_end hN hq b _ rb (put v h)
    · rw [show endI (.ask v a b) q = endI a q from if_neg h]
      exact rt_end hN hq a _ ra (put (-v) ((hq.all v (by omega) (by omega)).resolve_left h))
end Law

set_option Elab.async false
set_option linter.all false
set_option maxRecDepth 100000
set_option maxHeartbeats 400000
namespace Law
open PySem PySem.Spec L2 DL Lin
/-! ### drawn values of any kind -/
def atomB : D → Bool
  | .none => true
  | .bool _ => true
  | .int _ => true
  | .str s => s == "x" || s == "leaf" || s == "ask"
  | _ => false
def NV (L : Nat) : Nat → D → Prop
  | 0, d => atomB d = true
  | k + 1, d => atomB d = true ∨ ∃ ds, (d = .tuple ds ∨ d = .list ds) ∧ ds.length ≤ L ∧ ∀ x ∈ ds, NV L k x
theorem nv_up {L L' : Nat} (hL : L ≤ L') : ∀ {k k' : Nat} {d : D}, k ≤ k' → NV L k d → NV L' k' d
  | 0, 0, d, _, h => h
  | 0, k' + 1, d, _, h => .inl h
  | k + 1, 0, d, hk, _ => by omega
  | k + 1, k' + 1, d, hk, .inl h => .inl h
  | k + 1, k' + 1, d, hk, .inr ⟨ds, e, hl, hx⟩ => .inr ⟨ds, e, by omega, fun x hm => nv_up hL (by omega) (hx x hm)⟩
theorem lay_all : ∀ ds : List D, (∀ x ∈ ds, x.canLay0 = true) → PyData.canLayAll0 ds = true
  | [], _ => rfl
  | d :: ds, h => by
    rw [PyData.canLayAll0, h d List.mem_cons_self, lay_all ds fun x hx => h x (List.mem_cons_of_mem _ hx)]; rfl
theorem dep_all {n : Nat} : ∀ ds : List D, (∀ x ∈ ds, x.depth ≤ n) → PyData.depthAll ds ≤ n
  | [], _ => Nat.zero_le _
  | d :: ds, h => by
    have h1 := h d List.mem_cons_self
    have h2 := dep_all ds fun x hx => h x (List.mem_cons_of_mem _ hx)
    rw [PyData.depthAll]
    omega
theorem atom_lay {d : D} (h : atomB d = true) : d.canLay0 = true ∧ d.depth ≤ 0 := by
  cases d with
  | str s =>
    have h : (s == "x" || s == "leaf" || s == "ask") = true := h
    rw [Bool.or_eq_true, Bool.or_eq_true] at h
    rcases h with (h | h) | h
    · rw [eq_of_beq h]; exact ⟨by decide +kernel, by decide +kernel⟩
    · rw [eq_of_beq h]; exact ⟨by decide +kernel, by decide +kernel⟩
    · rw [eq_of_beq h]; exact ⟨by decide +kernel, by decide +kernel⟩
  | none => exact ⟨rfl, Nat.le_refl _⟩
  | bool b => exact ⟨rfl, Nat.le_refl _⟩
  | int b => exact ⟨rfl, Nat.le_refl _⟩
  | _ => cases h
theorem nv_lay {L : Nat} : ∀ {k : Nat} {d : D}, NV L k d → d.canLay0 = true ∧ d.depth ≤ k
  | 0, d, h => atom_lay h
  | k + 1, d, .inl h => ⟨(atom_lay h).1, Nat.le_trans (atom_lay h).2 (Nat.zero_le _)⟩
  | k + 1, d, .inr ⟨ds, e, hl, hx⟩ => by
    have h1 := lay_all ds fun x hm => (nv_lay (hx x hm)).1
    have h2 := dep_all ds fun x hm => (nv_lay (hx x hm)).2
    rcases e with rfl | rfl
    · exact ⟨by rw [PyData.canLay0]; exact h1, by rw [PyData.depth]; omega⟩
    · exact ⟨by rw [PyData.canLay0]; exact h1, by rw [PyData.depth]; omega⟩
theorem nv_shaped {L k : Nat} {d : D} (h : NV L k d) (hk : k ≤ 64) : SeqAt.shaped d = true := by
  obtain ⟨h1, h2⟩ := nv_lay h
  unfold SeqAt.shaped
  rw [h1, decide_eq_true (show d.depth ≤ 64 by omega)]; rfl
theorem nv_np {L k : Nat} {d : D} (h : NV L k d) : isPool d = false := by
  cases d with
  | dict x =>
    cases k with
    | zero => cases h
    | succ k =>
      rcases h with h | ⟨ds, e, _⟩
      · cases h
      · rcases e with e | e <;> cases e
  | _ => rfl
theorem eq_word {x : D} {w : Str} (hx : SeqAt.shaped x = true) (hw : SeqAt.shaped (.str w) = true) : eqD x (.str w) = .ok (.bool (PyData.eqv x (.str w))) := by
  unfold eqD
  rw [hx, hw]; rfl
theorem ne_word {x : D} {w : Str} (hx : SeqAt.shaped x = true) (hw : SeqAt.shaped (.str w) = true) : neD x (.str w) = .ok (.bool (!PyData.eqv x (.str w))) := by
  unfold neD
  rw [hx, hw]; rfl
theorem is_integer_gen (d : D) (np : isPool d = false) : g_is_integer [d] = .ok (.bool (isIntB d)) := by
  refine fn_rt ?_
  have h := isi_int d np
  have e0 : startD 1 [d] = [some (.val d)] := rfl
  rw [e0]
  cases d with
  | bool b => simp [b_is_integer, h, isIntB, isBoolB]
  | int i => simp [b_is_integer, isIntB]
  | _ => simp [b_is_integer, h, isIntB, isBoolB]
theorem law_is_integer_gen (d : D) (np : isPool d = false) : g_law_is_integer [d] = .ok (.bool (isIntB d)) := by
  refine fn_rt ?_
  have h := isi_int d np
  have e0 : startD 1 [d] = [some (.val d)] := rfl
  rw [e0]
  cases d with
  | bool b => simp [b_law_is_integer, h, isIntB, isBoolB]
  | int i => simp [b_law_is_integer, isIntB]
  | _ => simp [b_law_is_integer, h, isIntB, isBoolB]
def numB : D → Bool
  | .int i => decide (0 ≤ i)
  | _ => false
theorem is_number_gen (d : D) (np : isPool d = false) : g_is_number [d] = .ok (.bool (numB d)) := by
  have h := is_integer_gen d np
  refine fn_rt ?_
  have e0 : startD 1 [d] = [some (.val d)] := rfl
  rw [e0]
  cases d with
  | int i => simp [b_is_number, h, isIntB, numB]
  | _ => simp [b_is_number, h, isIntB, numB]
theorem falsifies_ok (q c : List Int) (hc : c.length ≤ 1000) : g_falsifies [tI q, tI c] = .ok (.bool (failB q c)) := by
  have hz := h1000
  have lc := lcF_all (δ := [some (.val (tI q)), some (.val (tI c)), none]) (vs := [2]) (p := .nm 2) (gs := u1LE seqD (vr 1)) (fe := b2 inD (u1 negD (vr 2)) (vr 0)) PyData.int (fun l => PyData.bool (decide (-l ∈ q))) (l := c) (by simp) (by omega) (by
    intro v hv
    exact ⟨_, rfl, by simp⟩)
  have a1 := all_map (fun l => decide (-l ∈ q)) c
  have e0 : startD 3 [tI q, tI c] = [some (.val (tI q)), some (.val (tI c)), none] := rfl
  refine fn_rt ?_
  rw [e0]
  show _ = Res.ok (Out.rt (.bool (c.all fun l => decide (-l ∈ q))))
  generalize (c.all fun l => decide (-l ∈ q)) = b at a1 ⊢
  generalize (c.map fun l => PyData.bool (decide (-l ∈ q))) = B at lc a1
  simp [b_falsifies, lc, a1]
theorem with_literal_ok (q : List Int) (l : Int) (h : q.length ≤ 1000) : g_with_literal [tI q, .int l] = .ok (tI (sI (q ++ [l]))) := by
  have hz := h1000
  have hs := ev_sorted3L (q ++ [l])
  have hl : lstD (iL q ++ [.int l]) = .ok (iL (q ++ [l])) := by rw [lstD_ok (by simp; omega)]; simp
  have e0 : startD 2 [tI q, .int l] = [some (.val (.tuple (iL q))), some (.val (.int l))] := rfl
  refine fn_rt ?_
  rw [e0]
  show _ = Res.ok (Out.rt (.tuple (iL (sI (q ++ [l])))))
  generalize iL (sI (q ++ [l])) = R at hs ⊢
  generalize iL (q ++ [l]) = A at hl hs
  generalize iL q = Q at hl ⊢
  simp [b_with_literal, stF, hl, hs]
/-! ### is it a tree -/
def stepB (N : Nat) (cs : List (List Int)) (rec : D → List Int → Bool) (v : D) (q : List Int) : Bool := match v with
  | .tuple [x, .int i] => decide (0 ≤ i) && (PyData.eqv x (.str "leaf") && (decide (i < cs.length) && failB q (cs.getD i.toNat [])))
  | .tuple [x, .int i, a, b] => decide (0 ≤ i) && (PyData.eqv x (.str "ask") && (decide (i ∈ frL N q) && (rec a (sI (q ++ [-i])) && rec b (sI (q ++ [i])))))
  | _ => false
def treeB (N : Nat) (cs : List (List Int)) : Nat → D → List Int → Bool
  | 0 => stepB N cs fun _ _ => false
  | d + 1 => stepB N cs (treeB N cs d)
end Law

set_option Elab.async false
set_option linter.all false
set_option maxRecDepth 100000
set_option maxHeartbeats 400000
namespace Law
open PySem PySem.Spec L2 DL Lin
theorem ifs_ret {c : DSt → Res Bool} {b : Bool} {k : DSt → Res Out} {δ : DSt} {f : DSt → Res D} {d : D} (h : c δ = .ok true) (hf : f δ = .ok d) : seqF (ifS c (sRt f) sNil) k δ = .ok (.rt d) := by
  rw [sq, ev_ifS, h, ifK_t, ev_sRt, hf]; rfl
section
variable (n : Int) (N : Nat) (hN : n = N) (cs : List (List Int)) (hl : cs.length ≤ 1000) (hc : ∀ c ∈ cs, c.length ≤ 1000) (rec : D → List Int → Bool) (q : List Int)
abbrev bE (F v Q : D) : DSt := [some (.val F), some (.val v), some (.val Q), none, none, none, none]
theorem below_no (g : List D → Res D) (F v Q : D) (h : isTupB v = false) (np : isPool v = false) : fnD 7 (b_is_tree_below g) [F, v, Q] = .ok (.bool false) := by
  have ht := isi_tup v np
  rw [h] at ht
  refine fn_rt ?_
  have e0 : startD 7 [F, v, Q] = bE F v Q := rfl
  rw [e0]
  unfold b_is_tree_below
  exact if_ret (tOr_t (by simp [ht]))
theorem below_short (g : List D → Res D) (F Q : D) (ds : List D) (L : Int) (hln : lenD [.tuple ds] = .ok (.int L)) (h : L < 2) : fnD 7 (b_is_tree_below g) [F, .tuple ds, Q] = .ok (.bool false) := by
  refine fn_rt ?_
  have e0 : startD 7 [F, .tuple ds, Q] = bE F (.tuple ds) Q := rfl
  rw [e0]
  unfold b_is_tree_below
  exact if_ret (tOr_f (by simp) (tOr_t (by simp [hln, h])))
theorem below_num (g : List D → Res D) (F Q y : D) (ds : List D) (L : Int) (hln : lenD [.tuple ds] = .ok (.int L)) (h : ¬ L < 2) (hx : ixD (.tuple ds) (.int 1) = .ok y) (hy : g_is_number [y] = .ok (.bool false)) : fnD 7 (b_is_tree_below g) [F, .tuple ds, Q] = .ok (.bool false) := by
  refine fn_rt ?_
  have e0 : startD 7 [F, .tuple ds, Q] = bE F (.tuple ds) Q := rfl
  rw [e0]
  unfold b_is_tree_below
  exact if_ret (tOr_f (by simp) (tOr_f (by simp [hln, h]) (by simp [hx, hy])))
/-- two members: a leaf -/
theorem below_two (g : List D → Res D) (F CS Q x C : D) (i m : Int) (w w2 b : Bool) (hn : g_is_number [.int i] = .ok (.bool true)) (hw : eqD x (.str "leaf") = .ok (.bool w)) (hw2 : neD x (.str "ask") = .ok (.bool w2)) (hF : ixD F (.int 1) = .ok CS) (hm : lenD [CS] = .ok (.int m)) (hC : i < m → ixD CS (.int i) = .ok C) (hf : g_falsifies [Q, C] = .ok (.bool b)) : fnD 7 (b_is_tree_below g) [F, .tuple [x, .int i], Q] = .ok (.bool (w && (decide (i < m) && b))) := by
  have x0 : ixD (.tuple [x, .int i]) (.int 0) = .ok x := ix_T0 _ _
  have x1 : ixD (.tuple [x, .int i]) (.int 1) = .ok (.int i) := ix_T1 _ _ _
  have hln : lenD [.tuple [x, .int i]] = .ok (.int 2) := by simp
  refine fn_rt ?_
  have e0 : startD 7 [F, .tuple [x, .int i], Q] = bE F (.tuple [x, .int i]) Q := rfl
  have it : isiD "tuple" (.tuple [x, .int i]) = .ok (.bool true) := isi_of kb_tt
  rw [e0]
  generalize PyData.tuple [x, .int i] = V at x0 x1 hln it ⊢
  cases w with
  | true =>
    by_cases h : i < m
    · have hC := hC h
      simp [b_is_tree_below, sq, it, hln, x0, x1, hn, hw, hF, hm, h, hC, hf]
    · simp [b_is_tree_below, sq, it, hln, x0, x1, hn, hw, hF, hm, h]
  | false =>
    cases w2 <;> simp [b_is_tree_below, sq, it, hln, x0, x1, hn, hw, hw2]
/-- neither two nor four -/
theorem below_odd (g : List D → Res D) (F Q x : D) (i L : Int) (ds : List D) (w w2 : Bool) (hln : lenD [.tuple ds] = .ok (.int L)) (h2 : ¬ L < 2) (h3 : L ≠ 2) (h4 : L ≠ 4) (x0 : ixD (.tuple ds) (.int 0) = .ok x) (x1 : ixD (.tuple ds) (.int 1) = .ok (.int i)) (hn : g_is_number [.int i] = .ok (.bool true)) (hw : eqD x (.str "leaf") = .ok (.bool w)) (hw2 : neD x (.str "ask") = .ok (.bool w2)) : fnD 7 (b_is_tree_below g) [F, .tuple ds, Q] = .ok (.bool false) := by
  refine fn_rt ?_
  have e0 : startD 7 [F, .tuple ds, Q] = bE F (.tuple ds) Q := rfl
  have it : isiD "tuple" (.tuple ds) = .ok (.bool true) := isi_of kb_tt
  rw [e0]
  generalize PyData.tuple ds = V at x0 x1 hln it ⊢
  cases w <;> cases w2 <;> simp [b_is_tree_below, sq, it, hln, h2, h3, h4, x0, x1, hn, hw, hw2]
/-- four -/
theorem below_four (g : List D → Res D) (F q1 q2 x a b : D) (n i : Int) (qs : List Int) (w w2 ra rb : Bool) (fab : flat x = true → True) (hn : g_is_number [.int i] = .ok (.bool true)) (i0 : 0 ≤ i) (hF : ixD F (.int 0) = .ok (.int n)) (hw : eqD x (.str "leaf") = .ok (.bool w)) (hw2 : neD x (.str "ask") = .ok (.bool (!w2)))
    (p1 : g_with_literal [tI qs, .int (-i)] = .ok q1) (p2 : g_with_literal [tI qs, .int i] = .ok q2) (ha : (decide (1 ≤ i ∧ i ≤ n) && (!decide (i ∈ qs) && !decide (-i ∈ qs))) = true → g [F, a, q1] = .ok (.bool ra)) (hb : (decide (1 ≤ i ∧ i ≤ n) && (!decide (i ∈ qs) && !decide (-i ∈ qs))) = true → g [F, b, q2] = .ok (.bool rb)) :
    fnD 7 (b_is_tree_below g) [F, .tuple [x, .int i, a, b], tI qs] = .ok (.bool (w2 && ((decide (1 ≤ i ∧ i ≤ n) && (!decide (i ∈ qs) && !decide (-i ∈ qs))) && (ra && rb)))) := by
  have x0 : ixD (.tuple [x, .int i, a, b]) (.int 0) = .ok x := ix_T0 _ _
  have x1 : ixD (.tuple [x, .int i, a, b]) (.int 1) = .ok (.int i) := ix_T1 _ _ _
  have hln : lenD [.tuple [x, .int i, a, b]] = .ok (.int 4) := by simp
  refine fn_rt ?_
  have e0 : startD 7 [F, .tuple [x, .int i, a, b], tI qs] = bE F (.tuple [x, .int i, a, b]) (tI qs) := rfl
  have it : isiD "tuple" (.tuple [x, .int i, a, b]) = .ok (.bool true) := isi_of kb_tt
  have hb4 : nE (bindP (.tp [3, 4, 5, 6]) (.tuple [x, .int i, a, b]) (bE F (.tuple [x, .int i, a, b]) (tI qs))) = .ok [some (.val F), some (.val (.tuple [x, .int i, a, b])), some (.val (tI qs)), some (.val x), some (.val (.int i)), some (.val a), some (.val b)] := rfl
  have as4 : asgF [1] (vr 1) (.tp [3, 4, 5, 6]) (bE F (.tuple [x, .int i, a, b]) (tI qs)) = .ok (.nx [some (.val F), some (.val (.tuple [x, .int i, a, b])), some (.val (tI qs)), some (.val x), some (.val (.int i)), some (.val a), some (.val b)]) := asgF_v rfl rfl hb4
  have j1 : inD (.int i) (tI qs) = .ok (.bool (decide (i ∈ qs))) := ev_inT i qs
  have j2 : inD (.int (-i)) (tI qs) = .ok (.bool (decide (-i ∈ qs))) := ev_inT (-i) qs
  rw [e0]
  generalize PyData.tuple [x, .int i, a, b] = V at x0 x1 hln it as4 ⊢
  generalize tI qs = Q at j1 j2 p1 p2 as4 ⊢
  unfold b_is_tree_below
  rw [sq, ev_ifS, show (tOr' (tNt (tTr (u1 (isiD "tuple") (vr 1)))) (tOr' (tB2 ltD (u1A lenD (aCons (vr 1) (aNil))) (cI 2)) (tNt (tTr (callF g_is_number (aCons (b2 ixD (vr 1) (cI 1)) (aNil))))))) (bE F V Q) = .ok false by simp [it, hln, x1, hn], ifK_f, ev_sNil, seqK_nx]
  rw [sq, ev_ifS, show (tAnd' (tB2 eqD (b2 ixD (vr 1) (cI 0)) (cS "leaf")) (tB2 eqD (u1A lenD (aCons (vr 1) (aNil))) (cI 2))) (bE F V Q) = .ok false by cases w <;> simp [hln, x0, hw], ifK_f, ev_sNil, seqK_nx]
  cases w2 with
  | false => rw [if_ret (tOr_t (by simp [x0, hw2]))]; rfl
  | true =>
    rw [if_go (tOr_f (by simp [x0, hw2]) (by simp [hln])) rfl, sq, as4, seqK_nx, Bool.true_and]
    generalize hd1 : decide (i ∈ qs) = d1 at j1 ha hb ⊢
    generalize hd2 : decide (-i ∈ qs) = d2 at j2 ha hb ⊢
    by_cases c1 : i = 0
    · rw [if_ret (tOr_t (by simp [c1]))]
      have : ¬ (1 ≤ i ∧ i ≤ n) := by omega
      rw [decide_eq_false this]; rfl
    · by_cases c2 : n < i
      · rw [if_ret (tOr_f (by simp [c1]) (tOr_t (by simp [hF, c2])))]
        have : ¬ (1 ≤ i ∧ i ≤ n) := by omega
        rw [decide_eq_false this]; rfl
      · have : (1 ≤ i ∧ i ≤ n) := by omega
        rw [decide_eq_true this] at ha hb ⊢
        cases d1 with
        | true => rw [if_ret (tOr_f (by simp [c1]) (tOr_f (by simp [hF, c2]) (tOr_t (by simp [j1]))))]; rfl
        | false =>
          cases d2 with
          | true => rw [if_ret (tOr_f (by simp [c1]) (tOr_f (by simp [hF, c2]) (tOr_f (by simp [j1]) (by simp [j2]))))]; rfl
          | false =>
            have ha := ha rfl
            have hb := hb rfl
            rw [if_go (tOr_f (by simp [c1]) (tOr_f (by simp [hF, c2]) (tOr_f (by simp [j1]) (by simp [j2])))) rfl]
            cases ra with
            | false => rw [if_ret (by simp [p1, ha])]; rfl
            | true =>
              rw [if_go (by simp [p1, ha]) rfl]
              simp [p2, hb]
end
end Law

set_option Elab.async false
set_option linter.all false
set_option maxRecDepth 100000
set_option maxHeartbeats 400000
namespace Law
open PySem PySem.Spec L2 DL Lin
/-! ### a value bent -/
theorem cut_lo (xs : List D) (i : Int) (k : Nat) (hi : i = k) (hk : k ≤ xs.length) : cutD xs none (some i) = xs.take k := by
  unfold cutD
  rw [show HT.sIx xs.length 0 none = 0 from rfl, hi, HT.sIx_nat, Nat.min_eq_left hk]
  simp
theorem cut_hi (xs : List D) (i : Int) (k : Nat) (hi : i = k) (hk : k ≤ xs.length) : cutD xs (some i) none = xs.drop k := by
  unfold cutD
  rw [show HT.sIx xs.length xs.length none = xs.length from rfl, hi, HT.sIx_nat, Nat.min_eq_left hk]
  exact List.take_of_length_le (by simp)
theorem sl_lo (xs : List D) (i : Int) (k : Nat) (hi : i = k) (hk : k ≤ xs.length) : sliceD (.tuple xs) none (some i) = .ok (.tuple (xs.take k)) := by
  show Res.ok (PyData.tuple (cutD xs none (some i))) = _
  rw [cut_lo xs i k hi hk]
theorem sl_hi (xs : List D) (i : Int) (k : Nat) (hi : i = k) (hk : k ≤ xs.length) : sliceD (.tuple xs) (some i) none = .ok (.tuple (xs.drop k)) := by
  show Res.ok (PyData.tuple (cutD xs (some i) none)) = _
  rw [cut_hi xs i k hi hk]
theorem nv_tup {L k : Nat} {ds : List D} (h1 : ds.length ≤ L) (h2 : ∀ x ∈ ds, NV L k x) : NV L (k + 1) (.tuple ds) := .inr ⟨ds, .inl rfl, h1, h2⟩
theorem nv_lst {L k : Nat} {ds : List D} (h1 : ds.length ≤ L) (h2 : ∀ x ∈ ds, NV L k x) : NV L (k + 1) (.list ds) := .inr ⟨ds, .inr rfl, h1, h2⟩
theorem nv_inv {L k : Nat} {ds : List D} (h : NV L k (.tuple ds)) : ds.length ≤ L ∧ ∃ j, j + 1 = k ∧ ∀ x ∈ ds, NV L j x := by
  cases k with
  | zero => cases h
  | succ k =>
    rcases h with h | ⟨es, h1, h2, h3⟩
    · cases h
    · rcases h1 with h1 | h1
      · cases h1; exact ⟨h2, k, rfl, h3⟩
      · cases h1
theorem nv_atom {L k : Nat} {d : D} (h : atomB d = true) : NV L k d := by
  cases k with
  | zero => exact h
  | succ k => exact .inl h
end Law

set_option Elab.async false
set_option linter.all false
set_option maxRecDepth 100000
set_option maxHeartbeats 400000
namespace Law
open PySem PySem.Spec L2 DL Lin
abbrev lE (F v Q : D) : DSt := [some (.val F), some (.val v), some (.val Q), none]
theorem lis_no (g : List D → Res D) (F v Q : D) (h : isTupB v = false) (np : isPool v = false) : fnD 4 (b_law_is_tree g) [F, v, Q] = .ok (.bool false) := by
  have ht := isi_tup v np
  rw [h] at ht
  refine fn_rt ?_
  have e0 : startD 4 [F, v, Q] = lE F v Q := rfl
  rw [e0]
  unfold b_law_is_tree
  exact if_ret (tOr_t (by simp [ht]))
theorem lis_short (g : List D → Res D) (F Q : D) (ds : List D) (L : Int) (hln : lenD [.tuple ds] = .ok (.int L)) (h : L < 2) : fnD 4 (b_law_is_tree g) [F, .tuple ds, Q] = .ok (.bool false) := by
  refine fn_rt ?_
  have e0 : startD 4 [F, .tuple ds, Q] = lE F (.tuple ds) Q := rfl
  rw [e0]
  unfold b_law_is_tree
  exact if_ret (tOr_f (by simp) (tOr_t (by simp [hln, h])))
theorem lis_num (g : List D → Res D) (F Q y : D) (ds : List D) (L : Int) (hln : lenD [.tuple ds] = .ok (.int L)) (h : ¬ L < 2) (hx : ixD (.tuple ds) (.int 1) = .ok y) (hy : g_law_is_integer [y] = .ok (.bool false)) : fnD 4 (b_law_is_tree g) [F, .tuple ds, Q] = .ok (.bool false) := by
  refine fn_rt ?_
  have e0 : startD 4 [F, .tuple ds, Q] = lE F (.tuple ds) Q := rfl
  rw [e0]
  unfold b_law_is_tree
  exact if_ret (tOr_f (by simp) (tOr_f (by simp [hln, h]) (by simp [hx, hy])))
theorem lis_two (g : List D → Res D) (F CS Q x C : D) (i m : Int) (w b : Bool) (hn : g_law_is_integer [.int i] = .ok (.bool true)) (hw : eqD x (.str "leaf") = .ok (.bool w)) (hF : ixD F (.int 1) = .ok CS) (hm : lenD [CS] = .ok (.int m)) (hC : 0 ≤ i → i < m → ixD CS (.int i) = .ok C) (hf : g_law_fails [Q, C] = .ok (.bool b)) : fnD 4 (b_law_is_tree g) [F, .tuple [x, .int i], Q] = .ok (.bool (decide (0 ≤ i) && (w && (decide (i < m) && b)))) := by
  have x0 : ixD (.tuple [x, .int i]) (.int 0) = .ok x := ix_T0 _ _
  have x1 : ixD (.tuple [x, .int i]) (.int 1) = .ok (.int i) := ix_T1 _ _ _
  have hln : lenD [.tuple [x, .int i]] = .ok (.int 2) := by simp
  refine fn_rt ?_
  have e0 : startD 4 [F, .tuple [x, .int i], Q] = lE F (.tuple [x, .int i]) Q := rfl
  have it : isiD "tuple" (.tuple [x, .int i]) = .ok (.bool true) := isi_of kb_tt
  rw [e0]
  generalize PyData.tuple [x, .int i] = V at x0 x1 hln it ⊢
  cases w with
  | true =>
    by_cases h0 : 0 ≤ i
    · by_cases h : i < m
      · have hC := hC h0 h
        simp [b_law_is_tree, sq, it, hln, x0, x1, hn, hw, hF, hm, h0, h, hC, hf, chF]
      · simp [b_law_is_tree, sq, it, hln, x0, x1, hn, hw, hF, hm, h0, h, chF]
    · simp [b_law_is_tree, sq, it, hln, x0, x1, hn, hw, hF, hm, h0, chF]
  | false => simp [b_law_is_tree, sq, it, hln, x0, x1, hn, hw]
theorem lis_odd (g : List D → Res D) (F Q x : D) (i L : Int) (ds : List D) (w : Bool) (hln : lenD [.tuple ds] = .ok (.int L)) (h2 : ¬ L < 2) (h3 : L ≠ 2) (h4 : L ≠ 4) (x0 : ixD (.tuple ds) (.int 0) = .ok x) (x1 : ixD (.tuple ds) (.int 1) = .ok (.int i)) (hn : g_law_is_integer [.int i] = .ok (.bool true)) : fnD 4 (b_law_is_tree g) [F, .tuple ds, Q] = .ok (.bool false) := by
  refine fn_rt ?_
  have e0 : startD 4 [F, .tuple ds, Q] = lE F (.tuple ds) Q := rfl
  have it : isiD "tuple" (.tuple ds) = .ok (.bool true) := isi_of kb_tt
  rw [e0]
  generalize PyData.tuple ds = V at x0 x1 hln it ⊢
  simp [b_law_is_tree, sq, it, hln, h2, h3, h4, x0, x1, hn]
theorem lis_four (g : List D → Res D) (F q1 q2 x a b : D) (i : Int) (qs fr : List Int) (w2 ra rb : Bool) (hn : g_law_is_integer [.int i] = .ok (.bool true)) (hw2 : neD x (.str "ask") = .ok (.bool (!w2))) (hfr : g_law_free [F, tI qs] = .ok (.list (iL fr)))
    (p1 : g_law_with [tI qs, .int (-i)] = .ok q1) (p2 : g_law_with [tI qs, .int i] = .ok q2) (ha : i ∈ fr → g [F, a, q1] = .ok (.bool ra)) (hb : i ∈ fr → g [F, b, q2] = .ok (.bool rb)) :
    fnD 4 (b_law_is_tree g) [F, .tuple [x, .int i, a, b], tI qs] = .ok (.bool (w2 && (decide (i ∈ fr) && (ra && rb)))) := by
  have x0 : ixD (.tuple [x, .int i, a, b]) (.int 0) = .ok x := ix_T0 _ _
  have x1 : ixD (.tuple [x, .int i, a, b]) (.int 1) = .ok (.int i) := ix_T1 _ _ _
  have x2 : ixD (.tuple [x, .int i, a, b]) (.int 2) = .ok a := ixT2 _ _ _ _
  have x3 : ixD (.tuple [x, .int i, a, b]) (.int 3) = .ok b := ixT3 _ _ _ _
  have hln : lenD [.tuple [x, .int i, a, b]] = .ok (.int 4) := by simp
  have hin : ninD (.int i) (.list (iL fr)) = .ok (.bool (!decide (i ∈ fr))) := ev_ninL i fr
  refine fn_rt ?_
  have e0 : startD 4 [F, .tuple [x, .int i, a, b], tI qs] = lE F (.tuple [x, .int i, a, b]) (tI qs) := rfl
  have it : isiD "tuple" (.tuple [x, .int i, a, b]) = .ok (.bool true) := isi_of kb_tt
  rw [e0]
  generalize PyData.tuple [x, .int i, a, b] = V at x0 x1 x2 x3 hln it ⊢
  generalize tI qs = Q at hfr p1 p2 ⊢
  generalize PyData.list (iL fr) = FR at hfr hin
  cases w2 with
  | false => simp [b_law_is_tree, sq, it, hln, x0, x1, hn, hw2]
  | true =>
    by_cases h : i ∈ fr
    · have ha := ha h
      have hb := hb h
      cases ra <;> simp [b_law_is_tree, sq, it, hln, x0, x1, x2, x3, hn, hw2, hfr, hin, h, p1, p2, ha, hb]
    · simp [b_law_is_tree, sq, it, hln, x0, x1, hn, hw2, hfr, hin, h]
/-! both at once -/
theorem len_t (ds : List D) : lenD [.tuple ds] = .ok (.int (ds.length : Int)) := rfl
theorem ix_nv {ds : List D} {k : Nat} {x : Int} (hx : x = k) (hk : k < ds.length) : ixD (.tuple ds) (.int x) = .ok (ds[k]'hk) := by
  subst hx
  exact ix_T (List.getElem?_eq_getElem hk)
theorem fr_dec (n : Int) (N : Nat) (hN : n = N) (q : List Int) (i : Int) : (decide (1 ≤ i ∧ i ≤ n) && (!decide (i ∈ q) && !decide (-i ∈ q))) = decide (i ∈ frL N q) := by
  rw [Bool.eq_iff_iff, decide_eq_true_eq, fr_mem]
  simp only [Bool.and_eq_true, decide_eq_true_eq, Bool.not_eq_true', decide_eq_false_iff_not]
  rw [hN]
structure BothOk (F v Q : D) (g g' : List D → Res D) (b : Bool) : Prop where
  l : fnD 7 (b_is_tree_below g) [F, v, Q] = .ok (.bool b)
  r : fnD 4 (b_law_is_tree g') [F, v, Q] = .ok (.bool b)
theorem int_num (i : Int) : g_is_number [.int i] = .ok (.bool (decide (0 ≤ i))) := is_number_gen (.int i) rfl
theorem int_int (i : Int) : g_law_is_integer [.int i] = .ok (.bool true) := law_is_integer_gen (.int i) rfl
section
variable {n : Int} {N : Nat} (hN : n = N) (hn : N ≤ 6) {cs : List (List Int)} (hl : cs.length ≤ 1000) (hc : ∀ c ∈ cs, c.length ≤ 1000) {rec : D → List Int → Bool} {q : List Int} (hq : q.length ≤ 900) {g g' : List D → Res D}
theorem getD_len {cs : List (List Int)} (hc : ∀ c ∈ cs, c.length ≤ 1000) (k : Nat) : (cs.getD k []).length ≤ 1000 := by
  by_cases h : k < cs.length
  · rw [List.getD_eq_getElem?_getD, List.getElem?_eq_getElem h]
    exact hc _ (List.getElem_mem h)
  · rw [List.getD_eq_getElem?_getD, List.getElem?_eq_none (by omega)]
    exact Nat.zero_le _
theorem both_num {x y : D} {r : List D} {Q : D} (hy : isIntB y = false) (np : isPool y = false) : BothOk (encF n cs) (.tuple (x :: y :: r)) Q g g' false := by
  have hl2 : ¬ (((x :: y :: r).length : Int)) < 2 := by simp; omega
  have li := law_is_integer_gen y np
  rw [hy] at li
  have ni := is_number_gen y np
  have hnb : numB y = false := by cases y <;> first | rfl | cases hy
  rw [hnb] at ni
  exact ⟨below_num g _ _ y _ _ (len_t _) hl2 (ix_T1 _ _ _) ni, lis_num g' _ _ y _ _ (len_t _) hl2 (ix_T1 _ _ _) li⟩
include hc in
theorem both_two (x : D) (i : Int) (hx : SeqAt.shaped x = true) : BothOk (encF n cs) (.tuple [x, .int i]) (tI q) g g' (decide (0 ≤ i) && (PyData.eqv x (.str "leaf") && (decide (i < cs.length) && failB q (cs.getD i.toNat [])))) := by
  have w1 := eq_word hx shL
  have w2 := ne_word hx shA
  have ni := int_num i
  have hF1 : ixD (encF n cs) (.int 1) = .ok (.tuple (cs.map tI)) := ix_T1 _ _ _
  have hm : lenD [.tuple (cs.map tI)] = .ok (.int (cs.length : Int)) := by simp
  have hC : 0 ≤ i → i < (cs.length : Int) → ixD (.tuple (cs.map tI)) (.int i) = .ok (tI (cs.getD i.toNat [])) := fun h0 h => ix_getD i (by omega) (by omega)
  have hcl := getD_len hc i.toNat
  have z2 := lis_two g' (encF n cs) (.tuple (cs.map tI)) (tI q) x _ i (cs.length : Int) _ _ (int_int i) w1 hF1 hm hC (fails_ok q _ hcl)
  refine ⟨?_, z2⟩
  by_cases hi : 0 ≤ i
  · rw [decide_eq_true hi] at ni
    rw [decide_eq_true hi, Bool.true_and]
    exact below_two g (encF n cs) (.tuple (cs.map tI)) (tI q) x _ i (cs.length : Int) _ _ _ ni w1 w2 hF1 hm (hC hi) (falsifies_ok q _ hcl)
  · rw [decide_eq_false hi] at ni
    rw [decide_eq_false hi, Bool.false_and]
    exact below_num g (encF n cs) (tI q) (.int i) [x, .int i] 2 rfl (by decide) (ix_T1 _ _ _) ni
include hN hn hq in
theorem both_four (x a b : D) (i : Int) (hx : SeqAt.shaped x = true) (ra rb : Bool) (ha : i ∈ frL N q → g [encF n cs, a, tI (sI (q ++ [-i]))] = .ok (.bool ra) ∧ g' [encF n cs, a, tI (sI (q ++ [-i]))] = .ok (.bool ra)) (hb : i ∈ frL N q → g [encF n cs, b, tI (sI (q ++ [i]))] = .ok (.bool rb) ∧ g' [encF n cs, b, tI (sI (q ++ [i]))] = .ok (.bool rb)) :
    BothOk (encF n cs) (.tuple [x, .int i, a, b]) (tI q) g g' (decide (0 ≤ i) && (PyData.eqv x (.str "ask") && (decide (i ∈ frL N q) && (ra && rb)))) := by
  have w1 := eq_word hx shL
  have w2 : neD x (.str "ask") = .ok (.bool (!PyData.eqv x (.str "ask"))) := ne_word hx shA
  have ni := int_num i
  have hq' : q.length ≤ 1000 := Nat.le_trans hq (by decide)
  have hn' : N ≤ 100 := Nat.le_trans hn (by decide)
  have z2 := lis_four g' (encF n cs) _ _ x a b i q (frL N q) _ ra rb (int_int i) w2 (free_ok n N hN hn' cs q) (with_ok q (-i) hq') (with_ok q i hq') (fun h => (ha h).2) (fun h => (hb h).2)
  by_cases hi : 0 ≤ i
  · rw [decide_eq_true hi] at ni
    rw [decide_eq_true hi, Bool.true_and]
    have z1 := below_four g (encF n cs) _ _ x a b n i q _ _ ra rb (fun _ => trivial) ni hi (ix_T0 _ _) w1 w2 (with_literal_ok q (-i) hq') (with_literal_ok q i hq') (fun h => (ha (of_decide_eq_true (by rw [← fr_dec n N hN]; exact h))).1) (fun h => (hb (of_decide_eq_true (by rw [← fr_dec n N hN]; exact h))).1)
    rw [fr_dec n N hN] at z1
    exact ⟨z1, z2⟩
  · rw [decide_eq_false hi] at ni
    have hni : i ∉ frL N q := fun h => by have := fr_mem.mp h; omega
    rw [decide_eq_false hi, Bool.false_and]
    rw [decide_eq_false hni, Bool.false_and, Bool.and_false] at z2
    exact ⟨below_num g (encF n cs) (tI q) (.int i) [x, .int i, a, b] 4 rfl (by decide) (ix_T1 _ _ _) ni, z2⟩
theorem both_odd (x : D) (i : Int) (r : List D) (hx : SeqAt.shaped x = true) (h2 : r.length ≠ 0) (h4 : r.length ≠ 2) (Q : D) : BothOk (encF n cs) (.tuple (x :: .int i :: r)) Q g g' false := by
  have w1 := eq_word hx shL
  have w2 := ne_word hx shA
  have ni := int_num i
  have l2 : ¬ (((x :: .int i :: r).length : Int)) < 2 := by simp; omega
  have z2 := lis_odd g' (encF n cs) Q x i _ (x :: .int i :: r) true (len_t _) l2 (by simp; omega) (by simp; omega) (ix_T0 _ _) (ix_T1 _ _ _) (int_int i)
  refine ⟨?_, z2⟩
  by_cases hi : 0 ≤ i
  · rw [decide_eq_true hi] at ni
    exact below_odd g (encF n cs) Q x i _ (x :: .int i :: r) _ _ (len_t _) l2 (by simp; omega) (by simp; omega) (ix_T0 _ _) (ix_T1 _ _ _) ni w1 w2
  · rw [decide_eq_false hi] at ni
    exact below_num g (encF n cs) Q (.int i) (x :: .int i :: r) _ (len_t _) l2 (ix_T1 _ _ _) ni
theorem step_int (N : Nat) (cs : List (List Int)) (rec : D → List Int → Bool) (q : List Int) (x y : D) (r : List D) (hy : isIntB y = false) : stepB N cs rec (.tuple (x :: y :: r)) q = false := by
  cases y with
  | int i => cases hy
  | _ => cases r with
    | nil => rfl
    | cons a r => cases r with
      | nil => rfl
      | cons b r => cases r <;> rfl
include hN hn hc hq in
theorem both_int (x : D) (i : Int) (r : List D) (hx : SeqAt.shaped x = true) (hg : ∀ (a : D) (l : Int), a ∈ r → i ∈ frL N q → l = i ∨ l = -i → g [encF n cs, a, tI (sI (q ++ [l]))] = .ok (.bool (rec a (sI (q ++ [l])))) ∧ g' [encF n cs, a, tI (sI (q ++ [l]))] = .ok (.bool (rec a (sI (q ++ [l]))))) : BothOk (encF n cs) (.tuple (x :: .int i :: r)) (tI q) g g' (stepB N cs rec (.tuple (x :: .int i :: r)) q) := by
  cases r with
  | nil => exact both_two hc x i hx
  | cons a r => cases r with
    | nil => exact both_odd x i [a] hx (by simp) (by simp) _
    | cons b r => cases r with
      | nil => exact both_four hN hn hq x a b i hx _ _ (fun h => hg a (-i) (by simp) h (.inr rfl)) (fun h => hg b i (by simp) h (.inl rfl))
      | cons c r => exact both_odd x i (a :: b :: c :: r) hx (by simp) (by simp) _
include hN hn hc hq in
theorem both_turn {L e : Nat} (he : e ≤ 60) (v : D) (hv : NV L e v)
    (hg : ∀ (a : D) (i l : Int), NV L e a → i ∈ frL N q → l = i ∨ l = -i → g [encF n cs, a, tI (sI (q ++ [l]))] = .ok (.bool (rec a (sI (q ++ [l])))) ∧ g' [encF n cs, a, tI (sI (q ++ [l]))] = .ok (.bool (rec a (sI (q ++ [l]))))) :
    BothOk (encF n cs) v (tI q) g g' (stepB N cs rec v q) := by
  have np := nv_np hv
  by_cases ht : isTupB v = true
  · cases v with
    | tuple ds =>
      obtain ⟨_, e', he', hds⟩ := nv_inv hv
      have up : ∀ x ∈ ds, NV L e x := fun x hx => nv_up (Nat.le_refl _) (by omega) (hds x hx)
      cases ds with
      | nil => exact ⟨below_short g _ _ [] 0 rfl (by decide), lis_short g' _ _ [] 0 rfl (by decide)⟩
      | cons x r => cases r with
        | nil => exact ⟨below_short g _ _ [x] 1 rfl (by decide), lis_short g' _ _ [x] 1 rfl (by decide)⟩
        | cons y r =>
          by_cases hy : isIntB y = true
          · cases y with
            | int i => exact both_int hN hn hc hq x i r (nv_shaped (up x (by simp)) (by omega)) fun a l ha h1 h2 => hg a i l (up a (by simp [ha])) h1 h2
            | _ => cases hy
          · have hy : isIntB y = false := by simpa using hy
            rw [step_int N cs rec q x y r hy]
            exact both_num hy (nv_np (up y (by simp)))
    | _ => cases ht
  · have hf : isTupB v = false := by simpa using ht
    have es : stepB N cs rec v q = false := by
      cases v <;> first | rfl | cases hf
    rw [es]
    exact ⟨below_no g _ v _ hf np, lis_no g' _ v _ hf np⟩
end
theorem both_ok (n : Int) (N : Nat) (hN : n = N) (hn : N ≤ 6) (cs : List (List Int)) (hc : ∀ c ∈ cs, c.length ≤ 1000) (L : Nat) (e : Nat) (he : e ≤ 60) : ∀ (d k : Nat) (q : List Int) (v : D), PC n q → (frL N q).length ≤ d → d < k → NV L e v →
    gN_is_tree_below k [encF n cs, v, tI q] = .ok (.bool (treeB N cs d v q)) ∧ gN_law_is_tree k [encF n cs, v, tI q] = .ok (.bool (treeB N cs d v q))
  | d, 0, q, v, _, _, h, _ => by omega
  | 0, k + 1, q, v, hq, hd, hk, hv => by
    have h := both_turn (q := q) (g := gN_is_tree_below k) (g' := gN_law_is_tree k) (rec := fun _ _ => false) hN hn hc (by have := pc_len hN hq; omega) he v hv fun a i l _ hi _ => by
      have : frL N q = [] := List.length_eq_zero_iff.mp (by omega)
      rw [this] at hi
      cases hi
    exact ⟨h.l, h.r⟩
  | d + 1, k + 1, q, v, hq, hd, hk, hv => by
    have h := both_turn (q := q) (g := gN_is_tree_below k) (g' := gN_law_is_tree k) (rec := treeB N cs d) hN hn hc (by have := pc_len hN hq; omega) he v hv fun a i l ha hi h => by
      have h1 := fr_less hi h
      have h2 := fr_mem.mp hi
      have hp : PC n (sI (q ++ [l])) := by
        rcases h with rfl | rfl
        · exact pc_put hq (by omega) (by omega) h2.2.1 h2.2.2
        · exact pc_put hq (by omega) (by omega) h2.2.2 (by rw [Int.neg_neg]; exact h2.2.1)
      exact both_ok n N hN hn cs hc L e he d k _ a hp (by omega) (by omega) ha
    exact ⟨h.l, h.r⟩
end Law

set_option Elab.async false
set_option linter.all false
set_option maxRecDepth 100000
set_option maxHeartbeats 1000000
namespace Law
open PySem PySem.Spec L2 DL Lin
/-! cut by mkcut2.py -/
def bnz13 (gself : List PyData → Res PyData) : DSt → Res Out := sRt (u1A tupleD (aCons (vr 5) (aNil)))
def bnp12 (gself : List PyData → Res PyData) : DSt → Res Out := lsetF 5 [1, 2] (b2 ixD (vr 1) (vr 2)) (vr 4)
def bnz12 (gself : List PyData → Res PyData) : DSt → Res Out := seqF (bnp12 gself) (bnz13 gself)
def bnp11 (gself : List PyData → Res PyData) : DSt → Res Out := lsetF 5 [1, 4] (b2 ixD (vr 1) (vr 4)) (vr 2)
def bnz11 (gself : List PyData → Res PyData) : DSt → Res Out := seqF (bnp11 gself) (bnz12 gself)
def bnp10 (gself : List PyData → Res PyData) : DSt → Res Out := asgO [1] (u1L listD (aCons (vr 1) (aNil))) 5
def bnz10 (gself : List PyData → Res PyData) : DSt → Res Out := seqF (bnp10 gself) (bnz11 gself)
def bnp9 (gself : List PyData → Res PyData) : DSt → Res Out := asgF [0, 1] (callF g_law_draw (aCons (vr 0) (aCons (u1A lenD (aCons (vr 1) (aNil))) (aNil)))) (.nm 4)
def bnz9 (gself : List PyData → Res PyData) : DSt → Res Out := seqF (bnp9 gself) (bnz10 gself)
def bnp8 (gself : List PyData → Res PyData) : DSt → Res Out := ifS (tB2 eqD (vr 3) (cI 5)) (sRt (asL (u1L listD (aCons (vr 1) (aNil))))) (sNil)
def bnz8 (gself : List PyData → Res PyData) : DSt → Res Out := seqF (bnp8 gself) (bnz9 gself)
def bnp7 (gself : List PyData → Res PyData) : DSt → Res Out := ifS (tB2 ltD (vr 3) (cI 5)) (sRt (b2 addD (b2 addD (slF (vr 1) (oN) (oS (vr 2))) (u1A tupD (aCons (b2 ixD (vr 1) (vr 2)) (aNil)))) (slF (vr 1) (oS (vr 2)) (oN)))) (sNil)
def bnz7 (gself : List PyData → Res PyData) : DSt → Res Out := seqF (bnp7 gself) (bnz8 gself)
def bnp6 (gself : List PyData → Res PyData) : DSt → Res Out := ifS (tB2 ltD (vr 3) (cI 3)) (sRt (b2 addD (slF (vr 1) (oN) (oS (vr 2))) (slF (vr 1) (oS (b2 addD (vr 2) (cI 1))) (oN)))) (sNil)
def bnz6 (gself : List PyData → Res PyData) : DSt → Res Out := seqF (bnp6 gself) (bnz7 gself)
def bnp5 (gself : List PyData → Res PyData) : DSt → Res Out := asgF [0, 1] (callF g_law_draw (aCons (vr 0) (aCons (u1A lenD (aCons (vr 1) (aNil))) (aNil)))) (.nm 2)
def bnz5 (gself : List PyData → Res PyData) : DSt → Res Out := seqF (bnp5 gself) (bnz6 gself)
def bnp4 (gself : List PyData → Res PyData) : DSt → Res Out := ifS (tOr' (tNt (tTr (u1 (isiD "tuple") (vr 1)))) (tB2 eqD (u1A lenD (aCons (vr 1) (aNil))) (cI 0))) (sRt (ifE (tB2 ltD (vr 3) (cI 5)) (u1A tupD (aCons (vr 1) (aCons (cI 0) (aNil)))) (u1A tupD (aNil)))) (sNil)
def bnz4 (gself : List PyData → Res PyData) : DSt → Res Out := seqF (bnp4 gself) (bnz5 gself)
def bnp3 (gself : List PyData → Res PyData) : DSt → Res Out := ifS (tTr (callF g_law_is_integer (aCons (vr 1) (aNil)))) (sRt (b2 addD (vr 1) (b2 ixD (u1A tupD (aCons (cI 1) (aCons (u1 negD (cI 1)) (aCons (cI 2) (aCons (cI 0) (aNil)))))) (callF g_law_draw (aCons (vr 0) (aCons (cI 4) (aNil))))))) (sNil)
def bnz3 (gself : List PyData → Res PyData) : DSt → Res Out := seqF (bnp3 gself) (bnz4 gself)
def bnp2 (gself : List PyData → Res PyData) : DSt → Res Out := ifS (tB2 eqD (vr 3) (cI 0)) (sRt (b2 ixD (u1A tupD (aCons (cS "x") (aCons (cB true) (aCons (u1A tupD (aNil)) (aCons (cI 0) (aCons (u1 negD (cI 1)) (aCons (cN) (aCons (cB false) (aNil))))))))) (callF g_law_draw (aCons (vr 0) (aCons (cI 7) (aNil)))))) (sNil)
def bnz2 (gself : List PyData → Res PyData) : DSt → Res Out := seqF (bnp2 gself) (bnz3 gself)
def bnp1 (gself : List PyData → Res PyData) : DSt → Res Out := asgF [0] (callF g_law_draw (aCons (vr 0) (aCons (cI 9) (aNil)))) (.nm 3)
def bnz1 (gself : List PyData → Res PyData) : DSt → Res Out := seqF (bnp1 gself) (bnz2 gself)
def bnp0 (gself : List PyData → Res PyData) : DSt → Res Out := ifS (tAnd' (tTr (u1 (isiD "tuple") (vr 1))) (tAnd' (tB2 gtD (u1A lenD (aCons (vr 1) (aNil))) (cI 0)) (tB2 gtD (callF g_law_draw (aCons (vr 0) (aCons (cI 3) (aNil)))) (cI 0)))) (seqF (asgF [0, 1] (callF g_law_draw (aCons (vr 0) (aCons (u1A lenD (aCons (vr 1) (aNil))) (aNil)))) (.nm 2)) (sRt (b2 addD (b2 addD (slF (vr 1) (oN) (oS (vr 2))) (u1A tupD (aCons (callF gself (aCons (vr 0) (aCons (b2 ixD (vr 1) (vr 2)) (aNil)))) (aNil)))) (slF (vr 1) (oS (b2 addD (vr 2) (cI 1))) (oN))))) (sNil)
def bnz0 (gself : List PyData → Res PyData) : DSt → Res Out := seqF (bnp0 gself) (bnz1 gself)
theorem b_law_bent_cutz (gself : List PyData → Res PyData) : b_law_bent gself = bnz0 gself := rfl
end Law

set_option Elab.async false
set_option linter.all false
set_option maxRecDepth 100000
set_option maxHeartbeats 400000
namespace Law
open PySem PySem.Spec L2 DL Lin
abbrev bS (v : D) (a t o it : Option SV) : DSt := [some (.val (.dict [])), some (.val v), a, t, o, it]
def RtP (P : D → Prop) (o : Out) : Prop := ∃ d, o = .rt d ∧ P d
theorem rt_seq {P : D → Prop} {o : Out} {Y : DSt → Res Out} (h : RtP P o) : Al (seqO o Y) (RtP P) := by
  obtain ⟨d, e, p⟩ := h
  subst e
  exact al_ok.mpr ⟨d, rfl, p⟩
/-- an if that returns -/
theorem al_ifr {c : DSt → Res Bool} {f : DSt → Res D} {Y : DSt → Res Out} {δ : DSt} {P : D → Prop} {b : Bool} (hc : c δ = .ok b) (h1 : b = true → Al (f δ) P) (h2 : b = false → Al (Y δ) (RtP P)) : Al (seqF (ifS c (sRt f) sNil) Y δ) (RtP P) := by
  rw [al_sq, al_if]
  refine al_eq hc ?_
  cases b with
  | true =>
    rw [if_pos rfl, al_sRt]
    exact al_mono (h1 rfl) fun d hd => rt_seq ⟨d, rfl, hd⟩
  | false =>
    rw [if_neg (by decide), ev_sNil, al_ok, seqO_nx]
    exact h2 rfl
theorem lset_ok {i : Nat} {S : List Nat} {fv fk : DSt → Res D} {δ : DSt} {xs : List D} {d : D} {j : Int} {jn : Nat} (h5 : δ[i]? = some (some (.own xs))) (hv : fv δ = .ok d) (hz : freeze S 0 δ = δ) (hk : fk δ = .ok (.int j)) (hj : j = jn) (hl : jn < xs.length) : lsetF i S fv fk δ = .ok (.nx (δ.set i (some (.own (xs.set jn d))))) := by
  have hx : ixN xs.length j = some jn := by
    subst hj
    unfold ixN
    simp [hl]
  unfold lsetF
  simp only [h5, hv, ok_bind, hz]
  have : (if flat d = true then δ else δ) = δ := by split <;> rfl
  simp only [this, hk, ok_bind, h5, hx]
section
variable {g : List D → Res D} {L e j : Nat} {ds : List D}
theorem mem_set2 {P : D → Prop} {xs : List D} {k : Nat} {d : D} (h : ∀ x ∈ xs, P x) (hd : P d) : ∀ x ∈ xs.set k d, P x := fun x hx => by
  rcases List.mem_or_eq_of_mem_set hx with h1 | h1
  · exact h x h1
  · rw [h1]; exact hd
theorem bent_z9 (hl : ds.length ≤ L) (hL : L ≤ 900) (hx : ∀ x ∈ ds, NV L j x) (a : Nat) (ha : a < ds.length) (A : Int) (hA : A = a) (t : Option SV) : Al (bnz9 g (bS (.tuple ds) (some (.val (.int A))) t none none)) (RtP (NV (L + 1) (j + 2))) := by
  have hn : lenD [.tuple ds] = .ok (.int (ds.length : Int)) := rfl
  unfold bnz9 bnp9
  rw [al_sq, al_asg, al_callF]
  refine al_eq (a := [.dict [], .int (ds.length : Int)]) ?_ ?_
  · generalize PyData.tuple ds = V at hn ⊢
    simp [hn]
  refine al_mono (al_dr (by omega) (by omega)) ?_
  rintro _ ⟨B, rfl, b0, b1⟩
  rw [asgD_int, ev_bindN, ev_nE, ev_ok, al_ok, seqO_nx]
  have ed : (bS (.tuple ds) (some (.val (.int A))) t none none).set 4 (some (.val (.int B))) = bS (.tuple ds) (some (.val (.int A))) t (some (.val (.int B))) none := rfl
  have hb : B.toNat < ds.length := by omega
  have hB : B = (B.toNat : Int) := by omega
  have i1 : ixD (.tuple ds) (.int B) = .ok (ds[B.toNat]'hb) := by
    have := ix_T (ds := ds) (k := B.toNat) (List.getElem?_eq_getElem hb)
    rwa [← hB] at this
  have i2 : ixD (.tuple ds) (.int A) = .ok (ds[a]'ha) := by
    rw [hA]
    exact ix_T (List.getElem?_eq_getElem ha)
  have m1 := hx _ (List.getElem_mem hb)
  have m2 := hx _ (List.getElem_mem ha)
  generalize (ds[B.toNat]'hb) = x at i1 m1
  generalize (ds[a]'ha) = y at i2 m2
  rw [ed]
  have p10 : bnp10 g (bS (.tuple ds) (some (.val (.int A))) t (some (.val (.int B))) none) = .ok (.nx (bS (.tuple ds) (some (.val (.int A))) t (some (.val (.int B))) (some (.own ds)))) := by
    have hL' : listD [.tuple ds] = .ok ds := rfl
    unfold bnp10 asgO
    show ((u1L listD (aCons (vr 1) (aNil))) _ >>= _) = _
    have : (u1L listD (aCons (vr 1) (aNil))) (bS (.tuple ds) (some (.val (.int A))) t (some (.val (.int B))) none) = .ok ds := rfl
    rw [this, ok_bind]
    have e1 : (if flatAll ds = true then bS (.tuple ds) (some (.val (.int A))) t (some (.val (.int B))) none else freeze [1] 0 (bS (.tuple ds) (some (.val (.int A))) t (some (.val (.int B))) none)) = bS (.tuple ds) (some (.val (.int A))) t (some (.val (.int B))) none := by split <;> rfl
    rw [e1]; rfl
  have p11 : bnp11 g (bS (.tuple ds) (some (.val (.int A))) t (some (.val (.int B))) (some (.own ds))) = .ok (.nx (bS (.tuple ds) (some (.val (.int A))) t (some (.val (.int B))) (some (.own (ds.set a x))))) := by
    refine lset_ok rfl ?_ rfl rfl hA ha
    generalize PyData.tuple ds = V at i1 ⊢
    simp [i1]
  have p12 : bnp12 g (bS (.tuple ds) (some (.val (.int A))) t (some (.val (.int B))) (some (.own (ds.set a x)))) = .ok (.nx (bS (.tuple ds) (some (.val (.int A))) t (some (.val (.int B))) (some (.own ((ds.set a x).set B.toNat y))))) := by
    refine lset_ok rfl ?_ rfl rfl hB (by rw [List.length_set]; exact hb)
    generalize PyData.tuple ds = V at i2 ⊢
    simp [i2]
  unfold bnz10
  rw [sq_nx p10]
  unfold bnz11
  rw [sq_nx p11]
  unfold bnz12
  rw [sq_nx p12]
  unfold bnz13
  refine al_eq (a := .rt (.tuple ((ds.set a x).set B.toNat y))) rfl ⟨_, rfl, nv_up (Nat.le_succ _) (Nat.le_succ _) (nv_tup (by rw [List.length_set, List.length_set]; exact hl) (mem_set2 (mem_set2 hx m1) m2))⟩
theorem bent_z6 (hl : ds.length ≤ L) (hL : L ≤ 900) (hx : ∀ x ∈ ds, NV L j x) (a : Nat) (ha : a < ds.length) (A t : Int) (hA : A = a) : Al (bnz6 g (bS (.tuple ds) (some (.val (.int A))) (some (.val (.int t))) none none)) (RtP (NV (L + 1) (j + 2))) := by
  have hz := h1000
  have s1 := sl_lo ds A a hA (by omega)
  have s2 := sl_hi ds (A + 1) (a + 1) (by omega) (by omega)
  have s3 := sl_hi ds A a hA (by omega)
  have i2 : ixD (.tuple ds) (.int A) = .ok (ds[a]'ha) := by
    rw [hA]
    exact ix_T (List.getElem?_eq_getElem ha)
  have m2 := hx _ (List.getElem_mem ha)
  generalize (ds[a]'ha) = y at i2 m2
  have a1 := add_T (xs := ds.take a) (ys := ds.drop (a + 1)) (by rw [List.length_take, List.length_drop]; omega)
  have a2 := add_T (xs := ds.take a) (ys := [y]) (by rw [List.length_take]; simp; omega)
  have a3 := add_T (xs := ds.take a ++ [y]) (ys := ds.drop a) (by rw [List.length_append, List.length_take, List.length_drop]; simp; omega)
  have t1 : ∀ x ∈ ds.take a, NV L j x := fun x h => hx x (List.mem_of_mem_take h)
  have t2 : ∀ x ∈ ds.drop (a + 1), NV L j x := fun x h => hx x (List.mem_of_mem_drop h)
  have t3 : ∀ x ∈ ds.drop a, NV L j x := fun x h => hx x (List.mem_of_mem_drop h)
  have n1 : NV (L + 1) (j + 2) (.tuple (ds.take a ++ ds.drop (a + 1))) := nv_up (Nat.le_succ _) (Nat.le_succ _) (nv_tup (by rw [List.length_append, List.length_take, List.length_drop]; omega) fun x h => (List.mem_append.mp h).elim (t1 x) (t2 x))
  have n2 : NV (L + 1) (j + 2) (.tuple ((ds.take a ++ [y]) ++ ds.drop a)) := nv_up (Nat.le_refl _) (Nat.le_succ _) (nv_tup (L := L + 1) (k := j) (by rw [List.length_append, List.length_append, List.length_take, List.length_drop]; simp; omega) fun x h => nv_up (Nat.le_succ _) (Nat.le_refl _) (by
    rcases List.mem_append.mp h with h | h
    · rcases List.mem_append.mp h with h | h
      · exact t1 x h
      · rw [List.mem_singleton.mp h]; exact m2
    · exact t3 x h))
  have z9 := fun t => bent_z9 (g := g) hl hL hx a ha A hA t
  have n3 : NV (L + 1) (j + 2) (.list ds) := nv_up (Nat.le_succ _) (Nat.le_succ _) (nv_lst hl hx)
  have hls : listD [.tuple ds] = .ok ds := rfl
  generalize PyData.tuple (ds.take a ++ ds.drop (a + 1)) = R1 at a1 n1
  generalize PyData.tuple ((ds.take a ++ [y]) ++ ds.drop a) = R2 at a3 n2
  generalize PyData.tuple (ds.take a ++ [y]) = R3 at a2 a3
  generalize PyData.tuple (ds.take a) = T1 at s1 a1 a2
  generalize PyData.tuple (ds.drop (a + 1)) = T2 at s2 a1
  generalize PyData.tuple (ds.drop a) = T3 at s3 a3
  generalize PyData.tuple ds = V at s1 s2 s3 i2 z9 hls ⊢
  have u1 : tupD [y] = .ok (.tuple [y]) := ev_tup1 y
  generalize PyData.tuple [y] = Y at u1 a2
  unfold bnz6 bnp6
  refine al_ifr (b := decide (t < 3)) (by simp) (fun _ => al_eq (a := R1) (by simp [s1, s2, a1]) n1) (fun _ => ?_)
  unfold bnz7 bnp7
  refine al_ifr (b := decide (t < 5)) (by simp) (fun _ => al_eq (a := R2) (by simp [s1, s3, i2, u1, a2, a3]) n2) (fun _ => ?_)
  unfold bnz8 bnp8
  refine al_ifr (b := decide (t = 5)) (by simp) (fun _ => al_eq (a := .list ds) (by simp [hls]) n3) (fun _ => z9 _)
end
end Law

set_option Elab.async false
set_option linter.all false
set_option maxRecDepth 100000
set_option maxHeartbeats 400000
namespace Law
open PySem PySem.Spec L2 DL Lin
section
variable {g : List D → Res D} {L e : Nat} {v : D}
theorem nv_cons7 (L k : Nat) : ∀ x ∈ ([.str "x", .bool true, .tuple [], .int 0, .int (-1), .none, .bool false] : List D), NV L (k + 1) x := by
  intro x hx
  simp only [List.mem_cons, List.not_mem_nil, or_false] at hx
  rcases hx with rfl | rfl | rfl | rfl | rfl | rfl | rfl
  · exact nv_atom rfl
  · exact nv_atom rfl
  · exact nv_tup (Nat.zero_le _) (by simp)
  · exact nv_atom rfl
  · exact nv_atom rfl
  · exact nv_atom rfl
  · exact nv_atom rfl
theorem pickT_al {m : Int} {L : List D} {P : D → Prop} (hm : m = L.length) (h0 : 0 < m) (h1 : m < 1073741824) (h : ∀ x ∈ L, P x) : Al (g_law_draw [.dict [], .int m]) fun d => Al (ixD (.tuple L) d) P := by
  refine al_mono (al_dr h0 h1) ?_
  rintro _ ⟨i, rfl, i0, i1⟩
  have hk : i.toNat < L.length := by omega
  have := ix_T (ds := L) (k := i.toNat) (List.getElem?_eq_getElem hk)
  rw [show ((i.toNat : Nat) : Int) = i by omega] at this
  exact al_eq this (h _ (List.getElem_mem hk))
theorem bent_z5 (ds : List D) (j : Nat) (hl : ds.length ≤ L) (hL : L ≤ 900) (hx : ∀ x ∈ ds, NV L j x) (hne : ds ≠ []) (t : Int) (a : Option SV) : Al (bnz5 g (bS (.tuple ds) a (some (.val (.int t))) none none)) (RtP (NV (L + 1) (j + 2))) := by
  have hp : 0 < ds.length := List.length_pos_iff.mpr hne
  have hn : lenD [.tuple ds] = .ok (.int (ds.length : Int)) := rfl
  unfold bnz5 bnp5
  rw [al_sq, al_asg, al_callF]
  refine al_eq (a := [.dict [], .int (ds.length : Int)]) ?_ ?_
  · generalize PyData.tuple ds = V at hn ⊢
    simp [hn]
  refine al_mono (al_dr (by omega) (by omega)) ?_
  rintro _ ⟨A, rfl, b0, b1⟩
  rw [asgD_int, ev_bindN, ev_nE, ev_ok, al_ok, seqO_nx]
  have ed : (bS (.tuple ds) a (some (.val (.int t))) none none).set 2 (some (.val (.int A))) = bS (.tuple ds) (some (.val (.int A))) (some (.val (.int t))) none none := rfl
  rw [ed]
  exact bent_z6 hl hL hx A.toNat (by omega) A t (by omega)
theorem bent_z4 (hv : NV L e v) (hL : L ≤ 900) (h2 : 2 ≤ L) (t : Int) (a : Option SV) : Al (bnz4 g (bS v a (some (.val (.int t))) none none)) (RtP (NV (L + 1) (e + 1))) := by
  have np := nv_np hv
  have it := isi_tup v np
  have n0 : NV (L + 1) (e + 1) (.tuple []) := nv_tup (Nat.zero_le _) (by simp)
  have n1 : NV (L + 1) (e + 1) (.tuple [v, .int 0]) := nv_tup (by simp; omega) fun x hx => by
    simp only [List.mem_cons, List.not_mem_nil, or_false] at hx
    rcases hx with rfl | rfl
    · exact nv_up (Nat.le_succ _) (Nat.le_refl _) hv
    · exact nv_atom rfl
  have u0 : tupD [v, .int 0] = .ok (.tuple [v, .int 0]) := small_T _ (by simp)
  have ret : ∀ δ : DSt, δ = bS v a (some (.val (.int t))) none none → Al ((ifE (tB2 ltD (vr 3) (cI 5)) (u1A tupD (aCons (vr 1) (aCons (cI 0) (aNil)))) (u1A tupD (aNil))) δ) (NV (L + 1) (e + 1)) := fun δ hδ => by
    subst hδ
    by_cases h5 : t < 5
    · exact al_eq (a := .tuple [v, .int 0]) (by simp [h5, u0]) n1
    · exact al_eq (a := .tuple []) (by simp [h5]) n0
  unfold bnz4 bnp4
  by_cases ht : isTupB v = true
  · match v, ht, hv, it, ret with
    | .tuple ds, _, hv, it, ret =>
      obtain ⟨hl, j, hj, hx⟩ := nv_inv hv
      subst hj
      by_cases hne : ds = []
      · refine al_ifr (b := true) ?_ (fun _ => ret _ rfl) (fun h => by cases h)
        subst hne
        simp
      · have hp : ¬ (ds.length : Int) = 0 := fun z => hne (List.length_eq_zero_iff.mp (by omega))
        refine al_ifr (b := false) ?_ (fun h => by cases h) (fun _ => bent_z5 ds j hl hL hx hne t a)
        have hn : lenD [.tuple ds] = .ok (.int (ds.length : Int)) := rfl
        have it : isiD "tuple" (.tuple ds) = .ok (.bool true) := isi_of kb_tt
        generalize (ds.length : Int) = K at hn hp
        generalize PyData.tuple ds = V at hn it ⊢
        simp [it, hn, hp]
  · have hf : isTupB v = false := by simpa using ht
    rw [hf] at it
    exact al_ifr (b := true) (by simp [it]) (fun _ => ret _ rfl) (fun h => by cases h)
theorem bent_z1 (hv : NV L e v) (hL : L ≤ 900) (h2 : 2 ≤ L) : Al (bnz1 g (bS v none none none none)) (RtP (NV (L + 1) (e + 1))) := by
  have np := nv_np hv
  have hi := law_is_integer_gen v np
  unfold bnz1 bnp1
  rw [al_sq, al_asg, al_callF]
  refine al_eq (a := [.dict [], .int 9]) rfl ?_
  refine al_mono (al_dr (by omega) (by omega)) ?_
  rintro _ ⟨t, rfl, b0, b1⟩
  rw [asgD_int, ev_bindN, ev_nE, ev_ok, al_ok, seqO_nx]
  have ed : (bS v none none none none).set 3 (some (.val (.int t))) = bS v none (some (.val (.int t))) none none := rfl
  rw [ed]
  unfold bnz2 bnp2
  refine al_ifr (b := decide (t = 0)) (by simp) (fun _ => ?_) (fun _ => ?_)
  · rw [al_b2]
    refine al_eq (a := .tuple [.str "x", .bool true, .tuple [], .int 0, .int (-1), .none, .bool false]) ?_ ?_
    · have u0 : tupD [.str "x", .bool true, .tuple [], .int 0, .int (-1), .none, .bool false] = .ok (.tuple [.str "x", .bool true, .tuple [], .int 0, .int (-1), .none, .bool false]) := small_T _ (by simp)
      simp [u0]
    rw [al_callF]
    refine al_eq (a := [.dict [], .int 7]) rfl ?_
    exact pickT_al (by simp) (by omega) (by omega) (nv_cons7 _ _)
  unfold bnz3 bnp3
  refine al_ifr (b := isIntB v) (by simp [hi]) (fun h => ?_) (fun _ => bent_z4 hv hL h2 t none)
  match v, h with
  | .int x, _ =>
    rw [al_b2]
    refine al_eq (a := .int x) rfl ?_
    rw [al_b2]
    refine al_eq (a := .tuple [.int 1, .int (-1), .int 2, .int 0]) ?_ ?_
    · have u0 : tupD [.int 1, .int (-1), .int 2, .int 0] = .ok (.tuple [.int 1, .int (-1), .int 2, .int 0]) := small_T _ (by simp)
      simp [u0]
    rw [al_callF]
    refine al_eq (a := [.dict [], .int 4]) rfl ?_
    refine pickT_al (P := fun y => Al (addD (.int x) y) (NV (L + 1) (e + 1))) (by simp) (by omega) (by omega) fun y hy => ?_
    simp only [List.mem_cons, List.not_mem_nil, or_false] at hy
    rcases hy with rfl | rfl | rfl | rfl <;> exact al_eq (ev_add _ _) (nv_atom rfl)
theorem bent_turn (hv : NV L e v) (hL : L ≤ 900) (h2 : 2 ≤ L) (hg : ∀ j x, j + 1 = e → NV L j x → Al (g [.dict [], x]) (NV (L + 1) (j + 1))) : Al (fnD 6 (b_law_bent g) [.dict [], v]) (NV (L + 1) (e + 1)) := by
  have hz := h1000
  have np := nv_np hv
  have it := isi_tup v np
  have e0 : startD 6 [.dict [], v] = bS v none none none none := rfl
  have z1 := bent_z1 (g := g) hv hL h2
  have fin : ∀ o, RtP (NV (L + 1) (e + 1)) o → Al (fnK o) (NV (L + 1) (e + 1)) := fun o ⟨d, h, p⟩ => by
    rw [h, fnK_rt, al_ok]; exact p
  refine al_fn ?_
  rw [e0, b_law_bent_cutz]
  refine al_mono ?_ fin
  unfold bnz0 bnp0
  rw [al_sq, al_if, al_tAnd]
  by_cases ht : isTupB v = true
  · match v, ht, hv, z1 with
    | .tuple ds, _, hv, z1 =>
      obtain ⟨hl, j, hj, hx⟩ := nv_inv hv
      have it : isiD "tuple" (.tuple ds) = .ok (.bool true) := isi_of kb_tt
      have hn : lenD [.tuple ds] = .ok (.int (ds.length : Int)) := rfl
      refine al_eq (a := true) (by simp) ?_
      rw [if_pos rfl, al_tAnd]
      by_cases hne : ds = []
      · refine al_eq (a := false) (by subst hne; simp) ?_
        rw [if_neg (by decide), al_ok, if_neg (by decide), ev_sNil, al_ok, seqO_nx]
        exact z1
      · have hp : 0 < ds.length := List.length_pos_iff.mpr hne
        refine al_eq (a := true) (by simp; omega) ?_
        rw [if_pos rfl, al_tB2, al_callF]
        refine al_eq (a := [.dict [], .int 3]) rfl ?_
        refine al_mono (al_dr (by omega) (by omega)) ?_
        rintro _ ⟨t, rfl, t0, t1⟩
        rw [ev_cI, al_ok, ev_gt, al_ok, ev_asB, al_ok]
        by_cases h0 : 0 < t
        · rw [decide_eq_true h0, if_pos rfl, al_sq, al_asg, al_callF]
          refine al_eq (a := [.dict [], .int (ds.length : Int)]) ?_ ?_
          · generalize PyData.tuple ds = V at hn ⊢
            simp [hn]
          refine al_mono (al_dr (by omega) (by omega)) ?_
          rintro _ ⟨A, rfl, b0, b1⟩
          rw [asgD_int, ev_bindN, ev_nE, ev_ok, al_ok, seqO_nx]
          have ed : (bS (.tuple ds) none none none none).set 2 (some (.val (.int A))) = bS (.tuple ds) (some (.val (.int A))) none none none := rfl
          rw [ed]
          obtain ⟨a, hA⟩ : ∃ a : Nat, A = a := ⟨A.toNat, by omega⟩
          have ha : a < ds.length := by omega
          have s1 := sl_lo ds A a hA (by omega)
          have s2 := sl_hi ds (A + 1) (a + 1) (by omega) (by omega)
          have i2 : ixD (.tuple ds) (.int A) = .ok (ds[a]'ha) := by
            rw [hA]
            exact ix_T (List.getElem?_eq_getElem ha)
          have gm := hg j _ hj (hx _ (List.getElem_mem ha))
          generalize (ds[a]'ha) = y at i2 gm
          rw [al_sRt, al_b2, al_b2]
          refine al_eq (a := .tuple (ds.take a)) ?_ ?_
          · generalize PyData.tuple (ds.take a) = T at s1 ⊢
            generalize PyData.tuple ds = V at s1 ⊢
            simp [s1]
          rw [al_u1A, al_aCons, al_callF]
          refine al_eq (a := [.dict [], y]) ?_ ?_
          · generalize PyData.tuple ds = V at i2 ⊢
            simp [i2]
          refine al_mono gm fun w hw => ?_
          rw [ev_aNil, al_ok, ev_tup1, al_ok]
          refine al_eq (a := .tuple (ds.take a ++ [w])) (add_T (by rw [List.length_take]; simp; omega)) ?_
          refine al_eq (a := .tuple (ds.drop (a + 1))) ?_ ?_
          · generalize PyData.tuple (ds.drop (a + 1)) = T at s2 ⊢
            generalize PyData.tuple ds = V at s2 ⊢
            simp [s2]
          refine al_eq (a := .tuple ((ds.take a ++ [w]) ++ ds.drop (a + 1))) (add_T (by rw [List.length_append, List.length_take, List.length_drop]; simp; omega)) ?_
          refine rt_seq ⟨_, rfl, ?_⟩
          rw [← hj]
          refine nv_tup (by rw [List.length_append, List.length_append, List.length_take, List.length_drop]; simp; omega) fun x h => ?_
          rcases List.mem_append.mp h with h | h
          · rcases List.mem_append.mp h with h | h
            · exact nv_up (Nat.le_succ _) (Nat.le_succ _) (hx x (List.mem_of_mem_take h))
            · rw [List.mem_singleton.mp h]; exact hw
          · exact nv_up (Nat.le_succ _) (Nat.le_succ _) (hx x (List.mem_of_mem_drop h))
        · rw [decide_eq_false h0, if_neg (by decide), ev_sNil, al_ok, seqO_nx]
          exact z1
  · have hf : isTupB v = false := by simpa using ht
    rw [hf] at it
    refine al_eq (a := false) (by simp [it]) ?_
    rw [if_neg (by decide), al_ok, if_neg (by decide), ev_sNil, al_ok, seqO_nx]
    exact z1
theorem bent_al (hL : L ≤ 900) (h2 : 2 ≤ L) : ∀ (k e : Nat) (v : D), NV L e v → e < k → Al (gN_law_bent k [.dict [], v]) (NV (L + 1) (e + 1))
  | 0, e, v, _, h => by omega
  | k + 1, e, v, hv, h => bent_turn hv hL h2 fun j x hj hx => bent_al hL h2 k j x hx (by omega)
end
end Law

set_option Elab.async false
set_option linter.all false
set_option maxRecDepth 100000
set_option maxHeartbeats 400000
namespace Law
open PySem PySem.Spec L2 DL Lin
theorem nv_tree {L : Nat} (hL : 4 ≤ L) : ∀ t : Tr, NV L (dpT t + 1) (encT t)
  | .leaf i => nv_tup (by simp; omega) fun x hx => by
    simp only [List.mem_cons, List.not_mem_nil, or_false] at hx
    rcases hx with rfl | rfl
    · exact nv_atom (by decide +kernel)
    · exact nv_atom rfl
  | .ask v a b => nv_tup (by simp; omega) fun x hx => by
    simp only [List.mem_cons, List.not_mem_nil, or_false] at hx
    rcases hx with rfl | rfl | rfl | rfl
    · exact nv_atom (by decide +kernel)
    · exact nv_atom rfl
    · exact nv_up (Nat.le_refl _) (show dpT a + 1 ≤ max (dpT a) (dpT b) + 1 by omega) (nv_tree hL a)
    · exact nv_up (Nat.le_refl _) (show dpT b + 1 ≤ max (dpT a) (dpT b) + 1 by omega) (nv_tree hL b)
theorem eqv_l : PyData.eqv (.str "leaf") (.str "leaf") = true := by decide +kernel
theorem eqv_a : PyData.eqv (.str "ask") (.str "ask") = true := by decide +kernel
theorem step_leaf {n : Int} {N : Nat} {cs : List (List Int)} {rec : D → List Int → Bool} {q : List Int} {k : Int} (h : Rt n cs (.leaf k) q) : stepB N cs rec (encT (.leaf k)) q = true := by
  obtain ⟨i, e, c, hc, hf⟩ := h
  obtain ⟨hi, e2⟩ := List.getElem?_eq_some_iff.mp hc
  show (decide (0 ≤ k) && (PyData.eqv (.str "leaf") (.str "leaf") && (decide (k < cs.length) && failB q (cs.getD k.toNat [])))) = true
  have hk : k.toNat = i := by omega
  rw [eqv_l, decide_eq_true (show 0 ≤ k by omega), decide_eq_true (show k < (cs.length : Int) by omega), hk, List.getD_eq_getElem?_getD, hc]
  show failB q c = true
  exact List.all_eq_true.mpr fun l hl => decide_eq_true (hf l hl)
theorem rt_tree {n : Int} {N : Nat} (hN : n = N) {cs : List (List Int)} : ∀ (d : Nat) (t : Tr) (q : List Int), Rt n cs t q → (frL N q).length ≤ d → treeB N cs d (encT t) q = true
  | 0, .leaf k, q, h, _ => step_leaf h
  | d + 1, .leaf k, q, h, _ => step_leaf h
  | 0, .ask v a b, q, ⟨hv, _, _⟩, hd => by
    have : v ∈ frL N q := fr_mem.mpr ⟨by omega, hv.2.2.1, hv.2.2.2⟩
    have e0 : frL N q = [] := List.length_eq_zero_iff.mp (by omega)
    rw [e0] at this
    cases this
  | d + 1, .ask v a b, q, ⟨hv, ra, rb⟩, hd => by
    have hm : v ∈ frL N q := fr_mem.mpr ⟨by omega, hv.2.2.1, hv.2.2.2⟩
    have l1 := fr_less hm (.inr rfl : -v = v ∨ -v = -v)
    have l2 := fr_less hm (.inl rfl : v = v ∨ v = -v)
    show (decide (0 ≤ v) && (PyData.eqv (.str "ask") (.str "ask") && (decide (v ∈ frL N q) && (treeB N cs d (encT a) (sI (q ++ [-v])) && treeB N cs d (encT b) (sI (q ++ [v])))))) = true
    rw [eqv_a, decide_eq_true (show 0 ≤ v by omega), decide_eq_true hm, rt_tree hN d a _ ra (by omega), rt_tree hN d b _ rb (by omega)]
    rfl
theorem is_tree_run (F V : D) (b : Bool) (h : g_is_tree_below [F, V, .tuple []] = .ok (.bool b)) : g_is_tree [F, V] = .ok (.bool b) := by
  have e0 : startD 2 [F, V] = [some (.val F), some (.val V)] := rfl
  refine fn_rt ?_
  rw [e0]
  simp [b_is_tree, h]
/-! the law's parts -/
abbrev l1S (F T : D) : DSt := S_law_1 (.val (.dict [])) (.val F) (.val T)
theorem cube_skip (F T Q : D) (n L : Int) (hF : ixD F (.int 0) = .ok (.int n)) (hln : lenD [Q] = .ok (.int L)) (h : L ≠ n) : (nE (bindP (.nm 4) Q (l1S F T)) >>= lp_law_1) = .ok (.nx (l1S F T)) := by
  have e1 : nE (bindP (.nm 4) Q (l1S F T)) = .ok [none, some (.val (.dict [])), some (.val F), some (.val T), some (.val Q), none, none, none] := rfl
  rw [e1, ok_bind]
  simp [lp_law_1, sq, hln, hF, h]
theorem cube_go (F T Q CS C : D) (n L k : Int) (hF : ixD F (.int 0) = .ok (.int n)) (hF1 : ixD F (.int 1) = .ok CS) (hln : lenD [Q] = .ok (.int L)) (h : L = n) (h1 : g_find_leaf [T, Q] = .ok (.int k)) (h2 : g_law_end [T, Q] = .ok (.int k)) (hC : ixD CS (.int k) = .ok C) (hf : g_law_fails [Q, C] = .ok (.bool true)) : (nE (bindP (.nm 4) Q (l1S F T)) >>= lp_law_1) = .ok (.nx (l1S F T)) := by
  have e1 : nE (bindP (.nm 4) Q (l1S F T)) = .ok [none, some (.val (.dict [])), some (.val F), some (.val T), some (.val Q), none, none, none] := rfl
  rw [e1, ok_bind]
  have hs : g_law_same [.int k, .int k] = .ok (.bool true) := same_int 11 k
  simp [lp_law_1, sq, hln, hF, h, h1, h2, hs, hF1, hC, hf]
abbrev l2S (F T V : D) : DSt := S_law_2 (.val (.dict [])) (.val F) (.val T) (.val V)
theorem turn_al (F T V : D) (x : Int) (P : D → Prop) (hb : ∀ W, W = V ∨ W = T → Al (g_law_bent [.dict [], W]) fun v => P v ∧ ∃ b, g_is_tree [F, v] = .ok (.bool b) ∧ g_law_is_tree [F, v, .tuple []] = .ok (.bool b)) : Al (nE (bindP (.nm 7) (.int x) (l2S F T V)) >>= lp_law_2) fun o => ∃ v, o = .nx (l2S F T v) ∧ P v := by
  have e1 : nE (bindP (.nm 7) (.int x) (l2S F T V)) = .ok [none, some (.val (.dict [])), some (.val F), some (.val T), none, none, some (.val V), some (.val (.int x))] := rfl
  rw [e1, ok_bind]
  unfold lp_law_2
  rw [al_sq, al_asg, al_callF, al_aCons]
  refine al_eq (a := .dict []) rfl ?_
  rw [al_aCons]
  have fin : ∀ W, W = V ∨ W = T → Al (aNil ([none, some (.val (.dict [])), some (.val F), some (.val T), none, none, some (.val V), some (.val (.int x))] : DSt)) fun xs => Al (g_law_bent (.dict [] :: W :: xs)) fun d => Al (asgD d [1, 1, 6, 3] (.nm 6) [none, some (.val (.dict [])), some (.val F), some (.val T), none, none, some (.val V), some (.val (.int x))]) fun o => Al (seqO o (seqF (ifS (tNt (tTr (callF g_law_same (aCons (callF g_is_tree (aCons (vr 2) (aCons (vr 6) (aNil)))) (aCons (callF g_law_is_tree (aCons (vr 2) (aCons (vr 6) (aCons (u1A tupD (aNil)) (aNil))))) (aNil)))))) (sRt (cB false)) (sNil)) (clr [7] (sNil)))) fun o => ∃ v, o = .nx (l2S F T v) ∧ P v := fun W hW => by
    rw [ev_aNil, al_ok]
    refine al_mono (hb W hW) fun v ⟨hP, b, t1, t2⟩ => ?_
    rw [asgD_v rfl, ev_bindN, ev_nE, ev_ok, al_ok, seqO_nx]
    have ed : ([none, some (.val (.dict [])), some (.val F), some (.val T), none, none, some (.val V), some (.val (.int x))] : DSt).set 6 (some (.val v)) = [none, some (.val (.dict [])), some (.val F), some (.val T), none, none, some (.val v), some (.val (.int x))] := rfl
    have hs : g_law_same [.bool b, .bool b] = .ok (.bool true) := same_bool 11 b
    rw [ed]
    refine al_eq (a := .nx (l2S F T v)) ?_ ⟨v, rfl, hP⟩
    simp [sq, t1, t2, hs]
  show Al ((ifE (tB2 eqD (callF g_law_draw (aCons (vr 1) (aCons (cI 3) (aNil)))) (cI 0)) (vr 6) (vr 3)) _) _
  rw [ev_ifE, al_bind, al_tB2, al_callF]
  refine al_eq (a := [.dict [], .int 3]) rfl ?_
  refine al_mono (al_dr (by omega) (by omega)) ?_
  rintro _ ⟨j, rfl, j0, j1⟩
  rw [ev_cI, al_ok, ev_eq, al_ok, ev_asB, al_ok]
  by_cases h0 : j = 0
  · rw [decide_eq_true h0, if_pos rfl]
    exact al_eq (a := V) rfl (fin V (.inl rfl))
  · rw [decide_eq_false h0, if_neg (by decide)]
    exact al_eq (a := T) rfl (fin T (.inr rfl))
theorem pool_ok (ns : List Int) (h : ns.length ≤ 1000) : g_law_pool [.list (iL ns)] = .ok (.dict []) :=
  if_pos ⟨allI_ints ns, by rw [List.length_map]; exact h⟩
theorem law_run (S F T : D) (n x1 x2 x3 : Int) (QS : List D) (hS : g_law_pool [S] = .ok (.dict [])) (hF : ixD F (.int 0) = .ok (.int n)) (b1 : g_is_tree [F, T] = .ok (.bool true)) (d1 : g_tree_depth [T] = .ok (.int x1)) (d2 : g_law_depth [T] = .ok (.int x1)) (v1 : g_tree_leaves [T] = .ok (.int x2)) (v2 : g_law_leaves [T] = .ok (.int x2)) (r1 : g_tree_rank [T] = .ok (.int x3)) (r2 : g_law_rank [T] = .ok (.int x3))
    (fF : flat F = true) (fT : flat T = true) (hq : g_law_cubes [.int n] = .ok (.list QS)) (go : forGo (.nm 4) lp_law_1 QS (l1S F T) = .ok (.nx (l1S F T))) (go2 : Al (forGo (.nm 7) lp_law_2 (rngL 0 8) (l2S F T T)) fun o => ∃ v, o = .nx (l2S F T v)) :
    Al (seqF (ifS (tOr' (tNt (tTr (callF g_law_same (aCons (callF g_is_tree (aCons (vr 2) (aCons (vr 3) (aNil)))) (aCons (cB true) (aNil)))))) (tNt (tTr (callF g_law_same (aCons (callF g_tree_depth (aCons (vr 3) (aNil))) (aCons (callF g_law_depth (aCons (vr 3) (aNil))) (aNil))))))) (sRt (cB false)) (sNil))
  (seqF (ifS (tOr' (tNt (tTr (callF g_law_same (aCons (callF g_tree_leaves (aCons (vr 3) (aNil))) (aCons (callF g_law_leaves (aCons (vr 3) (aNil))) (aNil)))))) (tNt (tTr (callF g_law_same (aCons (callF g_tree_rank (aCons (vr 3) (aNil))) (aCons (callF g_law_rank (aCons (vr 3) (aNil))) (aNil))))))) (sRt (cB false)) (sNil))
  (seqF (forFC [2] [0, 4, 5, 6, 7] (u1LE seqD (callF g_law_cubes (aCons (b2 ixD (vr 2) (cI 0)) (aNil)))) (.nm 4) (lp_law_1))
  (kx_law_2))) [some (.val S), some (.val (.dict [])), some (.val F), some (.val T), none, none, none, none]) fun o => Al (fnK o) fun d => d = .bool true := by
  have s1 : g_law_same [.bool true, .bool true] = .ok (.bool true) := same_bool 11 true
  have s2 : ∀ x, g_law_same [.int x, .int x] = .ok (.bool true) := fun x => same_int 11 x
  rw [sq_nx (δ' := [some (.val S), some (.val (.dict [])), some (.val F), some (.val T), none, none, none, none]) (by simp [b1, s1, d1, d2, s2])]
  rw [sq_nx (δ' := [some (.val S), some (.val (.dict [])), some (.val F), some (.val T), none, none, none, none]) (by simp [v1, v2, r1, r2, s2])]
  rw [sq_nx (δ' := l1S F T) (by simp [hF, hq, go])]
  unfold kx_law_2
  rw [sq_nx (δ' := [none, some (.val (.dict [])), some (.val F), some (.val T), none, none, some (.val T), none]) (by simp [fT]), al_sq]
  have hr : rng1D [.int 8] = .ok (rngL 0 8) := rng1_ok (by decide)
  have e : forRC [0, 4, 5, 7] (u1L rng1D (aCons (cI 8) (aNil))) (.nm 7) lp_law_2 [none, some (.val (.dict [])), some (.val F), some (.val T), none, none, some (.val T), none] = forGo (.nm 7) lp_law_2 (rngL 0 8) (l2S F T T) := by
    rw [ev_forRC]
    have : u1L rng1D (aCons (cI 8) (aNil)) [none, some (.val (.dict [])), some (.val F), some (.val T), none, none, some (.val T), none] = .ok (rngL 0 8) := by simp [hr]
    rw [this, ok_bind]; rfl
  rw [e]
  refine al_mono go2 ?_
  rintro _ ⟨v, rfl⟩
  rw [seqO_nx]
  exact al_eq (a := .rt (.bool true)) (by simp [kx_law_1]) (al_ok.mpr rfl)
theorem law_al (ns : List Int) (hns : ns.length ≤ 63) : Al (g_law [.list (iL ns)]) fun d => d = .bool true := by
  have hp := pool_ok ns (by omega)
  refine al_fn ?_
  have e0 : startD 8 [PyData.list (iL ns)] = [some (.val (.list (iL ns))), none, none, none, none, none, none, none] := rfl
  rw [e0]
  generalize PyData.list (iL ns) = S at hp ⊢
  unfold b_law
  rw [al_sq, al_asg]
  refine al_eq (a := .dict []) (by simp [hp]) ?_
  rw [asgD_v rfl, ev_bindN, ev_nE, ev_ok, al_ok, seqO_nx]
  have ed : ([some (.val S), none, none, none, none, none, none, none] : DSt).set 1 (some (.val (.dict []))) = [some (.val S), some (.val (.dict [])), none, none, none, none, none, none] := rfl
  rw [ed, al_sq, al_asg, al_callF]
  refine al_eq (a := [.dict [], .int 4]) rfl ?_
  refine al_mono (false_formula_al 4 (by decide)) ?_
  rintro _ ⟨n, N, cs, rfl, hN, n1, n2, hU, hl⟩
  have hN4 : N ≤ 4 := by omega
  have hpw : 2 ^ N ≤ 2 ^ 4 := Nat.pow_le_pow_right (by decide) hN4
  have hl : cs.length ≤ 100 := by
    have : (2 : Nat) ^ 4 = 16 := by decide
    omega
  have hc : ∀ c ∈ cs, c.length ≤ 1000 := fun c hc => by have := pc_len rfl (hU.fm.pc c hc); omega
  have fF : flat (encF n cs) = true := by simp
  rw [asgD_v rfl, ev_bindN, ev_nE, ev_ok, al_ok, seqO_nx]
  have ed : ([some (.val S), some (.val (.dict [])), none, none, none, none, none, none] : DSt).set 2 (some (.val (encF n cs))) = [some (.val S), some (.val (.dict [])), some (.val (encF n cs)), none, none, none, none, none] := rfl
  rw [ed, al_sq, al_asg, al_callF]
  refine al_eq (a := [.dict [], encF n cs, .tuple []]) ?_ ?_
  · generalize encF n cs = F
    simp
  have hfr : (frL N []).length ≤ 4 := Nat.le_trans (fr_small N []) hN4
  refine al_mono (some_tree_al n N hN (by omega) cs hU (by omega) 12 4 [] (pc_nil n) hfr (by decide)) ?_
  rintro _ ⟨t, rfl, hR, hd⟩
  have fT := flat_T t
  rw [asgD_v rfl, ev_bindN, ev_nE, ev_ok, al_ok, seqO_nx]
  have ed : ([some (.val S), some (.val (.dict [])), some (.val (encF n cs)), none, none, none, none, none] : DSt).set 3 (some (.val (encT t))) = [some (.val S), some (.val (.dict [])), some (.val (encF n cs)), some (.val (encT t)), none, none, none, none] := rfl
  rw [ed]
  obtain ⟨qs, q1, q2, q3⟩ := cubes_ok n N hN (by omega)
  obtain ⟨x1, d1, d2⟩ := depth_both t 12 (by omega)
  obtain ⟨x2, v1, v2⟩ := leaves_both t 12 (by omega)
  obtain ⟨x3, r1, r2⟩ := rank_both t 12 (by omega)
  have nt : NV 4 6 (encT t) := nv_up (Nat.le_refl _) (by omega) (nv_tree (Nat.le_refl _) t)
  have trees : ∀ (L e : Nat) (v : D), e ≤ 60 → NV L e v → ∃ b, g_is_tree [encF n cs, v] = .ok (.bool b) ∧ g_law_is_tree [encF n cs, v, .tuple []] = .ok (.bool b) := fun L e v he hv => by
    have h := both_ok n N hN (by omega) cs hc L e he 4 12 [] v (pc_nil n) hfr (by decide) hv
    exact ⟨_, is_tree_run _ _ _ h.1, h.2⟩
  have b1 : g_is_tree [encF n cs, encT t] = .ok (.bool true) := by
    have h := both_ok n N hN (by omega) cs hc 4 6 (by decide) 4 12 [] (encT t) (pc_nil n) hfr (by decide) nt
    rw [rt_tree hN 4 t [] hR hfr] at h
    exact is_tree_run _ _ _ h.1
  refine law_run S (encF n cs) (encT t) n x1 x2 x3 (qs.map tI) hp (ix_T0 _ _) b1 d2 d1 v2 v1 r2 r1 fF fT q3 ?_ ?_
  · obtain ⟨_, g1, _⟩ := for_ex (p := .nm 4) (body := lp_law_1) tI (fun _ : Unit => l1S (encF n cs) (encT t)) (fun _ _ => True) (l := qs) (s := ()) trivial (by
      intro done q rest s e _
      have hq := (q1 q).mp (by rw [e]; simp)
      refine ⟨(), ?_, trivial⟩
      by_cases h : (q.length : Int) = n
      · have hfull := (pc_full hN hq).mp (by omega)
        obtain ⟨i, hi, hi2, hf⟩ := rt_end hN hfull t [] hR (by simp)
        have h1 := find_leaf_ok q t (by omega)
        have h2 := law_end_ok q t 12 (by omega)
        have hf2 := fails_ok q cs[i] (hc _ (List.getElem_mem hi2))
        rw [hf] at hf2
        have hC : ixD (.tuple (cs.map tI)) (.int (endI t q)) = .ok (tI cs[i]) := by
          rw [hi]
          exact ix_T (by rw [List.getElem?_map, List.getElem?_eq_getElem hi2]; rfl)
        exact cube_go _ _ _ _ _ n (q.length : Int) _ (ix_T0 _ _) (ix_T1 _ _ _) (by simp) h h1 h2 hC hf2
      · exact cube_skip _ _ _ n (q.length : Int) (ix_T0 _ _) (by simp) h)
    exact g1
  · refine al_mono (al_rng (fun v => l2S (encF n cs) (encT t) v) (fun k v => NV (4 + k) (6 + k) v) (lo := 0) (hi := 8) (s := encT t) (by decide) nt (fun k v hk hv => ?_)) ?_
    · refine turn_al _ _ _ _ _ fun W hW => ?_
      have hW2 : NV (4 + k) (6 + k) W := by
        rcases hW with rfl | rfl
        · exact hv
        · exact nv_up (by omega) (by omega) nt
      have hb := bent_al (L := 4 + k) (by omega) (by omega) 24 (6 + k) W hW2 (by omega)
      exact al_mono hb fun v hv => ⟨hv, trees _ _ v (by omega) hv⟩
    · rintro _ ⟨v, rfl, _⟩
      exact ⟨v, rfl⟩
theorem law_math (ns : List Int) (hns : ns.length ≤ 63) : (g_law [.list (ns.map PyData.int)]).wp (fun d => d = .bool true) (fun _ => False) := (law_al ns hns).wp
end Law

set_option maxRecDepth 100000
set_option maxHeartbeats 4000000
namespace Law
open PySem PySem.Spec L2 DL
open PyProof.Rows hiding St
theorem all_mk {l : PySem.W.OpenLaw} {w : World} {K : PySem.W.Frag} {h : Heap} {mg : Str → Option Value} {fa : Addr} (X : K.In h) (G : h.Ns mainGlobals mg) (hfa : mg "law" = some (.ref fa))
    {f0 : Addr} {od0 an0 : Option Addr} {sl0 : Array (Option Value)} {oc0 kV0 dc0 pm0 cd0 ct0 : Value}
    (a0 : PySem.W.nsIn K mainGlobals "_law_pool" = some (some (.ref f0))) (l0 : K.lookup f0 = some ⟨oc0, od0, .func (PySem.W.fnOf "_law_pool" "_law_pool" (defArgs s_law_pool) (defBody s_law_pool) (defScope s_law_pool) .none kV0 dc0 pm0 an0 cd0 ct0), sl0⟩) (c0 : PySem.W.codeIn K cd0 "_law_pool" = true) (k0 : PySem.W.keepIn K (.ref f0) = true)
    {f1 : Addr} {od1 an1 : Option Addr} {sl1 : Array (Option Value)} {oc1 kV1 dc1 pm1 cd1 ct1 : Value}
    (a1 : PySem.W.nsIn K mainGlobals "_law_spread" = some (some (.ref f1))) (l1 : K.lookup f1 = some ⟨oc1, od1, .func (PySem.W.fnOf "_law_spread" "_law_spread" (defArgs s_law_spread) (defBody s_law_spread) (defScope s_law_spread) .none kV1 dc1 pm1 an1 cd1 ct1), sl1⟩) (c1 : PySem.W.codeIn K cd1 "_law_spread" = true) (k1 : PySem.W.keepIn K (.ref f1) = true)
    {f2 : Addr} {od2 an2 : Option Addr} {sl2 : Array (Option Value)} {oc2 kV2 dc2 pm2 cd2 ct2 : Value}
    (a2 : PySem.W.nsIn K mainGlobals "_law_draw" = some (some (.ref f2))) (l2 : K.lookup f2 = some ⟨oc2, od2, .func (PySem.W.fnOf "_law_draw" "_law_draw" (defArgs s_law_draw) (defBody s_law_draw) (defScope s_law_draw) .none kV2 dc2 pm2 an2 cd2 ct2), sl2⟩) (c2 : PySem.W.codeIn K cd2 "_law_draw" = true) (k2 : PySem.W.keepIn K (.ref f2) = true)
    {f3 : Addr} {od3 an3 : Option Addr} {sl3 : Array (Option Value)} {oc3 kV3 dc3 pm3 cd3 ct3 : Value}
    (a3 : PySem.W.nsIn K mainGlobals "_law_some_clause" = some (some (.ref f3))) (l3 : K.lookup f3 = some ⟨oc3, od3, .func (PySem.W.fnOf "_law_some_clause" "_law_some_clause" (defArgs s_law_some_clause) (defBody s_law_some_clause) (defScope s_law_some_clause) .none kV3 dc3 pm3 an3 cd3 ct3), sl3⟩) (c3 : PySem.W.codeIn K cd3 "_law_some_clause" = true) (k3 : PySem.W.keepIn K (.ref f3) = true)
    {f4 : Addr} {od4 an4 : Option Addr} {sl4 : Array (Option Value)} {oc4 kV4 dc4 pm4 cd4 ct4 : Value}
    (a4 : PySem.W.nsIn K mainGlobals "_law_drawn_formula" = some (some (.ref f4))) (l4 : K.lookup f4 = some ⟨oc4, od4, .func (PySem.W.fnOf "_law_drawn_formula" "_law_drawn_formula" (defArgs s_law_drawn_formula) (defBody s_law_drawn_formula) (defScope s_law_drawn_formula) .none kV4 dc4 pm4 an4 cd4 ct4), sl4⟩) (c4 : PySem.W.codeIn K cd4 "_law_drawn_formula" = true) (k4 : PySem.W.keepIn K (.ref f4) = true)
    {f5 : Addr} {od5 an5 : Option Addr} {sl5 : Array (Option Value)} {oc5 kV5 dc5 pm5 cd5 ct5 : Value}
    (a5 : PySem.W.nsIn K mainGlobals "_law_with" = some (some (.ref f5))) (l5 : K.lookup f5 = some ⟨oc5, od5, .func (PySem.W.fnOf "_law_with" "_law_with" (defArgs s_law_with) (defBody s_law_with) (defScope s_law_with) .none kV5 dc5 pm5 an5 cd5 ct5), sl5⟩) (c5 : PySem.W.codeIn K cd5 "_law_with" = true) (k5 : PySem.W.keepIn K (.ref f5) = true)
    {f6 : Addr} {od6 an6 : Option Addr} {sl6 : Array (Option Value)} {oc6 kV6 dc6 pm6 cd6 ct6 : Value}
    (a6 : PySem.W.nsIn K mainGlobals "_law_cubes" = some (some (.ref f6))) (l6 : K.lookup f6 = some ⟨oc6, od6, .func (PySem.W.fnOf "_law_cubes" "_law_cubes" (defArgs s_law_cubes) (defBody s_law_cubes) (defScope s_law_cubes) .none kV6 dc6 pm6 an6 cd6 ct6), sl6⟩) (c6 : PySem.W.codeIn K cd6 "_law_cubes" = true) (k6 : PySem.W.keepIn K (.ref f6) = true)
    {f7 : Addr} {od7 an7 : Option Addr} {sl7 : Array (Option Value)} {oc7 kV7 dc7 pm7 cd7 ct7 : Value}
    (a7 : PySem.W.nsIn K mainGlobals "_law_within" = some (some (.ref f7))) (l7 : K.lookup f7 = some ⟨oc7, od7, .func (PySem.W.fnOf "_law_within" "_law_within" (defArgs s_law_within) (defBody s_law_within) (defScope s_law_within) .none kV7 dc7 pm7 an7 cd7 ct7), sl7⟩) (c7 : PySem.W.codeIn K cd7 "_law_within" = true) (k7 : PySem.W.keepIn K (.ref f7) = true)
    {f8 : Addr} {od8 an8 : Option Addr} {sl8 : Array (Option Value)} {oc8 kV8 dc8 pm8 cd8 ct8 : Value}
    (a8 : PySem.W.nsIn K mainGlobals "_law_negated" = some (some (.ref f8))) (l8 : K.lookup f8 = some ⟨oc8, od8, .func (PySem.W.fnOf "_law_negated" "_law_negated" (defArgs s_law_negated) (defBody s_law_negated) (defScope s_law_negated) .none kV8 dc8 pm8 an8 cd8 ct8), sl8⟩) (c8 : PySem.W.codeIn K cd8 "_law_negated" = true) (k8 : PySem.W.keepIn K (.ref f8) = true)
    {f9 : Addr} {od9 an9 : Option Addr} {sl9 : Array (Option Value)} {oc9 kV9 dc9 pm9 cd9 ct9 : Value}
    (a9 : PySem.W.nsIn K mainGlobals "_law_fails" = some (some (.ref f9))) (l9 : K.lookup f9 = some ⟨oc9, od9, .func (PySem.W.fnOf "_law_fails" "_law_fails" (defArgs s_law_fails) (defBody s_law_fails) (defScope s_law_fails) .none kV9 dc9 pm9 an9 cd9 ct9), sl9⟩) (c9 : PySem.W.codeIn K cd9 "_law_fails" = true) (k9 : PySem.W.keepIn K (.ref f9) = true)
    {f10 : Addr} {od10 an10 : Option Addr} {sl10 : Array (Option Value)} {oc10 kV10 dc10 pm10 cd10 ct10 : Value}
    (a10 : PySem.W.nsIn K mainGlobals "_law_leaf" = some (some (.ref f10))) (l10 : K.lookup f10 = some ⟨oc10, od10, .func (PySem.W.fnOf "_law_leaf" "_law_leaf" (defArgs s_law_leaf) (defBody s_law_leaf) (defScope s_law_leaf) .none kV10 dc10 pm10 an10 cd10 ct10), sl10⟩) (c10 : PySem.W.codeIn K cd10 "_law_leaf" = true) (k10 : PySem.W.keepIn K (.ref f10) = true)
    {f11 : Addr} {od11 an11 : Option Addr} {sl11 : Array (Option Value)} {oc11 kV11 dc11 pm11 cd11 ct11 : Value}
    (a11 : PySem.W.nsIn K mainGlobals "_law_model" = some (some (.ref f11))) (l11 : K.lookup f11 = some ⟨oc11, od11, .func (PySem.W.fnOf "_law_model" "_law_model" (defArgs s_law_model) (defBody s_law_model) (defScope s_law_model) .none kV11 dc11 pm11 an11 cd11 ct11), sl11⟩) (c11 : PySem.W.codeIn K cd11 "_law_model" = true) (k11 : PySem.W.keepIn K (.ref f11) = true)
    {f12 : Addr} {od12 an12 : Option Addr} {sl12 : Array (Option Value)} {oc12 kV12 dc12 pm12 cd12 ct12 : Value}
    (a12 : PySem.W.nsIn K mainGlobals "_law_false_formula" = some (some (.ref f12))) (l12 : K.lookup f12 = some ⟨oc12, od12, .func (PySem.W.fnOf "_law_false_formula" "_law_false_formula" (defArgs s_law_false_formula) (defBody s_law_false_formula) (defScope s_law_false_formula) .none kV12 dc12 pm12 an12 cd12 ct12), sl12⟩) (c12 : PySem.W.codeIn K cd12 "_law_false_formula" = true) (k12 : PySem.W.keepIn K (.ref f12) = true)
    {f13 : Addr} {od13 an13 : Option Addr} {sl13 : Array (Option Value)} {oc13 kV13 dc13 pm13 cd13 ct13 : Value}
    (a13 : PySem.W.nsIn K mainGlobals "_law_free" = some (some (.ref f13))) (l13 : K.lookup f13 = some ⟨oc13, od13, .func (PySem.W.fnOf "_law_free" "_law_free" (defArgs s_law_free) (defBody s_law_free) (defScope s_law_free) .none kV13 dc13 pm13 an13 cd13 ct13), sl13⟩) (c13 : PySem.W.codeIn K cd13 "_law_free" = true) (k13 : PySem.W.keepIn K (.ref f13) = true)
    {f14 : Addr} {od14 an14 : Option Addr} {sl14 : Array (Option Value)} {oc14 kV14 dc14 pm14 cd14 ct14 : Value}
    (a14 : PySem.W.nsIn K mainGlobals "_law_some_tree" = some (some (.ref f14))) (l14 : K.lookup f14 = some ⟨oc14, od14, .func (PySem.W.fnOf "_law_some_tree" "_law_some_tree" (defArgs s_law_some_tree) (defBody s_law_some_tree) (defScope s_law_some_tree) .none kV14 dc14 pm14 an14 cd14 ct14), sl14⟩) (c14 : PySem.W.codeIn K cd14 "_law_some_tree" = true) (k14 : PySem.W.keepIn K (.ref f14) = true)
    {f15 : Addr} {od15 an15 : Option Addr} {sl15 : Array (Option Value)} {oc15 kV15 dc15 pm15 cd15 ct15 : Value}
    (a15 : PySem.W.nsIn K mainGlobals "_law_same" = some (some (.ref f15))) (l15 : K.lookup f15 = some ⟨oc15, od15, .func (PySem.W.fnOf "_law_same" "_law_same" (defArgs s_law_same) (defBody s_law_same) (defScope s_law_same) .none kV15 dc15 pm15 an15 cd15 ct15), sl15⟩) (c15 : PySem.W.codeIn K cd15 "_law_same" = true) (k15 : PySem.W.keepIn K (.ref f15) = true)
    {f16 : Addr} {od16 an16 : Option Addr} {sl16 : Array (Option Value)} {oc16 kV16 dc16 pm16 cd16 ct16 : Value}
    (a16 : PySem.W.nsIn K mainGlobals "is_integer" = some (some (.ref f16))) (l16 : K.lookup f16 = some ⟨oc16, od16, .func (PySem.W.fnOf "is_integer" "is_integer" (defArgs s_is_integer) (defBody s_is_integer) (defScope s_is_integer) .none kV16 dc16 pm16 an16 cd16 ct16), sl16⟩) (c16 : PySem.W.codeIn K cd16 "is_integer" = true) (k16 : PySem.W.keepIn K (.ref f16) = true)
    {f17 : Addr} {od17 an17 : Option Addr} {sl17 : Array (Option Value)} {oc17 kV17 dc17 pm17 cd17 ct17 : Value}
    (a17 : PySem.W.nsIn K mainGlobals "is_number" = some (some (.ref f17))) (l17 : K.lookup f17 = some ⟨oc17, od17, .func (PySem.W.fnOf "is_number" "is_number" (defArgs s_is_number) (defBody s_is_number) (defScope s_is_number) .none kV17 dc17 pm17 an17 cd17 ct17), sl17⟩) (c17 : PySem.W.codeIn K cd17 "is_number" = true) (k17 : PySem.W.keepIn K (.ref f17) = true)
    {f18 : Addr} {od18 an18 : Option Addr} {sl18 : Array (Option Value)} {oc18 kV18 dc18 pm18 cd18 ct18 : Value}
    (a18 : PySem.W.nsIn K mainGlobals "falsifies" = some (some (.ref f18))) (l18 : K.lookup f18 = some ⟨oc18, od18, .func (PySem.W.fnOf "falsifies" "falsifies" (defArgs s_falsifies) (defBody s_falsifies) (defScope s_falsifies) .none kV18 dc18 pm18 an18 cd18 ct18), sl18⟩) (c18 : PySem.W.codeIn K cd18 "falsifies" = true) (k18 : PySem.W.keepIn K (.ref f18) = true)
    {f19 : Addr} {od19 an19 : Option Addr} {sl19 : Array (Option Value)} {oc19 kV19 dc19 pm19 cd19 ct19 : Value}
    (a19 : PySem.W.nsIn K mainGlobals "with_literal" = some (some (.ref f19))) (l19 : K.lookup f19 = some ⟨oc19, od19, .func (PySem.W.fnOf "with_literal" "with_literal" (defArgs s_with_literal) (defBody s_with_literal) (defScope s_with_literal) .none kV19 dc19 pm19 an19 cd19 ct19), sl19⟩) (c19 : PySem.W.codeIn K cd19 "with_literal" = true) (k19 : PySem.W.keepIn K (.ref f19) = true)
    {f20 : Addr} {od20 an20 : Option Addr} {sl20 : Array (Option Value)} {oc20 kV20 dc20 pm20 cd20 ct20 : Value}
    (a20 : PySem.W.nsIn K mainGlobals "is_tree_below" = some (some (.ref f20))) (l20 : K.lookup f20 = some ⟨oc20, od20, .func (PySem.W.fnOf "is_tree_below" "is_tree_below" (defArgs s_is_tree_below) (defBody s_is_tree_below) (defScope s_is_tree_below) .none kV20 dc20 pm20 an20 cd20 ct20), sl20⟩) (c20 : PySem.W.codeIn K cd20 "is_tree_below" = true) (k20 : PySem.W.keepIn K (.ref f20) = true)
    {f21 : Addr} {od21 an21 : Option Addr} {sl21 : Array (Option Value)} {oc21 kV21 dc21 pm21 cd21 ct21 : Value}
    (a21 : PySem.W.nsIn K mainGlobals "is_tree" = some (some (.ref f21))) (l21 : K.lookup f21 = some ⟨oc21, od21, .func (PySem.W.fnOf "is_tree" "is_tree" (defArgs s_is_tree) (defBody s_is_tree) (defScope s_is_tree) .none kV21 dc21 pm21 an21 cd21 ct21), sl21⟩) (c21 : PySem.W.codeIn K cd21 "is_tree" = true) (k21 : PySem.W.keepIn K (.ref f21) = true)
    {f22 : Addr} {od22 an22 : Option Addr} {sl22 : Array (Option Value)} {oc22 kV22 dc22 pm22 cd22 ct22 : Value}
    (a22 : PySem.W.nsIn K mainGlobals "_law_depth" = some (some (.ref f22))) (l22 : K.lookup f22 = some ⟨oc22, od22, .func (PySem.W.fnOf "_law_depth" "_law_depth" (defArgs s_law_depth) (defBody s_law_depth) (defScope s_law_depth) .none kV22 dc22 pm22 an22 cd22 ct22), sl22⟩) (c22 : PySem.W.codeIn K cd22 "_law_depth" = true) (k22 : PySem.W.keepIn K (.ref f22) = true)
    {f23 : Addr} {od23 an23 : Option Addr} {sl23 : Array (Option Value)} {oc23 kV23 dc23 pm23 cd23 ct23 : Value}
    (a23 : PySem.W.nsIn K mainGlobals "tree_depth" = some (some (.ref f23))) (l23 : K.lookup f23 = some ⟨oc23, od23, .func (PySem.W.fnOf "tree_depth" "tree_depth" (defArgs s_tree_depth) (defBody s_tree_depth) (defScope s_tree_depth) .none kV23 dc23 pm23 an23 cd23 ct23), sl23⟩) (c23 : PySem.W.codeIn K cd23 "tree_depth" = true) (k23 : PySem.W.keepIn K (.ref f23) = true)
    {f24 : Addr} {od24 an24 : Option Addr} {sl24 : Array (Option Value)} {oc24 kV24 dc24 pm24 cd24 ct24 : Value}
    (a24 : PySem.W.nsIn K mainGlobals "_law_leaves" = some (some (.ref f24))) (l24 : K.lookup f24 = some ⟨oc24, od24, .func (PySem.W.fnOf "_law_leaves" "_law_leaves" (defArgs s_law_leaves) (defBody s_law_leaves) (defScope s_law_leaves) .none kV24 dc24 pm24 an24 cd24 ct24), sl24⟩) (c24 : PySem.W.codeIn K cd24 "_law_leaves" = true) (k24 : PySem.W.keepIn K (.ref f24) = true)
    {f25 : Addr} {od25 an25 : Option Addr} {sl25 : Array (Option Value)} {oc25 kV25 dc25 pm25 cd25 ct25 : Value}
    (a25 : PySem.W.nsIn K mainGlobals "tree_leaves" = some (some (.ref f25))) (l25 : K.lookup f25 = some ⟨oc25, od25, .func (PySem.W.fnOf "tree_leaves" "tree_leaves" (defArgs s_tree_leaves) (defBody s_tree_leaves) (defScope s_tree_leaves) .none kV25 dc25 pm25 an25 cd25 ct25), sl25⟩) (c25 : PySem.W.codeIn K cd25 "tree_leaves" = true) (k25 : PySem.W.keepIn K (.ref f25) = true)
    {f26 : Addr} {od26 an26 : Option Addr} {sl26 : Array (Option Value)} {oc26 kV26 dc26 pm26 cd26 ct26 : Value}
    (a26 : PySem.W.nsIn K mainGlobals "_law_rank" = some (some (.ref f26))) (l26 : K.lookup f26 = some ⟨oc26, od26, .func (PySem.W.fnOf "_law_rank" "_law_rank" (defArgs s_law_rank) (defBody s_law_rank) (defScope s_law_rank) .none kV26 dc26 pm26 an26 cd26 ct26), sl26⟩) (c26 : PySem.W.codeIn K cd26 "_law_rank" = true) (k26 : PySem.W.keepIn K (.ref f26) = true)
    {f27 : Addr} {od27 an27 : Option Addr} {sl27 : Array (Option Value)} {oc27 kV27 dc27 pm27 cd27 ct27 : Value}
    (a27 : PySem.W.nsIn K mainGlobals "tree_rank" = some (some (.ref f27))) (l27 : K.lookup f27 = some ⟨oc27, od27, .func (PySem.W.fnOf "tree_rank" "tree_rank" (defArgs s_tree_rank) (defBody s_tree_rank) (defScope s_tree_rank) .none kV27 dc27 pm27 an27 cd27 ct27), sl27⟩) (c27 : PySem.W.codeIn K cd27 "tree_rank" = true) (k27 : PySem.W.keepIn K (.ref f27) = true)
    {f28 : Addr} {od28 an28 : Option Addr} {sl28 : Array (Option Value)} {oc28 kV28 dc28 pm28 cd28 ct28 : Value}
    (a28 : PySem.W.nsIn K mainGlobals "find_leaf" = some (some (.ref f28))) (l28 : K.lookup f28 = some ⟨oc28, od28, .func (PySem.W.fnOf "find_leaf" "find_leaf" (defArgs s_find_leaf) (defBody s_find_leaf) (defScope s_find_leaf) .none kV28 dc28 pm28 an28 cd28 ct28), sl28⟩) (c28 : PySem.W.codeIn K cd28 "find_leaf" = true) (k28 : PySem.W.keepIn K (.ref f28) = true)
    {f29 : Addr} {od29 an29 : Option Addr} {sl29 : Array (Option Value)} {oc29 kV29 dc29 pm29 cd29 ct29 : Value}
    (a29 : PySem.W.nsIn K mainGlobals "_law_end" = some (some (.ref f29))) (l29 : K.lookup f29 = some ⟨oc29, od29, .func (PySem.W.fnOf "_law_end" "_law_end" (defArgs s_law_end) (defBody s_law_end) (defScope s_law_end) .none kV29 dc29 pm29 an29 cd29 ct29), sl29⟩) (c29 : PySem.W.codeIn K cd29 "_law_end" = true) (k29 : PySem.W.keepIn K (.ref f29) = true)
    {f30 : Addr} {od30 an30 : Option Addr} {sl30 : Array (Option Value)} {oc30 kV30 dc30 pm30 cd30 ct30 : Value}
    (a30 : PySem.W.nsIn K mainGlobals "_law_is_integer" = some (some (.ref f30))) (l30 : K.lookup f30 = some ⟨oc30, od30, .func (PySem.W.fnOf "_law_is_integer" "_law_is_integer" (defArgs s_law_is_integer) (defBody s_law_is_integer) (defScope s_law_is_integer) .none kV30 dc30 pm30 an30 cd30 ct30), sl30⟩) (c30 : PySem.W.codeIn K cd30 "_law_is_integer" = true) (k30 : PySem.W.keepIn K (.ref f30) = true)
    {f31 : Addr} {od31 an31 : Option Addr} {sl31 : Array (Option Value)} {oc31 kV31 dc31 pm31 cd31 ct31 : Value}
    (a31 : PySem.W.nsIn K mainGlobals "_law_bent" = some (some (.ref f31))) (l31 : K.lookup f31 = some ⟨oc31, od31, .func (PySem.W.fnOf "_law_bent" "_law_bent" (defArgs s_law_bent) (defBody s_law_bent) (defScope s_law_bent) .none kV31 dc31 pm31 an31 cd31 ct31), sl31⟩) (c31 : PySem.W.codeIn K cd31 "_law_bent" = true) (k31 : PySem.W.keepIn K (.ref f31) = true)
    {f32 : Addr} {od32 an32 : Option Addr} {sl32 : Array (Option Value)} {oc32 kV32 dc32 pm32 cd32 ct32 : Value}
    (a32 : PySem.W.nsIn K mainGlobals "_law_is_tree" = some (some (.ref f32))) (l32 : K.lookup f32 = some ⟨oc32, od32, .func (PySem.W.fnOf "_law_is_tree" "_law_is_tree" (defArgs s_law_is_tree) (defBody s_law_is_tree) (defScope s_law_is_tree) .none kV32 dc32 pm32 an32 cd32 ct32), sl32⟩) (c32 : PySem.W.codeIn K cd32 "_law_is_tree" = true) (k32 : PySem.W.keepIn K (.ref f32) = true)
    {f33 : Addr} {od33 an33 : Option Addr} {sl33 : Array (Option Value)} {oc33 kV33 dc33 pm33 cd33 ct33 : Value}
    (a33 : PySem.W.nsIn K mainGlobals "law" = some (some (.ref f33))) (l33 : K.lookup f33 = some ⟨oc33, od33, .func (PySem.W.fnOf "law" "law" (defArgs s_law) (defBody s_law) (defScope s_law) .none kV33 dc33 pm33 an33 cd33 ct33), sl33⟩) (c33 : PySem.W.codeIn K cd33 "law" = true) (k33 : PySem.W.keepIn K (.ref f33) = true)
    (z0 : PySem.W.nsIn K mainGlobals "all" = some none)
    (z1 : PySem.W.nsIn K mainGlobals "bool" = some none)
    (z2 : PySem.W.nsIn K mainGlobals "int" = some none)
    (z3 : PySem.W.nsIn K mainGlobals "isinstance" = some none)
    (z4 : PySem.W.nsIn K mainGlobals "len" = some none)
    (z5 : PySem.W.nsIn K mainGlobals "list" = some none)
    (z6 : PySem.W.nsIn K mainGlobals "max" = some none)
    (z7 : PySem.W.nsIn K mainGlobals "range" = some none)
    (z8 : PySem.W.nsIn K mainGlobals "set" = some none)
    (z9 : PySem.W.nsIn K mainGlobals "sorted" = some none)
    (z10 : PySem.W.nsIn K mainGlobals "str" = some none)
    (z11 : PySem.W.nsIn K mainGlobals "tuple" = some none)
    : ∃ fd : FuncData, (∀ (s : Shared) (v : Value), BindsTo s fd ⟨[v], []⟩ [("_law_script", v)]) ∧ ∀ base : Heap, K.In base → base.Ns mainGlobals mg → FnOk l.prog w K mg base CX0 28 fa fd ["_law_script"] (spLaw K) := by
  have T : Txt K mg := ⟨⟨PySem.W.mg_none_of X G z0, PySem.W.mg_none_of X G z1, PySem.W.mg_none_of X G z2, PySem.W.mg_none_of X G z3, PySem.W.mg_none_of X G z4, PySem.W.mg_none_of X G z5, PySem.W.mg_none_of X G z6, PySem.W.mg_none_of X G z7, PySem.W.mg_none_of X G z8, PySem.W.mg_none_of X G z9, PySem.W.mg_none_of X G z10, PySem.W.mg_none_of X G z11, trivial⟩,
    ⟨f0, _, fun_mk (st := s_law_pool) l0 c0 k0, PySem.W.mg_of X G a0, (fun_mk (st := s_law_pool) l0 c0 k0).binds fun _ _ _ _ _ _ us hl => match us, hl with | [_], _ => rfl⟩,
    ⟨f1, _, fun_mk (st := s_law_spread) l1 c1 k1, PySem.W.mg_of X G a1, (fun_mk (st := s_law_spread) l1 c1 k1).binds fun _ _ _ _ _ _ us hl => match us, hl with | [_], _ => rfl⟩,
    ⟨f2, _, fun_mk (st := s_law_draw) l2 c2 k2, PySem.W.mg_of X G a2, (fun_mk (st := s_law_draw) l2 c2 k2).binds fun _ _ _ _ _ _ us hl => match us, hl with | [_, _], _ => rfl⟩,
    ⟨f3, _, fun_mk (st := s_law_some_clause) l3 c3 k3, PySem.W.mg_of X G a3, (fun_mk (st := s_law_some_clause) l3 c3 k3).binds fun _ _ _ _ _ _ us hl => match us, hl with | [_, _, _], _ => rfl⟩,
    ⟨f4, _, fun_mk (st := s_law_drawn_formula) l4 c4 k4, PySem.W.mg_of X G a4, (fun_mk (st := s_law_drawn_formula) l4 c4 k4).binds fun _ _ _ _ _ _ us hl => match us, hl with | [_, _], _ => rfl⟩,
    ⟨f5, _, fun_mk (st := s_law_with) l5 c5 k5, PySem.W.mg_of X G a5, (fun_mk (st := s_law_with) l5 c5 k5).binds fun _ _ _ _ _ _ us hl => match us, hl with | [_, _], _ => rfl⟩,
    ⟨f6, _, fun_mk (st := s_law_cubes) l6 c6 k6, PySem.W.mg_of X G a6, (fun_mk (st := s_law_cubes) l6 c6 k6).binds fun _ _ _ _ _ _ us hl => match us, hl with | [_], _ => rfl⟩,
    ⟨f7, _, fun_mk (st := s_law_within) l7 c7 k7, PySem.W.mg_of X G a7, (fun_mk (st := s_law_within) l7 c7 k7).binds fun _ _ _ _ _ _ us hl => match us, hl with | [_, _], _ => rfl⟩,
    ⟨f8, _, fun_mk (st := s_law_negated) l8 c8 k8, PySem.W.mg_of X G a8, (fun_mk (st := s_law_negated) l8 c8 k8).binds fun _ _ _ _ _ _ us hl => match us, hl with | [_], _ => rfl⟩,
    ⟨f9, _, fun_mk (st := s_law_fails) l9 c9 k9, PySem.W.mg_of X G a9, (fun_mk (st := s_law_fails) l9 c9 k9).binds fun _ _ _ _ _ _ us hl => match us, hl with | [_, _], _ => rfl⟩,
    ⟨f10, _, fun_mk (st := s_law_leaf) l10 c10 k10, PySem.W.mg_of X G a10, (fun_mk (st := s_law_leaf) l10 c10 k10).binds fun _ _ _ _ _ _ us hl => match us, hl with | [_, _], _ => rfl⟩,
    ⟨f11, _, fun_mk (st := s_law_model) l11 c11 k11, PySem.W.mg_of X G a11, (fun_mk (st := s_law_model) l11 c11 k11).binds fun _ _ _ _ _ _ us hl => match us, hl with | [_], _ => rfl⟩,
    ⟨f12, _, fun_mk (st := s_law_false_formula) l12 c12 k12, PySem.W.mg_of X G a12, (fun_mk (st := s_law_false_formula) l12 c12 k12).binds fun _ _ _ _ _ _ us hl => match us, hl with | [_, _], _ => rfl⟩,
    ⟨f13, _, fun_mk (st := s_law_free) l13 c13 k13, PySem.W.mg_of X G a13, (fun_mk (st := s_law_free) l13 c13 k13).binds fun _ _ _ _ _ _ us hl => match us, hl with | [_, _], _ => rfl⟩,
    ⟨f14, _, fun_mk (st := s_law_some_tree) l14 c14 k14, PySem.W.mg_of X G a14, (fun_mk (st := s_law_some_tree) l14 c14 k14).binds fun _ _ _ _ _ _ us hl => match us, hl with | [_, _, _], _ => rfl⟩,
    ⟨f15, _, fun_mk (st := s_law_same) l15 c15 k15, PySem.W.mg_of X G a15, (fun_mk (st := s_law_same) l15 c15 k15).binds fun _ _ _ _ _ _ us hl => match us, hl with | [_, _], _ => rfl⟩,
    ⟨f16, _, fun_mk (st := s_is_integer) l16 c16 k16, PySem.W.mg_of X G a16, (fun_mk (st := s_is_integer) l16 c16 k16).binds fun _ _ _ _ _ _ us hl => match us, hl with | [_], _ => rfl⟩,
    ⟨f17, _, fun_mk (st := s_is_number) l17 c17 k17, PySem.W.mg_of X G a17, (fun_mk (st := s_is_number) l17 c17 k17).binds fun _ _ _ _ _ _ us hl => match us, hl with | [_], _ => rfl⟩,
    ⟨f18, _, fun_mk (st := s_falsifies) l18 c18 k18, PySem.W.mg_of X G a18, (fun_mk (st := s_falsifies) l18 c18 k18).binds fun _ _ _ _ _ _ us hl => match us, hl with | [_, _], _ => rfl⟩,
    ⟨f19, _, fun_mk (st := s_with_literal) l19 c19 k19, PySem.W.mg_of X G a19, (fun_mk (st := s_with_literal) l19 c19 k19).binds fun _ _ _ _ _ _ us hl => match us, hl with | [_, _], _ => rfl⟩,
    ⟨f20, _, fun_mk (st := s_is_tree_below) l20 c20 k20, PySem.W.mg_of X G a20, (fun_mk (st := s_is_tree_below) l20 c20 k20).binds fun _ _ _ _ _ _ us hl => match us, hl with | [_, _, _], _ => rfl⟩,
    ⟨f21, _, fun_mk (st := s_is_tree) l21 c21 k21, PySem.W.mg_of X G a21, (fun_mk (st := s_is_tree) l21 c21 k21).binds fun _ _ _ _ _ _ us hl => match us, hl with | [_, _], _ => rfl⟩,
    ⟨f22, _, fun_mk (st := s_law_depth) l22 c22 k22, PySem.W.mg_of X G a22, (fun_mk (st := s_law_depth) l22 c22 k22).binds fun _ _ _ _ _ _ us hl => match us, hl with | [_], _ => rfl⟩,
    ⟨f23, _, fun_mk (st := s_tree_depth) l23 c23 k23, PySem.W.mg_of X G a23, (fun_mk (st := s_tree_depth) l23 c23 k23).binds fun _ _ _ _ _ _ us hl => match us, hl with | [_], _ => rfl⟩,
    ⟨f24, _, fun_mk (st := s_law_leaves) l24 c24 k24, PySem.W.mg_of X G a24, (fun_mk (st := s_law_leaves) l24 c24 k24).binds fun _ _ _ _ _ _ us hl => match us, hl with | [_], _ => rfl⟩,
    ⟨f25, _, fun_mk (st := s_tree_leaves) l25 c25 k25, PySem.W.mg_of X G a25, (fun_mk (st := s_tree_leaves) l25 c25 k25).binds fun _ _ _ _ _ _ us hl => match us, hl with | [_], _ => rfl⟩,
    ⟨f26, _, fun_mk (st := s_law_rank) l26 c26 k26, PySem.W.mg_of X G a26, (fun_mk (st := s_law_rank) l26 c26 k26).binds fun _ _ _ _ _ _ us hl => match us, hl with | [_], _ => rfl⟩,
    ⟨f27, _, fun_mk (st := s_tree_rank) l27 c27 k27, PySem.W.mg_of X G a27, (fun_mk (st := s_tree_rank) l27 c27 k27).binds fun _ _ _ _ _ _ us hl => match us, hl with | [_], _ => rfl⟩,
    ⟨f28, _, fun_mk (st := s_find_leaf) l28 c28 k28, PySem.W.mg_of X G a28, (fun_mk (st := s_find_leaf) l28 c28 k28).binds fun _ _ _ _ _ _ us hl => match us, hl with | [_, _], _ => rfl⟩,
    ⟨f29, _, fun_mk (st := s_law_end) l29 c29 k29, PySem.W.mg_of X G a29, (fun_mk (st := s_law_end) l29 c29 k29).binds fun _ _ _ _ _ _ us hl => match us, hl with | [_, _], _ => rfl⟩,
    ⟨f30, _, fun_mk (st := s_law_is_integer) l30 c30 k30, PySem.W.mg_of X G a30, (fun_mk (st := s_law_is_integer) l30 c30 k30).binds fun _ _ _ _ _ _ us hl => match us, hl with | [_], _ => rfl⟩,
    ⟨f31, _, fun_mk (st := s_law_bent) l31 c31 k31, PySem.W.mg_of X G a31, (fun_mk (st := s_law_bent) l31 c31 k31).binds fun _ _ _ _ _ _ us hl => match us, hl with | [_, _], _ => rfl⟩,
    ⟨f32, _, fun_mk (st := s_law_is_tree) l32 c32 k32, PySem.W.mg_of X G a32, (fun_mk (st := s_law_is_tree) l32 c32 k32).binds fun _ _ _ _ _ _ us hl => match us, hl with | [_, _, _], _ => rfl⟩,
    ⟨f33, _, fun_mk (st := s_law) l33 c33 k33, PySem.W.mg_of X G a33, (fun_mk (st := s_law) l33 c33 k33).binds fun _ _ _ _ _ _ us hl => match us, hl with | [_], _ => rfl⟩⟩
  have e := hfa.symm.trans (PySem.W.mg_of X G a33)
  cases e
  refine ⟨PySem.W.fnOf "law" "law" (defArgs s_law) (defBody s_law) (defScope s_law) .none kV33 dc33 pm33 an33 cd33 ct33, fun s v => .of_eq rfl, fun base KB GB => ?_⟩
  exact law_okA (all_law T base (fun_mk (st := s_law) l33 c33 k33)) law_math
end Law
open PySem PySem.W PyProof.Rows
set_option maxHeartbeats 0 in
theorem PySem.Challenge.cw_rebut_k23_trees_holds : PySem.Challenge.rw_rebut_k23_trees.Holds := by
  w_on; o_law; k_head; (case hw => w_witness2)
  k_fill
  refine L2.walk_of (l := PySem.Challenge.rw_rebut_k23_trees) (n := 63) (k := 28) (x := "_law_script") (CX := fun _ => L2.CX0) (sp := fun w => Law.spLaw _) rfl (by decide) rfl ⟨rfl, by decide, by decide⟩ (fun w h Y => PySem.W.kIn_of Y) ?F (fun _ _ a ns hl o hS => ⟨a, ns, rfl, o, hS, hl, fun _ => rfl⟩) (fun _ _ _ _ _ h => h)
  case F =>
    intro w mg fa h KX G hmg
    refine' Law.all_mk KX G hmg ?a0 ?l0 ?c0 ?k0 ?a1 ?l1 ?c1 ?k1 ?a2 ?l2 ?c2 ?k2 ?a3 ?l3 ?c3 ?k3 ?a4 ?l4 ?c4 ?k4 ?a5 ?l5 ?c5 ?k5 ?a6 ?l6 ?c6 ?k6 ?a7 ?l7 ?c7 ?k7 ?a8 ?l8 ?c8 ?k8 ?a9 ?l9 ?c9 ?k9 ?a10 ?l10 ?c10 ?k10 ?a11 ?l11 ?c11 ?k11 ?a12 ?l12 ?c12 ?k12 ?a13 ?l13 ?c13 ?k13 ?a14 ?l14 ?c14 ?k14 ?a15 ?l15 ?c15 ?k15 ?a16 ?l16 ?c16 ?k16 ?a17 ?l17 ?c17 ?k17 ?a18 ?l18 ?c18 ?k18 ?a19 ?l19 ?c19 ?k19 ?a20 ?l20 ?c20 ?k20 ?a21 ?l21 ?c21 ?k21 ?a22 ?l22 ?c22 ?k22 ?a23 ?l23 ?c23 ?k23 ?a24 ?l24 ?c24 ?k24 ?a25 ?l25 ?c25 ?k25 ?a26 ?l26 ?c26 ?k26 ?a27 ?l27 ?c27 ?k27 ?a28 ?l28 ?c28 ?k28 ?a29 ?l29 ?c29 ?k29 ?a30 ?l30 ?c30 ?k30 ?a31 ?l31 ?c31 ?k31 ?a32 ?l32 ?c32 ?k32 ?a33 ?l33 ?c33 ?k33 ?z0 ?z1 ?z2 ?z3 ?z4 ?z5 ?z6 ?z7 ?z8 ?z9 ?z10 ?z11
    (case a0 => k_is); (case l0 => k_is); (case c0 => k_is); (case k0 => k_is); (case a1 => k_is); (case l1 => k_is); (case c1 => k_is); (case k1 => k_is); (case a2 => k_is); (case l2 => k_is); (case c2 => k_is); (case k2 => k_is); (case a3 => k_is); (case l3 => k_is); (case c3 => k_is); (case k3 => k_is); (case a4 => k_is); (case l4 => k_is); (case c4 => k_is); (case k4 => k_is); (case a5 => k_is); (case l5 => k_is); (case c5 => k_is); (case k5 => k_is); (case a6 => k_is); (case l6 => k_is); (case c6 => k_is); (case k6 => k_is); (case a7 => k_is); (case l7 => k_is); (case c7 => k_is); (case k7 => k_is); (case a8 => k_is); (case l8 => k_is); (case c8 => k_is); (case k8 => k_is); (case a9 => k_is); (case l9 => k_is); (case c9 => k_is); (case k9 => k_is); (case a10 => k_is); (case l10 => k_is); (case c10 => k_is); (case k10 => k_is); (case a11 => k_is); (case l11 => k_is); (case c11 => k_is); (case k11 => k_is); (case a12 => k_is); (case l12 => k_is); (case c12 => k_is); (case k12 => k_is); (case a13 => k_is); (case l13 => k_is); (case c13 => k_is); (case k13 => k_is); (case a14 => k_is); (case l14 => k_is); (case c14 => k_is); (case k14 => k_is); (case a15 => k_is); (case l15 => k_is); (case c15 => k_is); (case k15 => k_is); (case a16 => k_is); (case l16 => k_is); (case c16 => k_is); (case k16 => k_is); (case a17 => k_is); (case l17 => k_is); (case c17 => k_is); (case k17 => k_is); (case a18 => k_is); (case l18 => k_is); (case c18 => k_is); (case k18 => k_is); (case a19 => k_is); (case l19 => k_is); (case c19 => k_is); (case k19 => k_is); (case a20 => k_is); (case l20 => k_is); (case c20 => k_is); (case k20 => k_is); (case a21 => k_is); (case l21 => k_is); (case c21 => k_is); (case k21 => k_is); (case a22 => k_is); (case l22 => k_is); (case c22 => k_is); (case k22 => k_is); (case a23 => k_is); (case l23 => k_is); (case c23 => k_is); (case k23 => k_is); (case a24 => k_is); (case l24 => k_is); (case c24 => k_is); (case k24 => k_is); (case a25 => k_is); (case l25 => k_is); (case c25 => k_is); (case k25 => k_is); (case a26 => k_is); (case l26 => k_is); (case c26 => k_is); (case k26 => k_is); (case a27 => k_is); (case l27 => k_is); (case c27 => k_is); (case k27 => k_is); (case a28 => k_is); (case l28 => k_is); (case c28 => k_is); (case k28 => k_is); (case a29 => k_is); (case l29 => k_is); (case c29 => k_is); (case k29 => k_is); (case a30 => k_is); (case l30 => k_is); (case c30 => k_is); (case k30 => k_is); (case a31 => k_is); (case l31 => k_is); (case c31 => k_is); (case k31 => k_is); (case a32 => k_is); (case l32 => k_is); (case c32 => k_is); (case k32 => k_is); (case a33 => k_is); (case l33 => k_is); (case c33 => k_is); (case k33 => k_is); (case z0 => k_is); (case z1 => k_is); (case z2 => k_is); (case z3 => k_is); (case z4 => k_is); (case z5 => k_is); (case z6 => k_is); (case z7 => k_is); (case z8 => k_is); (case z9 => k_is); (case z10 => k_is); (case z11 => k_is)

