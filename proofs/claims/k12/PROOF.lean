import PyProof.Rows.All
import HandS.ForMost
import HandS.Deep
import HandS.SortInts
import HandS.TupSets
import HandS.Codes
import KE.SortData
import KE.DataCmp
import KE.DataIsa
import HandS.TupAny
import HandS.TupLe
import HandS.IsInst
import HandS.Text
import HandS.Zip
import HandS.NoneIn
import HandS.Rev
import KE.GoesEnum
import HandS.Dict
import HandS.Conv
import HandS.ExcValue
import KE.KDictSum
import HandS.Style
import PyProof.ListCopy
import HandS.Star
import HandS.SortKw
import HandS.Strs
import HandS.TupMul
import HandS.Iter
import HandS.Sort
import HandS.ForExc
import HandS.WordsExc
import HandS.CallSlots
import HandS.ExcInit
import HandS.FStr
import KE.KExcSuper
import KE.KSuper
import HandS.ExcField
import HandS.DictTup
import PyProof.DictMoreH
import Wide.FinOn
import PySem.Challenge.RW_rebut_k12_pigeons
set_option Elab.async false
set_option linter.all false
set_option maxRecDepth 100000
set_option maxHeartbeats 4000000
namespace DL
open PySem PySem.Spec L2
open PyProof.Rows hiding St

/-! ### outcomes -/
abbrev D := PyData
structure Exn where
  cls : Str
  fld : Option (Str × Int)
/-- pick m k: any number below m -/
inductive Res (α : Type) where
  | bot | ok (a : α) | err (x : Exn) | pick (m : Int) (k : Int → Res α)
def Res.bind {α β : Type} (r : Res α) (f : α → Res β) : Res β := match r with
  | .ok a => f a
  | .err x => .err x
  | .bot => .bot
  | .pick m k => .pick m fun i => (k i).bind f
instance : Monad Res where
  pure := .ok
  bind := Res.bind
theorem ok_bind {α β : Type} (a : α) (f : α → Res β) : (Res.ok a >>= f) = f a := rfl
theorem err_bind {α β : Type} (x : Exn) (f : α → Res β) : (Res.err x >>= f) = .err x := rfl
theorem bot_bind {α β : Type} (f : α → Res β) : (Res.bot >>= f) = .bot := rfl
theorem pick_bind {α β : Type} (m : Int) (k : Int → Res α) (f : α → Res β) : (Res.pick m k >>= f) = .pick m fun i => k i >>= f := rfl
theorem pure_ok {α : Type} (a : α) : (pure a : Res α) = .ok a := rfl
theorem Res.bind_assoc {α β γ : Type} (r : Res α) (f : α → Res β) (g : β → Res γ) : ((r >>= f) >>= g) = (r >>= fun a => f a >>= g) := by
  induction r with
  | pick m k ih =>
    rw [pick_bind, pick_bind, pick_bind]
    congr 1
    funext i
    exact ih i
  | _ => rfl
def Res.wp {α : Type} (r : Res α) (Q : α → Prop) (E : Exn → Prop) : Prop :=
  match r with
  | .ok a => Q a
  | .err x => E x
  | .bot => False
  | .pick m k => 0 < m ∧ ∀ i, 0 ≤ i → i < m → (k i).wp Q E
theorem wp_ok {α : Type} {a : α} {Q : α → Prop} {E : Exn → Prop} : (Res.ok a).wp Q E = Q a := rfl
theorem wp_pick {α : Type} {m : Int} {k : Int → Res α} {Q : α → Prop} {E : Exn → Prop} : (Res.pick m k).wp Q E = (0 < m ∧ ∀ i, 0 ≤ i → i < m → (k i).wp Q E) := rfl
theorem wp_bind {α β : Type} (r : Res α) (f : α → Res β) (Q : β → Prop) (E : Exn → Prop) : (r >>= f).wp Q E = r.wp (fun a => (f a).wp Q E) E := by
  induction r with
  | pick m k ih =>
    rw [pick_bind, wp_pick, wp_pick]
    congr 1
    apply forall_congr
    intro i
    rw [ih i]
  | _ => rfl
theorem wp_mono {α : Type} {r : Res α} {Q Q' : α → Prop} {E E' : Exn → Prop} (h : r.wp Q E) (hQ : ∀ a, Q a → Q' a) (hE : ∀ x, E x → E' x) : r.wp Q' E' := by
  induction r with
  | ok a => exact hQ a h
  | err x => exact hE x h
  | bot => exact h
  | pick m k ih => exact ⟨h.1, fun i h0 h1 => ih i (h.2 i h0 h1)⟩
/-- what may come out -/
def Res.can {α : Type} (r : Res α) (a : α) : Prop :=
  match r with
  | .ok b => b = a
  | .err _ => False
  | .bot => False
  | .pick m k => ∃ i, 0 ≤ i ∧ i < m ∧ (k i).can a
theorem can_bind {α β : Type} {r : Res α} {f : α → Res β} {b : β} (h : (r >>= f).can b) : ∃ a, r.can a ∧ (f a).can b := by
  induction r with
  | ok a => exact ⟨a, rfl, h⟩
  | err x => exact h.elim
  | bot => exact h.elim
  | pick m k ih =>
    obtain ⟨i, h0, h1, h2⟩ := h
    obtain ⟨a, g1, g2⟩ := ih i h2
    exact ⟨a, ⟨i, h0, h1, g1⟩, g2⟩
theorem wp_and_can {α : Type} {r : Res α} {Q : α → Prop} {E : Exn → Prop} (h : r.wp Q E) : r.wp (fun a => Q a ∧ r.can a) E := by
  induction r with
  | ok a => exact ⟨h, rfl⟩
  | err x => exact h
  | bot => exact h
  | pick m k ih => exact ⟨h.1, fun i h0 h1 => wp_mono (ih i (h.2 i h0 h1)) (fun a ⟨q, c⟩ => ⟨q, i, h0, h1, c⟩) fun _ h => h⟩
/-- it never raises -/
def Res.quiet {α : Type} (r : Res α) : Prop :=
  match r with
  | .ok _ => True
  | .err _ => False
  | .bot => True
  | .pick _ k => ∀ i, (k i).quiet
theorem quiet_bind {α β : Type} {r : Res α} {f : α → Res β} (h1 : r.quiet) (h2 : ∀ a, (f a).quiet) : (r >>= f).quiet := by
  induction r with
  | ok a => exact h2 a
  | err x => exact h1.elim
  | bot => exact True.intro
  | pick m k ih => exact fun i => ih i (h1 i)
theorem wp_quiet {α : Type} {r : Res α} {Q : α → Prop} {E E' : Exn → Prop} (hn : r.quiet) (h : r.wp Q E) : r.wp Q E' := by
  induction r with
  | ok a => exact h
  | err x => exact hn.elim
  | bot => exact h
  | pick m k ih => exact ⟨h.1, fun i h0 h1 => ih i (hn i) (h.2 i h0 h1)⟩
/-- one thing that may come out -/
theorem wp_some {α : Type} {r : Res α} {Q : α → Prop} {E : Exn → Prop} (hn : r.quiet) (h : r.wp Q E) : ∃ a, Q a := by
  induction r with
  | ok a => exact ⟨a, h⟩
  | err x => exact hn.elim
  | bot => exact h.elim
  | pick m k ih => exact ih 0 (hn 0) (h.2 0 (Int.le_refl _) h.1)
/-- one result alone -/
def Res.dt {α : Type} : Res α → Res α
  | .pick _ _ => .bot
  | r => r
def dtF {α β : Type} (f : β → Res α) (x : β) : Res α := (f x).dt
theorem dt_wp {α : Type} {r : Res α} {Q : α → Prop} {E : Exn → Prop} (h : r.dt.wp Q E) : r.wp Q E ∧ ∀ m k, r ≠ .pick m k := by
  cases r with
  | pick m k => exact h.elim
  | _ => exact ⟨h, fun _ _ z => by cases z⟩

/-! ### how data lies in the abstract heap; Fz: the lists that are not changed any more -/
abbrev FZ := Addr → Prop
/-- a list that is not changed any more: frozen, locked, or the module's own -/
def LsF (K : PySem.W.Frag) (Fz : FZ) (H : Hp) (a : Addr) (xs : List V) : Prop := (H a = some (.lst xs) ∧ Fz a) ∨ (∃ o, H a = some (.frz o (.lst xs))) ∨
    ∃ (o : Obj) (its : Array Value) (n : Nat), K.lookup a = some o ∧ o.cls = .type "list" ∧ o.dict = none ∧ o.data = .seq its n ∧ its.size ≤ sizeLine ∧ Vals xs its.toList
theorem LsF.sq {K : PySem.W.Frag} {Fz : FZ} {H : Hp} {a : Addr} {xs : List V} (h : LsF K Fz H a xs) : SqL K H a xs := by
  rcases h with ⟨h, _⟩ | ⟨o, h⟩ | h
  · exact .inl (.inl h)
  · exact .inl (.inr ⟨o, h⟩)
  · exact .inr h
/-- a tuple of whole numbers is no constant of the module: it may be a key -/
def allI : List PyData → Bool
  | [] => true
  | .int _ :: r => allI r
  | _ :: _ => false
/-- tuples of whole numbers alone -/
def allC : List PyData → Bool
  | [] => true
  | .tuple xs :: r => allI xs && allC r
  | _ :: _ => false
/-- a tuple that has no dict of its own -/
def BareT (K : PySem.W.Frag) (H : Hp) (a : Addr) (xs : List V) : Prop := (∃ o, H a = some (.frz o (.tup xs)) ∧ o.dict = none) ∨ ∃ o, K.lookup a = some o ∧ o.cls = .type "tuple" ∧ o.dict = none
/-- a tuple of whole numbers stands as a plain one (it may be a key); one of such tuples is bare (it has methods) -/
structure TupF (K : PySem.W.Frag) (H : Hp) (a : Addr) (xs : List V) (ds : List PyData) : Prop where
  sq : SqT K H a xs
  pl : allI ds = true → H a = some (.tup xs)
  nd : allI ds = false → allC ds = true → BareT K H a xs
theorem TupF.of {K : PySem.W.Frag} {H : Hp} {a : Addr} {xs : List V} {ds : List PyData} (h : H a = some (.tup xs)) (hn : allI ds = true ∨ allC ds = false) : TupF K H a xs ds := ⟨.inl (.inl h), fun _ => h, fun e f => by
  rcases hn with z | z
  · rw [e] at z; cases z
  · rw [f] at z; cases z⟩
theorem TupF.frz {K : PySem.W.Frag} {H : Hp} {a : Addr} {o : Obj} {xs : List V} {ds : List PyData} (h : H a = some (.frz o (.tup xs))) (hd : o.dict = none) (hi : allI ds = false) : TupF K H a xs ds := ⟨.inl (.inr ⟨o, h⟩), fun e => by (rw [hi] at e; cases e), fun _ _ => .inl ⟨o, h, hd⟩⟩
/-- a new tuple, plain or bare, as one likes -/
def NewT (H : Hp) (Q : VK) (xs : List V) : Prop := (∀ p, H p = none → Q (.ref p) (upd H p (.tup xs))) ∨ ∀ p o, H p = none → o.dict = none → Q (.ref p) (upd H p (.frz o (.tup xs)))
/-- a dict's key as data -/
def kyD : Key → PyData
  | .inl i => .int i
  | .inr x => .str x
def kyT (k : List Key) : PyData := .tuple (k.map kyD)
abbrev HeldF (Fz : FZ) (H : Hp) (a : Addr) (u : HO) : Prop := H a = some u ∧ Fz a
/-- a dict as data: are its keys tuples, the keys, the values -/
def dcD (t : Bool) (ks vs : List PyData) : PyData := .dict [(.bool t, .tuple ks), (.none, .tuple vs)]
/-- the draws' state: a list of five, the numbers' list, four whole numbers -/
def PoolAt (b a : Addr) (h : Heap) : Prop := ∃ (i1 i2 i3 i4 : Int) (t1 t2 t3 t4 : Tok) (n : Nat), h.get? a = some { cls := .type "list", data := .seq #[.ref b, .int i1 t1, .int i2 t2, .int i3 t3, .int i4 t4] n } ∧ 0 ≤ i1
def isPool : PyData → Bool
  | .dict [] => true
  | .dict [(.int _, _)] => true
  | .dict ((.str _, _) :: _) => true
  | _ => false
/-- an instance as data: its class, the fields' names, their values -/
def insD (cn : Str) (names : List Str) (ds : List PyData) : PyData := .dict [(.str cn, .tuple (names.map PyData.str)), (.none, .tuple ds)]
/-- the class of this name in the module -/
def ClsAt (K : PySem.W.Frag) (cn : Str) (C : Addr) : Prop := PySem.W.nsIn K mainGlobals cn = some (some (.ref C))
mutual
inductive Rep (K : PySem.W.Frag) (Fz : FZ) (H : Hp) : V → PyData → Prop
  | non : Rep K Fz H .non .none
  | bl (b : Bool) : Rep K Fz H (.bl b) (.bool b)
  | int (i : Int) : Rep K Fz H (.int i) (.int i)
  | str (x : Str) : Rep K Fz H (.str x) (.str x)
  | lst {a : Addr} {xs : List V} {ds : List PyData} : LsF K Fz H a xs → ds.length ≤ sizeLine → RepAll K Fz H xs ds → Rep K Fz H (.ref a) (.list ds)
  | tup {a : Addr} {xs : List V} {ds : List PyData} : TupF K H a xs ds → ds.length ≤ sizeLine → RepAll K Fz H xs ds → Rep K Fz H (.ref a) (.tuple ds)
  | dck {a : Addr} {kvs : List (Key × V)} {ks vs : List PyData} : HeldF Fz H a (.dK kvs) → ks = kvs.map (fun p => kyD p.1) → RepAll K Fz H (kvs.map (·.2)) vs → Rep K Fz H (.ref a) (.dict [(.bool false, .tuple ks), (.none, .tuple vs)])
  | dct {a : Addr} {kvs : List (List Key × V)} {ks vs : List PyData} : HeldF Fz H a (.dT kvs) → ks = kvs.map (fun p => kyT p.1) → RepAll K Fz H (kvs.map (·.2)) vs → Rep K Fz H (.ref a) (.dict [(.bool true, .tuple ks), (.none, .tuple vs)])
  | pool {a b : Addr} {xs : List V} {ds : List PyData} : HeldF Fz H a (.ext (PoolAt b a)) → LsF K Fz H b xs → ds.length ≤ sizeLine → allI ds = true → RepAll K Fz H xs ds → Rep K Fz H (.ref a) (.dict [])
  | nl {b : Addr} {xs : List V} {ds : List PyData} : LsF K Fz H b xs → ds.length ≤ sizeLine → RepAll K Fz H xs ds → Rep K Fz H (.ref b) (.dict [(.int b, .list ds)])
  | ins {a C dx : Addr} {cn : Str} {names : List Str} {us : List V} {ds : List PyData} : HeldF Fz H a (.ins C dx (names.zip us)) → ClsAt K cn C → us.length = names.length → RepAll K Fz H us ds → Rep K Fz H (.ref a) (.dict [(.str cn, .tuple (names.map PyData.str)), (.none, .tuple ds)])
inductive RepAll (K : PySem.W.Frag) (Fz : FZ) (H : Hp) : List V → List PyData → Prop
  | nil : RepAll K Fz H [] []
  | cons {v : V} {vs : List V} {d : PyData} {ds : List PyData} : Rep K Fz H v d → RepAll K Fz H vs ds → RepAll K Fz H (v :: vs) (d :: ds)
end
mutual
def nodc : PyData → Bool
  | .dict _ => false
  | .list xs => nodcAll xs
  | .tuple xs => nodcAll xs
  | .none => true
  | .bool _ => true
  | .int _ => true
  | .str _ => true
def nodcAll : List PyData → Bool
  | [] => true
  | x :: xs => nodc x && nodcAll xs
end
mutual
theorem Rep.dp {K : PySem.W.Frag} {Fz : FZ} {H : Hp} : ∀ {v : V} {d : PyData}, Rep K Fz H v d → nodc d = true → Dp K H v d
  | _, _, .non, _ => .non
  | _, _, .bl b, _ => .bl b
  | _, _, .int i, _ => .int i
  | _, _, .str x, _ => .str x
  | _, _, .lst h _ r, n => .lst h.sq (r.dp (by rw [nodc] at n; exact n))
  | _, _, .tup h _ r, n => .tup h.sq (r.dp (by rw [nodc] at n; exact n))
  | _, _, .dck _ _ _, n => by rw [nodc] at n; cases n
  | _, _, .dct _ _ _, n => by rw [nodc] at n; cases n
  | _, _, .pool _ _ _ _ _, n => by rw [nodc] at n; cases n
  | _, _, .nl _ _ _, n => by rw [nodc] at n; cases n
  | _, _, .ins _ _ _ _, n => by rw [nodc] at n; cases n
theorem RepAll.dp {K : PySem.W.Frag} {Fz : FZ} {H : Hp} : ∀ {vs : List V} {ds : List PyData}, RepAll K Fz H vs ds → nodcAll ds = true → DpAll K H vs ds
  | _, _, .nil, _ => .nil
  | _, _, .cons h r, n => by
    rw [nodcAll, Bool.and_eq_true] at n
    exact .cons (h.dp n.1) (r.dp n.2)
end
mutual
theorem nodc_lay : ∀ d : PyData, d.canLay0 = true → nodc d = true
  | .none, _ => rfl
  | .bool _, _ => rfl
  | .int _, _ => rfl
  | .str _, _ => rfl
  | .list xs, h => by
    rw [nodc]
    exact nodcAll_lay xs (by simpa [PyData.canLay0] using h)
  | .tuple xs, h => by
    rw [nodc]
    exact nodcAll_lay xs (by simpa [PyData.canLay0] using h)
  | .dict _, h => by simp [PyData.canLay0] at h
theorem nodcAll_lay : ∀ ds : List PyData, PyData.canLayAll0 ds = true → nodcAll ds = true
  | [], _ => rfl
  | d :: ds, h => by
    rw [PyData.canLayAll0, Bool.and_eq_true] at h
    rw [nodcAll, nodc_lay d h.1, nodcAll_lay ds h.2]
    rfl
end
theorem nodc_shaped {d : PyData} (h : SeqAt.shaped d = true) : nodc d = true := nodc_lay d (SeqAt.canLay_of_shaped h)

/-- what stood is there; the frozen ones stay frozen, newly frozen ones are new -/
structure Grow (Fz : FZ) (H : Hp) (Fz' : FZ) (H' : Hp) : Prop where
  same : Same H H'
  sub : ∀ a, Fz a → Fz' a
  new : ∀ a, Fz' a → Fz a ∨ H a = none
  live : (∀ a, Fz a → H a ≠ none) → ∀ a, Fz' a → H' a ≠ none
abbrev Live (Fz : FZ) (H : Hp) : Prop := ∀ a, Fz a → H a ≠ none
theorem Grow.refl {Fz : FZ} {H : Hp} : Grow Fz H Fz H := ⟨fun _ _ e => e, fun _ h => h, fun _ h => .inl h, fun l => l⟩
theorem none_of_same {H H' : Hp} (s : Same H H') {a : Addr} (h : H' a = none) : H a = none := by
  cases q : H a with
  | none => rfl
  | some o => rw [s a o q] at h; cases h
theorem Grow.trans {F1 F2 F3 : FZ} {H1 H2 H3 : Hp} (a : Grow F1 H1 F2 H2) (b : Grow F2 H2 F3 H3) : Grow F1 H1 F3 H3 :=
  ⟨fun x o e => b.same x o (a.same x o e), fun x h => b.sub x (a.sub x h), fun x h => (b.new x h).elim (a.new x) fun z => .inr (none_of_same a.same z), fun l => b.live (a.live l)⟩
theorem Grow.of_same {Fz : FZ} {H H' : Hp} (s : Same H H') : Grow Fz H Fz H' := ⟨s, fun _ h => h, fun _ h => .inl h, fun l a h z => l a h (none_of_same s z)⟩
theorem same_upd {H : Hp} {p : Addr} {o : HO} (h : H p = none) : Same H (upd H p o) := fun b x e => by
  rw [upd_ne (ne_of_none e h)]
  exact e
theorem Grow.nw {Fz : FZ} {H : Hp} {p : Addr} {o : HO} (h : H p = none) : Grow Fz H Fz (upd H p o) := .of_same (same_upd h)
/-- a new list, frozen at once -/
theorem Grow.frz {Fz : FZ} {H : Hp} {p : Addr} {o : HO} (h : H p = none) : Grow Fz H (fun a => Fz a ∨ a = p) (upd H p o) :=
  ⟨same_upd h, fun _ h => .inl h, fun _ z => z.elim .inl fun e => .inr (e ▸ h), fun l a z e => by
    rcases z with z | z
    · exact l a z (none_of_same (same_upd h) e)
    · subst z
      rw [upd_same] at e
      cases e⟩
/-- what Rep leans on stands -/
def Stay (Fz : FZ) (H H' : Hp) : Prop := ∀ a o, H a = some o → (Fz a ∨ (∃ xs, o = .tup xs) ∨ ∃ u v, o = .frz u v) → H' a = some o
theorem Stay.of_same {Fz : FZ} {H H' : Hp} (s : Same H H') : Stay Fz H H' := fun a o e _ => s a o e
theorem Stay.write {Fz : FZ} {H : Hp} {p : Addr} {o o' : HO} (hp : ¬ Fz p) (he : H p = some o) (hn : (∀ xs, o ≠ .tup xs) ∧ ∀ u v, o ≠ .frz u v) : Stay Fz H (upd H p o') := fun a u e h => by
  have hne : a ≠ p := fun z => by
    subst z
    rw [he] at e
    have e := Option.some.inj e
    subst e
    rcases h with h | ⟨xs, h⟩ | ⟨u, v, h⟩
    · exact hp h
    · exact hn.1 _ h
    · exact hn.2 _ _ h
  rw [upd_ne hne]
  exact e
theorem SqT.stay {K : PySem.W.Frag} {Fz : FZ} {H H' : Hp} {a : Addr} {xs : List V} (s : Stay Fz H H') (h : SqT K H a xs) : SqT K H' a xs := by
  rcases h with (h | ⟨o, h⟩) | h
  · exact .inl (.inl (s _ _ h (.inr (.inl ⟨_, rfl⟩))))
  · exact .inl (.inr ⟨o, s _ _ h (.inr (.inr ⟨_, _, rfl⟩))⟩)
  · exact .inr h
theorem LsF.stay {K : PySem.W.Frag} {Fz Fz' : FZ} {H H' : Hp} {a : Addr} {xs : List V} (s : Stay Fz H H') (f : ∀ a, Fz a → Fz' a) (h : LsF K Fz H a xs) : LsF K Fz' H' a xs := by
  rcases h with ⟨h, z⟩ | ⟨o, h⟩ | h
  · exact .inl ⟨s _ _ h (.inl z), f _ z⟩
  · exact .inr (.inl ⟨o, s _ _ h (.inr (.inr ⟨_, _, rfl⟩))⟩)
  · exact .inr (.inr h)
theorem TupF.stay {K : PySem.W.Frag} {Fz : FZ} {H H' : Hp} {a : Addr} {xs : List V} {ds : List PyData} (s : Stay Fz H H') (h : TupF K H a xs ds) : TupF K H' a xs ds := ⟨SqT.stay s h.sq, fun e => s _ _ (h.pl e) (.inr (.inl ⟨_, rfl⟩)), fun e f => (h.nd e f).imp (fun ⟨o, h1, h2⟩ => ⟨o, s _ _ h1 (.inr (.inr ⟨_, _, rfl⟩)), h2⟩) fun z => z⟩
theorem HeldF.stay {Fz Fz' : FZ} {H H' : Hp} {a : Addr} {u : HO} (s : Stay Fz H H') (f : ∀ a, Fz a → Fz' a) (h : HeldF Fz H a u) : HeldF Fz' H' a u := ⟨s _ _ h.1 (.inl h.2), f _ h.2⟩
mutual
theorem Rep.stay {K : PySem.W.Frag} {Fz Fz' : FZ} {H H' : Hp} (s : Stay Fz H H') (f : ∀ a, Fz a → Fz' a) : ∀ {v : V} {d : PyData}, Rep K Fz H v d → Rep K Fz' H' v d
  | _, _, .non => .non
  | _, _, .bl b => .bl b
  | _, _, .int i => .int i
  | _, _, .str x => .str x
  | _, _, .lst h z r => .lst (h.stay s f) z (r.stay s f)
  | _, _, .tup h z r => .tup (h.stay s) z (r.stay s f)
  | _, _, .dck h e r => .dck (HeldF.stay s f h) e (r.stay s f)
  | _, _, .dct h e r => .dct (HeldF.stay s f h) e (r.stay s f)
  | _, _, .pool h l z i r => .pool (HeldF.stay s f h) (l.stay s f) z i (r.stay s f)
  | _, _, .nl l z r => .nl (l.stay s f) z (r.stay s f)
  | _, _, .ins h c l r => .ins (HeldF.stay s f h) c l (r.stay s f)
theorem RepAll.stay {K : PySem.W.Frag} {Fz Fz' : FZ} {H H' : Hp} (s : Stay Fz H H') (f : ∀ a, Fz a → Fz' a) : ∀ {vs : List V} {ds : List PyData}, RepAll K Fz H vs ds → RepAll K Fz' H' vs ds
  | _, _, .nil => .nil
  | _, _, .cons h r => .cons (h.stay s f) (r.stay s f)
end
theorem Rep.grow {K : PySem.W.Frag} {Fz Fz' : FZ} {H H' : Hp} (g : Grow Fz H Fz' H') {v : V} {d : PyData} (h : Rep K Fz H v d) : Rep K Fz' H' v d := h.stay (.of_same g.same) g.sub
theorem RepAll.grow {K : PySem.W.Frag} {Fz Fz' : FZ} {H H' : Hp} (g : Grow Fz H Fz' H') {vs : List V} {ds : List PyData} (h : RepAll K Fz H vs ds) : RepAll K Fz' H' vs ds := h.stay (.of_same g.same) g.sub

/- no list within -/
mutual
def flat : PyData → Bool
  | .none => true
  | .bool _ => true
  | .int _ => true
  | .str _ => true
  | .tuple xs => flatAll xs
  | .list _ => false
  | .dict _ => false
def flatAll : List PyData → Bool
  | [] => true
  | x :: xs => flat x && flatAll xs
end
mutual
theorem Rep.flat {K : PySem.W.Frag} {Fz Fz' : FZ} {H : Hp} : ∀ {v : V} {d : PyData}, Rep K Fz H v d → flat d = true → Rep K Fz' H v d
  | _, _, .non, _ => .non
  | _, _, .bl b, _ => .bl b
  | _, _, .int i, _ => .int i
  | _, _, .str x, _ => .str x
  | _, _, .lst h z r, e => by
    rw [DL.flat] at e
    cases e
  | _, _, .tup h z r, e => .tup h z (r.flat (by rw [DL.flat] at e; exact e))
  | _, _, .dck h q r, e => by rw [DL.flat] at e; cases e
  | _, _, .dct h q r, e => by rw [DL.flat] at e; cases e
  | _, _, .pool _ _ _ _ _, e => by rw [DL.flat] at e; cases e
  | _, _, .nl _ _ _, e => by rw [DL.flat] at e; cases e
  | _, _, .ins _ _ _ _, e => by rw [DL.flat] at e; cases e
theorem RepAll.flat {K : PySem.W.Frag} {Fz Fz' : FZ} {H : Hp} : ∀ {vs : List V} {ds : List PyData}, RepAll K Fz H vs ds → flatAll ds = true → RepAll K Fz' H vs ds
  | _, _, .nil, _ => .nil
  | _, _, .cons h r, e => by
    rw [DL.flatAll, Bool.and_eq_true] at e
    exact .cons (h.flat e.1) (r.flat e.2)
end
theorem RepAll.length {K : PySem.W.Frag} {Fz : FZ} {H : Hp} : ∀ {vs : List V} {ds : List PyData}, RepAll K Fz H vs ds → vs.length = ds.length
  | _, _, .nil => rfl
  | _, _, .cons _ r => by rw [List.length_cons, List.length_cons, r.length]
theorem RepAll.get {K : PySem.W.Frag} {Fz : FZ} {H : Hp} : ∀ {vs : List V} {ds : List PyData} {i : Nat} {d : PyData}, RepAll K Fz H vs ds → ds[i]? = some d → ∃ v, vs[i]? = some v ∧ Rep K Fz H v d
  | _, _, _, _, .nil, e => by simp at e
  | _, _, 0, _, .cons h r, e => by
    simp at e
    subst e
    exact ⟨_, rfl, h⟩
  | _, _, i + 1, d, .cons h r, e => by
    obtain ⟨v, h1, h2⟩ := r.get (i := i) (d := d) (by simpa using e)
    exact ⟨v, by simpa using h1, h2⟩
theorem RepAll.app {K : PySem.W.Frag} {Fz : FZ} {H : Hp} : ∀ {vs ws : List V} {ds es : List PyData}, RepAll K Fz H vs ds → RepAll K Fz H ws es → RepAll K Fz H (vs ++ ws) (ds ++ es)
  | _, _, _, _, .nil, s => s
  | _, _, _, _, .cons h r, s => .cons h (r.app s)
theorem RepAll.drop {K : PySem.W.Frag} {Fz : FZ} {H : Hp} : ∀ {vs : List V} {ds : List PyData} (n : Nat), RepAll K Fz H vs ds → RepAll K Fz H (vs.drop n) (ds.drop n)
  | _, _, 0, r => r
  | _, _, _ + 1, .nil => .nil
  | _, _, n + 1, .cons _ r => r.drop n
theorem RepAll.take {K : PySem.W.Frag} {Fz : FZ} {H : Hp} : ∀ {vs : List V} {ds : List PyData} (n : Nat), RepAll K Fz H vs ds → RepAll K Fz H (vs.take n) (ds.take n)
  | _, _, 0, _ => .nil
  | _, _, _ + 1, .nil => .nil
  | _, _, n + 1, .cons h r => .cons h (r.take n)

/-! ### the state of a def: by slot, a value or a list of its own -/
/-- a field of an instance -/
inductive SF where
  | val (d : PyData)
  | own (xs : List PyData)
  | ownd (t : Bool) (ks vs : List PyData)
def SF.d : SF → PyData
  | .val d => d
  | .own xs => .list xs
  | .ownd t ks vs => dcD t ks vs
inductive SV where
  | val (d : PyData)
  | own (xs : List PyData)
  | ownd (t : Bool) (ks vs : List PyData)
  | ins (cn : Str) (names : List Str) (fs : List SF)
def SV.d : SV → PyData
  | .val d => d
  | .own xs => .list xs
  | .ownd t ks vs => dcD t ks vs
  | .ins cn names fs => insD cn names (fs.map SF.d)
abbrev DSt := List (Option SV)
abbrev XK' := XK
/-- the slots at S, to be read -/
def RdOn (K : PySem.W.Frag) (S : List Nat) (Fz : FZ) (H : Hp) (σ : St) (δ : DSt) : Prop :=
  σ.length = δ.length ∧ ∀ i ∈ S, ∀ s, δ[i]? = some (some s) → ∃ v, σ[i]? = some (some v) ∧ Rep K Fz H v s.d
theorem RdOn.left {K : PySem.W.Frag} {S T : List Nat} {Fz : FZ} {H : Hp} {σ : St} {δ : DSt} (h : RdOn K (S ++ T) Fz H σ δ) : RdOn K S Fz H σ δ := ⟨h.1, fun i hi => h.2 i (List.mem_append_left _ hi)⟩
theorem RdOn.right {K : PySem.W.Frag} {S T : List Nat} {Fz : FZ} {H : Hp} {σ : St} {δ : DSt} (h : RdOn K (S ++ T) Fz H σ δ) : RdOn K T Fz H σ δ := ⟨h.1, fun i hi => h.2 i (List.mem_append_right _ hi)⟩
theorem RdOn.grow {K : PySem.W.Frag} {S : List Nat} {Fz Fz' : FZ} {H H' : Hp} {σ : St} {δ : DSt} (g : Grow Fz H Fz' H') (h : RdOn K S Fz H σ δ) : RdOn K S Fz' H' σ δ := ⟨h.1, fun i hi s e => by
  obtain ⟨v, h1, h2⟩ := h.2 i hi s e
  exact ⟨v, h1, h2.grow g⟩⟩
/-- how a raised exception lies -/
def ExR (mg : Str → Option Value) (x : Exn) (c : Value) (oe : Option Addr) (H : Hp) : Prop :=
  mg x.cls = some c ∧ match x.fld with
    | none => True
    | some (f, i) => ∃ a, oe = some a ∧ H a = some (.xd [(f, .int i)])
/-- what is wished of an exception, by the slots at that time -/
abbrev WS := List (Option V) → XK
/-- what is wanted of an expression's outcome -/
def EOK (K : PySem.W.Frag) (mg : Str → Option Value) (W : XK) (Fz : FZ) (H : Hp) (r : Res PyData) (Q : VK) : Prop :=
  r.wp (fun d => ∀ v H' Fz', Grow Fz H Fz' H' → Rep K Fz' H' v d → Q v H') (fun x => ∀ c oe H' Fz', Grow Fz H Fz' H' → ExR mg x c oe H' → W c oe H')
def AOK (K : PySem.W.Frag) (mg : Str → Option Value) (W : XK) (Fz : FZ) (H : Hp) (r : Res (List PyData)) (Q : List V → Hp → Prop) : Prop :=
  r.wp (fun ds => ∀ vs H' Fz', Grow Fz H Fz' H' → RepAll K Fz' H' vs ds → Q vs H') (fun x => ∀ c oe H' Fz', Grow Fz H Fz' H' → ExR mg x c oe H' → W c oe H')
def BOK (K : PySem.W.Frag) (mg : Str → Option Value) (W : XK) (Fz : FZ) (H : Hp) (r : Res Bool) (Q : Bool → Hp → Prop) : Prop :=
  r.wp (fun b => ∀ H' Fz', Grow Fz H Fz' H' → Q b H') (fun x => ∀ c oe H' Fz', Grow Fz H Fz' H' → ExR mg x c oe H' → W c oe H')
/-- a new list of one's own: not frozen -/
def LOK (K : PySem.W.Frag) (mg : Str → Option Value) (W : XK) (Fz : FZ) (H : Hp) (r : Res (List PyData)) (Q : VK) : Prop :=
  r.wp (fun ds => ∀ p vs H' Fz', Grow Fz H Fz' H' → H p = none → ¬ Fz' p → H' p = some (.lst vs) → ds.length ≤ sizeLine → RepAll K Fz' H' vs ds → Q (.ref p) H') (fun x => ∀ c oe H' Fz', Grow Fz H Fz' H' → ExR mg x c oe H' → W c oe H')

structure DE (X : Cx) (W : WS) (S : List Nat) (e : Expr) (t : TE) (f : DSt → Res PyData) : Prop where
  pe : PE X e t
  ok : ∀ Fz σ H δ Q, RdOn X.K S Fz H σ δ → Live Fz H → EOK X.K X.mg (W σ) Fz H (f δ) Q → t σ H Q
structure DF (X : Cx) (W : WS) (S : List Nat) (e : Expr) (t : TE) (f : DSt → Res (List PyData)) : Prop where
  pe : PE X e t
  ok : ∀ Fz σ H δ Q, RdOn X.K S Fz H σ δ → Live Fz H → LOK X.K X.mg (W σ) Fz H (f δ) Q → t σ H Q
structure DA (X : Cx) (W : WS) (S : List Nat) (es : List Expr) (t : TA) (f : DSt → Res (List PyData)) : Prop where
  pe : PA X es t
  len : ∀ δ ds, (f δ).can ds → ds.length = es.length
  ok : ∀ Fz σ H δ Q, RdOn X.K S Fz H σ δ → Live Fz H → AOK X.K X.mg (W σ) Fz H (f δ) Q → t σ H Q
structure DT (X : Cx) (W : WS) (S : List Nat) (e : Expr) (t : TT) (f : DSt → Res Bool) : Prop where
  pe : PT X e t
  ok : ∀ Fz σ H δ Q, RdOn X.K S Fz H σ δ → Live Fz H → BOK X.K X.mg (W σ) Fz H (f δ) Q → t σ H Q
structure DW (X : Cx) (W : WS) (S : List Nat) (e : Expr) (t : TT) (f : DSt → Res Bool) : Prop where
  pe : PW X e t
  ok : ∀ Fz σ H δ Q, RdOn X.K S Fz H σ δ → Live Fz H → BOK X.K X.mg (W σ) Fz H (f δ) Q → t σ H Q

/-! ### expressions -/
section
variable {X : Cx} {W : WS} {U : XK} {S T : List Nat} {e a b c : Expr} {es : List Expr} {pos : Pos} {t ta tb : TE}
theorem EOK.mono {K : PySem.W.Frag} {mg : Str → Option Value} {Fz Fz' : FZ} {H H' : Hp} {r : Res PyData} {Q Q' : VK} (h : EOK K mg U Fz H r Q) (g : Grow Fz H Fz' H') (q : ∀ v H' Fz'', Grow Fz H Fz'' H' → Q v H' → Q' v H') : EOK K mg U Fz' H' r Q' :=
  wp_mono h (fun d hd v H2 F2 g2 r2 => q v H2 F2 (g.trans g2) (hd v H2 F2 (g.trans g2) r2)) fun x hx c oe H2 F2 g2 r2 => hx c oe H2 F2 (g.trans g2) r2
/-- a slot's value -/
def vr (i : Nat) (δ : DSt) : Res PyData := match δ[i]? with
  | some (some s) => .ok s.d
  | _ => .bot
theorem de_var {i : Nat} {x : Str} (hN : X.N[i]? = some x) (hv : Vis X.env.scope x) (hd : (x == ("__debug__" : Str)) = false := by decide) (hcd : (x == ("__classdict__" : Str)) = false := by decide) : DE X W [i] (.Name x pos) (tVar i) (vr i) := by
  refine ⟨pe_var (i := i) hN hv hd hcd, fun Fz σ H δ Q hr hl h => ?_⟩
  unfold vr at h
  split at h
  · rename_i s e
    obtain ⟨v, h1, h2⟩ := hr.2 i (by simp) s e
    exact ⟨v, h1, h v H Fz .refl h2⟩
  · exact h.elim
theorem de_const {v : V} {d : PyData} (hp : PE X e (tC v)) (hv : ∀ K Fz H, Rep K Fz H v d) : DE X W [] e (tC v) (fun _ => .ok d) :=
  ⟨hp, fun Fz σ H δ Q _ _ h => h v H Fz .refl (hv _ _ _)⟩
theorem de_int {i : Int} {j} : DE X W [] (.Constant (.int i) j pos) (tC (.int i)) (fun _ => .ok (.int i)) := de_const pe_int fun _ _ _ => .int i
theorem de_bl {i : Bool} {j} : DE X W [] (.Constant (.bool i) j pos) (tC (.bl i)) (fun _ => .ok (.bool i)) := de_const pe_bl fun _ _ _ => .bl i
theorem de_str {i : Str} {j} : DE X W [] (.Constant (.str i) j pos) (tC (.str i)) (fun _ => .ok (.str i)) := de_const pe_str fun _ _ _ => .str i
theorem de_non {j} : DE X W [] (.Constant .none j pos) (tC .non) (fun _ => .ok .none) := de_const pe_non fun _ _ _ => .non

/-- two expressions from the left -/
theorem two {fa fb : DSt → Res PyData} (ha : ∀ Fz σ H δ Q, RdOn X.K S Fz H σ δ → Live Fz H → EOK X.K X.mg (W σ) Fz H (fa δ) Q → ta σ H Q) (hb : ∀ Fz σ H δ Q, RdOn X.K T Fz H σ δ → Live Fz H → EOK X.K X.mg (W σ) Fz H (fb δ) Q → tb σ H Q)
    {Fz : FZ} {σ : L2.St} {H : Hp} {δ : DSt} {R : V → V → Hp → Prop} (hr : RdOn X.K (S ++ T) Fz H σ δ) (hl : Live Fz H) (h : (fa δ).wp (fun x => (fb δ).wp (fun y => ∀ v u H' Fz', Grow Fz H Fz' H' → Live Fz' H' → Rep X.K Fz' H' v x → Rep X.K Fz' H' u y → R v u H')
      (fun x => ∀ c oe H' Fz', Grow Fz H Fz' H' → ExR X.mg x c oe H' → W σ c oe H')) (fun x => ∀ c oe H' Fz', Grow Fz H Fz' H' → ExR X.mg x c oe H' → W σ c oe H')) :
    ta σ H fun v H1 => tb σ H1 fun u H2 => R v u H2 := by
  refine ha Fz σ H δ _ hr.left hl (wp_mono h (fun x hx v H1 F1 g1 r1 => ?_) fun x hx => hx)
  refine hb F1 σ H1 δ _ (hr.right.grow g1) (g1.live hl) (wp_mono hx (fun y hy u H2 F2 g2 r2 => ?_) fun x hx c oe H2 F2 g2 r2 => hx c oe H2 F2 (g1.trans g2) r2)
  exact hy v u H2 F2 (g1.trans g2) (g2.live (g1.live hl)) (r1.grow g2) r2

/-- a two-place operation on data -/
structure OpD (X : Cx) (f : Value → Value → Sem Value) (r : R2) (g : PyData → PyData → Res PyData) : Prop where
  op : OpR X f r
  ok : ∀ Fz H x y v u Q, Live Fz H → Rep X.K Fz H v x → Rep X.K Fz H u y → EOK X.K X.mg (fun _ _ _ => False) Fz H (g x y) Q → r v u H Q
theorem eok_weak {K : PySem.W.Frag} {mg : Str → Option Value} {Fz Fz0 : FZ} {H H0 : Hp} {r : Res PyData} {Q : VK} (hn : Exn → r.quiet) (g : Grow Fz0 H0 Fz H) (h : r.wp (fun d => ∀ v H' Fz', Grow Fz0 H0 Fz' H' → Rep K Fz' H' v d → Q v H') (fun x => ∀ c oe H' Fz', Grow Fz0 H0 Fz' H' → ExR mg x c oe H' → U c oe H')) :
    EOK K mg (fun _ _ _ => False) Fz H r Q := by
  exact wp_quiet (hn ⟨"", none⟩) (wp_mono h (fun d h v H' F' g' r' => h v H' F' (g.trans g') r') fun x h => h)
/-- a pure operation: it never raises -/
abbrev NoErr (g : PyData → PyData → Res PyData) : Prop := ∀ x y, Exn → (g x y).quiet
variable {r : R2}
theorem tOp_ok {g : PyData → PyData → Res PyData} {fa fb : DSt → Res PyData} {f : Value → Value → Sem Value} (ho : OpD X f r g) (hn : NoErr g) (ha : DE X W S a ta fa) (hb : DE X W T b tb fb) :
    ∀ Fz σ H δ Q, RdOn X.K (S ++ T) Fz H σ δ → Live Fz H → EOK X.K X.mg (W σ) Fz H (do let x ← fa δ; let y ← fb δ; g x y) Q → tOp r ta tb σ H Q := fun Fz σ H δ Q hd hl h => by
  unfold EOK at h
  rw [wp_bind] at h
  refine two ha.ok hb.ok hd hl (wp_mono h (fun x hx => ?_) fun x hx => hx)
  rw [wp_bind] at hx
  refine wp_mono hx (fun y hy v u H' F' g' l' r1 r2 => ?_) fun x hx => hx
  exact ho.ok F' H' x y v u Q l' r1 r2 (eok_weak (hn x y) g' hy)
theorem de_op {op : Operator} {g : PyData → PyData → Res PyData} {fa fb : DSt → Res PyData} (ho : OpD X (binaryOp op) r g) (hn : NoErr g) (ha : DE X W S a ta fa) (hb : DE X W T b tb fb) : DE X W (S ++ T) (.BinOp a op b pos) (tOp r ta tb) (fun δ => do let x ← fa δ; let y ← fb δ; g x y) :=
  ⟨pe_op ho.op ha.pe hb.pe, tOp_ok ho hn ha hb⟩
theorem de_cmp {op : CmpOp} {g : PyData → PyData → Res PyData} {fa fb : DSt → Res PyData} (ho : OpD X (compareOp op) r g) (hn : NoErr g) (hm : behindInMarks op b = false) (ha : DE X W S a ta fa) (hb : DE X W T b tb fb) : DE X W (S ++ T) (.Compare a [op] [b] pos) (tOp r ta tb) (fun δ => do let x ← fa δ; let y ← fb δ; g x y) :=
  ⟨pe_cmpR ho.op ha.pe hb.pe hm, tOp_ok ho hn ha hb⟩
/-- the answer True or False of a datum -/
def asB (d : PyData) : Res Bool := match d with
  | .bool b => .ok b
  | _ => .bot
theorem asB_ok {t : TE} {f : DSt → Res PyData} {Fz : FZ} {σ : L2.St} {H : Hp} {δ : DSt} {Q : Bool → Hp → Prop} (q : ∀ Q, EOK X.K X.mg (W σ) Fz H (f δ) Q → t σ H Q) (h : BOK X.K X.mg (W σ) Fz H (do let x ← f δ; asB x) Q) : t σ H fun x H1 => ∃ c, x = .bl c ∧ Q c H1 := by
  unfold BOK at h
  rw [wp_bind] at h
  refine q _ (wp_mono h (fun x hx v H' F' g' r' => ?_) fun x hx => hx)
  cases x with
  | bool k =>
    cases r'
    exact ⟨k, rfl, hx H' F' g'⟩
  | _ => exact hx.elim
theorem dt_cmp {op : CmpOp} {g : PyData → PyData → Res PyData} {fa fb : DSt → Res PyData} (ho : OpD X (compareOp op) r g) (hn : NoErr g) (hm : behindInMarks op b = false) (ha : DE X W S a ta fa) (hb : DE X W T b tb fb) : DT X W (S ++ T) (.Compare a [op] [b] pos) (tTest (tOp r ta tb)) (fun δ => do let z ← (do let x ← fa δ; let y ← fb δ; g x y); asB z) :=
  ⟨pt_cmpR ho.op ha.pe hb.pe hm, fun Fz σ H δ Q hd hl h => asB_ok (f := fun δ => do let x ← fa δ; let y ← fb δ; g x y) (tOp_ok ho hn ha hb Fz σ H δ · hd hl) h⟩
theorem dt_val {f : DSt → Res PyData} (h : DE X W S e t f) (he : ∀ whole, PySem.isTrue e X.env whole = (do let v ← whole; standAt e.pos; holding [v] (truthy v)) := by intro _; rfl) : DT X W S e (tB t) (fun δ => do let x ← f δ; asB x) :=
  ⟨pt_val h.pe he, fun Fz σ H δ Q hd hl hq => asB_ok (h.ok Fz σ H δ · hd hl) hq⟩
/-- a one-place operation -/
def negD (x : PyData) : Res PyData := match x with | .int i => .ok (.int (-i)) | _ => .bot
theorem de_neg {f : DSt → Res PyData} (h : DE X W S e t f) : DE X W S (.UnaryOp .USub e pos) (tUn (rU fun i => .int (-i)) t) (fun δ => do let x ← f δ; negD x) := by
  refine ⟨pe_un un_neg h.pe, fun Fz σ H δ Q hd hl hq => ?_⟩
  unfold EOK at hq
  rw [wp_bind] at hq
  refine h.ok Fz σ H δ _ hd hl (wp_mono hq (fun x hx v H' F' g' r' => ?_) fun x hx => hx)
  cases x with
  | int i =>
    cases r'
    exact ⟨i, rfl, hx _ H' F' g' (.int _)⟩
  | _ => exact hx.elim
/-! ### and, or, not, a if c else b -/
variable {tA tB' : TT} {rest : List Expr}
theorem dw_and1 {f : DSt → Res Bool} (h : DT X W S a tA f) : DW X W S (.BoolOp .And [a] pos) tA f := ⟨pw_and1 h.pe, h.ok⟩
theorem dw_or1 {f : DSt → Res Bool} (h : DT X W S a tA f) : DW X W S (.BoolOp .Or [a] pos) tA f := ⟨pw_or1 h.pe, h.ok⟩
theorem DW.dt {f : DSt → Res Bool} (h : DW X W S a tA f) : DT X W S a tA f := ⟨h.pe.pt, h.ok⟩
theorem BOK.bind {K : PySem.W.Frag} {mg : Str → Option Value} {Fz : FZ} {H : Hp} {r : Res Bool} {f : Bool → Res Bool} {Q : Bool → Hp → Prop} (h : BOK K mg U Fz H (r >>= f) Q) :
    BOK K mg U Fz H r (fun b H1 => ∃ F1, Grow Fz H F1 H1 ∧ BOK K mg U F1 H1 (f b) Q) := by
  unfold BOK at h
  rw [wp_bind] at h
  refine wp_mono h (fun b hb H1 F1 g1 => ⟨F1, g1, ?_⟩) fun x hx => hx
  exact wp_mono hb (fun c hc H2 F2 g2 => hc H2 F2 (g1.trans g2)) fun x hx c oe H2 F2 g2 => hx c oe H2 F2 (g1.trans g2)
theorem BOK.at {K : PySem.W.Frag} {mg : Str → Option Value} {Fz : FZ} {H : Hp} {b : Bool} {Q : Bool → Hp → Prop} (h : BOK K mg U Fz H (.ok b) Q) : Q b H := h H Fz .refl
theorem dw_and {f g : DSt → Res Bool} (ha : DT X W S a tA f) (hb : DW X W T (.BoolOp .And (b :: rest) pos) tB' g) : DW X W (S ++ T) (.BoolOp .And (a :: b :: rest) pos) (tAnd tA tB') (fun δ => do let x ← f δ; if x then g δ else .ok false) := by
  refine ⟨pw_and ha.pe hb.pe, fun Fz σ H δ Q hd hl hq => ?_⟩
  refine ha.ok Fz σ H δ _ hd.left hl (wp_mono hq.bind (fun b hb' H1 F1 g1 => ?_) fun x hx => hx)
  obtain ⟨F2, g2, q2⟩ := hb' H1 F1 g1
  cases b with
  | true => exact hb.ok F2 σ H1 δ _ (hd.right.grow g2) (g2.live hl) q2
  | false => exact q2.at
theorem dw_or {f g : DSt → Res Bool} (ha : DT X W S a tA f) (hb : DW X W T (.BoolOp .Or (b :: rest) pos) tB' g) : DW X W (S ++ T) (.BoolOp .Or (a :: b :: rest) pos) (tOr tA tB') (fun δ => do let x ← f δ; if x then .ok true else g δ) := by
  refine ⟨pw_or ha.pe hb.pe, fun Fz σ H δ Q hd hl hq => ?_⟩
  refine ha.ok Fz σ H δ _ hd.left hl (wp_mono hq.bind (fun b hb' H1 F1 g1 => ?_) fun x hx => hx)
  obtain ⟨F2, g2, q2⟩ := hb' H1 F1 g1
  cases b with
  | false => exact hb.ok F2 σ H1 δ _ (hd.right.grow g2) (g2.live hl) q2
  | true => exact q2.at
theorem dt_not {f : DSt → Res Bool} (ha : DT X W S a tA f) : DT X W S (.UnaryOp .Not a pos) (tNot tA) (fun δ => do let x ← f δ; .ok (!x)) := by
  refine ⟨pt_not ha.pe, fun Fz σ H δ Q hd hl hq => ?_⟩
  refine ha.ok Fz σ H δ _ hd hl (wp_mono hq.bind (fun b hb' H1 F1 g1 => ?_) fun x hx => hx)
  obtain ⟨F2, g2, q2⟩ := hb' H1 F1 g1
  exact q2.at
theorem EOK.bind {K : PySem.W.Frag} {mg : Str → Option Value} {Fz : FZ} {H : Hp} {r : Res PyData} {f : PyData → Res PyData} {Q : VK} (h : EOK K mg U Fz H (r >>= f) Q) :
    EOK K mg U Fz H r (fun v H1 => ∃ F1 d, Grow Fz H F1 H1 ∧ Rep K F1 H1 v d ∧ EOK K mg U F1 H1 (f d) Q) := by
  unfold EOK at h
  rw [wp_bind] at h
  refine wp_mono h (fun b hb v H1 F1 g1 r1 => ⟨F1, b, g1, r1, ?_⟩) fun x hx => hx
  exact wp_mono hb (fun c hc v2 H2 F2 g2 => hc v2 H2 F2 (g1.trans g2)) fun x hx c oe H2 F2 g2 => hx c oe H2 F2 (g1.trans g2)
theorem EOK.bindB {K : PySem.W.Frag} {mg : Str → Option Value} {Fz : FZ} {H : Hp} {r : Res Bool} {f : Bool → Res PyData} {Q : VK} (h : EOK K mg U Fz H (r >>= f) Q) :
    BOK K mg U Fz H r (fun b H1 => ∃ F1, Grow Fz H F1 H1 ∧ EOK K mg U F1 H1 (f b) Q) := by
  unfold EOK at h
  rw [wp_bind] at h
  refine wp_mono h (fun b hb H1 F1 g1 => ⟨F1, g1, ?_⟩) fun x hx => hx
  exact wp_mono hb (fun c hc v2 H2 F2 g2 => hc v2 H2 F2 (g1.trans g2)) fun x hx c oe H2 F2 g2 => hx c oe H2 F2 (g1.trans g2)
theorem EOK.at {K : PySem.W.Frag} {mg : Str → Option Value} {Fz : FZ} {H : Hp} {d : PyData} {v : V} {Q : VK} (h : EOK K mg U Fz H (.ok d) Q) (r : Rep K Fz H v d) : Q v H := h v H Fz .refl r
/-- and, or, not of values True and False -/
def andV (x : PyData) (k : Res PyData) : Res PyData := match x with | .bool true => k | .bool false => .ok (.bool false) | _ => .bot
def orV (x : PyData) (k : Res PyData) : Res PyData := match x with | .bool true => .ok (.bool true) | .bool false => k | _ => .bot
def notV (x : PyData) : Res PyData := match x with | .bool b => .ok (.bool (!b)) | _ => .bot
theorem de_one {op} {f : DSt → Res PyData} (h : DE X W S a ta f) : DE X W S (.BoolOp op [a] pos) ta f := ⟨pe_one h.pe, h.ok⟩
theorem de_and {f g : DSt → Res PyData} (ha : DE X W S a ta f) (hb : DE X W T (.BoolOp .And (b :: rest) pos) tb g) : DE X W (S ++ T) (.BoolOp .And (a :: b :: rest) pos) (tAndV ta tb) (fun δ => do let x ← f δ; andV x (g δ)) := by
  refine ⟨pe_and ha.pe hb.pe, fun Fz σ H δ Q hd hl hq => ?_⟩
  refine ha.ok Fz σ H δ _ hd.left hl (wp_mono hq.bind (fun d hb' v H1 F1 g1 r1 => ?_) fun x hx => hx)
  obtain ⟨F2, d2, g2, r2, q2⟩ := hb' v H1 F1 g1 r1
  cases d2 with
  | bool k =>
    cases r2
    refine ⟨k, rfl, ?_⟩
    cases k with
    | true => exact hb.ok F2 σ H1 δ _ (hd.right.grow g2) (g2.live hl) q2
    | false => exact q2.at (.bl _)
  | _ => exact q2.elim
theorem de_or {f g : DSt → Res PyData} (ha : DE X W S a ta f) (hb : DE X W T (.BoolOp .Or (b :: rest) pos) tb g) : DE X W (S ++ T) (.BoolOp .Or (a :: b :: rest) pos) (tOrV ta tb) (fun δ => do let x ← f δ; orV x (g δ)) := by
  refine ⟨pe_or ha.pe hb.pe, fun Fz σ H δ Q hd hl hq => ?_⟩
  refine ha.ok Fz σ H δ _ hd.left hl (wp_mono hq.bind (fun d hb' v H1 F1 g1 r1 => ?_) fun x hx => hx)
  obtain ⟨F2, d2, g2, r2, q2⟩ := hb' v H1 F1 g1 r1
  cases d2 with
  | bool k =>
    cases r2
    refine ⟨k, rfl, ?_⟩
    cases k with
    | false => exact hb.ok F2 σ H1 δ _ (hd.right.grow g2) (g2.live hl) q2
    | true => exact q2.at (.bl _)
  | _ => exact q2.elim
theorem de_not {f : DSt → Res PyData} (ha : DE X W S a ta f) : DE X W S (.UnaryOp .Not a pos) (tNotV ta) (fun δ => do let x ← f δ; notV x) := by
  refine ⟨pe_not ha.pe, fun Fz σ H δ Q hd hl hq => ?_⟩
  refine ha.ok Fz σ H δ _ hd hl (wp_mono hq.bind (fun d hb' v H1 F1 g1 r1 => ?_) fun x hx => hx)
  obtain ⟨F2, d2, g2, r2, q2⟩ := hb' v H1 F1 g1 r1
  cases d2 with
  | bool k =>
    cases r2
    exact ⟨k, rfl, q2.at (.bl _)⟩
  | _ => exact q2.elim
theorem RdOn.left3 {K : PySem.W.Frag} {S T U : List Nat} {Fz : FZ} {H : Hp} {σ : L2.St} {δ : DSt} (h : RdOn K (S ++ (T ++ U)) Fz H σ δ) : RdOn K U Fz H σ δ := h.right.right
theorem de_ifExp {U : List Nat} {h : DSt → Res Bool} {f g : DSt → Res PyData} (hc : DT X W U c tA h) (ha : DE X W S a ta f) (hb : DE X W T b tb g) : DE X W (U ++ (S ++ T)) (.IfExp c a b pos) (tIf tA ta tb) (fun δ => do let x ← h δ; if x then f δ else g δ) := by
  refine ⟨pe_ifExp hc.pe ha.pe hb.pe, fun Fz σ H δ Q hd hl hq => ?_⟩
  refine hc.ok Fz σ H δ _ hd.left hl (wp_mono hq.bindB (fun b hb' H1 F1 g1 => ?_) fun x hx => hx)
  obtain ⟨F2, g2, q2⟩ := hb' H1 F1 g1
  cases b with
  | true => exact ha.ok F2 σ H1 δ _ (hd.right.left.grow g2) (g2.live hl) q2
  | false => exact hb.ok F2 σ H1 δ _ (hd.right.right.grow g2) (g2.live hl) q2
end
end DL

set_option Elab.async false
set_option linter.all false
set_option maxRecDepth 100000
set_option maxHeartbeats 4000000
namespace DL
open PySem PySem.Spec L2
open PyProof.Rows hiding St
/-! ### new tuples, plain or bare -/
theorem newT_rep {K : PySem.W.Frag} {Fz : FZ} {H : Hp} {Q : VK} {vs : List V} {ds : List PyData} (hz : ds.length ≤ sizeLine) (r : RepAll K Fz H vs ds) (h : ∀ v H2 F2, Grow Fz H F2 H2 → Rep K F2 H2 v (.tuple ds) → Q v H2) : NewT H Q vs := by
  cases hi : allI ds with
  | true => exact .inl fun p np => h _ _ Fz (.nw np) (.tup (.of upd_same (.inl hi)) hz (r.grow (.nw np)))
  | false => exact .inr fun p o np hd => h _ _ Fz (.nw np) (.tup (.frz upd_same hd hi) hz (r.grow (.nw np)))
theorem newT_run {X : Cx} {pins : List (Addr × Obj)} {σ : L2.St} {H : Hp} {s : Shared} {Q : VK} {vs : List V} {us : List Value} (I : Inv X pins σ H s) (hz : vs.length ≤ sizeLine) (r : Vals vs us) (q : NewT H Q vs) :
    ∃ x H', Inv X pins σ H' { s with heap := s.heap.push { cls := .type "tuple", data := .seq us.toArray } } ∧ RelV x (.ref s.heap.objs.size) ∧ Q x H' := by
  have fr := I.hok.fresh (Nat.le_refl s.heap.objs.size)
  rcases q with q | q
  · have J := I.laid (t' := s.toks) (o := .tup vs) (h' := s.heap.push { cls := .type "tuple", data := .seq us.toArray }) (fun _ _ z => Heap.get?_push_of_some _ z) (Nat.le_refl _) ⟨hz, us, r, IsTup.new _ _⟩
    exact ⟨.ref s.heap.objs.size, _, J, rfl, q _ fr⟩
  · have J := I.laid (t' := s.toks) (o := .frz { cls := .type "tuple", data := .seq us.toArray } (.tup vs)) (h' := s.heap.push { cls := .type "tuple", data := .seq us.toArray }) (fun _ _ z => Heap.get?_push_of_some _ z) (Nat.le_refl _) ⟨Heap.get?_push_size _ rfl, hz, us, r, IsTup.new _ _⟩
    exact ⟨.ref s.heap.objs.size, _, J, rfl, q _ _ fr rfl⟩
section
variable {X : Cx} {es : List Expr} {t : TA} {pos : Pos}
def tTupZ (t : TA) : TE := fun σ H Q => t σ H fun vs G => vs.length ≤ sizeLine ∧ NewT G Q vs
theorem pe_tupZ {x1} (h : PA X es t) : PE X (.Tuple es x1 pos) (tTupZ t) :=
  ⟨fun pins s σ H Q I hq => wpAny_Tuple_spliced (thn (h.run pos pins s σ H _ I hq) fun us s1 ⟨vs, G, J, r, z, q⟩ => ⟨by (rw [← r.length]; exact z), newT_run J z r q⟩)⟩
/-- tuple(xs) -/
abbrev rTupZ (K : PySem.W.Frag) : List V → Hp → VK → Prop := fun xs H Q => ∃ p ys, xs = [.ref p] ∧ ((SqL K H p ys ∧ NewT H Q ys) ∨ (SqT K H p ys ∧ Q (.ref p) H))
theorem call_tupZ : CallR X (.type "tuple") (rTupZ X.K) := by
  intro pins s σ H xs us Q I r h
  obtain ⟨p, ys, ep, h⟩ := h
  subst ep
  obtain ⟨u, eu, rx⟩ := vals1 r
  subst eu
  cases rx
  rcases h with ⟨hl, q⟩ | ⟨ht, q⟩
  · obtain ⟨its, rv, pl, hz⟩ := I.list hl
    have hn := rv.length
    exact call_tuple_list pl.isList (fun G kp => newT_run (I.kept (t' := s.toks) kp) hz rv q) (by rw [List.size_toArray]; omega)
  · obtain ⟨its, rv, pl, _⟩ := I.tuple ht
    exact call_tuple_same pl ⟨.ref p, _, I, rfl, q⟩
/-- t[lo:hi] -/
def rSlZ (K : PySem.W.Frag) : V → Option Int → Option Int → Hp → VK → Prop := fun x lo hi H Q => ∃ a vs, x = .ref a ∧ SqT K H a vs ∧
  (HT.sIx vs.length 0 lo = 0 ∧ HT.sIx vs.length vs.length hi = vs.length → Q (.ref a) H) ∧ (¬ (HT.sIx vs.length 0 lo = 0 ∧ HT.sIx vs.length vs.length hi = vs.length) → NewT H Q (cutV vs lo hi))
theorem sl_tupZ : SlR X (rSlZ X.K) := by
  intro pins s σ H x v vl vu lo hi sl Q I rx hs pl pu h
  obtain ⟨a, vs, ex, ht, q1, q2⟩ := h
  subst ex
  by_cases hw : HT.sIx vs.length 0 lo = 0 ∧ HT.sIx vs.length vs.length hi = vs.length
  · exact sl_tupA pins s σ H _ v vl vu lo hi sl Q I rx hs pl pu ⟨a, vs, rfl, ht, q1, fun z => absurd hw z⟩
  · cases rx
    obtain ⟨its, r, it, hz⟩ := I.tuple ht
    have hn : its.toArray.size = vs.length := by (rw [List.size_toArray]; exact r.length.symm)
    refine ⟨"tuple", _, PyProof.Rows.slot_tuple_getitem.lookup, it.typeIs, HT.getItem_tuple_cut it hs pl pu (by (rw [hn]; exact hw)) ?_ (by (rw [hn]; exact hz))⟩
    rw [hn]
    exact newT_run I (Nat.le_trans (cutV_length vs lo hi) hz) ((r.drop (HT.sIx vs.length 0 lo)).take _) (q2 hw)
/-- t + u -/
def rCatZ (K : PySem.W.Frag) : R2 := fun x y H Q => ∃ a b xs ys, x = .ref a ∧ y = .ref b ∧ SqT K H a xs ∧ SqT K H b ys ∧ xs.length + ys.length ≤ sizeLine ∧
  (xs = [] → Q (.ref b) H) ∧ (xs ≠ [] → ys = [] → Q (.ref a) H) ∧ (xs ≠ [] → ys ≠ [] → NewT H Q (xs ++ ys))
theorem op_catZ : OpR X (binaryOp .Add) (rCatZ X.K) := by
  intro pins s σ H x y v u Q I rx ry h
  obtain ⟨a, b, xs, ys, ex, ey, ha, hb, hz, q0, q1, q2⟩ := h
  by_cases hx : xs = []
  · exact op_catA pins s σ H x y v u Q I rx ry ⟨a, b, xs, ys, ex, ey, ha, hb, hz, q0, q1, fun z => absurd hx z⟩
  · by_cases hy : ys = []
    · exact op_catA pins s σ H x y v u Q I rx ry ⟨a, b, xs, ys, ex, ey, ha, hb, hz, q0, q1, fun _ z => absurd hy z⟩
    · subst ex
      subst ey
      cases rx
      cases ry
      obtain ⟨its, r1, p1, _⟩ := I.tuple ha
      obtain ⟨its2, r2, p2, _⟩ := I.tuple hb
      exact HT.cat_tup p1 p2 (fun z => hx (r1.nil_iff.mp z)) (fun z => absurd (r2.nil_iff.mp z) hy) (fun _ => newT_run I (by (rw [List.length_append]; exact hz)) (r1.append r2) (q2 hx hy)) (by (rw [← r1.length, ← r2.length]; exact hz))
end
section
variable {X : Cx} {W : WS} {U : XK} {S T : List Nat} {e a b c : Expr} {es : List Expr} {pos : Pos}
/-! ### operators on data -/
theorem OpD.of {f : Value → Value → Sem Value} {g : PyData → PyData → Res PyData} {r : R2} (h : OpR X f r) (q : ∀ Fz H x y v u Q, Live Fz H → Rep X.K Fz H v x → Rep X.K Fz H u y → EOK X.K X.mg (fun _ _ _ => False) Fz H (g x y) Q → r v u H Q) : OpD X f r g := ⟨h, q⟩
/-- a rule for ints -/
def opI2 (C : Int → Int → Bool) (g : Int → Int → PyData) (x y : PyData) : Res PyData := match x, y with
  | .int i, .int j => if C i j = true then .ok (g i j) else .bot
  | _, _ => .bot
theorem opD_int {f : Value → Value → Sem Value} {C : Int → Int → Prop} {Cb : Int → Int → Bool} {g : Int → Int → V} {gd : Int → Int → PyData} (h : OpR X f (rI C g)) (hc : ∀ i j, Cb i j = true → C i j) (hg : ∀ K Fz H i j, Rep K Fz H (g i j) (gd i j)) : OpD X f (rI C g) (opI2 Cb gd) := by
  refine .of h fun Fz H x y v u Q hl r1 r2 q => ?_
  unfold opI2 at q
  cases x with
  | int i =>
    cases y with
    | int j =>
      cases r1
      cases r2
      by_cases hij : Cb i j = true
      · simp only [hij, if_true] at q
        exact ⟨i, j, rfl, rfl, hc i j hij, q _ H Fz .refl (hg _ _ _ _ _)⟩
      · simp only [hij, if_false] at q
        exact q.elim
    | _ => exact q.elim
  | _ => exact q.elim
theorem opR_c {f : Value → Value → Sem Value} {g : Int → Int → V} (h : OpR X f (rI0 g)) : OpR X f (rI (fun _ _ => True) g) := by
  intro pins s σ H x y v u Q I rx ry q
  obtain ⟨i, j, e1, e2, _, q⟩ := q
  exact h pins s σ H x y v u Q I rx ry ⟨i, j, e1, e2, q⟩
abbrev subD := opI2 (fun _ _ => true) fun i j => .int (i - j)
theorem od_sub : OpD X (binaryOp .Sub) (rI (fun _ _ => True) fun i j => .int (i - j)) subD := opD_int (opR_c op_sub) (fun _ _ _ => trivial) fun _ _ _ _ _ => .int _
abbrev mulB (i j : Int) : Bool := decide ((-(2 ^ 64) < i ∧ i < 2 ^ 64) ∨ (-(2 ^ 64) < j ∧ j < 2 ^ 64))
abbrev fdivB (_ j : Int) : Bool := decide (0 < j ∧ j < 1073741824)
abbrev fdivD := opI2 fdivB fun i j => .int (i / j)
theorem od_fdiv : OpD X (binaryOp .FloorDiv) (rI CDiv fun i j => .int (i / j)) fdivD := opD_int op_fdiv (fun i j h => show 0 < j ∧ j < 1073741824 from of_decide_eq_true h) fun _ _ _ _ _ => .int _
abbrev modD := opI2 (fun _ j => decide (0 < j)) fun i j => .int (i % j)
theorem od_mod : OpD X (binaryOp .Mod) (rI (fun _ j => 0 < j) fun i j => .int (i % j)) modD := opD_int op_mod (fun i j h => of_decide_eq_true h) fun _ _ _ _ _ => .int _
abbrev shrD := opI2 (fun _ j => decide (0 ≤ j)) fun i j => .int (i / 2 ^ j.toNat)
theorem od_shr : OpD X (binaryOp .RShift) (rI (fun _ j => 0 ≤ j) fun i j => .int (i / 2 ^ j.toNat)) shrD := opD_int op_shr (fun i j h => of_decide_eq_true h) fun _ _ _ _ _ => .int _
abbrev powB (i j : Int) : Bool := decide (0 ≤ j ∧ j ≤ 1000000 ∧ i.natAbs < 2 ^ 64)
abbrev shlD := opI2 powB fun i j => .int (i * 2 ^ j.toNat)
theorem od_shl : OpD X (binaryOp .LShift) (rI CPow fun i j => .int (i * 2 ^ j.toNat)) shlD := opD_int op_shl (fun i j h => show 0 ≤ j ∧ j ≤ 1000000 ∧ i.natAbs < 2 ^ 64 from of_decide_eq_true h) fun _ _ _ _ _ => .int _
abbrev powD := opI2 powB fun i j => .int (i ^ j.toNat)
theorem od_pow : OpD X (binaryOp .Pow) (rI CPow fun i j => .int (i ^ j.toNat)) powD := opD_int op_pow (fun i j h => show 0 ≤ j ∧ j ≤ 1000000 ∧ i.natAbs < 2 ^ 64 from of_decide_eq_true h) fun _ _ _ _ _ => .int _
abbrev andD := opI2 (fun _ _ => true) fun i j => .int (Builtin.bitAnd i j)
theorem od_and : OpD X (binaryOp .BitAnd) (rI (fun _ _ => True) fun i j => .int (Builtin.bitAnd i j)) andD := opD_int (opR_c op_and) (fun _ _ _ => trivial) fun _ _ _ _ _ => .int _
theorem opI2_ne {C : Int → Int → Bool} {g : Int → Int → PyData} : NoErr (opI2 C g) := fun x y z => by
  unfold opI2
  split
  · split <;> exact True.intro
  · exact True.intro

/-- a + b: whole numbers, texts, tuples, lists -/
def addD (x y : PyData) : Res PyData := match x, y with
  | .int i, .int j => .ok (.int (i + j))
  | .str i, .str j => if i.length + j.length ≤ sizeLine then .ok (.str (i ++ j)) else .bot
  | .tuple xs, .tuple ys => if xs.length + ys.length ≤ sizeLine then .ok (.tuple (xs ++ ys)) else .bot
  | .list xs, .list ys => if xs.length + ys.length ≤ sizeLine then .ok (.list (xs ++ ys)) else .bot
  | _, _ => .bot
theorem addD_ne : NoErr addD := fun x y z => by
  unfold addD
  split <;> first
    | exact True.intro
    | (split <;> exact True.intro)
/-- xs + ys of two lists that are read -/
def rCatL (K : PySem.W.Frag) : R2 := fun x y H Q => ∃ l b xs zs, x = .ref l ∧ y = .ref b ∧ SqL K H l xs ∧ SqL K H b zs ∧ xs.length + zs.length ≤ sizeLine ∧ ∀ p, H p = none → Q (.ref p) (upd H p (.lst (xs ++ zs)))
theorem op_catL : OpR X (binaryOp .Add) (rCatL X.K) := by
  intro pins s σ H x y v u Q I rx ry h
  obtain ⟨l, b, xs, zs, rfl, rfl, hH, hB, hz, q⟩ := h
  cases rx
  cases ry
  obtain ⟨its, r, pl, hl⟩ := I.list hH
  obtain ⟨its2, r2, pl2, hl2⟩ := I.list hB
  obtain ⟨⟨cls, dd, data, sl⟩, ho, hc, n, hd⟩ := pl.isList
  obtain ⟨⟨cls2, dd2, data2, sl2⟩, ho2, hc2, n2, hd2⟩ := pl2.isList
  simp only at hc hd hc2 hd2
  subst hc hd hc2 hd2
  have ea : its.toArray ++ its2.toArray = (its ++ its2).toArray := by simp
  refine concat_meets ⟨_, ho, rfl⟩ ⟨_, ho2, rfl⟩ noFill_list_add seq_list_add PySem.F.slot_list_add PySem.F.entry_list_add (PySem.F.args_list_add_2 _ _) (list_addW l b its.toArray its2.toArray n n2 dd dd2 sl sl2 (by rw [List.size_toArray, List.size_toArray, ← r.length, ← r2.length]; exact hz)) ⟨ho, ho2, ?_⟩
  rw [ea]
  exact ⟨.ref _, _, I.lnew (t' := s.toks) (r.append r2) (by rw [List.length_append]; omega), rfl, q _ I.fresh⟩
theorem RepAll.nil_iff {K : PySem.W.Frag} {Fz : FZ} {H : Hp} {vs : List V} {ds : List PyData} (r : RepAll K Fz H vs ds) : vs = [] ↔ ds = [] := by
  cases r <;> simp
abbrev rAddD (K : PySem.W.Frag) : R2 := fun x y H Q => (rI0 (fun i j => .int (i + j)) x y H Q ∨ ∃ i j, x = .str i ∧ y = .str j ∧ i.length + j.length ≤ sizeLine ∧ Q (.str (i ++ j)) H) ∨ rCatZ K x y H Q ∨ rCatL K x y H Q
theorem od_add : OpD X (binaryOp .Add) (rAddD X.K) addD := by
  refine .of (.or (.or op_add op_add_str) (.or op_catZ op_catL)) fun Fz H x y v u Q hl r1 r2 q => ?_
  unfold addD at q
  cases x with
  | int i =>
    cases y with
    | int j =>
      cases r1
      cases r2
      exact .inl (.inl ⟨i, j, rfl, rfl, q _ H Fz .refl (.int _)⟩)
    | _ => exact q.elim
  | str i =>
    cases y with
    | str j =>
      cases r1
      cases r2
      by_cases hz : i.length + j.length ≤ sizeLine
      · simp only [hz, if_true] at q
        exact .inl (.inr ⟨i, j, rfl, rfl, hz, q _ H Fz .refl (.str _)⟩)
      · simp only [hz, if_false] at q
        exact q.elim
    | _ => exact q.elim
  | tuple xs =>
    cases y with
    | tuple ys =>
      by_cases hz : xs.length + ys.length ≤ sizeLine
      · simp only [hz, if_true] at q
        have r1' := r1
        have r2' := r2
        cases r1 with
        | tup h1 z1 a1 =>
          cases r2 with
          | tup h2 z2 a2 =>
            refine .inr (.inl ⟨_, _, _, _, rfl, rfl, h1.sq, h2.sq, by rw [a1.length, a2.length]; exact hz, fun e => ?_, fun e1 e2 => ?_, fun e1 e2 => newT_rep (by rw [List.length_append]; exact hz) (a1.app a2) fun v2 H2 F2 g2 r2 => q v2 H2 F2 g2 r2⟩)
            · refine q _ H Fz .refl ?_
              rw [a1.nil_iff.mp e, List.nil_append]
              exact r2'
            · refine q _ H Fz .refl ?_
              rw [a2.nil_iff.mp e2, List.append_nil]
              exact r1'
      · simp only [hz, if_false] at q
        exact q.elim
    | _ => exact q.elim
  | list xs =>
    cases y with
    | list ys =>
      by_cases hz : xs.length + ys.length ≤ sizeLine
      · simp only [hz, if_true] at q
        cases r1 with
        | lst h1 z1 a1 =>
          cases r2 with
          | lst h2 z2 a2 =>
            refine .inr (.inr ⟨_, _, _, _, rfl, rfl, h1.sq, h2.sq, by rw [a1.length, a2.length]; exact hz, fun p np => ?_⟩)
            refine q _ _ _ (.frz np) (.lst (.inl ⟨upd_same, .inr rfl⟩) (by rw [List.length_append]; exact hz) ?_)
            exact (a1.app a2).grow (.frz np)
      · simp only [hz, if_false] at q
        exact q.elim
    | _ => exact q.elim
  | _ => exact q.elim

/-- a * b of whole numbers (one within 64 bits), a list or tuple is not served -/
abbrev mulD := opI2 mulB fun i j => .int (i * j)
theorem od_mul : OpD X (binaryOp .Mult) (rI CMul fun i j => .int (i * j)) mulD := opD_int op_mul (fun i j h => show (-(2 ^ 64) < i ∧ i < 2 ^ 64) ∨ (-(2 ^ 64) < j ∧ j < 2 ^ 64) from of_decide_eq_true h) fun _ _ _ _ _ => .int _

/-! ### comparisons of data -/
def eqD (x y : PyData) : Res PyData := if SeqAt.shaped x && SeqAt.shaped y then .ok (.bool (PyData.eqv x y)) else .bot
def neD (x y : PyData) : Res PyData := if SeqAt.shaped x && SeqAt.shaped y then .ok (.bool (!PyData.eqv x y)) else .bot
theorem od_eq (hu : X.A.units + 64 < cLine) : OpD X (compareOp .Eq) (rEqD X.K) eqD := by
  refine .of (op_eqD hu) fun Fz H x y v u Q hl r1 r2 q => ?_
  unfold eqD at q
  split at q
  · rename_i hz
    rw [Bool.and_eq_true] at hz
    exact ⟨x, y, r1.dp (nodc_shaped hz.1), r2.dp (nodc_shaped hz.2), hz.1, hz.2, q _ H Fz .refl (.bl _)⟩
  · exact q.elim
theorem od_ne (hu : X.A.units + 64 < cLine) : OpD X (compareOp .NotEq) (rNeD X.K) neD := by
  refine .of (op_neD hu) fun Fz H x y v u Q hl r1 r2 q => ?_
  unfold neD at q
  split at q
  · rename_i hz
    rw [Bool.and_eq_true] at hz
    exact ⟨x, y, r1.dp (nodc_shaped hz.1), r2.dp (nodc_shaped hz.2), hz.1, hz.2, q _ H Fz .refl (.bl _)⟩
  · exact q.elim
theorem eqD_ne : NoErr eqD := fun x y z => by
  unfold eqD
  split <;> exact True.intro
theorem neD_ne : NoErr neD := fun x y z => by
  unfold neD
  split <;> exact True.intro
/-- < and its like, of data that are alike -/
def cmpOk (x y : PyData) : Bool := PySem.W.alike x y && (match x with | .none => false | _ => true) && decide (x.depth ≤ 64) && nodc x && nodc y
def ltD (x y : PyData) : Res PyData := if cmpOk x y then .ok (.bool (PySem.W.dataLt x y)) else .bot
def gtD (x y : PyData) : Res PyData := if cmpOk x y then .ok (.bool (PySem.W.dataLt y x)) else .bot
def leD (x y : PyData) : Res PyData := if cmpOk x y then .ok (.bool (!PySem.W.dataLt y x)) else .bot
def geD (x y : PyData) : Res PyData := if cmpOk x y then .ok (.bool (!PySem.W.dataLt x y)) else .bot
def rCmpD (K : PySem.W.Frag) (g : PyData → PyData → Bool) : R2 := fun x y H Q => ∃ d e, Dp K H x d ∧ Dp K H y e ∧ cmpOk d e = true ∧ Q (.bl (g d e)) H
theorem cmpOk_iff {A : Around} (hu : A.units + 64 < cLine) {x y : PyData} (h : cmpOk x y = true) : PySem.W.alike x y = true ∧ x ≠ .none ∧ A.units + min x.depth y.depth < cLine := by
  unfold cmpOk at h
  rw [Bool.and_eq_true, Bool.and_eq_true, Bool.and_eq_true, Bool.and_eq_true, decide_eq_true_eq] at h
  obtain ⟨⟨⟨⟨h1, h2⟩, h3⟩, _⟩, _⟩ := h
  refine ⟨h1, (fun e => by subst e; cases h2), ?_⟩
  have := Nat.min_le_left x.depth y.depth
  omega
theorem cmpOk_nd {x y : PyData} (h : cmpOk x y = true) : nodc x = true ∧ nodc y = true := by
  unfold cmpOk at h
  rw [Bool.and_eq_true, Bool.and_eq_true] at h
  exact ⟨h.1.2, h.2⟩
theorem op_ltD (hu : X.A.units + 64 < cLine) : OpR X (compareOp .Lt) (rCmpD X.K fun d e => PySem.W.dataLt d e) := by
  intro pins s σ H x y v u Q I rx ry h
  obtain ⟨d, e, hd, he, sd, q⟩ := h
  obtain ⟨as, r1⟩ := Dp.reads I d x v hd rx
  obtain ⟨bs, r2⟩ := Dp.reads I e y u he ry
  obtain ⟨h1, h2, h3⟩ := cmpOk_iff hu sd
  exact PySem.W.lt_data r1 r2 h1 h2 h3 ⟨.bl _, H, I, rfl, q⟩
theorem op_gtD (hu : X.A.units + 64 < cLine) : OpR X (compareOp .Gt) (rCmpD X.K fun d e => PySem.W.dataLt e d) := by
  intro pins s σ H x y v u Q I rx ry h
  obtain ⟨d, e, hd, he, sd, q⟩ := h
  obtain ⟨as, r1⟩ := Dp.reads I d x v hd rx
  obtain ⟨bs, r2⟩ := Dp.reads I e y u he ry
  obtain ⟨h1, h2, h3⟩ := cmpOk_iff hu sd
  exact PySem.W.gt_data r1 r2 h1 h2 h3 ⟨.bl _, H, I, rfl, q⟩
theorem op_leD (hu : X.A.units + 64 < cLine) : OpR X (compareOp .LtE) (rCmpD X.K fun d e => !PySem.W.dataLt e d) := by
  intro pins s σ H x y v u Q I rx ry h
  obtain ⟨d, e, hd, he, sd, q⟩ := h
  obtain ⟨as, r1⟩ := Dp.reads I d x v hd rx
  obtain ⟨bs, r2⟩ := Dp.reads I e y u he ry
  obtain ⟨h1, h2, h3⟩ := cmpOk_iff hu sd
  exact PySem.W.le_data r1 r2 h1 h2 h3 ⟨.bl _, H, I, rfl, q⟩
theorem op_geD (hu : X.A.units + 64 < cLine) : OpR X (compareOp .GtE) (rCmpD X.K fun d e => !PySem.W.dataLt d e) := by
  intro pins s σ H x y v u Q I rx ry h
  obtain ⟨d, e, hd, he, sd, q⟩ := h
  obtain ⟨as, r1⟩ := Dp.reads I d x v hd rx
  obtain ⟨bs, r2⟩ := Dp.reads I e y u he ry
  obtain ⟨h1, h2, h3⟩ := cmpOk_iff hu sd
  exact PySem.W.ge_data r1 r2 h1 h2 h3 ⟨.bl _, H, I, rfl, q⟩
theorem cmpD_of {f : Value → Value → Sem Value} {g : PyData → PyData → Bool} (h : OpR X f (rCmpD X.K g)) : OpD X f (rCmpD X.K g) (fun x y => if cmpOk x y then .ok (.bool (g x y)) else .bot) := by
  refine .of h fun Fz H x y v u Q hl r1 r2 q => ?_
  try dsimp only at q
  split at q
  · rename_i hz
    exact ⟨x, y, r1.dp (cmpOk_nd hz).1, r2.dp (cmpOk_nd hz).2, hz, q _ H Fz .refl (.bl _)⟩
  · exact q.elim
theorem cmpD_ne {g : PyData → PyData → Bool} : NoErr (fun x y => if cmpOk x y then .ok (.bool (g x y)) else .bot) := fun x y z => by
  dsimp only
  split <;> exact True.intro
theorem od_lt (hu : X.A.units + 64 < cLine) : OpD X (compareOp .Lt) (rCmpD X.K fun d e => PySem.W.dataLt d e) ltD := cmpD_of (op_ltD hu)
theorem od_gt (hu : X.A.units + 64 < cLine) : OpD X (compareOp .Gt) (rCmpD X.K fun d e => PySem.W.dataLt e d) gtD := cmpD_of (op_gtD hu)
theorem od_le (hu : X.A.units + 64 < cLine) : OpD X (compareOp .LtE) (rCmpD X.K fun d e => !PySem.W.dataLt e d) leD := cmpD_of (op_leD hu)
theorem od_ge (hu : X.A.units + 64 < cLine) : OpD X (compareOp .GtE) (rCmpD X.K fun d e => !PySem.W.dataLt d e) geD := cmpD_of (op_geD hu)
theorem ltD_ne : NoErr ltD := cmpD_ne
theorem gtD_ne : NoErr gtD := cmpD_ne
theorem leD_ne : NoErr leD := cmpD_ne
theorem geD_ne : NoErr geD := cmpD_ne
/-- x is None, x is not None -/
def isNone : PyData → Bool | .none => true | _ => false
def isD (x y : PyData) : Res PyData := match y with | .none => .ok (.bool (isNone x)) | .bool b => (match x with | .bool a => .ok (.bool (a == b)) | _ => .bot) | _ => .bot
def isnD (x y : PyData) : Res PyData := match y with | .none => .ok (.bool (!isNone x)) | .bool b => (match x with | .bool a => .ok (.bool (!(a == b))) | _ => .bot) | _ => .bot
theorem isD_ne : NoErr isD := fun x y z => by
  unfold isD
  split
  · exact True.intro
  · split <;> exact True.intro
  · exact True.intro
theorem isnD_ne : NoErr isnD := fun x y z => by
  unfold isnD
  split
  · exact True.intro
  · split <;> exact True.intro
  · exact True.intro
theorem Rep.non_iff {K : PySem.W.Frag} {Fz : FZ} {H : Hp} {v : V} {d : PyData} (r : Rep K Fz H v d) : decide (v = .non) = isNone d := by
  cases r <;> rfl

abbrev rIsD : R2 := fun x y H Q => (y = .non ∧ Q (.bl (decide (x = .non))) H) ∨ ∃ a b, x = .bl a ∧ y = .bl b ∧ Q (.bl (decide (a = b))) H
theorem od_is : OpD X (compareOp .Is) rIsD isD := by
  refine .of (op_isN.or op_is_bl) fun Fz H x y v u Q hl r1 r2 q => ?_
  unfold isD at q
  cases y with
  | none =>
    cases r2
    exact .inl ⟨rfl, by rw [r1.non_iff]; exact q _ H Fz .refl (.bl _)⟩
  | bool b =>
    cases x with
    | bool a =>
      cases r1
      cases r2
      exact .inr ⟨a, b, rfl, rfl, by rw [show decide (a = b) = (a == b) by cases a <;> cases b <;> rfl]; exact q _ H Fz .refl (.bl _)⟩
    | _ => exact q.elim
  | _ => exact q.elim
abbrev rIsnD : R2 := fun x y H Q => (y = .non ∧ Q (.bl (!decide (x = .non))) H) ∨ ∃ a b, x = .bl a ∧ y = .bl b ∧ Q (.bl (!decide (a = b))) H
theorem od_isn : OpD X (compareOp .IsNot) rIsnD isnD := by
  refine .of (op_notN.or op_isnot_bl) fun Fz H x y v u Q hl r1 r2 q => ?_
  unfold isnD at q
  cases y with
  | none =>
    cases r2
    exact .inl ⟨rfl, by rw [r1.non_iff]; exact q _ H Fz .refl (.bl _)⟩
  | bool b =>
    cases x with
    | bool a =>
      cases r1
      cases r2
      exact .inr ⟨a, b, rfl, rfl, by rw [show decide (a = b) = (a == b) by cases a <;> cases b <;> rfl]; exact q _ H Fz .refl (.bl _)⟩
    | _ => exact q.elim
  | _ => exact q.elim

/-! ### x in xs -/
def inD (x y : PyData) : Res PyData := match y with
  | .list ds => if SeqAt.shaped x && SeqAt.shaped (.list ds) then .ok (.bool (ds.any fun z => PyData.eqv z x)) else .bot
  | .tuple ds => if SeqAt.shaped x && SeqAt.shaped (.tuple ds) then .ok (.bool (ds.any fun z => PyData.eqv z x)) else .bot
  | _ => .bot
def ninD (x y : PyData) : Res PyData := match y with
  | .list ds => if SeqAt.shaped x && SeqAt.shaped (.list ds) then .ok (.bool (!ds.any fun z => PyData.eqv z x)) else .bot
  | .tuple ds => if SeqAt.shaped x && SeqAt.shaped (.tuple ds) then .ok (.bool (!ds.any fun z => PyData.eqv z x)) else .bot
  | _ => .bot
theorem inD_ne : NoErr inD := fun x y z => by
  unfold inD
  split <;> first
    | exact True.intro
    | (split <;> exact True.intro)
theorem ninD_ne : NoErr ninD := fun x y z => by
  unfold ninD
  split <;> first
    | exact True.intro
    | (split <;> exact True.intro)
def rInT (K : PySem.W.Frag) (neg : Bool) : R2 := fun x y H Q => ∃ d ds, Dp K H x d ∧ Dp K H y (.tuple ds) ∧ SeqAt.shaped d = true ∧ SeqAt.shaped (.tuple ds) = true ∧ Q (.bl (if neg then !ds.any fun z => PyData.eqv z d else ds.any fun z => PyData.eqv z d)) H
theorem room_in_t {A : Around} {d : PyData} {ds : List PyData} (h : SeqAt.shaped d = true) (hu : A.units + 65 < cLine) : A.units + 1 + min (PyData.depthAll ds) d.depth < cLine := by
  have h1 := SeqAt.depth_of_shaped h
  have h2 : min (PyData.depthAll ds) d.depth ≤ d.depth := Nat.min_le_right _ _
  omega
theorem op_inT (hu : X.A.units + 65 < cLine) : OpR X (compareOp .In) (rInT X.K false) := by
  intro pins s σ H x y v u Q I rx ry h
  obtain ⟨d, ds, hd, he, sd, se, q⟩ := h
  obtain ⟨as, r1⟩ := Dp.reads I d x v hd rx
  obtain ⟨bs, r2⟩ := Dp.reads I (.tuple ds) y u he ry
  exact SeqAt.in_tuple_reads r2 r1 (SeqAt.canLay_of_shaped se) (SeqAt.canLay_of_shaped sd) (room_in_t sd hu) ⟨.bl _, H, I, rfl, q⟩
theorem op_ninT (hu : X.A.units + 65 < cLine) : OpR X (compareOp .NotIn) (rInT X.K true) := by
  intro pins s σ H x y v u Q I rx ry h
  obtain ⟨d, ds, hd, he, sd, se, q⟩ := h
  obtain ⟨as, r1⟩ := Dp.reads I d x v hd rx
  obtain ⟨bs, r2⟩ := Dp.reads I (.tuple ds) y u he ry
  exact SeqAt.notIn_tuple_reads r2 r1 (SeqAt.canLay_of_shaped se) (SeqAt.canLay_of_shaped sd) (room_in_t sd hu) ⟨.bl _, H, I, rfl, q⟩
abbrev rInA (K : PySem.W.Frag) : R2 := fun x y H Q => rInD K x y H Q ∨ rInT K false x y H Q
theorem od_in (hu : X.A.units + 65 < cLine) : OpD X (compareOp .In) (rInA X.K) inD := by
  refine .of ((op_inD hu).or (op_inT hu)) fun Fz H x y v u Q hl r1 r2 q => ?_
  unfold inD at q
  cases y with
  | list ds =>
    dsimp only at q
    split at q
    · rename_i hz
      rw [Bool.and_eq_true] at hz
      exact .inl ⟨x, ds, r1.dp (nodc_shaped hz.1), r2.dp (nodc_shaped hz.2), hz.1, hz.2, q _ H Fz .refl (.bl _)⟩
    · exact q.elim
  | tuple ds =>
    dsimp only at q
    split at q
    · rename_i hz
      rw [Bool.and_eq_true] at hz
      exact .inr ⟨x, ds, r1.dp (nodc_shaped hz.1), r2.dp (nodc_shaped hz.2), hz.1, hz.2, q _ H Fz .refl (.bl _)⟩
    · exact q.elim
  | _ => exact q.elim
abbrev rNinA (K : PySem.W.Frag) : R2 := fun x y H Q => rNotInD K x y H Q ∨ rInT K true x y H Q
theorem od_nin (hu : X.A.units + 65 < cLine) : OpD X (compareOp .NotIn) (rNinA X.K) ninD := by
  refine .of ((op_notInD hu).or (op_ninT hu)) fun Fz H x y v u Q hl r1 r2 q => ?_
  unfold ninD at q
  cases y with
  | list ds =>
    dsimp only at q
    split at q
    · rename_i hz
      rw [Bool.and_eq_true] at hz
      exact .inl ⟨x, ds, r1.dp (nodc_shaped hz.1), r2.dp (nodc_shaped hz.2), hz.1, hz.2, q _ H Fz .refl (.bl _)⟩
    · exact q.elim
  | tuple ds =>
    dsimp only at q
    split at q
    · rename_i hz
      rw [Bool.and_eq_true] at hz
      exact .inr ⟨x, ds, r1.dp (nodc_shaped hz.1), r2.dp (nodc_shaped hz.2), hz.1, hz.2, q _ H Fz .refl (.bl _)⟩
    · exact q.elim
  | _ => exact q.elim
end
end DL

set_option Elab.async false
set_option linter.all false
set_option maxRecDepth 100000
set_option maxHeartbeats 4000000
namespace DL
open PySem PySem.Spec L2
open PyProof.Rows hiding St
section
variable {X : Cx} {W : WS} {U : XK} {S T : List Nat} {e a b c : Expr} {es : List Expr} {pos p : Pos} {te ta tb : TE} {t : TA}
theorem AOK.at {K : PySem.W.Frag} {mg : Str → Option Value} {Fz : FZ} {H : Hp} {ds : List PyData} {vs : List V} {Q : List V → Hp → Prop} (h : AOK K mg U Fz H (.ok ds) Q) (r : RepAll K Fz H vs ds) : Q vs H := h vs H Fz .refl r
theorem da_nil : DA X W [] [] tNil (fun _ => .ok []) := ⟨pa_nil, fun _ ds h => by cases (show [] = ds from h); rfl, fun Fz σ H δ Q _ _ h => h.at .nil⟩
theorem da_cons {f : DSt → Res PyData} {g : DSt → Res (List PyData)} (ha : DE X W S e te f) (hr : DA X W T es t g) (hs : starEach (e :: es) X.env = (false, eval e X.env) :: starEach es X.env := by rfl) : DA X W (S ++ T) (e :: es) (tCons te t) (fun δ => do let x ← f δ; let xs ← g δ; .ok (x :: xs)) := by
  refine ⟨pa_cons ha.pe hr.pe hs, fun δ ds h => ?_, fun Fz σ H δ Q hd hl h => ?_⟩
  · obtain ⟨x, _, h⟩ := can_bind h
    obtain ⟨xs, hg, h⟩ := can_bind h
    cases (show x :: xs = ds from h)
    rw [List.length_cons, List.length_cons, hr.len δ xs hg]
  unfold AOK at h
  rw [wp_bind] at h
  refine ha.ok Fz σ H δ _ hd.left hl (wp_mono h (fun x hx v H1 F1 g1 r1 => ?_) fun x hx => hx)
  rw [wp_bind] at hx
  refine hr.ok F1 σ H1 δ _ (hd.right.grow g1) (g1.live hl) (wp_mono hx (fun xs hxs vs H2 F2 g2 r2 => ?_) fun x hx c oe H2 F2 g2 => hx c oe H2 F2 (g1.trans g2))
  exact hxs (v :: vs) H2 F2 (g1.trans g2) (.cons (r1.grow g2) r2)
/-- a tuple, a list of written items -/
def tupD (ds : List PyData) : Res PyData := if ds.length ≤ sizeLine then .ok (.tuple ds) else .bot
theorem de_tup {x1} {f : DSt → Res (List PyData)} (h : DA X W S es t f) : DE X W S (.Tuple es x1 pos) (tTupZ t) (fun δ => do let xs ← f δ; tupD xs) := by
  refine ⟨pe_tupZ h.pe, fun Fz σ H δ Q hd hl hq => ?_⟩
  unfold EOK at hq
  rw [wp_bind] at hq
  refine h.ok Fz σ H δ _ hd hl (wp_mono hq (fun ds hx vs H1 F1 g1 r1 => ?_) fun x hx => hx)
  unfold tupD at hx
  split at hx
  · rename_i hz
    exact ⟨by rw [r1.length]; exact hz, newT_rep hz r1 fun v H2 F2 g2 r2 => hx v H2 F2 (g1.trans g2) r2⟩
  · exact hx.elim
def lstD (ds : List PyData) : Res (List PyData) := if ds.length ≤ sizeLine then .ok ds else .bot
theorem notFz {Fz Fz' : FZ} {H H' : Hp} (g : Grow Fz H Fz' H') (hl : Live Fz H) {p : Addr} (np : H' p = none) : ¬ Fz' p := fun z => g.live hl p z np
theorem df_lst {f : DSt → Res (List PyData)} (h : DA X W S es t f) : DF X W S (.List es pos) (tLst t) (fun δ => do let xs ← f δ; lstD xs) := by
  refine ⟨pe_lst h.pe, fun Fz σ H δ Q hd hl hq => ?_⟩
  unfold LOK at hq
  rw [wp_bind] at hq
  refine h.ok Fz σ H δ _ hd hl (wp_mono hq (fun ds hx vs H1 F1 g1 r1 => ?_) fun x hx => hx)
  unfold lstD at hx
  split at hx
  · rename_i hz
    exact ⟨by rw [r1.length]; exact hz, fun p np => hx p vs _ F1 (g1.trans (.nw np)) (none_of_same g1.same np) (notFz g1 hl np) upd_same hz (r1.grow (.nw np))⟩
  · exact hx.elim
/-- a new list as a value -/
theorem de_of_df {f : DSt → Res (List PyData)} (h : DF X W S e te f) : DE X W S e te (fun δ => do let xs ← f δ; .ok (.list xs)) := by
  refine ⟨h.pe, fun Fz σ H δ Q hd hl hq => ?_⟩
  unfold EOK at hq
  rw [wp_bind] at hq
  refine h.ok Fz σ H δ _ hd hl (wp_mono hq (fun ds hx p vs H1 F1 g1 np nf e z r1 => ?_) fun x hx => hx)
  have g2 : Grow Fz H (fun a => F1 a ∨ a = p) H1 := ⟨g1.same, fun a h => .inl (g1.sub a h), fun a z => z.elim (g1.new a) fun e' => .inr (e' ▸ np), fun l a z q => by
    rcases z with z | z
    · exact g1.live l a z q
    · subst z
      rw [e] at q
      cases q⟩
  exact hx _ _ _ g2 (.lst (.inl ⟨e, .inr rfl⟩) z (r1.stay (.of_same fun _ _ e => e) fun _ h => .inl h))

/-! ### built-ins -/
abbrev E0 : XK := fun _ _ _ => False
structure CallD (X : Cx) (f : Value) (r : List V → Hp → VK → Prop) (g : List PyData → Res PyData) : Prop where
  call : CallR X f r
  ok : ∀ Fz H ds vs Q, Live Fz H → RepAll X.K Fz H vs ds → EOK X.K X.mg E0 Fz H (g ds) Q → r vs H Q
  ne : ∀ ds, Exn → (g ds).quiet
structure CallF (X : Cx) (f : Value) (r : List V → Hp → VK → Prop) (g : List PyData → Res (List PyData)) : Prop where
  call : CallR X f r
  ok : ∀ Fz H ds vs Q, Live Fz H → RepAll X.K Fz H vs ds → LOK X.K X.mg E0 Fz H (g ds) Q → r vs H Q
  ne : ∀ ds, Exn → (g ds).quiet
variable {id : String} {r : List V → Hp → VK → Prop} {x : Str} {fv : Value}
theorem tCB_ok {f : DSt → Res (List PyData)} {g : List PyData → Res PyData} (c : CallD X fv r g) (ha : DA X W S es t f) :
    ∀ Fz σ H δ Q, RdOn X.K S Fz H σ δ → Live Fz H → EOK X.K X.mg (W σ) Fz H (do let ds ← f δ; g ds) Q → t σ H fun vs H1 => r vs H1 Q := fun Fz σ H δ Q hd hl h => by
  unfold EOK at h
  rw [wp_bind] at h
  refine ha.ok Fz σ H δ _ hd hl (wp_mono h (fun ds hx vs H1 F1 g1 r1 => ?_) fun x hx => hx)
  exact c.ok F1 H1 ds vs Q (g1.live hl) r1 (eok_weak (c.ne ds) g1 hx)
theorem tCF_ok {f : DSt → Res (List PyData)} {g : List PyData → Res (List PyData)} (c : CallF X fv r g) (ha : DA X W S es t f) :
    ∀ Fz σ H δ Q, RdOn X.K S Fz H σ δ → Live Fz H → LOK X.K X.mg (W σ) Fz H (do let ds ← f δ; g ds) Q → t σ H fun vs H1 => r vs H1 Q := fun Fz σ H δ Q hd hl h => by
  unfold LOK at h
  rw [wp_bind] at h
  refine ha.ok Fz σ H δ _ hd hl (wp_mono h (fun ds hx vs H1 F1 g1 r1 => ?_) fun x hx => hx)
  refine c.ok F1 H1 ds vs Q (g1.live hl) r1 ?_
  exact wp_quiet (c.ne ds ⟨"", none⟩) (wp_mono hx (fun ys hx p vs' H2 F2 g2 np nf e z r2 => hx p vs' H2 F2 (g1.trans g2) (none_of_same g1.same np) nf e z r2) fun x h => h)
theorem de_cb {f : DSt → Res (List PyData)} {g : List PyData → Res PyData} (c : CallD X (.builtin id) r g) (hg : Gl X x) (hm : X.mg x = none) (hv : bootBuiltins x = some (.builtin id)) (ha : DA X W S (e :: es) t f) (hn : x ≠ "__name__" := by decide) (hdb : (x == ("__debug__" : Str)) = false := by decide)
    (he : starEach (e :: es) X.env = (false, eval e X.env) :: starEach es X.env := by rfl) (hpl : (backTo pos (starEach es X.env)).any (·.1) = false := by rfl) : DE X W S (.Call (.Name x p) (e :: es) [] pos) (tCB r t) (fun δ => do let ds ← f δ; g ds) :=
  ⟨pe_callB c.call hg hm hv ha.pe hn hdb he hpl, tCB_ok c ha⟩
theorem df_cb {f : DSt → Res (List PyData)} {g : List PyData → Res (List PyData)} (c : CallF X (.builtin id) r g) (hg : Gl X x) (hm : X.mg x = none) (hv : bootBuiltins x = some (.builtin id)) (ha : DA X W S (e :: es) t f) (hn : x ≠ "__name__" := by decide) (hdb : (x == ("__debug__" : Str)) = false := by decide)
    (he : starEach (e :: es) X.env = (false, eval e X.env) :: starEach es X.env := by rfl) (hpl : (backTo pos (starEach es X.env)).any (·.1) = false := by rfl) : DF X W S (.Call (.Name x p) (e :: es) [] pos) (tCB r t) (fun δ => do let ds ← f δ; g ds) :=
  ⟨pe_callB c.call hg hm hv ha.pe hn hdb he hpl, tCF_ok c ha⟩
theorem de_cty {f : DSt → Res (List PyData)} {g : List PyData → Res PyData} (c : CallD X (.type id) r g) (hg : Gl X x) (hm : X.mg x = none) (hv : bootBuiltins x = some (.type id)) (ha : DA X W S (e :: es) t f) (hn : x ≠ "__name__" := by decide) (hdb : (x == ("__debug__" : Str)) = false := by decide)
    (he : starEach (e :: es) X.env = (false, eval e X.env) :: starEach es X.env := by rfl) (hpl : (backTo pos (starEach es X.env)).any (·.1) = false := by rfl) : DE X W S (.Call (.Name x p) (e :: es) [] pos) (tCB r t) (fun δ => do let ds ← f δ; g ds) :=
  ⟨pe_callTy c.call hg hm hv ha.pe hn hdb he hpl, tCB_ok c ha⟩
theorem df_cty {f : DSt → Res (List PyData)} {g : List PyData → Res (List PyData)} (c : CallF X (.type id) r g) (hg : Gl X x) (hm : X.mg x = none) (hv : bootBuiltins x = some (.type id)) (ha : DA X W S (e :: es) t f) (hn : x ≠ "__name__" := by decide) (hdb : (x == ("__debug__" : Str)) = false := by decide)
    (he : starEach (e :: es) X.env = (false, eval e X.env) :: starEach es X.env := by rfl) (hpl : (backTo pos (starEach es X.env)).any (·.1) = false := by rfl) : DF X W S (.Call (.Name x p) (e :: es) [] pos) (tCB r t) (fun δ => do let ds ← f δ; g ds) :=
  ⟨pe_callTy c.call hg hm hv ha.pe hn hdb he hpl, tCF_ok c ha⟩

def intD (ds : List PyData) : Res PyData := match ds with | [.int i] => .ok (.int i) | [.bool k] => .ok (.int (if k then 1 else 0)) | _ => .bot
theorem cd_int : CallD X (.type "int") (fun xs H Q => (∃ i, xs = [.int i] ∧ Q (.int i) H) ∨ ∃ k, xs = [.bl k] ∧ Q (.int (if k then 1 else 0)) H) intD := by
  refine ⟨call_int1, fun Fz H ds vs Q hl r q => ?_, fun ds z => by unfold intD; split <;> exact True.intro⟩
  unfold intD at q
  split at q
  · cases r with | cons h r => cases h; cases r; exact .inl ⟨_, rfl, q.at (.int _)⟩
  · cases r with | cons h r => cases h; cases r; exact .inr ⟨_, rfl, q.at (.int _)⟩
  · exact q.elim
def absD (ds : List PyData) : Res PyData := match ds with | [.int i] => .ok (.int (if i < 0 then -i else i)) | _ => .bot
theorem cd_abs : CallD X (.builtin "abs") (fun xs H Q => ∃ i, xs = [.int i] ∧ Q (.int (if i < 0 then -i else i)) H) absD := by
  refine ⟨call_abs, fun Fz H ds vs Q hl r q => ?_, fun ds z => by unfold absD; split <;> exact True.intro⟩
  unfold absD at q
  split at q
  · cases r with | cons h r => cases h; cases r; exact ⟨_, rfl, q.at (.int _)⟩
  · exact q.elim
def maxD2 (ds : List PyData) : Res PyData := match ds with | [.int i, .int j] => .ok (.int (if j > i then j else i)) | _ => .bot
theorem cd_max2 (hc : X.calm = true) : CallD X (.builtin "max") (fun xs H Q => ∃ i j, xs = [.int i, .int j] ∧ Q (.int (if j > i then j else i)) H) maxD2 := by
  refine ⟨call_max2 hc, fun Fz H ds vs Q hl r q => ?_, fun ds z => by unfold maxD2; split <;> exact True.intro⟩
  unfold maxD2 at q
  split at q
  · cases r with | cons h r => cases h; cases r with | cons h r => cases h; cases r; exact ⟨_, _, rfl, q.at (.int _)⟩
  · exact q.elim
def minD2 (ds : List PyData) : Res PyData := match ds with | [.int i, .int j] => .ok (.int (if j < i then j else i)) | _ => .bot
theorem cd_min2 (hc : X.calm = true) : CallD X (.builtin "min") (fun xs H Q => ∃ i j, xs = [.int i, .int j] ∧ Q (.int (if j < i then j else i)) H) minD2 := by
  refine ⟨call_min2 hc, fun Fz H ds vs Q hl r q => ?_, fun ds z => by unfold minD2; split <;> exact True.intro⟩
  unfold minD2 at q
  split at q
  · cases r with | cons h r => cases h; cases r with | cons h r => cases h; cases r; exact ⟨_, _, rfl, q.at (.int _)⟩
  · exact q.elim
def lenD (ds : List PyData) : Res PyData := match ds with | [.list xs] => .ok (.int xs.length) | [.tuple xs] => .ok (.int xs.length) | [.str x] => if x.length ≤ sizeLine then .ok (.int x.length) else .bot | _ => .bot
theorem cd_len : CallD X (.builtin "len") (fun xs H Q => ∃ x n, xs = [x] ∧ LenV X.K x H n ∧ Q (.int n) H) lenD := by
  refine ⟨call_len, fun Fz H ds vs Q hl r q => ?_, fun ds z => by
    unfold lenD
    split <;> first
      | exact True.intro
      | (split <;> exact True.intro)⟩
  unfold lenD at q
  split at q
  · cases r with
    | cons h r =>
      cases r
      cases h with
      | lst h z rr => exact ⟨_, _, rfl, .inl ⟨_, h.sq, rr.length.symm⟩, q.at (.int _)⟩
  · cases r with
    | cons h r =>
      cases r
      cases h with
      | tup h z rr => exact ⟨_, _, rfl, .inr ⟨_, h.sq, rr.length.symm⟩, q.at (.int _)⟩
  · split at q
    · rename_i hz
      cases r with | cons h r => cases h; cases r; exact ⟨_, _, rfl, ⟨hz, rfl⟩, q.at (.int _)⟩
    · exact q.elim
  · exact q.elim
/-- all True or False -/
def allBl : List PyData → Option (List Bool)
  | [] => some []
  | .bool b :: r => (allBl r).map (b :: ·)
  | _ :: _ => none
theorem allBl_vs {K : PySem.W.Frag} {Fz : FZ} {H : Hp} : ∀ {vs : List V} {ds : List PyData} {bs : List Bool}, RepAll K Fz H vs ds → allBl ds = some bs → vs = bs.map V.bl
  | _, _, _, .nil, e => by cases e; rfl
  | _, _, _, .cons (d := d) h r, e => by
    cases d with
    | bool b =>
      cases h
      rw [allBl] at e
      cases q : allBl _ with
      | none => rw [q] at e; cases e
      | some bs =>
        rw [q] at e
        cases e
        rw [allBl_vs r q]
        rfl
    | _ => cases e
def allD (ds : List PyData) : Res PyData := match ds with | [.list xs] => (match allBl xs with | some bs => .ok (.bool (bs.all _root_.id)) | none => .bot) | _ => .bot
def anyD (ds : List PyData) : Res PyData := match ds with | [.list xs] => (match allBl xs with | some bs => .ok (.bool (bs.any _root_.id)) | none => .bot) | _ => .bot
theorem cd_all (hc : X.calm = true) : CallD X (.builtin "all") (rAll X.K) allD := by
  refine ⟨cr_all hc, fun Fz H ds vs Q hl r q => ?_, fun ds z => by
    unfold allD
    split <;> first
      | exact True.intro
      | (split <;> exact True.intro)⟩
  unfold allD at q
  split at q
  · split at q
    · rename_i bs hb
      cases r with
      | cons h r =>
        cases r
        cases h with
        | lst h z rr => exact ⟨_, bs, rfl, by rw [← allBl_vs rr hb]; exact h.sq, q.at (.bl _)⟩
    · exact q.elim
  · exact q.elim
theorem cd_any (hc : X.calm = true) : CallD X (.builtin "any") (rAny X.K) anyD := by
  refine ⟨cr_any hc, fun Fz H ds vs Q hl r q => ?_, fun ds z => by
    unfold anyD
    split <;> first
      | exact True.intro
      | (split <;> exact True.intro)⟩
  unfold anyD at q
  split at q
  · split at q
    · rename_i bs hb
      cases r with
      | cons h r =>
        cases r
        cases h with
        | lst h z rr => exact ⟨_, bs, rfl, by rw [← allBl_vs rr hb]; exact h.sq, q.at (.bl _)⟩
    · exact q.elim
  · exact q.elim
def tupleD (ds : List PyData) : Res PyData := match ds with | [.list xs] => .ok (.tuple xs) | [.tuple xs] => .ok (.tuple xs) | _ => .bot
theorem cd_tuple : CallD X (.type "tuple") (rTupZ X.K) tupleD := by
  refine ⟨call_tupZ, fun Fz H ds vs Q hl r q => ?_, fun ds z => by unfold tupleD; split <;> exact True.intro⟩
  unfold tupleD at q
  split at q
  · cases r with
    | cons h r =>
      cases r
      cases h with
      | lst h z rr => exact ⟨_, _, rfl, .inl ⟨h.sq, newT_rep z rr fun v H2 F2 g2 r2 => q v H2 F2 g2 r2⟩⟩
  · cases r with
    | cons h r =>
      cases r
      cases h with
      | tup h z rr => exact ⟨_, _, rfl, .inr ⟨h.sq, q.at (.tup h z rr)⟩⟩
  · exact q.elim
def listD (ds : List PyData) : Res (List PyData) := match ds with | [.list xs] => .ok xs | [.tuple xs] => .ok xs | _ => .bot
theorem cf_list : CallF X (.type "list") (fun xs H Q => ∃ p ys, xs = [.ref p] ∧ (SqL X.K H p ys ∨ SqT X.K H p ys) ∧ ∀ l, H l = none → Q (.ref l) (upd H l (.lst ys))) listD := by
  refine ⟨call_list_of, fun Fz H ds vs Q hl r q => ?_, fun ds z => by unfold listD; split <;> exact True.intro⟩
  unfold listD at q
  split at q
  · cases r with
    | cons h r =>
      cases r
      cases h with
      | lst h z rr => exact ⟨_, _, rfl, .inl h.sq, fun l nl => q l _ _ Fz (.nw nl) nl (notFz (H' := H) .refl hl nl) upd_same z (rr.grow (.nw nl))⟩
  · cases r with
    | cons h r =>
      cases r
      cases h with
      | tup h z rr => exact ⟨_, _, rfl, .inr h.sq, fun l nl => q l _ _ Fz (.nw nl) nl (notFz (H' := H) .refl hl nl) upd_same z (rr.grow (.nw nl))⟩
  · exact q.elim

/-! ### a[i], a[lo:hi] -/
def ixD (x y : PyData) : Res PyData := match x, y with
  | .list xs, .int i => (match atI xs i with | some d => .ok d | none => .bot)
  | .tuple xs, .int i => (match atI xs i with | some d => .ok d | none => .bot)
  | .str z, .int i => if z.length ≤ sizeLine then (match atI z.cps.toList i with | some c => .ok (.str ⟨#[c]⟩) | none => .bot) else .bot
  | _, _ => .bot
theorem ixD_ne : NoErr ixD := fun x y z => by
  unfold ixD
  split
  · split <;> exact True.intro
  · split <;> exact True.intro
  · split
    · split <;> exact True.intro
    · exact True.intro
  · exact True.intro
theorem atI_rep {K : PySem.W.Frag} {Fz : FZ} {H : Hp} {vs : List V} {ds : List PyData} {i : Int} {d : PyData} (r : RepAll K Fz H vs ds) (h : atI ds i = some d) : ∃ v, atI vs i = some v ∧ Rep K Fz H v d := by
  unfold atI at h ⊢
  rw [r.length]
  cases q : ixN ds.length i with
  | none => rw [q] at h; cases h
  | some j =>
    rw [q] at h
    exact r.get h
theorem de_ix {fa fb : DSt → Res PyData} (hs : PlainIx b) (ha : DE X W S a ta fa) (hb : DE X W T b tb fb) : DE X W (S ++ T) (.Subscript a b pos) (tOp (rIx X.K) ta tb) (fun δ => do let x ← fa δ; let y ← fb δ; ixD x y) := by
  refine ⟨pe_ix ix_seq ha.pe hb.pe hs, fun Fz σ H δ Q hd hl h => ?_⟩
  unfold EOK at h
  rw [wp_bind] at h
  refine two ha.ok hb.ok hd hl (wp_mono h (fun x hx => ?_) fun x hx => hx)
  rw [wp_bind] at hx
  refine wp_mono hx (fun y hy v u H' F' g' l' r1 r2 => ?_) fun x hx => hx
  have q : EOK X.K X.mg E0 F' H' (ixD x y) Q := eok_weak (ixD_ne x y) g' hy
  unfold ixD at q
  cases y with
  | int i =>
    cases r2
    cases x with
    | list xs =>
      dsimp only at q
      split at q
      · rename_i d hd'
        cases r1 with
        | lst h z rr =>
          obtain ⟨v, h1, h2⟩ := atI_rep rr hd'
          exact .inl ⟨_, _, i, v, rfl, rfl, h.sq, h1, q.at h2⟩
      · exact q.elim
    | tuple xs =>
      dsimp only at q
      split at q
      · rename_i d hd'
        cases r1 with
        | tup h z rr =>
          obtain ⟨v, h1, h2⟩ := atI_rep rr hd'
          exact .inr (.inl ⟨_, _, i, v, rfl, rfl, h.sq, h1, q.at h2⟩)
      · exact q.elim
    | str z =>
      dsimp only at q
      split at q
      · rename_i hz
        split at q
        · rename_i c hc
          cases r1
          exact .inr (.inr ⟨z, i, c, rfl, rfl, hz, hc, q.at (.str _)⟩)
        · exact q.elim
      · exact q.elim
    | _ => exact q.elim
  | _ => cases x <;> exact q.elim
/-- a part of a slice -/
structure DO (X : Cx) (W : WS) (S : List Nat) (e : Option Expr) (t : TO) (f : DSt → Res (Option Int)) : Prop where
  pe : PO X e t
  ok : ∀ Fz σ H δ (Q : Option Int → Hp → Prop), RdOn X.K S Fz H σ δ → Live Fz H → (f δ).wp (fun o => ∀ H' Fz', Grow Fz H Fz' H' → Q o H') (fun x => ∀ c oe H' Fz', Grow Fz H Fz' H' → ExR X.mg x c oe H' → W σ c oe H') → t σ H Q
theorem do_none : DO X W [] none tNoPart (fun _ => .ok none) := ⟨po_none, fun Fz σ H δ Q _ _ h => h H Fz .refl⟩
def asI (d : PyData) : Res (Option Int) := match d with | .int i => .ok (some i) | _ => .bot
theorem do_some {f : DSt → Res PyData} (h : DE X W S e te f) : DO X W S (some e) (tPart te) (fun δ => do let x ← f δ; asI x) := by
  refine ⟨po_some h.pe, fun Fz σ H δ Q hd hl hq => ?_⟩
  rw [wp_bind] at hq
  refine h.ok Fz σ H δ _ hd hl (wp_mono hq (fun x hx v H' F' g' r' => ?_) fun x hx => hx)
  cases x with
  | int i =>
    cases r'
    exact ⟨i, rfl, hx H' F' g'⟩
  | _ => exact hx.elim
def cutD (xs : List PyData) (lo hi : Option Int) : List PyData := (xs.drop (HT.sIx xs.length 0 lo)).take (HT.sIx xs.length xs.length hi - HT.sIx xs.length 0 lo)
theorem cut_rep {K : PySem.W.Frag} {Fz : FZ} {H : Hp} {vs : List V} {ds : List PyData} (r : RepAll K Fz H vs ds) (lo hi : Option Int) : RepAll K Fz H (cutV vs lo hi) (cutD ds lo hi) := by
  unfold cutV cutD
  rw [r.length]
  exact (r.drop _).take _
theorem cutD_length (xs : List PyData) (lo hi : Option Int) : (cutD xs lo hi).length ≤ xs.length := by
  unfold cutD
  rw [List.length_take, List.length_drop]
  omega
theorem cutD_whole (xs : List PyData) (lo hi : Option Int) (h : HT.sIx xs.length 0 lo = 0 ∧ HT.sIx xs.length xs.length hi = xs.length) : cutD xs lo hi = xs := by
  unfold cutD
  rw [h.1, h.2, List.drop_zero, Nat.sub_zero, List.take_length]
def sliceD (x : PyData) (lo hi : Option Int) : Res PyData := match x with
  | .list xs => .ok (.list (cutD xs lo hi))
  | .tuple xs => .ok (.tuple (cutD xs lo hi))
  | .str z => if z.length ≤ sizeLine then .ok (.str (cutS z lo hi)) else .bot
  | _ => .bot
variable {lo hi : Option Expr} {tl th : TO} {U : List Nat} {p2 : Pos}
abbrev rSlAll (K : PySem.W.Frag) : V → Option Int → Option Int → Hp → VK → Prop := fun x lo hi H Q => rSlL K x lo hi H Q ∨ rSlZ K x lo hi H Q ∨ rSlS x lo hi H Q
theorem de_slice {f : DSt → Res PyData} {fl fh : DSt → Res (Option Int)} (ha : DE X W S a ta f) (hlo : DO X W T lo tl fl) (hhi : DO X W U hi th fh) : DE X W (S ++ (T ++ U)) (.Subscript a (.Slice lo hi none p2) pos) (tSl (rSlAll X.K) ta tl th) (fun δ => do let x ← f δ; let l ← fl δ; let u ← fh δ; sliceD x l u) := by
  refine ⟨pe_slice (sl_list.or (sl_tupZ.or sl_str)) ha.pe hlo.pe hhi.pe, fun Fz σ H δ Q hd hl h => ?_⟩
  unfold EOK at h
  rw [wp_bind] at h
  refine ha.ok Fz σ H δ _ hd.left hl (wp_mono h (fun x hx v H1 F1 g1 r1 => ?_) fun x hx => hx)
  rw [wp_bind] at hx
  refine hlo.ok F1 σ H1 δ _ (hd.right.left.grow g1) (g1.live hl) (wp_mono hx (fun l hx H2 F2 g2 => ?_) fun x hx c oe H2 F2 g2 => hx c oe H2 F2 (g1.trans g2))
  rw [wp_bind] at hx
  refine hhi.ok F2 σ H2 δ _ (hd.right.right.grow (g1.trans g2)) (g2.live (g1.live hl)) (wp_mono hx (fun u hx H3 F3 g3 => ?_) fun x hx c oe H3 F3 g3 => hx c oe H3 F3 (g1.trans (g2.trans g3)))
  have r3 := r1.grow (g2.trans g3)
  have g := g1.trans (g2.trans g3)
  unfold sliceD at hx
  cases x with
  | list xs =>
    cases r3 with
    | lst hh z rr =>
      refine .inl ⟨_, _, rfl, hh.sq, fun p np => hx _ _ _ (g.trans (.frz np)) (.lst (.inl ⟨upd_same, .inr rfl⟩) (Nat.le_trans (cutD_length _ _ _) z) ((cut_rep rr l u).grow (.frz np)))⟩
  | tuple xs =>
    have r3' := r3
    cases r3 with
    | tup hh z rr =>
      refine .inr (.inl ⟨_, _, rfl, hh.sq, fun hw => ?_, fun hw => newT_rep (Nat.le_trans (cutD_length _ _ _) z) (cut_rep rr l u) fun v H4 F4 g4 r4 => hx v H4 F4 (g.trans g4) r4⟩)
      rw [rr.length] at hw
      refine hx _ _ _ g ?_
      rw [cutD_whole _ _ _ hw]
      exact r3'
  | str z =>
    dsimp only at hx
    split at hx
    · rename_i hz
      cases r3
      exact .inr (.inr ⟨z, rfl, hz, hx _ _ _ g (.str _)⟩)
    · exact hx.elim
  | _ => exact hx.elim

/-! ### isinstance(x, T) -/
def tyN : PyData → String
  | .none => "NoneType" | .bool _ => "bool" | .int _ => "int" | .str _ => "str" | .list _ => "list" | .tuple _ => "tuple" | .dict _ => "dict"
theorem Rep.ty {K : PySem.W.Frag} {Fz : FZ} {H : Hp} {v : V} {d : PyData} (r : Rep K Fz H v d) (np : isPool d = false) : TyX K H v (.type (tyN d)) := by
  cases r with
  | non => exact .base .non
  | bl b => exact .base (.bl b)
  | int i => exact .base (.int i)
  | str x => exact .base (.str x)
  | lst h _ _ =>
    rcases h with ⟨h, _⟩ | ⟨o, h⟩ | ⟨o, its, n, h, hc, _⟩
    · exact .base (.lst h)
    · exact .base (.frz h)
    · exact .kList h hc
  | dck h _ _ => exact .base (.dK h.1)
  | dct h _ _ => exact .base (.dT h.1)
  | pool _ _ _ _ _ => cases np
  | nl _ _ _ => cases np
  | ins _ _ _ _ => cases np
  | tup h _ _ =>
    rcases h.sq with (h | ⟨o, h⟩) | ⟨o, its, n, h, hc, _⟩
    · exact .base (.tup h)
    · exact .fTuple h
    · exact .kTuple h hc
def isiD (T : String) (d : PyData) : Res PyData := if isPool d = true then .bot else match kitB (tyN d) T with | some b => .ok (.bool b) | none => .bot
theorem de_isi {f : DSt → Res PyData} {T : String} {nm : Str} {p3 : Pos} (hg : Gl X "isinstance") (hm : X.mg "isinstance" = none) (hg2 : Gl X nm) (hm2 : X.mg nm = none) (hv : bootBuiltins nm = some (.type T)) (ha : DE X W S e te f) (hn : nm ≠ "__name__" := by decide) (hdb : (nm == ("__debug__" : Str)) = false := by decide)
    (hs : starEach [e, .Name nm p3] X.env = (false, eval e X.env) :: starEach [.Name nm p3] X.env := by rfl) (hs2 : starEach [.Name nm p3] X.env = (false, eval (.Name nm p3) X.env) :: starEach [] X.env := by rfl) (hpl : (backTo pos (starEach [.Name nm p3] X.env)).any (·.1) = false := by rfl) :
    DE X W S (.Call (.Name "isinstance" p) [e, .Name nm p3] [] pos) (tCB (rIsi X.K) (tCons te (tCons (tC (.ty T)) tNil))) (fun δ => do let x ← f δ; isiD T x) := by
  refine ⟨pe_callB call_isi hg hm (by decide +kernel) (pa_cons ha.pe (pa_cons (pe_bltn hg2 hm2 hv rfl hn hdb) pa_nil hs2) hs) (by decide) (by decide) hs hpl, fun Fz σ H δ Q hd hl h => ?_⟩
  unfold EOK at h
  rw [wp_bind] at h
  refine ha.ok Fz σ H δ _ hd hl (wp_mono h (fun x hx v H1 F1 g1 r1 => ?_) fun x hx => hx)
  unfold isiD at hx
  split at hx
  · exact hx.elim
  · rename_i np
    split at hx
    · rename_i b hb
      exact ⟨v, .ty T, _, .type T, b, rfl, .ty T, r1.ty (by simpa using np), kit_ty hb, hx _ _ _ g1 (.bl _)⟩
    · exact hx.elim

/-! ### truth -/
def truD (d : PyData) : Res Bool := match d with
  | .none => .ok false | .bool b => .ok b | .int i => .ok (i != 0) | .str x => if x.length ≤ sizeLine then .ok ((x.length : Int) != 0) else .bot
  | .list xs => .ok (!xs.isEmpty) | .tuple xs => .ok (!xs.isEmpty) | .dict _ => .bot
theorem isEmpty_rep {K : PySem.W.Frag} {Fz : FZ} {H : Hp} {vs : List V} {ds : List PyData} (r : RepAll K Fz H vs ds) : (!ds.isEmpty) = !vs.isEmpty := by
  cases r <;> rfl
theorem dt_truth {f : DSt → Res PyData} (ha : DE X W S e te f) (he : ∀ whole, PySem.isTrue e X.env whole = (do let v ← whole; standAt e.pos; holding [v] (truthy v)) := by intro _; rfl) : DT X W S e (fun σ H Q => te σ H fun x H' => ∃ k, TruV X.K x H' k ∧ Q k H') (fun δ => do let x ← f δ; truD x) := by
  refine ⟨pt_truth ha.pe he, fun Fz σ H δ Q hd hl h => ?_⟩
  unfold BOK at h
  rw [wp_bind] at h
  refine ha.ok Fz σ H δ _ hd hl (wp_mono h (fun x hx v H1 F1 g1 r1 => ?_) fun x hx => hx)
  unfold truD at hx
  cases r1 with
  | non => exact ⟨_, rfl, hx _ _ g1⟩
  | bl b => exact ⟨_, rfl, hx _ _ g1⟩
  | int b => exact ⟨_, rfl, hx _ _ g1⟩
  | str b =>
    dsimp only at hx
    split at hx
    · rename_i hz
      exact ⟨_, ⟨hz, rfl⟩, hx _ _ g1⟩
    · exact hx.elim
  | lst h z rr => exact ⟨_, .inl ⟨_, h.sq, isEmpty_rep rr⟩, hx _ _ g1⟩
  | tup h z rr => exact ⟨_, .inr (.inl ⟨_, h.sq, isEmpty_rep rr⟩), hx _ _ g1⟩
  | dck h _ _ => exact hx.elim
  | dct h _ _ => exact hx.elim
  | pool _ _ _ _ _ => exact hx.elim
  | nl _ _ _ => exact hx.elim
  | ins _ _ _ _ => exact hx.elim
end
end DL

set_option Elab.async false
set_option linter.all false
set_option maxRecDepth 100000
set_option maxHeartbeats 4000000
namespace DL
open PySem PySem.Spec L2
open PyProof.Rows hiding St

/-! ### targets -/
def bindN : List Nat → List PyData → DSt → Res DSt
  | [], [], δ => .ok δ
  | i :: is, d :: ds, δ => bindN is ds (δ.set i (some (.val d)))
  | _, _, _ => .bot
inductive Pat where
  | nm (i : Nat)
  | tp (is : List Nat)
  | tq (i : Nat) (js : List Nat)
def Pat.slots : Pat → List Nat
  | .nm i => [i]
  | .tp is => is
  | .tq i js => i :: js
def bindQ (i : Nat) (js : List Nat) (d : PyData) (δ : DSt) : Res DSt := match d with
  | .tuple [x, .tuple ys] => bindN js ys (δ.set i (some (.val x)))
  | _ => .bot
def bindP : Pat → PyData → DSt → Res DSt
  | .nm i, d, δ => .ok (δ.set i (some (.val d)))
  | .tp is, .tuple ds, δ => bindN is ds δ
  | .tp is, .list ds, δ => bindN is ds δ
  | .tp _, _, _ => .bot
  | .tq i js, d, δ => bindQ i js d δ
/-- a relation of states that a store keeps -/
abbrev Sets (K : PySem.W.Frag) (Fz : FZ) (H : Hp) (is : List Nat) (P : St → DSt → Prop) : Prop := ∀ σ δ i v d, i ∈ is → P σ δ → Rep K Fz H v d → P (σ.set i (some v)) (δ.set i (some (.val d)))
structure DG (X : Cx) (tg : Expr) (g : TG) (p : Pat) : Prop where
  pe : PG X tg g
  ok : ∀ Fz H (P : L2.St → DSt → Prop) x d σ δ (Q : L2.St → Hp → Prop), Sets X.K Fz H p.slots P → P σ δ → Rep X.K Fz H x d → (bindP p d δ).wp (fun δ' => ∀ σ', P σ' δ' → Q σ' H) (fun _ => False) → g x σ H Q
structure DGs (X : Cx) (tgs : List Expr) (g : TGs) (is : List Nat) : Prop where
  pe : PGs X tgs g
  ok : ∀ Fz H (P : L2.St → DSt → Prop) xs ds σ δ (Q : L2.St → Hp → Prop), Sets X.K Fz H is P → P σ δ → RepAll X.K Fz H xs ds → (bindN is ds δ).wp (fun δ' => ∀ σ', P σ' δ' → Q σ' H) (fun _ => False) → g xs σ H Q
section
variable {X : Cx} {W : WS} {U : XK} {S T : List Nat} {e a b c tg : Expr} {es tgs : List Expr} {pos p : Pos} {te ta tb : TE} {t : TA}
theorem dg_name {i : Nat} {x : Str} (hN : X.N.Nodup) (hi : X.N[i]? = some x) (hx : L2.Loc X.env.scope x) (hf : X.fn x = true ∨ X.env.scope.names.lookup x = some .local := by first | exact .inl rfl | exact .inr rfl | assumption) : DG X (.Name x pos) (gName i) (.nm i) :=
  ⟨pg_name hN hi hx hf, fun Fz H P x d σ δ Q hs hp r h => h _ (hs σ δ i x d (by simp [Pat.slots]) hp r)⟩
theorem dgs_nil : DGs X [] gNil [] := ⟨pgs_nil, fun Fz H P xs ds σ δ Q hs hp r h => by
  cases r with
  | nil => exact ⟨rfl, h _ hp⟩
  | cons _ _ => exact h.elim⟩
theorem dgs_cons {i : Nat} {x : Str} {is : List Nat} {g : TGs} (hN : X.N.Nodup) (hi : X.N[i]? = some x) (hx : L2.Loc X.env.scope x) (hr : DGs X tgs g is) (hf : X.fn x = true ∨ X.env.scope.names.lookup x = some .local := by first | exact .inl rfl | exact .inr rfl | assumption) : DGs X (.Name x pos :: tgs) (gCons (gName i) g) (i :: is) := by
  refine ⟨pgs_cons (pg_name hN hi hx hf) hr.pe, fun Fz H P xs ds σ δ Q hs hp r h => ?_⟩
  cases r with
  | nil => exact h.elim
  | cons h1 r =>
    exact ⟨_, _, rfl, hr.ok Fz H P _ _ _ _ Q (fun σ δ j v d hj => hs σ δ j v d (List.mem_cons_of_mem _ hj)) (hs σ δ i _ _ List.mem_cons_self hp h1) r h⟩
theorem bindN_len : ∀ (is : List Nat) (ds : List PyData) (δ : DSt) (Q : DSt → Prop), (bindN is ds δ).wp Q (fun _ => False) → ds.length = is.length
  | [], [], _, _, _ => rfl
  | _ :: is, _ :: ds, δ, Q, h => by rw [List.length_cons, List.length_cons, bindN_len is ds _ Q h]
  | [], _ :: _, _, _, h => h.elim
  | _ :: _, [], _, _, h => h.elim
theorem pg_or {tg : Expr} {g1 g2 : TG} (h1 : PG X tg g1) (h2 : PG X tg g2) : PG X tg (fun v σ H Q => g1 v σ H Q ∨ g2 v σ H Q) :=
  ⟨fun pins s σ H v u Q I r hw => hw.elim (h1.run pins s σ H v u Q I r) (h2.run pins s σ H v u Q I r)⟩
/-- a tuple or a list -/
abbrev gBoth (K : PySem.W.Frag) (n : Nat) (t : TGs) : TG := fun v σ H Q => gTup K n t v σ H Q ∨ gUnl K n t v σ H Q
theorem dg_tup {is : List Nat} {g : TGs} {kk : Nat} {n : Nat} (hc : X.calm = true) (h : DGs X tgs g is) (hn : is.length = n) (hlen : tgs.length = n := by rfl) (h2 : ∀ (pg : PGs X tgs g), PG X (.Tuple tgs kk pos) (gTup X.K n g) := by intro pg; exact pg_tup rfl pg) (h3 : ∀ (pg : PGs X tgs g), PG X (.Tuple tgs kk pos) (gUnl X.K n g) := by intro pg; exact pg_unl rfl pg) : DG X (.Tuple tgs kk pos) (gBoth X.K n g) (.tp is) := by
  refine ⟨pg_or (h2 h.pe) (h3 h.pe), fun Fz H P x d σ δ Q hs hp r q => ?_⟩
  cases d with
  | tuple ds =>
    cases r with
    | tup hh z rr =>
      exact .inl ⟨_, _, rfl, hh.sq, by rw [rr.length, bindN_len _ _ _ _ q, hn], h.ok Fz H P _ _ σ δ Q hs hp rr q⟩
  | list ds =>
    cases r with
    | lst hh z rr =>
      exact .inr ⟨_, _, rfl, hh.sq, by rw [rr.length, bindN_len _ _ _ _ q, hn], h.ok Fz H P _ _ σ δ Q hs hp rr q⟩
  | _ => exact q.elim

/-- k, (a, b) -/
theorem dg_nest {i : Nat} {x : Str} {js : List Nat} {g : TGs} {k1 k2 n : Nat} {p1 p2 : Pos} (hc : X.calm = true) (hN : X.N.Nodup) (hi : X.N[i]? = some x) (hx : L2.Loc X.env.scope x) (h : DGs X tgs g js) (hn : js.length = n) (hlen : tgs.length = n := by rfl)
    (h2 : ∀ (pg : PGs X tgs g), PG X (.Tuple tgs k1 p2) (gTup X.K n g) := by intro pg; exact pg_tup rfl pg)
    (h3 : ∀ (pg : PGs X [.Name x p1, .Tuple tgs k1 p2] (gCons (gName i) (gCons (gTup X.K n g) gNil))), PG X (.Tuple [.Name x p1, .Tuple tgs k1 p2] k2 pos) (gTup X.K 2 (gCons (gName i) (gCons (gTup X.K n g) gNil))) := by intro pg; exact pg_tup rfl pg)
    (hf : X.fn x = true ∨ X.env.scope.names.lookup x = some .local := by first | exact .inl rfl | exact .inr rfl | assumption)
    (hs1 : (assignEach [.Tuple tgs k1 p2] X.env).map (·.2) = assign (.Tuple tgs k1 p2) X.env :: (assignEach [] X.env).map (·.2) := by rfl)
    (hs2 : (assignEach [.Name x p1, .Tuple tgs k1 p2] X.env).map (·.2) = assign (.Name x p1) X.env :: (assignEach [.Tuple tgs k1 p2] X.env).map (·.2) := by rfl) :
    DG X (.Tuple [.Name x p1, .Tuple tgs k1 p2] k2 pos) (gTup X.K 2 (gCons (gName i) (gCons (gTup X.K n g) gNil))) (.tq i js) := by
  refine ⟨h3 (pgs_cons (pg_name hN hi hx hf) (pgs_cons (h2 h.pe) pgs_nil hs1) hs2), fun Fz H P y d σ δ Q hs hp r q => ?_⟩
  have q : (bindQ i js d δ).wp _ _ := q
  unfold bindQ at q
  split at q
  · rename_i d1 ys
    cases r with
    | tup hh z rr =>
      cases rr with
      | cons r1 rr =>
        cases rr with
        | cons r2 rr =>
          cases rr
          cases r2 with
          | tup hh2 z2 rr2 =>
            refine ⟨_, _, rfl, hh.sq, rfl, _, _, rfl, _, _, rfl, _, _, rfl, hh2.sq, by rw [rr2.length, bindN_len _ _ _ _ q, hn], ?_⟩
            exact h.ok Fz H P _ _ _ _ (fun σ' H' => [] = [] ∧ Q σ' H') (fun σ δ j v d hj => hs σ δ j v d (List.mem_cons_of_mem _ hj)) (hs σ δ i _ _ List.mem_cons_self hp r1) rr2 (wp_mono q (fun δ' hq σ' hp' => ⟨rfl, hq σ' hp'⟩) fun x hx => hx)
  · exact q.elim

/-! ### what is walked -/
structure Serves (K : PySem.W.Frag) (Fz1 : FZ) (H1 : Hp) (J : It) (ds : List PyData) : Prop where
  item : ∀ Fz2 H2, Stay Fz1 H1 H2 → (∀ a, Fz1 a → Fz2 a) → Live Fz2 H2 → ∀ (i : Nat) d, ds[i]? = some d → J.go i H2 ∧ ∀ x H3, J.yld i H2 x H3 → ∃ Fz3, Grow Fz2 H2 Fz3 H3 ∧ Rep K Fz3 H3 x d
  stop : ∀ Fz2 H2, Stay Fz1 H1 H2 → (∀ a, Fz1 a → Fz2 a) → Live Fz2 H2 → J.stop ds.length H2
/-- what is wanted of a source -/
def IOK (K : PySem.W.Frag) (mg : Str → Option Value) (W : XK) (Fz : FZ) (H : Hp) (r : Res (List PyData)) (R : It → Hp → Prop) : Prop :=
  r.wp (fun ds => ∀ J H1 Fz1, Grow Fz H Fz1 H1 → Serves K Fz1 H1 J ds → R J H1) (fun x => ∀ c oe H' Fz', Grow Fz H Fz' H' → ExR mg x c oe H' → W c oe H')
structure DI (X : Cx) (W : WS) (S : List Nat) (tg iter : Expr) (wi : TI) (g : DSt → Res (List PyData)) : Prop where
  pe : PI X tg iter wi
  ok : ∀ Fz σ H δ R, RdOn X.K S Fz H σ δ → Live Fz H → IOK X.K X.mg (W σ) Fz H (g δ) R → wi σ H R
/-- .. whatever changes meanwhile: a range -/
structure DR (X : Cx) (W : WS) (S : List Nat) (tg iter : Expr) (wi : TI) (g : DSt → Res (List PyData)) : Prop where
  pe : PI X tg iter wi
  ok : ∀ Fz σ H δ (R : It → Hp → Prop), RdOn X.K S Fz H σ δ → Live Fz H → (g δ).wp (fun ds => ∀ J H1 Fz1, Grow Fz H Fz1 H1 → (∀ Fz2 H2, Serves X.K Fz2 H2 J ds) → R J H1) (fun x => ∀ c oe H' Fz', Grow Fz H Fz' H' → ExR X.mg x c oe H' → W σ c oe H') → wi σ H R
theorem DR.di {iter : Expr} {wi : TI} {g : DSt → Res (List PyData)} (h : DR X W S tg iter wi g) : DI X W S tg iter wi g :=
  ⟨h.pe, fun Fz σ H δ R hd hl q => h.ok Fz σ H δ R hd hl (wp_mono q (fun ds hx J H1 F1 g1 s => hx J H1 F1 g1 (s F1 H1)) fun x hx => hx)⟩
theorem serves_list {K : PySem.W.Frag} {Fz : FZ} {H : Hp} {a : Addr} {xs : List V} {ds : List PyData} (h : LsF K Fz H a xs) (rr : RepAll K Fz H xs ds) : Serves K Fz H (Itl K a) ds where
  item := fun Fz2 H2 s f l i d e => by
    obtain ⟨v, h1, h2⟩ := rr.get e
    have hq := (h.stay s f).sq (K := K)
    exact ⟨⟨xs, v, hq, h1⟩, fun x H3 ⟨e1, e2⟩ => by
      subst e1
      have := e2 xs hq
      rw [h1] at this
      cases this
      exact ⟨Fz2, .refl, h2.stay s f⟩⟩
  stop := fun Fz2 H2 s f l => ⟨xs, (h.stay s f).sq, by rw [rr.length]; exact Nat.le_refl _⟩
theorem serves_tup {K : PySem.W.Frag} {Fz : FZ} {H : Hp} {a : Addr} {xs : List V} {ds : List PyData} (h : SqT K H a xs) (rr : RepAll K Fz H xs ds) : Serves K Fz H (Itt K a) ds where
  item := fun Fz2 H2 s f l i d e => by
    obtain ⟨v, h1, h2⟩ := rr.get e
    have hq := SqT.stay s h
    exact ⟨⟨xs, v, hq, h1⟩, fun x H3 ⟨e1, e2⟩ => by
      subst e1
      have := e2 xs hq
      rw [h1] at this
      cases this
      exact ⟨Fz2, .refl, h2.stay s f⟩⟩
  stop := fun Fz2 H2 s f l => ⟨xs, SqT.stay s h, by rw [rr.length]; exact Nat.le_refl _⟩
/-- a list, a tuple or a text -/
def iSeq (K : PySem.W.Frag) (tl : TE) : TI := fun σ H R => tl σ H fun x H1 => (∃ a, x = .ref a ∧ (∃ xs, SqL K H1 a xs) ∧ R (Itl K a) H1) ∨ (∃ a, x = .ref a ∧ (∃ xs, SqT K H1 a xs) ∧ R (Itt K a) H1) ∨ ∃ z, x = .str z ∧ R (Its z) H1
theorem pi_seq {l : Expr} {tl : TE} (hl : PE X l tl) : PI X tg l (iSeq X.K tl) := by
  refine ⟨fun pins s σ H R I h => ?_⟩
  refine thn (hl.run pins s σ H _ I h) fun v s1 ⟨x, H1, I1, r1, q1⟩ => ?_
  rcases q1 with ⟨a, e, ⟨xs, hq⟩, q⟩ | ⟨a, e, ⟨xs, hq⟩, q⟩ | ⟨z, e, q⟩
  · subst e
    cases r1
    obtain ⟨its, rv, p, hz⟩ := I1.list hq
    refine wpAny_pyIter_list p.isList ?_
    refine ⟨s1.heap.objs.size, [s1.heap.objs.size], _, _, H1, rfl, I1.kept (t' := s1.toks) fun b o e => Heap.get?_push_of_some _ e, turn_list a _, ⟨_, Heap.get?_push_size _ rfl, rfl, rfl⟩, fun b hb => ?_, q⟩
    have e : b = s1.heap.objs.size := by simpa using hb
    subst e
    exact I1.fpOk (Nat.le_refl _) (I1.hok.fresh (Nat.le_refl _))
  · subst e
    cases r1
    obtain ⟨its, rv, p, hz⟩ := I1.tuple hq
    refine wpAny_pyIter_tuple (show s1.heap.IsTuple a its.toArray from p) ?_
    refine ⟨s1.heap.objs.size, [s1.heap.objs.size], _, _, H1, rfl, I1.kept (t' := s1.toks) fun b o e => Heap.get?_push_of_some _ e, turn_tuple a _, ⟨_, Heap.get?_push_size _ rfl, rfl, rfl⟩, fun b hb => ?_, q⟩
    have e : b = s1.heap.objs.size := by simpa using hb
    subst e
    exact I1.fpOk (Nat.le_refl _) (I1.hok.fresh (Nat.le_refl _))
  · subst e
    obtain ⟨t, rfl⟩ := r1
    cases ha : z.cps.all (· < 128)
    · exact wpAny_pyIter_wide ha (pi_one (tk := s1.toks) I1 _ (turn_str _ z t "str_iterator" (.inr rfl)) ⟨_, Heap.get?_push_size _ rfl, rfl, rfl⟩ q)
    · exact wpAny_pyIter_ascii ha (pi_one (tk := s1.toks) I1 _ (turn_str _ z t "str_ascii_iterator" (.inl rfl)) ⟨_, Heap.get?_push_size _ rfl, rfl, rfl⟩ q)
def seqD (d : PyData) : Res (List PyData) := match d with
  | .list xs => .ok xs
  | .tuple xs => .ok xs
  | .str z => .ok (z.cps.toList.map fun c => .str ⟨#[c]⟩)
  | _ => .bot
theorem IOK.at {K : PySem.W.Frag} {mg : Str → Option Value} {Fz : FZ} {H : Hp} {ds : List PyData} {J : It} {R : It → Hp → Prop} (h : IOK K mg U Fz H (.ok ds) R) (s : Serves K Fz H J ds) : R J H := h J H Fz .refl s
theorem di_seq {f : DSt → Res PyData} (h : DE X W S e te f) : DI X W S tg e (iSeq X.K te) (fun δ => do let x ← f δ; seqD x) := by
  refine ⟨pi_seq h.pe, fun Fz σ H δ R hd hl q => ?_⟩
  unfold IOK at q
  rw [wp_bind] at q
  refine h.ok Fz σ H δ _ hd hl (wp_mono q (fun x hx v H1 F1 g1 r1 => ?_) fun x hx => hx)
  unfold seqD at hx
  cases r1 with
  | lst h z rr => exact .inl ⟨_, rfl, ⟨_, h.sq⟩, hx _ _ _ g1 (serves_list h rr)⟩
  | tup h z rr => exact .inr (.inl ⟨_, rfl, ⟨_, h.sq⟩, hx _ _ _ g1 (serves_tup h.sq rr)⟩)
  | str z =>
    refine .inr (.inr ⟨z, rfl, hx _ _ _ g1 ⟨fun F2 H2 s f l i d e => ?_, fun F2 H2 s f l => ?_⟩⟩)
    · rw [List.getElem?_map] at e
      cases q : z.cps.toList[i]? with
      | none => rw [q] at e; cases e
      | some c =>
        rw [q] at e
        cases e
        rw [Array.getElem?_toList] at q
        refine ⟨(Array.getElem?_eq_some_iff.mp q).1, fun x H3 ⟨e1, c', e2, e3⟩ => ?_⟩
        subst e1 e3
        rw [q] at e2
        cases e2
        exact ⟨F2, .refl, .str _⟩
    · show z.cps.size ≤ _
      rw [List.length_map, Array.length_toList]
      exact Nat.le_refl _
  | _ => exact hx.elim
/-! ranges -/
def rngL (lo hi : Int) : List PyData := (List.range (hi - lo).toNat).map fun (k : Nat) => PyData.int (lo + (k : Int))
theorem serves_rng {K : PySem.W.Frag} (lo hi : Int) (Fz : FZ) (H : Hp) : Serves K Fz H (Itr lo (hi - lo).toNat) (rngL lo hi) where
  item := fun Fz2 H2 s f l i d e => by
    unfold rngL at e
    rw [List.getElem?_map] at e
    cases q : (List.range (hi - lo).toNat)[i]? with
    | none => rw [q] at e; cases e
    | some c =>
      rw [q] at e
      cases e
      obtain ⟨h1, h2⟩ := List.getElem?_eq_some_iff.mp q
      rw [List.getElem_range] at h2
      subst h2
      rw [List.length_range] at h1
      exact ⟨h1, fun x H3 ⟨e1, e2⟩ => by
        subst e1 e2
        exact ⟨Fz2, .refl, .int _⟩⟩
  stop := fun Fz2 H2 s f l => by
    show _ ≤ _
    unfold rngL
    rw [List.length_map, List.length_range]
    exact Nat.le_refl _
def in62 (i : Int) : Bool := decide (-(2 ^ 62) ≤ i ∧ i < 2 ^ 62)
def rng1D (ds : List PyData) : Res (List PyData) := match ds with | [.int j] => if in62 j then .ok (rngL 0 j) else .bot | _ => .bot
def rng2D (ds : List PyData) : Res (List PyData) := match ds with | [.int i, .int j] => if in62 i && in62 j then .ok (rngL i j) else .bot | _ => .bot
theorem dr_range1 {f : DSt → Res (List PyData)} (hg : Gl X "range") (hm : X.mg "range" = none) (ha : DA X W S [a] t f) (hs : starEach [a] X.env = [(false, eval a X.env)] := by rfl) : DR X W S tg (.Call (.Name "range" p) [a] [] pos) (iRng1 t) (fun δ => do let ds ← f δ; rng1D ds) := by
  refine ⟨pi_range1 hg hm ha.pe hs, fun Fz σ H δ R hd hl q => ?_⟩
  rw [wp_bind] at q
  refine ha.ok Fz σ H δ _ hd hl (wp_mono q (fun ds hx vs H1 F1 g1 r1 => ?_) fun x hx => hx)
  unfold rng1D at hx
  split at hx
  · rename_i j
    split at hx
    · rename_i hj
      have hj := of_decide_eq_true hj
      cases r1 with
      | cons h r =>
        cases h
        cases r
        refine ⟨j, rfl, hj.1, hj.2, ?_⟩
        have := hx (Itr 0 (j - 0).toNat) H1 F1 g1 (fun _ _ => serves_rng 0 j _ _)
        rwa [Int.sub_zero] at this
    · exact hx.elim
  · exact hx.elim
theorem dr_range2 {f : DSt → Res (List PyData)} (hg : Gl X "range") (hm : X.mg "range" = none) (ha : DA X W S [a, b] t f) (hs : starEach [a, b] X.env = [(false, eval a X.env), (false, eval b X.env)] := by rfl) (hs2 : starEach [b] X.env = [(false, eval b X.env)] := by rfl) : DR X W S tg (.Call (.Name "range" p) [a, b] [] pos) (iRng2 t) (fun δ => do let ds ← f δ; rng2D ds) := by
  refine ⟨pi_range2 hg hm ha.pe hs hs2, fun Fz σ H δ R hd hl q => ?_⟩
  rw [wp_bind] at q
  refine ha.ok Fz σ H δ _ hd hl (wp_mono q (fun ds hx vs H1 F1 g1 r1 => ?_) fun x hx => hx)
  unfold rng2D at hx
  split at hx
  · rename_i i j
    split at hx
    · rename_i hj
      rw [Bool.and_eq_true] at hj
      have h1 := of_decide_eq_true hj.1
      have h2 := of_decide_eq_true hj.2
      cases r1 with
      | cons h r =>
        cases h
        cases r with
        | cons h r =>
          cases h
          cases r
          exact ⟨i, j, rfl, ⟨h1.1, h1.2, h2.1, h2.2⟩, hx _ H1 F1 g1 (fun _ _ => serves_rng i j _ _)⟩
    · exact hx.elim
  · exact hx.elim
end
/-! enumerate of a tuple -/
theorem meets_enumerate_newT (v : Value) (o : Obj) (P : Heap → Prop) (B : Begins v o P) :
    Meets (Builtin.«enumerate.__new__» ⟨[.type "enumerate", v], []⟩) (fun _ R s => P s.heap ∧
      R (.ok (.ret (.ref (s.heap.push o).objs.size))) { s with heap := (s.heap.push o).push { cls := .type "enumerate", data := .fields #[.none, .bool false, .ref s.heap.objs.size, rawInt 0, .none, .none] } }) :=
  .of_wp fun prog w A R s h => by
    obtain ⟨hp, g, d, tk, os⟩ := s; obtain ⟨h1, h⟩ := h
    have hsub := sub_enumerate
    have q1 : ∀ {A' : Around} {E : Value → Shared → Prop} {Q : Value → Shared → Prop}, Q (.ref hp.objs.size) ⟨hp.push o, g, d, tk, os⟩ → wpAny (model prog w) A' (pyIter v) Q E ⟨hp, g, d, tk, os⟩ :=
      fun q => B.iter prog w _ _ ⟨hp, g, d, tk, os⟩ _ h1 q
    wp_walk using q1
    refine wpAny_stack_any fun st => wpAny_pure ?_
    split
    · rename_i c _ _ _ _ _
      cases (c == Value.type "enumerate")
      · wp_walk using q1
        exact ⟨_, rfl, h⟩
      · wp_walk using q1
        exact ⟨_, rfl, h⟩
    · wp_walk using q1
      exact ⟨_, rfl, h⟩
theorem call_enumerate_tuple {prog : Program} {w : World} {A : Around} {E : Value → Shared → Prop} {s : Shared} {l : Addr} {items : Array Value} {Q : Value → Shared → Prop} (hL : s.heap.IsTuple l items)
    (h : ∀ h', IsEnum h' (s.heap.objs.size + 1) s.heap.objs.size 0 .none → h'.IsTupleIter s.heap.objs.size l 0 → h'.objs.size = s.heap.objs.size + 2 →
      (∀ b o, s.heap.get? b = some o → h'.get? b = some o) → Q (.ref (s.heap.objs.size + 1)) { s with heap := h' }) :
    wpAny (model prog w) A (call (.type "enumerate") [.ref l]) Q E s := by
  refine callType_new F.called_enumerate (by decide) (F.typeCall_enumerate_1 _) (F.newCall_enumerate_1 _) (fun obj => F.args_object_init_2 obj _) F.entry_enumerate_new
    (meets_enumerate_newT _ _ _ (begins_tuple l items)) ⟨hL, ?_⟩
  have hz : (s.heap.push { cls := .type "tuple_iterator", data := .fields #[.ref l, .int 0 0] }).objs.size = s.heap.objs.size + 1 := Heap.size_push ..
  show _ ∧ _
  rw [hz]
  have he : IsEnum ((s.heap.push { cls := .type "tuple_iterator", data := .fields #[.ref l, .int 0 0] }).push
      { cls := .type "enumerate", data := .fields #[.none, .bool false, .ref s.heap.objs.size, rawInt 0, .none, .none] }) (s.heap.objs.size + 1) s.heap.objs.size 0 .none := by
    have := Heap.get?_push_size (s.heap.push { cls := .type "tuple_iterator", data := .fields #[.ref l, .int 0 0] })
      (o := { cls := .type "enumerate", data := .fields #[.none, .bool false, .ref s.heap.objs.size, rawInt 0, .none, .none] }) rfl
    rw [hz] at this; exact this
  refine ⟨⟨_, he, rfl⟩, h _ he ⟨_, Heap.get?_push_of_some _ (Heap.get?_push_size _ rfl), rfl, rfl⟩ (by rw [Heap.size_push, hz]) fun b o x => Heap.get?_push_of_some _ (Heap.get?_push_of_some _ x)⟩
def IteT (K : PySem.W.Frag) (a : Addr) : It :=
  ⟨fun i H => ∃ (xs : List V) (x : V), SqT K H a xs ∧ xs[i]? = some x, fun i H v H' => ∃ T x, v = .ref T ∧ H T = none ∧ H' = upd H T (.tup [.int (i : Nat), x]) ∧ ∀ xs, SqT K H a xs → xs[i]? = some x, fun i H => ∃ xs : List V, SqT K H a xs ∧ xs.length = i⟩
theorem cls_ne {h : Heap} {a b : Addr} {o o' : Obj} (e : h.get? a = some o) (e' : h.get? b = some o') (n : o.cls ≠ o'.cls) : a ≠ b := by
  intro z
  subst z
  rw [e] at e'
  cases e'
  exact n rfl
theorem turn_enumT {P : Program} {w : World} {K : PySem.W.Frag} {elts : List Expr} {kk : Nat} {tpos : Pos} (a e it : Addr) :
    Turn P w K (.Tuple elts kk tpos) (IteT K a) [e, it] e (fun i h => (∃ old, IsEnum h e it ((i : Nat) : Int) old) ∧ h.IsTupleIter it a i ∧ e ≠ it) where
  mem := by simp
  obj := fun i h st b hb => by
    obtain ⟨⟨old, he⟩, ⟨o, ho, hc, hd⟩, _⟩ := st
    have e' : b = e ∨ b = it := by simpa using hb
    rcases e' with z | z
    · rw [z]; exact ⟨_, he, fun v q => nomatch q⟩
    · rw [z]; exact ⟨o, ho, fun v q => by rw [hd] at q; cases q⟩
  keep := fun i h h' st k => let ⟨⟨old, he⟩, hi, hne⟩ := st; ⟨⟨old, k e (by simp) _ he⟩, hi.at fun o q => k it (by simp) o q, hne⟩
  item := by
    intro X hP hw hK hc i pins s σ H E I hf st hg
    subst hP hw hK
    obtain ⟨⟨old, he⟩, hit, hne⟩ := st
    obtain ⟨xs, x, hq, hx⟩ := hg
    obtain ⟨its, rv, p, hz⟩ := I.tuple hq
    obtain ⟨u, hu, ru⟩ := rv.get hx
    have hel : e < s.heap.objs.size := Heap.lt_size he
    have hil : it < s.heap.objs.size := by obtain ⟨_, q, _⟩ := hit; exact Heap.lt_size q
    have p' : s.heap.IsTuple a its.toArray := p
    obtain ⟨oi, hoi, hci, _⟩ := id hit
    obtain ⟨ot, hot, hct, _⟩ := id p'
    have hat : a ≠ it := cls_ne hot hoi (by rw [hct, hci]; decide +kernel)
    have hae : e ≠ a := cls_ne he hot (by rw [hct]; show Value.type "enumerate" ≠ .type "tuple"; decide +kernel)
    have hh : X.A.in1.handled = none := I.ok.hd hc
    have D := Draws.tuple (prog := X.prog) (w := X.w) hh it a hat its.toArray
    have hlt : i < its.toArray.size := by
      rw [List.size_toArray, ← rv.length]
      exact (List.getElem?_eq_some_iff.mp hx).1
    refine wpAny_pyNext_enum_itemD D he ⟨hit, p'⟩ hlt hne (by simp [hne, hae]) fun y h' tk hy ho hit' hT hsz hk => ?_
    have hyu : y = u := by
      have z : its.toArray[i]? = some u := by simpa using hu
      rw [z] at hy
      exact (Option.some.inj hy).symm
    subst hyu
    refine ⟨_, rfl, wpAny_letOwnedTupleGo_enum (s := { s with heap := h', toks := tk + 1 }) ho fun h'' he' sb => ?_⟩
    have hT2 : h''.get? s.heap.objs.size = some { cls := .type "tuple", data := .seq #[.int i tk, y] } := (sb.2 _ (Nat.ne_of_gt hel)).trans hT
    have new : ObjOk X.prog X.w (upd H s.heap.objs.size (.tup [.int (i : Nat), x])) h'' s.heap.objs.size (.tup [.int (i : Nat), x]) :=
      ⟨by show 2 ≤ sizeLine; decide, [.int i tk, y], .cons ⟨_, rfl⟩ (.cons ru .nil), ⟨_, hT2, rfl, _, rfl⟩⟩
    have I1 : Inv X pins σ (upd H s.heap.objs.size (.tup [.int (i : Nat), x])) { s with heap := h'', toks := tk + 1 } :=
      I.turnedNew (ch := [e, it]) (fun b ob hb q => (sb.2 b (fun z => hb (by simp [z]))).trans (hk b ob (fun z => hb (by simp [z])) (fun z => hb (by simp [z])) q)) hf (Nat.le_refl _) new
    refine ⟨.ref s.heap.objs.size, _, I1, rfl, ⟨_, x, rfl, I.hok.fresh (Nat.le_refl _), rfl, fun ys hy => by rw [I.tuple_inj hy hq]; exact hx⟩, ⟨⟨y, ?_⟩, hit'.1.at fun o q => (sb.2 it (Ne.symm hne)).trans q, hne⟩, fun b hb => ?_⟩
    · have e1 : ((i + 1 : Nat) : Int) = (i : Int) + 1 := by omega
      rw [e1]; exact he'
    · have hb' : b < s.heap.objs.size := by
        have e' : b = e ∨ b = it := by simpa using hb
        rcases e' with z | z
        · rw [z]; exact hel
        · rw [z]; exact hil
      rw [upd_ne (Nat.ne_of_lt hb')]
      exact (hf b hb).1
  done := by
    intro X hP hw hK hc i pins s σ H E I hf st hg
    subst hP hw hK
    obtain ⟨⟨old, he⟩, hit, hne⟩ := st
    obtain ⟨xs, hq, hx⟩ := hg
    obtain ⟨its, rv, p, hz⟩ := I.tuple hq
    obtain ⟨f0, f1, f2, f3, f4, f5⟩ := hf it (by simp)
    have p' : s.heap.IsTuple a its.toArray := p
    obtain ⟨oi, hoi, hci, _⟩ := id hit
    obtain ⟨ot, hot, hct, _⟩ := id p'
    have hat : a ≠ it := cls_ne hot hoi (by rw [hct, hci]; decide +kernel)
    have hh : X.A.in1.handled = none := I.ok.hd hc
    have D := Draws.tuple (prog := X.prog) (w := X.w) hh it a hat its.toArray
    have hi : i = its.toArray.size := by rw [List.size_toArray, ← rv.length]; exact hx.symm
    subst hi
    exact wpAny_pyNext_enum_endD D he ⟨hit, p'⟩ fun h' eb => ⟨rfl, I.turned (t' := s.toks) (fun b o hb q => eb b o hb q) f0 f1 f3 f4 f5⟩
  self := fun A i s Q E st h => let ⟨⟨_, he⟩, _⟩ := st; wpAny_pyIter_enum he h
section
variable {X : Cx} {W : WS} {U : XK} {S T : List Nat} {e a b c tg : Expr} {es tgs : List Expr} {pos p tpos : Pos} {te ta tb : TE} {t : TA} {kk : Nat}
/-- enumerate of a list or a tuple -/
def iEnumA (K : PySem.W.Frag) (ta : TA) : TI := fun σ H R => ta σ H fun vs H1 => (∃ a xs, vs = [.ref a] ∧ SqL K H1 a xs ∧ R (Ite K a) H1) ∨ ∃ a xs, vs = [.ref a] ∧ SqT K H1 a xs ∧ R (IteT K a) H1
theorem pi_enumA {elts : List Expr} (hg : Gl X "enumerate") (hm : X.mg "enumerate" = none) (ha : PA X [e] t) (hs : starEach [e] X.env = [(false, eval e X.env)] := by rfl) :
    PI X (.Tuple elts kk tpos) (.Call (.Name "enumerate" p) [e] [] pos) (iEnumA X.K t) := by
  refine ⟨fun pins s σ H R I h => ?_⟩
  refine Call_ (ld_blt I hg hm boot_enumerate (PyProof.Rows.callWith_type1 (thn (ha.run pos pins s σ H _ I h) fun us s1 ⟨vs, H1, I1, r1, q1⟩ => ?_) hs rfl))
  rcases q1 with ⟨a, xs, ex, hq, q⟩ | ⟨a, xs, ex, hq, q⟩
  · subst ex
    cases r1 with
    | cons r rr =>
      cases rr
      cases r
      obtain ⟨its, rv, p', hz⟩ := I1.list hq
      refine call_enumerate_list p'.isList fun h' he hit hsz hk => wpAny_pyIter_enum he ?_
      have I2 : Inv X pins σ H1 { s1 with heap := h' } := I1.kept (t' := s1.toks) hk
      refine ⟨s1.heap.objs.size + 1, [s1.heap.objs.size + 1, s1.heap.objs.size], _, _, H1, rfl, I2, turn_enum a (s1.heap.objs.size + 1) s1.heap.objs.size, ⟨⟨.none, he⟩, hit, Nat.succ_ne_self _⟩, fun b hb => ?_, q⟩
      have e' : b = s1.heap.objs.size + 1 ∨ b = s1.heap.objs.size := by simpa using hb
      have hle : s1.heap.objs.size ≤ b := by
        rcases e' with z | z
        · rw [z]; exact Nat.le_add_right _ _
        · rw [z]; exact Nat.le_refl _
      exact I1.fpOk hle (I1.hok.fresh hle)
  · subst ex
    cases r1 with
    | cons r rr =>
      cases rr
      cases r
      obtain ⟨its, rv, p', hz⟩ := I1.tuple hq
      refine call_enumerate_tuple (show s1.heap.IsTuple a its.toArray from p') fun h' he hit hsz hk => wpAny_pyIter_enum he ?_
      have I2 : Inv X pins σ H1 { s1 with heap := h' } := I1.kept (t' := s1.toks) hk
      refine ⟨s1.heap.objs.size + 1, [s1.heap.objs.size + 1, s1.heap.objs.size], _, _, H1, rfl, I2, turn_enumT a (s1.heap.objs.size + 1) s1.heap.objs.size, ⟨⟨.none, he⟩, hit, Nat.succ_ne_self _⟩, fun b hb => ?_, q⟩
      have e' : b = s1.heap.objs.size + 1 ∨ b = s1.heap.objs.size := by simpa using hb
      have hle : s1.heap.objs.size ≤ b := by
        rcases e' with z | z
        · rw [z]; exact Nat.le_add_right _ _
        · rw [z]; exact Nat.le_refl _
      exact I1.fpOk hle (I1.hok.fresh hle)
/-- the pairs of enumerate -/
def enumL (k : Nat) : List PyData → List PyData
  | [] => []
  | d :: ds => .tuple [.int (k : Nat), d] :: enumL (k + 1) ds
theorem enumL_get : ∀ (ds : List PyData) (k i : Nat) (d : PyData), (enumL k ds)[i]? = some d → ∃ x, ds[i]? = some x ∧ d = .tuple [.int ((k + i : Nat) : Nat), x]
  | [], k, i, d, h => by simp [enumL] at h
  | y :: ds, k, 0, d, h => by
    simp [enumL] at h
    exact ⟨y, rfl, by rw [← h]; rfl⟩
  | y :: ds, k, i + 1, d, h => by
    rw [enumL, List.getElem?_cons_succ] at h
    obtain ⟨x, h1, h2⟩ := enumL_get ds (k + 1) i d h
    exact ⟨x, by simpa using h1, by rw [h2, show k + 1 + i = k + (i + 1) by omega]⟩
theorem enumL_len : ∀ (ds : List PyData) (k : Nat), (enumL k ds).length = ds.length
  | [], _ => rfl
  | _ :: ds, k => by rw [enumL, List.length_cons, List.length_cons, enumL_len ds]
theorem two_le : 2 ≤ sizeLine := by rw [sizeLine_eq]; decide
theorem serves_enumL {K : PySem.W.Frag} {Fz : FZ} {H : Hp} {a : Addr} {xs : List V} {ds : List PyData} (h : LsF K Fz H a xs) (rr : RepAll K Fz H xs ds) : Serves K Fz H (Ite K a) (enumL 0 ds) where
  item := fun Fz2 H2 s f l i d e => by
    obtain ⟨x, e1, e2⟩ := enumL_get ds 0 i d e
    obtain ⟨v, h1, h2⟩ := rr.get e1
    have hq := (h.stay s f).sq (K := K)
    refine ⟨⟨xs, v, hq, h1⟩, fun y H3 ⟨T, z, ey, nT, eH, hz⟩ => ?_⟩
    have := hz xs hq
    rw [h1] at this
    cases this
    subst ey eH e2
    refine ⟨Fz2, .nw nT, .tup (.of upd_same (.inr rfl)) two_le (.cons ?_ (.cons ((h2.stay s f).grow (.nw nT)) .nil))⟩
    rw [Nat.zero_add]
    exact .int _
  stop := fun Fz2 H2 s f l => ⟨xs, (h.stay s f).sq, by rw [rr.length, enumL_len]; exact Nat.le_refl _⟩
theorem serves_enumT {K : PySem.W.Frag} {Fz : FZ} {H : Hp} {a : Addr} {xs : List V} {ds : List PyData} (h : SqT K H a xs) (rr : RepAll K Fz H xs ds) : Serves K Fz H (IteT K a) (enumL 0 ds) where
  item := fun Fz2 H2 s f l i d e => by
    obtain ⟨x, e1, e2⟩ := enumL_get ds 0 i d e
    obtain ⟨v, h1, h2⟩ := rr.get e1
    have hq := SqT.stay s h
    refine ⟨⟨xs, v, hq, h1⟩, fun y H3 ⟨T, z, ey, nT, eH, hz⟩ => ?_⟩
    have := hz xs hq
    rw [h1] at this
    cases this
    subst ey eH e2
    refine ⟨Fz2, .nw nT, .tup (.of upd_same (.inr rfl)) two_le (.cons ?_ (.cons ((h2.stay s f).grow (.nw nT)) .nil))⟩
    rw [Nat.zero_add]
    exact .int _
  stop := fun Fz2 H2 s f l => ⟨xs, SqT.stay s h, by rw [rr.length, enumL_len]⟩
def enumD (ds : List PyData) : Res (List PyData) := match ds with | [.list xs] => .ok (enumL 0 xs) | [.tuple xs] => .ok (enumL 0 xs) | _ => .bot
theorem di_enum {elts : List Expr} {f : DSt → Res (List PyData)} (hg : Gl X "enumerate") (hm : X.mg "enumerate" = none) (ha : DA X W S [e] t f) (hs : starEach [e] X.env = [(false, eval e X.env)] := by rfl) :
    DI X W S (.Tuple elts kk tpos) (.Call (.Name "enumerate" p) [e] [] pos) (iEnumA X.K t) (fun δ => do let ds ← f δ; enumD ds) := by
  refine ⟨pi_enumA hg hm ha.pe hs, fun Fz σ H δ R hd hl q => ?_⟩
  unfold IOK at q
  rw [wp_bind] at q
  refine ha.ok Fz σ H δ _ hd hl (wp_mono q (fun ds hx vs H1 F1 g1 r1 => ?_) fun x hx => hx)
  unfold enumD at hx
  split at hx
  · cases r1 with
    | cons h r =>
      cases r
      cases h with
      | lst h z rr => exact .inl ⟨_, _, rfl, h.sq, hx _ _ _ g1 (serves_enumL h rr)⟩
  · cases r1 with
    | cons h r =>
      cases r
      cases h with
      | tup h z rr => exact .inr ⟨_, _, rfl, h.sq, hx _ _ _ g1 (serves_enumT h.sq rr)⟩
  · exact hx.elim
/-- zip of two lists, of two tuples -/
def zipL : List PyData → List PyData → List PyData
  | x :: xs, y :: ys => .tuple [x, y] :: zipL xs ys
  | _, _ => []
theorem zipL_get : ∀ (xs ys : List PyData) (i : Nat) (d : PyData), (zipL xs ys)[i]? = some d → ∃ x y, xs[i]? = some x ∧ ys[i]? = some y ∧ d = .tuple [x, y]
  | x :: xs, y :: ys, 0, d, h => by
    simp [zipL] at h
    exact ⟨x, y, rfl, rfl, h.symm⟩
  | x :: xs, y :: ys, i + 1, d, h => by
    rw [zipL, List.getElem?_cons_succ] at h
    obtain ⟨a, b, h1, h2, h3⟩ := zipL_get xs ys i d h
    exact ⟨a, b, by simpa using h1, by simpa using h2, h3⟩
  | [], _, i, d, h => by simp [zipL] at h
  | _ :: _, [], i, d, h => by simp [zipL] at h
theorem zipL_len : ∀ (xs ys : List PyData), (zipL xs ys).length = min xs.length ys.length
  | x :: xs, y :: ys => by rw [zipL, List.length_cons, List.length_cons, List.length_cons, zipL_len xs ys]; omega
  | [], _ => by simp [zipL]
  | _ :: _, [] => by simp [zipL]
/-- a pair that is no tuple of tuples of whole numbers -/
def pairOk : PyData → Bool
  | .tuple ps => allI ps || !allC ps
  | _ => true
theorem pair_plain {d : PyData} (h : pairOk d = true) : ∀ ps, d = .tuple ps → allI ps = true ∨ allC ps = false := fun ps e => by
  subst e
  have h : (allI ps || !allC ps) = true := h
  rw [Bool.or_eq_true, Bool.not_eq_true'] at h
  exact h
theorem serves_zipL {K : PySem.W.Frag} {Fz : FZ} {H : Hp} {a b : Addr} {xs ys : List V} {ds es : List PyData} (h : LsF K Fz H a xs) (rr : RepAll K Fz H xs ds) (h' : LsF K Fz H b ys) (rr' : RepAll K Fz H ys es) (hp : (zipL ds es).all pairOk = true) : Serves K Fz H (Itz K a b) (zipL ds es) where
  item := fun Fz2 H2 s f l i d e => by
    obtain ⟨x, y, e1, e2, e3⟩ := zipL_get ds es i d e
    have hpd := pair_plain (List.all_eq_true.mp hp d (List.mem_of_getElem? e))
    obtain ⟨v, h1, h2⟩ := rr.get e1
    obtain ⟨v', h1', h2'⟩ := rr'.get e2
    have hq := (h.stay s f).sq (K := K)
    have hq' := (h'.stay s f).sq (K := K)
    refine ⟨⟨xs, ys, v, v', hq, hq', h1, h1'⟩, fun u H3 ⟨T, z, z', eu, nT, eH, hz, hz'⟩ => ?_⟩
    have k1 := hz xs hq
    have k2 := hz' ys hq'
    rw [h1] at k1
    rw [h1'] at k2
    cases k1
    cases k2
    subst eu eH e3
    exact ⟨Fz2, .nw nT, .tup (.of upd_same (hpd _ rfl)) two_le (.cons ((h2.stay s f).grow (.nw nT)) (.cons ((h2'.stay s f).grow (.nw nT)) .nil))⟩
  stop := fun Fz2 H2 s f l => ⟨xs, ys, (h.stay s f).sq, (h'.stay s f).sq, by rw [rr.length, rr'.length, zipL_len]; omega⟩
theorem serves_zipT {K : PySem.W.Frag} {Fz : FZ} {H : Hp} {a b : Addr} {xs ys : List V} {ds es : List PyData} (h : SqT K H a xs) (rr : RepAll K Fz H xs ds) (h' : SqT K H b ys) (rr' : RepAll K Fz H ys es) (hp : (zipL ds es).all pairOk = true) : Serves K Fz H (RZ.ItzT K a b) (zipL ds es) where
  item := fun Fz2 H2 s f l i d e => by
    obtain ⟨x, y, e1, e2, e3⟩ := zipL_get ds es i d e
    have hpd := pair_plain (List.all_eq_true.mp hp d (List.mem_of_getElem? e))
    obtain ⟨v, h1, h2⟩ := rr.get e1
    obtain ⟨v', h1', h2'⟩ := rr'.get e2
    have hq := SqT.stay s h
    have hq' := SqT.stay s h'
    refine ⟨⟨xs, ys, v, v', hq, hq', h1, h1'⟩, fun u H3 ⟨T, z, z', eu, nT, eH, hz, hz'⟩ => ?_⟩
    have k1 := hz xs hq
    have k2 := hz' ys hq'
    rw [h1] at k1
    rw [h1'] at k2
    cases k1
    cases k2
    subst eu eH e3
    exact ⟨Fz2, .nw nT, .tup (.of upd_same (hpd _ rfl)) two_le (.cons ((h2.stay s f).grow (.nw nT)) (.cons ((h2'.stay s f).grow (.nw nT)) .nil))⟩
  stop := fun Fz2 H2 s f l => ⟨xs, ys, SqT.stay s h, SqT.stay s h', by rw [rr.length, rr'.length, zipL_len]; omega⟩
def zipD (ds : List PyData) : Res (List PyData) := match ds with | [.list xs, .list ys] => if (zipL xs ys).all pairOk = true then .ok (zipL xs ys) else .bot | [.tuple xs, .tuple ys] => if (zipL xs ys).all pairOk = true then .ok (zipL xs ys) else .bot | _ => .bot
theorem di_zip {elts : List Expr} {f : DSt → Res (List PyData)} {e2 : Expr} (hg : Gl X "zip") (hm : X.mg "zip" = none) (ha : DA X W S [e, e2] t f)
    (hs : starEach [e, e2] X.env = (false, eval e X.env) :: starEach [e2] X.env := by rfl) (hpl : (backTo pos (starEach [e2] X.env)).any (·.1) = false := by rfl) :
    DI X W S (.Tuple elts kk tpos) (.Call (.Name "zip" p) [e, e2] [] pos) (RZ.iZipA X.K t) (fun δ => do let ds ← f δ; zipD ds) := by
  refine ⟨RZ.pi_zipA hg hm ha.pe hs hpl, fun Fz σ H δ R hd hl q => ?_⟩
  unfold IOK at q
  rw [wp_bind] at q
  refine ha.ok Fz σ H δ _ hd hl (wp_mono q (fun ds hx vs H1 F1 g1 r1 => ?_) fun x hx => hx)
  unfold zipD at hx
  split at hx
  · split at hx
    · rename_i hp
      cases r1 with
      | cons h r =>
        cases r with
        | cons h' r =>
          cases r
          cases h with
          | lst h z rr =>
            cases h' with
            | lst h' z' rr' => exact ⟨_, _, _, _, rfl, .inl ⟨h.sq, h'.sq, hx _ _ _ g1 (serves_zipL h rr h' rr' hp)⟩⟩
    · exact hx.elim
  · split at hx
    · rename_i hp
      cases r1 with
      | cons h r =>
        cases r with
        | cons h' r =>
          cases r
          cases h with
          | tup h z rr =>
            cases h' with
            | tup h' z' rr' => exact ⟨_, _, _, _, rfl, .inr ⟨h.sq, h'.sq, hx _ _ _ g1 (serves_zipT h.sq rr h'.sq rr' hp)⟩⟩
    · exact hx.elim
  · exact hx.elim
end
end DL

set_option Elab.async false
set_option linter.all false
set_option maxRecDepth 100000
set_option maxHeartbeats 4000000
namespace DL
open PySem PySem.Spec L2
open PyProof.Rows hiding St

/-! ### comprehensions -/
/-- what may not raise -/
def nE {α : Type} : Res α → Res α
  | .ok a => .ok a
  | .pick m k => .pick m fun i => nE (k i)
  | .err _ => .bot
  | .bot => .bot
theorem nE_quiet {α : Type} (r : Res α) : (nE r).quiet := by
  induction r with
  | pick m k ih => exact fun i => ih i
  | _ => exact True.intro
theorem nE_wpA {α : Type} {r : Res α} {Q : α → Prop} {E E' : Exn → Prop} (h : (nE r).wp Q E) : r.wp Q E' := by
  induction r with
  | ok a => exact h
  | err x => exact h.elim
  | bot => exact h.elim
  | pick m k ih => exact ⟨h.1, fun i h0 h1 => ih i (h.2 i h0 h1)⟩
/-- no choice -/
def Res.one {α : Type} : Res α → Prop
  | .pick _ _ => False
  | _ => True
theorem nE_wp {α : Type} {r : Res α} {Q : α → Prop} {E : Exn → Prop} (ho : r.one) (h : (nE r).wp Q E) : ∃ a, r = .ok a ∧ Q a := by
  cases r with
  | ok a => exact ⟨a, rfl, h⟩
  | err x => exact h.elim
  | bot => exact h.elim
  | pick m k => exact ho.elim
theorem bindN_one : ∀ (is : List Nat) (ds : List PyData) (δ : DSt), (bindN is ds δ).one
  | [], [], _ => True.intro
  | [], _ :: _, _ => True.intro
  | _ :: _, [], _ => True.intro
  | i :: is, d :: ds, δ => bindN_one is ds _
theorem bindP_one (p : Pat) (d : PyData) (δ : DSt) : (bindP p d δ).one := by
  cases p with
  | nm i => exact True.intro
  | tp is => cases d <;> first | exact True.intro | exact bindN_one _ _ _
  | tq i js =>
    show (bindQ i js d δ).one
    unfold bindQ
    split <;> first | exact True.intro | exact bindN_one _ _ _
theorem nEb {p : Pat} {d : PyData} {δ : DSt} {Q : DSt → Prop} {E : Exn → Prop} (h : (nE (bindP p d δ)).wp Q E) : ∃ δ', bindP p d δ = .ok δ' ∧ Q δ' := nE_wp (bindP_one p d δ) h
theorem lstD_wp {ys : List PyData} {Q : List PyData → Prop} {E : Exn → Prop} (h : (lstD ys).wp Q E) : ys.length ≤ sizeLine ∧ Q ys := by
  unfold lstD at h
  split at h
  · rename_i hz
    exact ⟨hz, h⟩
  · exact h.elim
def wipeD (δ : DSt) : List Nat → DSt
  | [] => δ
  | v :: vs => (wipeD δ vs).set v none
theorem wipeD_length (δ : DSt) : ∀ vs : List Nat, (wipeD δ vs).length = δ.length
  | [] => rfl
  | v :: vs => by unfold wipeD; rw [List.length_set, wipeD_length δ vs]
theorem wipeD_some {δ : DSt} {i : Nat} {x : SV} : ∀ {vs : List Nat}, (wipeD δ vs)[i]? = some (some x) → δ[i]? = some (some x) ∧ i ∉ vs
  | [], h => ⟨h, by simp⟩
  | v :: vs, h => by
    unfold wipeD at h
    by_cases hi : v = i
    · subst hi
      by_cases hv : v < (wipeD δ vs).length
      · rw [List.getElem?_set_self hv] at h; cases h
      · rw [List.getElem?_eq_none (by simpa using hv)] at h; cases h
    · rw [List.getElem?_set_ne hi] at h
      obtain ⟨h1, h2⟩ := wipeD_some h
      exact ⟨h1, by simp only [List.mem_cons, not_or]; exact ⟨fun e => hi e.symm, h2⟩⟩
theorem RdOn.wipe {K : PySem.W.Frag} {S vs : List Nat} {Fz : FZ} {H : Hp} {σ : St} {δ : DSt} (h : RdOn K S Fz H σ δ) : RdOn K S Fz H (wipe σ vs) (wipeD δ vs) :=
  ⟨by rw [wipe_length, wipeD_length, h.1], fun i hi s e => by
    obtain ⟨e1, e2⟩ := wipeD_some e
    obtain ⟨v, h1, h2⟩ := h.2 i hi s e1
    exact ⟨v, by rw [wipe_out e2]; exact h1, h2⟩⟩
theorem wipe_in {σ : St} {i : Nat} : ∀ {vs : List Nat}, i ∈ vs → i < σ.length → (wipe σ vs)[i]? = some none
  | v :: vs, h, hl => by
    unfold L2.wipe
    by_cases hv : v = i
    · subst hv
      rw [List.getElem?_set_self (by rw [wipe_length]; exact hl)]
    · rw [List.getElem?_set_ne hv]
      exact wipe_in ((List.mem_cons.mp h).resolve_left fun e => hv e.symm) hl
theorem wipe_set {σ : St} {vs : List Nat} {i : Nat} {x : Option V} (h : i ∈ vs) : wipe (σ.set i x) vs = wipe σ vs := by
  apply List.ext_getElem?
  intro j
  by_cases hj : j ∈ vs
  · by_cases hl : j < σ.length
    · rw [wipe_in hj (by rw [List.length_set]; exact hl), wipe_in hj hl]
    · rw [List.getElem?_eq_none (by rw [wipe_length, List.length_set]; omega), List.getElem?_eq_none (by rw [wipe_length]; omega)]
  · rw [wipe_out hj, wipe_out hj, List.getElem?_set_ne (fun e => hj (by rw [← e]; exact h))]
theorem wipe_wipe {σ : St} {vs : List Nat} : wipe (wipe σ vs) vs = wipe σ vs := by
  apply List.ext_getElem?
  intro j
  by_cases hj : j ∈ vs
  · by_cases hl : j < σ.length
    · rw [wipe_in hj (by rw [wipe_length]; exact hl), wipe_in hj hl]
    · rw [List.getElem?_eq_none (by rw [wipe_length, wipe_length]; omega), List.getElem?_eq_none (by rw [wipe_length]; omega)]
  · rw [wipe_out hj]
theorem RdOn.sets {K : PySem.W.Frag} {S is : List Nat} {Fz : FZ} {H : Hp} : Sets K Fz H is (fun σ δ => RdOn K S Fz H σ δ) := fun σ δ i v d hi hr r =>
  ⟨by rw [List.length_set, List.length_set]; exact hr.1, fun j hj s e => by
    by_cases hij : i = j
    · subst hij
      by_cases hl : i < δ.length
      · rw [List.getElem?_set_self hl] at e
        cases e
        exact ⟨v, List.getElem?_set_self (by rw [hr.1]; exact hl), r⟩
      · rw [List.getElem?_eq_none (by rw [List.length_set]; omega)] at e
        cases e
    · rw [List.getElem?_set_ne hij] at e
      obtain ⟨v', h1, h2⟩ := hr.2 j hj s e
      exact ⟨v', by rw [List.getElem?_set_ne hij]; exact h1, h2⟩⟩
structure DTs (X : Cx) (W : WS) (S : List Nat) (es : List Expr) (t : TT) (f : DSt → Res Bool) : Prop where
  pe : PTs X es t
  ok : ∀ Fz σ H δ Q, RdOn X.K S Fz H σ δ → Live Fz H → BOK X.K X.mg (W σ) Fz H (f δ) Q → t σ H Q
theorem dts_nil {X : Cx} {W : WS} : DTs X W [] [] tYes (fun _ => .ok true) := ⟨pts_nil, fun Fz σ H δ Q _ _ h => h.at⟩
theorem dts_one {X : Cx} {W : WS} {S : List Nat} {c : Expr} {t : TT} {f : DSt → Res Bool} (h : DT X W S c t f) : DTs X W S [c] t f := ⟨pts_one h.pe, h.ok⟩
/-- the items of a comprehension -/
def lcGo (p : Pat) (δ : DSt) (ft : DSt → Res Bool) (fe : DSt → Res PyData) : List PyData → Res (List PyData)
  | [] => .ok []
  | x :: r => do
    let δ1 ← nE (bindP p x δ)
    let b ← nE (ft δ1)
    if b then do
      let y ← nE (fe δ1)
      let ys ← lcGo p δ ft fe r
      .ok (y :: ys)
    else lcGo p δ ft fe r
def lcF (g : DSt → Res (List PyData)) (p : Pat) (vs : List Nat) (ft : DSt → Res Bool) (fe : DSt → Res PyData) (δ : DSt) : Res (List PyData) := do
  let xs ← g δ
  let ys ← lcGo p (wipeD δ vs) ft fe xs
  lstD ys
theorem lcGo_quiet {p : Pat} {δ : DSt} {ft : DSt → Res Bool} {fe : DSt → Res PyData} : ∀ (xs : List PyData), (lcGo p δ ft fe xs).quiet
  | [] => True.intro
  | y :: r => by
    unfold lcGo
    refine quiet_bind (nE_quiet _) fun δ1 => quiet_bind (nE_quiet _) fun b => ?_
    cases b with
    | true => exact quiet_bind (nE_quiet _) fun y => quiet_bind (lcGo_quiet r) fun ys => True.intro
    | false => exact lcGo_quiet r
section
variable {X : Cx} {W : WS} {U : XK} {S S1 S2 T : List Nat} {elt tg iter : Expr} {ifs : List Expr} {scope : Scope} {own : List (Str × Nat)} {pos : Pos} {wi : TI} {gg : TG} {tt : TT} {te : TE}
theorem same_upd2 {H1 H : Hp} {D : Addr} {o : HO} (s : Same H1 H) (n : H1 D = none) : Same H1 (upd H D o) := fun b x e => by
  rw [upd_ne (ne_of_none e n)]
  exact s b x e
theorem df_lc {g : DSt → Res (List PyData)} {p : Pat} {ft : DSt → Res Bool} {fe : DSt → Res PyData} (hc : X.calm = true) (hN : X.N.Nodup) (hi : DI X W S tg iter wi g) (ok : BlkOk X.N X.env.scope scope own)
    (hg : ∀ (s : Shared) (H : Hp) (C : Addr) (cl : List (Str × Addr)) (fp : List Addr), DG (X.blk s H scope (compEnvC scope cl C X.env) fp) tg gg p) (hp : ∀ i ∈ p.slots, i ∈ own.map (·.2))
    (ht : ∀ (s : Shared) (H : Hp) (C : Addr) (cl : List (Str × Addr)) (fp : List Addr), DTs (X.blk s H scope (compEnvC scope cl C X.env) fp) (fun _ => E0) S1 ifs tt ft)
    (he : ∀ (s : Shared) (H : Hp) (C : Addr) (cl : List (Str × Addr)) (fp : List Addr), DE (X.blk s H scope (compEnvC scope cl C X.env) fp) (fun _ => E0) S2 elt te fe) (hs : ∀ x, foldedSetIterable iter X.env x = pure x := by intro _; rfl) :
    DF X W (S ++ (S1 ++ S2)) (.ListComp elt [⟨tg, iter, ifs, 0⟩] scope pos) (tLc wi gg tt te (own.map (·.2))) (lcF g p (own.map (·.2)) ft fe) := by
  refine ⟨pe_lc hc hN hi.pe ok (fun s H C cl fp => (hg s H C cl fp).pe) (fun s H C cl fp => (ht s H C cl fp).pe) (fun s H C cl fp => (he s H C cl fp).pe) hs, fun Fz σ H δ Q hd hl hq => ?_⟩
  have hg' := (hg X.s_0 X.H_0 0 [] []).ok
  have ht' := (ht X.s_0 X.H_0 0 [] []).ok
  have he' := (he X.s_0 X.H_0 0 [] []).ok
  generalize own.map (·.2) = vs at *
  unfold LOK lcF at hq
  rw [wp_bind] at hq
  refine hi.ok Fz σ H δ _ hd.left hl (wp_mono hq (fun ds hx J H1 F1 g1 sv => ?_) fun x hx => hx)
  rw [wp_bind] at hx
  have hrd : RdOn X.K (S1 ++ S2) F1 H1 (wipe σ vs) (wipeD δ vs) := (hd.right.grow g1).wipe
  have l1 : Live F1 H1 := g1.live hl
  intro Dd nD
  have nH : H Dd = none := none_of_same g1.same nD
  refine ⟨fun i m H => m = ds.length - i ∧ i ≤ ds.length ∧ ∃ Fi acc ya, Grow F1 H1 Fi H ∧ ¬ Fi Dd ∧ H Dd = some (.lst acc) ∧ RepAll X.K Fi H acc ya ∧ (lcGo p (wipeD δ vs) ft fe (ds.drop i)).wp (fun rest => (lstD (ya ++ rest)).wp _ _) _,
    ⟨ds.length, by omega, Nat.zero_le _, F1, [], [], .nw nD, fun z => l1 _ z nD, upd_same, .nil, hx⟩, ?_⟩
  rintro i m H2 ⟨rfl, hi2, Fi, acc, ya, g2, nF, eD, ra, hrest⟩
  by_cases hlt : i < ds.length
  · have hdd : ds.drop i = ds[i] :: ds.drop (i + 1) := List.drop_eq_getElem_cons hlt
    rw [hdd] at hrest
    unfold lcGo at hrest
    rw [wp_bind] at hrest
    obtain ⟨δ1, hb, hrest⟩ := nEb hrest
    rw [wp_bind] at hrest
    obtain ⟨go, yl⟩ := sv.item Fi H2 (.of_same g2.same) g2.sub (g2.live l1) i ds[i] (List.getElem?_eq_getElem hlt)
    refine .inr ⟨go, fun H' => ∃ Fi acc ya, Grow F1 H1 Fi H' ∧ ¬ Fi Dd ∧ H' Dd = some (.lst acc) ∧ RepAll X.K Fi H' acc ya ∧ (lcGo p (wipeD δ vs) ft fe (ds.drop (i + 1))).wp (fun rest => (lstD (ya ++ rest)).wp _ _) _,
      fun H' h' => ⟨ds.length - (i + 1), by omega, rfl, hlt, h'⟩, fun x H3 hy => ?_⟩
    obtain ⟨F3, g3, r3⟩ := yl x H3 hy
    have g13 := g2.trans g3
    have nF3 : ¬ F3 Dd := fun z => (g3.new _ z).elim nF fun e => by rw [eD] at e; cases e
    refine hg' F3 H3 (fun σ2 δ2 => RdOn X.K (S1 ++ S2) F3 H3 σ2 δ2 ∧ wipe σ2 vs = wipe σ vs) x ds[i] (wipe σ vs) (wipeD δ vs) _ (fun σ δ j v d hj hP r => ⟨RdOn.sets σ δ j v d hj hP.1 r, by rw [wipe_set (hp j hj)]; exact hP.2⟩) ⟨hrd.grow g13, wipe_wipe⟩ r3 ?_
    rw [hb]
    intro σ2 ⟨hr2, hw2⟩
    refine ⟨hw2, ?_⟩
    refine ht' F3 σ2 H3 δ1 _ hr2.left (g13.live l1) (wp_mono (nE_wpA hrest) (fun bt hbt H4 F4 g4 => ?_) fun x h => h)
    have nF4 : ¬ F4 Dd := fun z => (g4.new _ z).elim nF3 fun e => by rw [g3.same _ _ eD] at e; cases e
    cases bt with
    | true =>
      simp only [if_true] at hbt ⊢
      rw [wp_bind] at hbt
      refine he' F4 σ2 H4 δ1 _ (hr2.right.grow g4) (g4.live (g13.live l1)) (wp_mono (nE_wpA hbt) (fun y hy v H5 F5 g5 r5 => ?_) fun x h => h)
      rw [wp_bind] at hy
      have nF5 : ¬ F5 Dd := fun z => (g5.new _ z).elim nF4 fun e => by rw [g4.same _ _ (g3.same _ _ eD)] at e; cases e
      have g35 := g3.trans (g4.trans g5)
      have eD5 := g35.same _ _ eD
      have g15 := g2.trans g35
      have st : Stay F5 H5 (upd H5 Dd (.lst (acc ++ [v]))) := .write nF5 eD5 ⟨(fun _ h => by cases h), (fun _ _ h => by cases h)⟩
      obtain ⟨rest', hf⟩ := wp_some (lcGo_quiet _) hy
      have hlen2 : (ya ++ (y :: rest')).length ≤ sizeLine := (lstD_wp hf).1
      have la := ra.length
      refine ⟨acc, eD5, ?_, F5, acc ++ [v], ya ++ [y], ⟨same_upd2 g15.same nD, g15.sub, g15.new, fun l a z e => ?_⟩, nF5, upd_same, ?_, wp_mono hy (fun rest h => by rw [List.append_assoc]; exact h) fun x h => h⟩
      · rw [List.length_append, List.length_cons] at hlen2
        omega
      · by_cases hz : a = Dd
        · subst hz; exact nF5 z
        · rw [upd_ne hz] at e
          exact g15.live l a z e
      · exact ((ra.grow g35).app (.cons r5 .nil)).stay st fun _ h => h
    | false =>
      simp only [Bool.false_eq_true, if_false] at hbt ⊢
      have g34 := g3.trans g4
      exact ⟨F4, acc, ya, g2.trans g34, nF4, g34.same _ _ eD, ra.grow g34, hbt⟩
  · have e : i = ds.length := by omega
    subst e
    rw [List.drop_length] at hrest
    have hrest : (lstD (ya ++ [])).wp _ _ := hrest
    rw [List.append_nil] at hrest
    obtain ⟨hlen, hfin⟩ := lstD_wp hrest
    exact .inl ⟨sv.stop Fi H2 (.of_same g2.same) g2.sub (g2.live l1), hfin Dd acc H2 Fi (g1.trans g2) nH nF eD hlen ra⟩

/-! ### calls of the text's own functions -/
def spD (K : PySem.W.Frag) (mg : Str → Option Value) (n : Nat) (g : List PyData → Res PyData) : Sp := fun vs H Q E => ∃ ds Fz, ds.length = n ∧ Live Fz H ∧ RepAll K Fz H vs ds ∧ EOK K mg E Fz H (g ds) Q
theorem spD_len {K : PySem.W.Frag} {mg : Str → Option Value} {n : Nat} {g : List PyData → Res PyData} {vs : List V} {H : Hp} {Q : VK} {E : XK} (h : spD K mg n g vs H Q E) : vs.length = n := by
  obtain ⟨ds, Fz, h1, _, h2, _⟩ := h
  rw [h2.length, h1]
end
end DL

set_option Elab.async false
set_option linter.all false
set_option maxRecDepth 100000
set_option maxHeartbeats 4000000
namespace DL
open PySem PySem.Spec L2
open PyProof.Rows hiding St

/-! ### a def's state -/
def SF.isOwn : SF → Bool
  | .val _ => false
  | .own _ => true
  | .ownd _ _ _ => true
def SV.isOwn : SV → Bool
  | .val _ => false
  | .own _ => true
  | .ownd _ _ _ => true
  | .ins _ _ _ => true
def SV.isIns : SV → Bool
  | .ins _ _ _ => true
  | _ => false
/-- a list or dict of one's own, as a field -/
def OwnF (K : PySem.W.Frag) (Fz : FZ) (H : Hp) (a : Addr) : SF → Prop
  | .val _ => False
  | .own xs => ∃ vs, H a = some (.lst vs) ∧ xs.length ≤ sizeLine ∧ RepAll K Fz H vs xs
  | .ownd false ks ds => ∃ kvs : List (Key × V), H a = some (.dK kvs) ∧ ks = kvs.map (fun p => kyD p.1) ∧ RepAll K Fz H (kvs.map (·.2)) ds
  | .ownd true ks ds => ∃ kvs : List (List Key × V), H a = some (.dT kvs) ∧ ks = kvs.map (fun p => kyT p.1) ∧ RepAll K Fz H (kvs.map (·.2)) ds
inductive FsOk (K : PySem.W.Frag) (Fz : FZ) (H : Hp) : List V → List SF → Prop
  | nil : FsOk K Fz H [] []
  | val {u d us fs} : Rep K Fz H u d → FsOk K Fz H us fs → FsOk K Fz H (u :: us) (.val d :: fs)
  | own {b f us fs} : OwnF K Fz H b f → FsOk K Fz H us fs → FsOk K Fz H (.ref b :: us) (f :: fs)
/-- where the fields' own things lie -/
def nest : List V → List SF → List Addr
  | u :: us, f :: fs => (match f.isOwn, u with | true, .ref b => [b] | _, _ => []) ++ nest us fs
  | _, _ => []
/-- the thing of one's own at a -/
def OwnOb (K : PySem.W.Frag) (Fz : FZ) (H : Hp) (a : Addr) : SV → Prop
  | .val _ => False
  | .own xs => ∃ vs, H a = some (.lst vs) ∧ xs.length ≤ sizeLine ∧ RepAll K Fz H vs xs
  | .ownd false ks ds => ∃ kvs : List (Key × V), H a = some (.dK kvs) ∧ ks = kvs.map (fun p => kyD p.1) ∧ RepAll K Fz H (kvs.map (·.2)) ds
  | .ownd true ks ds => ∃ kvs : List (List Key × V), H a = some (.dT kvs) ∧ ks = kvs.map (fun p => kyT p.1) ∧ RepAll K Fz H (kvs.map (·.2)) ds
  | .ins cn names fs => ∃ C dx us, H a = some (.ins C dx (names.zip us)) ∧ ClsAt K cn C ∧ us.length = names.length ∧ FsOk K Fz H us fs ∧ (a :: nest us fs).Nodup
/-- all that belongs to it -/
def Foot (H : Hp) (a : Addr) (s : SV) (x : Addr) : Prop := match s with
  | .val _ => False
  | .ins _ names fs => x = a ∨ ∃ C dx us, H a = some (.ins C dx (names.zip us)) ∧ us.length = names.length ∧ x ∈ nest us fs
  | _ => x = a
abbrev Mutb (o : HO) : Prop := (∀ xs, o ≠ .tup xs) ∧ ∀ u v, o ≠ .frz u v
theorem OwnF.mut {K : PySem.W.Frag} {Fz : FZ} {H : Hp} {a : Addr} {s : SF} (h : OwnF K Fz H a s) : ∃ o, H a = some o ∧ Mutb o := by
  match s, h with
  | .own xs, ⟨vs, h, _⟩ => exact ⟨_, h, (fun _ e => by cases e), (fun _ _ e => by cases e)⟩
  | .ownd false ks ds, ⟨vs, h, _⟩ => exact ⟨_, h, (fun _ e => by cases e), (fun _ _ e => by cases e)⟩
  | .ownd true ks ds, ⟨vs, h, _⟩ => exact ⟨_, h, (fun _ e => by cases e), (fun _ _ e => by cases e)⟩
theorem OwnF.own {K : PySem.W.Frag} {Fz : FZ} {H : Hp} {a : Addr} {s : SF} (h : OwnF K Fz H a s) : s.isOwn = true := by
  cases s with
  | val d => exact h.elim
  | _ => rfl
theorem OwnF.keep {K : PySem.W.Frag} {Fz Fz' : FZ} {H H' : Hp} {a : Addr} {s : SF} (h : OwnF K Fz H a s) (st : Stay Fz H H') (f : ∀ a, Fz a → Fz' a) (e : H' a = H a) : OwnF K Fz' H' a s := by
  match s, h with
  | .own xs, ⟨vs, h, z, r⟩ => exact ⟨vs, e.trans h, z, r.stay st f⟩
  | .ownd false ks ds, ⟨vs, h, z, r⟩ => exact ⟨vs, e.trans h, z, r.stay st f⟩
  | .ownd true ks ds, ⟨vs, h, z, r⟩ => exact ⟨vs, e.trans h, z, r.stay st f⟩
theorem OwnF.rep {K : PySem.W.Frag} {Fz Fz' : FZ} {H : Hp} {a : Addr} {s : SF} (h : OwnF K Fz H a s) (f : ∀ a, Fz a → Fz' a) (q : Fz' a) : Rep K Fz' H (.ref a) s.d := by
  match s, h with
  | .own xs, ⟨vs, h, z, r⟩ => exact .lst (.inl ⟨h, q⟩) z (r.stay (.of_same fun _ _ e => e) f)
  | .ownd false ks ds, ⟨vs, h, z, r⟩ => exact .dck ⟨h, q⟩ z (r.stay (.of_same fun _ _ e => e) f)
  | .ownd true ks ds, ⟨vs, h, z, r⟩ => exact .dct ⟨h, q⟩ z (r.stay (.of_same fun _ _ e => e) f)
theorem nest_val {u : V} {d : PyData} {us : List V} {fs : List SF} : nest (u :: us) (.val d :: fs) = nest us fs := by
  cases u <;> rfl
theorem nest_own {b : Addr} {f : SF} {us : List V} {fs : List SF} (h : f.isOwn = true) : nest (.ref b :: us) (f :: fs) = b :: nest us fs := by
  cases f with
  | val d => cases h
  | _ => rfl
theorem FsOk.len {K : PySem.W.Frag} {Fz : FZ} {H : Hp} {us : List V} {fs : List SF} (h : FsOk K Fz H us fs) : us.length = fs.length := by
  induction h with
  | nil => rfl
  | val _ _ ih => rw [List.length_cons, List.length_cons, ih]
  | own _ _ ih => rw [List.length_cons, List.length_cons, ih]
theorem FsOk.mut {K : PySem.W.Frag} {Fz : FZ} {H : Hp} {us : List V} {fs : List SF} (h : FsOk K Fz H us fs) : ∀ x ∈ nest us fs, ∃ o, H x = some o ∧ Mutb o := by
  induction h with
  | nil => intro x hx; cases hx
  | val _ _ ih => intro x hx; rw [nest_val] at hx; exact ih x hx
  | own h _ ih =>
    intro x hx
    rw [nest_own h.own] at hx
    rcases List.mem_cons.mp hx with rfl | hx
    · exact h.mut
    · exact ih x hx
theorem FsOk.keep {K : PySem.W.Frag} {Fz Fz' : FZ} {H H' : Hp} {us : List V} {fs : List SF} (h : FsOk K Fz H us fs) (st : Stay Fz H H') (f : ∀ a, Fz a → Fz' a) (e : ∀ x ∈ nest us fs, H' x = H x) : FsOk K Fz' H' us fs := by
  induction h with
  | nil => exact .nil
  | val r _ ih => exact .val (r.stay st f) (ih fun x hx => e x (by rw [nest_val]; exact hx))
  | own h _ ih => exact .own (h.keep st f (e _ (by rw [nest_own h.own]; exact List.mem_cons_self))) (ih fun x hx => e x (by rw [nest_own h.own]; exact List.mem_cons_of_mem _ hx))
theorem FsOk.rep {K : PySem.W.Frag} {Fz Fz' : FZ} {H : Hp} {us : List V} {fs : List SF} (h : FsOk K Fz H us fs) (f : ∀ a, Fz a → Fz' a) (q : ∀ x ∈ nest us fs, Fz' x) : RepAll K Fz' H us (fs.map SF.d) := by
  induction h with
  | nil => exact .nil
  | val r _ ih => exact .cons (r.stay (.of_same fun _ _ e => e) f) (ih fun x hx => q x (by rw [nest_val]; exact hx))
  | own h _ ih => exact .cons (h.rep f (q _ (by rw [nest_own h.own]; exact List.mem_cons_self))) (ih fun x hx => q x (by rw [nest_own h.own]; exact List.mem_cons_of_mem _ hx))
theorem zip_inj {names : List Str} : ∀ {us vs : List V}, us.length = names.length → vs.length = names.length → names.zip us = names.zip vs → us = vs := by
  induction names with
  | nil =>
    intro us vs h1 h2 _
    rw [List.length_eq_zero_iff.mp h1, List.length_eq_zero_iff.mp h2]
  | cons n names ih =>
    intro us vs h1 h2 h
    cases us with
    | nil => cases h1
    | cons u us =>
      cases vs with
      | nil => cases h2
      | cons v vs =>
        rw [List.zip_cons_cons, List.zip_cons_cons] at h
        injection h with h3 h4
        injection h3 with _ h5
        rw [h5, ih (by simpa using h1) (by simpa using h2) h4]
theorem foot_one {H : Hp} {a : Addr} {s : SV} {x : Addr} (h : s.isIns = false) (f : Foot H a s x) : x = a := by
  cases s with
  | val d => exact f.elim
  | ins _ _ _ => cases h
  | own xs => exact f
  | ownd t ks vs => exact f
theorem foot_top {H : Hp} {a : Addr} {s : SV} (h : s.isOwn = true) : Foot H a s a := by
  cases s with
  | val d => cases h
  | ins _ _ _ => exact .inl rfl
  | own xs => rfl
  | ownd t ks vs => rfl
theorem foot_eq {H H' : Hp} {a : Addr} {s : SV} {x : Addr} (e : H' a = H a) (f : Foot H' a s x) : Foot H a s x := by
  cases s with
  | val d => exact f
  | own xs => exact f
  | ownd t ks vs => exact f
  | ins cn names fs =>
    rcases f with f | ⟨C, dx, us, h1, h2, h3⟩
    · exact .inl f
    · exact .inr ⟨C, dx, us, e ▸ h1, h2, h3⟩
theorem foot_ins {H : Hp} {a : Addr} {cn : Str} {names : List Str} {fs : List SF} {C dx : Addr} {us : List V} (h : H a = some (.ins C dx (names.zip us))) (hl : us.length = names.length) {x : Addr} (f : Foot H a (.ins cn names fs) x) : x ∈ a :: nest us fs := by
  rcases f with f | ⟨C', dx', us', h1, h2, h3⟩
  · rw [f]; exact List.mem_cons_self
  · rw [h] at h1
    have e : names.zip us = names.zip us' := by injection h1 with h1; injection h1
    rw [zip_inj hl h2 e]
    exact List.mem_cons_of_mem _ h3
theorem ins_foot {H : Hp} {a : Addr} {cn : Str} {names : List Str} {fs : List SF} {C dx : Addr} {us : List V} (h : H a = some (.ins C dx (names.zip us))) (hl : us.length = names.length) {x : Addr} (f : x ∈ a :: nest us fs) : Foot H a (.ins cn names fs) x := by
  rcases List.mem_cons.mp f with f | f
  · exact .inl f
  · exact .inr ⟨C, dx, us, h, hl, f⟩
theorem OwnOb.own {K : PySem.W.Frag} {Fz : FZ} {H : Hp} {a : Addr} {s : SV} (h : OwnOb K Fz H a s) : s.isOwn = true := by
  cases s with
  | val d => exact h.elim
  | _ => rfl
theorem OwnOb.mut {K : PySem.W.Frag} {Fz : FZ} {H : Hp} {a : Addr} {s : SV} (h : OwnOb K Fz H a s) : ∃ o, H a = some o ∧ (∀ xs, o ≠ .tup xs) ∧ ∀ u v, o ≠ .frz u v := by
  match s, h with
  | .own xs, ⟨vs, h, _⟩ => exact ⟨_, h, (fun _ e => by cases e), (fun _ _ e => by cases e)⟩
  | .ownd false ks ds, ⟨vs, h, _⟩ => exact ⟨_, h, (fun _ e => by cases e), (fun _ _ e => by cases e)⟩
  | .ownd true ks ds, ⟨vs, h, _⟩ => exact ⟨_, h, (fun _ e => by cases e), (fun _ _ e => by cases e)⟩
  | .ins cn names fs, ⟨C, dx, us, h, _⟩ => exact ⟨_, h, (fun _ e => by cases e), (fun _ _ e => by cases e)⟩
theorem OwnOb.mutF {K : PySem.W.Frag} {Fz : FZ} {H : Hp} {a : Addr} {s : SV} (h : OwnOb K Fz H a s) {x : Addr} (f : Foot H a s x) : ∃ o, H x = some o ∧ Mutb o := by
  match s, h with
  | .own xs, h => obtain rfl : x = a := f; exact OwnOb.mut (s := .own xs) h
  | .ownd t ks ds, h => obtain rfl : x = a := f; exact OwnOb.mut (s := .ownd t ks ds) h
  | .ins cn names fs, ⟨C, dx, us, h1, h2, h3, h4, h5⟩ =>
    rcases List.mem_cons.mp (foot_ins h1 h3 f) with rfl | hx
    · exact OwnOb.mut (s := .ins cn names fs) ⟨C, dx, us, h1, h2, h3, h4, h5⟩
    · exact h4.mut x hx
theorem OwnOb.keep {K : PySem.W.Frag} {Fz Fz' : FZ} {H H' : Hp} {a : Addr} {s : SV} (h : OwnOb K Fz H a s) (st : Stay Fz H H') (f : ∀ a, Fz a → Fz' a) (e : ∀ x, Foot H a s x → H' x = H x) : OwnOb K Fz' H' a s := by
  have e0 := e a (foot_top h.own)
  match s, h with
  | .own xs, ⟨vs, h, z, r⟩ => exact ⟨vs, e0.trans h, z, r.stay st f⟩
  | .ownd false ks ds, ⟨vs, h, z, r⟩ => exact ⟨vs, e0.trans h, z, r.stay st f⟩
  | .ownd true ks ds, ⟨vs, h, z, r⟩ => exact ⟨vs, e0.trans h, z, r.stay st f⟩
  | .ins cn names fs, ⟨C, dx, us, h1, h2, h3, h4, h5⟩ => exact ⟨C, dx, us, e0.trans h1, h2, h3, h4.keep st f fun x hx => e x (ins_foot h1 h3 (List.mem_cons_of_mem _ hx)), h5⟩
theorem OwnOb.same {K : PySem.W.Frag} {Fz Fz' : FZ} {H H' : Hp} {a : Addr} {s : SV} (h : OwnOb K Fz H a s) (g : Same H H') (f : ∀ a, Fz a → Fz' a) : OwnOb K Fz' H' a s := by
  refine h.keep (.of_same g) f fun x hx => ?_
  obtain ⟨o, ho, _⟩ := h.mutF hx
  exact (g _ _ ho).trans ho.symm
theorem OwnOb.rep {K : PySem.W.Frag} {Fz Fz' : FZ} {H : Hp} {a : Addr} {s : SV} (h : OwnOb K Fz H a s) (f : ∀ a, Fz a → Fz' a) (q : ∀ x, Foot H a s x → Fz' x) : Rep K Fz' H (.ref a) s.d := by
  have q0 := q a (foot_top h.own)
  match s, h with
  | .own xs, ⟨vs, h, z, r⟩ => exact .lst (.inl ⟨h, q0⟩) z (r.stay (.of_same fun _ _ e => e) f)
  | .ownd false ks ds, ⟨vs, h, z, r⟩ => exact .dck ⟨h, q0⟩ z (r.stay (.of_same fun _ _ e => e) f)
  | .ownd true ks ds, ⟨vs, h, z, r⟩ => exact .dct ⟨h, q0⟩ z (r.stay (.of_same fun _ _ e => e) f)
  | .ins cn names fs, ⟨C, dx, us, h1, h2, h3, h4, h5⟩ => exact .ins ⟨h1, q0⟩ h2 h3 (h4.rep f fun x hx => q x (ins_foot h1 h3 (List.mem_cons_of_mem _ hx)))
structure Rel (K : PySem.W.Frag) (H0 : Hp) (Fz0 Fz : FZ) (H : Hp) (σ : St) (δ : DSt) : Prop where
  same : Same H0 H
  sub0 : ∀ a, Fz0 a → Fz a
  new0 : ∀ a, Fz a → Fz0 a ∨ H0 a = none
  live : Live Fz H
  len : σ.length = δ.length
  val : ∀ (i : Nat) d, δ[i]? = some (some (.val d)) → ∃ v, σ[i]? = some (some v) ∧ Rep K Fz H v d
  ownF : ∀ (i : Nat) s, δ[i]? = some (some s) → s.isOwn = true → ∃ a, σ[i]? = some (some (.ref a)) ∧ OwnOb K Fz H a s ∧ ∀ x, Foot H a s x → H0 x = none ∧ ¬ Fz x
  sepF : ∀ (i j : Nat) s u a b x, i ≠ j → δ[i]? = some (some s) → s.isOwn = true → δ[j]? = some (some u) → u.isOwn = true → σ[i]? = some (some (.ref a)) → σ[j]? = some (some (.ref b)) → Foot H a s x → ¬ Foot H b u x
theorem Rel.mkOne {K : PySem.W.Frag} {H0 H : Hp} {Fz0 Fz : FZ} {σ : St} {δ : DSt} (same : Same H0 H) (sub0 : ∀ a, Fz0 a → Fz a) (new0 : ∀ a, Fz a → Fz0 a ∨ H0 a = none) (live : Live Fz H) (len : σ.length = δ.length)
    (val : ∀ (i : Nat) d, δ[i]? = some (some (.val d)) → ∃ v, σ[i]? = some (some v) ∧ Rep K Fz H v d)
    (own : ∀ (i : Nat) s, δ[i]? = some (some s) → s.isOwn = true → ∃ a, σ[i]? = some (some (.ref a)) ∧ H0 a = none ∧ ¬ Fz a ∧ OwnOb K Fz H a s)
    (sep : ∀ (i j : Nat) s u a, i ≠ j → δ[i]? = some (some s) → s.isOwn = true → δ[j]? = some (some u) → u.isOwn = true → σ[i]? = some (some (.ref a)) → σ[j]? ≠ some (some (.ref a)))
    (one : ∀ (i : Nat) s, δ[i]? = some (some s) → s.isIns = false) : Rel K H0 Fz0 Fz H σ δ :=
  ⟨same, sub0, new0, live, len, val, fun i s e ho => by
    obtain ⟨a, h1, h2, h3, h4⟩ := own i s e ho
    exact ⟨a, h1, h4, fun x hx => by rw [foot_one (one i s e) hx]; exact ⟨h2, h3⟩⟩, fun i j s u a b x hij e1 o1 e2 o2 h1 h2 f1 f2 => by
    rw [← foot_one (one i s e1) f1] at h1
    rw [← foot_one (one j u e2) f2] at h2
    exact sep i j s u x hij e1 o1 e2 o2 h1 h2⟩
/-- the addresses of the things of one's own at S -/
def ownA (H : Hp) (σ : St) (δ : DSt) (S : List Nat) (x : Addr) : Prop := ∃ i ∈ S, ∃ s, δ[i]? = some (some s) ∧ s.isOwn = true ∧ ∃ a, σ[i]? = some (some (.ref a)) ∧ Foot H a s x
abbrev withOwn (Fz : FZ) (H : Hp) (σ : St) (δ : DSt) (S : List Nat) : FZ := fun a => Fz a ∨ ownA H σ δ S a
/-- p belongs to nothing of one's own -/
abbrev NoFoot (H : Hp) (σ : St) (δ : DSt) (p : Addr) : Prop := ∀ (j : Nat) u, δ[j]? = some (some u) → u.isOwn = true → ∀ b, σ[j]? = some (some (.ref b)) → ¬ Foot H b u p
/-- things of one's own at S become frozen -/
def frzS : Option SV → Option SV
  | some (.own xs) => some (.val (.list xs))
  | some (.ownd t ks vs) => some (.val (dcD t ks vs))
  | some (.ins cn names fs) => some (.val (insD cn names (fs.map SF.d)))
  | s => s
def freeze (S : List Nat) : Nat → DSt → DSt
  | _, [] => []
  | k, s :: r => (if S.contains k then frzS s else s) :: freeze S (k + 1) r
theorem freeze_get (S : List Nat) : ∀ (δ : DSt) (k i : Nat), (freeze S k δ)[i]? = (δ[i]?).map fun s => if S.contains (k + i) then frzS s else s
  | [], _, _ => by simp [freeze]
  | s :: r, k, 0 => by simp [freeze]
  | s :: r, k, i + 1 => by
    rw [freeze, List.getElem?_cons_succ, List.getElem?_cons_succ, freeze_get S r (k + 1) i, show k + 1 + i = k + (i + 1) by omega]
theorem freeze_len (S : List Nat) : ∀ (δ : DSt) (k : Nat), (freeze S k δ).length = δ.length
  | [], _ => rfl
  | s :: r, k => by rw [freeze, List.length_cons, List.length_cons, freeze_len S r]
theorem frzS_some {s : SV} : frzS (some s) = some (.val s.d) := by
  cases s <;> rfl
theorem freeze_some {S : List Nat} {δ : DSt} {i : Nat} {s : SV} (e : (freeze S 0 δ)[i]? = some (some s)) : ∃ s', δ[i]? = some (some s') ∧ (i ∈ S ∧ s = .val s'.d ∨ i ∉ S ∧ s' = s) := by
  rw [freeze_get, Nat.zero_add] at e
  cases q : δ[i]? with
  | none => rw [q] at e; cases e
  | some o =>
    rw [q] at e
    have e := Option.some.inj (show some (if S.contains i then frzS o else o) = some (some s) from e)
    by_cases hi : i ∈ S
    · rw [if_pos (by simpa using hi)] at e
      cases o with
      | none => cases e
      | some s' =>
        rw [frzS_some] at e
        exact ⟨s', rfl, .inl ⟨hi, (Option.some.inj e).symm⟩⟩
    · rw [if_neg (by simpa using hi)] at e
      subst e
      exact ⟨s, rfl, .inr ⟨hi, rfl⟩⟩
theorem freeze_own {S : List Nat} {δ : DSt} {i : Nat} {s : SV} (e : (freeze S 0 δ)[i]? = some (some s)) (ho : s.isOwn = true) : i ∉ S ∧ δ[i]? = some (some s) := by
  obtain ⟨s', e', h | h⟩ := freeze_some e
  · rw [h.2] at ho; cases ho
  · exact ⟨h.1, h.2 ▸ e'⟩
section
variable {K : PySem.W.Frag} {H0 H H1 : Hp} {Fz0 Fz F1 : FZ} {σ : St} {δ : DSt} {S : List Nat}
theorem Rel.own (r : Rel K H0 Fz0 Fz H σ δ) : ∀ (i : Nat) s, δ[i]? = some (some s) → s.isOwn = true → ∃ a, σ[i]? = some (some (.ref a)) ∧ H0 a = none ∧ ¬ Fz a ∧ OwnOb K Fz H a s := fun i s e ho => by
  obtain ⟨a, h1, h2, h3⟩ := r.ownF i s e ho
  exact ⟨a, h1, (h3 a (foot_top ho)).1, (h3 a (foot_top ho)).2, h2⟩
theorem Rel.sep (r : Rel K H0 Fz0 Fz H σ δ) : ∀ (i j : Nat) s u a, i ≠ j → δ[i]? = some (some s) → s.isOwn = true → δ[j]? = some (some u) → u.isOwn = true → σ[i]? = some (some (.ref a)) → σ[j]? ≠ some (some (.ref a)) := fun i j s u a hij e1 o1 e2 o2 h1 h2 =>
  r.sepF i j s u a a a hij e1 o1 e2 o2 h1 h2 (foot_top o1) (foot_top o2)
theorem Rel.own_ne (r : Rel K H0 Fz0 Fz H σ δ) {i : Nat} {s : SV} {a : Addr} (e : δ[i]? = some (some s)) (ho : s.isOwn = true) (ea : σ[i]? = some (some (.ref a))) : ¬ Fz a ∧ H a ≠ none := by
  obtain ⟨a', h1, h2, h3, h4⟩ := r.own i s e ho
  rw [ea] at h1
  cases h1
  obtain ⟨o, h5, _⟩ := h4.mut
  exact ⟨h3, by rw [h5]; exact fun h => by cases h⟩
theorem Rel.foot (r : Rel K H0 Fz0 Fz H σ δ) {i : Nat} {s : SV} {a x : Addr} (e : δ[i]? = some (some s)) (ho : s.isOwn = true) (ea : σ[i]? = some (some (.ref a))) (f : Foot H a s x) : H0 x = none ∧ ¬ Fz x ∧ ∃ o, H x = some o ∧ Mutb o := by
  obtain ⟨a', h1, h2, h3⟩ := r.ownF i s e ho
  rw [ea] at h1
  cases h1
  exact ⟨(h3 x f).1, (h3 x f).2, h2.mutF f⟩
theorem Rel.ownLive (r : Rel K H0 Fz0 Fz H σ δ) : Live (withOwn Fz H σ δ S) H := fun x z => by
  rcases z with z | ⟨i, _, s, e, ho, a, e2, f⟩
  · exact r.live x z
  · obtain ⟨_, _, o, h, _⟩ := r.foot e ho e2 f
    rw [h]
    exact fun h => by cases h
theorem Rel.rd (r : Rel K H0 Fz0 Fz H σ δ) : RdOn K S (withOwn Fz H σ δ S) H σ δ := ⟨r.len, fun i hi s e => by
  by_cases ho : s.isOwn = true
  · obtain ⟨a, h1, _, _, h2⟩ := r.own i s e ho
    exact ⟨.ref a, h1, h2.rep (fun _ h => .inl h) fun x hx => .inr ⟨i, hi, s, e, ho, a, h1, hx⟩⟩
  · cases s with
    | val d =>
      obtain ⟨v, h1, h2⟩ := r.val i d e
      exact ⟨v, h1, h2.stay (.of_same fun _ _ e => e) fun _ h => .inl h⟩
    | _ => exact absurd rfl ho⟩
theorem Rel.sameF (r : Rel K H0 Fz0 Fz H σ δ) (g : Same H H1) {i : Nat} {s : SV} {a x : Addr} (e : δ[i]? = some (some s)) (ho : s.isOwn = true) (ea : σ[i]? = some (some (.ref a))) (f : Foot H1 a s x) : Foot H a s x := by
  obtain ⟨_, _, o, h, _⟩ := r.foot e ho ea (foot_top ho)
  exact foot_eq ((g _ _ h).trans h.symm) f
/-- behind an expression -/
theorem Rel.up (r : Rel K H0 Fz0 Fz H σ δ) (g : Same H H1) : Rel K H0 Fz0 Fz H1 σ δ :=
  ⟨fun a o e => g a o (r.same a o e), r.sub0, r.new0, fun a z e => r.live a z (none_of_same g e), r.len, fun i d e => by
    obtain ⟨v, h1, h2⟩ := r.val i d e
    exact ⟨v, h1, h2.stay (.of_same g) fun _ h => h⟩, fun i s e ho => by
    obtain ⟨a, h1, h2, h3⟩ := r.ownF i s e ho
    exact ⟨a, h1, h2.same g fun _ h => h, fun x hx => h3 x (r.sameF g e ho h1 hx)⟩, fun i j s u a b x hij e1 o1 e2 o2 h1 h2 f1 f2 => r.sepF i j s u a b x hij e1 o1 e2 o2 h1 h2 (r.sameF g e1 o1 h1 f1) (r.sameF g e2 o2 h2 f2)⟩
/-- .. with what was read frozen -/
theorem Rel.frz (r : Rel K H0 Fz0 Fz H σ δ) (g : Grow (withOwn Fz H σ δ S) H F1 H1) : Rel K H0 Fz0 F1 H1 σ (freeze S 0 δ) := by
  have sub : ∀ a, Fz a → F1 a := fun a h => g.sub a (.inl h)
  refine ⟨fun a o e => g.same a o (r.same a o e), fun a h => sub a (r.sub0 a h), fun a z => ?_, g.live r.ownLive, by rw [freeze_len]; exact r.len, fun i d e => ?_, fun i s e ho => ?_, fun i j s u a b x hij e1 o1 e2 o2 h1 h2 f1 f2 => ?_⟩
  · rcases g.new a z with (z | ⟨i, _, s, e, ho, b, e2, f⟩) | z
    · exact r.new0 a z
    · exact .inr (r.foot e ho e2 f).1
    · exact .inr (none_of_same r.same z)
  · obtain ⟨s', e', hh⟩ := freeze_some e
    by_cases ho : s'.isOwn = true
    · rcases hh with ⟨hi, q⟩ | ⟨_, q⟩
      · cases q
        obtain ⟨a, h1, _, _, h3⟩ := r.own i s' e' ho
        exact ⟨.ref a, h1, (h3.same g.same sub).rep (fun _ h => h) fun x hx => g.sub x (.inr ⟨i, hi, s', e', ho, a, h1, r.sameF g.same e' ho h1 hx⟩)⟩
      · rw [q] at ho; cases ho
    · cases s' with
      | val d' =>
        have hd : d' = d := by
          rcases hh with ⟨_, q⟩ | ⟨_, q⟩
          · cases q; rfl
          · cases q; rfl
        subst hd
        obtain ⟨v, h1, h2⟩ := r.val i d' e'
        exact ⟨v, h1, h2.stay (.of_same g.same) sub⟩
      | _ => exact absurd rfl ho
  · obtain ⟨hi, e'⟩ := freeze_own e ho
    obtain ⟨a, h1, h2, h3⟩ := r.ownF i s e' ho
    refine ⟨a, h1, h2.same g.same sub, fun x hx => ?_⟩
    have hx := r.sameF g.same e' ho h1 hx
    refine ⟨(h3 x hx).1, fun z => ?_⟩
    rcases g.new x z with (z | ⟨j, hj, u, ej, oj, b, ej2, f⟩) | z
    · exact (h3 x hx).2 z
    · have hij : i ≠ j := fun q => hi (q ▸ hj)
      exact r.sepF i j s u a b x hij e' ho ej oj h1 ej2 hx f
    · obtain ⟨_, _, o, h, _⟩ := r.foot e' ho h1 hx
      rw [h] at z; cases z
  · exact r.sepF i j s u a b x hij (freeze_own e1 o1).2 o1 (freeze_own e2 o2).2 o2 h1 h2 (r.sameF g.same (freeze_own e1 o1).2 o1 h1 f1) (r.sameF g.same (freeze_own e2 o2).2 o2 h2 f2)
theorem set_get {α : Type} {l : List (Option α)} {i j : Nat} {x y : α} (h : (l.set i (some x))[j]? = some (some y)) : (i = j ∧ i < l.length ∧ x = y) ∨ (i ≠ j ∧ l[j]? = some (some y)) := by
  by_cases hij : i = j
  · subst hij
    by_cases hl : i < l.length
    · rw [List.getElem?_set_self hl] at h
      cases h
      exact .inl ⟨rfl, hl, rfl⟩
    · rw [List.getElem?_eq_none (by rw [List.length_set]; omega)] at h
      cases h
  · rw [List.getElem?_set_ne hij] at h
    exact .inr ⟨hij, h⟩
theorem Rel.setVal (r : Rel K H0 Fz0 Fz H σ δ) {v : V} {d : PyData} (rv : Rep K Fz H v d) (i : Nat) : Rel K H0 Fz0 Fz H (σ.set i (some v)) (δ.set i (some (.val d))) := by
  refine ⟨r.same, r.sub0, r.new0, r.live, by rw [List.length_set, List.length_set]; exact r.len, fun j d' e => ?_, fun j s e ho => ?_, fun j k s u a b x hjk e1 o1 e2 o2 h1 h2 f1 f2 => ?_⟩
  · rcases set_get e with ⟨rfl, hl, q⟩ | ⟨hij, e⟩
    · cases q
      exact ⟨v, List.getElem?_set_self (by rw [r.len]; exact hl), rv⟩
    · obtain ⟨v', h1, h2⟩ := r.val j d' e
      exact ⟨v', by rw [List.getElem?_set_ne hij]; exact h1, h2⟩
  · rcases set_get e with ⟨rfl, hl, q⟩ | ⟨hij, e⟩
    · rw [← q] at ho; cases ho
    · obtain ⟨a, h1, h2⟩ := r.ownF j s e ho
      exact ⟨a, by rw [List.getElem?_set_ne hij]; exact h1, h2⟩
  · rcases set_get e1 with ⟨_, _, q⟩ | ⟨hij, e1⟩
    · rw [← q] at o1; cases o1
    · rcases set_get e2 with ⟨_, _, q⟩ | ⟨hik, e2⟩
      · rw [← q] at o2; cases o2
      · rw [List.getElem?_set_ne hij] at h1
        rw [List.getElem?_set_ne hik] at h2
        exact r.sepF j k s u a b x hjk e1 o1 e2 o2 h1 h2 f1 f2
/-- a thing of one's own comes to slot i -/
theorem Rel.setOwnG (r : Rel K H0 Fz0 Fz H σ δ) {p : Addr} {s : SV} (rv : OwnOb K Fz H p s) (n0 : ∀ x, Foot H p s x → H0 x = none ∧ ¬ Fz x) (ap : ∀ x, Foot H p s x → NoFoot H σ δ x) (i : Nat) :
    Rel K H0 Fz0 Fz H (σ.set i (some (.ref p))) (δ.set i (some s)) := by
  have io : s.isOwn = true := rv.own
  refine ⟨r.same, r.sub0, r.new0, r.live, by rw [List.length_set, List.length_set]; exact r.len, fun j d' e => ?_, fun j s' e' ho => ?_, fun j k s' u a b x hjk e1 o1 e2 o2 h1 h2 f1 f2 => ?_⟩
  · rcases set_get e with ⟨rfl, hl, q⟩ | ⟨hij, e⟩
    · rw [q] at io; cases io
    · obtain ⟨v', h1, h2⟩ := r.val j d' e
      exact ⟨v', by rw [List.getElem?_set_ne hij]; exact h1, h2⟩
  · rcases set_get e' with ⟨rfl, hl, q⟩ | ⟨hij, e'⟩
    · subst q
      exact ⟨p, List.getElem?_set_self (by rw [r.len]; exact hl), rv, n0⟩
    · obtain ⟨a, h1, h2⟩ := r.ownF j s' e' ho
      exact ⟨a, by rw [List.getElem?_set_ne hij]; exact h1, h2⟩
  · rcases set_get e1 with ⟨rfl, hl1, q⟩ | ⟨hij, e1⟩
    · rcases set_get e2 with ⟨rfl, _, _⟩ | ⟨hik, e2⟩
      · exact hjk rfl
      · subst q
        rw [List.getElem?_set_self (by rw [r.len]; exact hl1)] at h1
        cases h1
        rw [List.getElem?_set_ne hik] at h2
        exact ap x f1 k u e2 o2 b h2 f2
    · rcases set_get e2 with ⟨rfl, hl2, q⟩ | ⟨hik, e2⟩
      · subst q
        rw [List.getElem?_set_self (by rw [r.len]; exact hl2)] at h2
        cases h2
        rw [List.getElem?_set_ne hij] at h1
        exact ap x f2 j s' e1 o1 a h1 f1
      · rw [List.getElem?_set_ne hij] at h1
        rw [List.getElem?_set_ne hik] at h2
        exact r.sepF j k s' u a b x hjk e1 o1 e2 o2 h1 h2 f1 f2
theorem Rel.setOwn (r : Rel K H0 Fz0 Fz H σ δ) {p : Addr} {s : SV} (n0 : H0 p = none) (nf : ¬ Fz p) (rv : OwnOb K Fz H p s) (ap : NoFoot H σ δ p) (i : Nat) (one : s.isIns = false := by rfl) :
    Rel K H0 Fz0 Fz H (σ.set i (some (.ref p))) (δ.set i (some s)) :=
  r.setOwnG rv (fun x hx => by rw [foot_one one hx]; exact ⟨n0, nf⟩) (fun x hx => by rw [foot_one one hx]; exact ap) i
theorem Rel.apart (r : Rel K H0 Fz0 Fz H σ δ) {p : Addr} (np : H p = none) (g : Same H H1 := by first | exact same_upd (by assumption) | assumption | exact Grow.same (by assumption)) : NoFoot H1 σ δ p := fun j u e ho b ea f => by
  obtain ⟨_, _, o, h, _⟩ := r.foot e ho ea (r.sameF g e ho ea f)
  rw [np] at h; cases h
/-- something that belongs to slot i is changed -/
theorem Rel.writeG (r : Rel K H0 Fz0 Fz H σ δ) {i : Nat} {a x : Addr} {s s' : SV} {o : HO} (e : δ[i]? = some (some s)) (ho : s.isOwn = true) (ea : σ[i]? = some (some (.ref a))) (hx : Foot H a s x) (rv : ∀ H', Stay Fz H H' → H' x = some o → (∀ y, y ≠ x → H' y = H y) → OwnOb K Fz H' a s') (hf : ∀ y, Foot (upd H x o) a s' y → Foot H a s y) :
    Rel K H0 Fz0 Fz (upd H x o) σ (δ.set i (some s')) := by
  obtain ⟨h3, h4, o1, h2, hm1, hm2⟩ := r.foot e ho ea hx
  have st : Stay Fz H (upd H x o) := .write h4 h2 ⟨hm1, hm2⟩
  have rv' := rv _ st upd_same fun y hy => upd_ne hy
  have io : s'.isOwn = true := rv'.own
  have oth : ∀ {j : Nat} {u : SV} {b : Addr}, i ≠ j → δ[j]? = some (some u) → u.isOwn = true → σ[j]? = some (some (.ref b)) → ∀ y, Foot H b u y → y ≠ x := fun {j u b} hij ej oj eb y hy q => by
    subst q
    exact r.sepF i j s u a b y hij e ho ej oj ea eb hx hy
  have back : ∀ {j : Nat} {u : SV} {b : Addr}, i ≠ j → δ[j]? = some (some u) → u.isOwn = true → σ[j]? = some (some (.ref b)) → ∀ y, Foot (upd H x o) b u y → Foot H b u y := fun {j u b} hij ej oj eb y hy =>
    foot_eq (upd_ne (oth hij ej oj eb b (foot_top oj))) hy
  refine ⟨same_upd2 r.same h3, r.sub0, r.new0, fun b z q => ?_, by rw [List.length_set]; exact r.len, fun j d' e' => ?_, fun j u e' oj => ?_, fun j k u1 u2 b c y hjk e1 o1 e2 o2 h1 h2' f1 f2 => ?_⟩
  · by_cases hb : b = x
    · subst hb; exact h4 z
    · rw [upd_ne hb] at q
      exact r.live b z q
  · rcases set_get e' with ⟨rfl, hl, q⟩ | ⟨hij, e'⟩
    · rw [q] at io; cases io
    · obtain ⟨v', h1, h2⟩ := r.val j d' e'
      exact ⟨v', h1, h2.stay st fun _ h => h⟩
  · rcases set_get e' with ⟨rfl, hl, q⟩ | ⟨hij, e'⟩
    · subst q
      exact ⟨a, ea, rv', fun y hy => ⟨(r.foot e ho ea (hf y hy)).1, (r.foot e ho ea (hf y hy)).2.1⟩⟩
    · obtain ⟨b, k1, k2, k3⟩ := r.ownF j u e' oj
      exact ⟨b, k1, k2.keep st (fun _ h => h) fun y hy => upd_ne (oth hij e' oj k1 y hy), fun y hy => k3 y (back hij e' oj k1 y hy)⟩
  · rcases set_get e1 with ⟨rfl, _, q1⟩ | ⟨hj, e1⟩
    · rcases set_get e2 with ⟨rfl, _, _⟩ | ⟨hk, e2⟩
      · exact hjk rfl
      · subst q1
        rw [ea] at h1
        cases h1
        exact r.sepF i k s u2 a c y hk e ho e2 o2 ea h2' (hf y f1) (back hk e2 o2 h2' y f2)
    · rcases set_get e2 with ⟨rfl, _, q2⟩ | ⟨hk, e2⟩
      · subst q2
        rw [ea] at h2'
        cases h2'
        exact r.sepF j i u1 s b a y hjk e1 o1 e ho h1 ea (back hj e1 o1 h1 y f1) (hf y f2)
      · exact r.sepF j k u1 u2 b c y hjk e1 o1 e2 o2 h1 h2' (back hj e1 o1 h1 y f1) (back hk e2 o2 h2' y f2)
/-- the thing at slot i is changed -/
theorem Rel.write (r : Rel K H0 Fz0 Fz H σ δ) {i : Nat} {a : Addr} {s s' : SV} {o : HO} (e : δ[i]? = some (some s)) (ho : s.isOwn = true) (ea : σ[i]? = some (some (.ref a))) (rv : (∀ H', Stay Fz H H' → H' a = some o → OwnOb K Fz H' a s')) (one : s'.isIns = false := by rfl) :
    Rel K H0 Fz0 Fz (upd H a o) σ (δ.set i (some s')) :=
  r.writeG e ho ea (foot_top ho) (fun H' st q _ => rv H' st q) fun y hy => by rw [foot_one one hy]; exact foot_top ho
end

/-! ### statements -/
inductive Out where
  | nx (δ : DSt) | rt (d : PyData) | bk (δ : DSt) | ct (δ : DSt)
def OOK (K : PySem.W.Frag) (H0 : Hp) (Fz0 : FZ) (Dn : Ends) : Out → Prop
  | .nx δ => ∀ Fz H σ, Rel K H0 Fz0 Fz H σ δ → Dn.nx σ H
  | .rt d => ∀ Fz H v, Grow Fz0 H0 Fz H → Rep K Fz H v d → Dn.rt v H
  | .bk δ => ∀ Fz H σ, Rel K H0 Fz0 Fz H σ δ → Dn.bk σ H
  | .ct δ => ∀ Fz H σ, Rel K H0 Fz0 Fz H σ δ → Dn.ct σ H
def XOK (mg : Str → Option Value) (W : XK) (H0 : Hp) (Fz0 : FZ) (x : Exn) : Prop := ∀ c oe H Fz, Grow Fz0 H0 Fz H → ExR mg x c oe H → W c oe H
def SOK (K : PySem.W.Frag) (mg : Str → Option Value) (W : XK) (H0 : Hp) (Fz0 : FZ) (r : Res Out) (Dn : Ends) : Prop := r.wp (OOK K H0 Fz0 Dn) (XOK mg W H0 Fz0)
structure DS (X : Cx) (W : WS) (st : Stmt) (t : TS) (f : DSt → Res Out) : Prop where
  pe : PS X st t
  ok : ∀ H0 Fz0 Fz H σ δ Dn, Rel X.K H0 Fz0 Fz H σ δ → SOK X.K X.mg (W σ) H0 Fz0 (f δ) Dn → t Dn σ H
structure DSs (X : Cx) (W : WS) (st : List Stmt) (t : TS) (f : DSt → Res Out) : Prop where
  pe : PSs X st t
  ok : ∀ H0 Fz0 Fz H σ δ Dn, Rel X.K H0 Fz0 Fz H σ δ → SOK X.K X.mg (W σ) H0 Fz0 (f δ) Dn → t Dn σ H
/-- where an expression at a def's state stands -/
theorem Rel.grow0 {K : PySem.W.Frag} {H0 H H1 : Hp} {Fz0 Fz F1 : FZ} {σ : St} {δ : DSt} {S : List Nat} (r : Rel K H0 Fz0 Fz H σ δ) (g : Grow (withOwn Fz H σ δ S) H F1 H1) : Grow Fz0 H0 F1 H1 :=
  let q := r.frz g
  ⟨q.same, q.sub0, q.new0, fun _ => q.live⟩
section
variable {X : Cx} {W : WS} {U : XK} {S T : List Nat} {e a b c tg : Expr} {es tgs : List Expr} {pos p : Pos} {te ta tb : TE} {tt : TT} {ts ts' : TS} {st : Stmt} {rest : List Stmt}
theorem atE {f : DSt → Res PyData} {H0 H : Hp} {Fz0 Fz : FZ} {σ : L2.St} {δ : DSt} {Q : VK} (he : DE X W S e te f) (r : Rel X.K H0 Fz0 Fz H σ δ) (h : (f δ).wp (fun d => ∀ v H1 F1, Grow (withOwn Fz H σ δ S) H F1 H1 → Rep X.K F1 H1 v d → Q v H1) (XOK X.mg (W σ) H0 Fz0)) : te σ H Q :=
  he.ok _ σ H δ Q r.rd r.ownLive (wp_mono h (fun d hd v H1 F1 g r1 => hd v H1 F1 g r1) fun x hx c oe H1 F1 g q => hx c oe H1 F1 (r.grow0 g) q)
theorem atF {f : DSt → Res (List PyData)} {H0 H : Hp} {Fz0 Fz : FZ} {σ : L2.St} {δ : DSt} {Q : VK} (he : DF X W S e te f) (r : Rel X.K H0 Fz0 Fz H σ δ) (h : (f δ).wp (fun ds => ∀ p vs H1 F1, Grow (withOwn Fz H σ δ S) H F1 H1 → H p = none → ¬ F1 p → H1 p = some (.lst vs) → ds.length ≤ sizeLine → RepAll X.K F1 H1 vs ds → Q (.ref p) H1) (XOK X.mg (W σ) H0 Fz0)) : te σ H Q :=
  he.ok _ σ H δ Q r.rd r.ownLive (wp_mono h (fun d hd p vs H1 F1 g => hd p vs H1 F1 g) fun x hx c oe H1 F1 g q => hx c oe H1 F1 (r.grow0 g) q)
theorem atT {f : DSt → Res Bool} {H0 H : Hp} {Fz0 Fz : FZ} {σ : L2.St} {δ : DSt} {Q : Bool → Hp → Prop} (he : DT X W S e tt f) (r : Rel X.K H0 Fz0 Fz H σ δ) (h : (f δ).wp (fun b => ∀ H1, Rel X.K H0 Fz0 Fz H1 σ δ → Q b H1) (XOK X.mg (W σ) H0 Fz0)) : tt σ H Q :=
  he.ok _ σ H δ Q r.rd r.ownLive (wp_mono h (fun d hd H1 F1 g => hd H1 (r.up g.same)) fun x hx c oe H1 F1 g q => hx c oe H1 F1 (r.grow0 g) q)

theorem dss_nil : DSs X W [] tNext (fun δ => .ok (.nx δ)) := ⟨pss_nil, fun H0 Fz0 Fz H σ δ Dn r h => h Fz H σ r⟩
def seqF (f g : DSt → Res Out) (δ : DSt) : Res Out := do
  match ← f δ with
  | .nx δ' => g δ'
  | o => .ok o
theorem dss_cons {f g : DSt → Res Out} (h1 : DS X (fun _ => U) st ts f) (h2 : DSs X (fun _ => U) rest ts' g) : DSs X (fun _ => U) (st :: rest) (tSeq ts ts') (seqF f g) := by
  refine ⟨pss_cons h1.pe h2.pe, fun H0 Fz0 Fz H σ δ Dn r h => ?_⟩
  unfold SOK seqF at h
  rw [wp_bind] at h
  refine h1.ok H0 Fz0 Fz H σ δ _ r (wp_mono h (fun o ho => ?_) fun x hx => hx)
  cases o with
  | nx δ' => exact fun F H' σ' r' => h2.ok H0 Fz0 F H' σ' δ' Dn r' ho
  | rt d => exact ho
  | bk δ' => exact ho
  | ct δ' => exact ho
theorem dss_one {f : DSt → Res Out} (h1 : DS X W st ts f) : DSs X W [st] ts f := ⟨pss_one h1.pe, h1.ok⟩
theorem ds_pass : DS X W (.Pass pos) tNext (fun δ => .ok (.nx δ)) := ⟨ps_pass, fun H0 Fz0 Fz H σ δ Dn r h => h Fz H σ r⟩
theorem ds_break : DS X W (.Break pos) tBreak (fun δ => .ok (.bk δ)) := ⟨ps_break, fun H0 Fz0 Fz H σ δ Dn r h => h Fz H σ r⟩
theorem ds_continue : DS X W (.Continue pos) tCont (fun δ => .ok (.ct δ)) := ⟨ps_continue, fun H0 Fz0 Fz H σ δ Dn r h => h Fz H σ r⟩
/-- target = e -/
def asgF (S : List Nat) (f : DSt → Res PyData) (p : Pat) (δ : DSt) : Res Out := do
  let d ← f δ
  let δ' ← nE (bindP p d (if flat d then δ else freeze S 0 δ))
  .ok (.nx δ')
theorem Rel.setsVal {K : PySem.W.Frag} {H0 H : Hp} {Fz0 Fz : FZ} {is : List Nat} : Sets K Fz H is (fun σ δ => Rel K H0 Fz0 Fz H σ δ) := fun σ δ i v d _ hr rv => hr.setVal rv i
theorem asg_ok {f : DSt → Res PyData} {g : TG} {p : Pat} (he : DE X W S e te f) (hg : DG X tg g p) : ∀ H0 Fz0 Fz H σ δ Dn, Rel X.K H0 Fz0 Fz H σ δ → SOK X.K X.mg (W σ) H0 Fz0 (asgF S f p δ) Dn → tAsg te g Dn σ H := fun H0 Fz0 Fz H σ δ Dn r h => by
  unfold SOK asgF at h
  rw [wp_bind] at h
  refine atE he r (wp_mono h (fun d hd v H1 F1 g1 r1 => ?_) fun x hx => hx)
  rw [wp_bind] at hd
  obtain ⟨δ', hb, hd⟩ := nEb hd
  by_cases hf : flat d = true
  · rw [if_pos hf] at hb
    refine hg.ok Fz H1 _ v d σ δ _ Rel.setsVal (r.up g1.same) (r1.flat hf) ?_
    rw [hb]
    exact fun σ' r' => hd Fz H1 σ' r'
  · rw [if_neg hf] at hb
    refine hg.ok F1 H1 _ v d σ (freeze S 0 δ) _ Rel.setsVal (r.frz g1) r1 ?_
    rw [hb]
    exact fun σ' r' => hd F1 H1 σ' r'
theorem ds_asg {f : DSt → Res PyData} {g : TG} {p : Pat} (hg : DG X tg g p) (he : DE X W S e te f) (hs : swapsWithSole [tg] e pos.line X.env = pure false := by rfl) (hw : swappedStores [tg] e X.env = pure none := by rfl) (h1 : (assignEach [tg] X.env).map (·.2) = [assign tg X.env] := by rfl) : DS X W (.Assign [tg] e pos) (tAsg te g) (asgF S f p) :=
  ⟨ps_asg he.pe hg.pe hs hw h1, asg_ok he hg⟩
/-- x = e -/
theorem ds_set {i : Nat} {x : Str} {pos' : Pos} {f : DSt → Res PyData} (hN : X.N.Nodup) (hi : X.N[i]? = some x) (hx : L2.Loc X.env.scope x) (he : DE X W S e te f) (hs : swapsWith e (some (.Name x pos')) pos.line X.env = pure false := by rfl) (hf : X.fn x = true ∨ X.env.scope.names.lookup x = some .local := by first | exact .inl rfl | exact .inr rfl | assumption) :
    DS X W (.Assign [.Name x pos'] e pos) (tAsg te (gName i)) (asgF S f (.nm i)) :=
  ⟨ps_set hN hi hx he.pe hs hf, asg_ok he (dg_name (pos := pos') hN hi hx hf)⟩
/-- x = a new list -/
def asgO (S : List Nat) (f : DSt → Res (List PyData)) (i : Nat) (δ : DSt) : Res Out := do
  let xs ← f δ
  .ok (.nx ((if flatAll xs then δ else freeze S 0 δ).set i (some (.own xs))))
theorem asgO_ok {i : Nat} {f : DSt → Res (List PyData)} (he : DF X W S e te f) : ∀ H0 Fz0 Fz H σ δ Dn, Rel X.K H0 Fz0 Fz H σ δ → SOK X.K X.mg (W σ) H0 Fz0 (asgO S f i δ) Dn → tAsg te (gName i) Dn σ H := fun H0 Fz0 Fz H σ δ Dn r h => by
  unfold SOK asgO at h
  rw [wp_bind] at h
  refine atF he r (wp_mono h (fun ds hd p vs H1 F1 g1 np nf e z r1 => ?_) fun x hx => hx)
  have n0 : H0 p = none := none_of_same r.same np
  by_cases hf : flatAll ds = true
  · rw [if_pos hf] at hd
    exact hd Fz H1 _ ((r.up g1.same).setOwn (s := .own ds) n0 (fun q => r.live p q np) ⟨vs, e, z, r1.flat hf⟩ (r.apart np g1.same) i)
  · rw [if_neg hf] at hd
    exact hd F1 H1 _ ((r.frz g1).setOwn (s := .own ds) n0 nf ⟨vs, e, z, r1⟩ (fun j u ej oj => r.apart np g1.same j u (freeze_own ej oj).2 oj) i)
theorem ds_setO {i : Nat} {x : Str} {pos' : Pos} {f : DSt → Res (List PyData)} (hN : X.N.Nodup) (hi : X.N[i]? = some x) (hx : L2.Loc X.env.scope x) (he : DF X W S e te f) (hs : swapsWith e (some (.Name x pos')) pos.line X.env = pure false := by rfl) (hf : X.fn x = true ∨ X.env.scope.names.lookup x = some .local := by first | exact .inl rfl | exact .inr rfl | assumption) :
    DS X W (.Assign [.Name x pos'] e pos) (tAsg te (gName i)) (asgO S f i) :=
  ⟨ps_set hN hi hx he.pe hs hf, asgO_ok he⟩
/-- x = [.. for ..] on one line -/
theorem ds_setLc {S1 S2 : List Nat} {elt iter : Expr} {ifs : List Expr} {scope : Scope} {own : List (Str × Nat)} {wi : TI} {gg : TG} {tte : TT} {i : Nat} {y : Str} {py spos : Pos} {g : DSt → Res (List PyData)} {p : Pat} {ft : DSt → Res Bool} {fe : DSt → Res PyData}
    (hy : X.N[i]? = some y) (hyl : X.env.scope.names.lookup y = some .local) (hsw : swapsWith (.ListComp elt [⟨tg, iter, ifs, 0⟩] scope pos) (some (.Name y py)) spos.line X.env = pure true)
    (hc : X.calm = true) (hN : X.N.Nodup) (hi : DI X W S tg iter wi g) (ok : BlkOk X.N X.env.scope scope own)
    (hg : ∀ (s : Shared) (H : Hp) (C : Addr) (cl : List (Str × Addr)) (fp : List Addr), DG (X.blk s H scope (compEnvC scope cl C X.env) fp) tg gg p) (hp : ∀ i ∈ p.slots, i ∈ own.map (·.2))
    (ht : ∀ (s : Shared) (H : Hp) (C : Addr) (cl : List (Str × Addr)) (fp : List Addr), DTs (X.blk s H scope (compEnvC scope cl C X.env) fp) (fun _ => E0) S1 ifs tte ft)
    (he : ∀ (s : Shared) (H : Hp) (C : Addr) (cl : List (Str × Addr)) (fp : List Addr), DE (X.blk s H scope (compEnvC scope cl C X.env) fp) (fun _ => E0) S2 elt te fe) (hs : ∀ x, foldedSetIterable iter X.env x = pure x := by intro _; rfl) :
    DS X W (.Assign [.Name y py] (.ListComp elt [⟨tg, iter, ifs, 0⟩] scope pos) spos) (tAsg (tLc wi gg tte te (own.map (·.2))) (gName i)) (asgO (S ++ (S1 ++ S2)) (lcF g p (own.map (·.2)) ft fe) i) :=
  ⟨ps_setLc hc hN hy hyl hsw hi.pe ok (fun s H C cl fp => (hg s H C cl fp).pe) (fun s H C cl fp => (ht s H C cl fp).pe) (fun s H C cl fp => (he s H C cl fp).pe) hs, asgO_ok (df_lc (pos := pos) hc hN hi ok hg hp ht he hs)⟩
theorem ds_ret {f : DSt → Res PyData} (he : DE X W S e te f) : DS X W (.Return (some e) pos) (tRet te) (fun δ => do let d ← f δ; .ok (.rt d)) := by
  refine ⟨ps_ret he.pe, fun H0 Fz0 Fz H σ δ Dn r h => ?_⟩
  unfold SOK at h
  rw [wp_bind] at h
  exact atE he r (wp_mono h (fun d hd v H1 F1 g1 r1 => hd F1 H1 v (r.grow0 g1) r1) fun x hx => hx)
theorem ds_retN : DS X W (.Return none pos) tRetN (fun δ => .ok (.rt .none)) :=
  ⟨ps_retN, fun H0 Fz0 Fz H σ δ Dn r h => h Fz H .non ⟨r.same, r.sub0, r.new0, fun _ => r.live⟩ .non⟩
/-- an expression alone -/
theorem ds_expr {f : DSt → Res PyData} (he : DE X W S e te f) (hs : swapsWith e none pos.line X.env = pure false := by rfl) : DS X W (.Expr e pos) (tDrop te) (fun δ => do let _ ← f δ; .ok (.nx δ)) := by
  refine ⟨ps_expr he.pe hs, fun H0 Fz0 Fz H σ δ Dn r h => ?_⟩
  unfold SOK at h
  rw [wp_bind] at h
  exact atE he r (wp_mono h (fun d hd v H1 F1 g1 r1 => hd Fz H1 σ (r.up g1.same)) fun x hx => hx)
theorem ds_if {c : Expr} {a b : List Stmt} {h : DSt → Res Bool} {f g : DSt → Res Out} (hc : DT X W S c tt h) (ha : DSs X W a ts f) (hb : DSs X W b ts' g) : DS X W (.If c a b pos) (tIfS tt ts ts') (fun δ => do let x ← h δ; if x then f δ else g δ) := by
  refine ⟨ps_if hc.pe ha.pe hb.pe, fun H0 Fz0 Fz H σ δ Dn r q => ?_⟩
  unfold SOK at q
  rw [wp_bind] at q
  refine atT hc r (wp_mono q (fun x hx H1 r1 => ?_) fun x hx => hx)
  cases x with
  | true => exact ha.ok H0 Fz0 Fz H1 σ δ Dn r1 hx
  | false => exact hb.ok H0 Fz0 Fz H1 σ δ Dn r1 hx
/-- xs.append(e) -/
def appF (i : Nat) (S : List Nat) (f : DSt → Res PyData) (δ : DSt) : Res Out :=
  match δ[i]? with
  | some (some (.own _)) => do
    let d ← f δ
    let δ' := if flat d then δ else freeze S 0 δ
    match δ'[i]? with
    | some (some (.own xs)) => if xs.length < sizeLine then .ok (.nx (δ'.set i (some (.own (xs ++ [d]))))) else .bot
    | _ => .bot
  | _ => .bot
theorem ds_append {i : Nat} {x : Str} {f : DSt → Res PyData} {apos cpos xpos : Pos} (hN : X.N[i]? = some x) (hv : Vis X.env.scope x) (he : DE X W S e te f)
    (hbase : attributeBase (.Name x xpos) "append" X.env (eval (.Name x xpos) X.env) = eval (.Name x xpos) X.env := by rfl)
    (hfew : ((backTo cpos (starEach [e] X.env)).all (fun x => !x.1) && (backToKw cpos (keywordEach [] X.env)).all (fun x => x.1.isSome)
      && decide ([e].length + ([] : List Keyword).length + (if ([] : List Keyword).isEmpty then 0 else 1) < 30)) = true := by rfl)
    (hline : (apos.endLine == cpos.line) = true := by rfl) (hs : starEach [e] X.env = (false, eval e X.env) :: starEach [] X.env := by rfl) (hplain : (backTo cpos (starEach [] X.env)).any (·.1) = false := by rfl)
    (hsw : swapsWith (.Call (.Attribute (.Name x xpos) "append" apos) [e] [] cpos) none pos.line X.env = pure false := by rfl) (hd : (x == ("__debug__" : Str)) = false := by decide) (hcd : (x == ("__classdict__" : Str)) = false := by decide) :
    DS X W (.Expr (.Call (.Attribute (.Name x xpos) "append" apos) [e] [] cpos) pos) (tDrop (tBM X.K "list" rAppend (tVar i) (tCons te tNil))) (appF i S f) := by
  refine ⟨ps_expr (pe_bm PySem.F.plainAttrs_list PySem.F.slot_list_append PySem.F.type_list_append mt_append (pe_var (i := i) hN hv hd hcd) (pa_cons he.pe pa_nil hs) hbase hfew hline hs hplain) hsw, fun H0 Fz0 Fz H σ δ Dn r h => ?_⟩
  unfold SOK appF at h
  split at h
  · rename_i xs0 e1
    obtain ⟨a, e2, e4, e5, vs, e3, e6, e7⟩ := r.own i _ e1 rfl
    rw [wp_bind] at h
    refine ⟨.ref a, e2, .inl ⟨rfl, _, .of e3⟩, ?_⟩
    refine atE he r (wp_mono h (fun d hd v H1 F1 g1 r1 => ?_) fun x hx => hx)
    have fin : ∀ (F : FZ) (δ' : DSt), Rel X.K H0 Fz0 F H1 σ δ' → Rep X.K F H1 v d → (match δ'[i]? with
        | some (some (.own xs)) => if xs.length < sizeLine then (.ok (.nx (δ'.set i (some (.own (xs ++ [d]))))) : Res Out) else .bot
        | _ => .bot).wp (OOK X.K H0 Fz0 Dn) (XOK X.mg (W σ) H0 Fz0) → rAppend (.ref a) [v] H1 fun _ H2 => Dn.nx σ H2 := fun F δ' r' rv q => by
      split at q
      · rename_i xs e1'
        obtain ⟨a', k2, k4, k5, vs', k3, k6, k7⟩ := r'.own i _ e1' rfl
        rw [e2] at k2
        cases k2
        split at q
        · rename_i hz
          have l := k7.length
          exact ⟨a, vs', v, rfl, rfl, k3, by omega, q F _ σ (r'.write e1' rfl e2 fun H' st q => ⟨_, q, by rw [List.length_append, List.length_singleton]; omega, (k7.app (.cons rv .nil)).stay st fun _ h => h⟩)⟩
        · exact q.elim
      · exact q.elim
    by_cases hf : flat d = true
    · simp only [hf, if_true] at hd
      exact fin Fz δ (r.up g1.same) (r1.flat hf) hd
    · simp only [hf, if_false] at hd
      exact fin F1 _ (r.frz g1) r1 hd
  · exact h.elim
/-- a for loop -/
def forGo (p : Pat) (body : DSt → Res Out) : List PyData → DSt → Res Out
  | [], δ => .ok (.nx δ)
  | x :: r, δ => do
    let δ1 ← nE (bindP p x δ)
    match ← body δ1 with
    | .nx δ2 => forGo p body r δ2
    | .ct δ2 => forGo p body r δ2
    | .bk δ2 => .ok (.nx δ2)
    | .rt d => .ok (.rt d)
def forF (S : List Nat) (g : DSt → Res (List PyData)) (p : Pat) (body : DSt → Res Out) (δ : DSt) : Res Out := do
  let xs ← g δ
  forGo p body xs (freeze S 0 δ)
theorem freeze_nil : ∀ (δ : DSt) (k : Nat), freeze [] k δ = δ
  | [], _ => rfl
  | s :: r, k => by rw [freeze, freeze_nil r]; simp
/-- the part of the heap that stays through a loop -/
noncomputable def baseH (H0 : Hp) (Fz : FZ) (H : Hp) : Hp := fun a => open Classical in if H0 a ≠ none ∨ Fz a ∨ (∃ xs, H a = some (.tup xs)) ∨ (∃ u v, H a = some (.frz u v)) then H a else none
variable {K : PySem.W.Frag} {H0 H : Hp} {Fz0 Fz : FZ} {σ : L2.St} {δ : DSt}
theorem base_some {a : Addr} {o : HO} (h : H a = some o) (q : H0 a ≠ none ∨ Fz a ∨ (∃ xs, H a = some (.tup xs)) ∨ (∃ u v, H a = some (.frz u v))) : baseH H0 Fz H a = some o := by
  unfold baseH
  rw [if_pos q]
  exact h
theorem base_same0 (s : Same H0 H) : Same H0 (baseH H0 Fz H) := fun a o e => base_some (s a o e) (.inl (by rw [e]; exact fun h => by cases h))
theorem base_same : Same (baseH H0 Fz H) H := fun a o e => by
  unfold baseH at e
  split at e
  · exact e
  · cases e
theorem base_none {a : Addr} (s : Same H0 H) (h : baseH H0 Fz H a = none) : H0 a = none := none_of_same (base_same0 s) h
theorem Rel.rebase (r : Rel K H0 Fz0 Fz H σ δ) : Rel K (baseH H0 Fz H) Fz Fz H σ δ :=
  ⟨base_same, fun _ h => h, fun _ h => .inl h, r.live, r.len, r.val, (fun i s e ho => by
    obtain ⟨a, h1, h5, h6⟩ := r.ownF i s e ho
    refine ⟨a, h1, h5, fun x hx => ⟨?_, (h6 x hx).2⟩⟩
    obtain ⟨o, h2, m1, m2⟩ := h5.mutF hx
    unfold baseH
    rw [if_neg]
    rintro (h | h | ⟨_, h⟩ | ⟨_, _, h⟩)
    · exact h (h6 x hx).1
    · exact (h6 x hx).2 h
    · rw [h2] at h; exact m1 _ (Option.some.inj h)
    · rw [h2] at h; exact m2 _ _ (Option.some.inj h)), r.sepF⟩
theorem Rel.unbase {F' : FZ} {H' : Hp} {σ' : L2.St} {δ' : DSt} (r : Rel K H0 Fz0 Fz H σ δ) (q : Rel K (baseH H0 Fz H) Fz F' H' σ' δ') : Rel K H0 Fz0 F' H' σ' δ' :=
  ⟨fun a o e => q.same a o (base_same0 r.same a o e), fun a h => q.sub0 a (r.sub0 a h), fun a h => (q.new0 a h).elim (r.new0 a) fun z => .inr (base_none r.same z), q.live, q.len, q.val, fun i s e ho => by
    obtain ⟨a, h1, h3, h4⟩ := q.ownF i s e ho
    exact ⟨a, h1, h3, fun x hx => ⟨base_none r.same (h4 x hx).1, (h4 x hx).2⟩⟩, q.sepF⟩
theorem Rel.ungrow {F' : FZ} {H' : Hp} (r : Rel K H0 Fz0 Fz H σ δ) (q : Grow Fz (baseH H0 Fz H) F' H') : Grow Fz0 H0 F' H' :=
  ⟨fun a o e => q.same a o (base_same0 r.same a o e), fun a h => q.sub a (r.sub0 a h), fun a h => (q.new a h).elim (r.new0 a) fun z => .inr (base_none r.same z), fun _ => q.live fun a h => by
    obtain ⟨o, e⟩ : ∃ o, H a = some o := by
      cases z : H a with
      | none => exact absurd z (r.live a h)
      | some o => exact ⟨o, rfl⟩
    rw [base_some e (.inr (.inl h))]
    exact fun h => by cases h⟩
theorem SOK.rebase {mg : Str → Option Value} {x : Res Out} {Dn : Ends} (r : Rel K H0 Fz0 Fz H σ δ) (h : SOK K mg U H0 Fz0 x Dn) : SOK K mg U (baseH H0 Fz H) Fz x Dn := by
  refine wp_mono h (fun o ho => ?_) fun x hx c oe H' F' g q => hx c oe H' F' (r.ungrow g) q
  cases o with
  | nx δ' => exact fun F' H' σ' q => ho F' H' σ' (r.unbase q)
  | rt d => exact fun F' H' v g q => ho F' H' v (r.ungrow g) q
  | bk δ' => exact fun F' H' σ' q => ho F' H' σ' (r.unbase q)
  | ct δ' => exact fun F' H' σ' q => ho F' H' σ' (r.unbase q)
theorem base_stay {H' : Hp} (s : Same (baseH H0 Fz H) H') : Stay Fz H H' := fun a o e h => s a o (base_some e (by
  rcases h with h | ⟨xs, h⟩ | ⟨u, v, h⟩
  · exact .inr (.inl h)
  · exact .inr (.inr (.inl ⟨xs, h ▸ e⟩))
  · exact .inr (.inr (.inr ⟨u, v, h ▸ e⟩))))
theorem for_core {g : TG} {p : Pat} {body : DSt → Res Out} {tb : TS} {sts : List Stmt} (hg : DG X tg g p) (hb : DSs X (fun _ => U) sts tb body) {Dn : Ends} {J : It} {ds : List PyData}
    (sv : Serves X.K Fz H J ds) (r : Rel X.K H0 Fz0 Fz H σ δ) (h : SOK X.K X.mg U H0 Fz0 (forGo p body ds δ) Dn) :
    ∃ Wv : Nat → Nat → L2.St → Hp → Prop, (∃ m, Wv 0 m σ H) ∧ ∀ i m σ H, Wv i m σ H →
      (J.stop i H ∧ Dn.nx σ H) ∨ (J.go i H ∧ ∃ N : L2.St → Hp → Prop, (∀ σ' H', N σ' H' → ∃ m', m' < m ∧ Wv (i + 1) m' σ' H') ∧ ∀ x H', J.yld i H x H' → g x σ H' fun σ2 H2 => tb { Dn with nx := N, ct := N, bk := Dn.nx } σ2 H2) := by
  have h' := h.rebase r
  have r' := r.rebase
  clear h
  refine ⟨fun i m σ2 H2 => m = ds.length - i ∧ i ≤ ds.length ∧ ∃ F2 δ2, Rel X.K (baseH H0 Fz H) Fz F2 H2 σ2 δ2 ∧ SOK X.K X.mg U (baseH H0 Fz H) Fz (forGo p body (ds.drop i) δ2) Dn,
    ⟨ds.length, by omega, Nat.zero_le _, Fz, δ, r', h'⟩, ?_⟩
  rintro i m σ2 H2 ⟨rfl, hi, F2, δ2, r2, q2⟩
  have st : Stay Fz H H2 := base_stay r2.same
  by_cases hlt : i < ds.length
  · have hdd : ds.drop i = ds[i] :: ds.drop (i + 1) := List.drop_eq_getElem_cons hlt
    rw [hdd] at q2
    obtain ⟨go, yl⟩ := sv.item F2 H2 st r2.sub0 r2.live i ds[i] (List.getElem?_eq_getElem hlt)
    refine .inr ⟨go, fun σ' H' => ∃ F3 δ3, Rel X.K (baseH H0 Fz H) Fz F3 H' σ' δ3 ∧ SOK X.K X.mg U (baseH H0 Fz H) Fz (forGo p body (ds.drop (i + 1)) δ3) Dn,
      fun σ' H' hN => ⟨ds.length - (i + 1), by omega, rfl, hlt, hN⟩, fun x H3 hy => ?_⟩
    obtain ⟨F3, g3, r3⟩ := yl x H3 hy
    unfold SOK forGo at q2
    rw [wp_bind] at q2
    obtain ⟨δ1, hb1, q2⟩ := nEb q2
    have r4 : Rel X.K (baseH H0 Fz H) Fz F3 H3 σ2 δ2 := by
      have := r2.frz (S := []) (F1 := F3) ⟨g3.same, fun a h => h.elim (fun h => g3.sub a h) fun ⟨_, h, _⟩ => (by simp at h), fun a h => (g3.new a h).elim (fun z => .inl (.inl z)) .inr, fun _ => g3.live r2.live⟩
      rwa [freeze_nil] at this
    refine hg.ok F3 H3 _ x ds[i] σ2 δ2 _ Rel.setsVal r4 r3 ?_
    rw [hb1]
    intro σ5 r5
    rw [wp_bind] at q2
    refine hb.ok _ _ F3 H3 σ5 δ1 _ r5 (wp_mono q2 (fun o ho => ?_) fun x hx => hx)
    cases o with
    | nx δ' => exact fun F' H' σ' q => ⟨F', δ', q, ho⟩
    | rt d => exact ho
    | bk δ' => exact ho
    | ct δ' => exact fun F' H' σ' q => ⟨F', δ', q, ho⟩
  · have e : i = ds.length := by omega
    subst e
    rw [List.drop_length] at q2
    exact .inl ⟨sv.stop F2 H2 st r2.sub0 r2.live, q2 F2 H2 σ2 r2⟩
theorem ds_for {iter : Expr} {body : List Stmt} {wi : TI} {g : TG} {p : Pat} {tb : TS} {f : DSt → Res (List PyData)} {fb : DSt → Res Out} (hp : PassesOwn (model X.prog X.w) X.A X.env X.xe) (hc : X.calm = true) (hi : DI X (fun _ => U) S tg iter wi f) (hg : DG X tg g p) (hb : DSs X (fun _ => U) body tb fb)
    (hs : ∀ x, foldedSetIterable iter X.env x = pure x := by intro _; rfl) : DS X (fun _ => U) (.For tg iter body [] pos) (tFor wi g tb) (forF S f p fb) := by
  refine ⟨ps_for hp hc hi.pe hg.pe hb.pe hs, fun H0 Fz0 Fz H σ δ Dn r h => ?_⟩
  unfold SOK forF at h
  rw [wp_bind] at h
  refine hi.ok _ σ H δ _ r.rd r.ownLive (wp_mono h (fun ds hd J H1 F1 g1 sv => ?_) fun x hx c oe H1 F1 g q => hx c oe H1 F1 (r.grow0 g) q)
  exact for_core hg hb sv (r.frz g1) hd
/-- .. over a range: nothing is frozen -/
def forR (g : DSt → Res (List PyData)) (p : Pat) (body : DSt → Res Out) (δ : DSt) : Res Out := do
  let xs ← g δ
  forGo p body xs δ
theorem ds_forR {iter : Expr} {body : List Stmt} {wi : TI} {g : TG} {p : Pat} {tb : TS} {f : DSt → Res (List PyData)} {fb : DSt → Res Out} (hp : PassesOwn (model X.prog X.w) X.A X.env X.xe) (hc : X.calm = true) (hi : DR X (fun _ => U) S tg iter wi f) (hg : DG X tg g p) (hb : DSs X (fun _ => U) body tb fb)
    (hs : ∀ x, foldedSetIterable iter X.env x = pure x := by intro _; rfl) : DS X (fun _ => U) (.For tg iter body [] pos) (tFor wi g tb) (forR f p fb) := by
  refine ⟨ps_for hp hc hi.pe hg.pe hb.pe hs, fun H0 Fz0 Fz H σ δ Dn r h => ?_⟩
  unfold SOK forR at h
  rw [wp_bind] at h
  refine hi.ok _ σ H δ _ r.rd r.ownLive (wp_mono h (fun ds hd J H1 F1 g1 sv => ?_) fun x hx c oe H1 F1 g q => hx c oe H1 F1 (r.grow0 g) q)
  exact for_core hg hb (sv Fz H1) (r.up g1.same) hd
/-- a while loop, of at most n turns -/
def whileGo (c : DSt → Res Bool) (body : DSt → Res Out) : Nat → DSt → Res Out
  | 0, _ => .bot
  | n + 1, δ => do
    let b ← c δ
    if b then do
      match ← body δ with
      | .nx δ2 => whileGo c body n δ2
      | .ct δ2 => whileGo c body n δ2
      | .bk δ2 => .ok (.nx δ2)
      | .rt d => .ok (.rt d)
    else .ok (.nx δ)
theorem ds_while {c : Expr} {body : List Stmt} {tb : TS} {fc : DSt → Res Bool} {fb : DSt → Res Out} (fuel : DSt → Nat) (hp : PassesOwn (model X.prog X.w) X.A X.env X.xe) (hc : DT X (fun _ => U) S c tt fc) (hb : DSs X (fun _ => U) body tb fb) : DS X (fun _ => U) (.While c body [] pos) (tWhile tt tb) (fun δ => whileGo fc fb (fuel δ) δ) := by
  refine ⟨ps_while hp hc.pe hb.pe, fun H0 Fz0 Fz H σ δ Dn r h => ?_⟩
  refine ⟨fun m σ H => ∃ F δ, Rel X.K H0 Fz0 F H σ δ ∧ SOK X.K X.mg U H0 Fz0 (whileGo fc fb m δ) Dn, ⟨_, Fz, δ, r, h⟩, ?_⟩
  rintro m σ H ⟨F, δ, r, h⟩
  cases m with
  | zero => exact h.elim
  | succ m =>
    unfold SOK whileGo at h
    rw [wp_bind] at h
    refine atT hc r (wp_mono h (fun b hb' H1 r1 => ?_) fun x hx => hx)
    cases b with
    | false => exact hb' F H1 σ r1
    | true =>
      refine ⟨fun σ' H' => ∃ F δ, Rel X.K H0 Fz0 F H' σ' δ ∧ SOK X.K X.mg U H0 Fz0 (whileGo fc fb m δ) Dn, fun σ' H' q => ⟨m, Nat.lt_succ_self _, q⟩, ?_⟩
      have hb' : Res.wp (Res.bind (fb δ) _) _ _ := hb'
      have hb' := (wp_bind (fb δ) _ _ _).mp hb'
      refine hb.ok _ _ F H1 σ δ _ r1 (wp_mono hb' (fun o ho => ?_) fun x hx => hx)
      cases o with
      | nx δ' => exact fun F' H' σ' q => ⟨F', δ', q, ho⟩
      | rt d => exact ho
      | bk δ' => exact ho
      | ct δ' => exact fun F' H' σ' q => ⟨F', δ', q, ho⟩
end
end DL

set_option Elab.async false
set_option linter.all false
set_option maxRecDepth 100000
set_option maxHeartbeats 4000000
namespace DL
open PySem PySem.Spec L2
open PyProof.Rows hiding St

/-! ### the text's own functions -/
/-- the function x of n arguments, as a function of data -/
structure FD (P : Program) (w : World) (K : PySem.W.Frag) (mg : Str → Option Value) (base : Heap) (k n : Nat) (x : Str) (g : List PyData → Res PyData) : Prop where
  ex : ∃ (f : Addr) (fd : FuncData) (ps : List Str), FnOk P w K mg base CX0 k f fd ps (spD K mg n g) ∧ mg x = some (.ref f) ∧ PySem.W.keepIn K (.ref f) = true ∧ Binds K fd ps []
theorem FD.mono {P : Program} {w : World} {K : PySem.W.Frag} {mg : Str → Option Value} {base : Heap} {k j n : Nat} {x : Str} {g : List PyData → Res PyData} (h : FD P w K mg base k n x g) (hk : k ≤ j) : FD P w K mg base j n x g := by
  obtain ⟨f, fd, ps, F, h1, h2, h3⟩ := h.ex
  exact ⟨f, fd, ps, F.mono hk, h1, h2, h3⟩
theorem de_call {X : Cx} {W : WS} {S : List Nat} {pos : Pos} {k j n : Nat} {x : Str} {e : Expr} {es : List Expr} {t : TA} {p : Pos} {g : List PyData → Res PyData} {f : DSt → Res (List PyData)} (c : FD X.prog X.w X.K X.mg X.base k n x g) (hr : Room j X.A) (hk : k ≤ j) (hg : Gl X x) (hn : (e :: es).length = n) (ha : DA X W S (e :: es) t f)
    (hdb : (x == ("__debug__" : Str)) = false := by decide) (he : starEach (e :: es) X.env = (false, eval e X.env) :: starEach es X.env := by rfl) (hpl : (backTo pos (starEach es X.env)).any (·.1) = false := by rfl) :
    DE X W S (.Call (.Name x p) (e :: es) [] pos) (tCall (spD X.K X.mg n g) [] L2.E0 t) (fun δ => do let ds ← f δ; nE (g ds)) := by
  obtain ⟨fa, fd, ps, F, hm, kp, hb⟩ := c.ex
  refine ⟨pe_call F (hr.mono hk) hg hm kp hb .nil pass0 ha.pe hdb he hpl, fun Fz σ H δ Q hd hl hq => ?_⟩
  unfold EOK at hq
  rw [wp_bind] at hq
  refine ha.ok Fz σ H δ _ hd hl (wp_mono (wp_and_can hq) (fun ds ⟨hq, hcan⟩ vs H1 F1 g1 r1 => ?_) fun x hx => hx)
  refine ⟨ds, F1, (ha.len δ ds hcan).trans hn, g1.live hl, by rw [List.append_nil]; exact r1, ?_⟩
  exact wp_mono (nE_wpA hq) (fun d hq2 v H2 F2 g2 r2 => hq2 v H2 F2 (g1.trans g2) r2) fun _ h => h
/-- the state at the entry -/
def startD (n : Nat) (ds : List PyData) : DSt := ds.map (fun d => some (.val d)) ++ List.replicate (n - ds.length) none
/-- a body as a function -/
def fnK : Out → Res PyData
  | .rt d => .ok d
  | .nx _ => .ok .none
  | _ => .bot
def fnD (n : Nat) (g : DSt → Res Out) (ds : List PyData) : Res PyData := nE (g (startD n ds)) >>= fnK
theorem startD_get {n : Nat} {ds : List PyData} {i : Nat} {s : SV} (h : (startD n ds)[i]? = some (some s)) : ∃ d, s = .val d ∧ ds[i]? = some d := by
  unfold startD at h
  by_cases hi : i < ds.length
  · rw [List.getElem?_append_left (by rw [List.length_map]; exact hi), List.getElem?_map] at h
    rw [List.getElem?_eq_getElem hi] at h ⊢
    cases h
    exact ⟨_, rfl, rfl⟩
  · rw [List.getElem?_append_right (by rw [List.length_map]; omega)] at h
    obtain ⟨_, h⟩ := List.getElem?_eq_some_iff.mp h
    rw [List.getElem_replicate] at h
    cases h
theorem fn_of {P : Program} {w : World} {K : PySem.W.Frag} {mg : Str → Option Value} {base : Heap} {x : Str} {st : Stmt} {f : Addr} {fd : FuncData} {N ps : List Str} {k : Nat} (F : Fun K x x st f fd) (S : FnScope N ps (defScope st)) {g : DSt → Res Out}
    (hbody : ∀ (cdv : Value) (A : Around) (outer : List Env) (s : Shared) (H : Hp) (E : XK), Room k (A.deeper (envOfC x (defScope st) s.heap.objs.size f cdv)) →
      ∃ t, DSs (cxOf CX0 P w K mg base N x (defScope st) f cdv A outer s H E).nox (fun _ => E0) (defBody st) t g) : FnOk P w K mg base CX0 (k + 1) f fd ps (spD K mg ps.length (fnD N.length g)) := by
  refine F.ok S (fun vs H Q E h => spD_len h) (fun cdv A outer s H vs Q E hr h => ?_)
  obtain ⟨t, ht⟩ := hbody cdv A outer s H E hr
  refine ⟨t, ht.pe, ?_⟩
  obtain ⟨ds, Fz, hl, live, ra, q⟩ := h
  have lv := ra.length
  refine ht.ok H Fz Fz H (start N vs) (startD N.length ds) _ ⟨fun _ _ e => e, fun _ h => h, fun _ h => .inl h, live, ?_, fun i d e => ?_, fun i s e ho => ?_, fun i j s u a b x hij e o1 _ _ _ _ _ => ?_⟩ ?_
  · unfold L2.start startD
    rw [List.length_append, List.length_append, List.length_map, List.length_map, List.length_replicate, List.length_replicate, lv]
  · obtain ⟨d', h1, h2⟩ := startD_get e
    cases h1
    obtain ⟨v, h3, h4⟩ := ra.get h2
    refine ⟨v, ?_, h4⟩
    have hi : i < vs.length := (List.getElem?_eq_some_iff.mp h3).1
    unfold L2.start
    rw [List.getElem?_append_left (by rw [List.length_map]; exact hi), List.getElem?_map, h3]
    rfl
  · obtain ⟨d', h1, h2⟩ := startD_get e
    cases h1
    cases ho
  · obtain ⟨d', h1, h2⟩ := startD_get e
    cases h1
    cases o1
  · unfold fnD EOK at q
    rw [wp_bind] at q
    unfold SOK
    refine wp_mono (nE_wpA q) (fun o q => ?_) fun x h => h
    cases o with
    | nx δ' => exact fun F' H' σ' r => q .non H' F' ⟨r.same, r.sub0, r.new0, fun _ => r.live⟩ .non
    | rt d => exact fun F' H' v g r => q v H' F' g r
    | bk δ' => exact q.elim
    | ct δ' => exact q.elim
theorem fd_of {P : Program} {w : World} {K : PySem.W.Frag} {mg : Str → Option Value} {base : Heap} {x : Str} {st : Stmt} {f : Addr} {fd : FuncData} {N ps : List Str} {k : Nat} (F : Fun K x x st f fd) (hm : mg x = some (.ref f)) (b : Binds K fd ps []) (S : FnScope N ps (defScope st)) {g : DSt → Res Out}
    (hbody : ∀ (cdv : Value) (A : Around) (outer : List Env) (s : Shared) (H : Hp) (E : XK), Room k (A.deeper (envOfC x (defScope st) s.heap.objs.size f cdv)) →
      ∃ t, DSs (cxOf CX0 P w K mg base N x (defScope st) f cdv A outer s H E).nox (fun _ => E0) (defBody st) t g) : FD P w K mg base (k + 1) ps.length x (fnD N.length g) :=
  ⟨f, fd, ps, fn_of F S hbody, hm, F.kp, b⟩
section
variable {X : Cx} {W : WS} {U : XK} {S T : List Nat} {e a b c tg : Expr} {es tgs : List Expr} {pos p : Pos} {te ta tb : TE}
/-- x += e of whole numbers -/
theorem ds_augI {i : Nat} {x : Str} {pos' : Pos} {f : DSt → Res PyData} {op : Operator} {h : Int → Int → Int} (hN : X.N.Nodup) (hi : X.N[i]? = some x) (hx : L2.Loc X.env.scope x) (ho : PIp X op (ipI h)) (he : DE X W S e te f) (hf : X.fn x = true ∨ X.env.scope.names.lookup x = some .local := by first | exact .inl rfl | exact .inr rfl | assumption) :
    DS X W (.AugAssign (.Name x pos') op e pos) (tAug i te (ipI h)) (fun δ => do let x ← vr i δ; let y ← f δ; match x, y with | .int m, .int n => .ok (.nx (δ.set i (some (.val (.int (h m n)))))) | _, _ => .bot) := by
  refine ⟨ps_aug hN hi hx he.pe ho hf, fun H0 Fz0 Fz H σ δ Dn r q => ?_⟩
  unfold SOK at q
  rw [wp_bind] at q
  unfold vr at q
  split at q
  · rename_i s es
    rw [wp_ok, wp_bind] at q
    obtain ⟨v, e1, hv⟩ : ∃ v, σ[i]? = some (some v) ∧ ∀ m, s.d = .int m → v = .int m := by
      cases s with
      | own xs =>
        obtain ⟨a, h1, _⟩ := r.own i _ es rfl
        exact ⟨_, h1, fun m z => by cases z⟩
      | ownd t ks vs =>
        obtain ⟨a, h1, _⟩ := r.own i _ es rfl
        exact ⟨_, h1, fun m z => by cases z⟩
      | ins cn names fs =>
        obtain ⟨a, h1, _⟩ := r.own i _ es rfl
        exact ⟨_, h1, fun m z => by cases z⟩
      | val d =>
        obtain ⟨v, e1, e2⟩ := r.val i d es
        refine ⟨v, e1, fun m z => ?_⟩
        have z : d = .int m := z
        subst z
        cases e2
        rfl
    refine ⟨v, e1, ?_⟩
    refine atE he r (wp_mono q (fun y hy u H1 F1 g1 r1 => ?_) fun x hx => hx)
    cases hs : s.d with
    | int m =>
      rw [hs] at hy
      cases y with
      | int n =>
        cases r1
        exact ⟨m, n, hv m hs, rfl, hy Fz H1 _ ((r.up g1.same).setVal (.int _) i)⟩
      | _ => exact hy.elim
    | _ => rw [hs] at hy; cases y <;> exact hy.elim
  · exact q.elim
end
end DL

set_option Elab.async false
set_option linter.all false
set_option maxRecDepth 100000
set_option maxHeartbeats 4000000
namespace DL
open PySem PySem.Spec L2
open PyProof.Rows hiding St

/-! ### short words for what is printed -/
abbrev cN : DSt → Res PyData := fun _ => .ok .none
abbrev cB (b : Bool) : DSt → Res PyData := fun _ => .ok (.bool b)
abbrev cI (i : Int) : DSt → Res PyData := fun _ => .ok (.int i)
abbrev cS (x : Str) : DSt → Res PyData := fun _ => .ok (.str x)
abbrev b2 (g : PyData → PyData → Res PyData) (fa fb : DSt → Res PyData) : DSt → Res PyData := fun δ => do let x ← fa δ; let y ← fb δ; g x y
abbrev u1 (g : PyData → Res PyData) (f : DSt → Res PyData) : DSt → Res PyData := fun δ => do let x ← f δ; g x
abbrev u1A (g : List PyData → Res PyData) (f : DSt → Res (List PyData)) : DSt → Res PyData := fun δ => do let x ← f δ; g x
abbrev u1L (g : List PyData → Res (List PyData)) (f : DSt → Res (List PyData)) : DSt → Res (List PyData) := fun δ => do let x ← f δ; g x
abbrev u1LE (g : PyData → Res (List PyData)) (f : DSt → Res PyData) : DSt → Res (List PyData) := fun δ => do let x ← f δ; g x
abbrev andF (f g : DSt → Res PyData) : DSt → Res PyData := fun δ => do let x ← f δ; andV x (g δ)
abbrev orF (f g : DSt → Res PyData) : DSt → Res PyData := fun δ => do let x ← f δ; orV x (g δ)
abbrev ifE (h : DSt → Res Bool) (f g : DSt → Res PyData) : DSt → Res PyData := fun δ => do let x ← h δ; if x then f δ else g δ
abbrev aNil : DSt → Res (List PyData) := fun _ => .ok []
abbrev aCons (f : DSt → Res PyData) (g : DSt → Res (List PyData)) : DSt → Res (List PyData) := fun δ => do let x ← f δ; let xs ← g δ; .ok (x :: xs)
abbrev asL (f : DSt → Res (List PyData)) : DSt → Res PyData := fun δ => do let xs ← f δ; .ok (.list xs)
abbrev oN : DSt → Res (Option Int) := fun _ => .ok none
abbrev oS (f : DSt → Res PyData) : DSt → Res (Option Int) := fun δ => do let x ← f δ; asI x
abbrev slF (f : DSt → Res PyData) (fl fh : DSt → Res (Option Int)) : DSt → Res PyData := fun δ => do let x ← f δ; let l ← fl δ; let u ← fh δ; sliceD x l u
abbrev callF (g : List PyData → Res PyData) (f : DSt → Res (List PyData)) : DSt → Res PyData := fun δ => do let ds ← f δ; nE (g ds)
abbrev tB2 (g : PyData → PyData → Res PyData) (fa fb : DSt → Res PyData) : DSt → Res Bool := fun δ => do let z ← (do let x ← fa δ; let y ← fb δ; g x y); asB z
abbrev tTr (f : DSt → Res PyData) : DSt → Res Bool := fun δ => do let x ← f δ; truD x
abbrev tNt (f : DSt → Res Bool) : DSt → Res Bool := fun δ => do let x ← f δ; .ok (!x)
abbrev tAnd' (f g : DSt → Res Bool) : DSt → Res Bool := fun δ => do let x ← f δ; if x then g δ else .ok false
abbrev tOr' (f g : DSt → Res Bool) : DSt → Res Bool := fun δ => do let x ← f δ; if x then .ok true else g δ
abbrev tY : DSt → Res Bool := fun _ => .ok true
abbrev sNil : DSt → Res Out := fun δ => .ok (.nx δ)
abbrev sBk : DSt → Res Out := fun δ => .ok (.bk δ)
abbrev sCt : DSt → Res Out := fun δ => .ok (.ct δ)
abbrev sRtN : DSt → Res Out := fun _ => .ok (.rt .none)
abbrev sRt (f : DSt → Res PyData) : DSt → Res Out := fun δ => do let d ← f δ; .ok (.rt d)
abbrev sEx (f : DSt → Res PyData) : DSt → Res Out := fun δ => do let _ ← f δ; .ok (.nx δ)
def ifS (h : DSt → Res Bool) (f g : DSt → Res Out) : DSt → Res Out := fun δ => do let x ← h δ; if x then f δ else g δ
abbrev augF (h : Int → Int → Int) (i : Nat) (f : DSt → Res PyData) : DSt → Res Out := fun δ => do let x ← vr i δ; let y ← f δ; match x, y with | .int m, .int n => .ok (.nx (δ.set i (some (.val (.int (h m n)))))) | _, _ => .bot
abbrev whF (fuel : DSt → Nat) (c : DSt → Res Bool) (b : DSt → Res Out) : DSt → Res Out := fun δ => whileGo c b (fuel δ) δ
theorem hu64 {A : Around} {k : Nat} (hr : Room k A) : A.units + 64 < cLine := by have := hr.un; omega
theorem hu65 {A : Around} {k : Nat} (hr : Room k A) : A.units + 65 < cLine := by have := hr.un; omega
theorem hu66 {A : Around} {k : Nat} (hr : Room k A) : A.units + 130 < cLine := by have := hr.un; omega
section
variable {X : Cx} {W : WS} {U : XK} {S T U : List Nat} {e a b c : Expr} {pos : Pos} {te ta tb tc : TE} {r r' : R2}
theorem dv (i : Nat) {x : Str} (hN : X.N[i]? = some x := by rfl) (hv : Vis X.env.scope x := by first | exact .inl rfl | exact .inr (.inl rfl) | exact .inr (.inr rfl)) (hd : (x == ("__debug__" : Str)) = false := by decide) (hcd : (x == ("__classdict__" : Str)) = false := by decide) : DE X W [i] (.Name x pos) (tVar i) (vr i) := de_var hN hv hd hcd
/-! ### a < b < c -/
abbrev chF (g g' : PyData → PyData → Res PyData) (fa fb fc : DSt → Res PyData) : DSt → Res PyData := fun δ => do
  let x ← fa δ
  let y ← fb δ
  let z ← g x y
  andV z (do let w ← fc δ; g' y w)
theorem tChain_ok {op op' : Value → Value → Sem Value} {g g' : PyData → PyData → Res PyData} {fa fb fc : DSt → Res PyData} (ho : OpD X op r g) (hn : NoErr g) (ho' : OpD X op' r' g') (hn' : NoErr g') (ha : DE X W S a ta fa) (hb : DE X W T b tb fb) (hc : DE X W U c tc fc) :
    ∀ Fz σ H δ Q, RdOn X.K (S ++ (T ++ U)) Fz H σ δ → Live Fz H → EOK X.K X.mg (W σ) Fz H (chF g g' fa fb fc δ) Q → tChain r r' ta tb tc σ H Q := fun Fz σ H δ Q hd hl h => by
  unfold EOK at h
  rw [wp_bind] at h
  refine ha.ok Fz σ H δ _ hd.left hl (wp_mono h (fun x hx v H1 F1 g1 r1 => ?_) fun x hx => hx)
  rw [wp_bind] at hx
  refine hb.ok F1 σ H1 δ _ (hd.right.left.grow g1) (g1.live hl) (wp_mono hx (fun y hy u H2 F2 g2 r2 => ?_) fun x hx c oe H2 F2 g2 => hx c oe H2 F2 (g1.trans g2))
  have g12 := g1.trans g2
  rw [wp_bind] at hy
  refine ho.ok F2 H2 x y v u _ (g2.live (g1.live hl)) (r1.grow g2) r2 (wp_quiet (hn x y ⟨"", none⟩) (wp_mono hy (fun z hy v3 H3 F3 g3 r3 => ?_) fun x h => h))
  cases z with
  | bool k =>
    cases r3
    refine ⟨k, rfl, ?_⟩
    cases k with
    | false => exact hy _ H3 F3 (g12.trans g3) (.bl _)
    | true =>
      have g13 := g12.trans g3
      have hy : ((fc δ) >>= fun w => g' y w).wp _ _ := hy
      rw [wp_bind] at hy
      refine hc.ok F3 σ H3 δ _ (hd.right.right.grow g13) (g13.live hl) (wp_mono hy (fun w hw v4 H4 F4 g4 r4 => ?_) fun x hx c oe H4 F4 g4 => hx c oe H4 F4 (g13.trans g4))
      exact ho'.ok F4 H4 y w u v4 Q (g4.live (g13.live hl)) (r2.grow (g3.trans g4)) r4 (eok_weak (hn' y w) (g13.trans g4) hw)
  | _ => exact hy.elim
theorem de_chain {op op' : CmpOp} {g g' : PyData → PyData → Res PyData} {fa fb fc : DSt → Res PyData} (ho : OpD X (compareOp op) r g) (hn : NoErr g) (ho' : OpD X (compareOp op') r' g') (hn' : NoErr g') (ha : DE X W S a ta fa) (hb : DE X W T b tb fb) (hc : DE X W U c tc fc)
    (hm : lastMarks [op, op'] [b, c] = false := by with_unfolding_all rfl) : DE X W (S ++ (T ++ U)) (.Compare a [op, op'] [b, c] pos) (tChain r r' ta tb tc) (chF g g' fa fb fc) :=
  ⟨pe_chain ho.op ho'.op ha.pe hb.pe hc.pe hm, tChain_ok ho hn ho' hn' ha hb hc⟩
abbrev tCh (g g' : PyData → PyData → Res PyData) (fa fb fc : DSt → Res PyData) : DSt → Res Bool := fun δ => do let z ← chF g g' fa fb fc δ; asB z
theorem dt_chain {op op' : CmpOp} {g g' : PyData → PyData → Res PyData} {fa fb fc : DSt → Res PyData} (ho : OpD X (compareOp op) r g) (hn : NoErr g) (ho' : OpD X (compareOp op') r' g') (hn' : NoErr g') (ha : DE X W S a ta fa) (hb : DE X W T b tb fb) (hc : DE X W U c tc fc)
    (hm : lastMarks [op, op'] [b, c] = false := by with_unfolding_all rfl) : DT X W (S ++ (T ++ U)) (.Compare a [op, op'] [b, c] pos) (tTest (tChain r r' ta tb tc)) (tCh g g' fa fb fc) :=
  ⟨pt_chain ho.op ho'.op ha.pe hb.pe hc.pe hm, fun Fz σ H δ Q hd hl h => asB_ok (f := chF g g' fa fb fc) (tChain_ok ho hn ho' hn' ha hb hc Fz σ H δ · hd hl) h⟩
/-- a module's whole number -/
theorem de_gi {x : Str} {i : Int} (hg : Gl X x) (hm : ∃ t, X.mg x = some (.int i t)) (hd : (x == ("__debug__" : Str)) = false := by decide) : DE X W [] (.Name x pos) (tC (.int i)) (fun _ => .ok (.int i)) := by
  obtain ⟨t, hm⟩ := hm
  exact de_const (pe_glob hg hm ⟨t, rfl⟩ hd) fun _ _ _ => .int i
end
/-! ### the same where the written part is told (within a comprehension) -/
section
variable {X : Cx} {W : WS} {U : XK} {S T U : List Nat} {e a b c tg : Expr} {es tgs : List Expr} {pos p p2 tpos : Pos} {te ta tb tc : TE} {t : TA} {K : PySem.W.Frag} {mg : Str → Option Value} {kk : Nat}
theorem od_addK (K) (hK : X.K = K := by rfl) : OpD X (binaryOp .Add) (rAddD K) addD := by subst hK; exact od_add
theorem od_eqK (K) (hu : X.A.units + 64 < cLine) (hK : X.K = K := by rfl) : OpD X (compareOp .Eq) (rEqD K) eqD := by subst hK; exact od_eq hu
theorem od_neK (K) (hu : X.A.units + 64 < cLine) (hK : X.K = K := by rfl) : OpD X (compareOp .NotEq) (rNeD K) neD := by subst hK; exact od_ne hu
theorem od_ltK (K) (hu : X.A.units + 64 < cLine) (hK : X.K = K := by rfl) : OpD X (compareOp .Lt) (rCmpD K fun d e => PySem.W.dataLt d e) ltD := by subst hK; exact od_lt hu
theorem od_gtK (K) (hu : X.A.units + 64 < cLine) (hK : X.K = K := by rfl) : OpD X (compareOp .Gt) (rCmpD K fun d e => PySem.W.dataLt e d) gtD := by subst hK; exact od_gt hu
theorem od_leK (K) (hu : X.A.units + 64 < cLine) (hK : X.K = K := by rfl) : OpD X (compareOp .LtE) (rCmpD K fun d e => !PySem.W.dataLt e d) leD := by subst hK; exact od_le hu
theorem od_geK (K) (hu : X.A.units + 64 < cLine) (hK : X.K = K := by rfl) : OpD X (compareOp .GtE) (rCmpD K fun d e => !PySem.W.dataLt d e) geD := by subst hK; exact od_ge hu
theorem od_inK (K) (hu : X.A.units + 65 < cLine) (hK : X.K = K := by rfl) : OpD X (compareOp .In) (rInA K) inD := by subst hK; exact od_in hu
theorem od_ninK (K) (hu : X.A.units + 65 < cLine) (hK : X.K = K := by rfl) : OpD X (compareOp .NotIn) (rNinA K) ninD := by subst hK; exact od_nin hu
theorem cd_lenK (K) (hK : X.K = K := by rfl) : CallD X (.builtin "len") (fun xs H Q => ∃ x n, xs = [x] ∧ LenV K x H n ∧ Q (.int n) H) lenD := by subst hK; exact cd_len
theorem cd_allK (K) (hc : X.calm = true) (hK : X.K = K := by rfl) : CallD X (.builtin "all") (rAll K) allD := by subst hK; exact cd_all hc
theorem cd_anyK (K) (hc : X.calm = true) (hK : X.K = K := by rfl) : CallD X (.builtin "any") (rAny K) anyD := by subst hK; exact cd_any hc
theorem cd_tupleK (K) (hK : X.K = K := by rfl) : CallD X (.type "tuple") (rTupZ K) tupleD := by subst hK; exact cd_tuple
theorem cf_listK (K) (hK : X.K = K := by rfl) : CallF X (.type "list") (fun xs H Q => ∃ p ys, xs = [.ref p] ∧ (SqL K H p ys ∨ SqT K H p ys) ∧ ∀ l, H l = none → Q (.ref l) (upd H l (.lst ys))) listD := by subst hK; exact cf_list
theorem de_ixK (K) {fa fb : DSt → Res PyData} (hs : PlainIx b) (ha : DE X W S a ta fa) (hb : DE X W T b tb fb) (hK : X.K = K := by rfl) : DE X W (S ++ T) (.Subscript a b pos) (tOp (rIx K) ta tb) (b2 ixD fa fb) := by subst hK; exact de_ix hs ha hb
theorem de_sliceK (K) {lo hi : Option Expr} {tl th : TO} {f : DSt → Res PyData} {fl fh : DSt → Res (Option Int)} (ha : DE X W S a ta f) (hlo : DO X W T lo tl fl) (hhi : DO X W U hi th fh) (hK : X.K = K := by rfl) : DE X W (S ++ (T ++ U)) (.Subscript a (.Slice lo hi none p2) pos) (tSl (rSlAll K) ta tl th) (slF f fl fh) := by subst hK; exact de_slice ha hlo hhi
theorem de_isiK (K) {f : DSt → Res PyData} {T : String} {nm : Str} {p3 : Pos} (hg : Gl X "isinstance") (hm : X.mg "isinstance" = none) (hg2 : Gl X nm) (hm2 : X.mg nm = none) (hv : bootBuiltins nm = some (.type T)) (ha : DE X W S e te f) (hK : X.K = K := by rfl) (hn : nm ≠ "__name__" := by decide) (hdb : (nm == ("__debug__" : Str)) = false := by decide)
    (hs : starEach [e, .Name nm p3] X.env = (false, eval e X.env) :: starEach [.Name nm p3] X.env := by rfl) (hs2 : starEach [.Name nm p3] X.env = (false, eval (.Name nm p3) X.env) :: starEach [] X.env := by rfl) (hpl : (backTo pos (starEach [.Name nm p3] X.env)).any (·.1) = false := by rfl) :
    DE X W S (.Call (.Name "isinstance" p) [e, .Name nm p3] [] pos) (tCB (rIsi K) (tCons te (tCons (tC (.ty T)) tNil))) (u1 (isiD T) f) := by subst hK; exact de_isi hg hm hg2 hm2 hv ha hn hdb hs hs2 hpl
theorem dt_truthK (K) {f : DSt → Res PyData} (ha : DE X W S e te f) (hK : X.K = K := by rfl) (he : ∀ whole, PySem.isTrue e X.env whole = (do let v ← whole; standAt e.pos; holding [v] (truthy v)) := by intro _; rfl) : DT X W S e (fun σ H Q => te σ H fun x H' => ∃ k, TruV K x H' k ∧ Q k H') (tTr f) := by subst hK; exact dt_truth ha he
theorem de_callK (K) (mg) {k j n : Nat} {x : Str} {g : List PyData → Res PyData} {f : DSt → Res (List PyData)} (c : FD X.prog X.w K mg X.base k n x g) (hr : Room j X.A) (hk : k ≤ j) (hg : Gl X x) (hn : (e :: es).length = n) (ha : DA X W S (e :: es) t f) (hK : X.K = K := by rfl) (hM : X.mg = mg := by rfl)
    (hdb : (x == ("__debug__" : Str)) = false := by decide) (he : starEach (e :: es) X.env = (false, eval e X.env) :: starEach es X.env := by rfl) (hpl : (backTo pos (starEach es X.env)).any (·.1) = false := by rfl) :
    DE X W S (.Call (.Name x p) (e :: es) [] pos) (tCall (spD K mg n g) [] L2.E0 t) (callF g f) := by subst hK hM; exact de_call c hr hk hg hn ha hdb he hpl
theorem di_seqK (K) {f : DSt → Res PyData} (h : DE X W S e te f) (hK : X.K = K := by rfl) : DI X W S tg e (iSeq K te) (u1LE seqD f) := by subst hK; exact di_seq h
theorem di_enumK (K) {elts : List Expr} {f : DSt → Res (List PyData)} (hg : Gl X "enumerate") (hm : X.mg "enumerate" = none) (ha : DA X W S [e] t f) (hK : X.K = K := by rfl) (hs : starEach [e] X.env = [(false, eval e X.env)] := by rfl) :
    DI X W S (.Tuple elts kk tpos) (.Call (.Name "enumerate" p) [e] [] pos) (iEnumA K t) (u1L enumD f) := by subst hK; exact di_enum hg hm ha hs
theorem di_zipK (K) {elts : List Expr} {f : DSt → Res (List PyData)} {e2 : Expr} (hg : Gl X "zip") (hm : X.mg "zip" = none) (ha : DA X W S [e, e2] t f) (hK : X.K = K := by rfl)
    (hs : starEach [e, e2] X.env = (false, eval e X.env) :: starEach [e2] X.env := by rfl) (hpl : (backTo pos (starEach [e2] X.env)).any (·.1) = false := by rfl) :
    DI X W S (.Tuple elts kk tpos) (.Call (.Name "zip" p) [e, e2] [] pos) (RZ.iZipA K t) (u1L zipD f) := by subst hK; exact di_zip hg hm ha hs hpl
theorem dg_tupK (K) {is : List Nat} {g : TGs} {n : Nat} (hc : X.calm = true) (h : DGs X tgs g is) (hn : is.length = n) (hK : X.K = K := by rfl) (hlen : tgs.length = n := by rfl) (h2 : ∀ (pg : PGs X tgs g), PG X (.Tuple tgs kk pos) (gTup X.K n g) := by intro pg; exact pg_tup rfl pg) (h3 : ∀ (pg : PGs X tgs g), PG X (.Tuple tgs kk pos) (gUnl X.K n g) := by intro pg; exact pg_unl rfl pg) : DG X (.Tuple tgs kk pos) (gBoth K n g) (.tp is) := by subst hK; exact dg_tup hc h hn hlen h2 h3
theorem dg_nestK (K) {i : Nat} {x : Str} {js : List Nat} {g : TGs} {k1 k2 n : Nat} {p1 p2 : Pos} (hc : X.calm = true) (hN : X.N.Nodup) (hi : X.N[i]? = some x) (hx : L2.Loc X.env.scope x) (h : DGs X tgs g js) (hn : js.length = n) (hK : X.K = K := by rfl) (hlen : tgs.length = n := by rfl)
    (h2 : ∀ (pg : PGs X tgs g), PG X (.Tuple tgs k1 p2) (gTup X.K n g) := by intro pg; exact pg_tup rfl pg)
    (h3 : ∀ (pg : PGs X [.Name x p1, .Tuple tgs k1 p2] (gCons (gName i) (gCons (gTup X.K n g) gNil))), PG X (.Tuple [.Name x p1, .Tuple tgs k1 p2] k2 pos) (gTup X.K 2 (gCons (gName i) (gCons (gTup X.K n g) gNil))) := by intro pg; exact pg_tup rfl pg)
    (hf : X.fn x = true ∨ X.env.scope.names.lookup x = some .local := by first | exact .inl rfl | exact .inr rfl | assumption)
    (hs1 : (assignEach [.Tuple tgs k1 p2] X.env).map (·.2) = assign (.Tuple tgs k1 p2) X.env :: (assignEach [] X.env).map (·.2) := by rfl)
    (hs2 : (assignEach [.Name x p1, .Tuple tgs k1 p2] X.env).map (·.2) = assign (.Name x p1) X.env :: (assignEach [.Tuple tgs k1 p2] X.env).map (·.2) := by rfl) :
    DG X (.Tuple [.Name x p1, .Tuple tgs k1 p2] k2 pos) (gTup K 2 (gCons (gName i) (gCons (gTup K n g) gNil))) (.tq i js) := by subst hK; exact dg_nest hc hN hi hx h hn hlen h2 h3 hf hs1 hs2
end
structure TxtF (K : PySem.W.Frag) (mg : Str → Option Value) (x : Str) (st : Stmt) (ps : List Str) : Prop where
  ex : ∃ f fd, Fun K x x st f fd ∧ mg x = some (.ref f) ∧ Binds K fd ps []
end DL
/-! ### the law -/
namespace Law
open PySem PySem.Spec L2 DL
open PyProof.Rows hiding St
def spLaw (K : PySem.W.Frag) : Sp := fun vs H Q _ => ∃ (a : Addr) (ns : List Int), vs = [.ref a] ∧ Only H ∧ SqL K H a (ns.map V.int) ∧ ns.length ≤ 63 ∧ ∀ H', Q (.bl true) H'
theorem rep_ints {K : PySem.W.Frag} {Fz : FZ} {H : Hp} : ∀ ns : List Int, RepAll K Fz H (ns.map V.int) (ns.map PyData.int)
  | [] => .nil
  | n :: ns => .cons (.int n) (rep_ints ns)
theorem law_ok {P : Program} {w : World} {K : PySem.W.Frag} {mg : Str → Option Value} {base : Heap} {f : Addr} {fd : FuncData} {k : Nat} {x : Str} {g : List PyData → Res PyData} (c : FnOk P w K mg base CX0 k f fd [x] (spD K mg 1 g))
    (h : ∀ ns : List Int, ns.length ≤ 63 → g [.list (ns.map .int)] = .ok (.bool true)) : FnOk P w K mg base CX0 k f fd [x] (spLaw K) :=
  c.imp fun vs H Q E ⟨a, ns, e, hO, hS, hl, q⟩ => by
    subst e
    refine ⟨[.list (ns.map .int)], fun _ => False, rfl, fun _ z => z.elim, .cons (.lst (xs := ns.map V.int) ?_ ?_ (rep_ints ns)) .nil, ?_⟩
    · rcases hS with (hS | hS) | hS
      · rcases hO a with z | ⟨o, xs, z⟩
        · rw [z] at hS; cases hS
        · rw [z] at hS; cases hS
      · exact .inr (.inl hS)
      · exact .inr (.inr hS)
    · rw [List.length_map, sizeLine_eq]
      omega
    · rw [h ns hl]
      intro v H' F' g' r
      cases r
      exact q H'
end Law

set_option Elab.async false
set_option linter.all false
set_option maxRecDepth 100000
set_option maxHeartbeats 4000000
namespace DL
open PySem PySem.Spec L2
open PyProof.Rows hiding St

/-! ### sorting tuples some of which are empty -/
theorem call_tuple_lt {prog : Program} {w : World} {A : Around} {s : Shared} {E : Value → Shared → Prop} {Q : Value → Shared → Prop} {l b : Addr} {items items2 : Array Value} {e r : Nat → Bool} (hl : s.heap.IsTuple l items) (hb : s.heap.IsTuple b items2)
    (he : ∀ j (h1 : j < items.size) (h2 : j < items2.size), SeqAt.EqAt A.in1 s items[j] items2[j] (e j)) (hr : ∀ j (h1 : j < items.size) (h2 : j < items2.size), e j = false → SeqAt.RcLt A.in1 s items[j] items2[j] (r j))
    (h : Q (.bool (SeqAt.firstLt e r (decide (items.size < items2.size)) (List.range (min items.size items2.size)))) s) : wpAny (model prog w) A (call (.builtin "tuple.__lt__") [.ref l, .ref b]) Q E s := by
  obtain ⟨⟨cls, dd, data, sl⟩, ho, hc, n, hd⟩ := id hl
  obtain ⟨⟨cls2, dd2, data2, sl2⟩, ho2, hc2, n2, hd2⟩ := id hb
  simp only at hc hd hc2 hd2
  subst hc hd hc2 hd2
  exact call_meets F.slot_tuple_lt ⟨_, ho, rfl⟩ F.entry_tuple_lt (F.args_tuple_lt_2 _ _) (SeqAt.tuple_ltAt l b items items2 n n2 dd dd2 sl sl2 e r) ⟨ho, ho2, he, hr, h⟩
section
variable {prog : Program} {w : World} {A : Around} {E : Value → Shared → Prop} {s : Shared}
theorem oneLt_tuples {xs ys : List PyData} {a b : Value} {as bs : List Addr} {Q : Bool → Shared → Prop} (ra : Reads s.heap a (.tuple xs) as) (rb : Reads s.heap b (.tuple ys) bs) (h : PySem.W.alike (.tuple xs) (.tuple ys) = true)
    (hu : A.units + min (PyData.tuple xs).depth (PyData.tuple ys).depth < cLine) (hq : Q (PySem.W.dataLt (.tuple xs) (.tuple ys)) s) : wpAny (model prog w) A (oneLt' true a b) Q E s := by
  have hal : PySem.W.alikeAll xs ys = true := by simpa [PySem.W.alike] using h
  cases ra with
  | @tuple l o vs n _ as₁ h1 h2 h3 h4 =>
    cases rb with
    | @tuple l' o' vs' n' _ bs₁ k1 k2 k3 k4 =>
      have n1 : vs.size = xs.length := by simpa using SeqAt.ReadsAll.length _ _ _ h4
      have n2 : vs'.size = ys.length := by simpa using SeqAt.ReadsAll.length _ _ _ k4
      rw [PySem.W.dataLt_tuple, ← PySem.W.firstLt_toks xs ys hal, ← n1, ← n2] at hq
      rw [oneLt'_eq]
      simp only [if_true]
      refine wpAny_bind (wpAny_cRoomFor (SeqAt.room_here hu) ?_)
      refine wpAny_bind (wpAny_callSpecialIfBound?_slot (T := "tuple") ⟨_, h1, h2⟩ F.slot_tuple_lt (call_tuple_lt (e := SeqAt.pairEq xs ys) (r := fun j => PySem.W.dataLt (xs.getD j .none) (ys.getD j .none)) ⟨_, h1, h2, _, h3⟩ ⟨_, k1, k2, _, k3⟩ (fun j j1 j2 => ?_) (fun j j1 j2 hj => ?_) ?_))
      · have := PySem.W.eqAt_alikeAll xs ys A.in1 s vs.toList vs'.toList _ _ h4 k4 hal (SeqAt.room_in hu) j (by simpa using j1) (by simpa using j2)
        simpa using this
      · have := PySem.W.rcLt_alikeAll xs ys A.in1 s vs.toList vs'.toList _ _ h4 k4 hal (SeqAt.room_in hu) j (by simpa using j1) (by simpa using j2) hj
        simpa using this
      · exact wpAny_truthy_bool hq
theorem keyLt'_general (x y : Value) : keyLt' general' x y = oneLt' false x y := rfl
theorem keyKind_eqM (keys : Array Value) : keyKind' keys = (do
    let firsts ← keys.mapM firstOfTuple'
    if firsts.all (·.isSome) then do
      rule "list.sort.keys-are-tuples"
      return tuples' ((← oneTypeOnly' (firsts.filterMap _root_.id)).any (· != .type "tuple"))
    else if (firsts[0]?.bind _root_.id).isSome then return general'
    else return if (← oneTypeOnly' keys).isSome then oneType' else general') := rfl
/-- the first items, where there is one -/
theorem firsts_mixed {M : Model} : ∀ {vs : List Value} {ds : List PyData} {Q : List (Option Value) → Shared → Prop}, PySem.W.EachIs (fun v d => ∃ as, Reads s.heap v d as) vs ds → (∀ d ∈ ds, ∃ xs, d = .tuple xs) →
    (∀ fs : List (Option Value), fs.map (·.isSome) = ds.map (fun d => match d with | .tuple (_ :: _) => true | _ => false) → Q fs s) → wpAny M A (vs.mapM firstOfTuple') Q E s
  | _, _, Q, .nil, _, h => by rw [List.mapM_nil]; exact wpAny_pure (h [] rfl)
  | v :: vs, d :: ds, Q, .cons ⟨as, r⟩ t, ht, h => by
    obtain ⟨xs, rfl⟩ := ht d List.mem_cons_self
    rw [List.mapM_cons]
    refine wpAny_bind ?_
    rw [PySem.W.kas_first_eq]
    cases r with
    | @tuple a o ws n _ _ ho hc hd hr =>
      refine wpAny_bind (PySem.W.Looks.here (show PySem.W.Looks M s.heap (typeOf (.ref a)) o.cls from (PySem.W.Looks.ld ho).andThen .now) ?_)
      rw [hc, if_neg (by first | decide | simp)]
      refine wpAny_bind (listItems_at ho hd (wpAny_pure ?_))
      refine wpAny_bind (firsts_mixed (vs := vs) (ds := ds) t (fun d hd => ht d (List.mem_cons_of_mem _ hd)) fun fs hfs => wpAny_pure (h _ ?_))
      rw [List.map_cons, List.map_cons, hfs]
      congr 1
      cases xs with
      | nil =>
        cases hz : ws.toList with
        | nil =>
          have : ws[0]? = none := by rw [← Array.getElem?_toList, hz]; rfl
          rw [this]
          rfl
        | cons _ _ => rw [hz] at hr; cases hr
      | cons y ys =>
        cases hz : ws.toList with
        | nil => rw [hz] at hr; cases hr
        | cons z zs =>
          have : ws[0]? = some z := by rw [← Array.getElem?_toList, hz]; rfl
          rw [this]
          rfl
theorem SortsAt_mixed {vs : List Value} {ds : List PyData} (e : PySem.W.EachIs (fun v d => ∃ as, Reads s.heap v d as) vs ds) (hal : PySem.W.AllAlike ds) (ht : ∀ d ∈ ds, ∃ xs, d = .tuple xs) (he : .tuple [] ∈ ds) (hu : ∀ d, d ∈ ds → A.units + d.depth < cLine) : PySem.W.SortsAt prog w A s (PySem.W.dataKind s.heap ds) vs := by
  have room : ∀ {d d' : PyData}, d ∈ ds → A.units + min d.depth d'.depth < cLine := fun {d d'} hd => Nat.lt_of_le_of_lt (Nat.add_le_add_left (Nat.min_le_left _ _) _) (hu d hd)
  refine ⟨fun v hv => ?_, ?_⟩
  · obtain ⟨d, hd, as, r⟩ := e.left v hv
    exact ⟨_, PySem.W.dataKind_some hal hd r⟩
  have lt : ∀ (f : Bool) (kd : SortKind), (∀ x y, keyLt' kd x y = oneLt' f x y) → H.LtAt prog w A s (PySem.W.dataKind s.heap ds) kd := fun f kd hk E x y a b Q ha hb hq => by
    obtain ⟨d, as, hd, ra, rfl⟩ := PySem.W.dataKind_inv ha
    obtain ⟨d', as', hd', rb, rfl⟩ := PySem.W.dataKind_inv hb
    rw [hk]
    obtain ⟨xs, rfl⟩ := ht d hd
    obtain ⟨ys, rfl⟩ := ht d' hd'
    cases f with
    | true => exact oneLt_tuples ra rb (hal _ hd _ hd') (room hd) hq
    | false => exact PySem.W.oneLt_alike (fun z => by cases z) ra rb (hal _ hd _ hd') (fun z => by cases z) (room hd) hq
  cases ds with
  | nil => cases he
  | cons d₀ ds₀ =>
    obtain ⟨x₀, e₀⟩ := ht d₀ List.mem_cons_self
    have notall : ∀ fs : List (Option Value), fs.map (·.isSome) = (d₀ :: ds₀).map (fun d => match d with | .tuple (_ :: _) => true | _ => false) → ¬ (fs.toArray.all (·.isSome)) = true := fun fs hfs z => by
      have z : fs.all (·.isSome) = true := by simpa using z
      have hm : false ∈ (d₀ :: ds₀).map (fun d => match d with | .tuple (_ :: _) => true | _ => false) := List.mem_map.mpr ⟨_, he, rfl⟩
      rw [← hfs] at hm
      obtain ⟨f, hf, q⟩ := List.mem_map.mp hm
      have := List.all_eq_true.mp z f hf
      rw [q] at this
      cases this
    cases x₀ with
    | cons y ys =>
      subst e₀
      refine ⟨general', lt false _ fun x y => keyLt'_general x y, fun h2 E Q hq => ?_⟩
      rw [keyKind_eqM, List.mapM_toArray, map_eq_pure_bind]
      refine wpAny_bind (wpAny_bind (firsts_mixed e ht fun fs hfs => wpAny_pure ?_))
      rw [if_neg (notall fs hfs)]
      cases fs with
      | nil => cases hfs
      | cons f fs =>
        rw [List.map_cons, List.map_cons] at hfs
        injection hfs with hf _
        have hf : f.isSome = true := hf
        rw [if_pos (show (((f :: fs).toArray[0]?).bind _root_.id).isSome = true by simpa using hf)]
        exact wpAny_pure hq
    | nil =>
      subst e₀
      refine ⟨oneType', lt true _ fun x y => keyLt'_oneType x y, fun h2 E Q hq => ?_⟩
      rw [keyKind_eqM, List.mapM_toArray, map_eq_pure_bind]
      refine wpAny_bind (wpAny_bind (firsts_mixed e ht fun fs hfs => wpAny_pure ?_))
      rw [if_neg (notall fs hfs)]
      cases fs with
      | nil => cases hfs
      | cons f fs =>
        rw [List.map_cons, List.map_cons] at hfs
        injection hfs with hf _
        have hf : f.isSome = false := hf
        rw [if_neg (show ¬ (((f :: fs).toArray[0]?).bind _root_.id).isSome = true by simpa using hf)]
        rw [oneTypeOnly'_eq, List.mapM_toArray, map_eq_pure_bind]
        refine wpAny_bind (wpAny_bind (wpAny_bind (PySem.W.kas_mapM (r := Value.type "tuple") _ (fun v hv Q' hq => ?_) (wpAny_pure ?_))))
        · obtain ⟨d, hd, as, r⟩ := e.left v hv
          obtain ⟨xs, rfl⟩ := ht d hd
          exact (PySem.W.looks_reads r).here hq
        · obtain ⟨v, vs', rfl⟩ : ∃ v vs', vs = v :: vs' := by
            cases e with
            | cons _ _ => exact ⟨_, _, rfl⟩
          have hall : ((List.map (fun _ => Value.type "tuple") (v :: vs')).toArray.all fun x => x == Value.type "tuple") = true := by
            simp only [List.all_toArray, List.all_map, List.all_eq_true]
            intro _ _
            rfl
          have h0 : (List.map (fun _ => Value.type "tuple") (v :: vs')).toArray[0]? = some (Value.type "tuple") := by simp
          rw [h0]
          simp only [hall, if_true]
          exact wpAny_pure (wpAny_pure hq)
end
/-- what can be sorted: all alike; tuples, or nothing of tuples and None -/
def isTup : PyData → Bool | .tuple _ => true | _ => false
def isNon : PyData → Bool | .none => true | _ => false
def sortOk (ds : List PyData) : Bool := ds.all (fun d => ds.all fun d' => PySem.W.alike d d') && (ds.all isTup || ds.all fun d => !isTup d && !isNon d) && ds.all (fun d => decide (d.depth ≤ 64)) && ds.all nodc
theorem sorts_any {prog : Program} {w : World} {A : Around} {s : Shared} {vs : List Value} {ds : List PyData} (e : PySem.W.EachIs (fun v d => ∃ as, Reads s.heap v d as) vs ds) (hk : sortOk ds = true) (hu : A.units + 64 < cLine) : PySem.W.SortsAt prog w A s (PySem.W.dataKind s.heap ds) vs := by
  unfold sortOk at hk
  rw [Bool.and_eq_true, Bool.and_eq_true, Bool.and_eq_true, Bool.or_eq_true, List.all_eq_true, List.all_eq_true, List.all_eq_true, List.all_eq_true] at hk
  obtain ⟨⟨⟨h1, h2⟩, h3⟩, _⟩ := hk
  have hal : PySem.W.AllAlike ds := fun d hd d' hd' => List.all_eq_true.mp (h1 d hd) d' hd'
  have hu' : ∀ d, d ∈ ds → A.units + d.depth < cLine := fun d hd => by
    have := of_decide_eq_true (h3 d hd)
    omega
  rcases h2 with h2 | h2
  · have ht : ∀ d ∈ ds, ∃ xs, d = .tuple xs := fun d hd => by
      have := h2 d hd
      cases d with
      | tuple xs => exact ⟨xs, rfl⟩
      | _ => cases this
    by_cases hm : ∀ d ∈ ds, ∃ x r, d = .tuple (x :: r)
    · exact .data e hal (.inl hm) hu'
    · refine SortsAt_mixed e hal ht ?_ hu'
      apply Classical.byContradiction
      intro hn
      refine hm fun d hd => ?_
      obtain ⟨xs, rfl⟩ := ht d hd
      cases xs with
      | nil => exact absurd hd hn
      | cons x r => exact ⟨x, r, rfl⟩
  · refine .data e hal (.inr fun d hd => ?_) hu'
    have := h2 d hd
    cases d with
    | tuple xs => cases this
    | none => cases this
    | _ => exact ⟨(fun z => by cases z), (fun xs z => by cases z)⟩

/-! ### sorted(xs) -/
/-- the sorted data -/
def sortL (ds : List PyData) : List PyData := ds.mergeSort (PySem.W.dataLe false _root_.id)
theorem zip_rep {K : PySem.W.Frag} {Fz : FZ} {H : Hp} : ∀ {vs : List V} {ds : List PyData}, RepAll K Fz H vs ds → ∀ p ∈ vs.zip ds, Rep K Fz H p.1 p.2
  | _, _, .nil, _, h => by simp at h
  | _, _, .cons h r, p, hp => by
    rw [List.zip_cons_cons] at hp
    rcases List.mem_cons.mp hp with rfl | hp
    · exact h
    · exact zip_rep r p hp
theorem rep_of_zip {K : PySem.W.Frag} {Fz : FZ} {H : Hp} : ∀ {ps : List (V × PyData)}, (∀ p ∈ ps, Rep K Fz H p.1 p.2) → RepAll K Fz H (ps.map (·.1)) (ps.map (·.2))
  | [], _ => .nil
  | p :: ps, h => .cons (h p List.mem_cons_self) (rep_of_zip fun q hq => h q (List.mem_cons_of_mem _ hq))
theorem zip_snd {K : PySem.W.Frag} {Fz : FZ} {H : Hp} : ∀ {vs : List V} {ds : List PyData}, RepAll K Fz H vs ds → (vs.zip ds).map (·.2) = ds
  | _, _, .nil => rfl
  | _, _, .cons h r => by rw [List.zip_cons_cons, List.map_cons, zip_snd r]
theorem each_zip {R : V → Value → Prop} : ∀ {vs : List V} {us : List Value} {ds : List PyData}, Paired R vs us → vs.length = ds.length → PySem.W.EachIs (fun (v : Value) (b : V × PyData) => R b.1 v) us (vs.zip ds)
  | _, _, [], .nil, _ => .nil
  | _, _, d :: ds, .cons r t, h => .cons r (each_zip t (by simpa using h))
  | _, _, _ :: _, .nil, h => by simp at h
  | _, _, [], .cons _ _, h => by simp at h
theorem vals_of_each : ∀ {us : List Value} {ps : List (V × PyData)}, PySem.W.EachIs (fun (v : Value) (b : V × PyData) => RelV b.1 v) us ps → Vals (ps.map (·.1)) us
  | _, _, .nil => .nil
  | _, _, .cons r t => .cons r (vals_of_each t)
theorem each_reads {X : Cx} {pins : List (Addr × Obj)} {σ : L2.St} {H : Hp} {s : Shared} (I : Inv X pins σ H s) : ∀ {vs : List V} {us : List Value} {ds : List PyData}, Vals vs us → DpAll X.K H vs ds → PySem.W.EachIs (fun (v : Value) (b : V × PyData) => ∃ as, Reads s.heap v b.2 as) us (vs.zip ds)
  | _, _, _, .nil, .nil => .nil
  | _, _, _, .cons r t, .cons h q => .cons (Dp.reads I _ _ _ h r) (each_reads I t q)
theorem mergeSort_snd (ps : List (V × PyData)) : (ps.mergeSort (PySem.W.dataLe false (·.2))).map (·.2) = sortL (ps.map (·.2)) := by
  unfold sortL
  rw [List.map_mergeSort]
  intro a _ b _
  rfl
section
variable {X : Cx} {W : WS} {U : XK} {S T : List Nat} {e a b c : Expr} {es : List Expr} {pos p : Pos} {te ta tb : TE} {t : TA}
/-- the items xs, which lie as ds, in their order in a new list -/
def rSortV (K : PySem.W.Frag) (ok : Addr → List V → Hp → Prop) : List V → Hp → VK → Prop := fun vs H Q => ∃ (a : Addr) (xs : List V) (ds : List PyData), vs = [V.ref a] ∧ ok a xs H ∧ DpAll K H xs ds ∧ sortOk ds = true ∧ xs.length ≤ sizeLine ∧
  ∀ l, H l = none → Q (.ref l) (upd H l (.lst (((xs.zip ds).mergeSort (PySem.W.dataLe false (·.2))).map (·.1))))
theorem dp_len {K : PySem.W.Frag} {H : Hp} : ∀ {vs : List V} {ds : List PyData}, DpAll K H vs ds → vs.length = ds.length
  | _, _, .nil => rfl
  | _, _, .cons _ r => by rw [List.length_cons, List.length_cons, dp_len r]
theorem cr_sortedV (hu : X.A.units + 130 < cLine) : CallR X (.builtin "sorted") (rSortV X.K fun a xs H => SqL X.K H a xs) := by
  intro pins s σ H vs us Q I r h
  obtain ⟨a, xs, ds, rfl, hs, hd, hk, hz, q⟩ := h
  obtain ⟨its, rv, hl, _⟩ := I.list hs
  rw [Vals.ref1 r]
  have hlen : xs.length = ds.length := dp_len hd
  have er := each_reads I rv hd
  have e := each_zip (R := RelV) rv hlen
  have hal : PySem.W.AllAlike ((xs.zip ds).map (·.2)) := by
    rw [show (xs.zip ds).map (·.2) = ds by rw [List.map_snd_zip]; omega]
    unfold sortOk at hk
    rw [Bool.and_eq_true, Bool.and_eq_true, Bool.and_eq_true, List.all_eq_true] at hk
    exact fun d hd d' hd' => List.all_eq_true.mp (hk.1.1.1 d hd) d' hd'
  have hsnd : (xs.zip ds).map (·.2) = ds := by rw [List.map_snd_zip]; omega
  have er' : PySem.W.EachIs (fun v (b : V × PyData) => ∃ as, Reads (PySem.W.sortingHeap (PySem.W.copyHeap s.heap its) (s.heap.objs.size + 1) its) v b.2 as) its (xs.zip ds) := er.mono fun _ _ ⟨as, r⟩ => ⟨as, PyProof.Rows.Reads.keeps (fun _ _ => PySem.W.sorting_copy_old) r⟩
  have S : PySem.W.SortsAt X.prog X.w X.A.in1.in1 { s with heap := PySem.W.sortingHeap (PySem.W.copyHeap s.heap its) (s.heap.objs.size + 1) its } (PySem.W.dataKind (PySem.W.sortingHeap (PySem.W.copyHeap s.heap its) (s.heap.objs.size + 1) its) ((xs.zip ds).map (·.2))) its :=
    sorts_any (s := { s with heap := PySem.W.sortingHeap (PySem.W.copyHeap s.heap its) (s.heap.objs.size + 1) its }) (PySem.W.each_map (R := fun v d => ∃ as, Reads (PySem.W.sortingHeap (PySem.W.copyHeap s.heap its) (s.heap.objs.size + 1) its) v d as) (fun b : V × PyData => b.2) er') (by rw [hsnd]; exact hk) (by show X.A.units + 1 + 1 + 64 < _; omega)
  refine PySem.W.sorted_vals hl.isList S (by rw [← rv.length]; exact hz) ?_
  have ho := PySem.W.sortVals_data (h' := PySem.W.sortingHeap (PySem.W.copyHeap s.heap its) (s.heap.objs.size + 1) its) false e er' hal
  have hv := vals_of_each ho
  obtain ⟨ep, he'⟩ := PyProof.Rows.sortedAll_at s.heap its (List.toArray (PySem.W.sortVals (PySem.W.dataKind (PySem.W.sortingHeap (PySem.W.copyHeap s.heap its) (s.heap.objs.size + 1) its) ((xs.zip ds).map (·.2))) false its its))
  have hlen2 : (((xs.zip ds).mergeSort (PySem.W.dataLe false (·.2))).map (·.1)).length ≤ sizeLine := by
    rw [List.length_map, List.length_mergeSort, List.length_zip, ← hlen, Nat.min_self]
    exact hz
  exact ⟨.ref _, upd H (s.heap.objs.size + 1) (.lst _), I.laid (t' := s.toks) (fun _ _ => PyProof.Rows.sortedAll_old) (Nat.le_succ _) ⟨hlen2, _, ep, hv, he'⟩, rfl, q _ (I.hok.fresh (Nat.le_succ _))⟩
def sortedD (ds : List PyData) : Res (List PyData) := match ds with | [.list xs] => if sortOk xs then .ok (sortL xs) else .bot | _ => .bot
theorem nodcAll_all : ∀ {ds : List PyData}, ds.all nodc = true → nodcAll ds = true
  | [], _ => rfl
  | d :: ds, h => by
    rw [List.all_cons, Bool.and_eq_true] at h
    rw [nodcAll, h.1, nodcAll_all h.2]
    rfl
theorem sortOk_nd {ds : List PyData} (h : sortOk ds = true) : nodcAll ds = true := by
  unfold sortOk at h
  rw [Bool.and_eq_true] at h
  exact nodcAll_all h.2
theorem sortL_len (xs : List PyData) : (sortL xs).length = xs.length := List.length_mergeSort _
theorem cf_sorted (hu : X.A.units + 130 < cLine) : CallF X (.builtin "sorted") (rSortV X.K fun a xs H => SqL X.K H a xs) sortedD := by
  refine ⟨cr_sortedV hu, fun Fz H ds vs Q hl r q => ?_, fun ds z => by
    unfold sortedD
    split
    · split <;> exact True.intro
    · exact True.intro⟩
  unfold sortedD at q
  split at q
  · split at q
    · rename_i xs hk
      cases r with
      | cons h r =>
        cases r
        cases h with
        | lst h z rr =>
          refine ⟨_, _, _, rfl, h.sq, rr.dp (sortOk_nd hk), hk, by rw [rr.length]; exact z, fun l nl => ?_⟩
          refine q l _ _ Fz (.nw nl) nl (notFz (H' := H) .refl hl nl) upd_same (by rw [sortL_len]; exact z) (RepAll.grow (.nw nl) ?_)
          have hh := rep_of_zip (ps := ((_ : List V).zip xs).mergeSort (PySem.W.dataLe false (fun p : V × PyData => p.2))) (fun p hp => zip_rep rr p ((List.mergeSort_perm _ _).mem_iff.mp hp))
          rw [mergeSort_snd, zip_snd rr] at hh
          exact hh
    · exact q.elim
  · exact q.elim
theorem cf_sortedK (K) (hu : X.A.units + 130 < cLine) (hK : X.K = K := by rfl) : CallF X (.builtin "sorted") (rSortV K fun a xs H => SqL K H a xs) sortedD := by subst hK; exact cf_sorted hu
end
end DL

set_option Elab.async false
set_option linter.all false
set_option maxRecDepth 100000
set_option maxHeartbeats 4000000
namespace DL
open PySem PySem.Spec L2
open PyProof.Rows hiding St

/-! ### sorted(d): the keys in order -/
theorem dp_keys {K : PySem.W.Frag} {H : Hp} : ∀ ks : List Key, DpAll K H (ks.map kV) (ks.map kyD)
  | [] => .nil
  | .inl i :: ks => .cons (.int i) (dp_keys ks)
  | .inr x :: ks => .cons (.str x) (dp_keys ks)
theorem dp_keysT {K : PySem.W.Frag} {H : Hp} {kvs : List (List Key × V)} {bs : List Addr} (h : IsKeys H kvs bs) : DpAll K H (bs.map V.ref) (kvs.map fun p => kyT p.1) := by
  unfold IsKeys at h
  induction h with
  | nil => exact .nil
  | cons h t ih => exact .cons (.tup (.inl (.inl h)) (dp_keys _)) ih
section
variable {X : Cx} {W : WS} {U : XK} {S T : List Nat} {e a b c : Expr} {es : List Expr} {pos p : Pos} {te ta tb : TE} {t : TA}
/-- list.sort of the items collected -/
theorem sort_new {pins : List (Addr × Obj)} {σ : L2.St} {H : Hp} {s : Shared} {E : Value → Shared → Prop} (I : Inv X pins σ H s) {h' : Heap} {tk : Nat} (kp : ∀ b o, s.heap.get? b = some o → h'.get? b = some o) {xs : List V} {its : List Value} {ds : List PyData} (rv : Vals xs its) (hd : DpAll X.K H xs ds) (hk : sortOk ds = true) (hz : xs.length ≤ sizeLine) (hu : X.A.units + 130 < cLine) {Q : VK}
    (q : ∀ l, H l = none → Q (.ref l) (upd H l (.lst (((xs.zip ds).mergeSort (PySem.W.dataLe false (·.2))).map (·.1))))) :
    wpAny (model X.prog X.w) X.A.in1 (call (.builtin "list.sort") [.ref h'.objs.size]) (fun _ s' => EP X pins σ Q (.ref h'.objs.size) s') E { s with heap := h'.push (seqObj "list" its.toArray 0), toks := tk } := by
  have hlen : xs.length = ds.length := dp_len hd
  have er := each_reads I rv hd
  have e := each_zip (R := RelV) rv hlen
  have hal : PySem.W.AllAlike ((xs.zip ds).map (·.2)) := by
    rw [show (xs.zip ds).map (·.2) = ds by rw [List.map_snd_zip]; omega]
    unfold sortOk at hk
    rw [Bool.and_eq_true, Bool.and_eq_true, Bool.and_eq_true, List.all_eq_true] at hk
    exact fun d hd d' hd' => List.all_eq_true.mp (hk.1.1.1 d hd) d' hd'
  have hsnd : (xs.zip ds).map (·.2) = ds := by rw [List.map_snd_zip]; omega
  have ho : (h'.push (seqObj "list" its.toArray 0)).get? h'.objs.size = some (seqObj "list" its.toArray 0) := Heap.get?_push_size _ rfl
  have k2 : ∀ b o, s.heap.get? b = some o → (h'.push (seqObj "list" its.toArray 0)).get? b = some o := fun b o z => Heap.get?_push_of_some _ (kp b o z)
  have lt : ∀ b o, s.heap.get? b = some o → b ≠ h'.objs.size := fun b o z => Nat.ne_of_lt (Heap.lt_size (kp b o z))
  have k3 : ∀ b o, s.heap.get? b = some o → (PySem.W.sortingHeap (h'.push (seqObj "list" its.toArray 0)) h'.objs.size its).get? b = some o := fun b o z => PySem.W.sortingHeap_old (lt b o z) (k2 b o z)
  have er' : PySem.W.EachIs (fun v (b : V × PyData) => ∃ as, Reads (PySem.W.sortingHeap (h'.push (seqObj "list" its.toArray 0)) h'.objs.size its) v b.2 as) its (xs.zip ds) := er.mono fun _ _ ⟨as, r⟩ => ⟨as, PyProof.Rows.Reads.keeps k3 r⟩
  have S : PySem.W.SortsAt X.prog X.w X.A.in1.in1 { s with heap := PySem.W.sortingHeap (h'.push (seqObj "list" its.toArray 0)) h'.objs.size its, toks := tk } (PySem.W.dataKind (PySem.W.sortingHeap (h'.push (seqObj "list" its.toArray 0)) h'.objs.size its) ((xs.zip ds).map (·.2))) its :=
    sorts_any (s := { s with heap := PySem.W.sortingHeap (h'.push (seqObj "list" its.toArray 0)) h'.objs.size its, toks := tk }) (PySem.W.each_map (R := fun v d => ∃ as, Reads (PySem.W.sortingHeap (h'.push (seqObj "list" its.toArray 0)) h'.objs.size its) v d as) (fun b : V × PyData => b.2) er') (by rw [hsnd]; exact hk) (by show X.A.units + 1 + 1 + 64 < _; omega)
  refine wpAny_call_entry_kw slot_list_sort ⟨_, ho, rfl⟩ entry_list_sort ?_ (args_list_sort _)
  refine PySem.W.list_sort_vals (s := { s with heap := h'.push (seqObj "list" its.toArray 0), toks := tk }) ho S (by rw [← rv.length]; exact hz) ?_
  have hs := PySem.W.sortVals_data (h' := PySem.W.sortingHeap (h'.push (seqObj "list" its.toArray 0)) h'.objs.size its) false e er' hal
  have hv := vals_of_each hs
  obtain ⟨ep, he'⟩ := PyProof.Rows.sortedHeap_at (vs := its) (out := List.toArray (PySem.W.sortVals (PySem.W.dataKind (PySem.W.sortingHeap (h'.push (seqObj "list" its.toArray 0)) h'.objs.size its) ((xs.zip ds).map (·.2))) false its its)) ho
  have hlen2 : (((xs.zip ds).mergeSort (PySem.W.dataLe false (·.2))).map (·.1)).length ≤ sizeLine := by
    rw [List.length_map, List.length_mergeSort, List.length_zip, ← hlen, Nat.min_self]
    exact hz
  have hn : H h'.objs.size = none := (I.hok.kept kp).fresh (Nat.le_refl _)
  have hp : s.heap.get? h'.objs.size = none := by
    cases z : s.heap.get? h'.objs.size with
    | none => rfl
    | some o => exact absurd rfl (lt _ _ z)
  exact ⟨_, rfl, .ref _, upd H h'.objs.size (.lst _), I.laidN (t' := tk) (fun b o z => (PyProof.Rows.sortedHeap_old (lt b o z) (Heap.lt_size (k2 b o z))).trans (k2 b o z)) hp hn ⟨hlen2, _, ep, hv, he'⟩, rfl, q _ hn⟩
/-- the keys of the dict at a: as data; and whatever stands for them -/
def DKeys (K : PySem.W.Frag) (H : Hp) (a : Addr) (n : Nat) (ks : List PyData) (R : List V → Prop) : Prop :=
  (∃ kvs : List (Key × V), H a = some (.dK kvs) ∧ ks = kvs.map (fun p => kyD p.1) ∧ R (kvs.map fun p => kV p.1)) ∨
  ∃ kvs : List (List Key × V), H a = some (.dT kvs) ∧ ks = kvs.map (fun p => kyT p.1) ∧ ∀ bs, IsKeys H kvs bs → R (bs.map V.ref)
def rSortDc (K : PySem.W.Frag) : List V → Hp → VK → Prop := fun vs H Q => ∃ (a : Addr) (ks : List PyData), vs = [V.ref a] ∧ sortOk ks = true ∧
  DKeys K H a ks.length ks fun xs => ∀ l, H l = none → Q (.ref l) (upd H l (.lst (((xs.zip ks).mergeSort (PySem.W.dataLe false (·.2))).map (·.1))))
theorem cr_sortedDc (hu : X.A.units + 130 < cLine) (hc : X.calm = true) : CallR X (.builtin "sorted") (rSortDc X.K) := by
  intro pins s σ H vs us Q I r h
  obtain ⟨d, ks, rfl, hk, h⟩ := h
  rw [Vals.ref1 r]
  refine PySem.Calls.call_function_entry kind_sorted plain_sorted entry_sorted (args_sorted1 _) ?_
  unfold Builtin.«sorted»
  refine wpAny_bind (m := checkCount "sorted" 1 1 _) (wpAny_pure ?_)
  have hh := I.ok.hd hc
  rcases h with ⟨kvs, hd, rfl, q⟩ | ⟨kvs, hd, rfl, q⟩
  · obtain ⟨hz, nm, tab, pd, dof⟩ := dk_of I.hok hd
    obtain ⟨epo, at_⟩ := dof.dictAt
    have same_len := pd.length
    refine wpAny_bind (PySem.W.kdu_collect (A := X.A.in1) (PySem.W.kdl_dict (knd := mixKind X.prog X.w) (kvs := tab) (ep := epo) nm) hh at_ (by omega) fun hp tk got hkp all => ?_)
    have gl : got.toList.length = kvs.length := by rw [Array.length_toList, all.1, same_len]
    refine wpAny_bind (wpAny_newList ?_ (by omega))
    have rv : Vals (kvs.map fun kv => kV kv.1) got.toList := vals_of_at (by rw [List.length_map, gl]) fun j x u hx hu => by
      obtain ⟨k, y, hk1, hk2⟩ := all.2 j u (by rw [← Array.getElem?_toList, hu])
      rw [List.getElem?_map] at hx
      have hks := congrArg (fun l : List Key => l[j]?) pd.keys
      simp only [List.getElem?_map, hk1, Option.map_some] at hks
      cases hp : kvs[j]? with
      | none => rw [hp] at hx; cases hx
      | some pr =>
        rw [hp] at hx hks
        cases hx
        cases Option.some.inj hks
        exact keyIs_rel hk2
    have kd : DpAll X.K H (kvs.map fun kv => kV kv.1) (kvs.map fun p => kyD p.1) := by
      have h0 := dp_keys (K := X.K) (H := H) (kvs.map (·.1))
      rwa [List.map_map, List.map_map] at h0
    exact wpAny_bind (wpAny_holding (wpAny_mono (sort_new (E := X.xe) I (h' := hp) (tk := tk) hkp rv kd hk (by rw [List.length_map]; exact hz) hu q) (fun _ _ x => wpAny_pure ⟨_, rfl, x⟩) fun _ _ e => e))
  · obtain ⟨hz, nm, tab, pd, ob, ens, epo, ho, ex, dat, hens, _⟩ := (show ObjOk X.prog X.w H s.heap d (.dT kvs) from I.hok d _ hd)
    have n1 := size_of_entries hens
    have n2 : kvs.length = tab.length := Paired.length pd
    refine wpAny_bind (PySem.W.kdu_collect (A := X.A.in1) (kdl_raw nm ex dat) hh ho (by omega) fun hp tk got hkp all => ?_)
    have gl : got.toList.length = tab.length := by rw [Array.length_toList, all.1, n1]
    refine wpAny_bind (wpAny_newList ?_ (by omega))
    have rv : Vals ((tab.map fun x => x.2.1).map V.ref) got.toList := vals_of_at (by rw [List.length_map, List.length_map, gl]) fun j x u hx hu => by
      obtain ⟨en, e1, e2⟩ := all.2 j u (by rw [← Array.getElem?_toList, hu])
      have e3 := entry_at hens j
      rw [List.getElem?_map, List.getElem?_map] at hx
      cases hb : tab[j]? with
      | none => rw [hb] at hx; cases hx
      | some row =>
        rw [hb] at hx e3
        cases hx
        rw [e1] at e3
        rw [e2, Option.some.inj e3]
        rfl
    exact wpAny_bind (wpAny_holding (wpAny_mono (sort_new (E := X.xe) I (h' := hp) (tk := tk) hkp rv (dp_keysT (isKeys_of pd)) hk (by rw [List.length_map, List.length_map]; omega) hu (q _ (isKeys_of pd))) (fun _ _ x => wpAny_pure ⟨_, rfl, x⟩) fun _ _ e => e))
end
end DL

set_option Elab.async false
set_option linter.all false
set_option maxRecDepth 100000
set_option maxHeartbeats 4000000
namespace DL
open PySem PySem.Spec L2
open PyProof.Rows hiding St

/-! ### dicts as data -/
def keqA : PyData → PyData → Bool
  | .int i, .int j => decide (i = j)
  | .str x, .str y => decide (x = y)
  | _, _ => false
def keqs : List PyData → List PyData → Bool
  | [], [] => true
  | x :: xs, y :: ys => keqA x y && keqs xs ys
  | _, _ => false
def keq : PyData → PyData → Bool
  | .tuple xs, .tuple ys => keqs xs ys
  | x, y => keqA x y
theorem keqA_ky (a b : Key) : keqA (kyD a) (kyD b) = decide (a = b) := by
  cases a <;> cases b <;> simp [kyD, keqA]
theorem keq_ky (a b : Key) : keq (kyD a) (kyD b) = decide (a = b) := by
  rw [← keqA_ky]
  cases a <;> cases b <;> rfl
theorem keqs_ky : ∀ a b : List Key, keqs (a.map kyD) (b.map kyD) = decide (a = b)
  | [], [] => by simp [keqs]
  | [], _ :: _ => by simp [keqs]
  | _ :: _, [] => by simp [keqs]
  | x :: xs, y :: ys => by
    rw [List.map_cons, List.map_cons, keqs, keqA_ky, keqs_ky xs ys]
    simp
theorem keq_kyT (a b : List Key) : keq (kyT a) (kyT b) = decide (a = b) := keqs_ky a b
/-- may k be a key of a dict whose keys are tuples (t), or not -/
def keyOk (t : Bool) (k : PyData) : Bool := match t, k with
  | false, .int _ => true
  | false, .str _ => true
  | true, .tuple ds => allI ds
  | _, _ => false
theorem key_f {K : PySem.W.Frag} {Fz : FZ} {H : Hp} {v : V} {k : PyData} (r : Rep K Fz H v k) (h : keyOk false k = true) : ∃ k', k = kyD k' ∧ v = kV k' := by
  cases r with
  | int i => exact ⟨.inl i, rfl, rfl⟩
  | str x => exact ⟨.inr x, rfl, rfl⟩
  | _ => cases h
theorem ints_keys {K : PySem.W.Frag} {Fz : FZ} {H : Hp} : ∀ {vs : List V} {ds : List PyData}, RepAll K Fz H vs ds → allI ds = true → ∃ ks : List Key, ds = ks.map kyD ∧ vs = ks.map kV
  | _, _, .nil, _ => ⟨[], rfl, rfl⟩
  | _, _, .cons (d := d) h r, e => by
    cases d with
    | int i =>
      obtain ⟨ks, h1, h2⟩ := ints_keys r (by simpa [allI] using e)
      cases h
      exact ⟨.inl i :: ks, by rw [h1]; rfl, by rw [h2]; rfl⟩
    | _ => simp [allI] at e
theorem key_t {K : PySem.W.Frag} {Fz : FZ} {H : Hp} {v : V} {k : PyData} (r : Rep K Fz H v k) (h : keyOk true k = true) : ∃ k' b, k = kyT k' ∧ v = .ref b ∧ H b = some (.tup (k'.map kV)) := by
  cases r with
  | tup hh z rr =>
    obtain ⟨ks, h1, h2⟩ := ints_keys rr h
    exact ⟨ks, _, by rw [h1]; rfl, rfl, by rw [← h2]; exact hh.pl h⟩
  | _ => cases h
theorem keyOk_flat {t : Bool} {k : PyData} (h : keyOk t k = true) : flat k = true := by
  have all : ∀ ds : List PyData, allI ds = true → flatAll ds = true := by
    intro ds
    induction ds with
    | nil => exact fun _ => rfl
    | cons d ds ih =>
      intro h
      cases d with
      | int i =>
        rw [allI] at h
        rw [flatAll, ih h]
        rfl
      | _ => simp [allI] at h
  cases t <;> cases k <;> first | rfl | (cases h; done) | skip
  rw [flat]
  exact all _ h
def lookD : List PyData → List PyData → PyData → Option PyData
  | k :: ks, v :: vs, x => if keq k x then some v else lookD ks vs x
  | _, _, _ => none
def replD : List PyData → List PyData → PyData → PyData → List PyData
  | k :: ks, v :: vs, x, y => (if keq k x then y else v) :: replD ks vs x y
  | _, _, _, _ => []
def hasK (ks : List PyData) (x : PyData) : Bool := ks.any fun k => keq k x
/-- the keys behind d[x] = .. -/
def putKs (ks : List PyData) (x : PyData) : List PyData := if hasK ks x then ks else ks ++ [x]
def putVs (ks vs : List PyData) (x y : PyData) : List PyData := if hasK ks x then replD ks vs x y else vs ++ [y]
section
variable {κ : Type} [DecidableEq κ] {enc : κ → PyData} (he : ∀ a b, keq (enc a) (enc b) = decide (a = b)) {K : PySem.W.Frag} {Fz : FZ} {H : Hp}
include he
theorem has_val (k : κ) : ∀ kvs : List (κ × V), hasK (kvs.map fun p => enc p.1) (enc k) = (valV kvs k).isSome
  | [] => rfl
  | p :: kvs => by
    have ih := has_val k kvs
    unfold hasK at ih ⊢
    rw [List.map_cons, List.any_cons, ih, he]
    by_cases e : p.1 = k
    · rw [valV_pos e]; simp [e]
    · rw [valV_neg e]; simp [e]
theorem look_val (k : κ) : ∀ {kvs : List (κ × V)} {vs : List PyData} {d : PyData}, RepAll K Fz H (kvs.map (·.2)) vs → lookD (kvs.map fun p => enc p.1) vs (enc k) = some d → ∃ v, valV kvs k = some v ∧ Rep K Fz H v d
  | [], _, _, r, e => by cases r; simp [lookD] at e
  | p :: kvs, _, d, r, e => by
    cases r with
    | cons h r =>
      rw [List.map_cons, lookD, he] at e
      by_cases q : p.1 = k
      · rw [if_pos (by simpa using q)] at e
        cases e
        exact ⟨p.2, valV_pos q, h⟩
      · rw [if_neg (by simpa using q)] at e
        obtain ⟨v, h1, h2⟩ := look_val k r e
        exact ⟨v, by rw [valV_neg q]; exact h1, h2⟩
theorem repl_val (k : κ) {v : V} {y : PyData} (ry : Rep K Fz H v y) : ∀ {kvs : List (κ × V)} {vs : List PyData}, RepAll K Fz H (kvs.map (·.2)) vs → RepAll K Fz H ((kvs.map fun kv => if kv.1 = k then (kv.1, v) else kv).map (·.2)) (replD (kvs.map fun p => enc p.1) vs (enc k) y)
  | [], _, r => by cases r; exact .nil
  | p :: kvs, _, r => by
    cases r with
    | cons h r =>
      rw [List.map_cons, List.map_cons, List.map_cons, replD, he]
      refine .cons ?_ (repl_val k ry r)
      by_cases q : p.1 = k
      · rw [if_pos q, if_pos (by simpa using q)]; exact ry
      · rw [if_neg q, if_neg (by simpa using q)]; exact h
theorem put_val (k : κ) {v : V} {y : PyData} (ry : Rep K Fz H v y) {kvs : List (κ × V)} {vs : List PyData} (r : RepAll K Fz H (kvs.map (·.2)) vs) :
    putKs (kvs.map fun p => enc p.1) (enc k) = (putK kvs k v).map (fun p => enc p.1) ∧ RepAll K Fz H ((putK kvs k v).map (·.2)) (putVs (kvs.map fun p => enc p.1) vs (enc k) y) := by
  unfold putKs putVs putK
  rw [has_val he, valV_any]
  by_cases q : (valV kvs k).isSome = true
  · rw [if_pos q, if_pos q, if_pos q]
    refine ⟨?_, repl_val he k ry r⟩
    rw [List.map_map]
    apply List.map_congr_left
    intro p _
    by_cases z : p.1 = k
    · simp [z]
    · simp [z]
  · rw [if_neg q, if_neg q, if_neg q]
    refine ⟨by rw [List.map_append]; rfl, ?_⟩
    rw [List.map_append]
    exact r.app (.cons ry .nil)
end
/-- the parts of a dict -/
def dcO : PyData → Option (Bool × List PyData × List PyData)
  | .dict [(.bool t, .tuple ks), (.none, .tuple vs)] => some (t, ks, vs)
  | _ => none
theorem dcO_some {d : PyData} {t : Bool} {ks vs : List PyData} (h : dcO d = some (t, ks, vs)) : d = dcD t ks vs := by
  unfold dcO at h
  split at h
  · cases h; rfl
  · cases h
theorem dcO_dc (t : Bool) (ks vs : List PyData) : dcO (dcD t ks vs) = some (t, ks, vs) := rfl
/-- a dict that is read, at a key -/
theorem dget_of {K : PySem.W.Frag} {Fz : FZ} {H : Hp} {v u : V} {t : Bool} {ks vs : List PyData} {k : PyData} (r : Rep K Fz H v (dcD t ks vs)) (rk : Rep K Fz H u k) (hk : keyOk t k = true) : ∃ a o, v = .ref a ∧ DGet H a u o ∧ o.isSome = hasK ks k ∧ ∀ d, lookD ks vs k = some d → ∃ w, o = some w ∧ Rep K Fz H w d := by
  unfold dcD at r
  cases r with
  | @dck a kvs _ _ hh e rr =>
    obtain ⟨k', rfl, rfl⟩ := key_f rk hk
    subst e
    exact ⟨a, valV kvs k', rfl, .k hh.1, (has_val keq_ky k' kvs).symm, fun d hd => look_val keq_ky k' rr hd⟩
  | @dct a kvs _ _ hh e rr =>
    obtain ⟨k', b, rfl, rfl, hb⟩ := key_t rk hk
    subst e
    exact ⟨a, valV kvs k', rfl, .t hh.1 hb, (has_val keq_kyT k' kvs).symm, fun d hd => look_val keq_kyT k' rr hd⟩
section
variable {X : Cx} {W : WS} {U : XK} {S T U : List Nat} {e a b c : Expr} {es : List Expr} {pos p : Pos} {te ta tb : TE} {t : TA}
/-! ### k in d -/
def rInDc (neg : Bool) : R2 := fun y x H Q => ∃ a o, x = .ref a ∧ DGet H a y o ∧ Q (.bl (if neg then !o.isSome else o.isSome)) H
theorem op_inDc (hu : X.A.units + 65 < cLine) : OpR X (compareOp .In) (rInDc false) := by
  intro pins s σ H x y v u Q I rx ry h
  obtain ⟨a, o, rfl, g, q⟩ := h
  cases ry
  exact d_in (by omega) I g rx fun s3 I3 => ⟨.bl o.isSome, H, I3, rfl, q⟩
theorem op_ninDc (hu : X.A.units + 65 < cLine) : OpR X (compareOp .NotIn) (rInDc true) := by
  intro pins s σ H x y v u Q I rx ry h
  obtain ⟨a, o, rfl, g, q⟩ := h
  cases ry
  exact d_notIn (by omega) I g rx fun s3 I3 => ⟨.bl (!o.isSome), H, I3, rfl, q⟩
def inA (x y : PyData) : Res PyData := match dcO y with
  | some (t, ks, _) => if keyOk t x then .ok (.bool (hasK ks x)) else .bot
  | none => inD x y
def ninA (x y : PyData) : Res PyData := match dcO y with
  | some (t, ks, _) => if keyOk t x then .ok (.bool (!hasK ks x)) else .bot
  | none => ninD x y
theorem inA_ne : NoErr inA := fun x y z => by
  unfold inA
  split
  · split <;> exact True.intro
  · exact inD_ne x y z
theorem ninA_ne : NoErr ninA := fun x y z => by
  unfold ninA
  split
  · split <;> exact True.intro
  · exact ninD_ne x y z
theorem od_inA (K) (hu : X.A.units + 65 < cLine) (hK : X.K = K := by rfl) : OpD X (compareOp .In) (fun x y H Q => rInA K x y H Q ∨ rInDc false x y H Q) inA := by
  subst hK
  refine .of ((od_in hu).op.or (op_inDc hu)) fun Fz H x y v u Q hl r1 r2 q => ?_
  unfold inA at q
  split at q
  · rename_i t ks vs hd
    split at q
    · rename_i hk
      rw [dcO_some hd] at r2
      obtain ⟨a, o, e, g, ho, _⟩ := dget_of r2 r1 hk
      exact .inr ⟨a, o, e, g, q _ H Fz .refl (by rw [if_neg (by decide), ho]; exact .bl _)⟩
    · exact q.elim
  · exact .inl ((od_in hu).ok Fz H x y v u Q hl r1 r2 q)
theorem od_ninA (K) (hu : X.A.units + 65 < cLine) (hK : X.K = K := by rfl) : OpD X (compareOp .NotIn) (fun x y H Q => rNinA K x y H Q ∨ rInDc true x y H Q) ninA := by
  subst hK
  refine .of ((od_nin hu).op.or (op_ninDc hu)) fun Fz H x y v u Q hl r1 r2 q => ?_
  unfold ninA at q
  split at q
  · rename_i t ks vs hd
    split at q
    · rename_i hk
      rw [dcO_some hd] at r2
      obtain ⟨a, o, e, g, ho, _⟩ := dget_of r2 r1 hk
      exact .inr ⟨a, o, e, g, q _ H Fz .refl (by rw [if_pos rfl, ho]; exact .bl _)⟩
    · exact q.elim
  · exact .inl ((od_nin hu).ok Fz H x y v u Q hl r1 r2 q)
/-! ### d[k] -/
def ixA (x y : PyData) : Res PyData := match dcO x with
  | some (t, ks, vs) => if keyOk t y then (match lookD ks vs y with | some d => .ok d | none => .bot) else .bot
  | none => ixD x y
theorem ixA_ne : NoErr ixA := fun x y z => by
  unfold ixA
  split
  · split
    · split <;> exact True.intro
    · exact True.intro
  · exact ixD_ne x y z
theorem vr_one (i : Nat) (δ : DSt) : (vr i δ).one := by
  unfold vr
  split <;> exact True.intro
theorem pe_or2 {t1 t2 : TE} (h1 : PE X e t1) (h2 : PE X e t2) : PE X e (fun σ H Q => t1 σ H Q ∨ t2 σ H Q) := ⟨fun pins s σ H Q I h => h.elim (h1.run pins s σ H Q I) (h2.run pins s σ H Q I)⟩
theorem de_ixA (K) {fa fb : DSt → Res PyData} (hu : X.A.units + 65 < cLine) (hs : PlainIx b) (ha : DE X W S a ta fa) (hb : DE X W T b tb fb) (hK : X.K = K := by rfl) (ho : ∀ δ, (fa δ).one := by intro δ; exact vr_one _ δ) :
    DE X W (S ++ T) (.Subscript a b pos) (fun σ H Q => tOp (rIx K) ta tb σ H Q ∨ tDGet ta tb σ H Q) (b2 ixA fa fb) := by
  subst hK
  have d1 := de_ix (pos := pos) hs ha hb
  refine ⟨pe_or2 d1.pe (pe_dget (by omega) ha.pe hb.pe hs), fun Fz σ H δ Q hd hl h => ?_⟩
  by_cases hx : ∃ x t ks vs, fa δ = .ok x ∧ dcO x = some (t, ks, vs)
  · obtain ⟨x, t, ks, vs, e1, e2⟩ := hx
    refine .inr ?_
    unfold EOK b2 at h
    rw [e1, ok_bind, wp_bind] at h
    refine two ha.ok hb.ok hd hl ?_
    rw [e1, wp_ok]
    refine wp_mono h (fun y hy v u H' F' g' l' r1 r2 => ?_) fun x hx => hx
    have q : EOK X.K X.mg E0 F' H' (ixA x y) Q := eok_weak (ixA_ne x y) g' hy
    unfold ixA at q
    rw [e2] at q
    dsimp only at q
    split at q
    · rename_i hk
      rw [dcO_some e2] at r1
      obtain ⟨a', o, e, g, ho, lk⟩ := dget_of r1 r2 hk
      split at q
      · rename_i d hdd
        obtain ⟨w, rfl, rw'⟩ := lk d hdd
        exact ⟨a', w, e, g, q.at rw'⟩
      · exact q.elim
    · exact q.elim
  · refine .inl (d1.ok Fz σ H δ Q hd hl ?_)
    have : b2 ixA fa fb δ = (do let x ← fa δ; let y ← fb δ; ixD x y) := by
      unfold b2
      cases hfa : fa δ with
      | ok x =>
        rw [ok_bind, ok_bind]
        have e : (fun y => ixA x y) = fun y => ixD x y := by
          funext y
          unfold ixA
          cases hdc : dcO x with
          | none => rfl
          | some q => exact absurd ⟨x, q.1, q.2.1, q.2.2, hfa, hdc⟩ hx
        rw [e]
      | err _ => rfl
      | bot => rfl
      | pick m k =>
        have := ho δ
        rw [hfa] at this
        exact this.elim
    rw [← this]
    exact h
/-! ### sorted of a list or a dict -/
def sortedA (ds : List PyData) : Res (List PyData) := match ds with
  | [d] => (match dcO d with
    | some (_, ks, _) => if sortOk ks && ks.all (fun k => match k with | .tuple xs => decide (xs.length ≤ sizeLine) | _ => true) && decide (ks.length ≤ sizeLine) then .ok (sortL ks) else .bot
    | none => sortedD [d])
  | _ => .bot
theorem CallF.or {f : Value} {r r' : List V → Hp → VK → Prop} {g : List PyData → Res (List PyData)} (c : CallR X f r) (c' : CallR X f r') (ok : ∀ Fz H ds vs Q, Live Fz H → RepAll X.K Fz H vs ds → LOK X.K X.mg E0 Fz H (g ds) Q → r vs H Q ∨ r' vs H Q) (ne : ∀ ds, Exn → (g ds).quiet) : CallF X f (fun vs H Q => r vs H Q ∨ r' vs H Q) g :=
  ⟨c.or c', ok, ne⟩
theorem rep_keys {K : PySem.W.Frag} {Fz : FZ} {H : Hp} : ∀ ks : List Key, RepAll K Fz H (ks.map kV) (ks.map kyD)
  | [] => .nil
  | .inl i :: ks => .cons (.int i) (rep_keys ks)
  | .inr x :: ks => .cons (.str x) (rep_keys ks)
theorem keys_plain : ∀ ks : List Key, allI (ks.map kyD) = true ∨ allC (ks.map kyD) = false
  | [] => .inl rfl
  | .inl _ :: _ => .inr rfl
  | .inr _ :: _ => .inr rfl
theorem rep_keysT {K : PySem.W.Frag} {Fz : FZ} {H : Hp} {kvs : List (List Key × V)} {bs : List Addr} (h : IsKeys H kvs bs) (hz : ∀ p ∈ kvs, p.1.length ≤ sizeLine) : RepAll K Fz H (bs.map V.ref) (kvs.map fun p => kyT p.1) := by
  unfold IsKeys at h
  induction h with
  | nil => exact .nil
  | cons h t ih => exact .cons (.tup (.of h (keys_plain _)) (by rw [List.length_map]; exact hz _ List.mem_cons_self) (rep_keys _)) (ih fun p hp => hz p (List.mem_cons_of_mem _ hp))
theorem cf_sortedA (K) (hu : X.A.units + 130 < cLine) (hc : X.calm = true) (hK : X.K = K := by rfl) : CallF X (.builtin "sorted") (fun vs H Q => rSortV K (fun a xs H => SqL K H a xs) vs H Q ∨ rSortDc K vs H Q) sortedA := by
  subst hK
  refine .or (cf_sorted hu).call (cr_sortedDc hu hc) (fun Fz H ds vs Q hl r q => ?_) fun ds z => ?_
  · unfold sortedA at q
    split at q
    · split at q
      · rename_i d t ks vs' hd
        split at q
        · rename_i hk
          rw [Bool.and_eq_true, Bool.and_eq_true, decide_eq_true_eq] at hk
          obtain ⟨⟨hk1, hk2⟩, hk3⟩ := hk
          rw [dcO_some hd] at r
          have fin : ∀ (xs : List V), RepAll X.K Fz H xs ks → ∀ l, H l = none → Q (.ref l) (upd H l (.lst (((xs.zip ks).mergeSort (PySem.W.dataLe false (·.2))).map (·.1)))) := fun xs rr l nl => by
            refine q l _ _ Fz (.nw nl) nl (notFz (H' := H) .refl hl nl) upd_same (by rw [sortL_len]; exact hk3) (RepAll.grow (.nw nl) ?_)
            have hh := rep_of_zip (ps := (xs.zip ks).mergeSort (PySem.W.dataLe false (fun p : V × PyData => p.2))) (fun p hp => zip_rep rr p ((List.mergeSort_perm _ _).mem_iff.mp hp))
            rw [mergeSort_snd, zip_snd rr] at hh
            exact hh
          cases r with
          | cons h r =>
            cases r
            unfold dcD at h
            cases h with
            | @dck a kvs _ _ hh e rr =>
              refine .inr ⟨a, ks, rfl, hk1, .inl ⟨kvs, hh.1, e, fin _ ?_⟩⟩
              have := rep_keys (K := X.K) (Fz := Fz) (H := H) (kvs.map (·.1))
              rw [List.map_map, List.map_map] at this
              rw [e]
              exact this
            | @dct a kvs _ _ hh e rr =>
              refine .inr ⟨a, ks, rfl, hk1, .inr ⟨kvs, hh.1, e, fun bs hb => fin _ ?_⟩⟩
              rw [e]
              refine rep_keysT hb fun p hp => ?_
              rw [e] at hk2
              have := List.all_eq_true.mp hk2 _ (List.mem_map_of_mem hp)
              unfold kyT at this
              have := of_decide_eq_true this
              rwa [List.length_map] at this
        · exact q.elim
      · exact .inl ((cf_sorted hu).ok Fz H _ vs Q hl r q)
    · exact q.elim
  · unfold sortedA
    split
    · split
      · split <;> exact True.intro
      · exact (cf_sorted (X := X) hu).ne _ z
    · exact True.intro
/-! ### x = {}, d[k] = v -/
def newD (i : Nat) (tk : Bool) (δ : DSt) : Res Out := .ok (.nx (δ.set i (some (.ownd tk [] []))))
theorem ds_setD {i : Nat} {x : Str} {pos' : Pos} (tk : Bool) (hN : X.N.Nodup) (hi : X.N[i]? = some x) (hx : L2.Loc X.env.scope x) (hf : X.fn x = true ∨ X.env.scope.names.lookup x = some .local := by first | exact .inl rfl | exact .inr rfl | assumption) (hs : swapsWith (.Dict [] [] p) (some (.Name x pos')) pos.line X.env = pure false := by rfl) :
    DS X W (.Assign [.Name x pos'] (.Dict [] [] p) pos) (tAsg (if tk then tDNewT else tDNewK) (gName i)) (newD i tk) := by
  refine ⟨ps_set hN hi hx (by cases tk; exact pe_dnewK; exact pe_dnewT) hs hf, fun H0 Fz0 Fz H σ δ Dn r h => ?_⟩
  cases tk with
  | false =>
    refine fun p np => h Fz _ _ (((r.up (same_upd np)).setOwn (s := .ownd false [] []) (none_of_same r.same np) (fun q => r.live p q np) ⟨[], upd_same, rfl, .nil⟩ (r.apart np) i))
  | true =>
    refine fun p np => h Fz _ _ (((r.up (same_upd np)).setOwn (s := .ownd true [] []) (none_of_same r.same np) (fun q => r.live p q np) ⟨[], upd_same, rfl, .nil⟩ (r.apart np) i))
def putF (i : Nat) (S : List Nat) (fv : DSt → Res PyData) (fk : DSt → Res PyData) (δ : DSt) : Res Out :=
  match δ[i]? with
  | some (some (.ownd _ _ _)) => do
    let v ← fv δ
    let δ1 := if flat v then δ else freeze S 0 δ
    let k ← fk δ1
    match δ1[i]? with
    | some (some (.ownd t ks vs)) => if keyOk t k && decide (ks.length < sizeLine) then .ok (.nx (δ1.set i (some (.ownd t (putKs ks k) (putVs ks vs k v))))) else .bot
    | _ => .bot
  | _ => .bot
theorem ds_put {i : Nat} {x : Str} {key value : Expr} {xpos pos' : Pos} {tk tv : TE} {fk fv : DSt → Res PyData} (hu : X.A.units + 65 < cLine) (hN : X.N[i]? = some x) (hv : Vis X.env.scope x) (he : DE X W S value tv fv) (hk : DE X W T key tk fk) (hs : swapsWith value (some (.Subscript (.Name x xpos) key pos')) pos.line X.env = pure false := by rfl) (hd : (x == ("__debug__" : Str)) = false := by decide) (hcd : (x == ("__classdict__" : Str)) = false := by decide) :
    DS X W (.Assign [.Subscript (.Name x xpos) key pos'] value pos) (sDPut (tVar i) tk tv) (putF i S fv fk) := by
  refine ⟨ps_dput (by omega) (pe_var (i := i) hN hv hd hcd) hk.pe he.pe hs, fun H0 Fz0 Fz H σ δ Dn r h => ?_⟩
  unfold SOK putF at h
  split at h
  · rename_i t0 ks0 vs0 e1
    obtain ⟨a, e2, _⟩ := r.own i _ e1 rfl
    rw [wp_bind] at h
    refine atE he r (wp_mono h (fun v hv v' H1 F1 g1 r1 => ?_) fun x hx => hx)
    have fin : ∀ (F : FZ) (δ' : DSt), Rel X.K H0 Fz0 F H1 σ δ' → Rep X.K F H1 v' v → (do
        let k ← fk δ'
        match δ'[i]? with
        | some (some (.ownd t ks vs)) => if keyOk t k && decide (ks.length < sizeLine) then (.ok (.nx (δ'.set i (some (.ownd t (putKs ks k) (putVs ks vs k v))))) : Res Out) else .bot
        | _ => .bot).wp (OOK X.K H0 Fz0 Dn) (XOK X.mg (W σ) H0 Fz0) → (tVar i) σ H1 fun x H2 => tk σ H2 fun y H3 => ∃ a H4, x = .ref a ∧ DPut H3 a y v' H4 ∧ Dn.nx σ H4 := fun F δ' r' rv q => by
      refine ⟨.ref a, e2, ?_⟩
      rw [wp_bind] at q
      refine atE hk r' (wp_mono q (fun k hk' u H2 F2 g2 r2 => ?_) fun x hx => hx)
      split at hk'
      · rename_i t ks vs e3
        split at hk'
        · rename_i hok
          rw [Bool.and_eq_true, decide_eq_true_eq] at hok
          have r3 := r'.up g2.same
          have ru : Rep X.K F H2 u k := r2.flat (keyOk_flat hok.1)
          have rv2 : Rep X.K F H2 v' v := rv.stay (.of_same g2.same) fun _ h => h
          obtain ⟨a', k2, k4, k5, ob⟩ := r3.own i _ e3 rfl
          rw [e2] at k2
          cases k2
          cases t with
          | false =>
            obtain ⟨kvs, hh, rfl, rr⟩ := ob
            obtain ⟨k', rfl, rfl⟩ := key_f ru hok.1
            rw [List.length_map] at hok
            refine ⟨a, _, rfl, DPut.k hh hok.2, ?_⟩
            obtain ⟨p1, p2⟩ := put_val keq_ky k' rv2 rr
            exact hk' F _ σ (r3.write e3 rfl e2 fun H' st z => ⟨_, z, p1, p2.stay st fun _ h => h⟩)
          | true =>
            obtain ⟨kvs, hh, rfl, rr⟩ := ob
            obtain ⟨k', b, rfl, rfl, hb⟩ := key_t ru hok.1
            rw [List.length_map] at hok
            refine ⟨a, _, rfl, DPut.t hh hb hok.2, ?_⟩
            obtain ⟨p1, p2⟩ := put_val keq_kyT k' rv2 rr
            exact hk' F _ σ (r3.write e3 rfl e2 fun H' st z => ⟨_, z, p1, p2.stay st fun _ h => h⟩)
        · exact hk'.elim
      · exact hk'.elim
    by_cases hf : flat v = true
    · simp only [hf, if_true] at hv
      exact fin Fz δ (r.up g1.same) (r1.flat hf) hv
    · simp only [hf, if_false] at hv
      exact fin F1 _ (r.frz g1) r1 hv
  · exact h.elim
end
end DL

set_option Elab.async false
set_option linter.all false
set_option maxRecDepth 100000
set_option maxHeartbeats 4000000
namespace DL
open PySem PySem.Spec L2
open PyProof.Rows hiding St
open PySem.SeqAt
open PySem.MeetsSeq PySem.MeetsSeq2 PySem.MeetsSeq3
open HT

/-! ### a[::-1] of a tuple -/
section
variable {prog : Program} {w : World} {A : Around} {E : Value → Shared → Prop} {s : Shared}
theorem back_pick (xs : Array Value) : ((List.range xs.size).filterMap fun (m : Nat) => xs[(((xs.size : Int) - 1) + (m : Int) * (-1)).toNat]?).toArray = xs.toList.reverse.toArray := by
  congr 1
  obtain ⟨l⟩ := xs
  show (List.range l.length).filterMap (fun (m : Nat) => l.toArray[(((l.length : Int) - 1) + (m : Int) * (-1)).toNat]?) = l.reverse
  have h : ∀ n, n ≤ l.length → (List.range n).filterMap (fun (m : Nat) => l.toArray[(((l.length : Int) - 1) + (m : Int) * (-1)).toNat]?) = (l.reverse).take n := by
    intro n
    induction n with
    | zero => intro _; rfl
    | succ n ih =>
      intro hn
      rw [List.range_succ, List.filterMap_append, ih (by omega), List.take_succ]
      congr 1
      have e : (((l.length : Int) - 1) + (n : Int) * (-1)).toNat = l.length - 1 - n := by omega
      rw [List.filterMap_cons, List.filterMap_nil, e, List.getElem?_reverse (by omega)]
      rw [List.getElem?_toArray]
      cases l[l.length - 1 - n]? <;> rfl
  rw [h l.length (Nat.le_refl _), List.take_of_length_le (by rw [List.length_reverse]; exact Nat.le_refl _)]
theorem applied_back {sl : Addr} {vs : Value} {n : Nat} {Q : Int × Int × Nat → Shared → Prop} (hs : s.heap.IsSliceOf sl .none .none vs) (ps : IsPart vs (some (-1))) (h : Q ((n : Int) - 1, -1, n) s) : wpAny (model prog w) A (Builtin.Slice.sliceApplied (.ref sl) (pure (n : Int))) Q E s := by
  obtain ⟨os, hos, hcs, hds⟩ := id hs
  unfold Builtin.Slice.sliceApplied Builtin.Slice.sliceFields
  refine wpAny_bind (wpAny_bind (wpAny_field hos hds (x := .none) rfl (wpAny_bind (wpAny_field hos hds (x := .none) rfl (wpAny_bind (wpAny_field hos hds (x := vs) rfl (wpAny_pure ?_)))))))
  refine wpAny_bind (slicePart_ ps ?_)
  show wpAny _ _ (if ((-1 : Int) == 0) = true then _ else _) _ _ s
  rw [if_neg (by decide)]
  refine wpAny_bind (slicePart_none (wpAny_bind (slicePart_none (wpAny_bind (wpAny_pure ?_)))))
  have e : Builtin.Slice.slicePlaces ((n : Int) - 1) (-1) (-1) = n := by
    unfold Builtin.Slice.slicePlaces
    rw [if_neg (by decide)]
    by_cases hn : n = 0
    · subst hn; rfl
    · rw [if_pos (by omega)]
      show ((((n : Int) - 1 - -1 - 1) / 1) + 1).toNat = n
      rw [Int.ediv_one]
      omega
  show wpAny _ _ (pure ((n : Int) - 1, (-1 : Int), Builtin.Slice.slicePlaces ((n : Int) - 1) (-1) (-1))) _ _ s
  rw [e]
  exact wpAny_pure h
theorem get_back {t sl : Addr} {items : Array Value} {vs : Value} {Q : Value → Shared → Prop} (ht : IsTup s.heap t items) (hs : s.heap.IsSliceOf sl .none .none vs) (ps : IsPart vs (some (-1)))
    (h : Q (.ref s.heap.objs.size) { s with heap := s.heap.push { cls := .type "tuple", data := .seq items.toList.reverse.toArray } }) (hsz : items.size ≤ sizeLine) : wpAny (model prog w) A (getItem (.ref t) (.ref sl)) Q E s := by
  have hok : sizeOk (.seq items.toList.reverse.toArray) := by
    show items.toList.reverse.toArray.size ≤ sizeLine
    rw [List.size_toArray, List.length_reverse, Array.length_toList]
    exact hsz
  obtain ⟨os, hos, hcs, hds⟩ := id hs
  have hTs : s.TypeIs (.ref sl) "slice" := ⟨os, hos, hcs⟩
  unfold getItem
  try with_reducible refine wpAny_holding ?_
  first | refine wpAny_bind (wpAny_pure ?_) | skip
  refine wpAny_bind (wpAny_sequenceKey ht.typeIs (by decide) ?_)
  refine wpAny_bind (wpAny_callSpecial?_slot (name := Str.ofString "__getitem__") ht.typeIs PyProof.Rows.slot_tuple_getitem
    (wpAny_call_entry PyProof.Rows.slot_tuple_getitem ht.typeIs entry_tuple_getitem ?_ (args_tuple_getitem _ _)))
  show wpAny _ _ (Builtin.Tuple.tupleItemsOf (.ref t) >>= _) _ _ s
  refine wpAny_bind (tupleItemsOf_ ht ?_)
  refine wpAny_bind (wpAny_typeOf hTs ?_)
  rw [if_pos (by decide)]
  refine wpAny_bind (applied_back hs ps ?_)
  show wpAny _ _ (if ((((items.size : Int) - 1) == 0 && (-1 : Int) == 1 && items.size == items.size) = true) then _ else _) _ _ s
  rw [if_neg (by rw [show ((-1 : Int) == 1) = false by decide, Bool.and_false, Bool.false_and]; exact Bool.false_ne_true), back_pick]
  first
    | exact wpAny_bind (m := Builtin.Tuple.tupleExact _) (wpAny_newObj_type (wpAny_pure ⟨_, rfl, wpAny_pure h⟩) hok)
    | exact wpAny_bind (m := Builtin.Tuple.tupleExact _) (wpAny_newObj_type (wpAny_bind (wpAny_pure (wpAny_pure ⟨_, rfl, wpAny_pure h⟩))) hok)
    | exact wpAny_bind (wpAny_bind (m := Builtin.Tuple.tupleExact _) (wpAny_newObj_type (wpAny_pure (wpAny_pure ⟨_, rfl, wpAny_pure h⟩)) hok))
    | exact wpAny_bind (wpAny_bind (m := Builtin.Tuple.tupleExact _) (wpAny_newObj_type (wpAny_pure ⟨_, rfl, wpAny_pure h⟩) hok))
end
section
variable {X : Cx} {W : WS} {U : XK} {S : List Nat} {e : Expr} {te : TE} {k : Nat} {p1 p2 p3 pos : Pos}
def tRevT (K : PySem.W.Frag) (te : TE) : TE := fun σ H Q => te σ H fun x H1 => ∃ a xs, x = .ref a ∧ SqT K H1 a xs ∧ NewT H1 Q xs.reverse
theorem pe_revT (he : PE X e te) : PE X (.Subscript e (.Slice none none (some (.UnaryOp .USub (.Constant (.int 1) k p1) p2)) p3) pos) (tRevT X.K te) := by
  refine ⟨fun pins s σ H Q I h => ?_⟩
  refine Subscript_ (thn (he.run pins s σ H _ I h) fun v s1 ⟨x, H1, I1, r1, a, xs, ex, hx, q⟩ => ?_)
  subst ex
  cases r1
  have hst : PO X (some (.UnaryOp .USub (.Constant (.int 1) k p1) p2)) (tPart (tUn (rU fun i => .int (-i)) (tC (.int 1)))) := po_some (pe_un un_neg pe_int)
  refine wpAny_Slice ?_
  rw [evalPart_none]
  refine wpAny_pure (wpAny_pure ?_)
  refine thn (hst.run pins s1 σ H1 (fun o H4 => o = some (-1) ∧ H4 = H1) I1 ⟨1, rfl, -1, rfl, rfl, rfl⟩) fun vs s4 ⟨o, H4, I4, ps, eo, e4⟩ => ?_
  subst eo e4
  have I5 : Inv X pins σ H4 { s4 with heap := s4.heap.push { cls := .type "slice", data := .fields #[.none, .none, vs] } } := I4.kept (t' := s4.toks) fun b ob q => Heap.get?_push_of_some _ q
  obtain ⟨its, r, ht, hz⟩ := I5.tuple hx
  have hlen := r.length
  refine tail_any (ops := [.ref a, .ref s4.heap.objs.size]) (IsTup.typeIs ht) (PyProof.Rows.slot_tuple_getitem.lookup) ?_ (by with_unfolding_all rfl)
  refine get_back ht (Heap.IsSliceOf.new _ .none .none vs) ps ?_ (by rw [List.size_toArray]; omega)
  exact newT_run I5 (by rw [List.length_reverse]; exact hz) r.reverse q
theorem RepAll.rev {K : PySem.W.Frag} {Fz : FZ} {H : Hp} : ∀ {vs : List V} {ds : List PyData}, RepAll K Fz H vs ds → RepAll K Fz H vs.reverse ds.reverse
  | _, _, .nil => .nil
  | _, _, .cons h r => by
    rw [List.reverse_cons, List.reverse_cons]
    exact r.rev.app (.cons h .nil)
def revD (d : PyData) : Res PyData := match d with
  | .list xs => .ok (.list xs.reverse)
  | .tuple xs => .ok (.tuple xs.reverse)
  | _ => .bot
theorem de_revK (K) {f : DSt → Res PyData} (ha : DE X W S e te f) (hK : X.K = K := by rfl) : DE X W S (.Subscript e (.Slice none none (some (.UnaryOp .USub (.Constant (.int 1) k p1) p2)) p3) pos) (fun σ H Q => tRevL K te σ H Q ∨ tRevT K te σ H Q) (u1 revD (dtF f)) := by
  subst hK
  refine ⟨pe_or2 (pe_revL ha.pe) (pe_revT ha.pe), fun Fz σ H δ Q hd hl h => ?_⟩
  unfold EOK u1 dtF at h
  rw [wp_bind] at h
  cases hf : f δ with
  | pick m k => rw [hf] at h; exact h.elim
  | bot => rw [hf] at h; exact h.elim
  | err x =>
    rw [hf] at h
    exact .inl (ha.ok Fz σ H δ _ hd hl (by rw [hf]; exact h))
  | ok d =>
    rw [hf] at h
    cases d with
    | list xs =>
      refine .inl (ha.ok Fz σ H δ _ hd hl ?_)
      rw [hf]
      intro v H1 F1 g1 r1
      cases r1 with
      | lst hh z rr => exact ⟨_, _, rfl, hh.sq, fun p np => h _ _ _ (g1.trans (.frz np)) (.lst (.inl ⟨upd_same, .inr rfl⟩) (by rw [List.length_reverse]; exact z) (RepAll.grow (.frz np) rr.rev))⟩
    | tuple xs =>
      refine .inr (ha.ok Fz σ H δ _ hd hl ?_)
      rw [hf]
      intro v H1 F1 g1 r1
      cases r1 with
      | tup hh z rr => exact ⟨_, _, rfl, hh.sq, newT_rep (by rw [List.length_reverse]; exact z) rr.rev fun v H2 F2 g2 r2 => h v H2 F2 (g1.trans g2) r2⟩
    | _ => exact h.elim
end
end DL

set_option Elab.async false
set_option linter.all false
set_option maxRecDepth 100000
set_option maxHeartbeats 4000000
namespace DL
open PySem PySem.Spec L2
open PyProof.Rows hiding St

/-! ### sorted of a tuple -/
section
variable {prog : Program} {w : World} {A : Around} {E : Value → Shared → Prop} {s : Shared}
theorem collect_tup {t : Addr} {items : Array Value} {R : List Value → Shared → Prop} (ht : IsTup s.heap t items) (hz : items.size ≤ sizeLine)
    (h : ∀ h', (∀ b o, s.heap.get? b = some o → h'.get? b = some o) → R items.toList { s with heap := h' }) : wpAny (model prog w) A (collect (.ref t)) R E s := by
  obtain ⟨o, ho, hc, n, hd⟩ := id ht
  have lt := Heap.lt_size ho
  unfold collect
  refine wpAny_bind (wpAny_runValue (codeAny_builtin entry_proto_collect' ?_))
  rw [Around.under_plainId PySem.F.plain_proto_collect _]
  show wpAny _ A.in1 (newList [] >>= fun l => again (.builtin "list.__iadd__" ⟨[l, .ref t], []⟩)) _ _ s
  refine wpAny_bind (wpAny_newObj_type ?_)
  refine wpAny_pure ⟨plainId_quiet PySem.F.plain_list_iadd _, codeAny_builtin entry_list_iadd' ?_⟩
  rw [Around.under_plainId PySem.F.plain_list_iadd _]
  have hS : (s.heap.push { cls := .type "list", data := .seq ([] : List Value).toArray }).get? s.heap.objs.size = some { cls := .type "list", data := .seq #[] } := Heap.get?_push_size _ rfl
  show wpAny _ A.in1 (Builtin.List.listExtendWith (.ref s.heap.objs.size) (.ref t) (.ref s.heap.objs.size)) _ _ _
  have key := wpAny_extend_seq (A := A) (prog := prog) (w := w) (s := { s with heap := s.heap.push { cls := .type "list", data := .seq ([] : List Value).toArray } })
    (R := fun (q : Result) (s' : Shared) => q = .ok (.ret (.ref s.heap.objs.size)) ∧ s' = { s with heap := (s.heap.push { cls := .type "list", data := .seq ([] : List Value).toArray }).update s.heap.objs.size (Obj.mapSeq (· ++ items)) })
    s.heap.objs.size t (.ref s.heap.objs.size) 0 (.inr rfl) hS (Heap.get?_push_of_some _ ho) hc hd ⟨rfl, rfl⟩ hz
  have up := Heap.get?_update_self (Obj.mapSeq (· ++ items)) hS rfl
  have ks : ∀ b u, s.heap.get? b = some u → ((s.heap.push { cls := .type "list", data := .seq ([] : List Value).toArray }).update s.heap.objs.size (Obj.mapSeq (· ++ items))).get? b = some u := fun b u e =>
    (Heap.get?_update_other _ _ (Nat.ne_of_gt (Heap.lt_size e))).trans (Heap.get?_push_of_some _ e)
  have fin : wpAny (model prog w) A (do
      let o ← load s.heap.objs.size
      match o.data with
      | .seq xs _ => pure xs.toList
      | _ => unsupported "internal:collect") R E { s with heap := (s.heap.push { cls := .type "list", data := .seq ([] : List Value).toArray }).update s.heap.objs.size (Obj.mapSeq (· ++ items)) } := by
    refine wpAny_bind (wpAny_load up ?_)
    have := h _ ks
    show wpAny _ A (pure ((#[] : Array Value) ++ items).toList) R E _
    rw [show ((#[] : Array Value) ++ items).toList = items.toList by simp]
    exact wpAny_pure this
  refine wpAny_mono key (fun fn s' x => ?_) fun e s' x => ?_
  · cases fn with
    | done f =>
      obtain ⟨e, rfl⟩ := x
      cases e
      exact fin
    | again c₁ =>
      refine ⟨x.1, codeAny_mono x.2 fun q s₂ y => ?_⟩
      obtain ⟨rfl, rfl⟩ := y
      exact fin
  · obtain ⟨e', _⟩ := x
    cases e'
end
section
variable {X : Cx} {W : WS} {U : XK} {S T : List Nat} {e a b c : Expr} {es : List Expr} {pos p : Pos} {te ta tb : TE} {t : TA}
theorem cr_sortedTu (hu : X.A.units + 130 < cLine) : CallR X (.builtin "sorted") (rSortV X.K fun a xs H => SqT X.K H a xs) := by
  intro pins s σ H vs us Q I r h
  obtain ⟨d, xs, ds, rfl, hs, hd, hk, hz, q⟩ := h
  rw [Vals.ref1 r]
  obtain ⟨its, rv, ht, _⟩ := I.tuple hs
  refine PySem.Calls.call_function_entry kind_sorted plain_sorted entry_sorted (args_sorted1 _) ?_
  unfold Builtin.«sorted»
  refine wpAny_bind (m := checkCount "sorted" 1 1 _) (wpAny_pure ?_)
  have hl := rv.length
  refine wpAny_bind (collect_tup (A := X.A.in1) ht (by rw [List.size_toArray]; omega) fun hp hkp => ?_)
  refine wpAny_bind (wpAny_newList ?_ (by show its.length ≤ _; omega))
  exact wpAny_bind (wpAny_holding (wpAny_mono (sort_new (E := X.xe) (tk := s.toks) I (h' := hp) hkp rv hd hk hz hu q) (fun _ _ x => wpAny_pure ⟨_, rfl, x⟩) fun _ _ e => e))
def sorted3 (ds : List PyData) : Res (List PyData) := match ds with
  | [.tuple xs] => if sortOk xs then .ok (sortL xs) else .bot
  | _ => sortedA ds
theorem cf_sorted3 (K) (hu : X.A.units + 130 < cLine) (hc : X.calm = true) (hK : X.K = K := by rfl) : CallF X (.builtin "sorted") (fun vs H Q => rSortV K (fun a xs H => SqT K H a xs) vs H Q ∨ (rSortV K (fun a xs H => SqL K H a xs) vs H Q ∨ rSortDc K vs H Q)) sorted3 := by
  subst hK
  refine .or (cr_sortedTu hu) (cf_sortedA X.K hu hc).call (fun Fz H ds vs Q hl r q => ?_) fun ds z => ?_
  · unfold sorted3 at q
    split at q
    · split at q
      · rename_i xs hk
        cases r with
        | cons h r =>
          cases r
          cases h with
          | tup h z rr =>
            refine .inl ⟨_, _, _, rfl, h.sq, rr.dp (sortOk_nd hk), hk, by rw [rr.length]; exact z, fun l nl => ?_⟩
            refine q l _ _ Fz (.nw nl) nl (notFz (H' := H) .refl hl nl) upd_same (by rw [sortL_len]; exact z) (RepAll.grow (.nw nl) ?_)
            have hh := rep_of_zip (ps := ((_ : List V).zip xs).mergeSort (PySem.W.dataLe false (fun p : V × PyData => p.2))) (fun p hp => zip_rep rr p ((List.mergeSort_perm _ _).mem_iff.mp hp))
            rw [mergeSort_snd, zip_snd rr] at hh
            exact hh
      · exact q.elim
    · exact .inr ((cf_sortedA X.K hu hc).ok Fz H _ vs Q hl r q)
  · unfold sorted3
    split
    · split <;> exact True.intro
    · exact (cf_sortedA (X := X) X.K hu hc).ne _ z
@[simp] theorem sorted3_L (xs : List PyData) : sorted3 [.list xs] = sortedD [.list xs] := rfl
@[simp] theorem sorted3_T (xs : List PyData) : sorted3 [.tuple xs] = sortedD [.list xs] := rfl
@[simp] theorem sorted3_D (t : Bool) (ks vs : List PyData) : sorted3 [dcD t ks vs] = sortedA [dcD t ks vs] := rfl
end
end DL

set_option Elab.async false
set_option linter.all false
set_option maxRecDepth 100000
set_option maxHeartbeats 4000000
namespace DL
open PySem PySem.Spec L2

/-! ### working out: plain data -/
@[simp] theorem ev_b2 (g : D → D → Res D) (fa fb δ) : b2 g fa fb δ = (fa δ >>= fun x => fb δ >>= fun y => g x y) := rfl
@[simp] theorem ev_u1 (g : D → Res D) (f δ) : u1 g f δ = (f δ >>= g) := rfl
@[simp] theorem ev_u1A (g : List D → Res D) (f δ) : u1A g f δ = (f δ >>= g) := rfl
@[simp] theorem ev_u1L (g : List D → Res (List D)) (f δ) : u1L g f δ = (f δ >>= g) := rfl
@[simp] theorem ev_u1LE (g : D → Res (List D)) (f δ) : u1LE g f δ = (f δ >>= g) := rfl
@[simp] theorem ev_andF (f g : DSt → Res D) (δ) : andF f g δ = (f δ >>= fun x => andV x (g δ)) := rfl
@[simp] theorem ev_orF (f g : DSt → Res D) (δ) : orF f g δ = (f δ >>= fun x => orV x (g δ)) := rfl
@[simp] theorem ev_ifE (h) (f g : DSt → Res D) (δ) : ifE h f g δ = (h δ >>= fun x => if x then f δ else g δ) := rfl
@[simp] theorem ev_aNil (δ) : aNil δ = .ok [] := rfl
@[simp] theorem ev_aCons (f : DSt → Res D) (g δ) : aCons f g δ = (f δ >>= fun x => g δ >>= fun xs => .ok (x :: xs)) := rfl
@[simp] theorem ev_asL (f : DSt → Res (List D)) (δ) : asL f δ = (f δ >>= fun xs => .ok (.list xs)) := rfl
@[simp] theorem ev_oN (δ) : oN δ = .ok none := rfl
@[simp] theorem ev_oS (f : DSt → Res D) (δ) : oS f δ = (f δ >>= asI) := rfl
@[simp] theorem ev_slF (f : DSt → Res D) (fl fh : DSt → Res (Option Int)) (δ) : slF f fl fh δ = (f δ >>= fun x => fl δ >>= fun l => fh δ >>= fun u => sliceD x l u) := rfl
@[simp] theorem ev_callF (g : List D → Res D) (f δ) : callF g f δ = (f δ >>= fun ds => nE (g ds)) := rfl
@[simp] theorem ev_tB2 (g : D → D → Res D) (fa fb δ) : tB2 g fa fb δ = (fa δ >>= fun x => fb δ >>= fun y => g x y >>= asB) := by
  show ((fa δ >>= fun x => fb δ >>= fun y => g x y) >>= asB) = _
  rw [Res.bind_assoc]
  congr 1
  funext x
  exact Res.bind_assoc _ _ _
@[simp] theorem ev_dtF (f : DSt → Res D) (δ) : dtF f δ = (f δ).dt := rfl
@[simp] theorem ev_dt {α : Type} (a : α) : (Res.ok a).dt = .ok a := rfl
@[simp] theorem ev_tTr (f : DSt → Res D) (δ) : tTr f δ = (f δ >>= truD) := rfl
@[simp] theorem ev_tNt (f : DSt → Res Bool) (δ) : tNt f δ = (f δ >>= fun x => .ok (!x)) := rfl
@[simp] theorem ev_tAnd (f g : DSt → Res Bool) (δ) : tAnd' f g δ = (f δ >>= fun x => if x then g δ else .ok false) := rfl
@[simp] theorem ev_tOr (f g : DSt → Res Bool) (δ) : tOr' f g δ = (f δ >>= fun x => if x then .ok true else g δ) := rfl
@[simp] theorem ev_tY (δ) : tY δ = .ok true := rfl
@[simp] theorem ev_sNil (δ) : sNil δ = .ok (.nx δ) := rfl
@[simp] theorem ev_sBk (δ) : sBk δ = .ok (.bk δ) := rfl
@[simp] theorem ev_sCt (δ) : sCt δ = .ok (.ct δ) := rfl
@[simp] theorem ev_sRt (f : DSt → Res D) (δ) : sRt f δ = (f δ >>= fun d => .ok (.rt d)) := rfl
@[simp] theorem ev_sRtN (δ) : sRtN δ = .ok (.rt .none) := rfl
@[simp] theorem ev_sEx (f : DSt → Res D) (δ) : sEx f δ = (f δ >>= fun _ => .ok (.nx δ)) := rfl
/-! statements one behind another: what stands behind is not looked into before it is its turn -/
def seqK (r : Res Out) (g : DSt → Res Out) : Res Out := r >>= fun o => match o with
  | .nx δ => g δ
  | o => .ok o
theorem sq (f g δ) : seqF f g δ = seqK (f δ) g := by
  unfold seqF seqK
  congr 1
@[simp] theorem seqK_nx (δ g) : seqK (.ok (.nx δ)) g = g δ := rfl
@[simp] theorem seqK_rt (d g) : seqK (.ok (.rt d)) g = .ok (.rt d) := rfl
@[simp] theorem seqK_bk (δ g) : seqK (.ok (.bk δ)) g = .ok (.bk δ) := rfl
@[simp] theorem seqK_ct (δ g) : seqK (.ok (.ct δ)) g = .ok (.ct δ) := rfl
def ifK (r : Res Bool) (f g : DSt → Res Out) (δ : DSt) : Res Out := r >>= fun x => if x then f δ else g δ
@[simp] theorem ev_ifS (h) (f g : DSt → Res Out) (δ) : ifS h f g δ = ifK (h δ) f g δ := rfl
@[simp] theorem ifK_t (f g δ) : ifK (.ok true) f g δ = f δ := rfl
@[simp] theorem ifK_f (f g δ) : ifK (.ok false) f g δ = g δ := rfl
theorem ifK_b (b f g δ) : ifK (.ok b) f g δ = if b then f δ else g δ := rfl
def asgK (r : Res D) (S : List Nat) (p : Pat) (δ : DSt) : Res Out := r >>= fun d => nE (bindP p d (if flat d then δ else freeze S 0 δ)) >>= fun δ' => .ok (.nx δ')
@[simp] theorem asgK_fl {d : D} {S p δ} (h : flat d = true) : asgK (.ok d) S p δ = (nE (bindP p d δ) >>= fun δ' => .ok (.nx δ')) := by
  unfold asgK
  rw [show (Res.ok d >>= fun d => nE (bindP p d (if flat d then δ else freeze S 0 δ)) >>= fun δ' => (.ok (.nx δ') : Res Out)) = (nE (bindP p d (if flat d then δ else freeze S 0 δ)) >>= fun δ' => .ok (.nx δ')) from rfl, h]; rfl
@[simp] theorem asgK_nf {d : D} {S p δ} (h : flat d = false) : asgK (.ok d) S p δ = (nE (bindP p d (freeze S 0 δ)) >>= fun δ' => .ok (.nx δ')) := by
  unfold asgK
  rw [show (Res.ok d >>= fun d => nE (bindP p d (if flat d then δ else freeze S 0 δ)) >>= fun δ' => (.ok (.nx δ') : Res Out)) = (nE (bindP p d (if flat d then δ else freeze S 0 δ)) >>= fun δ' => .ok (.nx δ')) from rfl, h]; rfl
def asgOK (r : Res (List D)) (S : List Nat) (i : Nat) (δ : DSt) : Res Out := r >>= fun xs => .ok (.nx ((if flatAll xs then δ else freeze S 0 δ).set i (some (.own xs))))
@[simp] theorem asgOK_fl {d : List D} {S i δ} (h : flatAll d = true) : asgOK (.ok d) S i δ = .ok (.nx (δ.set i (some (.own d)))) := by
  show Res.ok (Out.nx ((if flatAll d then δ else freeze S 0 δ).set i (some (.own d)))) = _
  rw [h]; rfl
@[simp] theorem asgOK_nf {d : List D} {S i δ} (h : flatAll d = false) : asgOK (.ok d) S i δ = .ok (.nx ((freeze S 0 δ).set i (some (.own d)))) := by
  show Res.ok (Out.nx ((if flatAll d then δ else freeze S 0 δ).set i (some (.own d)))) = _
  rw [h]; rfl
@[simp] theorem ev_ok {α β : Type} (a : α) (f : α → Res β) : (Res.ok a >>= f) = f a := rfl
@[simp] theorem ev_bot {α β : Type} (f : α → Res β) : (Res.bot >>= f) = .bot := rfl
@[simp] theorem ev_nE {α : Type} (a : α) : nE (.ok a) = .ok a := rfl
@[simp] theorem ev_vr (i : Nat) (δ : DSt) : vr i δ = (match δ[i]? with | some (some s) => .ok s.d | _ => .bot) := rfl
@[simp] theorem ev_dv (d : D) : (SV.val d).d = d := rfl
@[simp] theorem ev_down (d : List D) : (SV.own d).d = .list d := rfl
@[simp] theorem ev_seq (f g δ δ') (h : f δ = .ok (.nx δ')) : seqF f g δ = g δ' := by unfold seqF; rw [h]; rfl
@[simp] theorem ev_cI (i δ) : cI i δ = .ok (.int i) := rfl
@[simp] theorem ev_cB (i δ) : cB i δ = .ok (.bool i) := rfl
@[simp] theorem ev_cS (i δ) : cS i δ = .ok (.str i) := rfl
@[simp] theorem ev_cN (δ) : cN δ = .ok .none := rfl
@[simp] theorem ev_sub (a b : Int) : subD (.int a) (.int b) = .ok (.int (a - b)) := rfl
@[simp] theorem ev_add (a b : Int) : addD (.int a) (.int b) = .ok (.int (a + b)) := rfl
@[simp] theorem ev_neg (a : Int) : negD (.int a) = .ok (.int (-a)) := rfl
@[simp] theorem ev_opI2 (C g) (a b : Int) : opI2 C g (.int a) (.int b) = if C a b = true then .ok (g a b) else .bot := rfl
@[simp] theorem ev_int (a : Int) : intD [.int a] = .ok (.int a) := rfl
@[simp] theorem ev_abs (a : Int) : absD [.int a] = .ok (.int (a.natAbs : Int)) := by
  show Res.ok (PyData.int _) = _
  congr 2
  split <;> omega
@[simp] theorem ev_eq (a b : Int) : eqD (.int a) (.int b) = .ok (.bool (decide (a = b))) := by
  show Res.ok (PyData.bool (a == b)) = _
  congr 2
@[simp] theorem ev_ne (a b : Int) : neD (.int a) (.int b) = .ok (.bool (decide (a ≠ b))) := by
  show Res.ok (PyData.bool (!(a == b))) = _
  congr 2
  by_cases h : a = b <;> simp [h]
@[simp] theorem ev_eqB (a b : Bool) : eqD (.bool a) (.bool b) = .ok (.bool (decide (a = b))) := by
  show Res.ok (PyData.bool (a == b)) = _
  cases a <;> cases b <;> rfl
@[simp] theorem ev_neB (a b : Bool) : neD (.bool a) (.bool b) = .ok (.bool (decide (a ≠ b))) := by
  show Res.ok (PyData.bool (!(a == b))) = _
  cases a <;> cases b <;> rfl
theorem dataLt_int (a b : Int) : PySem.W.dataLt (.int a) (.int b) = decide (a < b) := by
  have h := congrFun (congrFun (PySem.W.dataLe_int (β := Int) (fun x => x)) b) a
  have h2 : (!PySem.W.dataLt (.int a) (.int b)) = decide (b ≤ a) := h
  by_cases q : a < b
  · have : ¬ b ≤ a := by omega
    simp [this] at h2
    simp [h2, q]
  · have : b ≤ a := by omega
    simp [this] at h2
    simp [h2, q]
theorem cmpOk_int (a b : Int) : cmpOk (.int a) (.int b) = true := rfl
@[simp] theorem ev_lt (a b : Int) : ltD (.int a) (.int b) = .ok (.bool (decide (a < b))) := by
  unfold ltD; rw [cmpOk_int, dataLt_int]; rfl
@[simp] theorem ev_gt (a b : Int) : gtD (.int a) (.int b) = .ok (.bool (decide (b < a))) := by
  unfold gtD; rw [cmpOk_int, dataLt_int]; rfl
@[simp] theorem ev_le (a b : Int) : leD (.int a) (.int b) = .ok (.bool (decide (a ≤ b))) := by
  unfold leD; rw [cmpOk_int, dataLt_int, if_pos rfl]; congr 2; by_cases h : a ≤ b <;> simp [h] <;> omega
@[simp] theorem ev_ge (a b : Int) : geD (.int a) (.int b) = .ok (.bool (decide (b ≤ a))) := by
  unfold geD; rw [cmpOk_int, dataLt_int, if_pos rfl]; congr 2; by_cases h : b ≤ a <;> simp [h] <;> omega
@[simp] theorem ev_asB (a : Bool) : asB (.bool a) = .ok a := rfl
@[simp] theorem ev_asI (a : Int) : asI (.int a) = .ok (some a) := rfl
@[simp] theorem ev_truB (a : Bool) : truD (.bool a) = .ok a := rfl
@[simp] theorem ev_notV (a : Bool) : notV (.bool a) = .ok (.bool (!a)) := rfl
@[simp] theorem ev_andV (a b : Bool) : andV (.bool a) (.ok (.bool b)) = .ok (.bool (a && b)) := by cases a <;> rfl
@[simp] theorem ev_orV (a b : Bool) : orV (.bool a) (.ok (.bool b)) = .ok (.bool (a || b)) := by cases a <;> rfl
@[simp] theorem ev_lenL (xs : List D) : lenD [.list xs] = .ok (.int xs.length) := rfl
@[simp] theorem ev_lenT (xs : List D) : lenD [.tuple xs] = .ok (.int xs.length) := rfl
@[simp] theorem ev_tupL (xs : List D) : tupleD [.list xs] = .ok (.tuple xs) := rfl
@[simp] theorem ev_tupT (xs : List D) : tupleD [.tuple xs] = .ok (.tuple xs) := rfl
@[simp] theorem ev_seqT (xs : List D) : seqD (.tuple xs) = .ok xs := rfl
@[simp] theorem ev_seqL (xs : List D) : seqD (.list xs) = .ok xs := rfl
theorem lstD_ok {ds : List D} (h : ds.length ≤ sizeLine) : lstD ds = .ok ds := if_pos h
theorem tupD_ok {ds : List D} (h : ds.length ≤ sizeLine) : tupD ds = .ok (.tuple ds) := if_pos h
theorem le_size {n : Nat} (h : n ≤ 1000000) : n ≤ sizeLine := Nat.le_trans h (by rw [sizeLine_eq]; exact (by decide))
@[simp] theorem ev_tup1 (a : D) : tupD [a] = .ok (.tuple [a]) := tupD_ok (le_size (by simp))
@[simp] theorem ev_tup0 : tupD [] = .ok (.tuple []) := tupD_ok (le_size (by simp))
@[simp] theorem ev_lst0 : lstD [] = .ok [] := lstD_ok (le_size (by simp))
@[simp] theorem ev_tup2 (a b : D) : tupD [a, b] = .ok (.tuple [a, b]) := tupD_ok (le_size (by simp))
@[simp] theorem ev_lst2 (a b : D) : lstD [a, b] = .ok [a, b] := lstD_ok (le_size (by simp))
theorem kb_ii : kitB "int" "int" = some true := by decide +kernel
theorem kb_ib : kitB "int" "bool" = some false := by decide +kernel
theorem kb_bb : kitB "bool" "bool" = some true := by decide +kernel
theorem isi_of {T : String} {d : D} {b : Bool} (h : kitB (tyN d) T = some b) (np : isPool d = false := by rfl) : isiD T d = .ok (.bool b) := by
  unfold isiD
  rw [np, h]; rfl
@[simp] theorem ev_isii (a : Int) : isiD "int" (.int a) = .ok (.bool true) := isi_of kb_ii
@[simp] theorem ev_isbi (a : Int) : isiD "bool" (.int a) = .ok (.bool false) := isi_of kb_ib
@[simp] theorem ev_isbb (a : Bool) : isiD "bool" (.bool a) = .ok (.bool true) := isi_of kb_bb
@[simp] theorem fl_int (a : Int) : flat (.int a) = true := by rw [flat]
@[simp] theorem fl_bool (a : Bool) : flat (.bool a) = true := by rw [flat]
@[simp] theorem fl_non : flat .none = true := by rw [flat]
@[simp] theorem fl_str (x : Str) : flat (.str x) = true := by rw [flat]
@[simp] theorem fl_list (x : List D) : flat (.list x) = false := by rw [flat]
@[simp] theorem fl_dict (x) : flat (.dict x) = false := by rw [flat]
@[simp] theorem fl_tup (x : List D) : flat (.tuple x) = flatAll x := by rw [flat]
@[simp] theorem fl_nil : flatAll [] = true := by rw [flatAll]
@[simp] theorem fl_cons (d : D) (ds) : flatAll (d :: ds) = (flat d && flatAll ds) := by rw [flatAll]
@[simp] theorem ev_bindN (i d δ) : bindP (.nm i) d δ = .ok (δ.set i (some (.val d))) := rfl
@[simp] theorem ev_bindT (is ds δ) : bindP (.tp is) (.tuple ds) δ = bindN is ds δ := rfl
@[simp] theorem ev_bindTL (is ds δ) : bindP (.tp is) (.list ds) δ = bindN is ds δ := rfl
@[simp] theorem ev_bind0 (δ) : bindN [] [] δ = .ok δ := rfl
@[simp] theorem ev_bind1 (i is d ds δ) : bindN (i :: is) (d :: ds) δ = bindN is ds (δ.set i (some (.val d))) := rfl
@[simp] theorem ev_asgF (S f p δ) : asgF S f p δ = asgK (f δ) S p δ := rfl
@[simp] theorem ev_asgO (S f i δ) : asgO S f i δ = asgOK (f δ) S i δ := rfl
@[simp] theorem ev_newD (i tk δ) : newD i tk δ = .ok (.nx (δ.set i (some (.ownd tk [] [])))) := rfl
@[simp] theorem ev_frz0 (S k) : freeze S k [] = [] := rfl
@[simp] theorem ev_frz1 (S k s δ) : freeze S k (s :: δ) = (if S.contains k then frzS s else s) :: freeze S (k + 1) δ := rfl
@[simp] theorem frz_val (d) : frzS (some (.val d)) = some (.val d) := rfl
@[simp] theorem frz_own (d) : frzS (some (.own d)) = some (.val (.list d)) := rfl
@[simp] theorem frz_ownd (t ks vs) : frzS (some (.ownd t ks vs)) = some (.val (dcD t ks vs)) := rfl
@[simp] theorem frz_none : frzS none = none := rfl
theorem app_ok {i : Nat} {S : List Nat} {f : DSt → Res D} {δ : DSt} {xs : List D} {d : D} (h : δ[i]? = some (some (.own xs))) (hf : f δ = .ok d) (hd : flat d = true) (hl : xs.length < sizeLine) : appF i S f δ = .ok (.nx (δ.set i (some (.own (xs ++ [d]))))) := by
  unfold appF
  simp [h, hf, hd, hl]

theorem fn_rt {n : Nat} {b : DSt → Res Out} {ds : List D} {d : D} (h : b (startD n ds) = .ok (.rt d)) : fnD n b ds = .ok d := by
  unfold fnD
  rw [h]; rfl
theorem atI_nat (ds : List D) (k : Nat) : atI ds (k : Int) = ds[k]? := by
  unfold atI ixN
  by_cases h : k < ds.length
  · simp [h]
  · simp [h]
theorem ix_L {ds : List D} {k : Nat} {d : D} (h : ds[k]? = some d) : ixD (.list ds) (.int k) = .ok d := by
  show (match atI ds (k : Int) with | some d => Res.ok d | none => .bot) = _
  rw [atI_nat, h]
theorem ix_T {ds : List D} {k : Nat} {d : D} (h : ds[k]? = some d) : ixD (.tuple ds) (.int k) = .ok d := by
  show (match atI ds (k : Int) with | some d => Res.ok d | none => .bot) = _
  rw [atI_nat, h]
@[simp] theorem ix_T0 (a : D) (ds : List D) : ixD (.tuple (a :: ds)) (.int 0) = .ok a := ix_T (k := 0) rfl
@[simp] theorem ix_T1 (a b : D) (ds : List D) : ixD (.tuple (a :: b :: ds)) (.int 1) = .ok b := ix_T (k := 1) rfl
/-! ### ints -/
abbrev iL (c : List Int) : List D := c.map .int
abbrev tI (c : List Int) : D := .tuple (iL c)
@[simp] theorem lay_ints : ∀ c : List Int, PyData.canLayAll0 (iL c) = true
  | [] => rfl
  | _ :: c => by
    show (true && PyData.canLayAll0 (iL c)) = true
    rw [lay_ints c]; rfl
@[simp] theorem depth_ints : ∀ c : List Int, PyData.depthAll (iL c) = 0
  | [] => rfl
  | _ :: c => by
    show max 0 (PyData.depthAll (iL c)) = 0
    rw [depth_ints c]; rfl
@[simp] theorem nodc_ints : ∀ c : List Int, nodcAll (iL c) = true
  | [] => rfl
  | _ :: c => by
    show (true && nodcAll (iL c)) = true
    rw [nodc_ints c]; rfl
@[simp] theorem flat_ints : ∀ c : List Int, flatAll (iL c) = true
  | [] => rfl
  | _ :: c => by
    show (true && flatAll (iL c)) = true
    rw [flat_ints c]; rfl
@[simp] theorem allI_ints : ∀ c : List Int, allI (iL c) = true
  | [] => rfl
  | _ :: c => allI_ints c
theorem alike_ints : ∀ a b : List Int, PySem.W.alikeAll (iL a) (iL b) = true
  | [], _ => by simp [PySem.W.alikeAll]
  | _ :: _, [] => by simp [PySem.W.alikeAll]
  | x :: a, y :: b => by
    show (PySem.W.alike (.int x) (.int y) && PySem.W.alikeAll (iL a) (iL b)) = true
    rw [alike_ints a b]; rfl
theorem shaped_int (a : Int) : SeqAt.shaped (.int a) = true := rfl
theorem shaped_tI (c : List Int) : SeqAt.shaped (tI c) = true := by
  unfold SeqAt.shaped
  rw [show PyData.canLay0 (tI c) = PyData.canLayAll0 (iL c) by simp [PyData.canLay0], lay_ints, show (tI c).depth = PyData.depthAll (iL c) + 1 by simp [PyData.depth], depth_ints]
  rfl
theorem shaped_lI (c : List Int) : SeqAt.shaped (.list (iL c)) = true := by
  unfold SeqAt.shaped
  rw [show PyData.canLay0 (.list (iL c)) = PyData.canLayAll0 (iL c) by simp [PyData.canLay0], lay_ints, show (PyData.list (iL c)).depth = PyData.depthAll (iL c) + 1 by simp [PyData.depth], depth_ints]
  rfl
theorem any_ints (a : Int) (c : List Int) : (iL c).any (fun z => PyData.eqv z (.int a)) = decide (a ∈ c) := by
  rw [List.any_map]
  induction c with
  | nil => rfl
  | cons x c ih =>
    rw [List.any_cons, ih]
    show ((x == a) || _) = _
    by_cases h : x = a
    · subst h; simp
    · have : ¬ a = x := fun e => h e.symm
      simp [h, this]
@[simp] theorem ev_inT (a : Int) (c : List Int) : inD (.int a) (.tuple (iL c)) = .ok (.bool (decide (a ∈ c))) := by
  unfold inD
  simp only [shaped_int, shaped_tI c, Bool.and_self, if_true, any_ints]
@[simp] theorem ev_ninT (a : Int) (c : List Int) : ninD (.int a) (.tuple (iL c)) = .ok (.bool (!decide (a ∈ c))) := by
  unfold ninD
  simp only [shaped_int, shaped_tI c, Bool.and_self, if_true, any_ints]
@[simp] theorem ev_inL (a : Int) (c : List Int) : inD (.int a) (.list (iL c)) = .ok (.bool (decide (a ∈ c))) := by
  unfold inD
  simp only [shaped_int, shaped_lI c, Bool.and_self, if_true, any_ints]
/-! ### sorting -/
theorem sortOk_ints (c : List Int) : sortOk (iL c) = true := by
  unfold sortOk
  simp only [Bool.and_eq_true, Bool.or_eq_true, List.all_eq_true, List.mem_map]
  refine ⟨⟨⟨?_, .inr ?_⟩, ?_⟩, ?_⟩
  · rintro _ ⟨x, _, rfl⟩ _ ⟨y, _, rfl⟩
    rfl
  · rintro _ ⟨x, _, rfl⟩
    exact ⟨rfl, rfl⟩
  · rintro _ ⟨x, _, rfl⟩
    rfl
  · rintro _ ⟨x, _, rfl⟩
    rfl
theorem sortOk_tups (cs : List (List Int)) : sortOk (cs.map tI) = true := by
  unfold sortOk
  simp only [Bool.and_eq_true, Bool.or_eq_true, List.all_eq_true, List.mem_map]
  refine ⟨⟨⟨?_, .inl ?_⟩, ?_⟩, ?_⟩
  · rintro _ ⟨x, _, rfl⟩ _ ⟨y, _, rfl⟩
    show PySem.W.alike (.tuple _) (.tuple _) = true
    rw [show PySem.W.alike (.tuple (iL x)) (.tuple (iL y)) = PySem.W.alikeAll (iL x) (iL y) by simp [PySem.W.alike]]
    exact alike_ints x y
  · rintro _ ⟨x, _, rfl⟩
    rfl
  · rintro _ ⟨x, _, rfl⟩
    rw [show (tI x).depth = PyData.depthAll (iL x) + 1 by simp [PyData.depth], depth_ints]
    rfl
  · rintro _ ⟨x, _, rfl⟩
    show nodcAll (iL x) = true
    exact nodc_ints x
theorem sortL_map {α : Type} (enc : α → D) (l : List α) : ∃ l' : List α, l'.Perm l ∧ sortL (l.map enc) = l'.map enc := by
  obtain ⟨l', h1, h2⟩ := L2.perm_lift enc (m := sortL (l.map enc)) (List.mergeSort_perm _ _) l rfl
  exact ⟨l', h1, h2.symm⟩
theorem sorted_ints (c : List Int) : ∃ c' : List Int, c'.Perm c ∧ sortedD [.list (iL c)] = .ok (iL c') := by
  obtain ⟨c', h1, h2⟩ := sortL_map PyData.int c
  refine ⟨c', h1, ?_⟩
  show (if sortOk (iL c) then Res.ok (sortL (iL c)) else .bot) = _
  rw [sortOk_ints, if_pos rfl, h2]
/-! ### loops -/
abbrev Nx (r : Res Out) (P : DSt → Prop) : Prop := ∃ δ', r = .ok (.nx δ') ∧ P δ'
theorem for_inv {α : Type} (enc : α → D) {p : Pat} {body : DSt → Res Out} (I : List α → DSt → Prop) (l0 : List α)
    (h : ∀ done a rest δ, l0 = done ++ a :: rest → I done δ → Nx (nE (bindP p (enc a) δ) >>= body) (I (done ++ [a]))) : ∀ l done δ, l0 = done ++ l → I done δ → Nx (forGo p body (l.map enc) δ) (I l0)
  | [], done, δ, e, hI => by
    rw [List.append_nil] at e
    subst e
    exact ⟨δ, rfl, hI⟩
  | a :: l, done, δ, e, hI => by
    obtain ⟨δ', h1, h2⟩ := h done a l δ e hI
    obtain ⟨δ2, h3, h4⟩ := for_inv enc I l0 h l (done ++ [a]) δ' (by rw [List.append_assoc]; exact e) h2
    refine ⟨δ2, ?_, h4⟩
    rw [List.map_cons, forGo]
    cases q : bindP p (enc a) δ with
    | ok δ1 =>
      rw [q, ev_nE, ev_ok] at h1
      rw [ev_nE, ok_bind]
      rw [h1, ok_bind]
      exact h3
    | err x => rw [q] at h1; cases h1
    | bot => rw [q] at h1; cases h1
    | pick m k => rw [q] at h1; cases h1
theorem for_inv0 {α : Type} (enc : α → D) {p : Pat} {body : DSt → Res Out} (I : List α → DSt → Prop) {l : List α} {δ : DSt} (h0 : I [] δ)
    (h : ∀ done a rest δ, l = done ++ a :: rest → I done δ → Nx (nE (bindP p (enc a) δ) >>= body) (I (done ++ [a]))) : Nx (forGo p body (l.map enc) δ) (I l) :=
  for_inv enc I l h l [] δ rfl h0
theorem lcGo_ok {α : Type} (enc : α → D) (t : α → Bool) (g : α → D) {p : Pat} {δ : DSt} {ft : DSt → Res Bool} {fe : DSt → Res D} : ∀ l : List α, (∀ a ∈ l, ∃ δ1, nE (bindP p (enc a) δ) = .ok δ1 ∧ ft δ1 = .ok (t a) ∧ (t a = true → fe δ1 = .ok (g a))) → lcGo p δ ft fe (l.map enc) = .ok ((l.filter t).map g)
  | [], _ => rfl
  | a :: l, h => by
    obtain ⟨δ1, h1, h2, h3⟩ := h a List.mem_cons_self
    have ih := lcGo_ok enc t g l fun b hb => h b (List.mem_cons_of_mem _ hb)
    rw [List.map_cons, lcGo, h1, ok_bind, h2, ev_nE, ok_bind]
    cases q : t a with
    | true =>
      rw [if_pos rfl, h3 q, ev_nE, ok_bind, ih, ok_bind, List.filter_cons_of_pos q, List.map_cons]
    | false =>
      rw [if_neg Bool.false_ne_true, ih, List.filter_cons_of_neg (by rw [q]; exact Bool.false_ne_true)]
theorem lcF_ok {α : Type} (enc : α → D) (t : α → Bool) (g : α → D) {p : Pat} {vs : List Nat} {δ : DSt} {gs : DSt → Res (List D)} {ft : DSt → Res Bool} {fe : DSt → Res D} {l : List α} (hg : gs δ = .ok (l.map enc)) (hl : l.length ≤ sizeLine)
    (h : ∀ a ∈ l, ∃ δ1, nE (bindP p (enc a) (wipeD δ vs)) = .ok δ1 ∧ ft δ1 = .ok (t a) ∧ (t a = true → fe δ1 = .ok (g a))) : lcF gs p vs ft fe δ = .ok ((l.filter t).map g) := by
  unfold lcF
  rw [hg, ok_bind, lcGo_ok enc t g l h, ok_bind]
  exact lstD_ok (by rw [List.length_map]; exact Nat.le_trans (List.length_filter_le _ _) hl)
theorem filter_tt {α : Type} (l : List α) : l.filter (fun _ => true) = l := by induction l <;> simp_all
theorem lcF_all {α : Type} (enc : α → D) (g : α → D) {p : Pat} {vs : List Nat} {δ : DSt} {gs : DSt → Res (List D)} {fe : DSt → Res D} {l : List α} (hg : gs δ = .ok (l.map enc)) (hl : l.length ≤ sizeLine)
    (h : ∀ a ∈ l, ∃ δ1, nE (bindP p (enc a) (wipeD δ vs)) = .ok δ1 ∧ fe δ1 = .ok (g a)) : lcF gs p vs tY fe δ = .ok (l.map g) := by
  have := lcF_ok enc (fun _ => true) g hg hl (ft := tY) fun a ha => by
    obtain ⟨δ1, h1, h2⟩ := h a ha
    exact ⟨δ1, h1, rfl, fun _ => h2⟩
  rwa [filter_tt] at this
@[simp] theorem ev_wipe0 (δ) : wipeD δ [] = δ := rfl
@[simp] theorem ev_wipe1 (δ v vs) : wipeD δ (v :: vs) = (wipeD δ vs).set v none := rfl
theorem allBl_map : ∀ bs : List Bool, allBl (bs.map PyData.bool) = some bs
  | [] => rfl
  | b :: bs => by rw [List.map_cons, allBl, allBl_map bs]; rfl
theorem ev_all (bs : List Bool) : allD [.list (bs.map PyData.bool)] = .ok (.bool (bs.all _root_.id)) := by
  show (match allBl (bs.map PyData.bool) with | some bs => Res.ok (PyData.bool (bs.all _root_.id)) | none => .bot) = _
  rw [allBl_map]
theorem ev_any (bs : List Bool) : anyD [.list (bs.map PyData.bool)] = .ok (.bool (bs.any _root_.id)) := by
  show (match allBl (bs.map PyData.bool) with | some bs => Res.ok (PyData.bool (bs.any _root_.id)) | none => .bot) = _
  rw [allBl_map]
theorem all_map {α : Type} (f : α → Bool) (l : List α) : allD [.list (l.map fun a => PyData.bool (f a))] = .ok (.bool (l.all f)) := by
  have := ev_all (l.map f)
  rw [List.map_map, List.all_map] at this
  exact this
theorem any_map {α : Type} (f : α → Bool) (l : List α) : anyD [.list (l.map fun a => PyData.bool (f a))] = .ok (.bool (l.any f)) := by
  have := ev_any (l.map f)
  rw [List.map_map, List.any_map] at this
  exact this
theorem mem_rng {lo hi : Int} {a : Int} (h : a ∈ (List.range (hi - lo).toNat).map fun (k : Nat) => lo + (k : Int)) : lo ≤ a ∧ a < hi := by
  obtain ⟨k, hk, rfl⟩ := List.mem_map.mp h
  have := List.mem_range.mp hk
  omega
theorem rng_len {lo hi : Int} : ((List.range (hi - lo).toNat).map fun (k : Nat) => lo + (k : Int)).length = (hi - lo).toNat := by rw [List.length_map, List.length_range]
/-- a loop over a range -/
theorem rng_inv {p : Pat} {body : DSt → Res Out} (I : Nat → DSt → Prop) {lo hi : Int} {δ : DSt} (hlh : lo ≤ hi) (h0 : I 0 δ)
    (h : ∀ (k : Nat) δ, lo + k < hi → I k δ → Nx (nE (bindP p (.int (lo + k)) δ) >>= body) (I (k + 1))) : Nx (forGo p body (rngL lo hi) δ) (I (hi - lo).toNat) := by
  unfold rngL
  have := for_inv0 (p := p) (body := body) (δ := δ) (l := List.range (hi - lo).toNat) (fun (k : Nat) => PyData.int (lo + (k : Int))) (fun done δ => I done.length δ) h0 (by
    intro done a rest δ e hI
    have ha : a = done.length := by
      have h1 : (List.range (hi - lo).toNat)[done.length]? = some a := by rw [e]; simp
      obtain ⟨_, h2⟩ := List.getElem?_eq_some_iff.mp h1
      rw [List.getElem_range] at h2
      exact h2.symm
    have hlt : done.length < (hi - lo).toNat := by
      have h1 : (List.range (hi - lo).toNat).length = (done ++ a :: rest).length := by rw [e]
      rw [List.length_range, List.length_append, List.length_cons] at h1
      omega
    subst ha
    obtain ⟨δ', h1, h2⟩ := h done.length δ (by omega) hI
    exact ⟨δ', h1, by rw [List.length_append]; exact h2⟩)
  rwa [List.length_range] at this
@[simp] theorem ev_forR (g p b δ) : forR g p b δ = (g δ >>= fun xs => forGo p b xs δ) := rfl
@[simp] theorem ev_forF (S g p b δ) : forF S g p b δ = (g δ >>= fun xs => forGo p b xs (freeze S 0 δ)) := rfl
theorem rngL_map (lo hi : Int) : rngL lo hi = ((List.range (hi - lo).toNat).map fun (k : Nat) => lo + (k : Int)).map PyData.int := by
  unfold rngL
  rw [List.map_map]
  rfl
theorem rng1_ok {j : Int} (h : -(2 ^ 62) ≤ j ∧ j < 2 ^ 62) : rng1D [.int j] = .ok (rngL 0 j) := by
  show (if in62 j = true then _ else _) = _
  rw [if_pos (show in62 j = true from decide_eq_true h)]
theorem rng2_ok {i j : Int} (h : -(2 ^ 62) ≤ i ∧ i < 2 ^ 62) (h' : -(2 ^ 62) ≤ j ∧ j < 2 ^ 62) : rng2D [.int i, .int j] = .ok (rngL i j) := by
  show (if (in62 i && in62 j) = true then _ else _) = _
  rw [show in62 i = true from decide_eq_true h, show in62 j = true from decide_eq_true h']
  rfl
/-! ### dicts -/
theorem put_tups (cs : List (List Int)) (c : List Int) : ∃ cs' : List (List Int), putKs (cs.map tI) (tI c) = cs'.map tI ∧ (cs' = cs ∨ cs' = cs ++ [c]) := by
  unfold putKs
  by_cases h : hasK (cs.map tI) (tI c) = true
  · exact ⟨cs, by rw [if_pos h], .inl rfl⟩
  · exact ⟨cs ++ [c], by rw [if_neg h, List.map_append]; rfl, .inr rfl⟩
theorem sortedA_tups (cs : List (List Int)) (vs : List D) (h : ∀ c ∈ cs, c.length ≤ sizeLine) (hl : cs.length ≤ sizeLine) : ∃ cs' : List (List Int), cs'.Perm cs ∧ sortedA [dcD true (cs.map tI) vs] = .ok (cs'.map tI) := by
  obtain ⟨cs', h1, h2⟩ := sortL_map tI cs
  refine ⟨cs', h1, ?_⟩
  show (if (sortOk (cs.map tI) && (cs.map tI).all (fun k => match k with | .tuple xs => decide (xs.length ≤ sizeLine) | _ => true) && decide ((cs.map tI).length ≤ sizeLine)) = true then Res.ok (sortL (cs.map tI)) else .bot) = _
  rw [if_pos, h2]
  rw [Bool.and_eq_true, Bool.and_eq_true]
  refine ⟨⟨sortOk_tups cs, List.all_eq_true.mpr fun k hk => ?_⟩, decide_eq_true (by rw [List.length_map]; exact hl)⟩
  obtain ⟨c, hc, rfl⟩ := List.mem_map.mp hk
  exact decide_eq_true (by rw [List.length_map]; exact h c hc)
end DL

set_option Elab.async false
set_option linter.all false
set_option maxRecDepth 100000
set_option maxHeartbeats 4000000
namespace DL
open PySem PySem.Spec L2
open PyProof.Rows hiding St

/-! ### tuples of whole numbers in order -/
theorem dataLt_tI (a b : List Int) : PySem.W.dataLt (tI a) (tI b) = decide (a < b) := by
  rw [PySem.W.dataLt_tuple]
  exact PySem.W.dataLt_ints a b
theorem dataLe_tI (a b : List Int) : PySem.W.dataLe false _root_.id (tI a) (tI b) = decide (a ≤ b) := by
  show (!PySem.W.dataLt (tI b) (tI a)) = _
  rw [dataLt_tI]
  by_cases h : b < a
  · have : ¬ a ≤ b := fun q => absurd h (List.not_lt.mpr q)
    simp [h, this]
  · have : a ≤ b := List.not_lt.mp h
    simp [h, this]
theorem sortL_tups (cs : List (List Int)) : sortL (cs.map tI) = (cs.mergeSort fun a b => decide (a ≤ b)).map tI := by
  unfold sortL
  rw [List.map_mergeSort]
  intro a _ b _
  exact (dataLe_tI a b).symm
theorem sortT_perm {a b : List (List Int)} (h : a.Perm b) : (a.mergeSort fun x y => decide (x ≤ y)) = b.mergeSort fun x y => decide (x ≤ y) := by
  have tr : ∀ x y z : List Int, decide (x ≤ y) = true → decide (y ≤ z) = true → decide (x ≤ z) = true := fun x y z h1 h2 => decide_eq_true (List.le_trans (of_decide_eq_true h1) (of_decide_eq_true h2))
  have tt : ∀ x y : List Int, (decide (x ≤ y) || decide (y ≤ x)) = true := fun x y => by
    rcases List.le_total x y with q | q
    · simp [q]
    · simp [q]
  exact List.Perm.eq_of_pairwise (fun x y _ _ h1 h2 => List.le_antisymm (of_decide_eq_true h1) (of_decide_eq_true h2)) (List.pairwise_mergeSort tr tt a) (List.pairwise_mergeSort tr tt b) ((List.mergeSort_perm a _).trans (h.trans (List.mergeSort_perm b _).symm))
/-- once each -/
def ddup {α : Type} [DecidableEq α] : List α → List α
  | [] => []
  | x :: l => if x ∈ l then ddup l else x :: ddup l
theorem ddup_mem {α : Type} [DecidableEq α] {y : α} : ∀ l : List α, y ∈ ddup l ↔ y ∈ l
  | [] => Iff.rfl
  | x :: l => by
    unfold ddup
    split
    · rename_i h
      rw [ddup_mem l, List.mem_cons]
      exact ⟨.inr, fun z => z.elim (fun e => e ▸ h) _root_.id⟩
    · rw [List.mem_cons, List.mem_cons, ddup_mem l]
theorem ddup_nodup {α : Type} [DecidableEq α] : ∀ l : List α, (ddup l).Nodup
  | [] => List.nodup_nil
  | x :: l => by
    unfold ddup
    split
    · exact ddup_nodup l
    · rename_i h
      exact List.nodup_cons.mpr ⟨fun z => h ((ddup_mem l).mp z), ddup_nodup l⟩
/-- sorted(set(cs)) -/
def sortU (cs : List (List Int)) : List (List Int) := (ddup cs).mergeSort fun a b => decide (a ≤ b)
theorem sortU_of {cs ms : List (List Int)} (hn : ms.Nodup) (h : ∀ c, c ∈ ms ↔ c ∈ cs) : sortL (ms.map tI) = (sortU cs).map tI := by
  rw [sortL_tups]
  unfold sortU
  rw [sortT_perm ((List.perm_ext_iff_of_nodup hn (ddup_nodup cs)).mpr fun c => by rw [h, ddup_mem])]
section
variable {X : Cx} {W : WS} {U : XK} {S T : List Nat} {e a b c : Expr} {es : List Expr} {pos p : Pos} {te ta tb : TE} {t : TA}
/-- list.sort of the items collected, behind a call that may draw -/
theorem sort_new2 {pins : List (Addr × Obj)} {σ : L2.St} {H : Hp} {s s1 : Shared} {E : Value → Shared → Prop} (I : Inv X pins σ H s) (kp : ∀ b o, s.heap.get? b = some o → s1.heap.get? b = some o) (gz : s1.gens = s.gens) (oz : s1.os = s.os) (hsz : s.heap.objs.size ≤ s1.heap.objs.size) {xs : List V} {its : List Value} {ds : List PyData} (rv : Vals xs its) (hd : DpAll X.K H xs ds) (hk : sortOk ds = true) (hz : xs.length ≤ sizeLine) (hu : X.A.units + 130 < cLine) {Q : VK}
    (q : ∀ l, H l = none → Q (.ref l) (upd H l (.lst (((xs.zip ds).mergeSort (PySem.W.dataLe false (·.2))).map (·.1))))) :
    wpAny (model X.prog X.w) X.A.in1 (call (.builtin "list.sort") [.ref s1.heap.objs.size]) (fun _ s' => EP X pins σ Q (.ref s1.heap.objs.size) s') E { s1 with heap := s1.heap.push (seqObj "list" its.toArray 0) } := by
  have hlen : xs.length = ds.length := dp_len hd
  have er := each_reads I rv hd
  have e := each_zip (R := RelV) rv hlen
  have hal : PySem.W.AllAlike ((xs.zip ds).map (·.2)) := by
    rw [show (xs.zip ds).map (·.2) = ds by rw [List.map_snd_zip]; omega]
    unfold sortOk at hk
    rw [Bool.and_eq_true, Bool.and_eq_true, Bool.and_eq_true, List.all_eq_true] at hk
    exact fun d hd d' hd' => List.all_eq_true.mp (hk.1.1.1 d hd) d' hd'
  have hsnd : (xs.zip ds).map (·.2) = ds := by rw [List.map_snd_zip]; omega
  have ho : (s1.heap.push (seqObj "list" its.toArray 0)).get? s1.heap.objs.size = some (seqObj "list" its.toArray 0) := Heap.get?_push_size _ rfl
  have k2 : ∀ b o, s.heap.get? b = some o → (s1.heap.push (seqObj "list" its.toArray 0)).get? b = some o := fun b o z => Heap.get?_push_of_some _ (kp b o z)
  have lt : ∀ b o, s.heap.get? b = some o → b ≠ s1.heap.objs.size := fun b o z => Nat.ne_of_lt (Heap.lt_size (kp b o z))
  have k3 : ∀ b o, s.heap.get? b = some o → (PySem.W.sortingHeap (s1.heap.push (seqObj "list" its.toArray 0)) s1.heap.objs.size its).get? b = some o := fun b o z => PySem.W.sortingHeap_old (lt b o z) (k2 b o z)
  have er' : PySem.W.EachIs (fun v (b : V × PyData) => ∃ as, Reads (PySem.W.sortingHeap (s1.heap.push (seqObj "list" its.toArray 0)) s1.heap.objs.size its) v b.2 as) its (xs.zip ds) := er.mono fun _ _ ⟨as, r⟩ => ⟨as, PyProof.Rows.Reads.keeps k3 r⟩
  have SS : PySem.W.SortsAt X.prog X.w X.A.in1.in1 { s1 with heap := PySem.W.sortingHeap (s1.heap.push (seqObj "list" its.toArray 0)) s1.heap.objs.size its } (PySem.W.dataKind (PySem.W.sortingHeap (s1.heap.push (seqObj "list" its.toArray 0)) s1.heap.objs.size its) ((xs.zip ds).map (·.2))) its :=
    sorts_any (s := { s1 with heap := PySem.W.sortingHeap (s1.heap.push (seqObj "list" its.toArray 0)) s1.heap.objs.size its }) (PySem.W.each_map (R := fun v d => ∃ as, Reads (PySem.W.sortingHeap (s1.heap.push (seqObj "list" its.toArray 0)) s1.heap.objs.size its) v d as) (fun b : V × PyData => b.2) er') (by rw [hsnd]; exact hk) (by show X.A.units + 1 + 1 + 64 < _; omega)
  refine wpAny_call_entry_kw slot_list_sort ⟨_, ho, rfl⟩ entry_list_sort ?_ (args_list_sort _)
  refine PySem.W.list_sort_vals (s := { s1 with heap := s1.heap.push (seqObj "list" its.toArray 0) }) ho SS (by rw [← rv.length]; exact hz) ?_
  have hs := PySem.W.sortVals_data (h' := PySem.W.sortingHeap (s1.heap.push (seqObj "list" its.toArray 0)) s1.heap.objs.size its) false e er' hal
  have hv := vals_of_each hs
  obtain ⟨ep, he'⟩ := PyProof.Rows.sortedHeap_at (vs := its) (out := List.toArray (PySem.W.sortVals (PySem.W.dataKind (PySem.W.sortingHeap (s1.heap.push (seqObj "list" its.toArray 0)) s1.heap.objs.size its) ((xs.zip ds).map (·.2))) false its its)) ho
  have hlen2 : (((xs.zip ds).mergeSort (PySem.W.dataLe false (·.2))).map (·.1)).length ≤ sizeLine := by
    rw [List.length_map, List.length_mergeSort, List.length_zip, ← hlen, Nat.min_self]
    exact hz
  have hn : H s1.heap.objs.size = none := I.hok.fresh hsz
  have kk : ∀ b o, s.heap.get? b = some o → (PyProof.Rows.sortedHeap (s1.heap.push (seqObj "list" its.toArray 0)) s1.heap.objs.size its (List.toArray (PySem.W.sortVals (PySem.W.dataKind (PySem.W.sortingHeap (s1.heap.push (seqObj "list" its.toArray 0)) s1.heap.objs.size its) ((xs.zip ds).map (·.2))) false its its))).get? b = some o := fun b o z => (PyProof.Rows.sortedHeap_old (lt b o z) (Heap.lt_size (k2 b o z))).trans (k2 b o z)
  have hob : ObjOk X.prog X.w (upd H s1.heap.objs.size (.lst (((xs.zip ds).mergeSort (PySem.W.dataLe false (·.2))).map (·.1)))) (PyProof.Rows.sortedHeap (s1.heap.push (seqObj "list" its.toArray 0)) s1.heap.objs.size its (List.toArray (PySem.W.sortVals (PySem.W.dataKind (PySem.W.sortingHeap (s1.heap.push (seqObj "list" its.toArray 0)) s1.heap.objs.size its) ((xs.zip ds).map (·.2))) false its its))) s1.heap.objs.size (.lst (((xs.zip ds).mergeSort (PySem.W.dataLe false (·.2))).map (·.1))) := ⟨hlen2, _, ep, hv, he'⟩
  exact ⟨_, rfl, .ref _, upd H s1.heap.objs.size (.lst _), I.call' (ch := []) oz (Un.laid kk hsz hn) (I.hok.laid kk hsz hob) (by show AllBare s1.gens; rw [gz]; exact I.bare) (fun _ z => nomatch z), rfl, q _ hn⟩
end
end DL

set_option Elab.async false
set_option linter.all false
set_option maxRecDepth 100000
set_option maxHeartbeats 4000000
namespace DL
open PySem PySem.Spec L2
open PyProof.Rows hiding St
/-! ### sorted(set(xs)), xs a list of tuples of whole numbers -/
def tupO : PyData → Option (List Int)
  | .tuple ds => ds.foldr (fun d r => match d, r with | .int i, some l => some (i :: l) | _, _ => none) (some [])
  | _ => none
theorem foldr_ints : ∀ (ds : List PyData) (c : List Int), ds.foldr (fun d r => match d, r with | .int i, some l => some (i :: l) | _, _ => none) (some []) = some c → ds = iL c
  | [], c, h => by cases h; rfl
  | d :: ds, c, h => by
    rw [List.foldr_cons] at h
    split at h
    · rename_i i l hl
      cases h
      rw [foldr_ints ds l hl]
      rfl
    · cases h
theorem tupO_some {d : PyData} {c : List Int} (h : tupO d = some c) : d = tI c := by
  cases d with
  | tuple ds => rw [foldr_ints ds c h]
  | _ => cases h
theorem foldr_iL : ∀ c : List Int, (iL c).foldr (fun d r => match d, r with | .int i, some l => some (i :: l) | _, _ => none) (some []) = some c
  | [] => rfl
  | i :: c => by
    show (match PyData.int i, (iL c).foldr (fun d r => match d, r with | .int i, some l => some (i :: l) | _, _ => none) (some []) with | .int i, some l => some (i :: l) | _, _ => none) = _
    rw [foldr_iL c]
theorem tupO_tI (c : List Int) : tupO (tI c) = some c := foldr_iL c
def tupsO : List PyData → Option (List (List Int))
  | [] => some []
  | d :: ds => match tupO d, tupsO ds with | some c, some cs => some (c :: cs) | _, _ => none
theorem tupsO_some : ∀ {ds : List PyData} {cs : List (List Int)}, tupsO ds = some cs → ds = cs.map tI
  | [], cs, h => by cases h; rfl
  | d :: ds, cs, h => by
    unfold tupsO at h
    split at h
    · rename_i c cs' h1 h2
      cases h
      rw [tupO_some h1, tupsO_some h2]
      rfl
    · cases h
theorem tupsO_map : ∀ cs : List (List Int), tupsO (cs.map tI) = some cs
  | [] => rfl
  | c :: cs => by
    rw [List.map_cons, tupsO, tupO_tI, tupsO_map cs]
theorem rep_tI {K : PySem.W.Frag} {Fz : FZ} {H : Hp} {v : V} {c : List Int} (r : Rep K Fz H v (tI c)) : ∃ b, v = .ref b ∧ SqT K H b (c.map V.int) := by
  cases r with
  | tup h z rr =>
    refine ⟨_, rfl, ?_⟩
    have e : ∀ {vs : List V} {c : List Int}, RepAll K Fz H vs (iL c) → vs = c.map V.int := by
      intro vs c
      induction c generalizing vs with
      | nil => intro r; cases r; rfl
      | cons i c ih =>
        intro r
        cases r with
        | cons h r =>
          cases h
          rw [ih r]
          rfl
    rw [← e rr]
    exact h.sq
theorem rep_tups {K : PySem.W.Frag} {Fz : FZ} {H : Hp} : ∀ {vs : List V} {cs : List (List Int)}, RepAll K Fz H vs (cs.map tI) → ∃ ks : List (Addr × List Int), vs = ks.map (fun p => V.ref p.1) ∧ ks.map (·.2) = cs ∧ ∀ p ∈ ks, SqT K H p.1 (p.2.map V.int) ∧ Rep K Fz H (.ref p.1) (tI p.2)
  | _, [], .nil => ⟨[], rfl, rfl, by simp⟩
  | _, c :: cs, .cons h r => by
    obtain ⟨ks, h1, h2, h3⟩ := rep_tups r
    obtain ⟨b, rfl, hb⟩ := rep_tI h
    refine ⟨(b, c) :: ks, by rw [h1]; rfl, by rw [List.map_cons, h2], fun p hp => ?_⟩
    rcases List.mem_cons.mp hp with rfl | hp
    · exact ⟨hb, h⟩
    · exact h3 p hp
theorem dp_row {K : PySem.W.Frag} {H : Hp} : ∀ c : List Int, DpAll K H (c.map V.int) (iL c)
  | [] => .nil
  | i :: c => .cons (.int i) (dp_row c)
theorem dp_rows {K : PySem.W.Frag} {H : Hp} : ∀ {L : List (Addr × List Int)}, (∀ p ∈ L, SqT K H p.1 (p.2.map V.int)) → DpAll K H (L.map fun p => V.ref p.1) (L.map fun p => tI p.2)
  | [], _ => .nil
  | p :: L, h => .cons (.tup (h p List.mem_cons_self) (dp_row p.2)) (dp_rows fun q hq => h q (List.mem_cons_of_mem _ hq))
def rSortS (K : PySem.W.Frag) (P : Program) (w : World) : List V → Hp → VK → Prop := fun vs H Q => ∃ (a : Addr) (L : List (Addr × List Int)), vs = [V.ref a] ∧ H a = some (SetTO P w a L) ∧ (∀ p ∈ L, SqT K H p.1 (p.2.map V.int)) ∧
  ∀ L1 : List (Addr × List Int), L1.Perm L → (L1.map (·.2)).Nodup → ∀ l, H l = none → Q (.ref l) (upd H l (.lst ((((L1.map fun p => V.ref p.1).zip (L1.map fun p => tI p.2)).mergeSort (PySem.W.dataLe false (·.2))).map (·.1))))
section
variable {X : Cx} {W : WS} {U : XK} {S T : List Nat} {e a b c : Expr} {es : List Expr} {pos p p2 pos2 : Pos} {te ta tb : TE} {t : TA}
theorem cr_sortedS (hu : X.A.units + 130 < cLine) (hc : X.calm = true) : CallR X (.builtin "sorted") (rSortS X.K X.prog X.w) := by
  intro pins s σ H vs us Q I r h
  obtain ⟨a, L, rfl, ha, hk, q⟩ := h
  have R0 : SetT0 X.prog X.w s.heap a L := (I.hok a _ ha).1
  obtain ⟨es, ep, t, R⟩ := R0.full fun p hp => I.isT (hk p hp)
  rw [Vals.ref1 r]
  obtain ⟨o, ho, hex, hd⟩ := R.ob
  have h1 := R.size
  have h2 := R.few
  refine PySem.Calls.call_function_entry kind_sorted plain_sorted entry_sorted (args_sorted1 _) ?_
  unfold Builtin.«sorted»
  refine wpAny_bind (m := checkCount "sorted" 1 1 _) (wpAny_pure ?_)
  refine wpAny_bind (collect_set (A := X.A.in1) (I.ok.hd hc) ⟨o, ho, hex.1, hd⟩ R.fits (by unfold scanBound; omega) R.tab.ris R.led fun s1 out k1 hz g1 o1 pm => ?_)
  have hrows : es.toList.map (·.2) = L.map fun q => Value.ref q.1 := by
    rw [R.rows]
    unfold rowsOf
    rw [List.map_map]
    rfl
  rw [hrows] at pm
  obtain ⟨L1, p1, e1⟩ := L2.perm_lift (fun q : Addr × List Int => Value.ref q.1) pm L rfl
  subst e1
  have hl : L1.length < 64 := by rw [p1.length_eq]; exact h2
  have h1000 : (64 : Nat) ≤ sizeLine := by rw [sizeLine_eq]; decide
  refine wpAny_bind (wpAny_newList ?_ (by rw [List.length_map]; omega))
  exact wpAny_bind (wpAny_holding (wpAny_mono (sort_new2 (E := X.xe) I k1 g1 o1 hz (vals_of_refs L1) (dp_rows fun p hp => hk p (p1.mem_iff.mp hp)) (by have := sortOk_tups (L1.map (·.2)); rwa [List.map_map] at this) (by rw [List.length_map]; omega) hu (q L1 p1 ((p1.map (·.2)).nodup_iff.mpr R.nd))) (fun _ _ x => wpAny_pure ⟨_, rfl, x⟩) fun _ _ e => e))
def sortSetD (d : PyData) : Res (List PyData) := match d with
  | .list ds => (match tupsO ds with | some cs => if cs.length < 64 then .ok ((sortU cs).map tI) else .bot | none => .bot)
  | _ => .bot
theorem sortSet_tups {cs : List (List Int)} (h : cs.length < 64) : sortSetD (.list (cs.map tI)) = .ok ((sortU cs).map tI) := by
  unfold sortSetD
  dsimp only
  rw [tupsO_map]
  exact if_pos h
theorem sortSetD_ne (d : PyData) (z : Exn) : (sortSetD d).quiet := by
  unfold sortSetD
  split
  · split
    · split <;> exact True.intro
    · exact True.intro
  · exact True.intro
theorem df_sortedset (K) (P : Program) (w : World) {f : DSt → Res PyData} (hu : X.A.units + 130 < cLine) (hc : X.calm = true) (hg : Gl X "sorted") (hm : X.mg "sorted" = none) (hg2 : Gl X "set") (hm2 : X.mg "set" = none) (ha : DE X W S e te f) (hK : X.K = K := by rfl) (hP : X.prog = P := by rfl) (hw : X.w = w := by rfl)
    (he : starEach [e] X.env = (false, eval e X.env) :: starEach [] X.env := by rfl) (he2 : starEach [.Call (.Name "set" p2) [e] [] pos2] X.env = (false, eval (.Call (.Name "set" p2) [e] [] pos2) X.env) :: starEach [] X.env := by rfl) :
    DF X W S (.Call (.Name "sorted" p) [.Call (.Name "set" p2) [e] [] pos2] [] pos) (tCB (rSortS K P w) (tCons (tCB (rSetOfT K P w) (tCons te tNil)) tNil)) (u1LE sortSetD f) := by
  subst hK hP hw
  refine ⟨pe_callB (cr_sortedS hu hc) hg hm (by decide +kernel) (pa_cons (pe_callTy (cr_setOfT hc (by omega)) hg2 hm2 (by decide +kernel) (pa_cons ha.pe pa_nil he) (by decide) (by decide) he rfl) pa_nil he2) (by decide) (by decide) he2 rfl, fun Fz σ H δ Q hd hl h => ?_⟩
  unfold LOK u1LE at h
  rw [wp_bind] at h
  show te σ H fun x H1 => (rSetOfT X.K X.prog X.w) [x] H1 fun y H2 => (rSortS X.K X.prog X.w) [y] H2 Q
  refine ha.ok Fz σ H δ _ hd hl (wp_mono h (fun d hx v H1 F1 g1 r1 => ?_) fun x hx => hx)
  unfold sortSetD at hx
  split at hx
  · rename_i ds
    split at hx
    · rename_i cs hcs
      split at hx
      · rename_i h64
        rw [tupsO_some hcs] at r1
        cases r1 with
        | lst hh z rr =>
          obtain ⟨ks, e1, e2, e3⟩ := rep_tups rr
          subst e1
          refine ⟨_, ks, rfl, hh.sq, fun p hp => (e3 p hp).1, by rw [← List.length_map (f := fun q : Addr × List Int => q.2), e2]; exact h64, fun a L na l1 l2 => ?_⟩
          have gg : Grow F1 H1 F1 (upd H1 a (SetTO X.prog X.w a L)) := .nw na
          have lv : Live F1 (upd H1 a (SetTO X.prog X.w a L)) := gg.live (g1.live hl)
          refine ⟨a, L, rfl, upd_same, fun p hp => SqT.stay (Fz := F1) (.of_same gg.same) (e3 p (l1 p hp)).1, fun L1 pm nd l nl => ?_⟩
          have rall : RepAll X.K F1 (upd H1 a (SetTO X.prog X.w a L)) (L1.map fun p => V.ref p.1) (L1.map fun p => tI p.2) := by
            have key : ∀ M : List (Addr × List Int), (∀ p ∈ M, p ∈ ks) → RepAll X.K F1 (upd H1 a (SetTO X.prog X.w a L)) (M.map fun p => V.ref p.1) (M.map fun p => tI p.2) := by
              intro M
              induction M with
              | nil => exact fun _ => .nil
              | cons p M ih => exact fun h => .cons ((e3 p (h p List.mem_cons_self)).2.grow gg) (ih fun q hq => h q (List.mem_cons_of_mem _ hq))
            exact key L1 fun p hp => l1 p (pm.mem_iff.mp hp)
          have hlen : ((sortU cs).map tI).length ≤ sizeLine := by
            have h1000 : (64 : Nat) ≤ sizeLine := by rw [sizeLine_eq]; decide
            rw [List.length_map]
            unfold sortU
            rw [List.length_mergeSort]
            have : ∀ l : List (List Int), (ddup l).length ≤ l.length := by
              intro l
              induction l with
              | nil => exact Nat.le_refl _
              | cons x l ih =>
                unfold ddup
                split
                · rw [List.length_cons]; omega
                · rw [List.length_cons, List.length_cons]; omega
            have := this cs
            omega
          have hs : sortL (L1.map fun p => tI p.2) = (sortU cs).map tI := by
            have := sortU_of (cs := cs) nd fun c => by
              rw [← e2]
              constructor
              · intro h
                obtain ⟨p, hp, rfl⟩ := List.mem_map.mp h
                exact List.mem_map_of_mem (l1 p (pm.mem_iff.mp hp))
              · intro h
                obtain ⟨p, hp, rfl⟩ := List.mem_map.mp h
                exact (pm.map (·.2)).mem_iff.mpr (l2 p hp)
            rwa [List.map_map] at this
          refine hx l _ _ F1 ((g1.trans gg).trans (.nw nl)) (none_of_same (g1.trans gg).same nl) (notFz (H' := upd H1 a (SetTO X.prog X.w a L)) .refl lv nl) upd_same hlen (RepAll.grow (.nw nl) ?_)
          have hh2 := rep_of_zip (ps := ((L1.map fun p => V.ref p.1).zip (L1.map fun p => tI p.2)).mergeSort (PySem.W.dataLe false (fun p : V × PyData => p.2))) (fun p hp => zip_rep rall p ((List.mergeSort_perm _ _).mem_iff.mp hp))
          rw [mergeSort_snd, zip_snd rall, hs] at hh2
          exact hh2
      · exact hx.elim
    · exact hx.elim
  · exact hx.elim
end
end DL

set_option Elab.async false
set_option linter.all false
set_option maxRecDepth 100000
set_option maxHeartbeats 4000000
namespace DL
open PySem PySem.Spec L2
open PyProof.Rows hiding St
/-! ### xs[i] = e of a list of one's own -/
section
variable {X : Cx} {W : WS} {U : XK} {S T : List Nat} {e a b c : Expr} {es : List Expr} {pos p : Pos} {te ta tb : TE} {t : TA}
def lsetF (i : Nat) (S : List Nat) (fv : DSt → Res PyData) (fk : DSt → Res PyData) (δ : DSt) : Res Out :=
  match δ[i]? with
  | some (some (.own _)) => do
    let v ← fv δ
    let δ1 := if flat v then δ else freeze S 0 δ
    let k ← fk δ1
    match k, δ1[i]? with
    | .int j, some (some (.own xs)) => (match ixN xs.length j with | some j => .ok (.nx (δ1.set i (some (.own (xs.set j v))))) | none => .bot)
    | _, _ => .bot
  | _ => .bot
theorem RepAll.set {K : PySem.W.Frag} {Fz : FZ} {H : Hp} {v : V} {d : PyData} (r : Rep K Fz H v d) : ∀ {vs : List V} {ds : List PyData} (j : Nat), RepAll K Fz H vs ds → RepAll K Fz H (vs.set j v) (ds.set j d)
  | _, _, _, .nil => .nil
  | _, _, 0, .cons h t => .cons r t
  | _, _, j + 1, .cons h t => .cons h (RepAll.set r j t)
theorem ds_lset {i : Nat} {x : Str} {key value : Expr} {xpos pos' : Pos} {tk tv : TE} {fk fv : DSt → Res PyData} (hN : X.N[i]? = some x) (hv : Vis X.env.scope x) (he : DE X W S value tv fv) (hk : DE X W T key tk fk)
    (hs : swapsWithSole [.Subscript (.Name x xpos) key pos'] value pos.line X.env = pure false := by rfl) (hw : swappedStores [.Subscript (.Name x xpos) key pos'] value X.env = pure none := by rfl) (h1 : (assignEach [.Subscript (.Name x xpos) key pos'] X.env).map (·.2) = [assign (.Subscript (.Name x xpos) key pos') X.env] := by rfl)
    (ha : ∀ v, assign (.Subscript (.Name x xpos) key pos') X.env v = (do
      let ov ← holding [v] (eval (.Name x xpos) X.env)
      let iv ← holding [v, ov] (eval key X.env)
      standAt pos'
      holding [v, ov, iv] (setItem ov iv v)
      release [v, ov, iv] []) := by intro _; rfl) (hd : (x == ("__debug__" : Str)) = false := by decide) (hcd : (x == ("__classdict__" : Str)) = false := by decide) :
    DS X W (.Assign [.Subscript (.Name x xpos) key pos'] value pos) (tAsg tv (gSub (tVar i) tk rSetL)) (lsetF i S fv fk) := by
  refine ⟨ps_asg he.pe (pg_sub (pe_var (i := i) hN hv hd hcd) hk.pe set_list ha) hs hw h1, fun H0 Fz0 Fz H σ δ Dn r h => ?_⟩
  unfold SOK lsetF at h
  split at h
  · rename_i xs0 e1
    obtain ⟨a, e2, _⟩ := r.own i _ e1 rfl
    rw [wp_bind] at h
    refine atE he r (wp_mono h (fun v hv v' H1 F1 g1 r1 => ?_) fun x hx => hx)
    have fin : ∀ (F : FZ) (δ' : DSt), Rel X.K H0 Fz0 F H1 σ δ' → Rep X.K F H1 v' v → (do
        let k ← fk δ'
        match k, δ'[i]? with
        | .int j, some (some (.own xs)) => (match ixN xs.length j with | some j => (.ok (.nx (δ'.set i (some (.own (xs.set j v))))) : Res Out) | none => .bot)
        | _, _ => .bot).wp (OOK X.K H0 Fz0 Dn) (XOK X.mg (W σ) H0 Fz0) → (gSub (tVar i) tk rSetL) v' σ H1 Dn.nx := fun F δ' r' rv q => by
      refine ⟨.ref a, e2, ?_⟩
      rw [wp_bind] at q
      refine atE hk r' (wp_mono q (fun k hk' u H2 F2 g2 r2 => ?_) fun x hx => hx)
      split at hk'
      · rename_i j xs e3
        split at hk'
        · rename_i jj hj
          have r3 := r'.up g2.same
          have rv2 : Rep X.K F H2 v' v := rv.stay (.of_same g2.same) fun _ h => h
          obtain ⟨a', k2, k4, k5, vs, hh, hz, rr⟩ := r3.own i _ e3 rfl
          rw [e2] at k2
          cases k2
          cases r2
          refine ⟨a, vs, j, jj, rfl, rfl, hh, by rw [rr.length]; exact hj, ?_⟩
          exact hk' F _ σ (r3.write e3 rfl e2 fun H' st z => ⟨_, z, by rw [List.length_set]; exact hz, (RepAll.set rv2 jj rr).stay st fun _ h => h⟩)
        · exact hk'.elim
      · exact hk'.elim
    by_cases hf : flat v = true
    · simp only [hf, if_true] at hv
      exact fin Fz δ (r.up g1.same) (r1.flat hf) hv
    · simp only [hf, if_false] at hv
      exact fin F1 _ (r.frz g1) r1 hv
  · exact h.elim
end
end DL

set_option Elab.async false
set_option linter.all false
set_option maxRecDepth 100000
set_option maxHeartbeats 4000000
namespace DL
open PySem PySem.Spec L2
open PyProof.Rows hiding St
/-! ### y = xs.pop(e), y = xs.pop() of a list of one's own -/
section
variable {X : Cx} {W : WS} {U : XK} {S T : List Nat} {e a b c : Expr} {es : List Expr} {pos p : Pos} {te ta tb : TE} {t : TA}
theorem RepAll.erase {K : PySem.W.Frag} {Fz : FZ} {H : Hp} : ∀ {vs : List V} {ds : List PyData} (j : Nat), RepAll K Fz H vs ds → RepAll K Fz H (vs.eraseIdx j) (ds.eraseIdx j)
  | _, _, _, .nil => .nil
  | _, _, 0, .cons h t => t
  | _, _, j + 1, .cons h t => .cons h (RepAll.erase j t)
def popAt1 (i j : Nat) (δ : DSt) (xs : List PyData) (z : Int) : Res Out := match ixN xs.length z with
  | some n => (match xs[n]? with
    | some d => .ok (.nx ((δ.set i (some (.own (xs.eraseIdx n)))).set j (some (.val d))))
    | none => .bot)
  | none => .bot
def popAtF (i : Nat) (fk : DSt → Res PyData) (j : Nat) (δ : DSt) : Res Out := match δ[i]? with
  | some (some (.own xs)) => do
    let k ← fk δ
    match k with
    | .int z => popAt1 i j δ xs z
    | _ => .bot
  | _ => .bot
theorem ds_popAt {i j : Nat} {x y : Str} {f : DSt → Res PyData} {apos cpos xpos py : Pos} (hN : X.N.Nodup) (hi : X.N[i]? = some x) (hv : Vis X.env.scope x) (hj : X.N[j]? = some y) (hy : L2.Loc X.env.scope y) (he : DE X W S e te f)
    (hf : X.fn y = true ∨ X.env.scope.names.lookup y = some .local := by first | exact .inl rfl | exact .inr rfl | assumption)
    (hbase : attributeBase (.Name x xpos) "pop" X.env (eval (.Name x xpos) X.env) = eval (.Name x xpos) X.env := by rfl)
    (hfew : ((backTo cpos (starEach [e] X.env)).all (fun x => !x.1) && (backToKw cpos (keywordEach [] X.env)).all (fun x => x.1.isSome)
      && decide ([e].length + ([] : List Keyword).length + (if ([] : List Keyword).isEmpty then 0 else 1) < 30)) = true := by rfl)
    (hline : (apos.endLine == cpos.line) = true := by rfl) (hs : starEach [e] X.env = (false, eval e X.env) :: starEach [] X.env := by rfl) (hplain : (backTo cpos (starEach [] X.env)).any (·.1) = false := by rfl)
    (hsw : swapsWith (.Call (.Attribute (.Name x xpos) "pop" apos) [e] [] cpos) (some (.Name y py)) pos.line X.env = pure false := by rfl) (hd : (x == ("__debug__" : Str)) = false := by decide) (hcd : (x == ("__classdict__" : Str)) = false := by decide) :
    DS X W (.Assign [.Name y py] (.Call (.Attribute (.Name x xpos) "pop" apos) [e] [] cpos) pos) (tAsg (tBM X.K "list" rPopAt (tVar i) (tCons te tNil)) (gName j)) (popAtF i f j) := by
  refine ⟨ps_set hN hj hy (pe_bm PySem.F.plainAttrs_list PySem.F.slot_list_pop PySem.F.type_list_pop mt_popAt (pe_var (i := i) hi hv hd hcd) (pa_cons he.pe pa_nil hs) hbase hfew hline hs hplain) hsw hf, fun H0 Fz0 Fz H σ δ Dn r h => ?_⟩
  unfold SOK popAtF at h
  split at h
  · rename_i xs e1
    obtain ⟨a, e2, e4, e5, vs, e3, e6, e7⟩ := r.own i _ e1 rfl
    rw [wp_bind] at h
    refine ⟨.ref a, e2, .inl ⟨rfl, _, .of e3⟩, ?_⟩
    refine atE he r (wp_mono h (fun k hk u H1 F1 g1 r1 => ?_) fun x hx => hx)
    split at hk
    · rename_i z
      unfold popAt1 at hk
      split at hk
      · rename_i n hn
        split at hk
        · rename_i d hdd
          cases r1
          have r2 := r.up g1.same
          obtain ⟨a', k2, k4, k5, vs2, hh, hz, rr⟩ := r2.own i _ e1 rfl
          rw [e2] at k2
          cases k2
          obtain ⟨w, hw, rw'⟩ := rr.get hdd
          obtain ⟨b1, b2, b3, b4⟩ := ixN_seq hn
          have hlen := rr.length
          refine ⟨a, vs2, z, n, w, rfl, rfl, hh, by have := line63; omega, by have := line63; omega, by rw [hlen]; assumption, hw, ?_⟩
          have r3 := r2.write (o := .lst (vs2.eraseIdx n)) (s' := .own (xs.eraseIdx n)) e1 rfl e2 fun H' st q => ⟨_, q, Nat.le_trans (List.length_eraseIdx_le ..) hz, (RepAll.erase n rr).stay st fun _ h => h⟩
          have st : Stay Fz H1 (upd H1 a (.lst (vs2.eraseIdx n))) := .write k5 hh ⟨(fun _ h => by cases h), (fun _ _ h => by cases h)⟩
          exact hk Fz _ _ (r3.setVal (rw'.stay st fun _ h => h) j)
        · exact hk.elim
      · exact hk.elim
    · exact hk.elim
  · exact h.elim
/-- .. the last one -/
def popF (i j : Nat) (δ : DSt) : Res Out := match δ[i]? with
  | some (some (.own xs)) => (match xs[xs.length - 1]? with
    | some d => .ok (.nx ((δ.set i (some (.own xs.dropLast))).set j (some (.val d))))
    | none => .bot)
  | _ => .bot
theorem RepAll.dropLast {K : PySem.W.Frag} {Fz : FZ} {H : Hp} {vs : List V} {ds : List PyData} (r : RepAll K Fz H vs ds) : RepAll K Fz H vs.dropLast ds.dropLast := by
  rw [List.dropLast_eq_take, List.dropLast_eq_take, r.length]
  exact r.take _
theorem ds_pop {i j : Nat} {x y : Str} {apos cpos xpos py : Pos} (hN : X.N.Nodup) (hi : X.N[i]? = some x) (hv : Vis X.env.scope x) (hj : X.N[j]? = some y) (hy : L2.Loc X.env.scope y)
    (hf : X.fn y = true ∨ X.env.scope.names.lookup y = some .local := by first | exact .inl rfl | exact .inr rfl | assumption)
    (hbase : attributeBase (.Name x xpos) "pop" X.env (eval (.Name x xpos) X.env) = eval (.Name x xpos) X.env := by rfl) (hline : (apos.endLine == cpos.line) = true := by rfl)
    (hsw : swapsWith (.Call (.Attribute (.Name x xpos) "pop" apos) [] [] cpos) (some (.Name y py)) pos.line X.env = pure false := by rfl) (hd : (x == ("__debug__" : Str)) = false := by decide) (hcd : (x == ("__classdict__" : Str)) = false := by decide) :
    DS X W (.Assign [.Name y py] (.Call (.Attribute (.Name x xpos) "pop" apos) [] [] cpos) pos) (tAsg (tBM0 X.K "list" rPop (tVar i)) (gName j)) (popF i j) := by
  refine ⟨ps_set hN hj hy (pe_bm0 PySem.F.plainAttrs_list PySem.F.slot_list_pop PySem.F.type_list_pop mt_pop (pe_var (i := i) hi hv hd hcd) hbase hline) hsw hf, fun H0 Fz0 Fz H σ δ Dn r h => ?_⟩
  unfold SOK popF at h
  split at h
  · rename_i xs e1
    obtain ⟨a, e2, e4, e5, vs, e3, e6, e7⟩ := r.own i _ e1 rfl
    split at h
    · rename_i d hdd
      obtain ⟨w, hw, rw'⟩ := e7.get hdd
      have r3 := r.write (o := .lst vs.dropLast) (s' := .own xs.dropLast) e1 rfl e2 fun H' st q => ⟨_, q, Nat.le_trans (by rw [List.length_dropLast]; exact Nat.sub_le _ _) e6, e7.dropLast.stay st fun _ h => h⟩
      have st : Stay Fz H (upd H a (.lst vs.dropLast)) := .write e5 e3 ⟨(fun _ h => by cases h), (fun _ _ h => by cases h)⟩
      exact ⟨.ref a, e2, .inl ⟨rfl, _, .of e3⟩, a, vs, w, rfl, rfl, e3, by rw [e7.length]; exact hw, h Fz _ _ (r3.setVal (rw'.stay st fun _ h => h) j)⟩
    · exact h.elim
  · exact h.elim
end
end DL

set_option Elab.async false
set_option linter.all false
set_option maxRecDepth 100000
set_option maxHeartbeats 4000000
namespace DL
open PySem PySem.Spec L2
open PyProof.Rows hiding St
/-! ### nothing is told (the end of a recursion's fuel) -/
theorem dss_bot {X : Cx} {W : WS} {st : List Stmt} : DSs X W st (fun _ _ _ => False) (fun _ => .bot) := ⟨⟨fun _ _ _ _ _ _ h => h.elim⟩, fun _ _ _ _ _ _ _ _ h => h.elim⟩
/-! ### displays with *xs -/
structure DAS (X : Cx) (W : WS) (S : List Nat) (es : List Expr) (t : TA) (f : DSt → Res (List PyData)) : Prop where
  pe : PA X es t
  ok : ∀ Fz σ H δ Q, RdOn X.K S Fz H σ δ → Live Fz H → AOK X.K X.mg (W σ) Fz H (f δ) Q → t σ H Q
section
variable {X : Cx} {W : WS} {U : XK} {S T : List Nat} {e a b c : Expr} {es : List Expr} {pos p : Pos} {te ta tb : TE} {t : TA}
theorem DA.das {f : DSt → Res (List PyData)} (h : DA X W S es t f) : DAS X W S es t f := ⟨h.pe, h.ok⟩
theorem das_cons {f : DSt → Res PyData} {g : DSt → Res (List PyData)} (ha : DE X W S e te f) (hr : DAS X W T es t g) (hs : starEach (e :: es) X.env = (false, eval e X.env) :: starEach es X.env := by rfl) : DAS X W (S ++ T) (e :: es) (tCons te t) (aCons f g) := by
  refine ⟨pa_cons ha.pe hr.pe hs, fun Fz σ H δ Q hd hl h => ?_⟩
  unfold AOK aCons at h
  rw [wp_bind] at h
  refine ha.ok Fz σ H δ _ hd.left hl (wp_mono h (fun x hx v H1 F1 g1 r1 => ?_) fun x hx => hx)
  rw [wp_bind] at hx
  refine hr.ok F1 σ H1 δ _ (hd.right.grow g1) (g1.live hl) (wp_mono hx (fun xs hxs vs H2 F2 g2 r2 => ?_) fun x hx c oe H2 F2 g2 r2 => hx c oe H2 F2 (g1.trans g2) r2)
  exact hxs _ H2 F2 (g1.trans g2) (.cons (r1.grow g2) r2)
def stF (f : DSt → Res PyData) (g : DSt → Res (List PyData)) : DSt → Res (List PyData) := fun δ => do
  let x ← f δ
  match x with
  | .list xs => do let ys ← g δ; .ok (xs ++ ys)
  | .tuple xs => do let ys ← g δ; .ok (xs ++ ys)
  | _ => .bot
theorem das_starK (K) {f : DSt → Res PyData} {g : DSt → Res (List PyData)} (ha : DE X W S e te f) (hr : DAS X W T es t g) (hK : X.K = K := by rfl) (hs : starEach (.Starred e p :: es) X.env = (true, eval e X.env) :: starEach es X.env := by rfl) : DAS X W (S ++ T) (.Starred e p :: es) (StX.tStar K te t) (stF f g) := by
  subst hK
  refine ⟨StX.pa_star ha.pe hr.pe hs, fun Fz σ H δ Q hd hl h => ?_⟩
  unfold AOK stF at h
  rw [wp_bind] at h
  refine ha.ok Fz σ H δ _ hd.left hl (wp_mono h (fun x hx v H1 F1 g1 r1 => ?_) fun x hx => hx)
  cases x with
  | list xs =>
    cases r1 with
    | lst hh z rr =>
      have hx : Res.wp (g δ >>= fun ys => .ok (xs ++ ys)) _ _ := hx
      rw [wp_bind] at hx
      refine ⟨_, _, rfl, .inr hh.sq, hr.ok F1 σ H1 δ _ (hd.right.grow g1) (g1.live hl) (wp_mono hx (fun ys hy vs H2 F2 g2 r2 => ?_) fun x hx c oe H2 F2 g2 r2 => hx c oe H2 F2 (g1.trans g2) r2)⟩
      exact hy _ H2 F2 (g1.trans g2) ((rr.grow g2).app r2)
  | tuple xs =>
    cases r1 with
    | tup hh z rr =>
      have hx : Res.wp (g δ >>= fun ys => .ok (xs ++ ys)) _ _ := hx
      rw [wp_bind] at hx
      refine ⟨_, _, rfl, .inl hh.sq, hr.ok F1 σ H1 δ _ (hd.right.grow g1) (g1.live hl) (wp_mono hx (fun ys hy vs H2 F2 g2 r2 => ?_) fun x hx c oe H2 F2 g2 r2 => hx c oe H2 F2 (g1.trans g2) r2)⟩
      exact hy _ H2 F2 (g1.trans g2) ((rr.grow g2).app r2)
  | _ => exact hx.elim
theorem de_tupS {x1} {f : DSt → Res (List PyData)} (h : DAS X W S es t f) : DE X W S (.Tuple es x1 pos) (tTupZ t) (u1A tupD f) := by
  refine ⟨pe_tupZ h.pe, fun Fz σ H δ Q hd hl hq => ?_⟩
  unfold EOK u1A at hq
  rw [wp_bind] at hq
  refine h.ok Fz σ H δ _ hd hl (wp_mono hq (fun ds hx vs H1 F1 g1 r1 => ?_) fun x hx => hx)
  unfold tupD at hx
  split at hx
  · rename_i hz
    exact ⟨by rw [r1.length]; exact hz, newT_rep hz r1 fun v H2 F2 g2 r2 => hx v H2 F2 (g1.trans g2) r2⟩
  · exact hx.elim
theorem df_lstS {f : DSt → Res (List PyData)} (h : DAS X W S es t f) : DF X W S (.List es pos) (tLst t) (u1L lstD f) := by
  refine ⟨pe_lst h.pe, fun Fz σ H δ Q hd hl hq => ?_⟩
  unfold LOK u1L at hq
  rw [wp_bind] at hq
  refine h.ok Fz σ H δ _ hd hl (wp_mono hq (fun ds hx vs H1 F1 g1 r1 => ?_) fun x hx => hx)
  unfold lstD at hx
  split at hx
  · rename_i hz
    exact ⟨by rw [r1.length]; exact hz, fun p np => hx p _ _ F1 (g1.trans (.nw np)) (none_of_same g1.same np) (notFz .refl (g1.live hl) np) upd_same hz (r1.grow (.nw np))⟩
  · exact hx.elim
end
end DL

set_option Elab.async false
set_option linter.all false
set_option maxRecDepth 100000
set_option maxHeartbeats 4000000
namespace DL
open PySem PySem.Spec L2
open PyProof.Rows hiding St
/-! ### max, min of a list of whole numbers -/
def intsO : List PyData → Option (List Int)
  | [] => some []
  | .int i :: ds => (intsO ds).map (i :: ·)
  | _ :: _ => none
theorem intsO_some : ∀ {ds : List PyData} {c : List Int}, intsO ds = some c → ds = iL c
  | [], c, h => by cases h; rfl
  | d :: ds, c, h => by
    cases d with
    | int i =>
      rw [intsO] at h
      cases q : intsO ds with
      | none => rw [q] at h; cases h
      | some l =>
        rw [q] at h
        cases h
        rw [intsO_some q]
        rfl
    | _ => rw [intsO] at h; cases h; intro _ e; cases e
theorem intsO_iL : ∀ c : List Int, intsO (iL c) = some c
  | [] => rfl
  | i :: c => by
    show (intsO (iL c)).map (i :: ·) = _
    rw [intsO_iL c]; rfl
def maxI : List Int → Int
  | [] => 0
  | [x] => x
  | x :: r => max x (maxI r)
def minI : List Int → Int
  | [] => 0
  | [x] => x
  | x :: r => min x (minI r)
theorem maxI_ge : ∀ (l : List Int) (y : Int), y ∈ l → y ≤ maxI l
  | [x], y, h => by rw [List.mem_singleton.mp h]; exact Int.le_refl _
  | x :: z :: r, y, h => by
    show y ≤ max x (maxI (z :: r))
    rcases List.mem_cons.mp h with rfl | h
    · omega
    · have := maxI_ge (z :: r) y h; omega
theorem minI_le : ∀ (l : List Int) (y : Int), y ∈ l → minI l ≤ y
  | [x], y, h => by rw [List.mem_singleton.mp h]; exact Int.le_refl _
  | x :: z :: r, y, h => by
    show min x (minI (z :: r)) ≤ y
    rcases List.mem_cons.mp h with rfl | h
    · omega
    · have := minI_le (z :: r) y h; omega
theorem maxI_mem : ∀ (l : List Int), l ≠ [] → maxI l ∈ l
  | [], h => absurd rfl h
  | [x], _ => by simp [maxI]
  | x :: z :: r, _ => by
    show max x (maxI (z :: r)) ∈ _
    have := maxI_mem (z :: r) (by simp)
    rcases Int.le_total x (maxI (z :: r)) with q | q
    · rw [Int.max_eq_right q]; exact List.mem_cons_of_mem _ this
    · rw [Int.max_eq_left q]; exact List.mem_cons_self
theorem minI_mem : ∀ (l : List Int), l ≠ [] → minI l ∈ l
  | [], h => absurd rfl h
  | [x], _ => by simp [minI]
  | x :: z :: r, _ => by
    show min x (minI (z :: r)) ∈ _
    have := minI_mem (z :: r) (by simp)
    rcases Int.le_total x (minI (z :: r)) with q | q
    · rw [Int.min_eq_left q]; exact List.mem_cons_self
    · rw [Int.min_eq_right q]; exact List.mem_cons_of_mem _ this
theorem rep_row {K : PySem.W.Frag} {Fz : FZ} {H : Hp} : ∀ {vs : List V} {c : List Int}, RepAll K Fz H vs (iL c) → vs = c.map V.int
  | _, [], .nil => rfl
  | _, i :: c, .cons h r => by
    cases h
    rw [rep_row r]
    rfl
def maxLD (ds : List PyData) : Res PyData := match ds with | [.list xs] => (match intsO xs with | some (x :: r) => .ok (.int (maxI (x :: r))) | _ => .bot) | _ => .bot
def minLD (ds : List PyData) : Res PyData := match ds with | [.list xs] => (match intsO xs with | some (x :: r) => .ok (.int (minI (x :: r))) | _ => .bot) | _ => .bot
section
variable {X : Cx}
theorem cd_maxLK (K) (hc : X.calm = true) (hK : X.K = K := by rfl) : CallD X (.builtin "max") (rMax K) maxLD := by
  subst hK
  refine ⟨cr_max hc, fun Fz H ds vs Q hl r q => ?_, fun ds z => by unfold maxLD; split <;> first | (split <;> exact True.intro) | exact True.intro⟩
  unfold maxLD at q
  split at q
  · split at q
    · rename_i xs x r' hx
      cases r with
      | cons h r =>
        cases r
        cases h with
        | lst hh z rr =>
          rw [intsO_some hx] at rr
          have e := rep_row rr
          subst e
          refine ⟨_, x :: r', rfl, hh.sq, by simp, fun m h1 h2 => ?_⟩
          have hm : m = maxI (x :: r') := by
            have a := maxI_ge _ m h1
            have b := h2 _ (maxI_mem (x :: r') (by simp))
            omega
          rw [hm]
          exact q.at (.int _)
    · exact q.elim
  · exact q.elim
theorem cd_minLK (K) (hc : X.calm = true) (hK : X.K = K := by rfl) : CallD X (.builtin "min") (rMin K) minLD := by
  subst hK
  refine ⟨cr_min hc, fun Fz H ds vs Q hl r q => ?_, fun ds z => by unfold minLD; split <;> first | (split <;> exact True.intro) | exact True.intro⟩
  unfold minLD at q
  split at q
  · split at q
    · rename_i xs x r' hx
      cases r with
      | cons h r =>
        cases r
        cases h with
        | lst hh z rr =>
          rw [intsO_some hx] at rr
          have e := rep_row rr
          subst e
          refine ⟨_, x :: r', rfl, hh.sq, by simp, fun m h1 h2 => ?_⟩
          have hm : m = minI (x :: r') := by
            have a := minI_le _ m h1
            have b := h2 _ (minI_mem (x :: r') (by simp))
            omega
          rw [hm]
          exact q.at (.int _)
    · exact q.elim
  · exact q.elim
end
end DL

set_option Elab.async false
set_option linter.all false
set_option maxRecDepth 100000
set_option maxHeartbeats 4000000
namespace DL
open PySem PySem.Spec L2
open PyProof.Rows hiding St
/-! ### sum of a list of whole numbers -/
def sumLD (ds : List PyData) : Res PyData := match ds with | [.list xs] => (match intsO xs with | some c => .ok (.int c.sum) | none => .bot) | _ => .bot
theorem cd_sumLK {X : Cx} (K) (hc : X.calm = true) (hK : X.K = K := by rfl) : CallD X (.builtin "sum") (rSum K) sumLD := by
  subst hK
  refine ⟨cr_sum hc, fun Fz H ds vs Q hl r q => ?_, fun ds z => by unfold sumLD; split <;> first | (split <;> exact True.intro) | exact True.intro⟩
  unfold sumLD at q
  split at q
  · split at q
    · rename_i xs c hx
      cases r with
      | cons h r =>
        cases r
        cases h with
        | lst hh z rr =>
          rw [intsO_some hx] at rr
          have e := rep_row rr
          subst e
          exact ⟨_, c, rfl, hh.sq, q.at (.int _)⟩
    · exact q.elim
  · exact q.elim
end DL

set_option Elab.async false
set_option linter.all false
set_option maxRecDepth 100000
set_option maxHeartbeats 4000000
namespace DL
open PySem PySem.Spec L2
open PyProof.Rows hiding St

/-! ### slots that are read no more are forgotten -/
theorem Rel.clr {K : PySem.W.Frag} {H0 H : Hp} {Fz0 Fz : FZ} {σ : St} {δ : DSt} (r : Rel K H0 Fz0 Fz H σ δ) (vs : List Nat) : Rel K H0 Fz0 Fz H σ (wipeD δ vs) :=
  ⟨r.same, r.sub0, r.new0, r.live, by rw [wipeD_length]; exact r.len, fun i d e => r.val i d (wipeD_some e).1, fun i s e ho => r.ownF i s (wipeD_some e).1 ho,
    fun i j s u a b x hij e1 o1 e2 o2 h1 h2 f1 f2 => r.sepF i j s u a b x hij (wipeD_some e1).1 o1 (wipeD_some e2).1 o2 h1 h2 f1 f2⟩
def clr (vs : List Nat) (f : DSt → Res Out) : DSt → Res Out := fun δ => f (wipeD δ vs)
section
variable {X : Cx} {W : WS} {U : XK} {S T : List Nat} {tg : Expr} {pos : Pos} {ts : TS} {st : Stmt} {b : List Stmt} {f : DSt → Res Out}
theorem ds_clr (vs : List Nat) (h : DS X W st ts f) : DS X W st ts (clr vs f) := ⟨h.pe, fun H0 Fz0 Fz H σ δ Dn r q => h.ok H0 Fz0 Fz H σ _ Dn (r.clr vs) q⟩
theorem dss_clr (vs : List Nat) (h : DSs X W b ts f) : DSs X W b ts (clr vs f) := ⟨h.pe, fun H0 Fz0 Fz H σ δ Dn r q => h.ok H0 Fz0 Fz H σ _ Dn (r.clr vs) q⟩
def forFC (S vs : List Nat) (g : DSt → Res (List PyData)) (p : Pat) (body : DSt → Res Out) (δ : DSt) : Res Out := do
  let xs ← g δ
  forGo p body xs (wipeD (freeze S 0 δ) vs)
theorem ds_forC (vs : List Nat) {iter : Expr} {body : List Stmt} {wi : TI} {g : TG} {p : Pat} {tb : TS} {f : DSt → Res (List PyData)} {fb : DSt → Res Out} (hp : PassesOwn (model X.prog X.w) X.A X.env X.xe) (hc : X.calm = true) (hi : DI X (fun _ => U) S tg iter wi f) (hg : DG X tg g p) (hb : DSs X (fun _ => U) body tb fb)
    (hs : ∀ x, foldedSetIterable iter X.env x = pure x := by intro _; rfl) : DS X (fun _ => U) (.For tg iter body [] pos) (tFor wi g tb) (forFC S vs f p fb) := by
  refine ⟨ps_for hp hc hi.pe hg.pe hb.pe hs, fun H0 Fz0 Fz H σ δ Dn r h => ?_⟩
  unfold SOK forFC at h
  rw [wp_bind] at h
  refine hi.ok _ σ H δ _ r.rd r.ownLive (wp_mono h (fun ds hd J H1 F1 g1 sv => ?_) fun x hx c oe H1 F1 g q => hx c oe H1 F1 (r.grow0 g) q)
  exact for_core hg hb sv ((r.frz g1).clr vs) hd
def forRC (vs : List Nat) (g : DSt → Res (List PyData)) (p : Pat) (body : DSt → Res Out) (δ : DSt) : Res Out := do
  let xs ← g δ
  forGo p body xs (wipeD δ vs)
theorem ds_forRC (vs : List Nat) {iter : Expr} {body : List Stmt} {wi : TI} {g : TG} {p : Pat} {tb : TS} {f : DSt → Res (List PyData)} {fb : DSt → Res Out} (hp : PassesOwn (model X.prog X.w) X.A X.env X.xe) (hc : X.calm = true) (hi : DR X (fun _ => U) S tg iter wi f) (hg : DG X tg g p) (hb : DSs X (fun _ => U) body tb fb)
    (hs : ∀ x, foldedSetIterable iter X.env x = pure x := by intro _; rfl) : DS X (fun _ => U) (.For tg iter body [] pos) (tFor wi g tb) (forRC vs f p fb) := by
  refine ⟨ps_for hp hc hi.pe hg.pe hb.pe hs, fun H0 Fz0 Fz H σ δ Dn r h => ?_⟩
  unfold SOK forRC at h
  rw [wp_bind] at h
  refine hi.ok _ σ H δ _ r.rd r.ownLive (wp_mono h (fun ds hd J H1 F1 g1 sv => ?_) fun x hx c oe H1 F1 g q => hx c oe H1 F1 (r.grow0 g) q)
  exact for_core hg hb (sv Fz H1) ((r.up g1.same).clr vs) hd
end
theorem ev_clr (vs f δ) : clr vs f δ = f (wipeD δ vs) := rfl
@[simp] theorem ev_forRC (vs g p b δ) : forRC vs g p b δ = (g δ >>= fun xs => forGo p b xs (wipeD δ vs)) := rfl
@[simp] theorem ev_forFC (S vs g p b δ) : forFC S vs g p b δ = (g δ >>= fun xs => forGo p b xs (wipeD (freeze S 0 δ) vs)) := rfl

/-! ### a list that its name's holder never changes is a value at once -/
theorem Rel.frzAt {K : PySem.W.Frag} {H0 H : Hp} {Fz0 Fz : FZ} {σ : St} {δ : DSt} (r : Rel K H0 Fz0 Fz H σ δ) (S : List Nat) : ∃ F1, Rel K H0 Fz0 F1 H σ (freeze S 0 δ) :=
  ⟨withOwn Fz H σ δ S, r.frz (S := S) (F1 := withOwn Fz H σ δ S) .refl⟩
theorem freeze_at {i : Nat} {xs : List PyData} (δ : DSt) (h : ∀ s, δ[i]? = some s → True) : freeze [i] 0 (δ.set i (some (.own xs))) = δ.set i (some (.val (.list xs))) := by
  apply List.ext_getElem?
  intro j
  rw [freeze_get, Nat.zero_add]
  by_cases hij : i = j
  · subst hij
    by_cases hl : i < δ.length
    · rw [List.getElem?_set_self hl, List.getElem?_set_self hl]
      simp [frzS]
    · rw [List.getElem?_eq_none (by rw [List.length_set]; omega), List.getElem?_eq_none (by rw [List.length_set]; omega)]
      rfl
  · rw [List.getElem?_set_ne hij, List.getElem?_set_ne hij]
    have : ¬ j = i := fun h => hij h.symm
    simp [this]
def asgLV (S : List Nat) (f : DSt → Res (List PyData)) (i : Nat) (δ : DSt) : Res Out := do
  let xs ← f δ
  .ok (.nx ((if flatAll xs then δ else freeze S 0 δ).set i (some (.val (.list xs)))))

section
variable {X : Cx} {W : WS} {U : XK} {S T : List Nat} {st : Stmt} {ts : TS}
theorem ds_toVal {i : Nat} {f : DSt → Res (List PyData)} (h : DS X W st ts (asgO S f i)) : DS X W st ts (asgLV S f i) := by
  refine ⟨h.pe, fun H0 Fz0 Fz H σ δ Dn r q => h.ok H0 Fz0 Fz H σ δ Dn r ?_⟩
  unfold SOK asgLV at q
  unfold SOK asgO
  rw [wp_bind] at q ⊢
  refine wp_mono q (fun xs hx F1 H1 σ1 r1 => ?_) fun x hx => hx
  obtain ⟨F2, r2⟩ := r1.frzAt [i]
  rw [freeze_at _ fun _ _ => trivial] at r2
  exact hx F2 H1 σ1 r2
/-! ### a, b = c, d -/
def parF (i j : Nat) (S : List Nat) (f : DSt → Res (List PyData)) (δ : DSt) : Res Out := do
  let ds ← f δ
  match ds with
  | [a, b] => .ok (.nx (((if flatAll ds then δ else freeze S 0 δ).set i (some (.val a))).set j (some (.val b))))
  | _ => .bot
theorem ds_par {i j : Nat} {x y : Str} {a b : Expr} {ta : TA} {px py pt pos : Pos} {kt k2 pt2} {f : DSt → Res (List PyData)} (hc : X.calm = true) (hN : X.N.Nodup) (hi : X.N[i]? = some x) (hj : X.N[j]? = some y) (hij : i ≠ j)
    (hx : X.env.scope.names.lookup x = some .local) (hy : X.env.scope.names.lookup y = some .local) (ha : DA X W S [a, b] ta f)
    (hw : swappedStores [.Tuple [.Name x px, .Name y py] kt pt] (.Tuple [a, b] k2 pt2) X.env = pure (some [x, y]))
    (hs : swapsWithSole [.Tuple [.Name x px, .Name y py] kt pt] (.Tuple [a, b] k2 pt2) pos.line X.env = pure false := by rfl) :
    DS X W (.Assign [.Tuple [.Name x px, .Name y py] kt pt] (.Tuple [a, b] k2 pt2) pos) (tPar i j ta) (parF i j S f) := by
  refine ⟨ps_par hc hN hi hj hij hx hy ha.pe hw hs, fun H0 Fz0 Fz H σ δ Dn r q => ?_⟩
  unfold SOK parF at q
  rw [wp_bind] at q
  refine ha.ok _ σ H δ _ r.rd r.ownLive (wp_mono q (fun ds hd vs H1 F1 g1 r1 => ?_) fun x hx c oe H1 F1 g z => hx c oe H1 F1 (r.grow0 g) z)
  match ds, r1, hd with
  | [d, e], .cons (v := v) rv (.cons (v := w) rw' .nil), hd =>
    refine ⟨v, w, rfl, ?_⟩
    by_cases hf : flatAll [d, e] = true
    · simp only [hf, if_true] at hd
      have hf' := hf
      rw [flatAll, flatAll, flatAll, Bool.and_true, Bool.and_eq_true] at hf'
      exact hd Fz H1 _ (((r.up g1.same).setVal (rv.flat hf'.1) i).setVal (rw'.flat hf'.2) j)
    · simp only [hf, if_false] at hd
      exact hd F1 H1 _ (((r.frz g1).setVal rv i).setVal rw' j)
  | [], .nil, hd => exact hd.elim
  | [d], .cons _ .nil, hd => exact hd.elim
  | d :: e :: g :: l, .cons _ (.cons _ (.cons _ _)), hd => exact hd.elim
end
@[simp] theorem ev_parF (i j S f δ) : parF i j S f δ = (f δ >>= fun ds => match ds with
  | [a, b] => .ok (.nx (((if flatAll ds then δ else freeze S 0 δ).set i (some (.val a))).set j (some (.val b))))
  | _ => .bot) := rfl
end DL

set_option Elab.async false
set_option linter.all false
set_option maxRecDepth 100000
set_option maxHeartbeats 4000000
namespace DL
open PySem PySem.Spec L2
open PyProof.Rows hiding St

/-! ### new lists: xs + ys, xs[a:b] -/
def addLD (x y : PyData) : Res (List PyData) := match x, y with
  | .list xs, .list ys => if xs.length + ys.length ≤ sizeLine then .ok (xs ++ ys) else .bot
  | _, _ => .bot
abbrev b2L (g : PyData → PyData → Res (List PyData)) (fa fb : DSt → Res PyData) : DSt → Res (List PyData) := fun δ => do let x ← fa δ; let y ← fb δ; g x y
section
variable {X : Cx} {W : WS} {U : XK} {S T : List Nat} {e a b c : Expr} {pos p2 : Pos} {te ta tb : TE} {lo hi : Option Expr} {tl th : TO} {V : List Nat}
theorem df_addK (K) {fa fb : DSt → Res PyData} (ha : DE X W S a ta fa) (hb : DE X W T b tb fb) (hK : X.K = K := by rfl) : DF X W (S ++ T) (.BinOp a .Add b pos) (tOp (rCatL K) ta tb) (b2L addLD fa fb) := by
  subst hK
  refine ⟨pe_op op_catL ha.pe hb.pe, fun Fz σ H δ Q hd hl h => ?_⟩
  unfold LOK b2L at h
  rw [wp_bind] at h
  refine two ha.ok hb.ok hd hl (wp_mono h (fun x hx => ?_) fun x hx => hx)
  rw [wp_bind] at hx
  refine wp_mono hx (fun y hy v u H' F' g' l' r1 r2 => ?_) fun x hx => hx
  unfold addLD at hy
  cases x with
  | list xs =>
    cases y with
    | list ys =>
      by_cases hz : xs.length + ys.length ≤ sizeLine
      · simp only [hz, if_true] at hy
        cases r1 with
        | lst h1 z1 a1 =>
          cases r2 with
          | lst h2 z2 a2 =>
            exact ⟨_, _, _, _, rfl, rfl, h1.sq, h2.sq, by rw [a1.length, a2.length]; exact hz, fun p np => hy p _ _ F' (g'.trans (.nw np)) (none_of_same g'.same np) (fun q => l' p q np) upd_same (by rw [List.length_append]; exact hz) ((a1.app a2).grow (.nw np))⟩
      · simp only [hz, if_false] at hy
        exact hy.elim
    | _ => exact hy.elim
  | _ => exact hy.elim
def sliceLD (x : PyData) (lo hi : Option Int) : Res (List PyData) := match x with
  | .list xs => .ok (cutD xs lo hi)
  | _ => .bot
abbrev slLF (f : DSt → Res PyData) (fl fh : DSt → Res (Option Int)) : DSt → Res (List PyData) := fun δ => do let x ← f δ; let l ← fl δ; let u ← fh δ; sliceLD x l u
theorem df_sliceK (K) {f : DSt → Res PyData} {fl fh : DSt → Res (Option Int)} (ha : DE X W S a ta f) (hlo : DO X W T lo tl fl) (hhi : DO X W V hi th fh) (hK : X.K = K := by rfl) : DF X W (S ++ (T ++ V)) (.Subscript a (.Slice lo hi none p2) pos) (tSl (rSlL K) ta tl th) (slLF f fl fh) := by
  subst hK
  refine ⟨pe_slice sl_list ha.pe hlo.pe hhi.pe, fun Fz σ H δ Q hd hl h => ?_⟩
  unfold LOK slLF at h
  rw [wp_bind] at h
  refine ha.ok Fz σ H δ _ hd.left hl (wp_mono h (fun x hx v H1 F1 g1 r1 => ?_) fun x hx => hx)
  rw [wp_bind] at hx
  refine hlo.ok F1 σ H1 δ _ (hd.right.left.grow g1) (g1.live hl) (wp_mono hx (fun l hx H2 F2 g2 => ?_) fun x hx c oe H2 F2 g2 => hx c oe H2 F2 (g1.trans g2))
  rw [wp_bind] at hx
  refine hhi.ok F2 σ H2 δ _ (hd.right.right.grow (g1.trans g2)) (g2.live (g1.live hl)) (wp_mono hx (fun u hx H3 F3 g3 => ?_) fun x hx c oe H3 F3 g3 => hx c oe H3 F3 (g1.trans (g2.trans g3)))
  have r3 := r1.grow (g2.trans g3)
  have g := g1.trans (g2.trans g3)
  unfold sliceLD at hx
  cases x with
  | list xs =>
    cases r3 with
    | lst hh z rr =>
      exact ⟨_, _, rfl, hh.sq, fun p np => hx p _ _ F3 (g.trans (.nw np)) (none_of_same g.same np) (fun q => g.live hl p q np) upd_same (Nat.le_trans (cutD_length _ _ _) z) ((cut_rep rr l u).grow (.nw np))⟩
  | _ => exact hx.elim
end
end DL

set_option Elab.async false
set_option linter.all false
set_option maxRecDepth 100000
set_option maxHeartbeats 4000000
namespace DL
open PySem PySem.Spec L2
open PyProof.Rows hiding St

/-! ### comprehensions of two for -/
theorem Stay.then_same {Fz : FZ} {H H1 H2 : Hp} (s : Stay Fz H H1) (t : Same H1 H2) : Stay Fz H H2 := fun a o e c => t a o (s a o e c)
theorem Stay.then_write {Fz : FZ} {H H1 : Hp} {D : Addr} {acc : List V} {o' : HO} (s : Stay Fz H H1) (n : ¬ Fz D) (e1 : H1 D = some (.lst acc)) : Stay Fz H (upd H1 D o') := fun a o e c => by
  have h := s a o e c
  by_cases hz : a = D
  · subst hz
    rw [e1] at h
    have h := Option.some.inj h
    subst h
    rcases c with c | ⟨xs, c⟩ | ⟨u, v, c⟩
    · exact absurd c n
    · cases c
    · cases c
  · rw [upd_ne hz]
    exact h
theorem RdOn.stay {K : PySem.W.Frag} {S : List Nat} {Fz Fz' : FZ} {H H' : Hp} {σ : L2.St} {δ : DSt} (s : Stay Fz H H') (f : ∀ a, Fz a → Fz' a) (h : RdOn K S Fz H σ δ) : RdOn K S Fz' H' σ δ := ⟨h.1, fun i hi z e => by
  obtain ⟨v, h1, h2⟩ := h.2 i hi z e
  exact ⟨v, h1, h2.stay s f⟩⟩
def lc2Go (p : Pat) (δ : DSt) (ft : DSt → Res Bool) (gi : DSt → Res (List PyData)) (p1 : Pat) (vs1 : List Nat) (ft1 : DSt → Res Bool) (fe : DSt → Res PyData) : List PyData → Res (List PyData)
  | [] => .ok []
  | x :: r => do
    let δ1 ← nE (bindP p x δ)
    let b ← nE (ft δ1)
    if b then do
      let es ← nE (gi δ1)
      let zs ← lcGo p1 (wipeD δ1 vs1) ft1 fe es
      let ys ← lc2Go p δ ft gi p1 vs1 ft1 fe r
      .ok (zs ++ ys)
    else lc2Go p δ ft gi p1 vs1 ft1 fe r
def lc2F (g : DSt → Res (List PyData)) (p : Pat) (vs : List Nat) (ft : DSt → Res Bool) (gi : DSt → Res (List PyData)) (p1 : Pat) (vs1 : List Nat) (ft1 : DSt → Res Bool) (fe : DSt → Res PyData) (δ : DSt) : Res (List PyData) := do
  let xs ← g δ
  let ys ← lc2Go p (wipeD δ vs) ft gi p1 vs1 ft1 fe xs
  lstD ys
theorem lc2Go_quiet {p p1 : Pat} {δ : DSt} {ft ft1 : DSt → Res Bool} {gi : DSt → Res (List PyData)} {vs1 : List Nat} {fe : DSt → Res PyData} : ∀ (xs : List PyData), (lc2Go p δ ft gi p1 vs1 ft1 fe xs).quiet
  | [] => True.intro
  | y :: r => by
    unfold lc2Go
    refine quiet_bind (nE_quiet _) fun δ1 => quiet_bind (nE_quiet _) fun b => ?_
    cases b with
    | true => exact quiet_bind (nE_quiet _) fun es => quiet_bind (lcGo_quiet es) fun zs => quiet_bind (lc2Go_quiet r) fun ys => True.intro
    | false => exact lc2Go_quiet r
section
variable {X : Cx} {W : WS} {U : XK} {S S1 S2 S3 S4 T : List Nat} {elt tg iter tg1 iter1 : Expr} {ifs ifs1 : List Expr} {scope : Scope} {own : List (Str × Nat)} {pos : Pos} {wi wi1 : TI} {gg gg1 : TG} {tt tt1 : TT} {te : TE} {vs1 : List Nat}
theorem df_lc2 {g : DSt → Res (List PyData)} {p : Pat} {ft : DSt → Res Bool} {gi : DSt → Res (List PyData)} {p1 : Pat} {ft1 : DSt → Res Bool} {fe : DSt → Res PyData} (hc : X.calm = true) (hN : X.N.Nodup) (hi : DI X W S tg iter wi g) (ok : BlkOk X.N X.env.scope scope own) (hv : ∀ i ∈ vs1, i ∈ own.map (·.2))
    (hg : ∀ (s : Shared) (H : Hp) (C : Addr) (cl : List (Str × Addr)) (fp : List Addr), DG (X.blk s H scope (compEnvC scope cl C X.env) fp) tg gg p) (hp : ∀ i ∈ p.slots, i ∈ own.map (·.2))
    (ht : ∀ (s : Shared) (H : Hp) (C : Addr) (cl : List (Str × Addr)) (fp : List Addr), DTs (X.blk s H scope (compEnvC scope cl C X.env) fp) (fun _ => E0) S1 ifs tt ft)
    (hi1 : ∀ (s : Shared) (H : Hp) (C : Addr) (cl : List (Str × Addr)) (fp : List Addr), DI (X.blk s H scope (compEnvC scope cl C X.env) fp) (fun _ => E0) S3 tg1 iter1 wi1 gi)
    (hg1 : ∀ (s : Shared) (H : Hp) (C : Addr) (cl : List (Str × Addr)) (fp : List Addr), DG (X.blk s H scope (compEnvC scope cl C X.env) fp) tg1 gg1 p1) (hp1 : ∀ i ∈ p1.slots, i ∈ vs1)
    (ht1 : ∀ (s : Shared) (H : Hp) (C : Addr) (cl : List (Str × Addr)) (fp : List Addr), DTs (X.blk s H scope (compEnvC scope cl C X.env) fp) (fun _ => E0) S4 ifs1 tt1 ft1)
    (he : ∀ (s : Shared) (H : Hp) (C : Addr) (cl : List (Str × Addr)) (fp : List Addr), DE (X.blk s H scope (compEnvC scope cl C X.env) fp) (fun _ => E0) S2 elt te fe) (hs : ∀ x, foldedSetIterable iter X.env x = pure x := by intro _; rfl) (hs1 : ∀ env x, foldedSetIterable iter1 env x = pure x := by intro _ _; rfl) :
    DF X W (S ++ (S1 ++ (S3 ++ (S4 ++ S2)))) (.ListComp elt [⟨tg, iter, ifs, 0⟩, ⟨tg1, iter1, ifs1, 0⟩] scope pos) (tLc2 wi gg tt wi1 gg1 tt1 te (own.map (·.2)) vs1) (lc2F g p (own.map (·.2)) ft gi p1 vs1 ft1 fe) := by
  refine ⟨pe_lc2 hc hN hi.pe ok hv (fun s H C cl fp => (hg s H C cl fp).pe) (fun s H C cl fp => (ht s H C cl fp).pe) (fun s H C cl fp => (hi1 s H C cl fp).pe) (fun s H C cl fp => (hg1 s H C cl fp).pe) (fun s H C cl fp => (ht1 s H C cl fp).pe) (fun s H C cl fp => (he s H C cl fp).pe) hs hs1, fun Fz σ H δ Q hd hl hq => ?_⟩
  have hg' := (hg X.s_0 X.H_0 0 [] []).ok
  have ht' := (ht X.s_0 X.H_0 0 [] []).ok
  have hi1' := (hi1 X.s_0 X.H_0 0 [] []).ok
  have hg1' := (hg1 X.s_0 X.H_0 0 [] []).ok
  have ht1' := (ht1 X.s_0 X.H_0 0 [] []).ok
  have he' := (he X.s_0 X.H_0 0 [] []).ok
  generalize own.map (·.2) = vs at *
  unfold LOK lc2F at hq
  rw [wp_bind] at hq
  refine hi.ok Fz σ H δ _ hd.left hl (wp_mono hq (fun ds hx J H1 F1 g1 sv => ?_) fun x hx => hx)
  rw [wp_bind] at hx
  have hrd : RdOn X.K (S1 ++ (S3 ++ (S4 ++ S2))) F1 H1 (wipe σ vs) (wipeD δ vs) := (hd.right.grow g1).wipe
  have l1 : Live F1 H1 := g1.live hl
  intro Dd nD
  have nH : H Dd = none := none_of_same g1.same nD
  refine ⟨fun i m H => m = ds.length - i ∧ i ≤ ds.length ∧ ∃ Fi acc ya, Grow F1 H1 Fi H ∧ ¬ Fi Dd ∧ H Dd = some (.lst acc) ∧ RepAll X.K Fi H acc ya ∧ (lc2Go p (wipeD δ vs) ft gi p1 vs1 ft1 fe (ds.drop i)).wp (fun rest => (lstD (ya ++ rest)).wp _ _) _,
    ⟨ds.length, by omega, Nat.zero_le _, F1, [], [], .nw nD, fun z => l1 _ z nD, upd_same, .nil, hx⟩, ?_⟩
  rintro i m H2 ⟨rfl, hi2, Fi, acc, ya, g2, nF, eD, ra, hrest⟩
  by_cases hlt : i < ds.length
  · have hdd : ds.drop i = ds[i] :: ds.drop (i + 1) := List.drop_eq_getElem_cons hlt
    rw [hdd] at hrest
    unfold lc2Go at hrest
    rw [wp_bind] at hrest
    obtain ⟨δ1, hb, hrest⟩ := nEb hrest
    rw [wp_bind] at hrest
    obtain ⟨go, yl⟩ := sv.item Fi H2 (.of_same g2.same) g2.sub (g2.live l1) i ds[i] (List.getElem?_eq_getElem hlt)
    refine .inr ⟨go, fun H' => ∃ Fi acc ya, Grow F1 H1 Fi H' ∧ ¬ Fi Dd ∧ H' Dd = some (.lst acc) ∧ RepAll X.K Fi H' acc ya ∧ (lc2Go p (wipeD δ vs) ft gi p1 vs1 ft1 fe (ds.drop (i + 1))).wp (fun rest => (lstD (ya ++ rest)).wp _ _) _,
      fun H' h' => ⟨ds.length - (i + 1), by omega, rfl, hlt, h'⟩, fun x H3 hy => ?_⟩
    obtain ⟨F3, g3, r3⟩ := yl x H3 hy
    have g13 := g2.trans g3
    have nF3 : ¬ F3 Dd := fun z => (g3.new _ z).elim nF fun e => by rw [eD] at e; cases e
    refine hg' F3 H3 (fun σ2 δ2 => RdOn X.K (S1 ++ (S3 ++ (S4 ++ S2))) F3 H3 σ2 δ2 ∧ wipe σ2 vs = wipe σ vs) x ds[i] (wipe σ vs) (wipeD δ vs) _ (fun σ δ j v d hj hP r => ⟨RdOn.sets σ δ j v d hj hP.1 r, by rw [wipe_set (hp j hj)]; exact hP.2⟩) ⟨hrd.grow g13, wipe_wipe⟩ r3 ?_
    rw [hb]
    intro σ2 ⟨hr2, hw2⟩
    refine ⟨hw2, ?_⟩
    refine ht' F3 σ2 H3 δ1 _ hr2.left (g13.live l1) (wp_mono (nE_wpA hrest) (fun bt hbt H4 F4 g4 => ?_) fun x h => h)
    have nF4 : ¬ F4 Dd := fun z => (g4.new _ z).elim nF3 fun e => by rw [g3.same _ _ eD] at e; cases e
    have g14 := g13.trans g4
    cases bt with
    | true =>
      simp only [if_true] at hbt ⊢
      rw [wp_bind] at hbt
      refine hi1' F4 σ2 H4 δ1 _ (hr2.right.left.grow g4) (g14.live l1) (wp_mono (nE_wpA hbt) (fun es hes J1 H5 F5 g5 sv1 => ?_) fun x h => h)
      rw [wp_bind] at hes
      have g15 := g14.trans g5
      have nF5 : ¬ F5 Dd := fun z => (g5.new _ z).elim nF4 fun e => by rw [g4.same _ _ (g3.same _ _ eD)] at e; cases e
      have hr5 : RdOn X.K (S4 ++ S2) F5 H5 σ2 δ1 := hr2.right.right.grow (g4.trans g5)
      have g35 := g3.trans (g4.trans g5)
      refine ⟨fun j k H => k = es.length - j ∧ j ≤ es.length ∧ ∃ Fj acc zd, Grow F1 H1 Fj H ∧ Stay F5 H5 H ∧ (∀ a, F5 a → Fj a) ∧ ¬ Fj Dd ∧ H Dd = some (.lst acc) ∧ RepAll X.K Fj H acc (ya ++ zd) ∧ (lcGo p1 (wipeD δ1 vs1) ft1 fe (es.drop j)).wp (fun zr => (lc2Go p (wipeD δ vs) ft gi p1 vs1 ft1 fe (ds.drop (i + 1)) >>= fun ys => Res.ok ((zd ++ zr) ++ ys)).wp (fun rest => (lstD (ya ++ rest)).wp _ _) _) _,
        ⟨es.length, by omega, Nat.zero_le _, F5, acc, [], g15, .of_same fun _ _ e => e, fun _ h => h, nF5, g35.same _ _ eD, by rw [List.append_nil]; exact ra.grow g35, hes⟩, ?_⟩
      rintro j k H6 ⟨rfl, hj2, Fj, acc, zd, g6, st6, sub6, nF6, eD6, ra6, hrest1⟩
      by_cases hlt1 : j < es.length
      · have hdd1 : es.drop j = es[j] :: es.drop (j + 1) := List.drop_eq_getElem_cons hlt1
        rw [hdd1] at hrest1
        unfold lcGo at hrest1
        rw [wp_bind] at hrest1
        obtain ⟨δ3, hb1, hrest1⟩ := nEb hrest1
        rw [wp_bind] at hrest1
        obtain ⟨go1, yl1⟩ := sv1.item Fj H6 st6 sub6 (g6.live l1) j es[j] (List.getElem?_eq_getElem hlt1)
        refine .inr ⟨go1, fun H' => ∃ Fj acc zd, Grow F1 H1 Fj H' ∧ Stay F5 H5 H' ∧ (∀ a, F5 a → Fj a) ∧ ¬ Fj Dd ∧ H' Dd = some (.lst acc) ∧ RepAll X.K Fj H' acc (ya ++ zd) ∧ (lcGo p1 (wipeD δ1 vs1) ft1 fe (es.drop (j + 1))).wp (fun zr => (lc2Go p (wipeD δ vs) ft gi p1 vs1 ft1 fe (ds.drop (i + 1)) >>= fun ys => Res.ok ((zd ++ zr) ++ ys)).wp (fun rest => (lstD (ya ++ rest)).wp _ _) _) _,
          fun H' h' => ⟨es.length - (j + 1), by omega, rfl, hlt1, h'⟩, fun x7 H7 hy7 => ?_⟩
        obtain ⟨F7, g7, r7⟩ := yl1 x7 H7 hy7
        have g17 := g6.trans g7
        have nF7 : ¬ F7 Dd := fun z => (g7.new _ z).elim nF6 fun e => by rw [eD6] at e; cases e
        have hr7 : RdOn X.K (S4 ++ S2) F7 H7 (wipe σ2 vs1) (wipeD δ1 vs1) := ((hr5.stay st6 sub6).grow g7).wipe
        refine hg1' F7 H7 (fun σ3 δ3 => RdOn X.K (S4 ++ S2) F7 H7 σ3 δ3 ∧ wipe σ3 vs1 = wipe σ2 vs1) x7 es[j] (wipe σ2 vs1) (wipeD δ1 vs1) _ (fun σ δ j v d hj hP r => ⟨RdOn.sets σ δ j v d hj hP.1 r, by rw [wipe_set (hp1 j hj)]; exact hP.2⟩) ⟨hr7, wipe_wipe⟩ r7 ?_
        rw [hb1]
        intro σ3 ⟨hr3, hw3⟩
        refine ⟨hw3, ?_⟩
        refine ht1' F7 σ3 H7 δ3 _ hr3.left (g17.live l1) (wp_mono (nE_wpA hrest1) (fun bt1 hbt1 H8 F8 g8 => ?_) fun x h => h)
        have nF8 : ¬ F8 Dd := fun z => (g8.new _ z).elim nF7 fun e => by rw [g7.same _ _ eD6] at e; cases e
        have g78 := g7.trans g8
        cases bt1 with
        | true =>
          simp only [if_true] at hbt1 ⊢
          rw [wp_bind] at hbt1
          refine he' F8 σ3 H8 δ3 _ (hr3.right.grow g8) (g8.live (g17.live l1)) (wp_mono (nE_wpA hbt1) (fun y hy v H9 F9 g9 r9 => ?_) fun x h => h)
          rw [wp_bind] at hy
          have nF9 : ¬ F9 Dd := fun z => (g9.new _ z).elim nF8 fun e => by rw [g8.same _ _ (g7.same _ _ eD6)] at e; cases e
          have g69 := g78.trans g9
          have eD9 := g69.same _ _ eD6
          have g19 := g6.trans g69
          have st : Stay F9 H9 (upd H9 Dd (.lst (acc ++ [v]))) := .write nF9 eD9 ⟨(fun _ h => by cases h), (fun _ _ h => by cases h)⟩
          obtain ⟨zr', hC⟩ := wp_some (lcGo_quiet _) hy
          have hC2 := (wp_bind _ _ _ _).mp hC
          obtain ⟨ys', hf2⟩ := wp_some (lc2Go_quiet _) hC2
          have hlen2 : (ya ++ ((zd ++ (y :: zr')) ++ ys')).length ≤ sizeLine := (lstD_wp hf2).1
          have la := ra6.length
          refine ⟨acc, eD9, ?_, F9, acc ++ [v], zd ++ [y], ⟨same_upd2 g19.same nD, g19.sub, g19.new, fun l a z e => ?_⟩, (st6.then_same g69.same).then_write nF5 eD9, fun a h => g69.sub a (sub6 a h), nF9, upd_same, ?_, wp_mono hy (fun zr h => by rw [List.append_assoc zd]; exact h) fun x h => h⟩
          · rw [List.length_append] at la
            rw [List.length_append, List.length_append, List.length_append, List.length_cons] at hlen2
            omega
          · by_cases hz : a = Dd
            · subst hz; exact nF9 z
            · rw [upd_ne hz] at e
              exact g19.live l a z e
          · rw [← List.append_assoc]
            exact ((ra6.grow g69).app (.cons r9 .nil)).stay st fun _ h => h
        | false =>
          simp only [Bool.false_eq_true, if_false] at hbt1 ⊢
          exact ⟨F8, acc, zd, g6.trans g78, st6.then_same g78.same, fun a h => g78.sub a (sub6 a h), nF8, g78.same _ _ eD6, ra6.grow g78, hbt1⟩
      · have e : j = es.length := by omega
        subst e
        rw [List.drop_length] at hrest1
        have hrest1 : (lc2Go p (wipeD δ vs) ft gi p1 vs1 ft1 fe (ds.drop (i + 1)) >>= fun ys => Res.ok ((zd ++ []) ++ ys)).wp _ _ := hrest1
        rw [wp_bind] at hrest1
        exact .inl ⟨sv1.stop Fj H6 st6 sub6 (g6.live l1), Fj, acc, ya ++ zd, g6, nF6, eD6, ra6, wp_mono hrest1 (fun ys h => by
          have h : (lstD (ya ++ ((zd ++ []) ++ ys))).wp _ _ := h
          rw [List.append_nil, ← List.append_assoc] at h
          exact h) fun x h => h⟩
    | false =>
      simp only [Bool.false_eq_true, if_false] at hbt ⊢
      have g34 := g3.trans g4
      exact ⟨F4, acc, ya, g2.trans g34, nF4, g34.same _ _ eD, ra.grow g34, hbt⟩
  · have e : i = ds.length := by omega
    subst e
    rw [List.drop_length] at hrest
    have hrest : (lstD (ya ++ [])).wp _ _ := hrest
    rw [List.append_nil] at hrest
    obtain ⟨hlen, hfin⟩ := lstD_wp hrest
    exact .inl ⟨sv.stop Fi H2 (.of_same g2.same) g2.sub (g2.live l1), hfin Dd acc H2 Fi (g1.trans g2) nH nF eD hlen ra⟩
/-- x = [.. for .. for ..] on one line -/
theorem ds_setLc2 {i : Nat} {y : Str} {py spos : Pos} {g : DSt → Res (List PyData)} {p : Pat} {ft : DSt → Res Bool} {gi : DSt → Res (List PyData)} {p1 : Pat} {ft1 : DSt → Res Bool} {fe : DSt → Res PyData} (hy : X.N[i]? = some y) (hyl : X.env.scope.names.lookup y = some .local) (hsw : swapsWith (.ListComp elt [⟨tg, iter, ifs, 0⟩, ⟨tg1, iter1, ifs1, 0⟩] scope pos) (some (.Name y py)) spos.line X.env = pure true)
    (hc : X.calm = true) (hN : X.N.Nodup) (hi : DI X W S tg iter wi g) (ok : BlkOk X.N X.env.scope scope own) (hv : ∀ i ∈ vs1, i ∈ own.map (·.2))
    (hg : ∀ (s : Shared) (H : Hp) (C : Addr) (cl : List (Str × Addr)) (fp : List Addr), DG (X.blk s H scope (compEnvC scope cl C X.env) fp) tg gg p) (hp : ∀ i ∈ p.slots, i ∈ own.map (·.2))
    (ht : ∀ (s : Shared) (H : Hp) (C : Addr) (cl : List (Str × Addr)) (fp : List Addr), DTs (X.blk s H scope (compEnvC scope cl C X.env) fp) (fun _ => E0) S1 ifs tt ft)
    (hi1 : ∀ (s : Shared) (H : Hp) (C : Addr) (cl : List (Str × Addr)) (fp : List Addr), DI (X.blk s H scope (compEnvC scope cl C X.env) fp) (fun _ => E0) S3 tg1 iter1 wi1 gi)
    (hg1 : ∀ (s : Shared) (H : Hp) (C : Addr) (cl : List (Str × Addr)) (fp : List Addr), DG (X.blk s H scope (compEnvC scope cl C X.env) fp) tg1 gg1 p1) (hp1 : ∀ i ∈ p1.slots, i ∈ vs1)
    (ht1 : ∀ (s : Shared) (H : Hp) (C : Addr) (cl : List (Str × Addr)) (fp : List Addr), DTs (X.blk s H scope (compEnvC scope cl C X.env) fp) (fun _ => E0) S4 ifs1 tt1 ft1)
    (he : ∀ (s : Shared) (H : Hp) (C : Addr) (cl : List (Str × Addr)) (fp : List Addr), DE (X.blk s H scope (compEnvC scope cl C X.env) fp) (fun _ => E0) S2 elt te fe) (hs : ∀ x, foldedSetIterable iter X.env x = pure x := by intro _; rfl) (hs1 : ∀ env x, foldedSetIterable iter1 env x = pure x := by intro _ _; rfl) :
    DS X W (.Assign [.Name y py] (.ListComp elt [⟨tg, iter, ifs, 0⟩, ⟨tg1, iter1, ifs1, 0⟩] scope pos) spos) (tAsg (tLc2 wi gg tt wi1 gg1 tt1 te (own.map (·.2)) vs1) (gName i)) (asgO (S ++ (S1 ++ (S3 ++ (S4 ++ S2)))) (lc2F g p (own.map (·.2)) ft gi p1 vs1 ft1 fe) i) :=
  ⟨ps_setLc2 hc hN hy hyl hsw hi.pe ok hv (fun s H C cl fp => (hg s H C cl fp).pe) (fun s H C cl fp => (ht s H C cl fp).pe) (fun s H C cl fp => (hi1 s H C cl fp).pe) (fun s H C cl fp => (hg1 s H C cl fp).pe) (fun s H C cl fp => (ht1 s H C cl fp).pe) (fun s H C cl fp => (he s H C cl fp).pe) hs hs1, asgO_ok (df_lc2 (pos := pos) hc hN hi ok hv hg hp ht hi1 hg1 hp1 ht1 he hs hs1)⟩
end
end DL

set_option Elab.async false
set_option linter.all false
set_option maxRecDepth 100000
set_option maxHeartbeats 4000000
namespace DL
open PySem PySem.Spec L2
open PyProof.Rows hiding St

/-! ### max(xs, default=d) -/
section
variable {pg : Program} {wd : World} {B : Around} {Rr : Result → Shared → Prop} {It : Addr} {f1 f2 : List Addr} {m : Nat} {Pi : Nat → Value → Prop} {Si : Nat → Heap → Prop} {kw : List (Str × Value)}
abbrev bestObj (vs : Array Value) (c : Nat) : Obj := { cls := .type "list", dict := none, data := .seq vs c, slots := #[] }
theorem mx_nm : (toString "max" ++ toString ".loop" : String) = "max.loop" := by decide
theorem mx_more (Wk : Walks pg wd B.in1 It f1 f2 m Pi Si) (bt : Nat → Nat → Bool) (cm : CmpOf pg wd B.in1 .Gt Pi bt) (Z : Addr) (nz : Z ∉ f1) :
    ∀ (k j : Nat) (u : Shared) (b : Value) (c : Nat), m - (j + 1) = k → j + 1 ≤ m → Si (j + 1) u.heap → Pi (argBest bt j) b → u.heap.get? Z = some (bestObj #[b, b] c) →
    (∀ v h' t, Pi (argBest bt (m - 1)) v → (∀ x o, x ∉ f2 → x ≠ Z → u.heap.get? x = some o → h'.get? x = some o) → Rr (.ok (.ret v)) { u with heap := h', toks := t }) →
    codeAny (model pg wd) B (.builtin "max.loop" ⟨[.ref It, .none, .ref Z], kw⟩) Rr u
  | 0, j, u, b, c, hk, hj, hs, hp, hz, hR => by
    have e : j + 1 = m := by omega
    have nz2 : Z ∉ f2 := fun q => nz (Wk.sub _ q)
    refine codeAny_builtin F.entry_max_loop ((Around.under_plainId (A := B) F.plain_max_loop _).symm ▸ ?_)
    refine (show wpAny (model pg wd) B.in1 (seqItems? (.ref Z) >>= _) _ _ u from wpAny_bind (wpAny_seqItems hz rfl ?_))
    refine (show wpAny (model pg wd) B.in1 (tryCatch (pyNext (.ref It)) _ >>= _) _ _ u from wpAny_bind (wpAny_tryCatch (Wk.done u _ _ (e ▸ hs) fun h2 t kp => ?_)))
    refine (show wpAny (model pg wd) B.in1 (updateSeq Z (fun _ => #[]) >>= _) _ _ _ from wpAny_bind (wpAny_updateSeq (kp Z _ nz2 hz) rfl (wpAny_bind (wpAny_letGo (wpAny_pure ?_)))))
    exact hR b _ t (by rw [← e]; exact hp) fun x o n1 n2 q => (Heap.get?_update_other _ _ (Ne.symm n2)).trans (kp x o n1 q)
  | k + 1, j, u, b, c, hk, hj, hs, hp, hz, hR => by
    have nz2 : Z ∉ f2 := fun q => nz (Wk.sub _ q)
    have lt : j + 1 < m := by omega
    refine codeAny_builtin F.entry_max_loop ((Around.under_plainId (A := B) F.plain_max_loop _).symm ▸ ?_)
    refine (show wpAny (model pg wd) B.in1 (seqItems? (.ref Z) >>= _) _ _ u from wpAny_bind (wpAny_seqItems hz rfl ?_))
    refine (show wpAny (model pg wd) B.in1 (tryCatch (pyNext (.ref It)) _ >>= _) _ _ u from wpAny_bind (wpAny_tryCatch (Wk.item (j + 1) u _ _ lt hs fun v h2 t pv s2 kp => ?_)))
    have hz2 := kp Z _ nz2 hz
    refine (show wpAny (model pg wd) B.in1 (tryCatch (holding [v, v] (richCompare .Gt v b >>= _)) _ >>= _) _ _ _ from wpAny_bind (wpAny_tryCatch (wpAny_holding (wpAny_bind (cm (j + 1) (argBest bt j) v b _ _ _ pv hp ?_)))))
    refine wpAny_bind (wpAny_holding (wpAny_truthy_bool (wpAny_bind (wpAny_letGo (wpAny_pure ?_)))))
    cases q : bt (j + 1) (argBest bt j) with
    | false =>
      refine wpAny_bind (wpAny_letGo (mx_nm ▸ wpAny_pure ⟨plainId_quiet F.plain_max_loop _, ?_⟩))
      refine mx_more Wk bt cm Z nz k (j + 1) _ b c (by omega) lt s2 (by unfold argBest; rw [q]; exact hp) hz2 fun w h3 t3 pw k3 => ?_
      exact hR w h3 t3 pw fun x o n1 n2 e => k3 x o n1 n2 (kp x o n1 e)
    | true =>
      refine wpAny_bind (wpAny_updateSeq hz2 rfl (wpAny_bind (wpAny_letGo (mx_nm ▸ wpAny_pure ⟨plainId_quiet F.plain_max_loop _, ?_⟩))))
      refine mx_more Wk bt cm Z nz k (j + 1) _ v _ (by omega) lt (Wk.frame _ _ _ s2 fun x hx o e => (Heap.get?_update_other _ _ (fun z : Z = x => nz (z ▸ hx))).trans e) (by unfold argBest; rw [q]; exact pv) (Heap.get?_update_self _ hz2 rfl) fun w h3 t3 pw k3 => ?_
      exact hR w h3 t3 pw fun x o n1 n2 e => k3 x o n1 n2 ((Heap.get?_update_other _ _ (Ne.symm n2)).trans (kp x o n1 e))
theorem mx_first (Wk : Walks pg wd B.in1 It f1 f2 m Pi Si) (bt : Nat → Nat → Bool) (cm : CmpOf pg wd B.in1 .Gt Pi bt) (Z : Addr) (nz : Z ∉ f1) (h0 : 0 < m) {u : Shared} {c : Nat} (hs : Si 0 u.heap) (hz : u.heap.get? Z = some (bestObj #[] c))
    (hR : ∀ v h' t, Pi (argBest bt (m - 1)) v → (∀ x o, x ∉ f2 → x ≠ Z → u.heap.get? x = some o → h'.get? x = some o) → Rr (.ok (.ret v)) { u with heap := h', toks := t }) :
    codeAny (model pg wd) B (.builtin "max.loop" ⟨[.ref It, .none, .ref Z], kw⟩) Rr u := by
  have nz2 : Z ∉ f2 := fun q => nz (Wk.sub _ q)
  refine codeAny_builtin F.entry_max_loop ((Around.under_plainId (A := B) F.plain_max_loop _).symm ▸ ?_)
  refine (show wpAny (model pg wd) B.in1 (seqItems? (.ref Z) >>= _) _ _ u from wpAny_bind (wpAny_seqItems hz rfl ?_))
  refine (show wpAny (model pg wd) B.in1 (tryCatch (pyNext (.ref It)) _ >>= _) _ _ u from wpAny_bind (wpAny_tryCatch (Wk.item 0 u _ _ h0 hs fun v h2 t pv s2 kp => ?_)))
  have hz2 := kp Z _ nz2 hz
  refine (show wpAny (model pg wd) B.in1 (updateSeq Z (fun _ => #[v, v]) >>= _) _ _ _ from wpAny_bind (wpAny_updateSeq hz2 rfl (mx_nm ▸ wpAny_pure ⟨plainId_quiet F.plain_max_loop _, ?_⟩)))
  refine mx_more Wk bt cm Z nz _ 0 _ v _ rfl h0 (Wk.frame _ _ _ s2 fun x hx o e => (Heap.get?_update_other _ _ (fun z : Z = x => nz (z ▸ hx))).trans e) pv (Heap.get?_update_self _ hz2 rfl) fun w h3 t3 pw k3 => ?_
  exact hR w h3 t3 pw fun x o n1 n2 e => k3 x o n1 n2 ((Heap.get?_update_other _ _ (Ne.symm n2)).trans (kp x o n1 e))
theorem mx_none (Wk : Walks pg wd B.in1 It f1 f2 m Pi Si) (Z : Addr) (nz : Z ∉ f1) (h0 : m = 0) {u : Shared} {c : Nat} {d : Value} (hs : Si 0 u.heap) (hz : u.heap.get? Z = some (bestObj #[] c))
    (hR : ∀ h' t, (∀ x o, x ∉ f2 → x ≠ Z → u.heap.get? x = some o → h'.get? x = some o) → Rr (.ok (.ret d)) { u with heap := h', toks := t }) :
    codeAny (model pg wd) B (.builtin "max.loop" ⟨[.ref It, .none, .ref Z], [("default", d)]⟩) Rr u := by
  have nz2 : Z ∉ f2 := fun q => nz (Wk.sub _ q)
  subst h0
  refine codeAny_builtin F.entry_max_loop ((Around.under_plainId (A := B) F.plain_max_loop _).symm ▸ ?_)
  refine (show wpAny (model pg wd) B.in1 (seqItems? (.ref Z) >>= _) _ _ u from wpAny_bind (wpAny_seqItems hz rfl ?_))
  refine (show wpAny (model pg wd) B.in1 (tryCatch (pyNext (.ref It)) _ >>= _) _ _ u from wpAny_bind (wpAny_tryCatch (Wk.done u _ _ hs fun h2 t kp => ?_)))
  refine (show wpAny (model pg wd) B.in1 (rule _ >>= _) _ _ _ from wpAny_bind (wpAny_rule ?_))
  exact wpAny_pure (hR _ t fun x o n1 n2 q => kp x o n1 q)
theorem mx_args (a v : Value) : argsOk "max" ⟨[a], [(Str.ofString "default", v)]⟩ := by unfold argsOk; kernel_rfl
theorem mx_ints {u : Shared} {E : Value → Shared → Prop} {Q : Value → Shared → Prop} {l : Addr} {xs : Array (Int × Tok)} {d : Int} {td : Tok} (hh : B.handled = none) (hl : u.heap.IsList l (intItems xs))
    (h0 : xs.size = 0 → ∀ h' t, (∀ x o, u.heap.get? x = some o → h'.get? x = some o) → Q (.int d td) { u with heap := h', toks := t })
    (h1 : 0 < xs.size → ∀ v h' t, (intItems xs)[argBest (fun i j => decide (numAt xs i > numAt xs j)) (xs.size - 1)]? = some v → (∀ x o, u.heap.get? x = some o → h'.get? x = some o) → Q v { u with heap := h', toks := t }) :
    wpAny (model pg wd) B (call (.builtin "max") [.ref l] [(Str.ofString "default", .int d td)]) Q E u := by
  refine wpAny_call (codeAny_call_builtin F.plain_max F.entry_max ?_)
  simp only [checkBuiltinCall, F.kind_max]
  have rest : wpAny (model pg wd) B.in1 (Builtin.«max» ⟨[.ref l], [(Str.ofString "default", .int d td)]⟩) (fun fin s' => match fin with
      | .done f => (match (Except.ok f : Result) with | .ok (.ret v) => Q v s' | .ok _ => False | .error e => E e s')
      | .again c' => c'.quiet = true ∧ codeAny (model pg wd) B c' (fun r s' => match r with | .ok (.ret v) => Q v s' | .ok _ => False | .error e => E e s') s') E u := by
    show wpAny _ B.in1 (Builtin.Builtins.bindParams "max" ["key", "default"] 0 ⟨[], [(Str.ofString "default", .int d td)]⟩ >>= _) _ _ u
    refine wpAny_bind (wpAny_of_eq (show Builtin.Builtins.bindParams "max" ["key", "default"] 0 ⟨[], [(Str.ofString "default", .int d td)]⟩ = pure [none, some (.int d td)] from rfl) (wpAny_bind (wpAny_pure (wpAny_bind (iter_intList hl fun s2 e st hfp hlI => ?_)))))
    refine wpAny_bind (wpAny_newObj_type ?_)
    have lt : u.heap.objs.size < s2.heap.objs.size := hfp _ (by simp)
    have sz : s2.heap.objs.size ∉ [u.heap.objs.size, l] := fun hm => Nat.lt_irrefl _ (hfp _ hm)
    have Wk := Walks.list (prog := pg) (w := wd) (A := B.in1) hh u.heap.objs.size l hlI (intItems xs)
    have zs := Heap.get?_push_size s2.heap (o := bestObj #[] 0) rfl
    have old : ∀ x o, u.heap.get? x = some o → x ≠ u.heap.objs.size ∧ x ≠ s2.heap.objs.size ∧ (s2.heap.push (bestObj #[] 0)).get? x = some o := fun x o q => by
      have a := Heap.lt_size q
      refine ⟨Nat.ne_of_lt a, Nat.ne_of_lt (Nat.lt_trans a lt), Heap.get?_push_of_some _ ?_⟩
      rw [e]
      exact Heap.get?_push_of_some _ q
    have St0 := Wk.frame 0 s2.heap (s2.heap.push (bestObj #[] 0)) st fun b _ o q => Heap.get?_push_of_some _ q
    have eu : ∀ h' t, ({ s2 with heap := h', toks := t } : Shared) = { u with heap := h', toks := t } := fun h' t => by rw [e]
    rw [mx_nm]
    refine wpAny_pure ⟨plainId_quiet F.plain_max_loop _, ?_⟩
    by_cases hz : xs.size = 0
    · refine mx_none Wk _ sz (by simpa [intItems] using hz) St0 zs fun h' t kp => ?_
      have z := h0 hz h' t fun x o q => kp x o (fun hm => (old x o q).1 (by simpa using hm)) (old x o q).2.1 (old x o q).2.2
      rw [← eu] at z
      exact z
    · refine mx_first Wk _ (CmpOf.ints_gt (numAt xs) fun _ _ => intItems_at) _ sz (by simp [intItems]; omega) St0 zs fun v h' t hP kp => ?_
      have z := h1 (by omega) v h' t (by simpa [intItems] using hP) fun x o q => kp x o (fun hm => (old x o q).1 (by simpa using hm)) (old x o q).2.1 (old x o q).2.2
      rw [← eu] at z
      exact z
  cases hsig : Manifest.signature? "max" with
  | none => exact wpAny_pure rest
  | some sig =>
    have ok : Bind.checkArgs "max" sig ⟨[.ref l], [(Str.ofString "default", .int d td)]⟩ = pure () := by simpa only [argsOk, hsig] using mx_args (.ref l) (.int d td)
    simp only [ok]
    exact wpAny_pure rest
end
def rMaxDf (K : PySem.W.Frag) : List V → List V → Hp → VK → Prop := fun vs zs H Q => ∃ (a : Addr) (ns : List Int) (d : Int), vs = [V.ref a] ∧ zs = [.int d] ∧ SqL K H a (ns.map V.int) ∧ (ns = [] → Q (.int d) H) ∧ ∀ M, M ∈ ns → (∀ x ∈ ns, x ≤ M) → Q (.int M) H
section
variable {X : Cx} {W : WS} {U : XK} {S T : List Nat} {e d : Expr} {pos p : Pos} {te td : TE}
theorem cr_maxDf (hc : X.calm = true) : CallRK X (.builtin "max") [Str.ofString "default"] (rMaxDf X.K) := by
  intro pins s σ H vs zs us ws Q I r1 r2 h
  obtain ⟨a, ns, d, rfl, rfl, hs, h0, h1⟩ := h
  obtain ⟨its, rv, hl, _⟩ := I.list hs
  rw [Vals.ref1 r1]
  cases r2 with
  | cons rd rn =>
    cases rn
    obtain ⟨td, rfl⟩ := rd
    have hi := rv.ints
    obtain ⟨xs, e⟩ := hi.allInts.items
    have hn : numsOf (intItems xs).toList = ns := by rw [← e]; exact hi.numsOf
    rw [nums_intItems] at hn
    have hl := hl.isList
    rw [e] at hl
    refine mx_ints (I.ok.hd hc) hl (fun hz h' t kp => ⟨.int d, H, I.kept kp, ⟨_, rfl⟩, h0 ?_⟩) fun hz v h' t hv kp => ?_
    · rw [← hn]
      have : xs.toList = [] := by simpa using hz
      rw [this]; rfl
    · obtain ⟨tv, rfl⟩ := intItems_at hv
      obtain ⟨b1, b2⟩ := argBest_gt (numAt xs) (xs.size - 1)
      refine ⟨.int _, H, I.kept kp, ⟨_, rfl⟩, h1 _ ?_ fun x hx => ?_⟩
      · rw [← hn, numAt_eq]
        exact PySem.getD_mem (by rw [List.length_map, Array.length_toList]; omega)
      · rw [← hn] at hx
        obtain ⟨j, hj, rfl⟩ := mem_getD hx
        rw [List.length_map, Array.length_toList] at hj
        rw [← numAt_eq]
        exact b2 j (by omega)
def maxDfD (x y : PyData) : Res PyData := match x, y with
  | .list xs, .int d => (match intsO xs with | some [] => .ok (.int d) | some (z :: r) => .ok (.int (maxI (z :: r))) | none => .bot)
  | _, _ => .bot
theorem pk_one {te : TE} {n : Str} {kp : Pos} (h : PE X e te) : PK X [⟨some n, e, kp⟩] (tCons te tNil) := pk_cons h pk_nil
theorem de_maxDfK (K) {f g : DSt → Res PyData} {kp : Pos} (hc : X.calm = true) (hg : Gl X "max") (hm : X.mg "max" = none) (ha : DE X W S e te f) (hd : DE X W T d td g) (hK : X.K = K := by rfl) (hse : starEach [e] X.env = (false, eval e X.env) :: starEach [] X.env := by rfl)
    (he : backTo pos (starEach [e] X.env) = (false, eval e X.env) :: backTo pos (starEach [] X.env) := by rfl) (hpl : (backTo pos (starEach [e] X.env)).any (·.1) = false := by rfl)
    (hall : (backToKw pos (keywordEach [⟨some "default", d, kp⟩] X.env)).all (·.1.isSome) = true := by rfl) (hnone : (backToKw pos (keywordEach [⟨some "default", d, kp⟩] X.env)).any (·.1.isNone) = false := by rfl) (hks : (backToKw pos (keywordEach [⟨some "default", d, kp⟩] X.env)).filterMap (·.1) = [Str.ofString "default"] := by rfl) :
    DE X W (S ++ T) (.Call (.Name "max" p) [e] [⟨some "default", d, kp⟩] pos) (tCKw (rMaxDf K) (tCons te tNil) (tCons td tNil)) (b2 maxDfD f g) := by
  subst hK
  refine ⟨pe_callBK (cr_maxDf hc) hg hm (by decide +kernel) (pa_cons ha.pe pa_nil hse) (pk_one hd.pe) (by decide) (by decide) he hpl hall hnone hks, fun Fz σ H δ Q hr hl h => ?_⟩
  unfold EOK b2 at h
  rw [wp_bind] at h
  refine two ha.ok hd.ok hr hl (wp_mono h (fun x hx => ?_) fun x hx => hx)
  rw [wp_bind] at hx
  refine wp_mono hx (fun y hy v u H' F' g' l' r1 r2 => ?_) fun x hx => hx
  unfold maxDfD at hy
  cases x with
  | list xs =>
    cases y with
    | int i =>
      cases r2
      dsimp only at hy
      cases r1 with
      | lst h1 z1 a1 =>
        cases hq : intsO xs with
        | none => rw [hq] at hy; exact hy.elim
        | some c =>
          rw [hq] at hy
          have e1 := intsO_some hq
          subst e1
          have e2 := rep_row a1
          subst e2
          cases c with
          | nil => exact ⟨_, [], i, rfl, rfl, h1.sq, fun _ => hy _ H' F' g' (.int _), fun M hM => by cases hM⟩
          | cons z r =>
            refine ⟨_, z :: r, i, rfl, rfl, h1.sq, fun e => (by cases e), fun M hM hall => ?_⟩
            have : M = maxI (z :: r) := by
              have a := maxI_ge (z :: r) M hM
              have b := hall _ (maxI_mem (z :: r) (by simp))
              omega
            subst this
            exact hy _ H' F' g' (.int _)
    | _ => exact hy.elim
  | _ => cases y <;> exact hy.elim
end
end DL

set_option Elab.async false
set_option linter.all false
set_option maxRecDepth 100000
set_option maxHeartbeats 4000000
namespace DL
open PySem PySem.Spec L2
open PyProof.Rows hiding St

/-! ### list(range(..)) -/
def lrg1D (ds : List PyData) : Res (List PyData) := match ds with
  | [.int j] => if -(2 ^ 62) ≤ j ∧ j < 2 ^ 62 ∧ j ≤ 16777216 then .ok (rngL 0 j) else .bot
  | _ => .bot
def lrg2D (ds : List PyData) : Res (List PyData) := match ds with
  | [.int i, .int j] => if -(2 ^ 62) ≤ i ∧ i < 2 ^ 62 ∧ -(2 ^ 62) ≤ j ∧ j < 2 ^ 62 ∧ j - i ≤ 16777216 then .ok (rngL i j) else .bot
  | _ => .bot
theorem rep_rg {K : PySem.W.Frag} {Fz : FZ} {H : Hp} (a b : Int) : RepAll K Fz H (rgV a b) (rngL a b) := by
  unfold rgV rngL
  generalize List.range (b - a).toNat = l
  induction l with
  | nil => exact .nil
  | cons x l ih => exact .cons (.int _) ih
theorem rngL_len (a b : Int) : (rngL a b).length = (b - a).toNat := by unfold rngL; rw [List.length_map, List.length_range]
section
variable {X : Cx} {W : WS} {U : XK} {S T : List Nat} {a b : Expr} {pos p p2 pos2 : Pos} {ta tb : TE}
theorem df_listRg1K (K) {f : DSt → Res PyData} (hc : X.calm = true) (hg : Gl X "list") (hm : X.mg "list" = none) (hg2 : Gl X "range") (hm2 : X.mg "range" = none) (ha : DE X W S a ta f) (hK : X.K = K := by rfl)
    (na : starEach [a] X.env = (false, eval a X.env) :: starEach [] X.env := by rfl) (nr : starEach [.Call (.Name "range" p2) [a] [] pos2] X.env = (false, eval (.Call (.Name "range" p2) [a] [] pos2) X.env) :: starEach [] X.env := by rfl) :
    DF X W S (.Call (.Name "list" p) [.Call (.Name "range" p2) [a] [] pos2] [] pos) (tLstRg (tRg1 ta)) (fun δ => do let x ← f δ; lrg1D [x]) := by
  refine ⟨pe_listRg hc hg hm (prg_1 hg2 hm2 ha.pe na) nr, fun Fz σ H δ Q hd hl h => ?_⟩
  unfold LOK at h
  rw [wp_bind] at h
  refine ha.ok Fz σ H δ _ hd hl (wp_mono h (fun x hx v H1 F1 g1 r1 => ?_) fun x hx => hx)
  unfold lrg1D at hx
  split at hx
  · rename_i j e
    cases e
    cases r1
    split at hx
    · rename_i hb
      refine ⟨j, rfl, ⟨by decide, by decide, hb.1, hb.2.1, by have := hb.2.2; omega⟩, fun q nq => hx q _ _ F1 (g1.trans (.nw nq)) (none_of_same g1.same nq) (fun z => g1.live hl q z nq) upd_same (by rw [rngL_len, sizeLine_eq]; omega) (rep_rg _ _)⟩
    · exact hx.elim
  · exact hx.elim
theorem df_listRg2K (K) {f g : DSt → Res PyData} (hc : X.calm = true) (hg : Gl X "list") (hm : X.mg "list" = none) (hg2 : Gl X "range") (hm2 : X.mg "range" = none) (ha : DE X W S a ta f) (hb : DE X W T b tb g) (hK : X.K = K := by rfl)
    (na : starEach [a, b] X.env = (false, eval a X.env) :: starEach [b] X.env := by rfl) (nb : starEach [b] X.env = (false, eval b X.env) :: starEach [] X.env := by rfl) (hp : (backTo pos2 (starEach [b] X.env)).any (·.1) = false := by rfl)
    (nr : starEach [.Call (.Name "range" p2) [a, b] [] pos2] X.env = (false, eval (.Call (.Name "range" p2) [a, b] [] pos2) X.env) :: starEach [] X.env := by rfl) :
    DF X W (S ++ T) (.Call (.Name "list" p) [.Call (.Name "range" p2) [a, b] [] pos2] [] pos) (tLstRg (tRg2 ta tb)) (fun δ => do let x ← f δ; let y ← g δ; lrg2D [x, y]) := by
  refine ⟨pe_listRg hc hg hm (prg_2 hg2 hm2 ha.pe hb.pe na nb hp) nr, fun Fz σ H δ Q hd hl h => ?_⟩
  unfold LOK at h
  rw [wp_bind] at h
  refine two ha.ok hb.ok hd hl (wp_mono h (fun x hx => ?_) fun x hx => hx)
  rw [wp_bind] at hx
  refine wp_mono hx (fun y hy v u H' F' g' l' r1 r2 => ?_) fun x hx => hx
  unfold lrg2D at hy
  split at hy
  · rename_i i j e
    cases e
    cases r1
    cases r2
    split at hy
    · rename_i hb
      refine ⟨i, j, rfl, rfl, ⟨hb.1, hb.2.1, hb.2.2.1, hb.2.2.2.1, by have := hb.2.2.2.2; omega⟩, fun q nq => hy q _ _ F' (g'.trans (.nw nq)) (none_of_same g'.same nq) (fun z => l' q z nq) upd_same (by rw [rngL_len, sizeLine_eq]; omega) (rep_rg _ _)⟩
    · exact hy.elim
  · exact hy.elim
end
abbrev lrg1F (f : DSt → Res PyData) : DSt → Res (List PyData) := fun δ => do let x ← f δ; lrg1D [x]
abbrev lrg2F (f g : DSt → Res PyData) : DSt → Res (List PyData) := fun δ => do let x ← f δ; let y ← g δ; lrg2D [x, y]
end DL

set_option Elab.async false
set_option linter.all false
set_option maxRecDepth 100000
set_option maxHeartbeats 6400000
namespace DL
open PySem PySem.Spec L2
open PyProof.Rows hiding St

/-! ### set(xs) of a list or a tuple, whatever it holds -/
theorem push2 (h : Heap) (a b : Obj) (hb : b.isFreed = false := by rfl) : ((h.push a).push b).get? (h.objs.size + 1) = some b := by
  rw [show h.objs.size + 1 = (h.push a).objs.size from (Heap.size_push ..).symm]
  exact Heap.get?_push_size _ hb
def bornSet (w : World) : Obj := { cls := .type "set", dict := none, data := .set #[] 0 (.fresh 0 0 (!w.params.followText "set-order")) }
section
variable {P : Program} {w : World} {A : Around} {E : Value → Shared → Prop} {s : Shared}
/-- what the loop that fills the set must do, begun at the iterator `c` over the row at `l` -/
def Fills (P : Program) (w : World) (A : Around) (E : Value → Shared → Prop) (s : Shared) (it : Obj) (R : Heap → Prop) : Prop :=
  codeAny (model P w) A.in1.in1 (.builtin "set.update.loop" ⟨[.ref s.heap.objs.size, .ref (s.heap.objs.size + 1)], []⟩)
    (fun r z => r = .ok (.ret .none) ∧ ∃ h1 t1, z = { s with heap := h1, toks := t1 } ∧ R h1) { s with heap := (s.heap.push (bornSet w)).push it }
/-- set(xs): made empty, then filled by its loop -/
theorem set_fill {l : Addr} {cl} {od} {items : Array Value} {nl} {os} {it : Obj} {R : Heap → Prop} {Q : Value → Shared → Prop}
    (at0 : s.heap.get? l = some { cls := .type cl, dict := od, data := .seq items nl, slots := os })
    (n1 : isSubtype (.type cl) (.type "set") = pure false) (n2 : isSubtype (.type cl) (.type "frozenset") = pure false) (n3 : (Value.type cl == Value.type "dict") = false)
    (iter : ∀ (B : Around) (E' : Value → Shared → Prop) (z : Shared) (Q' : Value → Shared → Prop), z.heap.get? l = some { cls := .type cl, dict := od, data := .seq items nl, slots := os } → Q' (.ref z.heap.objs.size) { z with heap := z.heap.push it } → wpAny (model P w) B (pyIter (.ref l)) Q' E' z)
    (fills : Fills P w A E s it R) (fin : ∀ h1 t1, R h1 → Q (.ref s.heap.objs.size) { s with heap := h1, toks := t1 }) :
    wpAny (model P w) A (call (.type "set") [.ref l]) Q E s := by
  have ⟨c0, tl0, mro0⟩ := F.called_set.mro
  have made0 := F.called_set.made
  have sub0 := F.called_set.sub
  refine wpAny_call (codeAny_of_tree ?_)
  show wpAny _ _ (callAny (Value.type "set") _) _ _ _
  refine wpAny_pure ⟨Code.quiet_builtin _ (by decide +kernel), ?_⟩
  refine codeAny_builtin F.entry_type_call ?_
  rw [Around.under_plain (weight_type_call_type "set" [.ref l] []) rfl]
  have nt0 := F.called_set.notType
  have cc0 := F.called_set.canCreate
  have tc0 := F.typeCall_set_1 (.ref l)
  repeat (any_goals (first | assumption | wp_step))
  refine codeAny_mono (code_set_led1 (Value.ref l) (E := E) (Q₁ := fun v z => v = .ref s.heap.objs.size ∧ z = { s with heap := s.heap.push (bornSet w) }) ⟨rfl, rfl⟩) fun r z hz => ?_
  match r, hz with
  | .error e, hz => exact hz
  | .ok (.ret v), ⟨e1, e2⟩ =>
    subst e1 e2
    have here : (s.heap.push (bornSet w)).get? s.heap.objs.size = some (bornSet w) := Heap.get?_push_size _ rfl
    have isset : Shared.TypeIs { s with heap := s.heap.push (bornSet w) } (.ref s.heap.objs.size) "set" := ⟨_, here, rfl⟩
    have lk0 := F.called_set.init.lookup
    have bd0 := F.called_set.init.bind (Value.ref s.heap.objs.size)
    repeat (any_goals (first | assumption | wp_step))
    refine codeAny_mono (codeAny_call_builtin (R := wants (fun r z => r = .none ∧ ∃ h1 t1, z = { s with heap := h1, toks := t1 } ∧ R h1) E) F.called_set.init.plain F.entry_set_init (check_set_init_1 isset ?_)) fun r2 z2 hz2 => ?_
    · have at1 : (s.heap.push (bornSet w)).get? l = some { cls := .type cl, dict := od, data := .seq items nl, slots := os } := Heap.get?_push_of_some _ at0
      unfold Builtin.«set.__init__» noKeywords Builtin.Frozenset.updateFrom
      generalize pI : pyIter = PI
      wp_walk
      subst pI
      refine iter _ _ _ _ at1 ?_
      refine wpAny_bind (wpAny_runValue ?_)
      have e0 : (s.heap.push (bornSet w)).objs.size = s.heap.objs.size + 1 := Heap.size_push ..
      dsimp only at e0 ⊢
      rw [e0]
      refine codeAny_mono fills fun r z hz => ?_
      obtain ⟨rfl, h1, t1, rfl, hR⟩ := hz
      exact wpAny_pure (wpAny_pure ⟨rfl, h1, t1, rfl, hR⟩)
    · match r2, hz2 with
      | .error e, hz2 => exact hz2
      | .ok (.ret v), ⟨e1, h1, t1, e2, hR⟩ =>
        subst e1 e2
        repeat (any_goals (first | assumption | wp_step))
        exact fin h1 t1 hR
/-- the loop over a row of whole numbers -/
theorem fills_ints {l : Addr} {items : Array Value} {it : Obj} {St : Nat → Heap → Prop} (ns : List Int)
    (W : Walks P w A.in1.in1.in1 (s.heap.objs.size + 1) [s.heap.objs.size + 1, l] [s.heap.objs.size + 1] items.size (fun i v => items[i]? = some v) St) (st0 : St 0 ((s.heap.push (bornSet w)).push it))
    (old : l < s.heap.objs.size) (hi : IntsAre items.toList ns) (hb : ns.length + 1 < scanBound) :
    Fills P w A E s it (fun h1 => ∃ c, c ≤ ns.length ∧ SetR w h1 s.heap.objs.size (fun j => decide (j ∈ ns)) c ∧ ∀ b o, s.heap.get? b = some o → h1.get? b = some o) := by
  have len : items.size = ns.length := by
    have := hi.length
    rwa [Array.length_toList] at this
  have p1 : (s.heap.push (bornSet w)).get? s.heap.objs.size = some (bornSet w) := Heap.get?_push_size _ rfl
  unfold Fills
  refine set_update_ints W.toS s.heap.objs.size ?_ ns len hb (fun i v hv => ?_) _ 0 _ rfl (Nat.zero_le _) st0 ⟨0, Nat.le_refl _, setR_new_at (Heap.get?_push_of_some _ p1)⟩ fun z c mv hc hS => ?_
  · intro h
    rcases List.mem_cons.mp h with h | h
    · exact absurd h (Nat.ne_of_lt (Nat.lt_succ_self _))
    · exact absurd (List.mem_singleton.mp h) (Nat.ne_of_gt old)
  · have lt : i < ns.length := by
      rw [← len]
      exact (Array.getElem?_eq_some_iff.mp hv).1
    obtain ⟨t, e⟩ := PyProof.Rows.IntsAre.int_at hi i v (by rw [Array.getElem?_toList]; exact hv)
    exact ⟨ns[i], t, List.getElem?_eq_getElem lt, by rw [e, List.getD_eq_getElem?_getD, List.getElem?_eq_getElem lt]; rfl⟩
  · rw [len] at hc
    have eg := mv.gens
    have ed := mv.drawn
    have eo := mv.os
    refine ⟨rfl, z.heap, z.toks, ?_, c, hc, hS, fun b o e => ?_⟩
    · obtain ⟨zh, zg, zd, zt, zo⟩ := z
      cases eg
      cases ed
      cases eo
      rfl
    · have lb := Heap.lt_size e
      refine mv.heap b o (fun h => ?_) (Heap.get?_push_of_some _ (Heap.get?_push_of_some _ e))
      rcases List.mem_cons.mp h with h | h
      · exact absurd h (Nat.ne_of_lt lb)
      · exact absurd (List.mem_singleton.mp h) (Nat.ne_of_lt (Nat.lt_succ_of_lt lb))
/-- the loop over a row of tuples -/
theorem fills_tups {l : Addr} {items : Array Value} {it : Obj} {St : Nat → Heap → Prop} (ks : List (Addr × List Int))
    (W : Walks P w A.in1.in1.in1 (s.heap.objs.size + 1) [s.heap.objs.size + 1, l] [s.heap.objs.size + 1] items.size (fun i v => items[i]? = some v) St) (st0 : St 0 ((s.heap.push (bornSet w)).push it))
    (old : l < s.heap.objs.size) (hi : items.toList = ks.map fun p => Value.ref p.1) (hk : ∀ p ∈ ks, IsT P w s.heap p.2 p.1) (few : ks.length < 64) (hu : A.units + 3 < cLine) :
    Fills P w A E s it (fun h1 => ∃ L es ep t, SetTR P w h1 s.heap.objs.size L es ep t ∧ Got ks ks.length L ∧ ∀ b o, s.heap.get? b = some o → h1.get? b = some o) := by
  have len : items.size = ks.length := by
    rw [← Array.length_toList, hi, List.length_map]
  have p1 : (s.heap.push (bornSet w)).get? s.heap.objs.size = some (bornSet w) := Heap.get?_push_size _ rfl
  have no : ∀ b, s.heap.objs.size ≤ b → s.heap.get? b = none := fun b hb => by
    match q : s.heap.get? b with
    | none => rfl
    | some o => exact absurd (Nat.lt_of_lt_of_le (Heap.lt_size q) hb) (Nat.lt_irrefl _)
  unfold Fills
  refine set_update_tups W.toS s.heap.objs.size ?_ ks len few (fun i v hv => ?_) s.heap hk (no _ (Nat.le_refl _)) (fun b hb => ?_) (by show A.units + 1 + 1 + 1 < cLine; omega) _ 0 _ rfl (Nat.zero_le _) st0
    (fun b o e => Heap.get?_push_of_some _ (Heap.get?_push_of_some _ e)) ⟨[], #[], 0, _, setTR_fresh (Heap.get?_push_of_some _ p1), Got.zero ks⟩ fun z L es ep t mv hS g kp => ?_
  · intro h
    rcases List.mem_cons.mp h with h | h
    · exact absurd h (Nat.ne_of_lt (Nat.lt_succ_self _))
    · exact absurd (List.mem_singleton.mp h) (Nat.ne_of_gt old)
  · have e : (ks.map fun p => Value.ref p.1)[i]? = some v := by rw [← hi, Array.getElem?_toList]; exact hv
    rw [List.getElem?_map] at e
    obtain ⟨p, e1, e2⟩ := Option.map_eq_some_iff.mp e
    exact ⟨p, e1, e2.symm⟩
  · rw [List.mem_singleton.mp hb]
    exact no _ (Nat.le_succ _)
  · rw [len] at g
    have eg := mv.gens
    have ed := mv.drawn
    have eo := mv.os
    refine ⟨rfl, z.heap, z.toks, ?_, L, es, ep, t, hS, g, kp⟩
    obtain ⟨zh, zg, zd, zt, zo⟩ := z
    cases eg
    cases ed
    cases eo
    rfl
end
section
variable {X : Cx}
/-- set(xs), xs a list or a tuple of whole numbers -/
def rSetOI (K : PySem.W.Frag) (w : World) : List V → Hp → VK → Prop := fun xs H Q => ∃ (l : Addr) (ns : List Int), xs = [V.ref l] ∧ (SqL K H l (ns.map V.int) ∨ SqT K H l (ns.map V.int)) ∧ ns.length < 64 ∧
  ∀ a n, H a = none → n ≤ ns.length → Q (.ref a) (upd H a (SetO w a (fun j => decide (j ∈ ns)) n))
theorem cr_setOI (hc : X.calm = true) : CallR X (.type "set") (rSetOI X.K X.w) := by
  intro pins s σ H xs us Q I r h
  obtain ⟨l, ns, rfl, hl, few, q⟩ := h
  rw [Vals.ref1 r]
  have hn : H s.heap.objs.size = none := I.hok.fresh (Nat.le_refl _)
  have fin : ∀ (h1 : Heap) (t1 : Nat), (∃ c, c ≤ ns.length ∧ SetR X.w h1 s.heap.objs.size (fun j => decide (j ∈ ns)) c ∧ ∀ b o, s.heap.get? b = some o → h1.get? b = some o) → EP X pins σ Q (.ref s.heap.objs.size) { s with heap := h1, toks := t1 } := fun h1 t1 ⟨c, hcn, R, k⟩ =>
    ⟨.ref _, _, I.laid (t' := t1) k (Nat.le_refl _) (setO_new R), rfl, q _ c hn hcn⟩
  have hd := I.ok.hd hc
  have hd3 : X.A.in1.in1.in1.handled = none := by simp [hd]
  have big : ns.length + 1 < scanBound := by unfold scanBound; omega
  have e1 : (s.heap.push (bornSet X.w)).objs.size = s.heap.objs.size + 1 := Heap.size_push ..
  rcases hl with hl | hl
  · obtain ⟨its, rv, pl, hz⟩ := I.list hl
    have il := pl.isList
    obtain ⟨⟨oc, od, odt, osl⟩, ho, hcl, nl, hdt⟩ := il
    cases hcl
    cases hdt
    have old := Heap.lt_size ho
    exact set_fill (it := { cls := .type "list_iterator", data := .fields #[.ref l, .int 0 0] }) ho F.sub_list_set F.sub_list_frozenset (by decide) (fun B E' z Q' hz q => wpAny_pyIter_list ⟨_, hz, rfl, _, rfl⟩ q)
      (fills_ints ns (Walks.list hd3 (s.heap.objs.size + 1) l (Nat.ne_of_lt (Nat.lt_succ_of_lt old)) its.toArray) ⟨⟨_, push2 _ _ _, rfl, rfl⟩, ⟨_, Heap.get?_push_of_some _ (Heap.get?_push_of_some _ ho), rfl, _, rfl⟩⟩ old (ints_of_vals rv) big) fin
  · obtain ⟨its, rv, pt, hz⟩ := I.tuple hl
    obtain ⟨⟨oc, od, odt, osl⟩, ho, hcl, nl, hdt⟩ := pt
    cases hcl
    cases hdt
    have old := Heap.lt_size ho
    exact set_fill (it := { cls := .type "tuple_iterator", data := .fields #[.ref l, .int 0 0] }) ho F.sub_tuple_set F.sub_tuple_frozenset (by decide) (fun B E' z Q' hz q => wpAny_pyIter_tuple ⟨_, hz, rfl, _, rfl⟩ q)
      (fills_ints ns (Walks.tuple hd3 (s.heap.objs.size + 1) l (Nat.ne_of_lt (Nat.lt_succ_of_lt old)) its.toArray) ⟨⟨_, push2 _ _ _, rfl, rfl⟩, ⟨_, Heap.get?_push_of_some _ (Heap.get?_push_of_some _ ho), rfl, _, rfl⟩⟩ old (ints_of_vals rv) big) fin
/-- set(xs), xs a tuple of tuples of whole numbers -/
def rSetTT (K : PySem.W.Frag) (P : Program) (w : World) : List V → Hp → VK → Prop := fun xs H Q => ∃ (l : Addr) (ks : List (Addr × List Int)), xs = [V.ref l] ∧ (SqL K H l (ks.map fun p => V.ref p.1) ∨ SqT K H l (ks.map fun p => V.ref p.1)) ∧ (∀ p ∈ ks, SqT K H p.1 (p.2.map V.int)) ∧ ks.length < 64 ∧
  ∀ a L, H a = none → (∀ p ∈ L, p ∈ ks) → (∀ p ∈ ks, p.2 ∈ L.map (·.2)) → Q (.ref a) (upd H a (SetTO P w a L))
theorem cr_setTT (hc : X.calm = true) (hu : X.A.units + 64 < cLine) : CallR X (.type "set") (rSetTT X.K X.prog X.w) := by
  intro pins s σ H xs us Q I r h
  obtain ⟨l, ks, rfl, hl, hk, few, q⟩ := h
  rcases hl with hl | hl
  · exact cr_setOfT hc hu pins s σ H _ us Q I r ⟨l, ks, rfl, hl, hk, few, q⟩
  rw [Vals.ref1 r]
  have hn : H s.heap.objs.size = none := I.hok.fresh (Nat.le_refl _)
  have hd := I.ok.hd hc
  have hd3 : X.A.in1.in1.in1.handled = none := by simp [hd]
  have e1 : (s.heap.push (bornSet X.w)).objs.size = s.heap.objs.size + 1 := Heap.size_push ..
  obtain ⟨its, rv, pt, hz⟩ := I.tuple hl
  obtain ⟨⟨oc, od, odt, osl⟩, ho, hcl, nl, hdt⟩ := pt
  cases hcl
  cases hdt
  have old := Heap.lt_size ho
  refine set_fill (it := { cls := .type "tuple_iterator", data := .fields #[.ref l, .int 0 0] }) ho F.sub_tuple_set F.sub_tuple_frozenset (by decide) (fun B E' z Q' hz q => wpAny_pyIter_tuple ⟨_, hz, rfl, _, rfl⟩ q)
      (fills_tups ks (Walks.tuple hd3 (s.heap.objs.size + 1) l (Nat.ne_of_lt (Nat.lt_succ_of_lt old)) its.toArray) ⟨⟨_, push2 _ _ _, rfl, rfl⟩, ⟨_, Heap.get?_push_of_some _ (Heap.get?_push_of_some _ ho), rfl, _, rfl⟩⟩ old (by simpa using refs_of_vals rv) (fun p hp => I.isT (hk p hp)) few (by omega)) ?_
  rintro h1 t1 ⟨L, es, ep, t, R, g, k⟩
  refine ⟨.ref _, _, I.laid (t' := t1) k (Nat.le_refl _) (setTO_new R.t0), rfl, q _ L hn (fun p hp => List.mem_of_mem_take (g.sub p hp)) fun p hp => g.all p ?_⟩
  rwa [List.take_length]
end
end DL

set_option Elab.async false
set_option linter.all false
set_option maxRecDepth 100000
set_option maxHeartbeats 6400000
namespace DL
open PySem PySem.Spec L2
open PyProof.Rows hiding St

/-! ### sorted(set(xs)): xs a list or a tuple, of whole numbers or of tuples of them -/
def intO : PyData → Option Int
  | .int i => some i
  | _ => none
def whO : List PyData → Option (List Int)
  | [] => some []
  | d :: ds => match intO d, whO ds with | some i, some l => some (i :: l) | _, _ => none
theorem whO_some : ∀ {ds : List PyData} {is : List Int}, whO ds = some is → ds = iL is
  | [], is, h => by cases h; rfl
  | d :: ds, is, h => by
    unfold whO at h
    split at h
    · rename_i i l h1 h2
      cases h
      rw [whO_some h2]
      cases d with
      | int j => cases h1; rfl
      | _ => cases h1
    · cases h
theorem whO_map : ∀ is : List Int, whO (is.map .int) = some is
  | [] => rfl
  | i :: is => by rw [List.map_cons, whO, whO_map is]; rfl
/-- sorted(set(ns)), whole numbers -/
def sortUI (ns : List Int) : List Int := (ddup ns).mergeSort fun a b => decide (a ≤ b)
theorem sortUI_lt (ns : List Int) : (sortUI ns).Pairwise (· < ·) := by
  have h1 : (sortUI ns).Pairwise (· ≤ ·) := (List.pairwise_mergeSort (fun x y z h1 h2 => by simp at *; omega) (fun x y => by simp; omega) (ddup ns)).imp fun h => by simpa using h
  have h2 : (sortUI ns).Nodup := (List.mergeSort_perm (ddup ns) _).nodup_iff.mpr (ddup_nodup ns)
  exact (h1.and h2).imp fun ⟨a, b⟩ => by omega
theorem sortUI_mem {ns : List Int} {k : Int} : k ∈ sortUI ns ↔ k ∈ ns := by
  unfold sortUI
  rw [(List.mergeSort_perm (ddup ns) _).mem_iff, ddup_mem]
theorem lt_ext : ∀ {a b : List Int}, a.Pairwise (· < ·) → b.Pairwise (· < ·) → (∀ k, k ∈ a ↔ k ∈ b) → a = b := fun {a b} ha hb h =>
  List.Perm.eq_of_pairwise (le := (· < ·)) (fun x y _ _ h1 h2 => by omega) ha hb ((List.perm_ext_iff_of_nodup (ha.imp fun h => by omega) (hb.imp fun h => by omega)).mpr h)
theorem sortUI_of {ns ms : List Int} (hp : ms.Pairwise (· < ·)) (h : ∀ k, k ∈ ms ↔ k ∈ ns) : ms = sortUI ns := lt_ext hp (sortUI_lt ns) fun k => by rw [h, sortUI_mem]
def sortSetL (ds : List PyData) : Res (List PyData) := if ds.length < 64 then (match tupsO ds with | some cs => .ok ((sortU cs).map tI) | none => (match whO ds with | some ns => .ok ((sortUI ns).map .int) | none => .bot)) else .bot
def sortSetA (d : PyData) : Res (List PyData) := match d with
  | .list ds => sortSetL ds
  | .tuple ds => sortSetL ds
  | _ => .bot
theorem sortSetA_T {cs : List (List Int)} (h : cs.length < 64) : sortSetA (.tuple (cs.map tI)) = .ok ((sortU cs).map tI) := by
  show sortSetL _ = _
  unfold sortSetL
  rw [List.length_map, if_pos h, tupsO_map]
theorem sortSetA_L {cs : List (List Int)} (h : cs.length < 64) : sortSetA (.list (cs.map tI)) = .ok ((sortU cs).map tI) := sortSetA_T h
theorem sortSetA_I {ns : List Int} (h : ns.length < 64) : sortSetA (.list (ns.map .int)) = .ok ((sortUI ns).map .int) := by
  show sortSetL _ = _
  unfold sortSetL
  rw [List.length_map, if_pos h, whO_map]
  cases ns with
  | nil => simp [tupsO, sortU, sortUI, ddup]
  | cons i ns => rfl
theorem sortSetA_IT {ns : List Int} (h : ns.length < 64) : sortSetA (.tuple (ns.map .int)) = .ok ((sortUI ns).map .int) := sortSetA_I h
def rSetA (K : PySem.W.Frag) (P : Program) (w : World) : List V → Hp → VK → Prop := fun vs H Q => rSetTT K P w vs H Q ∨ rSetOI K w vs H Q
theorem cr_setA {X : Cx} (hc : X.calm = true) (hu : X.A.units + 64 < cLine) : CallR X (.type "set") (rSetA X.K X.prog X.w) := by
  intro pins s σ H vs us Q I r h
  rcases h with h | h
  · exact cr_setTT hc hu pins s σ H vs us Q I r h
  · exact cr_setOI hc pins s σ H vs us Q I r h
def rSortA (K : PySem.W.Frag) (P : Program) (w : World) : List V → Hp → VK → Prop := fun vs H Q => rSortS K P w vs H Q ∨ rSortedSet w vs H Q
theorem cr_sortA {X : Cx} (hu : X.A.units + 130 < cLine) (hc : X.calm = true) : CallR X (.builtin "sorted") (rSortA X.K X.prog X.w) := by
  intro pins s σ H vs us Q I r h
  rcases h with h | h
  · exact cr_sortedS hu hc pins s σ H vs us Q I r h
  · exact cr_sortedSet hc pins s σ H vs us Q I r h
theorem ddup_len {α : Type} [DecidableEq α] (l : List α) : (ddup l).length ≤ l.length := by
  induction l with
  | nil => exact Nat.le_refl _
  | cons x l ih =>
    unfold ddup
    split
    · rw [List.length_cons]; omega
    · rw [List.length_cons, List.length_cons]; omega
theorem rep_ints {K : PySem.W.Frag} {Fz : FZ} {H : Hp} : ∀ {c : List Int} {vs : List V}, RepAll K Fz H vs (iL c) → vs = c.map V.int
  | [], _, .nil => rfl
  | i :: c, _, .cons h r => by
    cases h
    rw [rep_ints r]
    rfl
theorem rep_ofInts {K : PySem.W.Frag} {Fz : FZ} {H : Hp} : ∀ c : List Int, RepAll K Fz H (c.map V.int) (iL c)
  | [] => .nil
  | i :: c => .cons (.int i) (rep_ofInts c)
section
variable {X : Cx} {W : WS} {S : List Nat} {e : Expr} {pos p p2 pos2 : Pos} {te : TE}
theorem sortA_core {K : PySem.W.Frag} {P : Program} {w : World} {F1 : FZ} {H1 : Hp} {l : Addr} {vs : List V} {ds out : List PyData} {Q : VK}
    (hs : SqL K H1 l vs ∨ SqT K H1 l vs) (lv1 : Live F1 H1) (rr : RepAll K F1 H1 vs ds) (ho : sortSetL ds = .ok out)
    (q : ∀ (p : Addr) (a : Addr) (H2 : Hp) (ws : List V), H1 a = none → Grow F1 H1 F1 H2 → H2 p = none → RepAll K F1 H2 ws out → out.length ≤ sizeLine → Q (.ref p) (upd H2 p (.lst ws))) :
    rSetA K P w [V.ref l] H1 fun y H2 => rSortA K P w [y] H2 Q := by
  unfold sortSetL at ho
  split at ho
  · rename_i few
    have h1000 : (64 : Nat) ≤ sizeLine := by rw [sizeLine_eq]; decide
    split at ho
    · rename_i cs hcs
      cases ho
      rw [tupsO_some hcs] at rr few
      rw [List.length_map] at few
      obtain ⟨ks, e1, e2, e3⟩ := rep_tups rr
      subst e1
      refine .inl ⟨_, ks, rfl, hs, fun p hp => (e3 p hp).1, by rw [← List.length_map (f := fun q : Addr × List Int => q.2), e2]; exact few, fun a L na l1 l2 => .inl ?_⟩
      have gg : Grow F1 H1 F1 (upd H1 a (SetTO P w a L)) := .nw na
      refine ⟨a, L, rfl, upd_same, fun p hp => SqT.stay (Fz := F1) (.of_same gg.same) (e3 p (l1 p hp)).1, fun L1 pm nd l nl => ?_⟩
      have all : ∀ M : List (Addr × List Int), (∀ p ∈ M, p ∈ ks) → RepAll K F1 (upd H1 a (SetTO P w a L)) (M.map fun p => V.ref p.1) (M.map fun p => tI p.2) := by
        intro M
        induction M with
        | nil => exact fun _ => .nil
        | cons p M ih => exact fun h => .cons ((e3 p (h p List.mem_cons_self)).2.grow gg) (ih fun q hq => h q (List.mem_cons_of_mem _ hq))
      have hlen : ((sortU cs).map tI).length ≤ sizeLine := by
        have := ddup_len cs
        rw [List.length_map]
        unfold sortU
        rw [List.length_mergeSort]
        omega
      have same : sortL (L1.map fun p => tI p.2) = (sortU cs).map tI := by
        have := sortU_of (cs := cs) nd fun c => by
          rw [← e2]
          constructor
          · intro h
            obtain ⟨p, hp, rfl⟩ := List.mem_map.mp h
            exact List.mem_map_of_mem (l1 p (pm.mem_iff.mp hp))
          · intro h
            obtain ⟨p, hp, rfl⟩ := List.mem_map.mp h
            exact (pm.map (·.2)).mem_iff.mpr (l2 p hp)
        rwa [List.map_map] at this
      have rall := all L1 fun p hp => l1 p (pm.mem_iff.mp hp)
      have back := rep_of_zip (ps := ((L1.map fun p => V.ref p.1).zip (L1.map fun p => tI p.2)).mergeSort (PySem.W.dataLe false (fun p : V × PyData => p.2))) (fun p hp => zip_rep rall p ((List.mergeSort_perm _ _).mem_iff.mp hp))
      rw [mergeSort_snd, zip_snd rall, same] at back
      exact q l a _ _ na gg nl back hlen
    · split at ho
      · rename_i ns hns
        cases ho
        rw [whO_some hns] at rr few
        have few2 : ns.length < 64 := by
          have : (iL ns).length = ns.length := List.length_map _
          omega
        have e1 := rep_ints rr
        subst e1
        refine .inr ⟨_, ns, rfl, hs, few2, fun a n na hn => .inr ⟨a, _, n, rfl, upd_same, by omega, fun ms p pw mem len np => ?_⟩⟩
        have same : ms = sortUI ns := sortUI_of pw fun k => by rw [mem]; simp
        rw [same]
        refine q p a _ _ na (.nw na) np (rep_ofInts _) ?_
        have := ddup_len ns
        rw [List.length_map]
        unfold sortUI
        rw [List.length_mergeSort]
        omega
      · cases ho
  · cases ho
theorem df_sortSetA (K) (P : Program) (w : World) {f : DSt → Res PyData} (hu : X.A.units + 130 < cLine) (hc : X.calm = true) (hg : Gl X "sorted") (hm : X.mg "sorted" = none) (hg2 : Gl X "set") (hm2 : X.mg "set" = none) (ha : DE X W S e te f) (hK : X.K = K := by rfl) (hP : X.prog = P := by rfl) (hw : X.w = w := by rfl)
    (he : starEach [e] X.env = (false, eval e X.env) :: starEach [] X.env := by rfl) (he2 : starEach [.Call (.Name "set" p2) [e] [] pos2] X.env = (false, eval (.Call (.Name "set" p2) [e] [] pos2) X.env) :: starEach [] X.env := by rfl) :
    DF X W S (.Call (.Name "sorted" p) [.Call (.Name "set" p2) [e] [] pos2] [] pos) (tCB (rSortA K P w) (tCons (tCB (rSetA K P w) (tCons te tNil)) tNil)) (u1LE sortSetA f) := by
  subst hK hP hw
  refine ⟨pe_callB (cr_sortA hu hc) hg hm (by decide +kernel) (pa_cons (pe_callTy (cr_setA hc (by omega)) hg2 hm2 (by decide +kernel) (pa_cons ha.pe pa_nil he) (by decide) (by decide) he rfl) pa_nil he2) (by decide) (by decide) he2 rfl, fun Fz σ H δ Q hd hl h => ?_⟩
  unfold LOK u1LE at h
  rw [wp_bind] at h
  show te σ H fun x H1 => (rSetA X.K X.prog X.w) [x] H1 fun y H2 => (rSortA X.K X.prog X.w) [y] H2 Q
  refine ha.ok Fz σ H δ _ hd hl (wp_mono h (fun d hx v H1 F1 g1 r1 => ?_) fun x hx => hx)
  have fin : ∀ ds, (∃ l vs, v = .ref l ∧ (SqL X.K H1 l vs ∨ SqT X.K H1 l vs) ∧ RepAll X.K F1 H1 vs ds) → (match sortSetL ds with | .ok out => sortSetA d = .ok out | _ => True) → sortSetA d = sortSetL ds →
      (rSetA X.K X.prog X.w) [v] H1 fun y H2 => (rSortA X.K X.prog X.w) [y] H2 Q := by
    rintro ds ⟨l, vs, rfl, hs, rr⟩ - e
    rw [e] at hx
    match ho : sortSetL ds, hx with
    | .ok out, hx =>
      refine sortA_core hs (g1.live hl) rr ho fun p a H2 ws na gg np back hlen => ?_
      have lv : Live F1 H2 := gg.live (g1.live hl)
      exact hx p _ _ F1 ((g1.trans gg).trans (.nw np)) (none_of_same (g1.trans gg).same np) (notFz (H' := H2) .refl lv np) upd_same hlen (RepAll.grow (.nw np) back)
    | .bot, hx => exact hx.elim
    | .err z, hx =>
      unfold sortSetL at ho
      split at ho
      · split at ho
        · cases ho
        · split at ho <;> cases ho
      · cases ho
    | .pick _ _, hx =>
      unfold sortSetL at ho
      split at ho
      · split at ho
        · cases ho
        · split at ho <;> cases ho
      · cases ho
  cases d with
  | list ds =>
    cases r1 with
    | lst hh z rr => exact fin ds ⟨_, _, rfl, .inl hh.sq, rr⟩ (by split <;> first | assumption | trivial) rfl
  | tuple ds =>
    cases r1 with
    | tup hh z rr => exact fin ds ⟨_, _, rfl, .inr hh.sq, rr⟩ (by split <;> first | assumption | trivial) rfl
  | _ => exact hx.elim
end
end DL

set_option Elab.async false
set_option linter.all false
set_option maxRecDepth 100000
set_option maxHeartbeats 6400000
namespace DL
open PySem PySem.Spec L2
open PyProof.Rows hiding St
/-! ### n * t, t a tuple -/
section
variable {M : Model} {A : Around} {E : Value → Shared → Prop} {s : Shared}
theorem op1_left_no {x y : Value} {T U nm id : String} {Q : Option Value → Shared → Prop} (ne : (Value.type T == Value.type U) = false) (hx : s.TypeIs x T) (hy : s.TypeIs y U) (fT : fillsNumberSlot (.type T) nm = pure true) (fU : fillsNumberSlot (.type U) nm = pure false) (sl : Slot T (dunder nm) id)
    (c : wpAny M A (call (.builtin id) [x, y]) (fun v z => v = .notImplemented ∧ Q none z) E s) : wpAny M A (binaryOp1 nm x y) Q E s := by
  unfold binaryOp1
  refine wpAny_bind (wpAny_typeOf hx ?_)
  refine wpAny_bind (wpAny_typeOf hy ?_)
  refine wpAny_bind (wpAny_of_eq fT ?_)
  simp only [ne, Bool.false_eq_true, if_false]
  refine wpAny_bind (wpAny_of_eq fU ?_)
  simp only [pure_bind, Bool.and_false, Bool.false_and, Bool.false_eq_true, if_false, if_true, Bool.and_self]
  refine wpAny_bind (wpAny_tryMethod_declines hx sl (wpAny_mono c (fun v z q => ⟨q.1, ?_⟩) fun _ _ e => e))
  exact wpAny_pure q.2
theorem rep_int : seqRepeat? (.type "int") = pure none := by
  unfold seqRepeat? seqSlot?
  kernel_rfl
end
theorem int_mul_tup (k : Int) (t : Tok) (l : Addr) (xs : Array Value) (n : Nat) (od : Option Addr) (os : Array (Option Value)) :
    Meets (Builtin.«int.__mul__» ⟨[.int k t, .ref l], []⟩) (fun _ R z => z.heap.get? l = some { cls := .type "tuple", dict := od, data := .seq xs n, slots := os } ∧ R (.ok (.ret Value.notImplemented)) z) :=
  .of_wp fun pg wd B R z q => by
    obtain ⟨zh, zg, zd, zt, zo⟩ := z
    obtain ⟨at0, q⟩ := q
    wp_walk using wpAny_loadPart' at0
    exact ⟨_, rfl, q⟩
def rMulT (K : PySem.W.Frag) : R2 := fun x y H Q => ∃ k l xs, x = .int k ∧ y = .ref l ∧ SqT K H l xs ∧ xs ≠ [] ∧ 2 ≤ k ∧ k ≤ 100 ∧ xs.length ≤ 100 ∧ NewT H Q (List.replicate k.toNat xs).flatten
theorem op_mulT {X : Cx} : OpR X (binaryOp .Mult) (rMulT X.K) := by
  intro pins s σ H x y u v Q I rx ry h
  obtain ⟨k, l, xs, rfl, rfl, hT, hne, h1, h2, hz, q⟩ := h
  obtain ⟨t, rfl⟩ := rx
  cases ry
  obtain ⟨its, rv, pt, hs⟩ := I.tuple hT
  obtain ⟨⟨oc, od, odt, osl⟩, ho, hcl, nl, hdt⟩ := pt
  cases hcl
  cases hdt
  have len : its.length = xs.length := rv.length.symm
  have z1 : its.toArray.size = xs.length := by rw [List.size_toArray, len]
  have e1 : its.toArray.isEmpty = false := by
    cases its with
    | nil => exact absurd (List.eq_nil_of_length_eq_zero len.symm) hne
    | cons _ _ => rfl
  have p1 : ((its.toArray.size : Nat) : Int) * k ≤ 10000 := by
    rw [z1]
    exact Int.le_trans (Int.mul_le_mul (by omega) h2 (by omega) (by omega)) (Int.le_refl (100 * 100))
  have p2 : k.toNat * xs.length ≤ 10000 := Nat.le_trans (Nat.mul_le_mul (by omega : k.toNat ≤ 100) hz) (Nat.le_refl (100 * 100))
  have big : (10000 : Nat) ≤ sizeLine := by rw [sizeLine_eq]; decide
  have p3 : (List.replicate k.toNat its).flatten.length ≤ sizeLine := by
    rw [PyProof.Rows.lm_len_rep_flat, len]
    omega
  have ty : s.TypeIs (.ref l) "tuple" := ⟨_, ho, rfl⟩
  unfold binaryOp
  refine wpAny_holding (wpAny_bind (op1_left_no (nm := "mul") (id := "int.__mul__") (by decide) (typeIs_int s k t) ty F.fills_int_mul noFill_tuple_mul F.slot_int_mul ?_))
  refine call_meets F.slot_int_mul (typeIs_int s k t) F.entry_int_mul (F.args_int_mul_2 _ _) (int_mul_tup k t l its.toArray nl od osl) ⟨ho, rfl, ?_⟩
  refine wpAny_bind (wpAny_typeOf (typeIs_int s k t) ?_)
  refine wpAny_bind (wpAny_of_eq rep_int ?_)
  refine wpAny_bind (wpAny_typeOf ty ?_)
  refine wpAny_bind (wpAny_of_eq repeat_tuple ?_)
  unfold sequenceRepeat
  refine wpAny_bind (wpAny_specialOf (typeIs_int s k t) F.slot_int_index.lookup ?_)
  refine wpAny_bind (wpAny_rule ?_)
  refine call_meets F.slot_tuple_mul ty F.entry_tuple_mul (F.args_tuple_mul_2 _ _) (tuple_mulW l its.toArray nl od osl k t ?_ ?_ ?_ ?_ ?_ ?_) ⟨ho, ?_⟩
  · rw [decide_eq_false (by omega), decide_eq_false (by omega)]; rfl
  · rw [e1, Bool.false_or]
    exact beq_eq_false_iff_ne.mpr (by omega)
  · rw [e1, Bool.or_false]
    exact decide_eq_false (by omega)
  · omega
  · unfold Builtin.Tuple.tupleTooMany
    rw [sizeLine_eq]
    exact decide_eq_false (by omega)
  · rw [size_rep, List.size_toArray]
    exact p3
  rw [size_rep]
  exact newT_run I (by rw [PyProof.Rows.lm_len_rep_flat]; omega) (rv.rep k.toNat) q
end DL

set_option Elab.async false
set_option linter.all false
set_option maxRecDepth 100000
set_option maxHeartbeats 6400000
namespace DL
open PySem PySem.Spec L2
open PyProof.Rows hiding St
/-! ### n * t as data; {} as a value; xs.insert(i, y) -/
def repD (x y : PyData) : Res PyData := match x, y with
  | .int k, .tuple ds => if (decide (2 ≤ k) && decide (k ≤ 100) && !ds.isEmpty && decide (ds.length ≤ 100)) = true then .ok (.tuple (List.replicate k.toNat ds).flatten) else .bot
  | _, _ => .bot
theorem repD_ne (x y : PyData) (z : Exn) : (repD x y).quiet := by
  unfold repD
  split
  · split <;> exact True.intro
  · exact True.intro
theorem RepAll.many {K : PySem.W.Frag} {Fz : FZ} {H : Hp} {vs : List V} {ds : List PyData} (r : RepAll K Fz H vs ds) : ∀ n, RepAll K Fz H (List.replicate n vs).flatten (List.replicate n ds).flatten
  | 0 => .nil
  | n + 1 => by
    rw [List.replicate_succ, List.replicate_succ, List.flatten_cons, List.flatten_cons]
    exact r.app (RepAll.many r n)
section
variable {X : Cx} {W : WS} {S T : List Nat} {e a b : Expr} {pos p : Pos} {te ta tb : TE}
theorem od_mulT (K) (hK : X.K = K := by rfl) : OpD X (binaryOp .Mult) (rMulT K) repD := by
  subst hK
  refine .of op_mulT fun Fz H x y v u Q hl r1 r2 q => ?_
  unfold repD at q
  split at q
  · rename_i k ds
    split at q
    · rename_i c
      simp only [Bool.and_eq_true, decide_eq_true_eq, Bool.not_eq_true', List.isEmpty_eq_false_iff] at c
      obtain ⟨⟨⟨c1, c2⟩, c3⟩, c4⟩ := c
      cases r1
      cases r2 with
      | tup h z rr =>
        refine ⟨k, _, _, rfl, rfl, h.sq, fun n => c3 ?_, c1, c2, by rw [rr.length]; exact c4, newT_rep ?_ (rr.many k.toNat) fun v2 H2 F2 g2 r2 => q v2 H2 F2 g2 r2⟩
        · have := rr.length
          rw [n] at this
          exact List.eq_nil_of_length_eq_zero this.symm
        · have big : (10000 : Nat) ≤ sizeLine := by rw [sizeLine_eq]; decide
          rw [List.length_flatten, List.map_replicate, List.sum_replicate_nat]
          exact Nat.le_trans (Nat.mul_le_mul (by omega : k.toNat ≤ 100) c4) (Nat.le_trans (Nat.le_refl (100 * 100)) big)
    · exact q.elim
  · exact q.elim
theorem de_dict0 : DE X W [] (.Dict [] [] p) tDNewK (fun _ => .ok (dcD false [] [])) := by
  refine ⟨pe_dnewK, fun Fz σ H δ Q hd hl hq p np => ?_⟩
  have g : Grow Fz H (fun a => Fz a ∨ a = p) (upd H p (.dK [])) := .frz np
  exact hq _ _ _ g (.dck (kvs := []) ⟨upd_same, .inr rfl⟩ rfl .nil)
def insF (i : Nat) (S : List Nat) (fk fv : DSt → Res PyData) (δ : DSt) : Res Out :=
  match δ[i]? with
  | some (some (.own _)) => do
    let k ← fk δ
    match k with
    | .int z => do
      let d ← fv δ
      let δ' := if flat d then δ else freeze S 0 δ
      match δ'[i]? with
      | some (some (.own xs)) => if (decide (xs.length < sizeLine) && decide (0 ≤ z) && decide (z < 1000000)) = true then .ok (.nx (δ'.set i (some (.own (xs.take z.toNat ++ d :: xs.drop z.toNat))))) else .bot
      | _ => .bot
    | _ => .bot
  | _ => .bot
def rIns : V → List V → Hp → VK → Prop := fun x vs H Q => ∃ (l : Addr) (xs : List V) (i : Int) (y : V), x = .ref l ∧ vs = [.int i, y] ∧ H l = some (.lst xs) ∧ xs.length < sizeLine ∧ 0 ≤ i ∧
    i < 2 ^ 63 ∧ Q .non (upd H l (.lst (xs.take i.toNat ++ [y] ++ xs.drop i.toNat)))
theorem ds_insert {i : Nat} {x : Str} {fk fv : DSt → Res PyData} {apos cpos xpos : Pos} {e2 : Expr} {te2 : TE} (hN : X.N[i]? = some x) (hv : Vis X.env.scope x) (hk : DE X W T e te fk) (he : DE X W S e2 te2 fv)
    (hbase : attributeBase (.Name x xpos) "insert" X.env (eval (.Name x xpos) X.env) = eval (.Name x xpos) X.env := by rfl)
    (hfew : ((backTo cpos (starEach [e, e2] X.env)).all (fun x => !x.1) && (backToKw cpos (keywordEach [] X.env)).all (fun x => x.1.isSome)
      && decide ([e, e2].length + ([] : List Keyword).length + (if ([] : List Keyword).isEmpty then 0 else 1) < 30)) = true := by rfl)
    (hline : (apos.endLine == cpos.line) = true := by rfl) (hs : starEach [e, e2] X.env = (false, eval e X.env) :: starEach [e2] X.env := by rfl) (hs2 : starEach [e2] X.env = (false, eval e2 X.env) :: starEach [] X.env := by rfl) (hplain : (backTo cpos (starEach [e2] X.env)).any (·.1) = false := by rfl)
    (hsw : swapsWith (.Call (.Attribute (.Name x xpos) "insert" apos) [e, e2] [] cpos) none pos.line X.env = pure false := by rfl) (hd : (x == ("__debug__" : Str)) = false := by decide) (hcd : (x == ("__classdict__" : Str)) = false := by decide) :
    DS X W (.Expr (.Call (.Attribute (.Name x xpos) "insert" apos) [e, e2] [] cpos) pos) (tDrop (tBM X.K "list" rIns (tVar i) (tCons te (tCons te2 tNil)))) (insF i S fk fv) := by
  refine ⟨ps_expr (pe_bm PySem.F.plainAttrs_list PySem.F.slot_list_insert PySem.F.type_list_insert mt_insert (pe_var (i := i) hN hv hd hcd) (pa_cons hk.pe (pa_cons he.pe pa_nil hs2) hs) hbase hfew hline hs hplain) hsw, fun H0 Fz0 Fz H σ δ Dn r h => ?_⟩
  unfold SOK insF at h
  split at h
  · rename_i xs0 e1
    obtain ⟨a, e2', e4, e5, vs, e3, e6, e7⟩ := r.own i _ e1 rfl
    rw [wp_bind] at h
    refine ⟨.ref a, e2', .inl ⟨rfl, _, .of e3⟩, ?_⟩
    refine atE hk r (wp_mono h (fun k hk' u H1 F1 g1 r1 => ?_) fun x hx => hx)
    split at hk'
    · rename_i z
      cases r1
      have rr := r.up g1.same
      rw [wp_bind] at hk'
      refine atE he rr (wp_mono hk' (fun d hd' v H2 F2 g2 r2 => ?_) fun x hx => hx)
      have fin : ∀ (F : FZ) (δ' : DSt), Rel X.K H0 Fz0 F H2 σ δ' → Rep X.K F H2 v d → (match δ'[i]? with
          | some (some (.own xs)) => if (decide (xs.length < sizeLine) && decide (0 ≤ z) && decide (z < 1000000)) = true then (.ok (.nx (δ'.set i (some (.own (xs.take z.toNat ++ d :: xs.drop z.toNat))))) : Res Out) else .bot
          | _ => .bot).wp (OOK X.K H0 Fz0 Dn) (XOK X.mg (W σ) H0 Fz0) → rIns (.ref a) [.int z, v] H2 fun _ H3 => Dn.nx σ H3 := fun F δ' r' rv q => by
        split at q
        · rename_i xs e1'
          obtain ⟨a', k2, k4, k5, vs', k3, k6, k7⟩ := r'.own i _ e1' rfl
          rw [e2'] at k2
          cases k2
          split at q
          · rename_i c
            simp only [Bool.and_eq_true, decide_eq_true_eq] at c
            obtain ⟨⟨c1, c2⟩, c3⟩ := c
            have l := k7.length
            refine ⟨a, vs', z, v, rfl, rfl, k3, by omega, c2, by omega, q F _ σ (r'.write e1' rfl e2' fun H' st q => ⟨_, q, ?_, ?_⟩)⟩
            · have e : xs.take z.toNat ++ d :: xs.drop z.toNat = xs.take z.toNat ++ [d] ++ xs.drop z.toNat := by simp
              rw [e, List.append_assoc, List.length_append, List.length_append, List.length_take, List.length_drop, List.length_singleton]
              omega
            · have e : xs.take z.toNat ++ d :: xs.drop z.toNat = xs.take z.toNat ++ [d] ++ xs.drop z.toNat := by simp
              rw [e]
              exact (((k7.take _).app (.cons rv .nil)).app (k7.drop _)).stay st fun _ h => h
          · exact q.elim
        · exact q.elim
      by_cases hf : flat d = true
      · simp only [hf, if_true] at hd'
        exact fin Fz δ (rr.up g2.same) (r2.flat hf) hd'
      · simp only [hf, if_false] at hd'
        exact fin F2 _ (rr.frz g2) r2 hd'
    · exact hk'.elim
  · exact h.elim
end
end DL

set_option Elab.async false
set_option linter.all false
set_option maxRecDepth 100000
set_option maxHeartbeats 6400000
namespace DL
open PySem PySem.Spec L2
open PyProof.Rows hiding St
/-! ### str(i) -/
def strD (ds : List PyData) : Res PyData := match ds with
  | [.int i] => if i.natAbs < 4294967296 then .ok (.str (toString i)) else .bot
  | _ => .bot
theorem log_small {n : Nat} (h : n < 4294967296) : n.log2 < 1920 := by
  by_cases h0 : n = 0
  · subst h0
    decide
  · exact (Nat.log2_lt h0).mpr (Nat.lt_of_lt_of_le h (by
      have : (2 : Nat) ^ 32 ≤ 2 ^ 1920 := Nat.pow_le_pow_right (by decide) (by decide)
      exact this))
theorem cd_str {X : Cx} : CallD X (.type "str") (fun xs H Q => ∃ i, xs = [.int i] ∧ i.natAbs.log2 < 1920 ∧ Q (.str (toString i)) H) strD := by
  refine ⟨call_str_int, fun Fz H ds vs Q hl r q => ?_, fun ds z => ?_⟩
  · unfold strD at q
    split at q
    · split at q
      · rename_i hz
        cases r with
        | cons h r =>
          cases h
          cases r
          exact ⟨_, rfl, log_small hz, q.at (.str _)⟩
      · exact q.elim
    · exact q.elim
  · unfold strD
    split
    · split <;> exact True.intro
    · exact True.intro
end DL

set_option Elab.async false
set_option linter.all false
set_option maxRecDepth 100000
set_option maxHeartbeats 6400000
namespace DL
open PySem PySem.Spec L2
open PyProof.Rows hiding St
/-- a statement of which nothing is told: it must not be reached (a raise in a law that raises nothing) -/
theorem ds_bot {X : Cx} {W : WS} {st : Stmt} : DS X W st (fun _ _ _ => False) (fun _ => .bot) := ⟨⟨fun _ _ _ _ _ _ h => h.elim⟩, fun _ _ _ _ _ _ _ _ h => h.elim⟩
end DL

set_option Elab.async false
set_option linter.all false
set_option maxRecDepth 100000
set_option maxHeartbeats 6400000
namespace DL
open PySem PySem.Spec L2
open PyProof.Rows hiding St
/-! ### xs.index(e) of a list -/
def indexL (ds : List PyData) (y : PyData) : Res PyData := if (SeqAt.shaped (.list ds) && SeqAt.shaped y && nodc (.list ds) && nodc y) = true then (match ds.findIdx? fun z => PyData.eqv z y with | some j => .ok (.int (j : Nat)) | none => .bot) else .bot
def indexF (fa fb : DSt → Res PyData) (δ : DSt) : Res PyData := fa δ >>= fun x => match x with
  | .list ds => fb δ >>= fun y => indexL ds y
  | _ => .bot
section
variable {X : Cx} {W : WS} {S T : List Nat} {o e : Expr} {to te : TE} {apos cpos : Pos}
theorem de_indexK (K) {fa fb : DSt → Res PyData} (hu : X.A.units + 65 < cLine) (ho : DE X W S o to fa) (he : DE X W T e te fb) (hK : X.K = K := by rfl)
    (hbase : attributeBase o "index" X.env (eval o X.env) = eval o X.env := by rfl)
    (hfew : ((backTo cpos (starEach [e] X.env)).all (fun x => !x.1) && (backToKw cpos (keywordEach [] X.env)).all (fun x => x.1.isSome)
      && decide ([e].length + ([] : List Keyword).length + (if ([] : List Keyword).isEmpty then 0 else 1) < 30)) = true := by rfl)
    (hline : (apos.endLine == cpos.line) = true := by rfl) (hs : starEach [e] X.env = (false, eval e X.env) :: starEach [] X.env := by rfl) (hplain : (backTo cpos (starEach [] X.env)).any (·.1) = false := by rfl) :
    DE X W (S ++ T) (.Call (.Attribute o "index" apos) [e] [] cpos) (tBM K "list" (rIndexD K) to (tCons te tNil)) (indexF fa fb) := by
  subst hK
  refine ⟨pe_bm PySem.F.plainAttrs_list PySem.F.slot_list_index PySem.F.type_list_index (mt_indexD hu) ho.pe (pa_cons he.pe pa_nil hs) hbase hfew hline hs hplain, fun Fz σ H δ Q hd hl h => ?_⟩
  unfold EOK indexF at h
  rw [wp_bind] at h
  refine ho.ok Fz σ H δ _ hd.left hl (wp_mono h (fun x hx v H1 F1 g1 r1 => ?_) fun x hx => hx)
  cases x with
  | list ds =>
    have r1' := r1
    cases r1 with
    | lst hh z rr =>
      refine ⟨.inl ⟨rfl, _, hh.sq⟩, ?_⟩
      have hx : (fb δ >>= fun y => indexL ds y).wp _ _ := hx
      rw [wp_bind] at hx
      refine he.ok F1 σ H1 δ _ (hd.right.grow g1) (g1.live hl) (wp_mono hx (fun y hy u H2 F2 g2 r2 => ?_) fun x hx c oe H2 F2 g2 r2 => hx c oe H2 F2 (g1.trans g2) r2)
      unfold indexL at hy
      split at hy
      · rename_i c
        rw [Bool.and_eq_true, Bool.and_eq_true, Bool.and_eq_true] at c
        obtain ⟨⟨⟨c1, c2⟩, c3⟩, c4⟩ := c
        split at hy
        · rename_i j hj
          obtain ⟨hlt, p1, p2⟩ := List.findIdx?_eq_some_iff_getElem.mp hj
          refine ⟨_, u, y, ds, j, ds[j], rfl, rfl, (r1'.grow g2).dp c3, r2.dp c4, c1, c2, List.getElem?_eq_getElem hlt, p1, fun m z' hm hz => ?_, hy _ H2 F2 (g1.trans g2) (.int _)⟩
          have hml : m < ds.length := by omega
          rw [List.getElem?_eq_getElem hml] at hz
          cases hz
          have := p2 m hm
          simpa using this
        · exact hy.elim
      · exact hy.elim
  | _ => exact hx.elim
end
end DL

set_option Elab.async false
set_option linter.all false
set_option maxRecDepth 100000
set_option maxHeartbeats 6400000
namespace DL
open PySem PySem.Spec L2
open PyProof.Rows hiding St
/-! ### xs.extend(e), e a list or a tuple -/
theorem ext_tup (l : Addr) (xs : Array Value) (n : Nat) (b : Addr) (ys : Array Value) (m : Nat) (od : Option Addr) (os : Array (Option Value)) (h0 : ¬(!xs.isEmpty && Builtin.List.listTooLong (xs.size + ys.size)) = true) (h1 : xs.size ≤ sizeLine) (h2 : (xs ++ ys).size ≤ sizeLine + 1) :
    Meets (Builtin.«list.extend» ⟨[.ref l, .ref b], []⟩) (fun _ R z => z.heap.get? l = some { cls := .type "list", dict := none, data := .seq xs n, slots := #[] } ∧
      z.heap.get? b = some { cls := .type "tuple", dict := od, data := .seq ys m, slots := os } ∧ R (.ok (.ret Value.none)) { z with heap := z.heap.update l (Obj.mapSeq fun x => x ++ ys), toks := z.toks }) :=
  .of_wp fun pg wd B R z q => by
    obtain ⟨zh, zg, zd, zt, zo⟩ := z
    obtain ⟨at0, at1, q⟩ := q
    have i1 := AutoSeq1.idx_int
    have i2 := AutoSeq1.sub_tuple_tuple
    have i3 := AutoSeq1.sub_list_list
    have i4 := AutoSeq1.sub_tuple_list
    have i5 := AutoSeq1.sub_list_tuple
    wp_walk using (wpAny_updateSeq at0 rfl (hz := h1) (_hz' := h2)), wpAny_loadPart' at0, wpAny_loadPart' at1
    exact ⟨_, rfl, q⟩
theorem ext_lst (l : Addr) (xs : Array Value) (n : Nat) (b : Addr) (ys : Array Value) (m : Nat) (od : Option Addr) (os : Array (Option Value)) (h0 : ¬(!xs.isEmpty && Builtin.List.listTooLong (xs.size + ys.size)) = true) (h1 : xs.size ≤ sizeLine) (h2 : (xs ++ ys).size ≤ sizeLine + 1) :
    Meets (Builtin.«list.extend» ⟨[.ref l, .ref b], []⟩) (fun _ R z => z.heap.get? l = some { cls := .type "list", dict := none, data := .seq xs n, slots := #[] } ∧
      z.heap.get? b = some { cls := .type "list", dict := od, data := .seq ys m, slots := os } ∧ R (.ok (.ret Value.none)) { z with heap := z.heap.update l (Obj.mapSeq fun x => x ++ ys), toks := z.toks }) :=
  .of_wp fun pg wd B R z q => by
    obtain ⟨zh, zg, zd, zt, zo⟩ := z
    obtain ⟨at0, at1, q⟩ := q
    have i1 := AutoSeq1.idx_int
    have i2 := AutoSeq1.sub_tuple_tuple
    have i3 := AutoSeq1.sub_list_list
    have i4 := AutoSeq1.sub_tuple_list
    have i5 := AutoSeq1.sub_list_tuple
    wp_walk using (wpAny_updateSeq at0 rfl (hz := h1) (_hz' := h2)), wpAny_loadPart' at0, wpAny_loadPart' at1
    exact ⟨_, rfl, q⟩
def rExt (K : PySem.W.Frag) : V → List V → Hp → VK → Prop := fun x vs H Q => ∃ l b xs zs, x = .ref l ∧ vs = [.ref b] ∧ H l = some (.lst xs) ∧ (SqL K H b zs ∨ SqT K H b zs) ∧ xs.length + zs.length ≤ sizeLine ∧
  Q .non (upd H l (.lst (xs ++ zs)))
theorem mt_ext {X : Cx} : MtR X "list.extend" (rExt X.K) := by
  intro pins s σ H x vs v us Q I rx rv h
  obtain ⟨l, b, xs, zs, rfl, rfl, hH, hB, hz, q⟩ := h
  cases rx
  obtain ⟨u, rfl, ru⟩ := rv.one
  cases ru
  obtain ⟨z, its, n, r, hl, e⟩ := I.lstM hH
  have end_ : ∀ its2 : List Value, Vals zs its2 → its2.length = zs.length → EP X pins σ Q Value.none { s with heap := s.heap.update l (Obj.mapSeq fun x => x ++ its2.toArray), toks := s.toks } := fun its2 r2 hl2 =>
    ⟨.non, _, I.lset (its' := its ++ its2) hH e (by simp) (r.append r2) (by rw [List.length_append]; omega), rfl, q⟩
  rcases hB with hB | hB
  · obtain ⟨its2, r2, pl, hz2⟩ := I.list hB
    have il := pl.isList
    obtain ⟨⟨oc, od, odt, osl⟩, ho, hcl, m, hdt⟩ := il
    cases hcl
    cases hdt
    have hl2 : its2.length = zs.length := r2.length.symm
    have sz : its.toArray.size + its2.toArray.size ≤ sizeLine := by rw [List.size_toArray, List.size_toArray]; omega
    refine call_meets F.slot_list_extend ⟨_, e, rfl⟩ F.entry_list_extend (F.args_list_extend_2 _ _) (ext_lst l its.toArray n b its2.toArray m od osl (by rw [notLongL sz, Bool.and_false]; exact Bool.false_ne_true) (by omega) (by rw [Array.size_append]; omega)) ⟨e, ho, ?_⟩
    exact end_ its2 r2 hl2
  · obtain ⟨its2, r2, pt, hz2⟩ := I.tuple hB
    obtain ⟨⟨oc, od, odt, osl⟩, ho, hcl, m, hdt⟩ := pt
    cases hcl
    cases hdt
    have hl2 : its2.length = zs.length := r2.length.symm
    have sz : its.toArray.size + its2.toArray.size ≤ sizeLine := by rw [List.size_toArray, List.size_toArray]; omega
    refine call_meets F.slot_list_extend ⟨_, e, rfl⟩ F.entry_list_extend (F.args_list_extend_2 _ _) (ext_tup l its.toArray n b its2.toArray m od osl (by rw [notLongL sz, Bool.and_false]; exact Bool.false_ne_true) (by omega) (by rw [Array.size_append]; omega)) ⟨e, ho, ?_⟩
    exact end_ its2 r2 hl2
/-- the items of a list or a tuple -/
def itemsO : PyData → Option (List PyData)
  | .list ys => some ys
  | .tuple ys => some ys
  | _ => none
theorem items_rep {K : PySem.W.Frag} {Fz : FZ} {H : Hp} {v : V} {d : PyData} {ys : List PyData} (r : Rep K Fz H v d) (h : itemsO d = some ys) : ∃ b zs, v = .ref b ∧ (SqL K H b zs ∨ SqT K H b zs) ∧ RepAll K Fz H zs ys := by
  cases d with
  | list ds =>
    cases h
    cases r with
    | lst hh z rr => exact ⟨_, _, rfl, .inl hh.sq, rr⟩
  | tuple ds =>
    cases h
    cases r with
    | tup hh z rr => exact ⟨_, _, rfl, .inr hh.sq, rr⟩
  | _ => cases h
def extF (i : Nat) (S : List Nat) (f : DSt → Res PyData) (δ : DSt) : Res Out :=
  match δ[i]? with
  | some (some (.own _)) => do
    let d ← f δ
    let δ' := if flat d then δ else freeze S 0 δ
    match δ'[i]?, itemsO d with
    | some (some (.own xs)), some ys => if xs.length + ys.length ≤ sizeLine then .ok (.nx (δ'.set i (some (.own (xs ++ ys))))) else .bot
    | _, _ => .bot
  | _ => .bot
section
variable {X : Cx} {W : WS} {S : List Nat} {e : Expr} {te : TE} {pos : Pos}
theorem ds_extend {i : Nat} {x : Str} {f : DSt → Res PyData} {apos cpos xpos : Pos} (hN : X.N[i]? = some x) (hv : Vis X.env.scope x) (he : DE X W S e te f)
    (hbase : attributeBase (.Name x xpos) "extend" X.env (eval (.Name x xpos) X.env) = eval (.Name x xpos) X.env := by rfl)
    (hfew : ((backTo cpos (starEach [e] X.env)).all (fun x => !x.1) && (backToKw cpos (keywordEach [] X.env)).all (fun x => x.1.isSome)
      && decide ([e].length + ([] : List Keyword).length + (if ([] : List Keyword).isEmpty then 0 else 1) < 30)) = true := by rfl)
    (hline : (apos.endLine == cpos.line) = true := by rfl) (hs : starEach [e] X.env = (false, eval e X.env) :: starEach [] X.env := by rfl) (hplain : (backTo cpos (starEach [] X.env)).any (·.1) = false := by rfl)
    (hsw : swapsWith (.Call (.Attribute (.Name x xpos) "extend" apos) [e] [] cpos) none pos.line X.env = pure false := by rfl) (hd : (x == ("__debug__" : Str)) = false := by decide) (hcd : (x == ("__classdict__" : Str)) = false := by decide) :
    DS X W (.Expr (.Call (.Attribute (.Name x xpos) "extend" apos) [e] [] cpos) pos) (tDrop (tBM X.K "list" (rExt X.K) (tVar i) (tCons te tNil))) (extF i S f) := by
  refine ⟨ps_expr (pe_bm PySem.F.plainAttrs_list PySem.F.slot_list_extend PySem.F.type_list_extend mt_ext (pe_var (i := i) hN hv hd hcd) (pa_cons he.pe pa_nil hs) hbase hfew hline hs hplain) hsw, fun H0 Fz0 Fz H σ δ Dn r h => ?_⟩
  unfold SOK extF at h
  split at h
  · rename_i xs0 e1
    obtain ⟨a, e2, e4, e5, vs, e3, e6, e7⟩ := r.own i _ e1 rfl
    rw [wp_bind] at h
    refine ⟨.ref a, e2, .inl ⟨rfl, _, .of e3⟩, ?_⟩
    refine atE he r (wp_mono h (fun d hd v H1 F1 g1 r1 => ?_) fun x hx => hx)
    have fin : ∀ (F : FZ) (δ' : DSt), Rel X.K H0 Fz0 F H1 σ δ' → Rep X.K F H1 v d → (match δ'[i]?, itemsO d with
        | some (some (.own xs)), some ys => if xs.length + ys.length ≤ sizeLine then (.ok (.nx (δ'.set i (some (.own (xs ++ ys))))) : Res Out) else .bot
        | _, _ => .bot).wp (OOK X.K H0 Fz0 Dn) (XOK X.mg (W σ) H0 Fz0) → (rExt X.K) (.ref a) [v] H1 fun _ H2 => Dn.nx σ H2 := fun F δ' r' rv q => by
      split at q
      · rename_i xs ys e1' hi
        obtain ⟨a', k2, k4, k5, vs', k3, k6, k7⟩ := r'.own i _ e1' rfl
        rw [e2] at k2
        cases k2
        obtain ⟨b, zs, rfl, hsq, rr⟩ := items_rep rv hi
        split at q
        · rename_i hz
          have l := k7.length
          have l2 := rr.length
          exact ⟨a, b, vs', zs, rfl, rfl, k3, hsq, by omega, q F _ σ (r'.write e1' rfl e2 fun H' st q => ⟨_, q, by rw [List.length_append]; exact hz, (k7.app rr).stay st fun _ h => h⟩)⟩
        · exact q.elim
      · exact q.elim
    by_cases hf : flat d = true
    · simp only [hf, if_true] at hd
      exact fin Fz δ (r.up g1.same) (r1.flat hf) hd
    · simp only [hf, if_false] at hd
      exact fin F1 _ (r.frz g1) r1 hd
  · exact h.elim
end
end DL

set_option Elab.async false
set_option linter.all false
set_option maxRecDepth 100000
set_option maxHeartbeats 4000000
namespace DL
open PySem PySem.Spec L2
open PyProof.Rows hiding St

/-! ### x = f(..) where all that is handed over is flat: nothing of one's own gets out -/
def asgC (S : List Nat) (f : DSt → Res (List PyData)) (g : List PyData → Res PyData) (p : Pat) (δ : DSt) : Res Out := do
  let ds ← f δ
  let d ← nE (g ds)
  let δ' ← nE (bindP p d (if flat d || flatAll ds then δ else freeze S 0 δ))
  .ok (.nx δ')
theorem withOwn_nil {Fz : FZ} {σ : L2.St} {δ : DSt} {H F1 H1} (g : Grow Fz H F1 H1) : Grow (withOwn Fz H σ δ []) H F1 H1 :=
  ⟨g.same, fun a h => g.sub a (h.elim (fun x => x) fun ⟨i, hi, _⟩ => nomatch hi), fun a h => (g.new a h).elim (fun x => .inl (.inl x)) .inr, fun l => g.live fun a h => l a (.inl h)⟩
section
variable {X : Cx} {W : WS} {U : XK} {S T : List Nat} {e a b c tg : Expr} {es tgs : List Expr} {pos p ps0 : Pos} {te ta tb : TE} {t : TA} {ts ts' : TS} {st : Stmt} {rest : List Stmt}
theorem ds_setC (K) (mg) {k j n i : Nat} {x y : Str} {pos' : Pos} {g : List PyData → Res PyData} {f : DSt → Res (List PyData)} (hN : X.N.Nodup) (hi : X.N[i]? = some y) (hx : L2.Loc X.env.scope y) (c : FD X.prog X.w K mg X.base k n x g) (hr : Room j X.A) (hk : k ≤ j) (hg : Gl X x) (hn : (e :: es).length = n) (ha : DA X W S (e :: es) t f) (hK : X.K = K := by rfl) (hM : X.mg = mg := by rfl)
    (hdb : (x == ("__debug__" : Str)) = false := by decide) (he : starEach (e :: es) X.env = (false, eval e X.env) :: starEach es X.env := by rfl) (hpl : (backTo pos (starEach es X.env)).any (·.1) = false := by rfl)
    (hs : swapsWith (.Call (.Name x p) (e :: es) [] pos) (some (.Name y pos')) ps0.line X.env = pure false := by rfl) (hf : X.fn y = true ∨ X.env.scope.names.lookup y = some .local := by first | exact .inl rfl | exact .inr rfl | assumption) :
    DS X W (.Assign [.Name y pos'] (.Call (.Name x p) (e :: es) [] pos) ps0) (tAsg (tCall (spD K mg n g) [] L2.E0 t) (gName i)) (asgC S f g (.nm i)) := by
  subst hK hM
  have hd := de_call (pos := pos) (p := p) c hr hk hg hn ha hdb he hpl
  have hgn := dg_name (X := X) (pos := pos') hN hi hx hf
  refine ⟨ps_set hN hi hx hd.pe hs hf, fun H0 Fz0 Fz H σ δ Dn r h => ?_⟩
  unfold SOK asgC at h
  rw [wp_bind] at h
  refine ha.ok (withOwn Fz H σ δ S) σ H δ _ r.rd r.ownLive (wp_mono (wp_and_can h) (fun ds ⟨h, q⟩ vs H1 F1 g1 r1 => ?_) fun x hx c oe H1 F1 g => hx c oe H1 F1 (r.grow0 g))
  have h : (nE (g ds) >>= fun d => nE (bindP (.nm i) d (if (flat d || flatAll ds) = true then δ else freeze S 0 δ)) >>= fun δ' => Res.ok (Out.nx δ')).wp (OOK X.K H0 Fz0 Dn) (XOK X.mg (W σ) H0 Fz0) := h
  rw [wp_bind] at h
  cases hfl : flatAll ds with
  | false =>
    rw [hfl] at h
    simp only [Bool.or_false] at h
    refine ⟨ds, F1, (ha.len δ ds q).trans hn, g1.live r.ownLive, by rw [List.append_nil]; exact r1, wp_mono (nE_wpA h) (fun d hd v H2 F2 g2 r3 => ?_) fun _ h => h⟩
    have g12 := g1.trans g2
    rw [wp_bind] at hd
    obtain ⟨δ', hb, hd⟩ := nEb hd
    by_cases hf : flat d = true
    · rw [if_pos hf] at hb
      refine hgn.ok Fz H2 _ v d σ δ _ Rel.setsVal (r.up g12.same) (r3.flat hf) ?_
      rw [hb]
      exact fun σ' r' => hd Fz H2 σ' r'
    · rw [if_neg hf] at hb
      refine hgn.ok F2 H2 _ v d σ (freeze S 0 δ) _ Rel.setsVal (r.frz g12) r3 ?_
      rw [hb]
      exact fun σ' r' => hd F2 H2 σ' r'
  | true =>
    rw [hfl] at h
    simp only [Bool.or_true, if_true] at h
    have r2 : Rel X.K H0 Fz0 Fz H1 σ δ := r.up g1.same
    refine ⟨ds, Fz, (ha.len δ ds q).trans hn, r2.live, by rw [List.append_nil]; exact r1.flat hfl, wp_mono (nE_wpA h) (fun d h v H2 F2 g2 r3 => ?_) fun _ h => h⟩
    rw [wp_bind] at h
    obtain ⟨δ', hb, h⟩ := nEb h
    have r4 : Rel X.K H0 Fz0 F2 H2 σ δ := by
      have := r2.frz (S := []) (withOwn_nil g2)
      rwa [freeze_nil] at this
    refine hgn.ok F2 H2 _ v d σ δ _ Rel.setsVal r4 r3 ?_
    rw [hb]
    exact fun σ' r' => h F2 H2 σ' r'
end
end DL

set_option Elab.async false
set_option linter.all false
set_option maxRecDepth 100000
set_option maxHeartbeats 4000000
namespace DL
open PySem PySem.Spec L2
open PyProof.Rows hiding St

/-! ### range(i, j, -1) -/
def rngN (i j : Int) : List PyData := (List.range (i - j).toNat).map fun (k : Nat) => PyData.int (i - (k : Int))
theorem serves_rngN {K : PySem.W.Frag} (i j : Int) (Fz : FZ) (H : Hp) : Serves K Fz H (Itc i (-1) (i - j).toNat) (rngN i j) where
  item := fun Fz2 H2 s f l k d e => by
    unfold rngN at e
    rw [List.getElem?_map] at e
    cases q : (List.range (i - j).toNat)[k]? with
    | none => rw [q] at e; cases e
    | some c =>
      rw [q] at e
      cases e
      obtain ⟨h1, h2⟩ := List.getElem?_eq_some_iff.mp q
      rw [List.getElem_range] at h2
      subst h2
      rw [List.length_range] at h1
      exact ⟨h1, fun x H3 ⟨e1, e2⟩ => by
        subst e1 e2
        refine ⟨Fz2, .refl, ?_⟩
        rw [show i + (k : Int) * (-1) = i - (k : Int) by omega]
        exact .int _⟩
  stop := fun Fz2 H2 s f l => by
    show _ ≤ _
    unfold rngN
    rw [List.length_map, List.length_range]
    exact Nat.le_refl _
def rng3D (ds : List PyData) : Res (List PyData) := match ds with | [.int i, .int j, .int (-1)] => if in62 i && in62 j then .ok (rngN i j) else .bot | _ => .bot
section
variable {X : Cx} {W : WS} {S : List Nat} {a b c tg : Expr} {pos p : Pos} {t : TA}
theorem dr_range3 {f : DSt → Res (List PyData)} (hg : Gl X "range") (hm : X.mg "range" = none) (ha : DA X W S [a, b, c] t f) (hs : starEach [a, b, c] X.env = (false, eval a X.env) :: starEach [b, c] X.env := by rfl) (hpl : (backTo pos (starEach [b, c] X.env)).any (·.1) = false := by rfl) : DR X W S tg (.Call (.Name "range" p) [a, b, c] [] pos) (iRng3 t) (fun δ => do let ds ← f δ; rng3D ds) := by
  refine ⟨pi_range3 hg hm ha.pe hs hpl, fun Fz σ H δ R hd hl q => ?_⟩
  rw [wp_bind] at q
  refine ha.ok Fz σ H δ _ hd hl (wp_mono q (fun ds hx vs H1 F1 g1 r1 => ?_) fun x hx => hx)
  unfold rng3D at hx
  split at hx
  · rename_i i j
    split at hx
    · rename_i hj
      rw [Bool.and_eq_true] at hj
      have h1 := of_decide_eq_true hj.1
      have h2 := of_decide_eq_true hj.2
      cases r1 with
      | cons h r =>
        cases h
        cases r with
        | cons h r =>
          cases h
          cases r with
          | cons h r =>
            cases h
            cases r
            exact ⟨i, j, -1, (i - j).toNat, rfl, RgC.neg h1.1 h1.2 h2.1 h2.2, hx _ H1 F1 g1 (fun _ _ => serves_rngN i j _ _)⟩
    · exact hx.elim
  · exact hx.elim
end
end DL

set_option Elab.async false
set_option linter.all false
set_option maxRecDepth 100000
set_option maxHeartbeats 4000000
namespace DL
open PySem PySem.Spec L2
open PyProof.Rows hiding St

/-! ### len of a dict with whole numbers or texts as keys, too -/
def lenA (ds : List PyData) : Res PyData := match ds with
  | [.dict [(.bool false, .tuple ks), (.none, .tuple vs)]] => .ok (.int ks.length)
  | _ => lenD ds
section
variable {X : Cx}
def rLenA (K : PySem.W.Frag) : List V → Hp → VK → Prop := fun xs H Q => (∃ x n, xs = [x] ∧ LenV K x H n ∧ Q (.int n) H) ∨ ∃ a kvs, xs = [.ref a] ∧ H a = some (.dK kvs) ∧ Q (.int kvs.length) H
theorem call_lenA : CallR X (.builtin "len") (rLenA X.K) := by
  intro pins s σ H xs us Q I r h
  rcases h with h | ⟨a, kvs, rfl, e, q⟩
  · exact call_len pins s σ H xs us Q I r h
  · obtain ⟨u, rfl, rx⟩ := vals1 r
    cases rx
    exact d_len I (.inl e) fun t s' I' => ⟨.int kvs.length, H, I', ⟨_, rfl⟩, q⟩
theorem cd_lenA : CallD X (.builtin "len") (rLenA X.K) lenA := by
  refine ⟨call_lenA, fun Fz H ds vs Q hl r q => ?_, fun ds z => by
    unfold lenA
    split
    · exact True.intro
    · exact (cd_len (X := X)).ne ds z⟩
  unfold lenA at q
  split at q
  · cases r with
    | cons h r =>
      cases r
      cases h with
      | dck h e rr => exact .inr ⟨_, _, rfl, h.1, by
          have := q.at (.int _)
          rw [e, List.length_map] at this
          exact this⟩
  · exact .inl (cd_len.ok Fz H ds vs Q hl r q)
theorem cd_lenAK (K) (hK : X.K = K := by rfl) : CallD X (.builtin "len") (rLenA K) lenA := by subst hK; exact cd_lenA
end
end DL

set_option Elab.async false
set_option linter.all false
set_option maxRecDepth 100000
set_option maxHeartbeats 4000000
namespace DL
open PySem PySem.Spec L2
open PyProof.Rows hiding St

/-! ### defs that change their caller's lists: statements that keep the parameters' addresses -/
abbrev Pn := List (Nat × Addr)
def Pin (σ : L2.St) (pin : Pn) : Prop := ∀ p ∈ pin, σ[p.1]? = some (some (.ref p.2))
theorem Pin.set {σ : L2.St} {pin : Pn} (h : Pin σ pin) {i : Nat} (hi : i ∉ pin.map (·.1)) (v : V) : Pin (σ.set i (some v)) pin := fun p hp => by
  have hne : i ≠ p.1 := fun e => hi (by rw [e]; exact List.mem_map_of_mem (f := (·.1)) hp)
  rw [List.getElem?_set_ne hne]
  exact h p hp
inductive OutM where
  | nx (δ : DSt) | rt (d : PyData) (δ : DSt)
def OKm (K : PySem.W.Frag) (H0 : Hp) (Fz0 : FZ) (pin : Pn) (Dn : Ends) : OutM → Prop
  | .nx δ => ∀ Fz H σ, Rel K H0 Fz0 Fz H σ δ → Pin σ pin → Dn.nx σ H
  | .rt d δ => ∀ Fz H σ v, Rel K H0 Fz0 Fz H σ δ → Pin σ pin → Rep K Fz H v d → Dn.rt v H
def SKm (K : PySem.W.Frag) (mg : Str → Option Value) (W : XK) (H0 : Hp) (Fz0 : FZ) (pin : Pn) (r : Res OutM) (Dn : Ends) : Prop := r.wp (OKm K H0 Fz0 pin Dn) (XOK mg W H0 Fz0)
structure DMu (X : Cx) (W : WS) (M : List Nat) (st : Stmt) (t : TS) (f : DSt → Res OutM) : Prop where
  pe : PS X st t
  ok : ∀ pin, pin.map (·.1) = M → ∀ H0 Fz0 Fz H σ δ Dn, Rel X.K H0 Fz0 Fz H σ δ → Pin σ pin → SKm X.K X.mg (W σ) H0 Fz0 pin (f δ) Dn → t Dn σ H
structure DMus (X : Cx) (W : WS) (M : List Nat) (st : List Stmt) (t : TS) (f : DSt → Res OutM) : Prop where
  pe : PSs X st t
  ok : ∀ pin, pin.map (·.1) = M → ∀ H0 Fz0 Fz H σ δ Dn, Rel X.K H0 Fz0 Fz H σ δ → Pin σ pin → SKm X.K X.mg (W σ) H0 Fz0 pin (f δ) Dn → t Dn σ H
def upM (f : DSt → Res Out) (δ : DSt) : Res OutM := f δ >>= fun o => match o with | .nx δ' => .ok (.nx δ') | _ => .bot
def downM (f : DSt → Res OutM) (δ : DSt) : Res Out := f δ >>= fun o => match o with | .nx δ' => .ok (.nx δ') | .rt d _ => .ok (.rt d)
def seqM (f g : DSt → Res OutM) (δ : DSt) : Res OutM := f δ >>= fun o => match o with | .nx δ' => g δ' | .rt d δ' => .ok (.rt d δ')
def retM (f : DSt → Res PyData) (δ : DSt) : Res OutM := f δ >>= fun d => if flat d then .ok (.rt d δ) else .bot
def ifM (c : DSt → Res Bool) (f g : DSt → Res OutM) (δ : DSt) : Res OutM := c δ >>= fun x => if x then f δ else g δ
def nilM (δ : DSt) : Res OutM := .ok (.nx δ)
section
variable {X : Cx} {W : WS} {U : XK} {S T M : List Nat} {e a b c tg : Expr} {es tgs : List Expr} {pos p : Pos} {te ta tb : TE} {tt : TT} {t : TA} {ts ts' : TS} {st : Stmt} {rest : List Stmt}
theorem ds_down {f : DSt → Res OutM} (h : DMu X W [] st ts f) : DS X W st ts (downM f) := by
  refine ⟨h.pe, fun H0 Fz0 Fz H σ δ Dn r q => ?_⟩
  unfold SOK downM at q
  rw [wp_bind] at q
  refine h.ok [] rfl H0 Fz0 Fz H σ δ Dn r (fun p hp => nomatch hp) (wp_mono q (fun o ho => ?_) fun x hx => hx)
  cases o with
  | nx δ' => exact fun F H' σ' r' _ => ho F H' σ' r'
  | rt d δ' => exact fun F H' σ' v r' _ rv => ho F H' v ⟨r'.same, r'.sub0, r'.new0, fun _ => r'.live⟩ rv
theorem dmu_nil : DMus X W M [] tNext nilM := ⟨pss_nil, fun pin _ H0 Fz0 Fz H σ δ Dn r hp h => h Fz H σ r hp⟩
theorem dmu_cons {f g : DSt → Res OutM} (h1 : DMu X (fun _ => U) M st ts f) (h2 : DMus X (fun _ => U) M rest ts' g) : DMus X (fun _ => U) M (st :: rest) (tSeq ts ts') (seqM f g) := by
  refine ⟨pss_cons h1.pe h2.pe, fun pin hM H0 Fz0 Fz H σ δ Dn r hp h => ?_⟩
  unfold SKm seqM at h
  rw [wp_bind] at h
  refine h1.ok pin hM H0 Fz0 Fz H σ δ _ r hp (wp_mono h (fun o ho => ?_) fun x hx => hx)
  cases o with
  | nx δ' => exact fun F H' σ' r' hp' => h2.ok pin hM H0 Fz0 F H' σ' δ' Dn r' hp' ho
  | rt d δ' => exact ho
theorem dmu_one {f : DSt → Res OutM} (h1 : DMu X W M st ts f) : DMus X W M [st] ts f := ⟨pss_one h1.pe, h1.ok⟩
theorem dmu_ret {f : DSt → Res PyData} (he : DE X W S e te f) : DMu X W M (.Return (some e) pos) (tRet te) (retM f) := by
  refine ⟨ps_ret he.pe, fun pin hM H0 Fz0 Fz H σ δ Dn r hp h => ?_⟩
  unfold SKm retM at h
  rw [wp_bind] at h
  refine atE he r (wp_mono h (fun d hd v H1 F1 g1 r1 => ?_) fun x hx => hx)
  by_cases hf : flat d = true
  · rw [if_pos hf] at hd
    exact hd Fz H1 σ v (r.up g1.same) hp (r1.flat hf)
  · rw [if_neg hf] at hd
    exact hd.elim
theorem dmu_if {c : Expr} {a b : List Stmt} {h : DSt → Res Bool} {f g : DSt → Res OutM} (hc : DT X W S c tt h) (ha : DMus X W M a ts f) (hb : DMus X W M b ts' g) : DMu X W M (.If c a b pos) (tIfS tt ts ts') (ifM h f g) := by
  refine ⟨ps_if hc.pe ha.pe hb.pe, fun pin hM H0 Fz0 Fz H σ δ Dn r hp q => ?_⟩
  unfold SKm ifM at q
  rw [wp_bind] at q
  refine atT hc r (wp_mono q (fun x hx H1 r1 => ?_) fun x hx => hx)
  cases x with
  | true => exact ha.ok pin hM H0 Fz0 Fz H1 σ δ Dn r1 hp hx
  | false => exact hb.ok pin hM H0 Fz0 Fz H1 σ δ Dn r1 hp hx
theorem setsPin {K : PySem.W.Frag} {H0 H : Hp} {Fz0 Fz : FZ} {is : List Nat} {pin : Pn} (hi : ∀ i ∈ is, i ∉ pin.map (·.1)) : Sets K Fz H is (fun σ δ => Rel K H0 Fz0 Fz H σ δ ∧ Pin σ pin) := fun σ δ i v d h hr rv => ⟨hr.1.setVal rv i, hr.2.set (hi i h) v⟩
theorem dmu_asg {f : DSt → Res PyData} {g : TG} {q : Pat} (he : DE X W S e te f) (hg : DG X tg g q) (hq : ∀ i ∈ q.slots, i ∉ M) : ∀ pin, pin.map (·.1) = M → ∀ H0 Fz0 Fz H σ δ Dn, Rel X.K H0 Fz0 Fz H σ δ → Pin σ pin → SKm X.K X.mg (W σ) H0 Fz0 pin (upM (asgF S f q) δ) Dn → tAsg te g Dn σ H := fun pin hM H0 Fz0 Fz H σ δ Dn r hp h => by
  subst hM
  unfold SKm upM asgF at h
  rw [wp_bind, wp_bind] at h
  refine atE he r (wp_mono h (fun d hd v H1 F1 g1 r1 => ?_) fun x hx => hx)
  rw [wp_bind] at hd
  obtain ⟨δ', hb, hd⟩ := nEb hd
  by_cases hf : flat d = true
  · rw [if_pos hf] at hb
    refine hg.ok Fz H1 _ v d σ δ _ (setsPin hq) ⟨r.up g1.same, hp⟩ (r1.flat hf) ?_
    rw [hb]
    exact fun σ' r' => hd Fz H1 σ' r'.1 r'.2
  · rw [if_neg hf] at hb
    refine hg.ok F1 H1 _ v d σ (freeze S 0 δ) _ (setsPin hq) ⟨r.frz g1, hp⟩ r1 ?_
    rw [hb]
    exact fun σ' r' => hd F1 H1 σ' r'.1 r'.2
theorem dmu_set {i : Nat} {x : Str} {pos' : Pos} {f : DSt → Res PyData} (hN : X.N.Nodup) (hi : X.N[i]? = some x) (hx : L2.Loc X.env.scope x) (he : DE X W S e te f) (hM : i ∉ M) (hs : swapsWith e (some (.Name x pos')) pos.line X.env = pure false := by rfl) (hf : X.fn x = true ∨ X.env.scope.names.lookup x = some .local := by first | exact .inl rfl | exact .inr rfl | assumption) :
    DMu X W M (.Assign [.Name x pos'] e pos) (tAsg te (gName i)) (upM (asgF S f (.nm i))) :=
  ⟨ps_set hN hi hx he.pe hs hf, dmu_asg he (dg_name (pos := pos') hN hi hx hf) (fun j hj => by
    have : j = i := by simpa [Pat.slots] using hj
    rw [this]; exact hM)⟩
theorem dmu_append {i : Nat} {x : Str} {f : DSt → Res PyData} {apos cpos xpos : Pos} (hN : X.N[i]? = some x) (hv : Vis X.env.scope x) (he : DE X W S e te f)
    (hbase : attributeBase (.Name x xpos) "append" X.env (eval (.Name x xpos) X.env) = eval (.Name x xpos) X.env := by rfl)
    (hfew : ((backTo cpos (starEach [e] X.env)).all (fun x => !x.1) && (backToKw cpos (keywordEach [] X.env)).all (fun x => x.1.isSome)
      && decide ([e].length + ([] : List Keyword).length + (if ([] : List Keyword).isEmpty then 0 else 1) < 30)) = true := by rfl)
    (hline : (apos.endLine == cpos.line) = true := by rfl) (hs : starEach [e] X.env = (false, eval e X.env) :: starEach [] X.env := by rfl) (hplain : (backTo cpos (starEach [] X.env)).any (·.1) = false := by rfl)
    (hsw : swapsWith (.Call (.Attribute (.Name x xpos) "append" apos) [e] [] cpos) none pos.line X.env = pure false := by rfl) (hd : (x == ("__debug__" : Str)) = false := by decide) (hcd : (x == ("__classdict__" : Str)) = false := by decide) :
    DMu X W M (.Expr (.Call (.Attribute (.Name x xpos) "append" apos) [e] [] cpos) pos) (tDrop (tBM X.K "list" rAppend (tVar i) (tCons te tNil))) (upM (appF i S f)) := by
  refine ⟨ps_expr (pe_bm PySem.F.plainAttrs_list PySem.F.slot_list_append PySem.F.type_list_append mt_append (pe_var (i := i) hN hv hd hcd) (pa_cons he.pe pa_nil hs) hbase hfew hline hs hplain) hsw, fun pin hM H0 Fz0 Fz H σ δ Dn r hp h => ?_⟩
  unfold SKm upM appF at h
  rw [wp_bind] at h
  split at h
  · rename_i xs0 e1
    obtain ⟨a, e2, e4, e5, vs, e3, e6, e7⟩ := r.own i _ e1 rfl
    rw [wp_bind] at h
    refine ⟨.ref a, e2, .inl ⟨rfl, _, .of e3⟩, ?_⟩
    refine atE he r (wp_mono h (fun d hd v H1 F1 g1 r1 => ?_) fun x hx => hx)
    have fin : ∀ (F : FZ) (δ' : DSt), Rel X.K H0 Fz0 F H1 σ δ' → Rep X.K F H1 v d → (match δ'[i]? with
        | some (some (.own xs)) => if xs.length < sizeLine then (.ok (.nx (δ'.set i (some (.own (xs ++ [d]))))) : Res Out) else .bot
        | _ => .bot).wp (fun o => (match o with | .nx δ' => (.ok (.nx δ') : Res OutM) | _ => .bot).wp (OKm X.K H0 Fz0 pin Dn) (XOK X.mg (W σ) H0 Fz0)) (XOK X.mg (W σ) H0 Fz0) → rAppend (.ref a) [v] H1 fun _ H2 => Dn.nx σ H2 := fun F δ' r' rv q => by
      split at q
      · rename_i xs e1'
        obtain ⟨a', k2, k4, k5, vs', k3, k6, k7⟩ := r'.own i _ e1' rfl
        rw [e2] at k2
        cases k2
        split at q
        · rename_i hz
          have l := k7.length
          exact ⟨a, vs', v, rfl, rfl, k3, by omega, q F _ σ (r'.write e1' rfl e2 fun H' st q => ⟨_, q, by rw [List.length_append, List.length_singleton]; omega, (k7.app (.cons rv .nil)).stay st fun _ h => h⟩) hp⟩
        · exact q.elim
      · exact q.elim
    by_cases hf : flat d = true
    · simp only [hf, if_true] at hd
      exact fin Fz δ (r.up g1.same) (r1.flat hf) hd
    · simp only [hf, if_false] at hd
      exact fin F1 _ (r.frz g1) r1 hd
  · exact h.elim
end
end DL

set_option Elab.async false
set_option linter.all false
set_option maxRecDepth 100000
set_option maxHeartbeats 4000000
namespace DL
open PySem PySem.Spec L2
open PyProof.Rows hiding St

/-! ### a def that changes lists of its caller: what it promises -/
/-- the arguments: true, a list that may be changed -/
inductive ArgsR (K : PySem.W.Frag) (Fz : FZ) (H : Hp) : List Bool → List V → List PyData → Prop
  | nil : ArgsR K Fz H [] [] []
  | val {mk vs ds v d} : Rep K Fz H v d → ArgsR K Fz H mk vs ds → ArgsR K Fz H (false :: mk) (v :: vs) (d :: ds)
  | own {mk vs ds a us xs} : H a = some (.lst us) → ¬ Fz a → xs.length ≤ sizeLine → RepAll K Fz H us xs → ArgsR K Fz H mk vs ds → ArgsR K Fz H (true :: mk) (.ref a :: vs) (.list xs :: ds)
/-- where the lists lie, by slot -/
def pinsM : Nat → List Bool → List V → Pn
  | i, true :: mk, .ref a :: vs => (i, a) :: pinsM (i + 1) mk vs
  | i, _ :: mk, _ :: vs => pinsM (i + 1) mk vs
  | _, _, _ => []
def idxM : Nat → List Bool → List Nat
  | i, true :: mk => i :: idxM (i + 1) mk
  | i, false :: mk => idxM (i + 1) mk
  | _, [] => []
/-- the lists' new contents -/
inductive OwnsR (K : PySem.W.Frag) (Fz : FZ) (H : Hp) : List Addr → List (List PyData) → Prop
  | nil : OwnsR K Fz H [] []
  | cons {a as us xs ns} : H a = some (.lst us) → ¬ Fz a → xs.length ≤ sizeLine → RepAll K Fz H us xs → OwnsR K Fz H as ns → OwnsR K Fz H (a :: as) (xs :: ns)
/-- all else stays -/
structure EndM (Fz : FZ) (H : Hp) (A : List Addr) (Fz' : FZ) (H' : Hp) : Prop where
  keep : ∀ b o, H b = some o → b ∉ A → H' b = some o
  sub : ∀ b, Fz b → Fz' b
  new : ∀ b, Fz' b → Fz b ∨ H b = none
  live : Live Fz' H'
def spM (K : PySem.W.Frag) (mk : List Bool) (g : List PyData → Res (PyData × List (List PyData))) : Sp := fun vs H Q E =>
  ∃ ds Fz, Live Fz H ∧ ArgsR K Fz H mk vs ds ∧ ((pinsM 0 mk vs).map (·.2)).Nodup ∧ (g ds).wp (fun r => ∀ v H' Fz', EndM Fz H ((pinsM 0 mk vs).map (·.2)) Fz' H' → Rep K Fz' H' v r.1 → OwnsR K Fz' H' ((pinsM 0 mk vs).map (·.2)) r.2 → Q v H') (fun _ => False)
section
variable {K : PySem.W.Frag} {Fz : FZ} {H : Hp}
theorem ArgsR.len : ∀ {mk vs ds}, ArgsR K Fz H mk vs ds → vs.length = mk.length ∧ ds.length = mk.length
  | _, _, _, .nil => ⟨rfl, rfl⟩
  | _, _, _, .val _ r => ⟨by rw [List.length_cons, List.length_cons, r.len.1], by rw [List.length_cons, List.length_cons, r.len.2]⟩
  | _, _, _, .own _ _ _ _ r => ⟨by rw [List.length_cons, List.length_cons, r.len.1], by rw [List.length_cons, List.length_cons, r.len.2]⟩
theorem spM_len {mk g vs H Q E} (h : spM K mk g vs H Q E) : vs.length = mk.length := by
  obtain ⟨ds, Fz, _, h, _⟩ := h
  exact h.len.1
/-- the state at the entry -/
def slotM : Bool → PyData → SV
  | true, .list xs => .own xs
  | _, d => .val d
def startM (n : Nat) (mk : List Bool) (ds : List PyData) : DSt := (List.zipWith slotM mk ds).map some ++ List.replicate (n - ds.length) none
def contM : Nat → List Bool → DSt → Option (List (List PyData))
  | _, [], _ => some []
  | i, false :: mk, δ => contM (i + 1) mk δ
  | i, true :: mk, δ => match δ[i]? with
    | some (some (.own xs)) => (contM (i + 1) mk δ).map (xs :: ·)
    | _ => none
def outM (mk : List Bool) (d : PyData) (δ : DSt) : Res (PyData × List (List PyData)) := match contM 0 mk δ with
  | some c => .ok (d, c)
  | none => .bot
def fnM (n : Nat) (mk : List Bool) (b : DSt → Res OutM) (ds : List PyData) : Res (PyData × List (List PyData)) := nE (b (startM n mk ds)) >>= fun o => match o with
  | .nx δ => outM mk .none δ
  | .rt d δ => outM mk d δ
theorem ArgsR.at : ∀ {mk vs ds}, ArgsR K Fz H mk vs ds → ∀ (k i : Nat) s, ((List.zipWith slotM mk ds).map some)[i]? = some (some s) →
    (∃ d v, s = .val d ∧ vs[i]? = some v ∧ Rep K Fz H v d) ∨ ∃ a us xs, s = .own xs ∧ vs[i]? = some (.ref a) ∧ H a = some (.lst us) ∧ ¬ Fz a ∧ xs.length ≤ sizeLine ∧ RepAll K Fz H us xs ∧ (k + i, a) ∈ pinsM k mk vs
  | _, _, _, .nil, k, i, s, h => by simp at h
  | _, _, _, .val (mk := mk) (vs := vs) (ds := ds) (v := v) (d := d) rv r, k, 0, s, h => by
    have e : s = .val d := by
      have : some (some (slotM false d)) = some (some s) := h
      cases this; rfl
    exact .inl ⟨d, v, e, rfl, rv⟩
  | _, _, _, .val (mk := mk) (vs := vs) (ds := ds) (v := v) (d := d) rv r, k, i + 1, s, h => by
    rcases r.at (k + 1) i s h with ⟨d', v', e, e2, rr⟩ | ⟨a, us, xs, e, e2, e3, e4, e5, e6, e7⟩
    · exact .inl ⟨d', v', e, e2, rr⟩
    · refine .inr ⟨a, us, xs, e, e2, e3, e4, e5, e6, ?_⟩
      have : pinsM k (false :: mk) (v :: vs) = pinsM (k + 1) mk vs := by cases v <;> rfl
      rw [this, show k + (i + 1) = k + 1 + i by omega]
      exact e7
  | _, _, _, .own (mk := mk) (vs := vs) (ds := ds) (a := a) (us := us) (xs := xs) h1 h2 h3 h4 r, k, 0, s, h => by
    have e : s = .own xs := by
      have : some (some (slotM true (.list xs))) = some (some s) := h
      cases this; rfl
    exact .inr ⟨a, us, xs, e, rfl, h1, h2, h3, h4, List.mem_cons_self⟩
  | _, _, _, .own (mk := mk) (vs := vs) (ds := ds) (a := a) (us := us) (xs := xs) h1 h2 h3 h4 r, k, i + 1, s, h => by
    rcases r.at (k + 1) i s h with ⟨d', v', e, e2, rr⟩ | ⟨a', us', xs', e, e2, e3, e4, e5, e6, e7⟩
    · exact .inl ⟨d', v', e, e2, rr⟩
    · refine .inr ⟨a', us', xs', e, e2, e3, e4, e5, e6, List.mem_cons_of_mem _ ?_⟩
      rw [show k + (i + 1) = k + 1 + i by omega]
      exact e7
theorem pinsM_ge : ∀ (k : Nat) (mk : List Bool) (vs : List V), ∀ p ∈ pinsM k mk vs, k ≤ p.1
  | k, [], vs, p, h => by cases vs <;> simp [pinsM] at h
  | k, b :: mk, [], p, h => by cases b <;> simp [pinsM] at h
  | k, true :: mk, v :: vs, p, h => by
    cases v with
    | ref a =>
      rcases List.mem_cons.mp h with rfl | h
      · exact Nat.le_refl _
      · exact Nat.le_of_succ_le (pinsM_ge (k + 1) mk vs p h)
    | _ => exact Nat.le_of_succ_le (pinsM_ge (k + 1) mk vs p h)
  | k, false :: mk, v :: vs, p, h => by
    have : pinsM k (false :: mk) (v :: vs) = pinsM (k + 1) mk vs := by cases v <;> rfl
    rw [this] at h
    exact Nat.le_of_succ_le (pinsM_ge (k + 1) mk vs p h)
theorem pinsM_idx : ∀ {mk vs ds}, ArgsR K Fz H mk vs ds → ∀ k, (pinsM k mk vs).map (·.1) = idxM k mk
  | _, _, _, .nil, k => rfl
  | _, _, _, .val (mk := mk) (vs := vs) (v := v) _ r, k => by
    have : pinsM k (false :: mk) (v :: vs) = pinsM (k + 1) mk vs := by cases v <;> rfl
    rw [this, pinsM_idx r]; rfl
  | _, _, _, .own _ _ _ _ r, k => by
    show _ :: _ = _ :: _
    rw [pinsM_idx r]
theorem pinsM_val : ∀ {mk vs ds}, ArgsR K Fz H mk vs ds → ∀ k, ∀ p ∈ pinsM k mk vs, ∃ j, p.1 = k + j ∧ vs[j]? = some (.ref p.2)
  | _, _, _, .nil, k, p, h => by simp [pinsM] at h
  | _, _, _, .val (mk := mk) (vs := vs) (v := v) _ r, k, p, h => by
    have e : pinsM k (false :: mk) (v :: vs) = pinsM (k + 1) mk vs := by cases v <;> rfl
    rw [e] at h
    obtain ⟨j, h1, h2⟩ := pinsM_val r (k + 1) p h
    exact ⟨j + 1, by omega, h2⟩
  | _, _, _, .own _ _ _ _ r, k, p, h => by
    rcases List.mem_cons.mp h with rfl | h
    · exact ⟨0, rfl, rfl⟩
    · obtain ⟨j, h1, h2⟩ := pinsM_val r (k + 1) p h
      exact ⟨j + 1, by omega, h2⟩
/-- the same address: the same slot -/
theorem pin_inj {l : Pn} (h : (l.map (·.2)).Nodup) {p q : Nat × Addr} (hp : p ∈ l) (hq : q ∈ l) (e : p.2 = q.2) : p = q := by
  induction l with
  | nil => cases hp
  | cons x l ih =>
    rw [List.map_cons, List.nodup_cons] at h
    rcases List.mem_cons.mp hp with h1 | h1 <;> rcases List.mem_cons.mp hq with h2 | h2
    · rw [h1, h2]
    · exact absurd (by rw [← h1, e]; exact List.mem_map_of_mem h2) h.1
    · exact absurd (by rw [← h2, ← e]; exact List.mem_map_of_mem h1) h.1
    · exact ih h.2 h1 h2
def outsideH (A : List Addr) (H : Hp) : Hp := fun a => open Classical in if a ∈ A then none else H a
theorem outside_in {A : List Addr} {a : Addr} (h : a ∈ A) : outsideH A H a = none := by
  unfold outsideH
  rw [if_pos h]
theorem outside_out {A : List Addr} {a : Addr} (h : a ∉ A) : outsideH A H a = H a := by
  unfold outsideH
  rw [if_neg h]
theorem start_get {n : Nat} {vs : List V} {i : Nat} {v : V} (h : vs[i]? = some v) (N : List Str) (hN : N.length = n) : (L2.start N vs)[i]? = some (some v) := by
  unfold L2.start
  have hi : i < vs.length := (List.getElem?_eq_some_iff.mp h).1
  rw [List.getElem?_append_left (by rw [List.length_map]; exact hi), List.getElem?_map, h]
  rfl
theorem startM_get {n : Nat} {mk : List Bool} {ds : List PyData} (hl : ds.length = mk.length) {i : Nat} {s : SV} (h : (startM n mk ds)[i]? = some (some s)) : ((List.zipWith slotM mk ds).map some)[i]? = some (some s) := by
  unfold startM at h
  have hz : (List.zipWith slotM mk ds).length = ds.length := by rw [List.length_zipWith, hl]; omega
  by_cases hi : i < ds.length
  · rwa [List.getElem?_append_left (by rw [List.length_map, hz]; exact hi)] at h
  · rw [List.getElem?_append_right (by rw [List.length_map, hz]; omega)] at h
    obtain ⟨_, h⟩ := List.getElem?_eq_some_iff.mp h
    rw [List.getElem_replicate] at h
    cases h
theorem entry_rel {mk vs ds} (N : List Str) (live : Live Fz H) (r : ArgsR K Fz H mk vs ds) (nd : ((pinsM 0 mk vs).map (·.2)).Nodup) : Rel K (outsideH ((pinsM 0 mk vs).map (·.2)) H) Fz Fz H (L2.start N vs) (startM N.length mk ds) ∧ Pin (L2.start N vs) (pinsM 0 mk vs) := by
  obtain ⟨l1, l2⟩ := r.len
  have gv : ∀ {i : Nat} {v : V}, vs[i]? = some v → (L2.start N vs)[i]? = some (some v) := fun h => start_get h N rfl
  refine ⟨Rel.mkOne (fun a o e => ?_) (fun _ h => h) (fun _ h => .inl h) live ?_ (fun i d e => ?_) (fun i s e ho => ?_) (fun i j s u a hij e1 o1 e2 o2 h1 h2 => ?_) (fun i s e => by
    rcases r.at 0 i _ (startM_get l2 e) with ⟨d', v, e1, _⟩ | ⟨a, us, xs, e1, _⟩ <;> subst e1 <;> rfl), fun p hp => ?_⟩
  · by_cases ha : a ∈ (pinsM 0 mk vs).map (·.2)
    · rw [outside_in ha] at e; cases e
    · rwa [outside_out ha] at e
  · unfold L2.start startM
    rw [List.length_append, List.length_append, List.length_map, List.length_map, List.length_replicate, List.length_replicate, List.length_zipWith, l1, l2]
    omega
  · rcases r.at 0 i _ (startM_get l2 e) with ⟨d', v, e1, e2, rv⟩ | ⟨a, us, xs, e1, _⟩
    · cases e1
      exact ⟨v, gv e2, rv⟩
    · cases e1
  · rcases r.at 0 i _ (startM_get l2 e) with ⟨d', v, e1, _⟩ | ⟨a, us, xs, e1, e2, e3, e4, e5, e6, e7⟩
    · subst e1; cases ho
    · subst e1
      exact ⟨a, gv e2, outside_in (List.mem_map_of_mem (f := (·.2)) e7), e4, us, e3, e5, e6⟩
  · rcases r.at 0 i _ (startM_get l2 e1) with ⟨d', v, q1, _⟩ | ⟨a1, us, xs, q1, q2, q3, q4, q5, q6, q7⟩
    · subst q1; cases o1
    · rcases r.at 0 j _ (startM_get l2 e2) with ⟨d', v, p1, _⟩ | ⟨a2, us2, xs2, p1, p2, p3, p4, p5, p6, p7⟩
      · subst p1; cases o2
      · have z1 := gv q2
        have z2 := gv p2
        rw [h1] at z1
        rw [h2] at z2
        cases z1
        cases z2
        have := pin_inj nd q7 p7 rfl
        have := congrArg Prod.fst this
        simp at this
        exact hij this
  · obtain ⟨j, h1, h2⟩ := pinsM_val r 0 p hp
    rw [h1, Nat.zero_add]
    exact gv h2
/-- what the lists hold at the end -/
theorem owns_of {H0 H' : Hp} {Fz0 F' : FZ} {σ' : L2.St} {δ' : DSt} (r : Rel K H0 Fz0 F' H' σ' δ') : ∀ (k : Nat) (mk : List Bool) (vs : List V) (c : List (List PyData)), vs.length = mk.length → Pin σ' (pinsM k mk vs) → (pinsM k mk vs).map (·.1) = idxM k mk → contM k mk δ' = some c → OwnsR K F' H' ((pinsM k mk vs).map (·.2)) c
  | k, [], vs, c, _, _, _, h => by
    have : pinsM k [] vs = [] := by cases vs <;> rfl
    rw [this]
    cases h
    exact .nil
  | k, false :: mk, [], c, hl, _, _, h => by cases hl
  | k, false :: mk, v :: vs, c, hl, hp, hi, h => by
    have e : pinsM k (false :: mk) (v :: vs) = pinsM (k + 1) mk vs := by cases v <;> rfl
    rw [e] at hp hi ⊢
    exact owns_of r (k + 1) mk vs c (by simpa using hl) hp hi h
  | k, true :: mk, [], c, hl, hp, hi, h => by cases hl
  | k, true :: mk, v :: vs, c, hl, hp, hi, h => by
    cases v with
    | ref a =>
      have hi : k :: (pinsM (k + 1) mk vs).map (·.1) = k :: idxM (k + 1) mk := hi
      have hi := (List.cons.inj hi).2
      unfold contM at h
      cases q : δ'[k]? with
      | none => rw [q] at h; cases h
      | some o =>
        cases o with
        | none => rw [q] at h; cases h
        | some s =>
          cases s with
          | own xs =>
            rw [q] at h
            dsimp only at h
            cases q2 : contM (k + 1) mk δ' with
            | none => rw [q2] at h; cases h
            | some c' =>
              rw [q2] at h
              cases h
              obtain ⟨a', h1, h2, h3, us, h4, h5, h6⟩ := r.own k _ q rfl
              have h7 : σ'[k]? = some (some (.ref a)) := hp (k, a) List.mem_cons_self
              rw [h1] at h7
              cases h7
              exact .cons h4 h3 h5 h6 (owns_of r (k + 1) mk vs c' (by simpa using hl) (fun p hp' => hp p (List.mem_cons_of_mem _ hp')) hi q2)
          | val d => rw [q] at h; cases h
          | ownd t ks vs => rw [q] at h; cases h
          | ins _ _ _ => rw [q] at h; cases h
    | _ =>
      exfalso
      have hge := pinsM_ge (k + 1) mk vs
      have hi : (pinsM (k + 1) mk vs).map (·.1) = k :: idxM (k + 1) mk := hi
      cases hq : pinsM (k + 1) mk vs with
      | nil => rw [hq] at hi; cases hi
      | cons p l =>
        rw [hq] at hi hge
        have := hge p List.mem_cons_self
        have e := (List.cons.inj hi).1
        dsimp only at e
        omega
/-- a def that changes lists of its caller, as a function of data: the answer, the lists' new contents -/
structure FDm (P : Program) (w : World) (K : PySem.W.Frag) (mg : Str → Option Value) (base : Heap) (k : Nat) (mk : List Bool) (x : Str) (g : List PyData → Res (PyData × List (List PyData))) : Prop where
  ex : ∃ (f : Addr) (fd : FuncData) (ps : List Str), FnOk P w K mg base CX0 k f fd ps (spM K mk g) ∧ mg x = some (.ref f) ∧ PySem.W.keepIn K (.ref f) = true ∧ Binds K fd ps []
theorem FDm.mono {P : Program} {w : World} {K : PySem.W.Frag} {mg : Str → Option Value} {base : Heap} {k j : Nat} {mk : List Bool} {x : Str} {g : List PyData → Res (PyData × List (List PyData))} (h : FDm P w K mg base k mk x g) (hk : k ≤ j) : FDm P w K mg base j mk x g := by
  obtain ⟨f, fd, ps, F, h1, h2, h3⟩ := h.ex
  exact ⟨f, fd, ps, F.mono hk, h1, h2, h3⟩
theorem exit_end {mk vs ds} {F' : FZ} {H' : Hp} {σ' : L2.St} {δ' : DSt} {c : List (List PyData)} (live : Live Fz H) (ra : ArgsR K Fz H mk vs ds) (r : Rel K (outsideH ((pinsM 0 mk vs).map (·.2)) H) Fz F' H' σ' δ') (hp : Pin σ' (pinsM 0 mk vs)) (hc : contM 0 mk δ' = some c) :
    EndM Fz H ((pinsM 0 mk vs).map (·.2)) F' H' ∧ OwnsR K F' H' ((pinsM 0 mk vs).map (·.2)) c := by
  have ho := owns_of r 0 mk vs c ra.len.1 hp (pinsM_idx ra 0) hc
  have hno : ∀ a ∈ (pinsM 0 mk vs).map (·.2), ¬ F' a := by
    have key : ∀ {as : List Addr} {ns}, OwnsR K F' H' as ns → ∀ a ∈ as, ¬ F' a := by
      intro as ns h
      induction h with
      | nil => intro a ha; cases ha
      | cons h1 h2 h3 h4 _ ih =>
        intro a ha
        rcases List.mem_cons.mp ha with rfl | ha
        · exact h2
        · exact ih a ha
    exact key ho
  refine ⟨⟨fun b o e hb => r.same b o (by rw [outside_out hb]; exact e), r.sub0, fun b z => ?_, r.live⟩, ho⟩
  rcases r.new0 b z with z1 | z1
  · exact .inl z1
  · by_cases hb : b ∈ (pinsM 0 mk vs).map (·.2)
    · exact absurd z (hno b hb)
    · rw [outside_out hb] at z1
      exact .inr z1
theorem fdm_of {P : Program} {w : World} {mg : Str → Option Value} {base : Heap} {x : Str} {st : Stmt} {f : Addr} {fd : FuncData} {N ps : List Str} {k : Nat} {mk : List Bool} (F : Fun K x x st f fd) (hm : mg x = some (.ref f)) (b : Binds K fd ps []) (S : FnScope N ps (defScope st)) (hmk : mk.length = ps.length) {g : DSt → Res OutM}
    (hbody : ∀ (cdv : Value) (A : Around) (outer : List Env) (s : Shared) (H : Hp) (E : XK), Room k (A.deeper (envOfC x (defScope st) s.heap.objs.size f cdv)) →
      ∃ t, DMus (cxOf CX0 P w K mg base N x (defScope st) f cdv A outer s H E).nox (fun _ => E0) (idxM 0 mk) (defBody st) t g) : FDm P w K mg base (k + 1) mk x (fnM N.length mk g) := by
  refine ⟨f, fd, ps, ?_, hm, F.kp, b⟩
  refine F.ok S (fun vs H Q E h => (spM_len h).trans hmk) (fun cdv A outer s H vs Q E hr h => ?_)
  obtain ⟨t, ht⟩ := hbody cdv A outer s H E hr
  refine ⟨t, ht.pe, ?_⟩
  obtain ⟨ds, Fz, live, ra, nd, q⟩ := h
  obtain ⟨re, pe⟩ := entry_rel N live ra nd
  refine ht.ok _ (pinsM_idx ra 0) _ Fz Fz H (start N vs) (startM N.length mk ds) _ re pe ?_
  unfold fnM at q
  unfold SKm
  rw [wp_bind] at q
  refine wp_mono (nE_wpA q) (fun o q => ?_) (fun _ h => h)
  · have q : (match o with | .nx δ => outM mk .none δ | .rt d δ => outM mk d δ).wp _ _ := q
    have fin : ∀ (d : PyData) (δ' : DSt) (F' : FZ) (H' : Hp) (σ' : L2.St) (v : V), (outM mk d δ').wp (fun r => ∀ v H' Fz', EndM Fz H ((pinsM 0 mk vs).map (·.2)) Fz' H' → Rep K Fz' H' v r.1 → OwnsR K Fz' H' ((pinsM 0 mk vs).map (·.2)) r.2 → Q v H') (fun _ => False) → Rel K (outsideH ((pinsM 0 mk vs).map (·.2)) H) Fz F' H' σ' δ' → Pin σ' (pinsM 0 mk vs) → Rep K F' H' v d → Q v H' := fun d δ' F' H' σ' v q r hp rv => by
      unfold outM at q
      cases hc : contM 0 mk δ' with
      | none => rw [hc] at q; exact q.elim
      | some c =>
        rw [hc] at q
        obtain ⟨e1, e2⟩ := exit_end live ra r hp hc
        exact q v H' F' e1 rv e2
    cases o with
    | nx δ' => exact fun F' H' σ' r hp => fin .none δ' F' H' σ' .non q r hp .non
    | rt d δ' => exact fun F' H' σ' v r hp rv => fin d δ' F' H' σ' v q r hp rv
end
end DL

set_option Elab.async false
set_option linter.all false
set_option maxRecDepth 100000
set_option maxHeartbeats 4000000
namespace DL
open PySem PySem.Spec L2
open PyProof.Rows hiding St

/-! ### .. called: x = f(.., xs, ..) -/
/-- an argument: a flat value, the list at slot i, a new empty list (last) -/
inductive MA where
  | v | o (i : Nat) | n
def mkOf : List MA → List Bool
  | [] => []
  | .v :: ks => false :: mkOf ks
  | _ :: ks => true :: mkOf ks
def ixOf : List MA → List Nat
  | [] => []
  | .o i :: ks => i :: ixOf ks
  | _ :: ks => ixOf ks
inductive ArgsM (K : PySem.W.Frag) (H0 : Hp) (Fz : FZ) (H : Hp) (σ : L2.St) (δ : DSt) : List MA → List V → List PyData → Prop
  | nil : ArgsM K H0 Fz H σ δ [] [] []
  | v {ks vs ds v d} : Rep K Fz H v d → ArgsM K H0 Fz H σ δ ks vs ds → ArgsM K H0 Fz H σ δ (.v :: ks) (v :: vs) (d :: ds)
  | o {ks vs ds i a xs} : δ[i]? = some (some (.own xs)) → σ[i]? = some (some (.ref a)) → ArgsM K H0 Fz H σ δ ks vs ds → ArgsM K H0 Fz H σ δ (.o i :: ks) (.ref a :: vs) (.list xs :: ds)
  | n {a} : H a = some (.lst []) → ¬ Fz a → H0 a = none → NoFoot H σ δ a → ArgsM K H0 Fz H σ δ [.n] [.ref a] [.list []]
def setsM : List MA → List (List PyData) → DSt → DSt
  | .o i :: ks, xs :: c, δ => setsM ks c (δ.set i (some (.own xs)))
  | .n :: ks, _ :: c, δ => setsM ks c δ
  | .v :: ks, c, δ => setsM ks c δ
  | _, _, δ => δ
section
variable {K : PySem.W.Frag} {H0 H : Hp} {Fz0 Fz : FZ} {σ : L2.St} {δ : DSt}
theorem pins_false {k : Nat} {mk : List Bool} {v : V} {vs : List V} : pinsM k (false :: mk) (v :: vs) = pinsM (k + 1) mk vs := by cases v <;> rfl
abbrev adr (k : Nat) (ks : List MA) (vs : List V) : List Addr := (pinsM k (mkOf ks) vs).map (·.2)
theorem adr_v {k ks v vs} : adr k (.v :: ks) (v :: vs) = adr (k + 1) ks vs := by
  show (pinsM k (false :: mkOf ks) (v :: vs)).map (·.2) = _
  rw [pins_false]
theorem adr_o {k i ks a vs} : adr k (.o i :: ks) (.ref a :: vs) = a :: adr (k + 1) ks vs := rfl
theorem adr_n {k a} : adr k [.n] [.ref a] = [a] := rfl
theorem ArgsM.reg (r : Rel K H0 Fz0 Fz H σ δ) : ∀ {ks vs ds}, ArgsM K H0 Fz H σ δ ks vs ds → ArgsR K Fz H (mkOf ks) vs ds
  | _, _, _, .nil => .nil
  | _, _, _, .v rv m => .val rv (m.reg r)
  | _, _, _, .o h1 h2 m => by
    obtain ⟨a', e, _, h3, us, h4, h5, h6⟩ := r.own _ _ h1 rfl
    rw [h2] at e
    cases e
    exact .own h4 h3 h5 h6 (m.reg r)
  | _, _, _, .n h1 h2 _ _ => .own h1 h2 (Nat.zero_le _) .nil .nil
theorem ArgsM.mem (r : Rel K H0 Fz0 Fz H σ δ) : ∀ {ks vs ds}, ArgsM K H0 Fz H σ δ ks vs ds → ∀ k, ∀ b ∈ adr k ks vs, (H0 b = none ∧ ¬ Fz b ∧ ∃ us, H b = some (.lst us)) ∧ ((∃ j xs, j ∈ ixOf ks ∧ δ[j]? = some (some (.own xs)) ∧ σ[j]? = some (some (.ref b))) ∨ NoFoot H σ δ b)
  | _, _, _, .nil, k, b, h => by simp [adr, pinsM, mkOf] at h
  | _, _, _, .v _ m, k, b, h => by
    rw [adr_v] at h
    exact m.mem r (k + 1) b h
  | _, _, _, .o (i := i) (a := a) (xs := xs) h1 h2 m, k, b, h => by
    rw [adr_o] at h
    rcases List.mem_cons.mp h with rfl | h
    · obtain ⟨a', e, h3, h4, us, h5, _⟩ := r.own _ _ h1 rfl
      rw [h2] at e
      cases e
      exact ⟨⟨h3, h4, us, h5⟩, .inl ⟨i, xs, List.mem_cons_self, h1, h2⟩⟩
    · obtain ⟨q, z⟩ := m.mem r (k + 1) b h
      refine ⟨q, z.elim (fun ⟨j, ys, z1, z2, z3⟩ => .inl ⟨j, ys, List.mem_cons_of_mem _ z1, z2, z3⟩) .inr⟩
  | _, _, _, .n (a := a) h1 h2 h3 h4, k, b, h => by
    rw [adr_n, List.mem_singleton] at h
    subst h
    exact ⟨⟨h3, h2, _, h1⟩, .inr h4⟩
theorem ArgsM.nodup (r : Rel K H0 Fz0 Fz H σ δ) : ∀ {ks vs ds}, ArgsM K H0 Fz H σ δ ks vs ds → (ixOf ks).Nodup → ∀ k, (adr k ks vs).Nodup
  | _, _, _, .nil, _, k => .nil
  | _, _, _, .v _ m, h, k => by
    rw [adr_v]
    exact m.nodup r h (k + 1)
  | _, _, _, .o (i := i) (a := a) h1 h2 m, h, k => by
    have h : (i :: ixOf _).Nodup := h
    rw [List.nodup_cons] at h
    rw [adr_o, List.nodup_cons]
    refine ⟨fun hm => ?_, m.nodup r h.2 (k + 1)⟩
    rcases (m.mem r (k + 1) a hm).2 with ⟨j, ys, z1, z2, z3⟩ | z
    · exact r.sep i j _ _ a (fun e => h.1 (e ▸ z1)) h1 rfl z2 rfl h2 z3
    · exact z i _ h1 rfl a h2 (foot_top rfl)
  | _, _, _, .n _ _ _ _, _, k => by
    rw [adr_n]
    simp
theorem setsM_len : ∀ (ks : List MA) (c : List (List PyData)) (δ : DSt), (setsM ks c δ).length = δ.length
  | [], c, δ => rfl
  | .v :: ks, c, δ => setsM_len ks c δ
  | .o i :: ks, [], δ => rfl
  | .o i :: ks, xs :: c, δ => by
    show (setsM ks c (δ.set i (some (.own xs)))).length = _
    rw [setsM_len ks c, List.length_set]
  | .n :: ks, [], δ => rfl
  | .n :: ks, xs :: c, δ => setsM_len ks c δ
theorem setsM_get {F2 : FZ} {H2 : Hp} : ∀ {ks vs ds}, ArgsM K H0 Fz H σ δ ks vs ds → ∀ (k : Nat) {c : List (List PyData)}, OwnsR K F2 H2 (adr k ks vs) c → ∀ (δ1 : DSt) (j : Nat) s, (setsM ks c δ1)[j]? = some (some s) →
    (j ∈ ixOf ks ∧ ∃ a xs us ys, s = .own xs ∧ σ[j]? = some (some (.ref a)) ∧ δ[j]? = some (some (.own ys)) ∧ H2 a = some (.lst us) ∧ ¬ F2 a ∧ xs.length ≤ sizeLine ∧ RepAll K F2 H2 us xs) ∨ (j ∉ ixOf ks ∧ δ1[j]? = some (some s))
  | _, _, _, .nil, k, c, ow, δ1, j, s, h => .inr ⟨by simp [ixOf], h⟩
  | _, _, _, .v _ m, k, c, ow, δ1, j, s, h => by
    rw [adr_v] at ow
    exact setsM_get m (k + 1) ow δ1 j s h
  | _, _, _, .o (i := i) (a := a) (xs := ys) h1 h2 m, k, c, ow, δ1, j, s, h => by
    rw [adr_o] at ow
    cases ow with
    | cons g1 g2 g3 g4 ow =>
      rename_i us xs ns
      rcases setsM_get m (k + 1) ow _ j s h with ⟨z1, z⟩ | ⟨z1, z⟩
      · exact .inl ⟨List.mem_cons_of_mem _ z1, z⟩
      · rcases set_get z with ⟨rfl, _, rfl⟩ | ⟨hij, z⟩
        · exact .inl ⟨List.mem_cons_self, a, _, us, ys, rfl, h2, h1, g1, g2, g3, g4⟩
        · exact .inr ⟨fun hm => (List.mem_cons.mp hm).elim (fun e => hij e.symm) z1, z⟩
  | _, _, _, .n _ _ _ _, k, c, ow, δ1, j, s, h => by
    rw [adr_n] at ow
    cases ow with
    | cons g1 g2 g3 g4 ow => exact .inr ⟨by simp [ixOf], h⟩
theorem rel_call {F2 : FZ} {H2 : Hp} {ks vs ds c} (r : Rel K H0 Fz0 Fz H σ δ) (m : ArgsM K H0 Fz H σ δ ks vs ds) (e : EndM Fz H (adr 0 ks vs) F2 H2) (ow : OwnsR K F2 H2 (adr 0 ks vs) c) : Rel K H0 Fz0 F2 H2 σ (setsM ks c δ) := by
  have mem := m.mem r 0
  have st : Stay Fz H H2 := fun a o ha hk => e.keep a o ha fun hm => by
    obtain ⟨⟨_, h2, us, h3⟩, _⟩ := mem a hm
    rw [h3] at ha
    cases ha
    rcases hk with hk | ⟨xs, hk⟩ | ⟨u, v, hk⟩
    · exact h2 hk
    · cases hk
    · cases hk
  have get := setsM_get (F2 := F2) (H2 := H2) m 0 ow δ
  have keepx : ∀ {j : Nat} {s : SV} {a : Addr}, j ∉ ixOf ks → δ[j]? = some (some s) → s.isOwn = true → σ[j]? = some (some (.ref a)) → ∀ x, Foot H a s x → H2 x = H x := fun {j s a} hj z ho q1 x hx => by
    obtain ⟨_, _, o, h5, _⟩ := r.foot z ho q1 hx
    refine (e.keep x o h5 fun hm => ?_).trans h5.symm
    rcases (mem x hm).2 with ⟨i, xs, w1, w2, w3⟩ | w
    · exact r.sepF i j _ _ x a x (fun q => hj (q ▸ w1)) w2 rfl z ho w3 q1 (foot_top rfl) hx
    · exact w j _ z ho a q1 hx
  have wasOwn : ∀ {j : Nat} {s : SV} {a x : Addr}, (setsM ks c δ)[j]? = some (some s) → s.isOwn = true → σ[j]? = some (some (.ref a)) → Foot H2 a s x → ∃ s' : SV, δ[j]? = some (some s') ∧ s'.isOwn = true ∧ Foot H a s' x := fun {j s a x} h ho ea f => by
    rcases get j s h with ⟨_, a', xs, us, ys, rfl, _, z, _⟩ | ⟨hj, z⟩
    · exact ⟨_, z, rfl, f⟩
    · exact ⟨_, z, ho, foot_eq (keepx hj z ho ea a (foot_top ho)) f⟩
  refine ⟨fun b o hb => e.keep b o (r.same b o hb) fun hm => ?_, fun a h => e.sub a (r.sub0 a h), fun a h => ?_, e.live, by rw [setsM_len]; exact r.len, fun j d h => ?_, fun j s h ho => ?_, fun i j s u a b x hij h1 o1 h2 o2 h3 h4 f1 f2 => ?_⟩
  · have := (mem b hm).1.1
    rw [this] at hb
    cases hb
  · rcases e.new a h with z | z
    · exact r.new0 a z
    · exact .inr (none_of_same r.same z)
  · rcases get j _ h with ⟨_, a, xs, us, ys, z, _⟩ | ⟨_, z⟩
    · cases z
    · obtain ⟨v, h1, h2⟩ := r.val j d z
      exact ⟨v, h1, h2.stay st e.sub⟩
  · rcases get j _ h with ⟨_, a, xs, us, ys, rfl, z2, z3, z4, z5, z6, z7⟩ | ⟨hj, z⟩
    · obtain ⟨a', q1, q2, _⟩ := r.own j _ z3 rfl
      rw [z2] at q1
      cases q1
      exact ⟨a, z2, ⟨us, z4, z6, z7⟩, fun x hx => by rw [show x = a from hx]; exact ⟨q2, z5⟩⟩
    · obtain ⟨a, q1, q4, q5⟩ := r.ownF j _ z ho
      refine ⟨a, q1, q4.keep st e.sub (keepx hj z ho q1), fun x hx => ?_⟩
      have hx := foot_eq (keepx hj z ho q1 a (foot_top ho)) hx
      refine ⟨(q5 x hx).1, fun w => ?_⟩
      rcases e.new x w with w | w
      · exact (q5 x hx).2 w
      · obtain ⟨o, h5, _⟩ := q4.mutF hx
        rw [w] at h5; cases h5
  · obtain ⟨s1, w1, w2, w5⟩ := wasOwn h1 o1 h3 f1
    obtain ⟨s2, w3, w4, w6⟩ := wasOwn h2 o2 h4 f2
    exact r.sepF i j _ _ a b x hij w1 w2 w3 w4 h3 h4 w5 w6
end
structure DAM (X : Cx) (W : WS) (ks : List MA) (es : List Expr) (t : TA) (f : DSt → Res (List PyData)) : Prop where
  pe : PA X es t
  ok : ∀ H0 Fz0 Fz H σ δ Q, Rel X.K H0 Fz0 Fz H σ δ → (f δ).wp (fun ds => ∀ vs H1, Same H H1 → Rel X.K H0 Fz0 Fz H1 σ δ → ArgsM X.K H0 Fz H1 σ δ ks vs ds → Q vs H1) (XOK X.mg (W σ) H0 Fz0) → t σ H Q
def aV (f : DSt → Res PyData) (g : DSt → Res (List PyData)) (δ : DSt) : Res (List PyData) := f δ >>= fun x => if flat x then g δ >>= fun xs => .ok (x :: xs) else .bot
def aO (i : Nat) (g : DSt → Res (List PyData)) (δ : DSt) : Res (List PyData) := match δ[i]? with
  | some (some (.own xs)) => g δ >>= fun rs => .ok (.list xs :: rs)
  | _ => .bot
def aN (_ : DSt) : Res (List PyData) := .ok [.list []]
def callM (ks : List MA) (f : DSt → Res (List PyData)) (g : List PyData → Res (PyData × List (List PyData))) (q : Pat) (δ : DSt) : Res OutM := f δ >>= fun ds => nE (g ds) >>= fun r => nE (bindP q r.1 (setsM ks r.2 δ)) >>= fun δ' => .ok (.nx δ')
section
variable {X : Cx} {W : WS} {U : XK} {S T M : List Nat} {e a b c tg : Expr} {es tgs : List Expr} {pos p ps0 : Pos} {te ta tb : TE} {tt : TT} {t : TA} {ts ts' : TS} {st : Stmt} {rest : List Stmt} {ks : List MA}
theorem same_trans {H1 H2 H3 : Hp} (a : Same H1 H2) (b : Same H2 H3) : Same H1 H3 := fun x o e => b x o (a x o e)
theorem dam_nil : DAM X W [] [] tNil (fun _ => .ok []) := ⟨pa_nil, fun H0 Fz0 Fz H σ δ Q r h => h [] H (fun _ _ e => e) r .nil⟩
theorem dam_val {f : DSt → Res PyData} {g : DSt → Res (List PyData)} (he : DE X W S e te f) (hr : DAM X W ks es t g) (hs : starEach (e :: es) X.env = (false, eval e X.env) :: starEach es X.env := by rfl) : DAM X W (.v :: ks) (e :: es) (tCons te t) (aV f g) := by
  refine ⟨pa_cons he.pe hr.pe hs, fun H0 Fz0 Fz H σ δ Q r h => ?_⟩
  unfold aV at h
  rw [wp_bind] at h
  refine atE he r (wp_mono h (fun x hx v H1 F1 g1 r1 => ?_) fun x hx => hx)
  by_cases hf : flat x = true
  · rw [if_pos hf, wp_bind] at hx
    exact hr.ok H0 Fz0 Fz H1 σ δ _ (r.up g1.same) (wp_mono hx (fun xs hxs vs H2 s2 r2 m => hxs (v :: vs) H2 (same_trans g1.same s2) r2 (.v ((r1.flat hf : Rep X.K Fz H1 v x).stay (.of_same s2) fun _ h => h) m)) fun x hx => hx)
  · rw [if_neg hf] at hx
    exact hx.elim
theorem dam_own {i : Nat} {x : Str} {pos' : Pos} {g : DSt → Res (List PyData)} (hN : X.N[i]? = some x) (hv : Vis X.env.scope x) (hr : DAM X W ks es t g) (hs : starEach (.Name x pos' :: es) X.env = (false, eval (.Name x pos') X.env) :: starEach es X.env := by rfl) (hd : (x == ("__debug__" : Str)) = false := by decide) (hcd : (x == ("__classdict__" : Str)) = false := by decide) : DAM X W (.o i :: ks) (.Name x pos' :: es) (tCons (tVar i) t) (aO i g) := by
  refine ⟨pa_cons (pe_var hN hv hd hcd) hr.pe hs, fun H0 Fz0 Fz H σ δ Q r h => ?_⟩
  unfold aO at h
  split at h
  · rename_i xs e1
    obtain ⟨a, e2, _⟩ := r.own i _ e1 rfl
    rw [wp_bind] at h
    refine ⟨.ref a, e2, ?_⟩
    exact hr.ok H0 Fz0 Fz H σ δ _ r (wp_mono h (fun rs hrs vs H2 s2 r2 m => hrs (.ref a :: vs) H2 s2 r2 (.o e1 e2 m)) fun x hx => hx)
  · exact h.elim
theorem dam_new (hs : starEach [.List [] p] X.env = (false, eval (.List [] p) X.env) :: starEach [] X.env := by rfl) : DAM X W [.n] [.List [] p] (tCons (tLst tNil) tNil) aN := by
  refine ⟨pa_cons (pe_lst pa_nil) pa_nil hs, fun H0 Fz0 Fz H σ δ Q r h => ?_⟩
  refine ⟨Nat.zero_le _, fun q np => ?_⟩
  have s1 : Same H (upd H q (.lst [])) := same_upd np
  exact h [.ref q] _ s1 (r.up s1) (.n upd_same (fun z => r.live q z np) (none_of_same r.same np) (r.apart np))
theorem dmu_call (K) (mg) {k j i : Nat} {x y : Str} {pos' : Pos} {mk : List Bool} {g : List PyData → Res (PyData × List (List PyData))} {f : DSt → Res (List PyData)} (hN : X.N.Nodup) (hi : X.N[i]? = some y) (hx : L2.Loc X.env.scope y) (c : FDm X.prog X.w K mg X.base k mk x g) (hr : Room j X.A) (hk : k ≤ j) (hg : Gl X x) (hmk : mkOf ks = mk) (hnd : (ixOf ks).Nodup) (ha : DAM X W ks (e :: es) t f) (hM : i ∉ M) (hK : X.K = K := by rfl) (hMg : X.mg = mg := by rfl)
    (hdb : (x == ("__debug__" : Str)) = false := by decide) (he : starEach (e :: es) X.env = (false, eval e X.env) :: starEach es X.env := by rfl) (hpl : (backTo pos (starEach es X.env)).any (·.1) = false := by rfl)
    (hs : swapsWith (.Call (.Name x p) (e :: es) [] pos) (some (.Name y pos')) ps0.line X.env = pure false := by rfl) (hf : X.fn y = true ∨ X.env.scope.names.lookup y = some .local := by first | exact .inl rfl | exact .inr rfl | assumption) :
    DMu X W M (.Assign [.Name y pos'] (.Call (.Name x p) (e :: es) [] pos) ps0) (tAsg (tCall (spM K mk g) [] L2.E0 t) (gName i)) (callM ks f g (.nm i)) := by
  subst hK hMg hmk
  obtain ⟨fa, fd, ps, F, hm, kp, hb⟩ := c.ex
  have hgn := dg_name (X := X) (pos := pos') hN hi hx hf
  refine ⟨ps_set hN hi hx (pe_call F (hr.mono hk) hg hm kp hb .nil pass0 ha.pe hdb he hpl) hs hf, fun pin hMp H0 Fz0 Fz H σ δ Dn r hp h => ?_⟩
  subst hMp
  unfold SKm callM at h
  rw [wp_bind] at h
  refine ha.ok H0 Fz0 Fz H σ δ _ r (wp_mono h (fun ds hds vs H1 s1 r1 m => ?_) fun x hx => hx)
  rw [wp_bind] at hds
  refine ⟨ds, Fz, r1.live, by rw [List.append_nil]; exact m.reg r1, by rw [List.append_nil]; exact m.nodup r1 hnd 0, wp_mono (nE_wpA hds) (fun rr hds v H2 F2 ee rv ow => ?_) fun _ h => h⟩
  rw [wp_bind] at hds
  obtain ⟨δ', hb', hds⟩ := nEb hds
  rw [List.append_nil] at ee ow
  have r2 := rel_call r1 m ee ow
  refine hgn.ok F2 H2 _ v rr.1 σ _ _ (setsPin (K := X.K) (H0 := H0) (Fz0 := Fz0) (pin := pin) (fun q hq => by
    have : q = i := by simpa [Pat.slots] using hq
    rw [this]; exact hM)) ⟨r2, hp⟩ rv ?_
  rw [hb']
  exact fun σ' r' => hds F2 H2 σ' r'.1 r'.2
end
end DL

set_option Elab.async false
set_option linter.all false
set_option maxRecDepth 100000
set_option maxHeartbeats 4000000
namespace DL
open PySem PySem.Spec L2
open PyProof.Rows hiding St

theorem dmus_bot {X : Cx} {W : WS} {M : List Nat} {st : List Stmt} : DMus X W M st (fun _ _ _ => False) (fun _ => .bot) := ⟨⟨fun _ _ _ _ _ _ h => h.elim⟩, fun _ _ _ _ _ _ _ _ _ _ _ h => h.elim⟩
section
variable {X : Cx} {W : WS} {U : XK} {S T M : List Nat} {e a b c tg : Expr} {es tgs : List Expr} {pos p : Pos} {te ta tb : TE} {tt : TT} {t : TA} {ts ts' : TS} {st : Stmt} {rest : List Stmt}
/-- x = a new list, as a value -/
theorem dmu_setLV {i : Nat} {x : Str} {pos' : Pos} {f : DSt → Res (List PyData)} (hN : X.N.Nodup) (hi : X.N[i]? = some x) (hx : L2.Loc X.env.scope x) (he : DF X W S e te f) (hM : i ∉ M) (hs : swapsWith e (some (.Name x pos')) pos.line X.env = pure false := by rfl) (hf : X.fn x = true ∨ X.env.scope.names.lookup x = some .local := by first | exact .inl rfl | exact .inr rfl | assumption) :
    DMu X W M (.Assign [.Name x pos'] e pos) (tAsg te (gName i)) (upM (asgLV S f i)) := by
  refine ⟨ps_set hN hi hx he.pe hs hf, fun pin hMp H0 Fz0 Fz H σ δ Dn r hp h => ?_⟩
  subst hMp
  unfold SKm upM asgLV at h
  rw [wp_bind, wp_bind] at h
  refine atF he r (wp_mono h (fun ds hd q vs H1 F1 g1 np nf e z r1 => ?_) fun x hx => hx)
  have n0 : H0 q = none := none_of_same r.same np
  have hp' : Pin (σ.set i (some (.ref q))) pin := hp.set hM _
  by_cases hf : flatAll ds = true
  · rw [if_pos hf] at hd
    have r2 := (r.up g1.same).setOwn (s := .own ds) n0 (fun z => r.live q z np) ⟨vs, e, z, r1.flat hf⟩ (r.apart np) i
    obtain ⟨F2, r3⟩ := r2.frzAt [i]
    rw [freeze_at _ fun _ _ => trivial] at r3
    exact hd F2 H1 _ r3 hp'
  · rw [if_neg hf] at hd
    have r2 := (r.frz g1).setOwn (s := .own ds) n0 nf ⟨vs, e, z, r1⟩ (fun j u ej oj => r.apart np g1.same j u (freeze_own ej oj).2 oj) i
    obtain ⟨F2, r3⟩ := r2.frzAt [i]
    rw [freeze_at _ fun _ _ => trivial] at r3
    exact hd F2 H1 _ r3 hp'
/-! x in range(k) -/
def rRange1 : List V → Hp → VK → Prop := fun vs H Q => ∃ j, vs = [V.int j] ∧ ∀ p, H p = none → Q (.ref p) (upd H p (.rng 0 j))
theorem cr_range1 : CallR X (.type "range") rRange1 := by
  intro pins s σ H vs us Q I r h
  obtain ⟨j, rfl, q⟩ := h
  obtain ⟨u1, rfl, rj⟩ := vals1 r
  obtain ⟨u, rfl⟩ := rj
  refine call_range_1 ⟨.ref s.heap.objs.size, upd H s.heap.objs.size (.rng 0 j), I.laid (t' := s.toks + 1 + 1) (fun b o e => Heap.get?_push_of_some _ e) (Nat.le_refl _) ?_, rfl, q _ (I.hok.fresh (Nat.le_refl _))⟩
  exact ⟨s.toks, u, s.toks + 1, Heap.get?_push_size _ rfl⟩
def rInRg : V → V → Hp → VK → Prop := fun x y H Q => ∃ i a lo hi, x = V.int i ∧ y = V.ref a ∧ H a = some (.rng lo hi) ∧ Q (.bl (decide (lo ≤ i ∧ i < hi))) H
def tInR (fa fb : DSt → Res PyData) (δ : DSt) : Res Bool := fa δ >>= fun x => fb δ >>= fun y => match x, y with
  | .int i, .int j => .ok (decide (0 ≤ i ∧ i < j))
  | _, _ => .bot
theorem dt_inRg {fa fb : DSt → Res PyData} (hg : Gl X "range") (hm : X.mg "range" = none) (ha : DE X W S a ta fa) (hb : DE X W T b tb fb) (hin : behindInMarks .In (.Call (.Name "range" p) [b] [] pos) = false := by rfl)
    (he : starEach [b] X.env = (false, eval b X.env) :: starEach [] X.env := by rfl) (hpl : (backTo pos (starEach [] X.env)).any (·.1) = false := by rfl) {pos2 : Pos} : DT X W (S ++ T) (.Compare a [.In] [.Call (.Name "range" p) [b] [] pos] pos2) (tTest (tOp rInRg ta (tCB rRange1 (tCons tb tNil)))) (tInR fa fb) := by
  refine ⟨pt_cmpR op_in_rng ha.pe (pe_callTy cr_range1 hg hm boot_range (pa_cons hb.pe pa_nil he) (by decide) (by decide) he hpl) hin, fun Fz σ H δ Q hd hl h => ?_⟩
  unfold BOK tInR at h
  rw [wp_bind] at h
  refine ha.ok Fz σ H δ _ hd.left hl (wp_mono h (fun x hx v H1 F1 g1 r1 => ?_) fun x hx => hx)
  rw [wp_bind] at hx
  refine hb.ok F1 σ H1 δ _ (hd.right.grow g1) (g1.live hl) (wp_mono hx (fun y hy u H2 F2 g2 r2 => ?_) fun x hx c oe H2 F2 g2 q => hx c oe H2 F2 (g1.trans g2) q)
  cases x with
  | int i =>
    cases y with
    | int j =>
      cases r1
      cases r2
      refine ⟨j, rfl, fun q np => ⟨i, q, 0, j, rfl, rfl, upd_same, _, rfl, hy _ F2 ((g1.trans g2).trans (.nw np))⟩⟩
    | _ => exact hy.elim
  | _ => cases y <;> exact hy.elim
end
end DL

set_option Elab.async false
set_option linter.all false
set_option maxRecDepth 100000
set_option maxHeartbeats 4000000
namespace DL
open PySem PySem.Spec L2
open PyProof.Rows hiding St

/-! ### defs that give a new list to their caller, who may change it -/
inductive OutF where
  | nx (δ : DSt) | rv (d : PyData) | rl (xs : List PyData)
def OKf (K : PySem.W.Frag) (H0 : Hp) (Fz0 : FZ) (Dn : Ends) : OutF → Prop
  | .nx δ => ∀ Fz H σ, Rel K H0 Fz0 Fz H σ δ → Dn.nx σ H
  | .rv d => ∀ Fz H v, Grow Fz0 H0 Fz H → Rep K Fz H v d → Dn.rt v H
  | .rl xs => ∀ Fz H p us, Grow Fz0 H0 Fz H → H0 p = none → ¬ Fz p → H p = some (.lst us) → xs.length ≤ sizeLine → RepAll K Fz H us xs → Dn.rt (.ref p) H
def SKf (K : PySem.W.Frag) (mg : Str → Option Value) (W : XK) (H0 : Hp) (Fz0 : FZ) (r : Res OutF) (Dn : Ends) : Prop := r.wp (OKf K H0 Fz0 Dn) (XOK mg W H0 Fz0)
structure DFu (X : Cx) (W : WS) (st : List Stmt) (t : TS) (f : DSt → Res OutF) : Prop where
  pe : PSs X st t
  ok : ∀ H0 Fz0 Fz H σ δ Dn, Rel X.K H0 Fz0 Fz H σ δ → SKf X.K X.mg (W σ) H0 Fz0 (f δ) Dn → t Dn σ H
/-- a usual statement first -/
def seqU (f : DSt → Res Out) (g : DSt → Res OutF) (δ : DSt) : Res OutF := f δ >>= fun o => match o with | .nx δ' => g δ' | .rt d => .ok (.rv d) | _ => .bot
def clrU (vs : List Nat) (f : DSt → Res OutF) (δ : DSt) : Res OutF := f (wipeD δ vs)
def retO (i : Nat) (δ : DSt) : Res OutF := match δ[i]? with | some (some (.own xs)) => .ok (.rl xs) | _ => .bot
/-- what a def gives: a value, or a new list -/
inductive FR where
  | v (d : PyData) | l (xs : List PyData)
def FOK (K : PySem.W.Frag) (Fz : FZ) (H : Hp) (Q : VK) : FR → Prop
  | .v d => ∀ v H' Fz', Grow Fz H Fz' H' → Rep K Fz' H' v d → Q v H'
  | .l xs => ∀ p us H' Fz', Grow Fz H Fz' H' → H p = none → ¬ Fz' p → H' p = some (.lst us) → xs.length ≤ sizeLine → RepAll K Fz' H' us xs → Q (.ref p) H'
def spF (K : PySem.W.Frag) (n : Nat) (g : List PyData → Res FR) : Sp := fun vs H Q E => ∃ ds Fz, ds.length = n ∧ Live Fz H ∧ RepAll K Fz H vs ds ∧ (g ds).wp (FOK K Fz H Q) (fun _ => False)
structure FDf (P : Program) (w : World) (K : PySem.W.Frag) (mg : Str → Option Value) (base : Heap) (k n : Nat) (x : Str) (g : List PyData → Res FR) : Prop where
  ex : ∃ (f : Addr) (fd : FuncData) (ps : List Str), FnOk P w K mg base CX0 k f fd ps (spF K n g) ∧ mg x = some (.ref f) ∧ PySem.W.keepIn K (.ref f) = true ∧ Binds K fd ps []
def fnU (n : Nat) (b : DSt → Res OutF) (ds : List PyData) : Res FR := nE (b (startD n ds)) >>= fun o => match o with
  | .nx _ => .ok (.v .none)
  | .rv d => .ok (.v d)
  | .rl xs => .ok (.l xs)
def callU (S : List Nat) (f : DSt → Res (List PyData)) (g : List PyData → Res FR) (i : Nat) (δ : DSt) : Res Out := f δ >>= fun ds => nE (g ds) >>= fun r => match r with
  | .v d => .ok (.nx ((if flat d || flatAll ds then δ else freeze S 0 δ).set i (some (.val d))))
  | .l xs => .ok (.nx ((if flatAll xs || flatAll ds then δ else freeze S 0 δ).set i (some (.own xs))))
section
variable {X : Cx} {W : WS} {U : XK} {S T M : List Nat} {e a b c tg : Expr} {es tgs : List Expr} {pos p ps0 : Pos} {te ta tb : TE} {tt : TT} {t : TA} {ts ts' : TS} {st : Stmt} {rest : List Stmt}
theorem dfu_cons {f : DSt → Res Out} {g : DSt → Res OutF} (h1 : DS X (fun _ => U) st ts f) (h2 : DFu X (fun _ => U) rest ts' g) : DFu X (fun _ => U) (st :: rest) (tSeq ts ts') (seqU f g) := by
  refine ⟨pss_cons h1.pe h2.pe, fun H0 Fz0 Fz H σ δ Dn r h => ?_⟩
  unfold SKf seqU at h
  rw [wp_bind] at h
  refine h1.ok H0 Fz0 Fz H σ δ _ r (wp_mono h (fun o ho => ?_) fun x hx => hx)
  cases o with
  | nx δ' => exact fun F H' σ' r' => h2.ok H0 Fz0 F H' σ' δ' Dn r' ho
  | rt d => exact ho
  | bk δ' => exact ho.elim
  | ct δ' => exact ho.elim
theorem dfu_clr (vs : List Nat) {f : DSt → Res OutF} (h : DFu X W rest ts f) : DFu X W rest ts (clrU vs f) := ⟨h.pe, fun H0 Fz0 Fz H σ δ Dn r q => h.ok H0 Fz0 Fz H σ _ Dn (r.clr vs) q⟩
theorem dfu_retO {i : Nat} {x : Str} {pos' : Pos} (hN : X.N[i]? = some x) (hv : Vis X.env.scope x) (hd : (x == ("__debug__" : Str)) = false := by decide) (hcd : (x == ("__classdict__" : Str)) = false := by decide) : DFu X W [.Return (some (.Name x pos')) pos] (tRet (tVar i)) (retO i) := by
  refine ⟨pss_one (ps_ret (pe_var hN hv hd hcd)), fun H0 Fz0 Fz H σ δ Dn r h => ?_⟩
  unfold SKf retO at h
  split at h
  · rename_i xs e1
    obtain ⟨a, e2, h2, h3, us, h4, h5, h6⟩ := r.own i _ e1 rfl
    exact ⟨.ref a, e2, h Fz H a us ⟨r.same, r.sub0, r.new0, fun _ => r.live⟩ h2 h3 h4 h5 h6⟩
  · exact h.elim
theorem fdf_of {P : Program} {w : World} {K : PySem.W.Frag} {mg : Str → Option Value} {base : Heap} {x : Str} {st : Stmt} {f : Addr} {fd : FuncData} {N ps : List Str} {k : Nat} (F : Fun K x x st f fd) (hm : mg x = some (.ref f)) (b : Binds K fd ps []) (S : FnScope N ps (defScope st)) {g : DSt → Res OutF}
    (hbody : ∀ (cdv : Value) (A : Around) (outer : List Env) (s : Shared) (H : Hp) (E : XK), Room k (A.deeper (envOfC x (defScope st) s.heap.objs.size f cdv)) →
      ∃ t, DFu (cxOf CX0 P w K mg base N x (defScope st) f cdv A outer s H E).nox (fun _ => E0) (defBody st) t g) : FDf P w K mg base (k + 1) ps.length x (fnU N.length g) := by
  refine ⟨f, fd, ps, ?_, hm, F.kp, b⟩
  refine F.ok S (fun vs H Q E h => by
    obtain ⟨ds, Fz, h1, _, h2, _⟩ := h
    rw [h2.length, h1]) (fun cdv A outer s H vs Q E hr h => ?_)
  obtain ⟨t, ht⟩ := hbody cdv A outer s H E hr
  refine ⟨t, ht.pe, ?_⟩
  obtain ⟨ds, Fz, hl, live, ra, q⟩ := h
  have lv := ra.length
  refine ht.ok H Fz Fz H (start N vs) (startD N.length ds) _ ⟨fun _ _ e => e, fun _ h => h, fun _ h => .inl h, live, ?_, fun i d e => ?_, fun i s e ho => ?_, fun i j s u a b x hij e o1 _ _ _ _ _ => ?_⟩ ?_
  · unfold L2.start startD
    rw [List.length_append, List.length_append, List.length_map, List.length_map, List.length_replicate, List.length_replicate, lv]
  · obtain ⟨d', h1, h2⟩ := startD_get e
    cases h1
    obtain ⟨v, h3, h4⟩ := ra.get h2
    exact ⟨v, start_get h3 N rfl, h4⟩
  · obtain ⟨d', h1, h2⟩ := startD_get e
    cases h1
    cases ho
  · obtain ⟨d', h1, h2⟩ := startD_get e
    cases h1
    cases o1
  · unfold fnU at q
    rw [wp_bind] at q
    unfold SKf
    refine wp_mono (nE_wpA q) (fun o q => ?_) (fun _ h => h)
    cases o with
    | nx δ' => exact fun F' H' σ' r => q .non H' F' ⟨r.same, r.sub0, r.new0, fun _ => r.live⟩ .non
    | rv d => exact fun F' H' v g r => q v H' F' g r
    | rl xs => exact fun F' H' p us g n0 nf hp hz rr => q p us H' F' g n0 nf hp hz rr
/-- x = f(..), x may be changed -/
theorem ds_callU (K) (mg) {k j n i : Nat} {x y : Str} {pos' : Pos} {g : List PyData → Res FR} {f : DSt → Res (List PyData)} (hN : X.N.Nodup) (hi : X.N[i]? = some y) (hx : L2.Loc X.env.scope y) (c : FDf X.prog X.w K mg X.base k n x g) (hr : Room j X.A) (hk : k ≤ j) (hg : Gl X x) (hn : (e :: es).length = n) (ha : DA X W S (e :: es) t f) (hK : X.K = K := by rfl) (hM : X.mg = mg := by rfl)
    (hdb : (x == ("__debug__" : Str)) = false := by decide) (he : starEach (e :: es) X.env = (false, eval e X.env) :: starEach es X.env := by rfl) (hpl : (backTo pos (starEach es X.env)).any (·.1) = false := by rfl)
    (hs : swapsWith (.Call (.Name x p) (e :: es) [] pos) (some (.Name y pos')) ps0.line X.env = pure false := by rfl) (hf : X.fn y = true ∨ X.env.scope.names.lookup y = some .local := by first | exact .inl rfl | exact .inr rfl | assumption) :
    DS X W (.Assign [.Name y pos'] (.Call (.Name x p) (e :: es) [] pos) ps0) (tAsg (tCall (spF K n g) [] L2.E0 t) (gName i)) (callU S f g i) := by
  subst hK hM
  obtain ⟨fa, fd, ps, F, hm, kp, hb⟩ := c.ex
  refine ⟨ps_set hN hi hx (pe_call F (hr.mono hk) hg hm kp hb .nil pass0 ha.pe hdb he hpl) hs hf, fun H0 Fz0 Fz H σ δ Dn r h => ?_⟩
  unfold SOK callU at h
  rw [wp_bind] at h
  refine ha.ok (withOwn Fz H σ δ S) σ H δ _ r.rd r.ownLive (wp_mono (wp_and_can h) (fun ds ⟨h, q⟩ vs H1 F1 g1 r1 => ?_) fun x hx c oe H1 F1 g q => hx c oe H1 F1 (r.grow0 g) q)
  · rw [wp_bind] at h
    have r2 : Rel X.K H0 Fz0 Fz H1 σ δ := r.up g1.same
    by_cases hfl : flatAll ds = true
    · refine ⟨ds, Fz, (ha.len δ ds q).trans hn, r2.live, by rw [List.append_nil]; exact r1.flat hfl, wp_mono (nE_wpA h) (fun rr h => ?_) fun _ h => h⟩
      cases rr with
      | v d =>
        have h : (Res.ok (Out.nx ((if (flat d || flatAll ds) = true then δ else freeze S 0 δ).set i (some (.val d))))).wp (OOK X.K H0 Fz0 Dn) (XOK X.mg (W σ) H0 Fz0) := h
        rw [hfl, Bool.or_true, if_pos rfl] at h
        intro v H2 F2 g2 rv
        have r4 : Rel X.K H0 Fz0 F2 H2 σ δ := by
          have := r2.frz (S := []) (withOwn_nil g2)
          rwa [freeze_nil] at this
        exact h F2 H2 _ (r4.setVal rv i)
      | l xs =>
        have h : (Res.ok (Out.nx ((if (flatAll xs || flatAll ds) = true then δ else freeze S 0 δ).set i (some (.own xs))))).wp (OOK X.K H0 Fz0 Dn) (XOK X.mg (W σ) H0 Fz0) := h
        rw [hfl, Bool.or_true, if_pos rfl] at h
        intro p us H2 F2 g2 np nf hp hz rv
        have r4 : Rel X.K H0 Fz0 F2 H2 σ δ := by
          have := r2.frz (S := []) (withOwn_nil g2)
          rwa [freeze_nil] at this
        exact h F2 H2 _ (r4.setOwn (s := .own xs) (none_of_same r2.same np) nf ⟨us, hp, hz, rv⟩ (r2.apart np) i)
    · have g3 : ∀ {H2 F2}, Grow F1 H1 F2 H2 → Grow (withOwn Fz H σ δ S) H F2 H2 := fun g2 => g1.trans g2
      refine ⟨ds, F1, (ha.len δ ds q).trans hn, g1.live r.ownLive, by rw [List.append_nil]; exact r1, wp_mono (nE_wpA h) (fun rr h => ?_) fun _ h => h⟩
      have hfl : flatAll ds = false := by simpa using hfl
      cases rr with
      | v d =>
        have h : (Res.ok (Out.nx ((if (flat d || flatAll ds) = true then δ else freeze S 0 δ).set i (some (.val d))))).wp (OOK X.K H0 Fz0 Dn) (XOK X.mg (W σ) H0 Fz0) := h
        rw [hfl, Bool.or_false] at h
        intro v H2 F2 g2 rv
        by_cases hd : flat d = true
        · rw [if_pos hd] at h
          exact h Fz H2 _ ((r.up (g3 g2).same).setVal (rv.flat hd) i)
        · rw [if_neg hd] at h
          exact h F2 H2 _ ((r.frz (g3 g2)).setVal rv i)
      | l xs =>
        have h : (Res.ok (Out.nx ((if (flatAll xs || flatAll ds) = true then δ else freeze S 0 δ).set i (some (.own xs))))).wp (OOK X.K H0 Fz0 Dn) (XOK X.mg (W σ) H0 Fz0) := h
        rw [hfl, Bool.or_false] at h
        intro p us H2 F2 g2 np nf hp hz rv
        have np0 : H p = none := none_of_same g1.same np
        by_cases hd : flatAll xs = true
        · rw [if_pos hd] at h
          exact h Fz H2 _ ((r.up (g3 g2).same).setOwn (s := .own xs) (none_of_same r.same np0) (fun z => r.live p z np0) ⟨us, hp, hz, rv.flat hd⟩ (r.apart np0 (g3 g2).same) i)
        · rw [if_neg hd] at h
          exact h F2 H2 _ ((r.frz (g3 g2)).setOwn (s := .own xs) (none_of_same r.same np0) nf ⟨us, hp, hz, rv⟩ (fun j u ej oj => r.apart np0 (g3 g2).same j u (freeze_own ej oj).2 oj) i)
end
end DL

set_option Elab.async false
set_option linter.all false
set_option maxRecDepth 100000
set_option maxHeartbeats 4000000
namespace DL
open PySem PySem.Spec L2
/-- try: body / except ..: .. where the body raises nothing -/
theorem ds_tryThru {X : Cx} {W : WS} {body : List Stmt} {h₀ : ExceptHandler} {hs : List ExceptHandler} {t : TS} {f : DSt → Res Out} {pos : Pos} (hb : DSs X W body t f) (hx : X.nox = X := by rfl) : DS X W (.Try body (h₀ :: hs) [] [] pos) t f :=
  ⟨ps_try_thru0 (by rw [hx]; exact hb.pe), hb.ok⟩
end DL

set_option Elab.async false
set_option linter.all false
set_option maxRecDepth 100000
set_option maxHeartbeats 4000000
namespace DL
open PySem PySem.Spec L2
open PyProof.Rows hiding St

/-! ### defs that may raise -/
structure FDX (P : Program) (w : World) (K : PySem.W.Frag) (mg : Str → Option Value) (base : Heap) (k n : Nat) (x : Str) (g : List PyData → Res PyData) : Prop where
  ex : ∃ (f : Addr) (fd : FuncData) (ps : List Str), FnOk P w K mg base (L2.CX P w) k f fd ps (spD K mg n g) ∧ mg x = some (.ref f) ∧ PySem.W.keepIn K (.ref f) = true ∧ Binds K fd ps []
theorem FDX.mono {P : Program} {w : World} {K : PySem.W.Frag} {mg : Str → Option Value} {base : Heap} {k j n : Nat} {x : Str} {g : List PyData → Res PyData} (h : FDX P w K mg base k n x g) (hk : k ≤ j) : FDX P w K mg base j n x g := by
  obtain ⟨f, fd, ps, F, h1, h2, h3⟩ := h.ex
  exact ⟨f, fd, ps, F.mono hk, h1, h2, h3⟩
/-- what is raised is taken by the wish -/
def TkW (X : Cx) (W : WS) : Prop := Takes X (fun c d σ H => W σ c d H)
def callX (g : List PyData → Res PyData) (f : DSt → Res (List PyData)) (δ : DSt) : Res PyData := f δ >>= g
section
variable {X : Cx} {W : WS} {U : XK} {S T M : List Nat} {e a b c tg : Expr} {es tgs : List Expr} {pos p p2 : Pos} {te ta tb : TE} {tt : TT} {t : TA} {ts ts' : TS} {st : Stmt} {rest : List Stmt}
theorem de_callX (K) (mg) {k j n : Nat} {x : Str} {g : List PyData → Res PyData} {f : DSt → Res (List PyData)} (tk : TkW X W) (c : FDX X.prog X.w K mg X.base k n x g) (hr : Room j X.A) (hk : k ≤ j) (hg : Gl X x) (hn : (e :: es).length = n) (ha : DA X W S (e :: es) t f) (hK : X.K = K := by rfl) (hM : X.mg = mg := by rfl)
    (hdb : (x == ("__debug__" : Str)) = false := by decide) (he : starEach (e :: es) X.env = (false, eval e X.env) :: starEach es X.env := by rfl) (hpl : (backTo pos (starEach es X.env)).any (·.1) = false := by rfl) :
    DE X W S (.Call (.Name x p) (e :: es) [] pos) (tCallS (spD K mg n g) (WE fun c d σ H => W σ c d H) t) (callX g f) := by
  subst hK hM
  obtain ⟨fa, fd, ps, F, hm, kp, hb⟩ := c.ex
  refine ⟨pe_callS F (hr.mono hk) hg hm kp hb (fun σ => passAt (W := fun c d σ H => W σ c d H) tk σ) ha.pe hdb he hpl, fun Fz σ H δ Q hd hl hq => ?_⟩
  unfold EOK callX at hq
  rw [wp_bind] at hq
  refine ha.ok Fz σ H δ _ hd hl (wp_mono (wp_and_can hq) (fun ds ⟨hq, q⟩ vs H1 F1 g1 r1 => ?_) fun x hx => hx)
  exact ⟨ds, F1, (ha.len δ ds q).trans hn, g1.live hl, r1, EOK.mono (U := W σ) (H := H) (Fz := Fz) hq g1 fun v H' F' g' q => q⟩
/-- raise C('..') -/
theorem ds_raise {C : Addr} {cn m : Str} {x : Str} {jj : Nat} (hc : X.calm = true) (tk : TkW X W) (he : PMk X e (fun _ H Q => Q (.ref C) none H)) (hm : X.mg cn = some (.ref C)) : DS X W (.Raise (some e) none pos) (fun _ σ H => W σ (.ref C) none H) (fun _ => .err ⟨cn, none⟩) :=
  ⟨ps_raise hc tk he, fun H0 Fz0 Fz H σ δ Dn r q => q (.ref C) none H Fz ⟨r.same, r.sub0, r.new0, fun _ => r.live⟩ ⟨hm, trivial⟩⟩
end
/-- a body as a function that may raise -/
def fnX (n : Nat) (g : DSt → Res Out) (ds : List PyData) : Res PyData := g (startD n ds) >>= fnK
theorem start_relX {K : PySem.W.Frag} {Fz : FZ} {H : Hp} {N : List Str} {vs : List V} {ds : List PyData} (live : Live Fz H) (ra : RepAll K Fz H vs ds) : Rel K H Fz Fz H (start N vs) (startD N.length ds) := by
  have lv := ra.length
  refine ⟨fun _ _ e => e, fun _ h => h, fun _ h => .inl h, live, ?_, fun i d e => ?_, fun i s e ho => ?_, fun i j s u a b x hij e o1 _ _ _ _ _ => ?_⟩
  · unfold L2.start startD
    rw [List.length_append, List.length_append, List.length_map, List.length_map, List.length_replicate, List.length_replicate, lv]
  · obtain ⟨d', h1, h2⟩ := startD_get e
    cases h1
    obtain ⟨v, h3, h4⟩ := ra.get h2
    refine ⟨v, ?_, h4⟩
    have hi : i < vs.length := (List.getElem?_eq_some_iff.mp h3).1
    unfold L2.start
    rw [List.getElem?_append_left (by rw [List.length_map]; exact hi), List.getElem?_map, h3]
    rfl
  · obtain ⟨d', h1, h2⟩ := startD_get e
    cases h1
    cases ho
  · obtain ⟨d', h1, h2⟩ := startD_get e
    cases h1
    cases o1
theorem fdx_of {P : Program} {w : World} {K : PySem.W.Frag} {mg : Str → Option Value} {base : Heap} {x : Str} {st : Stmt} {f : Addr} {fd : FuncData} {N ps : List Str} {k : Nat} (F : Fun K x x st f fd) (hm : mg x = some (.ref f)) (b : Binds K fd ps []) (S : FnScope N ps (defScope st)) {g : DSt → Res Out}
    (hbody : ∀ (cdv : Value) (A : Around) (outer : List Env) (s : Shared) (H : Hp) (E : XK), Room k (A.deeper (envOfC x (defScope st) s.heap.objs.size f cdv)) → TkW (cxOf (L2.CX P w) P w K mg base N x (defScope st) f cdv A outer s H E) (fun _ => E) → PassesOwn (model P w) (A.deeper (envOfC x (defScope st) s.heap.objs.size f cdv)) (envOfC x (defScope st) s.heap.objs.size f cdv) (cxOf (L2.CX P w) P w K mg base N x (defScope st) f cdv A outer s H E).xe →
      ∃ t, DSs (cxOf (L2.CX P w) P w K mg base N x (defScope st) f cdv A outer s H E) (fun _ => E) (defBody st) t g) : FDX P w K mg base (k + 1) ps.length x (fnX N.length g) := by
  refine ⟨f, fd, ps, ?_, hm, F.kp, b⟩
  refine F.okX S (fun vs H Q E h => spD_len h) (fun cdv A outer s H vs Q E hr h => ?_)
  obtain ⟨t, ht⟩ := hbody cdv A outer s H E hr (takes_of rfl rfl rfl rfl) (passes_of rfl)
  refine ⟨t, ht.pe, ?_⟩
  obtain ⟨ds, Fz, hl, live, ra, q⟩ := h
  refine ht.ok H Fz Fz H (start N vs) (startD N.length ds) _ (start_relX live ra) ?_
  unfold fnX EOK at q
  rw [wp_bind] at q
  unfold SOK
  refine wp_mono q (fun o q => ?_) (fun _ h => h)
  cases o with
  | nx δ' => exact fun F' H' σ' r => q .non H' F' ⟨r.same, r.sub0, r.new0, fun _ => r.live⟩ .non
  | rt d => exact fun F' H' v g r => q v H' F' g r
  | bk δ' => exact q.elim
  | ct δ' => exact q.elim
/-! ### try .. except C: -/
/-- all one's own things become values -/
def frzAll (δ : DSt) : DSt := freeze (List.range δ.length) 0 δ
def Res.tryc {α : Type} (r : Res α) (k : Exn → Res α) : Res α := match r with
  | .ok a => .ok a
  | .bot => .bot
  | .err x => k x
  | .pick m f => .pick m fun i => (f i).tryc k
theorem tryc_wp {α : Type} {r : Res α} {k : Exn → Res α} {Q : α → Prop} {E : Exn → Prop} (h : (r.tryc k).wp Q E) : r.wp Q fun x => (k x).wp Q E := by
  induction r with
  | ok a => exact h
  | bot => exact h
  | err x => exact h
  | pick m f ih => exact ⟨h.1, fun i h0 h1 => ih i (h.2 i h0 h1)⟩
def tryF (sub : Str → Option Bool) (f h : DSt → Res Out) (δ : DSt) : Res Out := (f (frzAll δ)).tryc fun x => match sub x.cls with
    | some true => h (frzAll δ)
    | some false => .err x
    | none => .bot
theorem Rel.under {K : PySem.W.Frag} {H0 H H' : Hp} {Fz0 Fz F' : FZ} {σ σ' : L2.St} {δ δ' : DSt} (r : Rel K H0 Fz0 Fz H σ δ) (q : Rel K H Fz F' H' σ' δ') : Rel K H0 Fz0 F' H' σ' δ' :=
  ⟨fun a o e => q.same a o (r.same a o e), fun a h => q.sub0 a (r.sub0 a h), fun a h => (q.new0 a h).elim (r.new0 a) fun z => .inr (none_of_same r.same z), q.live, q.len, q.val, fun i s e ho => by
    obtain ⟨a, h1, h2, h3⟩ := q.ownF i s e ho
    exact ⟨a, h1, h2, fun x hx => ⟨none_of_same r.same (h3 x hx).1, (h3 x hx).2⟩⟩, q.sepF⟩
theorem frzAll_val {δ : DSt} {i : Nat} {s : SV} (h : (frzAll δ)[i]? = some (some s)) : s.isOwn = false := by
  unfold frzAll at h
  cases ho : s.isOwn with
  | false => rfl
  | true =>
    obtain ⟨h1, h2⟩ := freeze_own h ho
    have := (List.getElem?_eq_some_iff.mp h2).1
    exact absurd (List.mem_range.mpr this) h1
theorem Rel.still {K : PySem.W.Frag} {H0 H H' : Hp} {Fz0 Fz F' : FZ} {σ : L2.St} {δ : DSt} (r : Rel K H0 Fz0 Fz H σ δ) (hv : ∀ (i : Nat) s, δ[i]? = some (some s) → s.isOwn = false) (g : Grow Fz H F' H') : Rel K H Fz F' H' σ δ :=
  ⟨g.same, g.sub, g.new, g.live r.live, r.len, fun i d e => by
    obtain ⟨v, h1, h2⟩ := r.val i d e
    exact ⟨v, h1, h2.grow g⟩, (fun i s e ho => by rw [hv i s e] at ho; cases ho), fun i j s u a b x _ e o1 _ _ _ _ _ => by rw [hv i s e] at o1; cases o1⟩
section
variable {X : Cx} {W : WS} {Wx : WX} {U : XK} {pos pos' np : Pos} {x : Str} {c : Value} {body suite : List Stmt} {b₀ : Stmt} {tb : WX → TS} {ts : TS} {f h : DSt → Res Out} {sub : Str → Option Bool}
theorem ds_try (hs : X.stack = X.env :: X.outer) (hf : X.env.frame = some X.env.locals) (hc : Names X x c) (tk : Takes X Wx) (hsub : ∀ n b, sub n = some b → ∀ v, X.mg n = some v → PySem.W.exmOne X.K v c = some b)
    (hb : ∀ (W : WX) (pn : List (Addr × Obj)) (xe : Value → Shared → Prop), Takes (X.tr pn xe) W → PassesOwn (model X.prog X.w) X.A X.env xe → DSs (X.tr pn xe) (WE W) body (tb W) f)
    (hsu : ∀ (a : Addr) (oe : Obj) (cls : Value) (d : Option Addr) (pn : List (Addr × Obj)), Zc cls d oe → (∃ vs, oe.data = .fields vs) → DSs (X.suite a ((a, oe) :: pn)) (fun _ => E0) (b₀ :: suite) ts h) (hh : ∀ δ, Exn → (h δ).quiet) :
    DS X (WE Wx) (.Try body [.ExceptHandler (some (.Name x np)) none (b₀ :: suite) pos'] [] [] pos) (fun D σ H => tb (wOnly X.K c (fun _ _ _ => ts) Wx D) D σ H) (tryF sub f h) := by
  refine ⟨ps_try_only hs hf hc tk (fun W pn xe t1 t2 => (hb W pn xe t1 t2).pe) (fun a oe cls d pn z1 z2 => (hsu a oe cls d pn z1 z2).pe), fun H0 Fz0 Fz H σ δ Dn r q => ?_⟩
  have hbd : ∀ (W : WX), ∃ xe, DSs (X.tr [] xe) (WE W) body (tb W) f := fun W => by
    refine ⟨fun e s₁ => wpAny (model X.prog X.w) X.A (noteFrame e X.env) (fun _ s₂ => wpAny (model X.prog X.w) X.A (setFlight e none) (fun _ _ => True) (fun _ _ => True) s₂) (fun _ _ => True) s₁, hb W [] _ (fun u s' xx => ?_) PassesOwn.looking⟩
    obtain ⟨a, B, sI, pins', σ', H', cls, d, rfl, J', nb, up, sky, na, os, ag, w⟩ := xx
    have ok : X.Ok := J'.ok.ofTry
    have hfr : X.A.frames = some (X.env :: X.outer) := by rw [ok.frames, hs]
    have sky' : Sky B (X.env :: X.outer) a (Zc cls d) X.env.locals s'.heap := by rw [← hs]; exact sky
    show wpAny (model X.prog X.w) X.A (noteFrame (.ref a) X.env) _ _ _
    exact Sky.land (Q := fun _ _ => True) Zc.steady hfr hf sky' fun _ _ _ => True.intro
  obtain ⟨xe, hB⟩ := hbd (wOnly X.K c (fun _ _ _ => ts) Wx Dn)
  have r1 : Rel X.K H0 Fz0 (withOwn Fz H σ δ (List.range δ.length)) H σ (frzAll δ) := r.frz ⟨fun _ _ e => e, fun _ h => h, fun _ h => .inl h, fun l => l⟩
  have r2 := r1.still (fun i s e => frzAll_val e) (Grow.refl (H := H))
  unfold tryF at q
  refine hB.ok _ _ _ H σ _ Dn r2 ?_
  unfold SOK at q ⊢
  refine wp_mono (tryc_wp q) (fun o q => ?_) (fun y q => ?_)
  · cases o with
    | nx δ' => exact fun F' H' σ' r' => q F' H' σ' (r1.under r')
    | rt d => exact fun F' H' v g rv => q F' H' v ⟨fun a o e => g.same a o (r1.same a o e), fun a h => g.sub a (r1.sub0 a h), fun a h => (g.new a h).elim (r1.new0 a) fun z => .inr (none_of_same r1.same z), fun _ => g.live r1.live⟩ rv
    | bk δ' => exact fun F' H' σ' r' => q F' H' σ' (r1.under r')
    | ct δ' => exact fun F' H' σ' r' => q F' H' σ' (r1.under r')
  · intro cls oe H' F' g ex
    have hm : X.mg y.cls = some cls := ex.1
    cases hb' : sub y.cls with
    | none => rw [hb'] at q; exact q.elim
    | some b =>
      rw [hb'] at q
      have he := hsub y.cls b hb' cls hm
      have r3 : Rel X.K H0 Fz0 F' H' σ (frzAll δ) := r1.under (r1.still (fun i s e => frzAll_val e) g)
      refine ⟨b, he, fun hbt a ha => ?_, fun hbf => ?_⟩
      · subst hbt
        have hS := hsu a { cls := cls, dict := oe, data := .fields #[] } cls oe [] ⟨rfl, rfl⟩ ⟨_, rfl⟩
        refine hS.ok H0 Fz0 F' H' σ _ Dn r3 ?_
        unfold SOK
        exact wp_quiet (hh _ ⟨"", none⟩) q
      · subst hbf
        exact q cls oe H' F' ⟨r3.same, r3.sub0, r3.new0, fun _ => r3.live⟩ ex
end
end DL

set_option Elab.async false
set_option linter.all false
set_option maxRecDepth 100000
set_option maxHeartbeats 4000000
namespace DL
open PySem PySem.Spec L2 PySem.W PySem.Calls
open PyProof.Rows hiding St

/-! ### an exception's __init__ that says super().__init__(text) and keeps one whole number -/
section
variable {prog : Program} {w : World} {A : Around} {E : Value → Shared → Prop} {h : Heap} {g : Array GenState} {d : Drawn} {t : Nat} {os : OsState}
variable {nm q : Str} {C N : Addr} {bs bm bmB : List Value} {hdct : Bool} {sn : List Str} {sub : List Value} {ab : Bool} {col : Option Bool} {dd : Option Addr} {k0 k1 k2 k3 k5 : Option Value} {B newId initId : String}
theorem check_bw (F : ExcBaseFacts B newId initId bmB) {e : Addr} {oe : Obj} {rest : List Value} {Q : Unit → Shared → Prop}
    (hC : h.get? C = some (excClassObj nm q C N bs bm hdct sn sub ab col dd k0 k1 k2 k3 k5 newId)) (he : h.get? e = some oe) (hcls : oe.cls = .ref C) (hq : Q () ⟨h, g, d, t, os⟩) :
    wpAny (model prog w) A (checkBoundCall initId ⟨.ref e :: rest, []⟩) Q E ⟨h, g, d, t, os⟩ := by
  have hshort := F.noStar
  simp only [checkBoundCall, F.initKind, F.initRow]
  repeat (first | (with_reducible refine wpAny_loadPart_at he ?_; rw [hcls]) | with_reducible refine wpAny_loadPart_at hC ?_ | wp_step)
  refine wpAny_onRaise ?_
  rw [show ∀ (a b : String) (n : Nat), Bind.check ⟨.positional, "*", B, .self, [⟨"args", .varPos, false⟩]⟩ a b n (List.map (fun x => x.fst) ({ pos := Value.ref e :: rest } : Args).kw) = pure () from
    fun a b n => check_star_args _ _ _ _ _ _]
  exact wpAny_pure hq
theorem call_mw {u e t0 : Addr} {rest : List Value} {Q : Value → Shared → Prop}
    (hC : h.get? C = some (excClassObj nm q C N bs bm hdct sn sub ab col dd k0 k1 k2 k3 k5 "ValueError.__new__")) (he : h.get? e = some (HandSPX.excO C t0)) (hu : h.get? u = some (kxs_mw "ValueError.__init__" e)) (hrest : rest.length ≤ sizeLine)
    (hq : ∀ h' t1, (∀ b o, b ≠ e → h.get? b = some o → h'.get? b = some o) → h'.get? e = some (HandSPX.excO C t1) → Q .none ⟨h', g, d, t, os⟩) :
    wpAny (model prog w) A (call (.ref u) rest) Q E ⟨h, g, d, t, os⟩ := by
  refine wpAny_call (codeAny_of_tree ?_)
  show wpAny _ A.in1 (callAny (.ref u) ⟨rest, []⟩) _ _ _
  simp only [callAny]
  refine wpAny_bind (wpAny_load hu ?_)
  simp only [kxs_mw, show (Value.type "method-wrapper" == Value.type "method" || Value.type "method-wrapper" == Value.type "builtin_function_or_method" || Value.type "method-wrapper" == Value.type "method-wrapper") = true by decide, if_true]
  refine W.KFB.if_so (by decide) ?_
  refine wpAny_bind (check_bw F.excBase_ValueError hC he rfl ?_)
  refine wpAny_bind (wpAny_pure (wpAny_pure ?_))
  refine ⟨Code.quiet_builtin _ (by decide +kernel), codeAny_builtin F.excBase_ValueError.initEntry ?_⟩
  rw [Around.under_plainId F.excBase_ValueError.init.plain _]
  wp_walk
  refine hq _ h.objs.size (fun b o hb ho => ?_) ?_
  · rw [Heap.get?_update_other _ _ (Ne.symm hb)]
    exact Heap.get?_push_of_some _ ho
  · rw [Heap.get?_update_self _ (Heap.get?_push_of_some _ he) rfl]
    rfl
end
/-- the context of such a body -/
def cxS (P : Program) (w : World) (K : PySem.W.Frag) (mg : Str → Option Value) (base : Heap) (N : List Str) (qual : Str) (scope : Scope) (f cc : Addr) (cd : Value) (A : Around) (outer : List Env) (s : Shared) (H : Hp) : Cx where
  prog := P
  w := w
  K := K
  mg := mg
  base := base
  A := A.deeper (ksEnv qual scope s.heap.objs.size f cd cc)
  N := N
  s_0 := s
  H_0 := H
  env := ksEnv qual scope s.heap.objs.size f cd cc
  outer := outer
  stack := ksEnv qual scope s.heap.objs.size f cd cc :: outer
  ex := []
  calm := true
  fn := fun _ => false
  pn := []
  xe := fun _ _ => False
/-- what such an __init__ does -/
def spInit (C : Addr) (fld : Str) : Sp := fun vs H Q _ => ∃ a i, vs = [V.ref a, V.int i] ∧ i.natAbs.log2 < 1920 ∧ H a = some (exo a C none) ∧ ∀ dx, H dx = none → dx ≠ a → Q .non (upd (upd H dx (exd dx [(fld, .int i)])) a (exo a C (some dx)))

abbrev initB (fld s1 s2 : Str) (p0 p1 p2 p3 p4 p5 p6 p7 p8 p9 p10 p11 p12 p13 : Pos) (j1 j2 : Nat) : List Stmt :=
  [.Expr (.Call (.Attribute (.Call (.Name "super" p0) [] [] p1) "__init__" p2) [.JoinedStr [.Constant (.str s1) j1 p9, .FormattedValue (.Name fld p10) (-1) none p11, .Constant (.str s2) j2 p12] p3] [] p4) p5,
   .Assign [.Attribute (.Name "self" p6) fld p7] (.Name fld p8) p13]
theorem init_ok {P : Program} {w : World} {K : Frag} {mg : Str → Option Value} {base : Heap} {CX : CXT} {k : Nat} {f cc cda C : Addr} {qual fld s1 s2 : Str} {params : Arguments} {scope : Scope} {kV doc pm ct oc ccl cl : Value} {an od cdd cld : Option Addr} {osl ccs csl : Array (Option Value)} {vs : Array Value} {file : Str} {tf : Tok} {ar : Arg}
    {p0 p1 p2 p3 p4 p5 p6 p7 p8 p9 p10 p11 p12 p13 : Pos} {j1 j2 : Nat}
    (T : OexC K C)
    (lk : K.lookup f = some ⟨oc, od, .func (ksFn "__init__" qual params (initB fld s1 s2 p0 p1 p2 p3 p4 p5 p6 p7 p8 p9 p10 p11 p12 p13 j1 j2) scope .none kV doc pm an (.ref cda) ct cc), osl⟩) (hcd : codeIn K (.ref cda) qual = true)
    (hcode : K.lookup cda = some ⟨ccl, cdd, .fields vs, ccs⟩) (hvs : vs[2]? = some (.str file tf)) (hfile : ((P.main.file : Str) == file) = true)
    (hcell : K.lookup cc = some ⟨cl, cld, .cell (some (.ref C)), csl⟩) (hsm : mg "super" = none) (htop : (P.main.scope.names.lookup ("super" : Str)).isSome = false)
    (hsup : ks_superIn K C C "__init__" = some (some (.builtin "ValueError.__init__"))) (hsubV : subIn K (.ref C) (.type "ValueError") = some true) (hsubC : mroIn K C (.ref C) = some true) (hopq : nsIn K cStatics "thirdparty.any" = some none) (hno : findIn K (.ref C) fld = some none)
    (hpar : (params.posonlyargs ++ params.args).head? = some ar) (har : ar.arg = "self") (hne : fld ≠ "self")
    (hk : scope.kind = .function) (hco : scope.isCoroutine = false) (hgen : scope.isGenerator = false) (hcel : ∀ x ∈ scope.names, x.2 ≠ .cell) (hks : scope.names.lookup ("super" : Str) = some .globalImplicit) (hkc : scope.names.lookup ("__class__" : Str) = some .free) (hself : scope.names.lookup ("self" : Str) = some .local) (hfld : scope.names.lookup fld = some .local)
    (hfree : ∀ x, scope.names.lookup x = some .free → x = "__class__") (hs1 : s1.length ≤ 1000) (hs2 : s2.length ≤ 1000) (hd1 : (fld == ("__debug__" : Str)) = false) (hd2 : (fld == ("__classdict__" : Str)) = false) {pl : Sem Bool}
    (hev : ∀ L : Addr, eval (.Call (.Attribute (.Call (.Name "super" p0) [] [] p1) "__init__" p2) [.JoinedStr [.Constant (.str s1) j1 p9, .FormattedValue (.Name fld p10) (-1) none p11, .Constant (.str s2) j2 p12] p3] [] p4) (ksEnv qual scope L f (.ref cda) cc) = (do
      let ov ← attributeBase (.Call (.Name "super" p0) [] [] p1) "__init__" (ksEnv qual scope L f (.ref cda) cc) (eval (.Call (.Name "super" p0) [] [] p1) (ksEnv qual scope L f (.ref cda) cc))
      standAt p2.atName
      let (f', first) ← holding [ov] (getMethod ov "__init__" pl)
      callWith p4 f' first (backTo p4 (starEach [.JoinedStr [.Constant (.str s1) j1 p9, .FormattedValue (.Name fld p10) (-1) none p11, .Constant (.str s2) j2 p12] p3] (ksEnv qual scope L f (.ref cda) cc))) []))
    (hsw : ∀ L : Addr, swapsWith (.Call (.Attribute (.Call (.Name "super" p0) [] [] p1) "__init__" p2) [.JoinedStr [.Constant (.str s1) j1 p9, .FormattedValue (.Name fld p10) (-1) none p11, .Constant (.str s2) j2 p12] p3] [] p4) none p5.line (ksEnv qual scope L f (.ref cda) cc) = pure false)
    (hsw2 : ∀ L : Addr, swapsWith (.Name fld p8) (some (.Attribute (.Name "self" p6) fld p7)) p13.line (ksEnv qual scope L f (.ref cda) cc) = pure false) :
    FnOk P w K mg base CX (k + 1) f (ksFn "__init__" qual params (initB fld s1 s2 p0 p1 p2 p3 p4 p5 p6 p7 p8 p9 p10 p11 p12 p13 j1 j2) scope .none kV doc pm an (.ref cda) ct cc) ["self", fld] (spInit C fld) := by
  refine ⟨fun vs H Q E h => by obtain ⟨a, i, rfl, _⟩ := h; rfl, fun A outer s H args us vs' Q E hr e0 hb r hsp => ?_⟩
  obtain ⟨a, i, rfl, hi, ea, hq⟩ := hsp
  have KX : K.In s.heap := e0.mod.kin.keeps fun b o e => (e0.bs b o e).1
  have lim : s.heap.NoLimit := e0.mod.nolimit.keeps fun b o e => (e0.bs b o e).1
  obtain ⟨u0, u1, rfl, r0, r1⟩ : ∃ u0 u1, us = [u0, u1] ∧ RelV (.ref a) u0 ∧ RelV (.int i) u1 := by
    cases r with
    | cons h1 r => cases r with
      | cons h2 r => cases r; exact ⟨_, _, rfl, h1, h2⟩
  refine ks_codeAny_call_defAt hr.depth (KX _ _ lk) rfl lim (codeRec_of KX hcd) rfl hb hcel (fun x hx => ?_) (fun h₀ hns hkept => ?_) hco hgen hk
  · have hx : x ∈ [(("self" : Str), u0), (fld, u1)] := hx
    rcases List.mem_cons.mp hx with rfl | hx
    · exact hself
    · rw [List.mem_singleton] at hx
      subst hx
      exact hfld
  have ccb : base.get? cc = some ⟨cl, cld, .cell (some (.ref C)), csl⟩ := e0.mod.kin _ _ hcell
  have I : Inv (cxS P w K mg base ["self", fld] qual scope f cc (.ref cda) A outer s H) [] [some (.ref a), some (.int i)] H { s with heap := h₀, toks := s.toks + ((["self", fld] : List Str).zip [u0, u1]).length } := by
    have noA : ∀ b : Addr, b ∉ ([] : List Addr) := fun b z => by cases z
    have cel1 : ∀ x c, ([((("__class__" : Str)), cc)] : List (Str × Addr)).lookup x = some c → x = "__class__" ∧ c = cc := fun x c h => by
      have hm := PySem.mem_of_lookup h
      rw [List.mem_singleton] at hm
      exact ⟨congrArg Prod.fst hm, congrArg Prod.snd hm⟩
    refine ⟨⟨e0.mod, hk, rfl, rfl, Nat.le_refl _, fun x y c h1 h2 => (cel1 x c h1).1.trans (cel1 y c h2).1.symm, fun x hx => ?_, (fun x c h => nomatch h), fun _ => hr.hd, Around.frames_deeper e0.frames, .inr ⟨rfl, rfl⟩, fun b z => absurd z (noA b), e0.bs, e0.bsz, fun b _ _ => noA b, fun b z => absurd z (noA b), e0.funs, e0.frf⟩,
      rfl, e0.bare, Un.kept hkept, ⟨_, hns, fun j x v h1 h2 h3 => ?_⟩, fun x c h => ?_, e0.hok.fresh (Nat.le_refl _), fun x c h => ?_, fun p hp => absurd (show p ∈ ([] : List (Addr × Obj)) from hp) (by simp), e0.hok.kept hkept, rfl⟩
    · have hx : scope.names.lookup x = some .cell ∨ scope.names.lookup x = some .free := hx
      rcases hx with hx | hx
      · exact absurd rfl (hcel _ (PySem.mem_of_lookup hx))
      · rw [hfree x hx]
        exact ⟨cc, rfl⟩
    · match j, h1, h2 with
      | 0, h1, h2 =>
        have e1 : x = "self" := (Option.some.inj h1).symm
        have e2 : v = .ref a := (Option.some.inj (Option.some.inj h2)).symm
        subst e1 e2
        refine ⟨u0, r0, .inl ⟨hself, ?_⟩⟩
        show ([(fld, u1), (("self" : Str), u0)] : List (Str × Value)).lookup ("self" : Str) = some u0
        rw [List.lookup_cons, show (("self" : Str) == fld) = false from by simpa using fun z => hne z.symm]
        rfl
      | 1, h1, h2 =>
        have e1 : x = fld := (Option.some.inj h1).symm
        have e2 : v = .int i := (Option.some.inj (Option.some.inj h2)).symm
        subst e1 e2
        refine ⟨u1, r1, .inl ⟨hfld, ?_⟩⟩
        show ([(x, u1), (("self" : Str), u0)] : List (Str × Value)).lookup x = some u1
        rw [List.lookup_cons, show (x == x) = true from by simp]
      | j + 2, h1, h2 => exact absurd h1 (by simp [cxS])
    · obtain ⟨_, rfl⟩ := cel1 x c h
      exact ⟨some (.ref C), _, hkept _ _ (e0.bs _ _ ccb).1, rfl⟩
    · obtain ⟨_, rfl⟩ := cel1 x c h
      exact (e0.bs _ _ ccb).2
  obtain ⟨nmC, qC, NC, bsC, bmC, snC, subC, abC, colC, ddC, k0, k1, k2, k3, k5, hCK, hbm⟩ := T.cls
  have hcl : clsIn K C = some { name := nmC, bases := bsC, mro := .ref C :: bmC, ns := NC, qualname := qC, hasDict := true, slotNames := snC, subclasses := subC, abstract := abC, collection := colC, hasDel := false } := by unfold clsIn; rw [hCK] <;> rfl
  obtain rfl : u0 = .ref a := r0
  show _root_.PySem.wpAt (model P w) (A.deeper (ksEnv qual scope s.heap.objs.size f (.ref cda) cc)) (.func (initB fld s1 s2 p0 p1 p2 p3 p4 p5 p6 p7 p8 p9 p10 p11 p12 p13 j1 j2) (ksEnv qual scope s.heap.objs.size f (.ref cda) cc)) (execs (initB fld s1 s2 p0 p1 p2 p3 p4 p5 p6 p7 p8 p9 p10 p11 p12 p13 j1 j2) (ksEnv qual scope s.heap.objs.size f (.ref cda) cc)) _ _ _
  refine ks_wpAt_execs_cons (ks_wpAt_Expr_any (ks_wpAt_MethodCall (pl := pl) ?_ (hev _)) (hs := hsw _) (hi := ?_))
  rotate_left
  · show (scope.kind == .module && _) = false
    rw [hk]; rfl
  have KX1 : K.In h₀ := I.kIn
  obtain ⟨t1, ho⟩ := exo_at I.hok ea
  have ho : h₀.get? a = _ := ho
  obtain ⟨mb, hb1, hb2⟩ := e0.mod.blt
  have bk : ∀ b o, base.get? b = some o → h₀.get? b = some o := I.bk
  refine ks_wpAt_super_base hks hkc (by decide) rfl (KX1 _ _ lk) rfl hpar rfl (KX1 _ _ hcode) rfl hvs hfile htop ?_
  refine ks_loadName_global hk hks (loadGlobal_builtin (env := ksEnv qual scope s.heap.objs.size f (.ref cda) cc) (e0.mod.glob.keeps bk) hsm (hb1.keeps bk) ((hb2 "super" (by decide)).trans (by first | boot_by_name | rfl | kernel_rfl)) ⟨rfl, ?_⟩)
  refine wpAny_loadName_free hk hkc rfl ⟨_, KX1 _ _ hcell, rfl⟩ ?_
  rw [har]
  refine wpAny_loadName_local hk hself hns (v := .ref a) ?_ ?_
  · show ([(fld, u1), (("self" : Str), Value.ref a)] : List (Str × Value)).lookup ("self" : Str) = some (.ref a)
    rw [List.lookup_cons, show (("self" : Str) == fld) = false from by simpa using fun z => hne z.symm]
    rfl
  refine ks_wpAny_isType_cls (KX1 _ _ hCK) rfl ⟨rfl, ?_⟩
  refine ks_wpAny_call_super (KX1 _ _ hCK) rfl ho rfl (fun c e => nomatch e) (looks_mroIn KX1 hsubC) (fun h1 e1 k1 => ?_)
  have I1 : Inv (cxS P w K mg base ["self", fld] qual scope f cc (.ref cda) A outer s H) [] [some (.ref a), some (.int i)] H ⟨h1, s.gens, s.drawn, s.toks + ((["self", fld] : List Str).zip [Value.ref a, u1]).length, s.os⟩ := I.kept k1
  have KX2 : K.In h1 := I1.kIn
  have ho1 := k1 _ _ ho
  have hxC : a ≠ C := fun z => by
    rw [z, KX1 _ _ hCK] at ho
    have := Option.some.inj ho
    cases this
  have hIA : InstAt h1 a { cls := .ref C, dict := none, data := .fields #[.ref t1, .none, .none, .none, .bool false, .none] } C none := ⟨ho1, rfl, rfl, trivial⟩
  have hsup' : alongIn K "__init__" (((.ref C :: bmC).dropWhile (· != .ref C)).drop 1) = some (some (.builtin "ValueError.__init__")) := by
    unfold ks_superIn at hsup
    rw [hcl] at hsup
    exact hsup
  refine kxs_getMethod (C := C) (D := C) (x := a) kxs_ValueError e1 (looks_opaque KX2 hopq) (l₀ := .ref C :: bmC) (fun A Q E s k q => wpAny_bind ((looks_clsIn KX2 hcl) A _ E s k (wpAny_pure q))) rfl KX2 hsup' (hIA.type.andThen (looks_subIn KX2 hsubV)) hxC (by decide) ?_
  have I2 : Inv (cxS P w K mg base ["self", fld] qual scope f cc (.ref cda) A outer s H) [] [some (.ref a), some (.int i)] H ⟨h1.push (kxs_mw "ValueError.__init__" a), s.gens, s.drawn, s.toks + ((["self", fld] : List Str).zip [Value.ref a, u1]).length + 1, s.os⟩ := I1.kept fun b o e => Heap.get?_push_of_some _ e
  have hu2 : (h1.push (kxs_mw "ValueError.__init__" a)).get? h1.objs.size = some (kxs_mw "ValueError.__init__" a) := Heap.get?_push_size _ rfl
  have I3 : Inv (cxS P w K mg base ["self", fld] qual scope f cc (.ref cda) A outer s H) [(h1.objs.size, kxs_mw "ValueError.__init__" a)] [some (.ref a), some (.int i)] H ⟨h1.push (kxs_mw "ValueError.__init__" a), s.gens, s.drawn, s.toks + ((["self", fld] : List Str).zip [Value.ref a, u1]).length + 1, s.os⟩ := by
    refine ⟨I2.ok, I2.os, I2.bare, I2.base, I2.loc, I2.cell, I2.free, I2.freeC, fun p hp => ?_, I2.hok, I2.len⟩
    have hp : p ∈ [(h1.objs.size, kxs_mw "ValueError.__init__" a)] := hp
    rw [List.mem_singleton] at hp
    subst hp
    exact ⟨hu2, I1.hok.fresh (Nat.le_refl _), fun z => absurd I1.lt (by rw [← z]; exact Nat.lt_irrefl _), I1.nofs (Nat.le_refl _), fun v z => nomatch z⟩
  have hev1 : Vis (cxS P w K mg base ["self", fld] qual scope f cc (.ref cda) A outer s H).env.scope fld := .inl hfld
  have pv1 : PE (cxS P w K mg base ["self", fld] qual scope f cc (.ref cda) A outer s H) (.Name fld p10) (tVar 1) := pe_var (i := 1) rfl hev1 hd1 hd2
  have pj := pe_joined (pos := p3) (PJ.cons (pe_str (X := cxS P w K mg base ["self", fld] qual scope f cc (.ref cda) A outer s H) (x := s1) (j := j1) (pos := p9)) (PJ.cons (pe_fmt (pos := p11) pv1) (PJ.cons (pe_str (x := s2) (j := j2) (pos := p12)) PJ.nil)))
  have pa := pa_cons pj pa_nil rfl
  have hsz := sizeLine_eq
  have hlen : ∀ (acc : Str) (n : Nat), acc.length ≤ n → n ≤ 10000 → acc.length ≤ sizeLine := fun acc n h1 h2 => by rw [hsz]; omega
  have hti : (toString i : Str).length ≤ 1921 := int_text_len_1921 hi
  refine kxs_callWith (i := "ValueError.__init__") (x := a) rfl ?_
  refine evalArgs_plain ?_
  refine wpAny_mono (pa.run p4 _ _ _ H (fun vs H' => (∃ y : Str, vs = [V.str y]) ∧ H' = H) I3 ?_) (fun us s3 h3 => ?_) fun _ _ z => z.elim
  · refine ⟨s1, rfl, ?_, .int i, rfl, .inr ⟨i, rfl, hi, toString i, rfl, ?_, s2, rfl, ?_, ⟨_, rfl⟩, rfl⟩⟩
    · refine hlen _ 1000 ?_ (by decide)
      rw [Str.length_append]
      show 0 + _ ≤ _
      omega
    · refine hlen _ 3000 ?_ (by decide)
      rw [Str.length_append, Str.length_append]
      show 0 + _ + _ ≤ _
      omega
    · refine hlen _ 5000 ?_ (by decide)
      rw [Str.length_append, Str.length_append, Str.length_append]
      show 0 + _ + _ + _ ≤ _
      omega
  obtain ⟨vs3, H3, I4, rv, ⟨y, rfl⟩, rfl⟩ := h3
  obtain ⟨hu4, _⟩ := I4.pin (h1.objs.size, kxs_mw "ValueError.__init__" a) (List.mem_append_right _ List.mem_cons_self)
  obtain ⟨us0, rfl⟩ : ∃ u, us = [u] := by
    cases rv with
    | cons _ r => cases r; exact ⟨_, rfl⟩
  refine ⟨hu4, ?_⟩
  obtain ⟨t4, ho4⟩ := exo_at I4.hok ea
  obtain ⟨hp4, g4, d4, tk4, os4⟩ := s3
  refine call_mw (C := C) (e := a) (t0 := t4) (I4.kIn _ _ hCK) ho4 hu4 (by rw [hsz]; show 1 ≤ _; decide) (fun h5 t5 k5 e5 => ?_)
  have J := I4.write (t' := tk4) (x := a) (e := a) (o := exo a C none) (by rw [ea]; exact True.intro) (.inl rfl) k5 ⟨_, e5⟩ (exo_ok e5)
  have eu : upd H3 a (exo a C none) = H3 := by
    funext b
    by_cases hb : b = a
    · rw [hb, upd_same, ea]
    · rw [upd_ne hb]
  rw [eu] at J
  have J1 : Inv (cxS P w K mg base ["self", fld] qual scope f cc (.ref cda) A outer s H3) [] [some (.ref a), some (.int i)] H3 ⟨h5, g4, d4, tk4, os4⟩ := ⟨J.ok, J.os, J.bare, J.base, J.loc, J.cell, J.free, J.freeC, fun p hp => absurd (show p ∈ ([] : List (Addr × Obj)) from hp) (by simp), J.hok, J.len⟩
  have pself : PE (cxS P w K mg base ["self", fld] qual scope f cc (.ref cda) A outer s H3) (.Name "self" p6) (tVar 0) := pe_var (i := 0) rfl (.inl hself)
  have pv2 : PE (cxS P w K mg base ["self", fld] qual scope f cc (.ref cda) A outer s H3) (.Name fld p8) (tVar 1) := pe_var (i := 1) rfl hev1 hd1 hd2
  have ps := pss_one (ps_ost (p' := p7) (f := fld) pself pv2 (hsw2 _))
  refine wpAt_of_wpAny (wpAny_mono (ps.run [] _ _ H3 { nx := fun _ H' => Q .non H', rt := Q } J1 ?_) (fun fl s' hs => ?_) fun _ _ z => z.elim)
  · exact ⟨.int i, rfl, .ref a, rfl, a, C, rfl, T, hno, .inl ⟨ea, fun dx n ne => hq dx n ne⟩⟩
  · have fin : ∀ {σ' : L2.St} {H' : Hp} {v : V} {u : Value}, Inv (cxS P w K mg base ["self", fld] qual scope f cc (.ref cda) A outer s H3) [] σ' H' s' → RelV v u → Q v H' → CE outer P w H3 s Q u s' :=
      fun {σ' H' v u} J rv q => ⟨v, H', J.os, J.bare, J.base, J.hok, rv, q⟩
    cases fl with
    | ret u =>
      obtain ⟨v, σ', H', J, rv, q⟩ := hs
      exact fin J rv q
    | next =>
      obtain ⟨σ', H', J, q⟩ := hs
      exact fin (v := V.non) (u := Value.none) J rfl q
    | brk =>
      obtain ⟨_, _, _, q⟩ := hs
      exact False.elim q
    | cont =>
      obtain ⟨_, _, _, q⟩ := hs
      exact False.elim q
end DL

set_option Elab.async false
set_option linter.all false
set_option maxRecDepth 100000
set_option maxHeartbeats 4000000
namespace DL
open PySem PySem.Spec L2 PySem.W
open PyProof.Rows hiding St

/-! ### classes of exceptions -/
/-- a class without __init__ of its own -/
structure ExcA (K : Frag) (mg : Str → Option Value) (cn : Str) : Prop where
  ex : ∃ C : Addr, mg cn = some (.ref C) ∧ keepIn K (.ref C) = true ∧ excIn K C [.type "ValueError", .type "Exception", .type "BaseException", .type "object"] "ValueError.__new__" = true ∧ subIn K (.ref C) (.type "BaseException") = some true ∧ typeIn K (.ref C) = some (.type "type")
/-- a class whose __init__ keeps one whole number -/
structure ExcI (P : Program) (w : World) (K : Frag) (mg : Str → Option Value) (base : Heap) (cn fld : Str) : Prop where
  ex : ∃ (C fI : Addr) (fd : FuncData) (k : Nat), k ≤ 1 ∧ mg cn = some (.ref C) ∧ OexC K C ∧ findIn K (.ref C) "__init__" = some (some (.ref fI)) ∧ typeIn K (.ref fI) = some (.type "function") ∧ FnOk P w K mg base CX0 k fI fd ["self", fld] (spInit C fld) ∧ Binds K fd ["self", fld] []
/-- how an except clause answers -/
def Mat (K : Frag) (mg : Str → Option Value) (a b : Str) (r : Bool) : Prop := ∀ v c, mg a = some v → mg b = some c → exmOne K v c = some r
theorem mat_of {K : Frag} {mg : Str → Option Value} {a b : Str} {r : Bool} {A B : Addr} (ha : mg a = some (.ref A)) (hb : mg b = some (.ref B)) (h1 : subIn K (.ref B) (.type "BaseException") = some true) (h2 : isClsIn K B = true) (h3 : typeIn K (.ref B) = some (.type "type")) (h4 : subIn K (.ref A) (.ref B) = some r) : Mat K mg a b r := fun v c hv hc => by
  rw [ha] at hv
  rw [hb] at hc
  cases hv
  cases hc
  have e1 : (subIn K (.ref B) (.type "BaseException") == some true) = true := by rw [h1] <;> rfl
  have e2 : ((clsIn K B).isSome && typeIn K (.ref B) == some (.type "type")) = true := by
    rw [h3]
    first
      | (rw [show (clsIn K B).isSome = true from h2]; rfl)
      | (unfold isClsIn at h2; rw [h2]; rfl)
  show (if (subIn K (.ref B) (.type "BaseException") == some true) = true then (if ((clsIn K B).isSome && typeIn K (.ref B) == some (.type "type")) = true then subIn K (.ref A) (.ref B) else none) else none) = some r
  rw [if_pos e1, if_pos e2]
  exact h4
section
variable {X : Cx} {W : WS} {U : XK} {S T M : List Nat} {e a b c tg : Expr} {es tgs : List Expr} {pos p p2 : Pos} {te ta tb : TE} {tt : TT} {t : TA} {ts ts' : TS} {st : Stmt} {rest : List Stmt}
/-- raise C('..') -/
theorem ds_raiseA (K) (mg) {cn m : Str} {j : Nat} {p2 pos2 : Pos} (hc : X.calm = true) (tk : TkW X W) (T : ExcA K mg cn) (hg : Gl X cn) (hK : X.K = K := by rfl) (hM : X.mg = mg := by rfl) (hdb : (cn == ("__debug__" : Str)) = false := by decide) :
    DS X W (.Raise (some (.Call (.Name cn p) [.Constant (.str m) j p2] [] pos2)) none pos) (fun _ σ H => ∃ C : Addr, X.mg cn = some (.ref C) ∧ W σ (.ref C) none H) (fun _ => .err ⟨cn, none⟩) := by
  subst hK hM
  obtain ⟨C, h1, h2, h3, h4, h5⟩ := T.ex
  have hp := ps_raise (pos := pos) hc tk (pmk_own (j := j) (p := p) (p2 := p2) (pos := pos2) (m := m) PySem.F.excBase_ValueError h3 h1 h2 (raises_own h4 h5) hg hdb)
  refine ⟨⟨fun pins s σ H D I h => ?_⟩, fun H0 Fz0 Fz H σ δ Dn r q => ⟨C, h1, q (.ref C) none H Fz ⟨r.same, r.sub0, r.new0, fun _ => r.live⟩ ⟨h1, trivial⟩⟩⟩
  obtain ⟨C', e1, h⟩ := h
  rw [h1] at e1
  cases e1
  exact hp.run pins s σ H D I h
/-- raise C(e) of a whole number -/
def raiseI (cn fld : Str) (f : DSt → Res PyData) (δ : DSt) : Res Out := f δ >>= fun d => match d with
  | .int i => if i.natAbs < 4294967296 then .err ⟨cn, some (fld, i)⟩ else .bot
  | _ => .bot
theorem ds_raiseI (K) (mg) {k : Nat} {cn fld : Str} {pos2 : Pos} {f : DSt → Res PyData} (hc : X.calm = true) (tk : TkW X W) (T : ExcI X.prog X.w K mg X.base cn fld) (hr : Room k X.A) (hk : 2 ≤ k) (hg : Gl X cn) (he : DE X W S e te f) (hK : X.K = K := by rfl) (hM : X.mg = mg := by rfl) (hdb : (cn == ("__debug__" : Str)) = false := by decide)
    (hs : starEach [e] X.env = (false, eval e X.env) :: starEach [] X.env := by rfl) (hpl : (backTo pos2 (starEach [] X.env)).any (·.1) = false := by rfl) :
    DS X W (.Raise (some (.Call (.Name cn p) [e] [] pos2)) none pos) (fun _ σ H => ∃ C : Addr, X.mg cn = some (.ref C) ∧ tMkO C (spInit C fld) [] (tCons te tNil) σ H fun cls d H' => W σ cls d H') (raiseI cn fld f) := by
  subst hK hM
  obtain ⟨C, fI, fd, kk, hk1, hm, TC, hi, ht, F, hb⟩ := T.ex
  have hp := ps_raise (pos := pos) hc tk (pmk_oex (p := p) (pos := pos2) (dvs := []) TC hi ht F (hr.mono (by omega)) hb .nil pass0 hg hm (pa_cons he.pe pa_nil hs) hdb hs hpl)
  refine ⟨⟨fun pins s σ H D I h => ?_⟩, fun H0 Fz0 Fz H σ δ Dn r q => ?_⟩
  · obtain ⟨C', e1, h⟩ := h
    rw [hm] at e1
    cases e1
    exact hp.run pins s σ H D I h
  · unfold SOK raiseI at q
    rw [wp_bind] at q
    refine ⟨C, hm, ?_⟩
    show te σ H fun x H1 => _
    refine atE he r (wp_mono q (fun d hd v H1 F1 g1 r1 => ?_) fun x hx => hx)
    cases d with
    | int i =>
      by_cases hz : i.natAbs < 4294967296
      · rw [show (match PyData.int i with | .int i => (if i.natAbs < 4294967296 then (.err ⟨cn, some (fld, i)⟩ : Res Out) else .bot) | _ => .bot) = (if i.natAbs < 4294967296 then (.err ⟨cn, some (fld, i)⟩ : Res Out) else .bot) from rfl, if_pos hz] at hd
        cases r1
        show [V.int i].length ≤ 1000 ∧ ∀ a, H1 a = none → spInit C fld (.ref a :: ([V.int i] ++ [])) (upd H1 a (exo a C none)) _ _
        refine ⟨by simp, fun a ha => ⟨a, i, rfl, log_small hz, upd_same, fun d hn hda => ⟨rfl, d, [(fld, .int i)], upd_same, by rw [upd_ne hda, upd_same], ?_, ?_⟩⟩⟩
        · rw [upd_ne hda] at hn
          exact hn
        · rw [upd_ne hda] at hn
          have e : upd (del (upd (upd (upd H1 a (exo a C none)) d (exd d [(fld, .int i)])) a (exo a C (some d))) a) d (.xd [(fld, .int i)]) = upd H1 d (.xd [(fld, .int i)]) := by
            funext b
            by_cases hb : b = d
            · rw [hb, upd_same, upd_same]
            · rw [upd_ne hb, upd_ne hb]
              by_cases hba : b = a
              · rw [hba, del_same, ha]
              · rw [del_ne hba, upd_ne hba, upd_ne hb, upd_ne hba]
          rw [e]
          have g2 : Grow Fz0 H0 F1 (upd H1 d (.xd [(fld, .int i)])) := (r.grow0 g1).trans (.nw hn)
          exact hd (.ref C) (some d) _ F1 g2 ⟨hm, d, rfl, upd_same⟩
      · rw [show (match PyData.int i with | .int i => (if i.natAbs < 4294967296 then (.err ⟨cn, some (fld, i)⟩ : Res Out) else .bot) | _ => .bot) = (if i.natAbs < 4294967296 then (.err ⟨cn, some (fld, i)⟩ : Res Out) else .bot) from rfl, if_neg hz] at hd
        exact hd.elim
    | _ => exact hd.elim
/-- a call that may raise, but does not -/
theorem de_callX0 (K) (mg) {k j n : Nat} {x : Str} {g : List PyData → Res PyData} {f : DSt → Res (List PyData)} (c : FDX X.prog X.w K mg X.base k n x g) (hr : Room j X.A) (hk : k ≤ j) (hg : Gl X x) (hn : (e :: es).length = n) (ha : DA X W S (e :: es) t f) (hK : X.K = K := by rfl) (hM : X.mg = mg := by rfl)
    (hdb : (x == ("__debug__" : Str)) = false := by decide) (he : starEach (e :: es) X.env = (false, eval e X.env) :: starEach es X.env := by rfl) (hpl : (backTo pos (starEach es X.env)).any (·.1) = false := by rfl) :
    DE X W S (.Call (.Name x p) (e :: es) [] pos) (tCall (spD K mg n g) [] L2.E0 t) (callF g f) := by
  subst hK hM
  obtain ⟨fa, fd, ps, F, hm, kp, hb⟩ := c.ex
  refine ⟨pe_call F (hr.mono hk) hg hm kp hb .nil passL ha.pe hdb he hpl, fun Fz σ H δ Q hd hl hq => ?_⟩
  unfold EOK at hq
  rw [wp_bind] at hq
  refine ha.ok Fz σ H δ _ hd hl (wp_mono (wp_and_can hq) (fun ds ⟨hq, hcan⟩ vs H1 F1 g1 r1 => ?_) fun x hx => hx)
  refine ⟨ds, F1, (ha.len δ ds hcan).trans hn, g1.live hl, by rw [List.append_nil]; exact r1, ?_⟩
  exact wp_mono (nE_wpA hq) (fun d hq2 v H2 F2 g2 r2 => hq2 v H2 F2 (g1.trans g2) r2) fun _ h => h
/-- a statement that may raise, then such as do not -/
def seqN (f g : DSt → Res Out) (δ : DSt) : Res Out := f δ >>= fun o => match o with
  | .nx δ' => nE (g δ')
  | o => .ok o
theorem dss_consN {f g : DSt → Res Out} (h1 : DS X W st ts f) (h2 : DSs X (fun _ => E0) rest ts' g) : DSs X W (st :: rest) (tSeq ts ts') (seqN f g) := by
  refine ⟨pss_cons h1.pe h2.pe, fun H0 Fz0 Fz H σ δ Dn r h => ?_⟩
  unfold SOK seqN at h
  rw [wp_bind] at h
  refine h1.ok H0 Fz0 Fz H σ δ _ r (wp_mono h (fun o ho => ?_) fun x hx => hx)
  cases o with
  | nx δ' =>
    intro F H' σ' r'
    have ho : (nE (g δ')).wp _ _ := ho
    exact h2.ok H0 Fz0 F H' σ' δ' Dn r' (nE_wpA ho)
  | rt d => exact ho
  | bk δ' => exact ho
  | ct δ' => exact ho
end
/-! ### the answers of an except clause -/
def subL (l : List (Str × Bool)) : Str → Option Bool := fun n => l.lookup n
abbrev HSub (K : Frag) (mg : Str → Option Value) (c : Value) (l : List (Str × Bool)) : Prop := ∀ n b, subL l n = some b → ∀ v, mg n = some v → exmOne K v c = some b
theorem hsub_nil {K : Frag} {mg : Str → Option Value} {c : Value} : HSub K mg c [] := fun n b h => by cases h
theorem hsub_cons {K : Frag} {mg : Str → Option Value} {c : Value} {a b : Str} {r : Bool} {l : List (Str × Bool)} (h : Mat K mg a b r) (hc : mg b = some c) (q : HSub K mg c l) : HSub K mg c ((a, r) :: l) := fun n b' e v hv => by
  unfold subL at e
  rw [List.lookup_cons] at e
  by_cases hn : n = a
  · subst hn
    rw [show (n == n) = true by simp] at e
    cases e
    exact h v c hv hc
  · rw [show (n == a) = false by simpa using hn] at e
    exact q n b' e v hv
/-- what the text's top says of a class whose __init__ keeps one whole number -/
theorem excI_of {P : Program} {w : World} {K : Frag} {mg : Str → Option Value} {base : Heap} {cn fld s1 s2 qual file : Str} {C fI cc cda : Addr} {st : Stmt} {kV doc pm ct oc ccl cl : Value} {an od cdd cld : Option Addr} {osl ccs csl : Array (Option Value)} {vs : Array Value} {tf : Tok} {ar : Arg}
    {p0 p1 p2 p3 p4 p5 p6 p7 p8 p9 p10 p11 p12 p13 : Pos} {j1 j2 : Nat} {nm q : Str} {N : Addr} {bs bm : List Value} {sn : List Str} {sub : List Value} {ab : Bool} {col : Option Bool} {dd : Option Addr} {k0 k1 k2 k3 k5 : Option Value}
    (hm : mg cn = some (.ref C)) (xo : K.lookup C = some (excClassObj nm q C N bs bm true sn sub ab col dd k0 k1 k2 k3 k5 "ValueError.__new__")) (xr : PySem.HandSPX.refsVE bm = true) (sa : findIn K (.ref C) "__setattr__" = some (some (.builtin "object.__setattr__"))) (exC : subIn K (.ref C) (.type "BaseException") = some true) (tyC : typeIn K (.ref C) = some (.type "type")) (kC : keepIn K (.ref C) = true)
    (xi : findIn K (.ref C) "__init__" = some (some (.ref fI))) (xt : typeIn K (.ref fI) = some (.type "function"))
    (lk : K.lookup fI = some ⟨oc, od, .func (ksFn "__init__" qual (defArgs st) (defBody st) (defScope st) .none kV doc pm an (.ref cda) ct cc), osl⟩) (hcd : codeIn K (.ref cda) qual = true)
    (hcode : K.lookup cda = some ⟨ccl, cdd, .fields vs, ccs⟩) (hvs : vs[2]? = some (.str file tf)) (hfile : ((P.main.file : Str) == file) = true) (hcell : K.lookup cc = some ⟨cl, cld, .cell (some (.ref C)), csl⟩) (hsm : mg "super" = none) (htop : (P.main.scope.names.lookup ("super" : Str)).isSome = false)
    (hsup : ks_superIn K C C "__init__" = some (some (.builtin "ValueError.__init__"))) (hsubV : subIn K (.ref C) (.type "ValueError") = some true) (hsubC : mroIn K C (.ref C) = some true) (hopq : nsIn K cStatics "thirdparty.any" = some none) (hno : findIn K (.ref C) fld = some none)
    (hbd : defBody st = initB fld s1 s2 p0 p1 p2 p3 p4 p5 p6 p7 p8 p9 p10 p11 p12 p13 j1 j2) (hbi : ∀ (f : Addr) (fd : FuncData), fd = ksFn "__init__" qual (defArgs st) (defBody st) (defScope st) .none kV doc pm an (.ref cda) ct cc → Binds K fd ["self", fld] [])
    (hpar : ((defArgs st).posonlyargs ++ (defArgs st).args).head? = some ar) (har : ar.arg = "self") (hne : fld ≠ "self")
    (hk : (defScope st).kind = .function) (hco : (defScope st).isCoroutine = false) (hgen : (defScope st).isGenerator = false) (hcel : ∀ x ∈ (defScope st).names, x.2 ≠ .cell) (hks : (defScope st).names.lookup ("super" : Str) = some .globalImplicit) (hkc : (defScope st).names.lookup ("__class__" : Str) = some .free) (hself : (defScope st).names.lookup ("self" : Str) = some .local) (hfld : (defScope st).names.lookup fld = some .local)
    (hfree : ∀ x ∈ (defScope st).names, x.2 = .free → x.1 = "__class__") (hs1 : s1.length ≤ 1000) (hs2 : s2.length ≤ 1000) (hd1 : (fld == ("__debug__" : Str)) = false) (hd2 : (fld == ("__classdict__" : Str)) = false) {pl : Sem Bool}
    (hev : ∀ L : Addr, eval (.Call (.Attribute (.Call (.Name "super" p0) [] [] p1) "__init__" p2) [.JoinedStr [.Constant (.str s1) j1 p9, .FormattedValue (.Name fld p10) (-1) none p11, .Constant (.str s2) j2 p12] p3] [] p4) (ksEnv qual (defScope st) L fI (.ref cda) cc) = (do
      let ov ← attributeBase (.Call (.Name "super" p0) [] [] p1) "__init__" (ksEnv qual (defScope st) L fI (.ref cda) cc) (eval (.Call (.Name "super" p0) [] [] p1) (ksEnv qual (defScope st) L fI (.ref cda) cc))
      standAt p2.atName
      let (f', first) ← holding [ov] (getMethod ov "__init__" pl)
      callWith p4 f' first (backTo p4 (starEach [.JoinedStr [.Constant (.str s1) j1 p9, .FormattedValue (.Name fld p10) (-1) none p11, .Constant (.str s2) j2 p12] p3] (ksEnv qual (defScope st) L fI (.ref cda) cc))) []))
    (hsw : ∀ L : Addr, swapsWith (.Call (.Attribute (.Call (.Name "super" p0) [] [] p1) "__init__" p2) [.JoinedStr [.Constant (.str s1) j1 p9, .FormattedValue (.Name fld p10) (-1) none p11, .Constant (.str s2) j2 p12] p3] [] p4) none p5.line (ksEnv qual (defScope st) L fI (.ref cda) cc) = pure false)
    (hsw2 : ∀ L : Addr, swapsWith (.Name fld p8) (some (.Attribute (.Name "self" p6) fld p7)) p13.line (ksEnv qual (defScope st) L fI (.ref cda) cc) = pure false) :
    ExcI P w K mg base cn fld := by
  have hb := hbi fI _ rfl
  rw [hbd] at lk hb
  exact ⟨C, fI, _, 1, Nat.le_refl _, hm, ⟨⟨nm, q, N, bs, bm, sn, sub, ab, col, dd, k0, k1, k2, k3, k5, xo, xr⟩, sa, exC, tyC, kC⟩, xi, xt, init_ok ⟨⟨nm, q, N, bs, bm, sn, sub, ab, col, dd, k0, k1, k2, k3, k5, xo, xr⟩, sa, exC, tyC, kC⟩ lk hcd hcode hvs hfile hcell hsm htop hsup hsubV hsubC hopq hno hpar har hne hk hco hgen hcel hks hkc hself hfld (fun x h => hfree _ (PySem.mem_of_lookup h) rfl) hs1 hs2 hd1 hd2 hev hsw hsw2, hb⟩
/-- the j-th statement of a class's body -/
def inCls (st : Stmt) (j : Nat) : Stmt := match st with
  | .ClassDef (body := b) .. => b.getD j (.Pass ⟨0, 0, 0, 0⟩)
  | _ => .Pass ⟨0, 0, 0, 0⟩
end DL

set_option Elab.async false
set_option linter.all false
set_option maxRecDepth 100000
set_option maxHeartbeats 4000000
namespace DL
open PySem PySem.Spec L2 PySem.W
open PyProof.Rows hiding St

/-! ### try .. except C as n: .. -/
/-- what an except suite knows of what was caught: y -/
structure Cgt (mg : Str → Option Value) (i : Nat) (a : Addr) (cls : Value) (d : Option Addr) (y : Exn) (H : Hp) (σ : L2.St) : Prop where
  at' : σ[i]? = some (some (.ref a))
  ex : ExR mg y cls d H
theorem Cgt.grow {mg : Str → Option Value} {i : Nat} {a : Addr} {cls : Value} {d : Option Addr} {y : Exn} {H H' : Hp} {σ : L2.St} (c : Cgt mg i a cls d y H σ) (s : Same H H') : Cgt mg i a cls d y H' σ := by
  refine ⟨c.at', c.ex.1, ?_⟩
  have := c.ex.2
  cases h : y.fld with
  | none => trivial
  | some p =>
    rw [h] at this
    obtain ⟨dd, e1, e2⟩ := this
    exact ⟨dd, e1, s _ _ e2⟩
/-- an expression of such a suite -/
structure DEx (X : Cx) (i : Nat) (a : Addr) (cls : Value) (d : Option Addr) (S : List Nat) (e : Expr) (t : TE) (f : Exn → DSt → Res PyData) : Prop where
  pe : PE X e t
  ok : ∀ Fz σ H δ Q y, Cgt X.mg i a cls d y H σ → RdOn X.K S Fz H σ δ → Live Fz H → EOK X.K X.mg E0 Fz H (f y δ) Q → t σ H Q
structure DAx (X : Cx) (i : Nat) (a : Addr) (cls : Value) (d : Option Addr) (S : List Nat) (es : List Expr) (t : TA) (f : Exn → DSt → Res (List PyData)) : Prop where
  pe : PA X es t
  len : ∀ y δ ds, (f y δ).can ds → ds.length = es.length
  ok : ∀ Fz σ H δ Q y, Cgt X.mg i a cls d y H σ → RdOn X.K S Fz H σ δ → Live Fz H → AOK X.K X.mg E0 Fz H (f y δ) Q → t σ H Q
structure DSx (X : Cx) (i : Nat) (a : Addr) (cls : Value) (d : Option Addr) (st : List Stmt) (t : TS) (f : Exn → DSt → Res Out) : Prop where
  pe : PSs X st t
  ok : ∀ H0 Fz0 Fz H σ δ Dn y, Cgt X.mg i a cls d y H σ → Rel X.K H0 Fz0 Fz H σ δ → SOK X.K X.mg E0 H0 Fz0 (f y δ) Dn → t Dn σ H
/-- a class whose instances' field may be read -/
structure ExcF (K : Frag) (mg : Str → Option Value) (cn fld : Str) : Prop where
  ex : ∃ C : Addr, mg cn = some (.ref C) ∧ XfC K C ∧ findIn K (.ref C) fld = some none
section
variable {X : Cx} {i : Nat} {a : Addr} {oe : Obj} {cls : Value} {d : Option Addr} {pn : List (Addr × Obj)} {S T : List Nat} {e : Expr} {es : List Expr} {te : TE} {t : TA} {pos p : Pos}
theorem dx_of {f : DSt → Res PyData} (h : DE X (fun _ => E0) S e te f) : DEx X i a cls d S e te (fun _ => f) := ⟨h.pe, fun Fz σ H δ Q y _ hd hl hq => h.ok Fz σ H δ Q hd hl hq⟩
/-- e.fld of the class cn -/
def fldX (cn fld : Str) (y : Exn) (_ : DSt) : Res PyData := match y.fld with
  | some (x, k) => if y.cls = cn ∧ x = fld then .ok (.int k) else .bot
  | none => .bot
theorem dx_fld {n x : Str} {C : Addr} (hN : X.N[i]? = some x) (hv : Vis X.env.scope x) (hC : X.mg n = some (.ref C)) (T : XfC X.K C) {fld : Str} (hno : findIn X.K (.ref C) fld = some none) (hz : Zc cls d oe) (hf : ∃ vs, oe.data = .fields vs)
    (hd : (x == ("__debug__" : Str)) = false := by decide) (hcd : (x == ("__classdict__" : Str)) = false := by decide) (hb : attributeBase (.Name x p) fld X.env (eval (.Name x p) X.env) = eval (.Name x p) X.env := by rfl) :
    DEx (X.suite a ((a, oe) :: pn)) i a cls d [] (.Attribute (.Name x p) fld pos) (tXf a cls d C fld (tVar i)) (fldX n fld) := by
  refine ⟨pe_xf T hno hz hf (pe_var (X := X.suite a ((a, oe) :: pn)) hN hv hd hcd) hb, fun Fz σ H δ Q y c _ hl hq => ?_⟩
  unfold fldX at hq
  have c2 := c.ex.2
  cases hy : y.fld with
  | none => rw [hy] at hq; exact hq.elim
  | some pr =>
    obtain ⟨x', k⟩ := pr
    rw [hy] at hq c2
    obtain ⟨dd, e1, e2⟩ := c2
    by_cases hcn : y.cls = n ∧ x' = fld
    · have hq' : EOK X.K X.mg E0 Fz H (if y.cls = n ∧ x' = fld then .ok (.int k) else .bot) Q := hq
      rw [if_pos hcn] at hq'
      clear hq
      obtain ⟨h1, h2⟩ := hcn
      subst h2
      have hm : X.mg y.cls = some cls := c.ex.1
      rw [h1, hC] at hm
      refine ⟨.ref a, c.at', rfl, (Option.some.inj hm).symm, dd, _, .int k, e1, e2, by simp [List.lookup], ?_⟩
      exact hq' (.int k) H Fz .refl (.int k)
    · have hq : EOK _ _ _ Fz H (if y.cls = n ∧ x' = fld then .ok (.int k) else .bot) Q := hq
      rw [if_neg hcn] at hq
      exact hq.elim
theorem dax_nil : DAx X i a cls d [] [] tNil (fun _ _ => .ok []) := ⟨pa_nil, fun y δ ds e => by cases (show [] = ds from e); rfl, fun Fz σ H δ Q y _ _ hl h => h [] H Fz .refl .nil⟩
theorem dax_cons {f : Exn → DSt → Res PyData} {g : Exn → DSt → Res (List PyData)} (ha : DEx X i a cls d S e te f) (hr : DAx X i a cls d T es t g) (hs : starEach (e :: es) X.env = (false, eval e X.env) :: starEach es X.env := by rfl) :
    DAx X i a cls d (S ++ T) (e :: es) (tCons te t) (fun y δ => do let x ← f y δ; let xs ← g y δ; .ok (x :: xs)) := by
  refine ⟨pa_cons ha.pe hr.pe hs, fun y δ ds h => ?_, fun Fz σ H δ Q y c hd hl h => ?_⟩
  · obtain ⟨x, _, h⟩ := can_bind h
    obtain ⟨xs, hg, h⟩ := can_bind h
    cases (show x :: xs = ds from h)
    rw [List.length_cons, List.length_cons, hr.len y δ xs hg]
  unfold AOK at h
  rw [wp_bind] at h
  refine ha.ok Fz σ H δ _ y c hd.left hl (wp_mono h (fun x hx v H1 F1 g1 r1 => ?_) fun x hx => hx)
  rw [wp_bind] at hx
  refine hr.ok F1 σ H1 δ _ y (c.grow g1.same) (hd.right.grow g1) (g1.live hl) (wp_mono hx (fun xs hxs vs H2 F2 g2 r2 => ?_) fun x hx c oe H2 F2 g2 => hx c oe H2 F2 (g1.trans g2))
  exact hxs (v :: vs) H2 F2 (g1.trans g2) (.cons (r1.grow g2) r2)
theorem dx_tup {x1} {f : Exn → DSt → Res (List PyData)} (h : DAx X i a cls d S es t f) : DEx X i a cls d S (.Tuple es x1 pos) (tTupZ t) (fun y δ => do let xs ← f y δ; tupD xs) := by
  refine ⟨pe_tupZ h.pe, fun Fz σ H δ Q y c hd hl hq => ?_⟩
  unfold EOK at hq
  rw [wp_bind] at hq
  refine h.ok Fz σ H δ _ y c hd hl (wp_mono hq (fun ds hx vs H1 F1 g1 r1 => ?_) fun x hx => hx)
  unfold tupD at hx
  split at hx
  · rename_i hz
    exact ⟨by rw [r1.length]; exact hz, newT_rep hz r1 fun v H2 F2 g2 r2 => hx v H2 F2 (g1.trans g2) r2⟩
  · exact hx.elim
theorem dsx_ret {f : Exn → DSt → Res PyData} (he : DEx X i a cls d S e te f) : DSx X i a cls d [.Return (some e) pos] (tRet te) (fun y δ => do let v ← f y δ; .ok (.rt v)) := by
  refine ⟨pss_one (ps_ret he.pe), fun H0 Fz0 Fz H σ δ Dn y c r h => ?_⟩
  unfold SOK at h
  rw [wp_bind] at h
  exact he.ok _ σ H δ _ y c r.rd r.ownLive (wp_mono h (fun v hd v' H1 F1 g1 r1 => hd F1 H1 v' (r.grow0 g1) r1) fun x hx c oe H1 F1 g q => hx c oe H1 F1 (r.grow0 g) q)
end
/-- the caught one's slot is not read any more -/
def tryAK (i : Nat) : Out → Res Out
  | .rt d => .ok (.rt d)
  | .nx δ' => .ok (.nx (δ'.set i none))
  | _ => .bot
def tryA (sub : Str → Option Bool) (i : Nat) (f : DSt → Res Out) (h : Exn → DSt → Res Out) (δ : DSt) : Res Out := (f (frzAll δ)).tryc fun x => match sub x.cls with
    | some true => if i < δ.length then (nE (h x ((frzAll δ).set i none)) >>= tryAK i) else .bot
    | some false => .err x
    | none => .bot
theorem Rel.setX {K : Frag} {H0 H : Hp} {Fz0 Fz : FZ} {σ : L2.St} {δ : DSt} (r : Rel K H0 Fz0 Fz H σ δ) (i : Nat) (u : Option V) : Rel K H0 Fz0 Fz H (σ.set i u) (δ.set i none) := by
  have key : ∀ (j : Nat) s, (δ.set i none)[j]? = some (some s) → j ≠ i ∧ δ[j]? = some (some s) := fun j s e => by
    by_cases hj : j = i
    · subst hj
      by_cases hlt : j < δ.length
      · rw [List.getElem?_set_self hlt] at e; cases e
      · rw [List.getElem?_eq_none (by simpa using hlt)] at e; cases e
    · rw [List.getElem?_set_ne (Ne.symm hj)] at e
      exact ⟨hj, e⟩
  have sg : ∀ (j : Nat), j ≠ i → (σ.set i u)[j]? = σ[j]? := fun j hj => List.getElem?_set_ne (Ne.symm hj)
  refine ⟨r.same, r.sub0, r.new0, r.live, by simpa using r.len, fun j d e => ?_, fun j s e ho => ?_, fun j k s u' a b x hjk e1 o1 e2 o2 h1 h2 => ?_⟩
  · obtain ⟨hj, e⟩ := key j _ e
    rw [sg j hj]
    exact r.val j d e
  · obtain ⟨hj, e⟩ := key j _ e
    rw [sg j hj]
    exact r.ownF j s e ho
  · obtain ⟨hj, e1⟩ := key j _ e1
    obtain ⟨hk, e2⟩ := key k _ e2
    rw [sg j hj] at h1
    rw [sg k hk] at h2
    exact r.sepF j k s u' a b x hjk e1 o1 e2 o2 h1 h2
section
variable {X : Cx} {W : WS} {Wx : WX} {U : XK} {i : Nat} {pos pos' np : Pos} {x n : Str} {c : Value} {body suite : List Stmt} {b₀ : Stmt} {tb : WX → TS} {ts : Addr → Value → Option Addr → TS} {f : DSt → Res Out} {h : Exn → DSt → Res Out} {sub : Str → Option Bool}
theorem ds_tryA (hs : X.stack = X.env :: X.outer) (hf : X.env.frame = some X.env.locals) (hN : X.N.Nodup) (hi : X.N[i]? = some n) (hln : X.env.kindOf n = some .local) (hc : Names X x c) (tk : Takes X Wx) (hsub : ∀ n b, sub n = some b → ∀ v, X.mg n = some v → PySem.W.exmOne X.K v c = some b)
    (hb : ∀ (W : WX) (pn : List (Addr × Obj)) (xe : Value → Shared → Prop), Takes (X.tr pn xe) W → PassesOwn (model X.prog X.w) X.A X.env xe → DSs (X.tr pn xe) (WE W) body (tb W) f)
    (hsu : ∀ (a : Addr) (oe : Obj) (cls : Value) (d : Option Addr) (pn : List (Addr × Obj)), Zc cls d oe → (∃ vs, oe.data = .fields vs) → DSx (X.suite a ((a, oe) :: pn)) i a cls d (b₀ :: suite) (ts a cls d) h) :
    DS X (WE Wx) (.Try body [.ExceptHandler (some (.Name x np)) (some n) (b₀ :: suite) pos'] [] [] pos) (fun D σ H => tb (wAs X.K c i ts Wx D) D σ H) (tryA sub i f h) := by
  refine ⟨ps_try_as hs hf hN hi hln hc tk (fun W pn xe t1 t2 => (hb W pn xe t1 t2).pe) (fun a oe cls d pn z1 z2 => (hsu a oe cls d pn z1 z2).pe), fun H0 Fz0 Fz H σ δ Dn r q => ?_⟩
  have hbd : ∀ (W : WX), ∃ xe, DSs (X.tr [] xe) (WE W) body (tb W) f := fun W => by
    refine ⟨fun e s₁ => wpAny (model X.prog X.w) X.A (noteFrame e X.env) (fun _ s₂ => wpAny (model X.prog X.w) X.A (setFlight e none) (fun _ _ => True) (fun _ _ => True) s₂) (fun _ _ => True) s₁, hb W [] _ (fun u s' xx => ?_) PassesOwn.looking⟩
    obtain ⟨a, B, sI, pins', σ', H', cls, d, rfl, J', nb, up, sky, na, os, ag, w⟩ := xx
    have ok : X.Ok := J'.ok.ofTry
    have hfr : X.A.frames = some (X.env :: X.outer) := by rw [ok.frames, hs]
    have sky' : Sky B (X.env :: X.outer) a (Zc cls d) X.env.locals s'.heap := by rw [← hs]; exact sky
    show wpAny (model X.prog X.w) X.A (noteFrame (.ref a) X.env) _ _ _
    exact Sky.land (Q := fun _ _ => True) Zc.steady hfr hf sky' fun _ _ _ => True.intro
  obtain ⟨xe, hB⟩ := hbd (wAs X.K c i ts Wx Dn)
  have r1 : Rel X.K H0 Fz0 (withOwn Fz H σ δ (List.range δ.length)) H σ (frzAll δ) := r.frz ⟨fun _ _ e => e, fun _ h => h, fun _ h => .inl h, fun l => l⟩
  have r2 := r1.still (fun i s e => frzAll_val e) (Grow.refl (H := H))
  unfold tryA at q
  refine hB.ok _ _ _ H σ _ Dn r2 ?_
  unfold SOK at q ⊢
  refine wp_mono (tryc_wp q) (fun o q => ?_) (fun y q => ?_)
  · cases o with
    | nx δ' => exact fun F' H' σ' r' => q F' H' σ' (r1.under r')
    | rt d => exact fun F' H' v g rv => q F' H' v ⟨fun a o e => g.same a o (r1.same a o e), fun a h => g.sub a (r1.sub0 a h), fun a h => (g.new a h).elim (r1.new0 a) fun z => .inr (none_of_same r1.same z), fun _ => g.live r1.live⟩ rv
    | bk δ' => exact fun F' H' σ' r' => q F' H' σ' (r1.under r')
    | ct δ' => exact fun F' H' σ' r' => q F' H' σ' (r1.under r')
  · intro cls oe H' F' g ex
    have hm : X.mg y.cls = some cls := ex.1
    cases hb' : sub y.cls with
    | none => rw [hb'] at q; exact q.elim
    | some b =>
      rw [hb'] at q
      have he := hsub y.cls b hb' cls hm
      have r3 : Rel X.K H0 Fz0 F' H' σ (frzAll δ) := r1.under (r1.still (fun i s e => frzAll_val e) g)
      refine ⟨b, he, fun hbt a ha => ?_, fun hbf => ?_⟩
      · subst hbt
        have q : (if i < δ.length then (nE (h y ((frzAll δ).set i none)) >>= tryAK i) else .bot : Res Out).wp _ _ := q
        by_cases hlt : i < δ.length
        · rw [if_pos hlt] at q
          have hS := hsu a { cls := cls, dict := oe, data := .fields #[] } cls oe [] ⟨rfl, rfl⟩ ⟨_, rfl⟩
          have r4 := r3.setX i (some (.ref a))
          have hls : i < σ.length := by rw [r.len]; exact hlt
          refine hS.ok H0 Fz0 F' H' _ _ _ y ⟨by rw [List.getElem?_set_self hls], ex⟩ r4 ?_
          unfold SOK
          have q := (wp_bind _ _ _ _).mp q
          refine wp_mono (nE_wpA q) (fun o q => ?_) (fun _ h => h)
          cases o with
          | rt d => exact q
          | nx δ' => exact fun F2 H2 σ2 r5 => q F2 H2 _ (r5.setX i none)
          | bk δ' => exact q.elim
          | ct δ' => exact q.elim
        · rw [if_neg hlt] at q
          exact q.elim
      · subst hbf
        exact q cls oe H' F' ⟨r3.same, r3.sub0, r3.new0, fun _ => r3.live⟩ ex
end
end DL

set_option Elab.async false
set_option linter.all false
set_option maxRecDepth 100000
set_option maxHeartbeats 4000000
namespace DL
open PySem PySem.Spec L2 PySem.W
open PyProof.Rows hiding St

/-! ### defs that are quiet: they may be called where an exception is handled -/
structure RmQ (k : Nat) (A : Around) : Prop where
  dp : A.depth + 3 * k + 5 < recursionLimit
  un : A.units + 16 * k + 200 < cLine
theorem RmQ.mono {j k : Nat} {A : Around} (r : RmQ k A) (h : j ≤ k) : RmQ j A := by
  have h1 := r.dp
  have h2 := r.un
  exact ⟨by omega, by omega⟩
theorem rmq_of {k : Nat} {A : Around} (r : Room k A) : RmQ k A := ⟨r.dp, r.un⟩
abbrev offH (A : Around) : Around := { A with handled := none }
theorem RmQ.off {k : Nat} {A : Around} (r : RmQ k A) : Room k (offH A) := ⟨rfl, r.dp, r.un⟩
abbrev onQ (X : Cx) (A : Around) : Cx := { X with A := A, calm := false }
theorem inv_q {X : Cx} {A : Around} {pins : List (Addr × Obj)} {σ : L2.St} {H : Hp} {s : Shared} (I : Inv X pins σ H s) (hf : A.frames = X.A.frames) : Inv (onQ X A) pins σ H s := by
  have o := I.ok
  exact ⟨⟨o.mod, o.kind, o.glob, o.blt, o.above, o.inj, o.has, o.cab, (fun z => by cases (show false = true from z)), hf.trans o.frames, o.stk, o.exf, o.bs, o.bsz, o.noex, o.exfs, o.funs, o.frf⟩, I.os, I.bare, I.base, I.loc, I.cell, I.free, I.freeC, I.pin, I.hok, I.len⟩
theorem env_off {P : Program} {w : World} {K : Frag} {mg : Str → Option Value} {base : Heap} {A : Around} {outer : List Env} {s : Shared} {H : Hp} (e : Env0 P w K mg base A outer s H) : Env0 P w K mg base (offH A) outer s H := ⟨e.frames, e.mod, e.bs, e.bsz, e.funs, e.frf, e.hok, e.bare⟩
/-- what a quiet def promises -/
structure FnQ (P : Program) (w : World) (K : Frag) (mg : Str → Option Value) (base : Heap) (k : Nat) (f : Addr) (fd : FuncData) (ps : List Str) (sp : Sp) : Prop where
  len : ∀ vs H Q E, sp vs H Q E → vs.length = ps.length
  run : ∀ (A : Around) (outer : List Env) (s : Shared) (H : Hp) (args : Args) (us : List Value) (vs : List V) (Q : VK), RmQ k A → Env0 P w K mg base A outer s H → BindsTo s fd args (ps.zip us) → Vals vs us → sp vs H Q L2.E0 →
    codeAny (model P w) A (.call (.ref f) args) (CR CX0 outer P w H s Q L2.E0) s
/-- the context of its body -/
abbrev cxQ (P : Program) (w : World) (K : Frag) (mg : Str → Option Value) (base : Heap) (N : List Str) (x : Str) (scope : Scope) (f : Addr) (cd : Value) (A : Around) (outer : List Env) (s : Shared) (H : Hp) : Cx :=
  (onQ (cxOf CX0 P w K mg base N x scope f cd (offH A) outer s H L2.E0) (A.deeper (envOfC x scope s.heap.objs.size f cd))).nox
theorem fnq_of {P : Program} {w : World} {K : Frag} {mg : Str → Option Value} {base : Heap} {x : Str} {st : Stmt} {f : Addr} {fd : FuncData} {N ps : List Str} {k : Nat} {sp : Sp} (F : Fun K x x st f fd) (S : FnScope N ps (defScope st)) (len : ∀ vs H Q E, sp vs H Q E → vs.length = ps.length)
    (hbody : ∀ (cdv : Value) (A : Around) (outer : List Env) (s : Shared) (H : Hp) (vs : List V) (Q : VK), RmQ k (A.deeper (envOfC x (defScope st) s.heap.objs.size f cdv)) → sp vs H Q L2.E0 →
      ∃ t, PSs (cxQ P w K mg base N x (defScope st) f cdv A outer s H) (defBody st) t ∧ t { nx := fun _ H' => Q .non H', rt := Q } (L2.start N vs) H) : FnQ P w K mg base (k + 1) f fd ps sp := by
  obtain ⟨oc, od, kV, doc, pm, an, cdv, ct, osl, rfl, lk, hcd⟩ := F.ex
  refine ⟨len, fun A outer s H args us vs Q hr e0 hb rv hsp => ?_⟩
  have hvl := len _ _ _ _ hsp
  have KH : K.In s.heap := e0.mod.kin.keeps fun b o z => (e0.bs b o z).1
  have noL : s.heap.NoLimit := e0.mod.nolimit.keeps fun b o z => (e0.bs b o z).1
  have kinds : ∀ y ∈ ps.zip us, (defScope st).names.lookup y.1 = some .local ∨ ((defScope st).names.lookup y.1 = some .cell ∧ ((cellsFrom (s.heap.objs.size + 1) (defScope st).names []).lookup y.1).isSome = true) := by
    rintro ⟨n, v⟩ hy
    exact (S.par n (List.of_mem_zip hy).1).imp (fun q => q) fun q => ⟨q, cellsFrom_some _ _ _ (.inl q)⟩
  have dpt : A.depth < recursionLimit := by have := hr.dp; omega
  have hr2 : RmQ k (A.deeper (envOfC x (defScope st) s.heap.objs.size f cdv)) := by
    have h1 := hr.dp
    have h2 := hr.un
    exact ⟨by show A.depth + 1 + 3 * k + 5 < _; omega, by show A.units + 3 + 16 * k + 200 < _; omega⟩
  refine codeAny_call_function dpt (KH _ _ lk) rfl S.co S.gen rfl (codeRec_of KH hcd) (hb _ _ _ _ ?_)
  refine wpAny_newFunctionEnv_cells S.kind kinds fun env he s1 xc => ?_
  subst he
  refine ⟨noL.keeps xc.toInCall.keep, codeAny_func ?_⟩
  obtain ⟨t, ht, hq⟩ := hbody cdv A outer s H vs Q hr2 hsp
  have I0 : Inv (cxOf CX0 P w K mg base N x (defScope st) f cdv (offH A) outer s H L2.E0) [] (L2.start N vs) H s1 := inv_start S rfl (env_off e0) hvl rv xc
  have I1 := inv_q (A := A.deeper (envOfC x (defScope st) s.heap.objs.size f cdv)) I0 rfl
  refine wpAny_mono (ht.run [] s1 (L2.start N vs) H _ (I1.wish _) hq) (fun fl s' hs => ?_) fun e s' hs => False.elim hs
  have done : ∀ {σ' : L2.St} {H' : Hp} {v : V} {u : Value}, Inv (cxQ P w K mg base N x (defScope st) f cdv A outer s H) [] σ' H' s' → RelV v u → Q v H' → CE outer P w H s Q u s' := by
    intro σ' H' v u J r q
    exact ⟨v, H', J.os, J.bare, J.base, J.hok, r, q⟩
  cases fl with
  | next =>
    obtain ⟨σ', H', J, q⟩ := hs
    exact done (v := V.non) (u := Value.none) J rfl q
  | ret u =>
    obtain ⟨v, σ', H', J, r, q⟩ := hs
    exact done J r q
  | cont =>
    obtain ⟨_, _, _, q⟩ := hs
    exact q.elim
  | brk =>
    obtain ⟨_, _, _, q⟩ := hs
    exact q.elim
section
variable {X : Cx} {k : Nat} {f : Addr} {fd : FuncData} {ps : List Str} {sp : Sp} {x : Str} {p pos : Pos} {e : Expr} {es : List Expr} {t : TA}
theorem pe_callQ (F : FnQ X.prog X.w X.K X.mg X.base k f fd ps sp) (hr : RmQ k X.A) (hg : Gl X x) (hm : X.mg x = some (.ref f)) (hk : keepIn X.K (.ref f) = true) (hb : Binds X.K fd ps [])
    (ha : PA X (e :: es) t) (hdb : (x == ("__debug__" : Str)) = false := by decide) (he : starEach (e :: es) X.env = (false, eval e X.env) :: starEach es X.env := by rfl) (hpl : (backTo pos (starEach es X.env)).any (·.1) = false := by rfl) :
    PE X (.Call (.Name x p) (e :: es) [] pos) (tCall sp [] L2.E0 t) := by
  refine ⟨fun pins s σ H Q I h => ?_⟩
  refine wpAny_Call_Name_kw (ld_glob I hg hm ?_ hdb)
  refine callWith_K (h₀ := X.base) I.ok.mod.kin hk (thn (ha.run pos pins s σ H _ I h) fun us s1 hu => ?_) he hpl
  obtain ⟨vs, H1, I1, r, q⟩ := hu
  refine ⟨I1.kIn, ?_⟩
  rw [List.append_nil] at q
  have hl : (us ++ []).length = ps.length := by
    rw [List.append_nil, ← r.length]
    exact F.len _ _ _ _ q
  have b := hb s1 us I1.kIn hl
  rw [List.append_nil] at b
  refine wpAny_call (codeAny_mono (F.run X.A X.stack s1 H1 ⟨us, []⟩ us vs Q hr I1.env0 b r q) fun z s' hz => ?_)
  cases z with
  | error y => exact pass0 pins σ H1 s1 y s' I1 hz
  | ok fl =>
    cases fl with
    | ret u => exact I1.after hz
    | next => exact hz.elim
    | brk => exact hz.elim
    | cont => exact hz.elim
end
structure FDQ (P : Program) (w : World) (K : Frag) (mg : Str → Option Value) (base : Heap) (k n : Nat) (x : Str) (g : List PyData → Res PyData) : Prop where
  ex : ∃ (f : Addr) (fd : FuncData) (ps : List Str), FnQ P w K mg base k f fd ps (spD K mg n g) ∧ mg x = some (.ref f) ∧ keepIn K (.ref f) = true ∧ Binds K fd ps []
theorem fdq_of {P : Program} {w : World} {K : Frag} {mg : Str → Option Value} {base : Heap} {x : Str} {st : Stmt} {f : Addr} {fd : FuncData} {N ps : List Str} {k : Nat} (F : Fun K x x st f fd) (hm : mg x = some (.ref f)) (b : Binds K fd ps []) (S : FnScope N ps (defScope st)) {g : DSt → Res Out}
    (hbody : ∀ (cdv : Value) (A : Around) (outer : List Env) (s : Shared) (H : Hp), RmQ k (A.deeper (envOfC x (defScope st) s.heap.objs.size f cdv)) → ∃ t, DSs (cxQ P w K mg base N x (defScope st) f cdv A outer s H) (fun _ => E0) (defBody st) t g) : FDQ P w K mg base (k + 1) ps.length x (fnD N.length g) := by
  refine ⟨f, fd, ps, ?_, hm, F.kp, b⟩
  refine fnq_of F S (fun vs H Q E h => spD_len h) (fun cdv A outer s H vs Q hr h => ?_)
  obtain ⟨t, ht⟩ := hbody cdv A outer s H hr
  refine ⟨t, ht.pe, ?_⟩
  obtain ⟨ds, Fz, hl, live, ra, q⟩ := h
  refine ht.ok H Fz Fz H (L2.start N vs) (startD N.length ds) _ (start_relX live ra) ?_
  unfold fnD EOK at q
  rw [wp_bind] at q
  unfold SOK
  refine wp_mono (nE_wpA q) (fun o q => ?_) (fun _ h => h)
  cases o with
  | rt d => exact fun F' H' v g r => q v H' F' g r
  | nx δ' => exact fun F' H' σ' r => q .non H' F' ⟨r.same, r.sub0, r.new0, fun _ => r.live⟩ .non
  | ct δ' => exact q.elim
  | bk δ' => exact q.elim
section
variable {X : Cx} {W : WS} {i : Nat} {a : Addr} {cls : Value} {d : Option Addr} {S T : List Nat} {e b : Expr} {es rest : List Expr} {ta tb : TE} {t : TA} {pos p : Pos}
theorem de_callQ (K) (mg) {k j n : Nat} {x : Str} {g : List PyData → Res PyData} {f : DSt → Res (List PyData)} (c : FDQ X.prog X.w K mg X.base k n x g) (hr : RmQ j X.A) (hk : k ≤ j) (hg : Gl X x) (hn : (e :: es).length = n) (ha : DA X W S (e :: es) t f) (hK : X.K = K := by rfl) (hM : X.mg = mg := by rfl)
    (hdb : (x == ("__debug__" : Str)) = false := by decide) (he : starEach (e :: es) X.env = (false, eval e X.env) :: starEach es X.env := by rfl) (hpl : (backTo pos (starEach es X.env)).any (·.1) = false := by rfl) :
    DE X W S (.Call (.Name x p) (e :: es) [] pos) (tCall (spD K mg n g) [] L2.E0 t) (callF g f) := by
  subst hK hM
  obtain ⟨fa, fd, ps, F, hm, kp, hb⟩ := c.ex
  refine ⟨pe_callQ F (hr.mono hk) hg hm kp hb ha.pe hdb he hpl, fun Fz σ H δ Q hd hl hq => ?_⟩
  unfold EOK at hq
  rw [wp_bind] at hq
  refine ha.ok Fz σ H δ _ hd hl (wp_mono (wp_and_can hq) (fun ds ⟨hq, hcan⟩ vs H1 F1 g1 r1 => ?_) fun x hx => hx)
  refine ⟨ds, F1, (ha.len δ ds hcan).trans hn, g1.live hl, by rw [List.append_nil]; exact r1, ?_⟩
  exact wp_mono (nE_wpA hq) (fun d hq2 v H2 F2 g2 r2 => hq2 v H2 F2 (g1.trans g2) r2) fun _ h => h
/-- the call of a quiet def with what is known of the caught one -/
theorem dx_callQ (K) (mg) {k j n : Nat} {x : Str} {g : List PyData → Res PyData} {f : Exn → DSt → Res (List PyData)} (c : FDQ X.prog X.w K mg X.base k n x g) (hr : RmQ j X.A) (hk : k ≤ j) (hg : Gl X x) (hn : (e :: es).length = n) (ha : DAx X i a cls d S (e :: es) t f) (hK : X.K = K := by rfl) (hM : X.mg = mg := by rfl)
    (hdb : (x == ("__debug__" : Str)) = false := by decide) (he : starEach (e :: es) X.env = (false, eval e X.env) :: starEach es X.env := by rfl) (hpl : (backTo pos (starEach es X.env)).any (·.1) = false := by rfl) :
    DEx X i a cls d S (.Call (.Name x p) (e :: es) [] pos) (tCall (spD K mg n g) [] L2.E0 t) (fun y => callF g (f y)) := by
  subst hK hM
  obtain ⟨fa, fd, ps, F, hm, kp, hb⟩ := c.ex
  refine ⟨pe_callQ F (hr.mono hk) hg hm kp hb ha.pe hdb he hpl, fun Fz σ H δ Q y cg hd hl hq => ?_⟩
  unfold EOK at hq
  rw [wp_bind] at hq
  refine ha.ok Fz σ H δ _ y cg hd hl (wp_mono (wp_and_can hq) (fun ds ⟨hq, hcan⟩ vs H1 F1 g1 r1 => ?_) fun x hx => hx)
  refine ⟨ds, F1, (ha.len y δ ds hcan).trans hn, g1.live hl, by rw [List.append_nil]; exact r1, ?_⟩
  exact wp_mono (nE_wpA hq) (fun d hq2 v H2 F2 g2 r2 => hq2 v H2 F2 (g1.trans g2) r2) fun _ h => h
theorem dx_one {op} {f : Exn → DSt → Res PyData} (h : DEx X i a cls d S e ta f) : DEx X i a cls d S (.BoolOp op [e] pos) ta f := ⟨pe_one h.pe, h.ok⟩
theorem dx_and {f g : Exn → DSt → Res PyData} (ha : DEx X i a cls d S e ta f) (hb : DEx X i a cls d T (.BoolOp .And (b :: rest) pos) tb g) : DEx X i a cls d (S ++ T) (.BoolOp .And (e :: b :: rest) pos) (tAndV ta tb) (fun y δ => do let x ← f y δ; andV x (g y δ)) := by
  refine ⟨pe_and ha.pe hb.pe, fun Fz σ H δ Q y cg hd hl hq => ?_⟩
  refine ha.ok Fz σ H δ _ y cg hd.left hl (wp_mono hq.bind (fun v hb' u H1 F1 g1 r1 => ?_) fun x hx => hx)
  obtain ⟨F2, d2, g2, r2, q2⟩ := hb' u H1 F1 g1 r1
  cases d2 with
  | bool k =>
    cases r2
    refine ⟨k, rfl, ?_⟩
    cases k with
    | true => exact hb.ok F2 σ H1 δ _ y (cg.grow g2.same) (hd.right.grow g2) (g2.live hl) q2
    | false => exact q2.at (.bl _)
  | _ => exact q2.elim
end
theorem hu64q {A : Around} {k : Nat} (hr : RmQ k A) : A.units + 64 < cLine := by have := hr.un; omega
theorem rmq_suite {X : Cx} {k : Nat} {a : Addr} {pn : List (Addr × Obj)} (hr : Room k X.A) : RmQ k (X.suite a pn).A := ⟨hr.dp, hr.un⟩
end DL

set_option Elab.async false
set_option linter.all false
set_option maxRecDepth 100000
set_option maxHeartbeats 4000000
namespace DL
open PySem PySem.Spec L2 L2.DX
open PyProof.Rows hiding St

/-! ### d.pop(k) of a key that is a tuple -/
def rPop1 : V → List V → Hp → VK → Prop := fun x xs H Q => ∃ (a : Addr) (kvs : List (List L2.Key × V)) (k : List L2.Key) (b : Addr) (v : V), x = .ref a ∧ xs = [.ref b] ∧ H a = some (.dT kvs) ∧ H b = some (.tup (k.map kV)) ∧ valV kvs k = some v ∧ Q v (upd H a (.dT (dropK kvs k)))
theorem mt_pop1 {X : Cx} (hu : X.A.units + 1 < cLine) : MtR X "dict.pop" rPop1 := by
  intro pins s σ H x xs vx us Q I rx rxs hyp
  obtain ⟨a, kvs, k, b, v, rfl, rfl, ha, hb, hv, q⟩ := hyp
  cases rx
  have hus : us = [Value.ref b] := by
    cases rxs with
    | cons r1 r2 =>
      cases r1
      cases r2
      rfl
  subst hus
  obtain ⟨small, other, es', pair, isT⟩ := dt_of I.hok ha
  have hsz : es'.length ≤ sizeLine := by rw [← Paired.length pair]; exact small
  obtain ⟨p, hp, rv⟩ : ∃ p, atKey es' k = some p ∧ RelV v p.2 := by
    have r := pair.val k
    rw [hv] at r
    cases hp : atKey es' k with
    | none => rw [hp] at r; exact (show False from r).elim
    | some p => rw [hp] at r; exact ⟨p, rfl, r⟩
  refine call_pop_heap (knd := tupleKind (mixKind X.prog X.w)) (k := k) (more := []) (.inl rfl) (PySem.F.args_dict_pop_2 _ _) (tupleKind_room_in1 hu) (key_of I.hok hb) other isT hp (fun h' isT2 same => ?_) hsz
  obtain ⟨o, es, ep, hq, h2, h3, h4, _, h5⟩ := isT2
  have J : L2.Inv X pins σ (upd H a (.dT (dropK kvs k))) { s with heap := h', toks := s.toks + (tupleKind (mixKind X.prog X.w)).draws k } := by
    refine d_write I (by rw [ha]; exact True.intro) same ⟨o, hq⟩ ⟨Nat.le_trans (dropK_le kvs k) small, other, _, (KT_drop k pair).keeps (fun c ys ec => ?_), o, es, ep, hq, h2, h3, h4, h5⟩
    rw [upd_ne (ne_of ec ha (fun z => nomatch z))]
    exact ec
  exact ⟨v, _, J, rv, q⟩
end DL

set_option Elab.async false
set_option linter.all false
set_option maxRecDepth 100000
set_option maxHeartbeats 4000000
namespace DL
open PySem PySem.Spec L2
open PyProof.Rows hiding St

/-! ### a def that changes its caller's dict -/
section
variable {X : Cx} {W : WS} {U : XK} {S T M : List Nat} {e : Expr} {pos : Pos}
theorem dmu_put {i : Nat} {x : Str} {key value : Expr} {xpos pos' : Pos} {tk tv : TE} {fk fv : DSt → Res PyData} (hu : X.A.units + 65 < cLine) (hN : X.N[i]? = some x) (hv : Vis X.env.scope x) (he : DE X W S value tv fv) (hk : DE X W T key tk fk) (hs : swapsWith value (some (.Subscript (.Name x xpos) key pos')) pos.line X.env = pure false := by rfl) (hd : (x == ("__debug__" : Str)) = false := by decide) (hcd : (x == ("__classdict__" : Str)) = false := by decide) :
    DMu X W M (.Assign [.Subscript (.Name x xpos) key pos'] value pos) (sDPut (tVar i) tk tv) (upM (putF i S fv fk)) := by
  refine ⟨ps_dput (by omega) (pe_var (i := i) hN hv hd hcd) hk.pe he.pe hs, fun pin hM H0 Fz0 Fz H σ δ Dn r hp h => ?_⟩
  unfold SKm upM putF at h
  rw [wp_bind] at h
  split at h
  · rename_i t0 ks0 vs0 e1
    obtain ⟨a, e2, _⟩ := r.own i _ e1 rfl
    rw [wp_bind] at h
    refine atE he r (wp_mono h (fun v hv v' H1 F1 g1 r1 => ?_) fun x hx => hx)
    have fin : ∀ (F : FZ) (δ' : DSt), Rel X.K H0 Fz0 F H1 σ δ' → Rep X.K F H1 v' v → (do
        let k ← fk δ'
        match δ'[i]? with
        | some (some (.ownd t ks vs)) => if keyOk t k && decide (ks.length < sizeLine) then (.ok (.nx (δ'.set i (some (.ownd t (putKs ks k) (putVs ks vs k v))))) : Res Out) else .bot
        | _ => .bot).wp (fun o => (match o with | .nx δ' => (.ok (.nx δ') : Res OutM) | _ => .bot).wp (OKm X.K H0 Fz0 pin Dn) (XOK X.mg (W σ) H0 Fz0)) (XOK X.mg (W σ) H0 Fz0) → (tVar i) σ H1 fun x H2 => tk σ H2 fun y H3 => ∃ a H4, x = .ref a ∧ DPut H3 a y v' H4 ∧ Dn.nx σ H4 := fun F δ' r' rv q => by
      refine ⟨.ref a, e2, ?_⟩
      rw [wp_bind] at q
      refine atE hk r' (wp_mono q (fun k hk' u H2 F2 g2 r2 => ?_) fun x hx => hx)
      split at hk'
      · rename_i t ks vs e3
        split at hk'
        · rename_i hok
          rw [Bool.and_eq_true, decide_eq_true_eq] at hok
          have r3 := r'.up g2.same
          have ru : Rep X.K F H2 u k := r2.flat (keyOk_flat hok.1)
          have rv2 : Rep X.K F H2 v' v := rv.stay (.of_same g2.same) fun _ h => h
          obtain ⟨a', k2, k4, k5, ob⟩ := r3.own i _ e3 rfl
          rw [e2] at k2
          cases k2
          cases t with
          | false =>
            obtain ⟨kvs, hh, rfl, rr⟩ := ob
            obtain ⟨k', rfl, rfl⟩ := key_f ru hok.1
            rw [List.length_map] at hok
            refine ⟨a, _, rfl, DPut.k hh hok.2, ?_⟩
            obtain ⟨p1, p2⟩ := put_val keq_ky k' rv2 rr
            exact hk' F _ σ (r3.write e3 rfl e2 fun H' st z => ⟨_, z, p1, p2.stay st fun _ h => h⟩) hp
          | true =>
            obtain ⟨kvs, hh, rfl, rr⟩ := ob
            obtain ⟨k', b, rfl, rfl, hb⟩ := key_t ru hok.1
            rw [List.length_map] at hok
            refine ⟨a, _, rfl, DPut.t hh hb hok.2, ?_⟩
            obtain ⟨p1, p2⟩ := put_val keq_kyT k' rv2 rr
            exact hk' F _ σ (r3.write e3 rfl e2 fun H' st z => ⟨_, z, p1, p2.stay st fun _ h => h⟩) hp
        · exact hk'.elim
      · exact hk'.elim
    by_cases hf : flat v = true
    · simp only [hf, if_true] at hv
      exact fin Fz δ (r.up g1.same) (r1.flat hf) hv
    · simp only [hf, if_false] at hv
      exact fin F1 _ (r.frz g1) r1 hv
  · exact h.elim
end
/-! ### d.pop(k) as a statement -/
def dropKs (ks : List PyData) (x : PyData) : List PyData := ks.filter fun z => !keq z x
def dropVs : List PyData → List PyData → PyData → List PyData
  | k :: ks, v :: vs, x => if keq k x = true then dropVs ks vs x else v :: dropVs ks vs x
  | _, _, _ => []
theorem drop_val {K : PySem.W.Frag} {Fz : FZ} {H : Hp} (k : List L2.Key) : ∀ {kvs : List (List L2.Key × V)} {vs : List PyData}, RepAll K Fz H (kvs.map (·.2)) vs →
    dropKs (kvs.map fun p => kyT p.1) (kyT k) = (dropK kvs k).map (fun p => kyT p.1) ∧ RepAll K Fz H ((dropK kvs k).map (·.2)) (dropVs (kvs.map fun p => kyT p.1) vs (kyT k))
  | [], _, .nil => ⟨rfl, .nil⟩
  | p :: kvs, _, .cons (d := d) (ds := ds) r rr => by
    obtain ⟨h1, h2⟩ := drop_val k rr
    have e := keq_kyT p.1 k
    by_cases hp : p.1 = k
    · rw [decide_eq_true hp] at e
      have z : dropK (p :: kvs) k = dropK kvs k := List.filter_cons_of_neg (by simp [hp])
      rw [z]
      constructor
      · show List.filter _ (kyT p.1 :: kvs.map fun p => kyT p.1) = _
        rw [List.filter_cons_of_neg (by rw [e]; decide)]
        exact h1
      · show RepAll K Fz H _ (if keq (kyT p.1) (kyT k) = true then dropVs (kvs.map fun p => kyT p.1) ds (kyT k) else d :: dropVs (kvs.map fun p => kyT p.1) ds (kyT k))
        rw [if_pos e]
        exact h2
    · rw [decide_eq_false hp] at e
      have z : dropK (p :: kvs) k = p :: dropK kvs k := List.filter_cons_of_pos (by simp [hp])
      rw [z]
      constructor
      · show List.filter _ (kyT p.1 :: kvs.map fun p => kyT p.1) = _
        rw [List.filter_cons_of_pos (by rw [e]; decide), List.map_cons]
        congr 1
      · show RepAll K Fz H _ (if keq (kyT p.1) (kyT k) = true then dropVs (kvs.map fun p => kyT p.1) ds (kyT k) else d :: dropVs (kvs.map fun p => kyT p.1) ds (kyT k))
        rw [if_neg (by rw [e]; decide)]
        exact .cons r h2
def popTF (i : Nat) (fk : DSt → Res PyData) (δ : DSt) : Res Out := match δ[i]? with
  | some (some (.ownd true _ _)) => fk δ >>= fun k => match δ[i]? with
    | some (some (.ownd true ks vs)) => if keyOk true k && hasK ks k then .ok (.nx (δ.set i (some (.ownd true (dropKs ks k) (dropVs ks vs k))))) else .bot
    | _ => .bot
  | _ => .bot
section
variable {X : Cx} {W : WS} {U : XK} {S T M : List Nat} {e : Expr} {te : TE} {pos : Pos}
theorem dmu_popT {i : Nat} {x : Str} {fk : DSt → Res PyData} {apos cpos xpos : Pos} (hu : X.A.units + 65 < cLine) (hN : X.N[i]? = some x) (hv : Vis X.env.scope x) (he : DE X W S e te fk)
    (hbase : attributeBase (.Name x xpos) "pop" X.env (eval (.Name x xpos) X.env) = eval (.Name x xpos) X.env := by rfl)
    (hfew : ((backTo cpos (starEach [e] X.env)).all (fun x => !x.1) && (backToKw cpos (keywordEach [] X.env)).all (fun x => x.1.isSome)
      && decide ([e].length + ([] : List Keyword).length + (if ([] : List Keyword).isEmpty then 0 else 1) < 30)) = true := by rfl)
    (hline : (apos.endLine == cpos.line) = true := by rfl) (hs : starEach [e] X.env = (false, eval e X.env) :: starEach [] X.env := by rfl) (hplain : (backTo cpos (starEach [] X.env)).any (·.1) = false := by rfl)
    (hsw : swapsWith (.Call (.Attribute (.Name x xpos) "pop" apos) [e] [] cpos) none pos.line X.env = pure false := by rfl) (hd : (x == ("__debug__" : Str)) = false := by decide) (hcd : (x == ("__classdict__" : Str)) = false := by decide) :
    DMu X W M (.Expr (.Call (.Attribute (.Name x xpos) "pop" apos) [e] [] cpos) pos) (tDrop (tBM X.K "dict" rPop1 (tVar i) (tCons te tNil))) (upM (popTF i fk)) := by
  refine ⟨ps_expr (pe_bm PySem.F.plainAttrs_dict PySem.F.slot_dict_pop PySem.F.type_dict_pop (mt_pop1 (by omega)) (pe_var (i := i) hN hv hd hcd) (pa_cons he.pe pa_nil hs) hbase hfew hline hs hplain) hsw, fun pin hM H0 Fz0 Fz H σ δ Dn r hp h => ?_⟩
  unfold SKm upM popTF at h
  rw [wp_bind] at h
  split at h
  · rename_i ks0 vs0 e1
    obtain ⟨a, e2, e4, e5, kvs, hh, rfl, rr⟩ := r.own i _ e1 rfl
    rw [wp_bind] at h
    refine ⟨.ref a, e2, .inr (.inr (.inl ⟨rfl, .inr ⟨_, hh⟩⟩)), ?_⟩
    refine atE he r (wp_mono h (fun k hk u H2 F2 g2 r2 => ?_) fun x hx => hx)
    have hk : (if keyOk true k && hasK (kvs.map fun p => kyT p.1) k then (.ok (.nx (δ.set i (some (.ownd true (dropKs (kvs.map fun p => kyT p.1) k) (dropVs (kvs.map fun p => kyT p.1) vs0 k))))) : Res Out) else .bot).wp _ _ := hk
    split at hk
    · rename_i hok
      rw [Bool.and_eq_true] at hok
      have r3 := r.up g2.same
      obtain ⟨k', b, rfl, rfl, hb⟩ := key_t r2 hok.1
      obtain ⟨a', k2, k4, k5, kvs', hh', ek, rr'⟩ := r3.own i _ e1 rfl
      rw [e2] at k2
      cases k2
      have hh2 : H2 a = some (.dT kvs) := g2.same a _ hh
      rw [hh2] at hh'
      cases hh'
      have hsome := has_val keq_kyT k' kvs
      rw [hok.2] at hsome
      obtain ⟨v, hval⟩ := Option.isSome_iff_exists.mp hsome.symm
      obtain ⟨p1, p2⟩ := drop_val k' rr'
      refine ⟨a, kvs, k', b, v, rfl, rfl, hh2, hb, hval, ?_⟩
      exact hk Fz _ σ (r3.write e1 rfl e2 fun H' st z => ⟨_, z, p1, p2.stay st fun _ h => h⟩) hp
    · exact hk.elim
  · exact h.elim
end
end DL

set_option Elab.async false
set_option linter.all false
set_option maxRecDepth 100000
set_option maxHeartbeats 4000000
namespace DL
open PySem PySem.Spec L2
open PyProof.Rows hiding St

/-! ### f(d, x): a def that changes the one thing d of its caller -/
/-- a list or a dict -/
def SV.isOne : SV → Bool
  | .own _ => true
  | .ownd _ _ _ => true
  | _ => false
theorem one_o {s : SV} (h : s.isOne = true) : s.isOwn = true := by cases s <;> first | rfl | cases h
theorem one_i {s : SV} (h : s.isOne = true) : s.isIns = false := by cases s <;> first | rfl | cases h
def spT (K : PySem.W.Frag) (g : SV → PyData → Res SV) : Sp := fun vs H Q E =>
  ∃ (a : Addr) (v : V) (s : SV) (d : PyData) (Fz : FZ), vs = [.ref a, v] ∧ Live Fz H ∧ s.isOne = true ∧ OwnOb K Fz H a s ∧ ¬ Fz a ∧ Rep K Fz H v d ∧ (g s d).wp (fun s' => s'.isOne = true ∧ ∀ H' Fz', EndM Fz H [a] Fz' H' → OwnOb K Fz' H' a s' → ¬ Fz' a → Q .non H') (fun _ => False)
def startT (n : Nat) (s : SV) (d : PyData) : DSt := some s :: some (.val d) :: List.replicate (n - 2) none
def fnT (n : Nat) (b : DSt → Res OutM) (s : SV) (d : PyData) : Res SV := nE (b (startT n s d)) >>= fun o => match o with
  | .nx δ => (match δ[0]? with
    | some (some s') => if s'.isOne = true then .ok s' else .bot
    | _ => .bot)
  | .rt _ _ => .bot
structure FDt (P : Program) (w : World) (K : PySem.W.Frag) (mg : Str → Option Value) (base : Heap) (k : Nat) (x : Str) (g : SV → PyData → Res SV) : Prop where
  ex : ∃ (f : Addr) (fd : FuncData) (ps : List Str), FnOk P w K mg base CX0 k f fd ps (spT K g) ∧ mg x = some (.ref f) ∧ PySem.W.keepIn K (.ref f) = true ∧ Binds K fd ps []
theorem startT_get {n : Nat} {s : SV} {d : PyData} {i : Nat} {u : SV} (h : (startT n s d)[i]? = some (some u)) : (i = 0 ∧ u = s) ∨ (i = 1 ∧ u = .val d) := by
  match i, h with
  | 0, h => exact .inl ⟨rfl, (Option.some.inj (Option.some.inj h)).symm⟩
  | 1, h => exact .inr ⟨rfl, (Option.some.inj (Option.some.inj h)).symm⟩
  | i + 2, h =>
    have h : (List.replicate (n - 2) none)[i]? = some (some u) := h
    obtain ⟨_, h⟩ := List.getElem?_eq_some_iff.mp h
    rw [List.getElem_replicate] at h
    cases h
theorem entryT {K : PySem.W.Frag} {Fz : FZ} {H : Hp} {a : Addr} {v : V} {s : SV} {d : PyData} (N : List Str) (hN : 2 ≤ N.length) (live : Live Fz H) (hs : s.isOne = true) (ob : OwnOb K Fz H a s) (nf : ¬ Fz a) (rv : Rep K Fz H v d) : Rel K (outsideH [a] H) Fz Fz H (L2.start N [.ref a, v]) (startT N.length s d) := by
  have g0 : (L2.start N [.ref a, v])[0]? = some (some (.ref a)) := rfl
  have g1 : (L2.start N [.ref a, v])[1]? = some (some v) := rfl
  refine Rel.mkOne (fun b o e => ?_) (fun _ h => h) (fun _ h => .inl h) live ?_ (fun i d' e => ?_) (fun i u e ho => ?_) (fun i j u u' b hij e1 o1 e2 o2 h1 h2 => ?_) (fun i u e => by
    rcases startT_get e with ⟨_, h⟩ | ⟨_, h⟩
    · rw [h]; exact (one_i hs)
    · rw [h]; rfl)
  · by_cases hb : b ∈ [a]
    · rw [outside_in hb] at e; cases e
    · rwa [outside_out hb] at e
  · unfold L2.start startT
    simp only [List.length_append, List.length_map, List.length_cons, List.length_nil, List.length_replicate]
    omega
  · rcases startT_get e with ⟨_, h⟩ | ⟨rfl, h⟩
    · rw [← h] at hs; cases hs
    · cases h
      exact ⟨v, g1, rv⟩
  · rcases startT_get e with ⟨rfl, h⟩ | ⟨_, h⟩
    · subst h
      exact ⟨a, g0, outside_in (by simp), nf, ob⟩
    · rw [h] at ho; cases ho
  · rcases startT_get e1 with ⟨rfl, p1⟩ | ⟨_, p1⟩
    · rcases startT_get e2 with ⟨rfl, p2⟩ | ⟨_, p2⟩
      · exact hij rfl
      · rw [p2] at o2; cases o2
    · rw [p1] at o1; cases o1
theorem fdt_of {P : Program} {w : World} {K : PySem.W.Frag} {mg : Str → Option Value} {base : Heap} {x : Str} {st : Stmt} {f : Addr} {fd : FuncData} {N ps : List Str} {k : Nat} (F : Fun K x x st f fd) (hm : mg x = some (.ref f)) (b : Binds K fd ps []) (S : FnScope N ps (defScope st)) (hps : ps.length = 2) (hN : 2 ≤ N.length) {g : DSt → Res OutM}
    (hbody : ∀ (cdv : Value) (A : Around) (outer : List Env) (s : Shared) (H : Hp) (E : XK), Room k (A.deeper (envOfC x (defScope st) s.heap.objs.size f cdv)) →
      ∃ t, DMus (cxOf CX0 P w K mg base N x (defScope st) f cdv A outer s H E).nox (fun _ => E0) [0] (defBody st) t g) : FDt P w K mg base (k + 1) x (fnT N.length g) := by
  refine ⟨f, fd, ps, ?_, hm, F.kp, b⟩
  refine F.ok S (fun vs H Q E h => ?_) (fun cdv A outer s H vs Q E hr h => ?_)
  · obtain ⟨a, v, s, d, Fz, e, _⟩ := h
    rw [e, hps]; rfl
  obtain ⟨t, ht⟩ := hbody cdv A outer s H E hr
  refine ⟨t, ht.pe, ?_⟩
  obtain ⟨a, v, s0, d, Fz, rfl, live, hs, ob, nf, rv, q⟩ := h
  have re := entryT N hN live hs ob nf rv
  refine ht.ok [(0, a)] rfl _ Fz Fz H (start N [.ref a, v]) (startT N.length s0 d) _ re (fun p hp => ?_) ?_
  · rw [List.mem_singleton.mp hp]; rfl
  unfold fnT at q
  unfold SKm
  rw [wp_bind] at q
  refine wp_mono (nE_wpA q) (fun o q => ?_) (fun _ h => h)
  · cases o with
    | rt d' δ' => exact q.elim
    | nx δ' =>
      have q : ((match δ'[0]? with
        | some (some s') => if s'.isOne = true then .ok s' else .bot
        | _ => .bot : Res SV)).wp _ _ := q
      intro F' H' σ' r hp
      split at q
      · rename_i s' e1
        by_cases ho : s'.isOne = true
        · rw [if_pos ho] at q
          obtain ⟨a', h1, h2, h3, h4⟩ := r.own 0 _ e1 (one_o ho)
          have h5 : σ'[0]? = some (some (.ref a)) := hp (0, a) List.mem_cons_self
          rw [h1] at h5
          cases h5
          refine q.2 H' F' ⟨fun b o e hb => r.same b o (by rw [outside_out hb]; exact e), r.sub0, fun b z => ?_, r.live⟩ h4 h3
          rcases r.new0 b z with z1 | z1
          · exact .inl z1
          · by_cases hb : b ∈ [a]
            · rw [List.mem_singleton.mp hb] at z
              exact absurd z h3
            · rw [outside_out hb] at z1
              exact .inr z1
        · rw [if_neg ho] at q
          exact q.elim
      · exact q.elim
/-- the state behind the call -/
theorem rel_callT {K : PySem.W.Frag} {H0 H H2 : Hp} {Fz0 Fz F2 : FZ} {σ : L2.St} {δ : DSt} {i : Nat} {a : Addr} {s s' : SV} (r : Rel K H0 Fz0 Fz H σ δ) (e1 : δ[i]? = some (some s)) (ho1 : s.isOne = true) (ea : σ[i]? = some (some (.ref a))) (e : EndM Fz H [a] F2 H2) (ho1' : s'.isOne = true) (ob : OwnOb K F2 H2 a s') (nf : ¬ F2 a) : Rel K H0 Fz0 F2 H2 σ (δ.set i (some s')) := by
  have ho := (one_o ho1)
  have ho' := (one_o ho1')
  obtain ⟨a0, q1, q2, q3, q4⟩ := r.own i s e1 ho
  rw [ea] at q1
  cases q1
  obtain ⟨oa, ma, mt, mf⟩ := q4.mut
  have st : Stay Fz H H2 := fun b o hb hk => e.keep b o hb fun hm => by
    rw [List.mem_singleton.mp hm] at hb hk
    rw [ma] at hb
    cases hb
    rcases hk with hk | ⟨xs, hk⟩ | ⟨u, v, hk⟩
    · exact q3 hk
    · exact mt xs hk
    · exact mf u v hk
  have get : ∀ {j : Nat} {u : SV}, (δ.set i (some s'))[j]? = some (some u) → (j = i ∧ u = s') ∨ (j ≠ i ∧ δ[j]? = some (some u)) := fun {j u} h => by
    rcases set_get h with ⟨rfl, _, h⟩ | ⟨hij, h⟩
    · exact .inl ⟨rfl, by first | exact h | exact h.symm | (cases h; rfl)⟩
    · exact .inr ⟨fun z => hij z.symm, h⟩
  have keepx : ∀ {j : Nat} {u : SV} {b : Addr}, j ≠ i → δ[j]? = some (some u) → u.isOwn = true → σ[j]? = some (some (.ref b)) → ∀ x, Foot H b u x → H2 x = H x := fun {j u b} hj z hu eb x hx => by
    obtain ⟨_, _, o, h5, _⟩ := r.foot z hu eb hx
    refine (e.keep x o h5 fun hm => ?_).trans h5.symm
    rw [List.mem_singleton.mp hm] at hx
    exact r.sepF j i u s b a a hj z hu e1 ho eb ea hx (foot_top ho)
  have was : ∀ {j : Nat} {u : SV} {b x : Addr}, (δ.set i (some s'))[j]? = some (some u) → u.isOwn = true → σ[j]? = some (some (.ref b)) → Foot H2 b u x → ∃ u' : SV, δ[j]? = some (some u') ∧ u'.isOwn = true ∧ Foot H b u' x := fun {j u b x} h hu eb f => by
    rcases get h with ⟨rfl, rfl⟩ | ⟨hj, z⟩
    · refine ⟨s, e1, ho, ?_⟩
      rw [foot_one (one_i ho1') f]
      exact foot_top ho
    · exact ⟨u, z, hu, foot_eq (keepx hj z hu eb b (foot_top hu)) f⟩
  refine ⟨fun b o hb => e.keep b o (r.same b o hb) fun hm => ?_, fun b h => e.sub b (r.sub0 b h), fun b h => ?_, e.live, by rw [List.length_set]; exact r.len, fun j d h => ?_, fun j u h hu => ?_, fun j k u w b c x hjk h1 o1 h2 o2 h3 h4 f1 f2 => ?_⟩
  · rw [List.mem_singleton.mp hm, q2] at hb
    cases hb
  · rcases e.new b h with z | z
    · exact r.new0 b z
    · exact .inr (none_of_same r.same z)
  · rcases get h with ⟨_, z⟩ | ⟨_, z⟩
    · rw [← z] at ho'; cases ho'
    · obtain ⟨v, h1, h2⟩ := r.val j d z
      exact ⟨v, h1, h2.stay st e.sub⟩
  · rcases get h with ⟨rfl, rfl⟩ | ⟨hj, z⟩
    · exact ⟨a, ea, ob, fun x hx => by rw [foot_one (one_i ho1') hx]; exact ⟨q2, nf⟩⟩
    · obtain ⟨b, w1, w4, w5⟩ := r.ownF j _ z hu
      refine ⟨b, w1, w4.keep st e.sub (keepx hj z hu w1), fun x hx => ?_⟩
      have hx := foot_eq (keepx hj z hu w1 b (foot_top hu)) hx
      refine ⟨(w5 x hx).1, fun y => ?_⟩
      rcases e.new x y with y | y
      · exact (w5 x hx).2 y
      · obtain ⟨o, h5, _⟩ := w4.mutF hx
        rw [h5] at y; cases y
  · obtain ⟨u', z1, z2, z5⟩ := was h1 o1 h3 f1
    obtain ⟨w', z3, z4, z6⟩ := was h2 o2 h4 f2
    exact r.sepF j k _ _ b c x hjk z1 z2 z3 z4 h3 h4 z5 z6
def callT (i : Nat) (g : SV → PyData → Res SV) (fe : DSt → Res PyData) (δ : DSt) : Res Out := match δ[i]? with
  | some (some s) => if s.isOne = true then (fe δ >>= fun d => if flat d = true then (nE (g s d) >>= fun s' => if s'.isOne = true then .ok (.nx (δ.set i (some s'))) else .bot) else .bot) else .bot
  | _ => .bot
section
variable {X : Cx} {W : WS} {U : XK} {S T M : List Nat} {e : Expr} {te : TE} {pos p : Pos}
theorem ds_callT (K) (mg) {k j i : Nat} {f x : Str} {px cpos : Pos} {g : SV → PyData → Res SV} {fe : DSt → Res PyData} (c : FDt X.prog X.w K mg X.base k f g) (hr : Room j X.A) (hk : k ≤ j) (hg : Gl X f) (hN : X.N[i]? = some x) (hv : Vis X.env.scope x) (he : DE X W S e te fe) (hK : X.K = K := by rfl) (hM : X.mg = mg := by rfl)
    (hd : (x == ("__debug__" : Str)) = false := by decide) (hcd : (x == ("__classdict__" : Str)) = false := by decide) (hdb : (f == ("__debug__" : Str)) = false := by decide) (hs1 : starEach [.Name x px, e] X.env = (false, eval (.Name x px) X.env) :: starEach [e] X.env := by rfl) (hs2 : starEach [e] X.env = (false, eval e X.env) :: starEach [] X.env := by rfl)
    (hpl : (backTo cpos (starEach [e] X.env)).any (·.1) = false := by rfl) (hsw : swapsWith (.Call (.Name f p) [.Name x px, e] [] cpos) none pos.line X.env = pure false := by rfl) :
    DS X W (.Expr (.Call (.Name f p) [.Name x px, e] [] cpos) pos) (tDrop (tCall (spT K g) [] L2.E0 (tCons (tVar i) (tCons te tNil)))) (callT i g fe) := by
  subst hK hM
  obtain ⟨fa, fd, ps, F, hm, kp, hb⟩ := c.ex
  refine ⟨ps_expr (pe_call F (hr.mono hk) hg hm kp hb .nil pass0 (pa_cons (pe_var (i := i) hN hv hd hcd) (pa_cons he.pe pa_nil hs2) hs1) hdb hs1 hpl) hsw, fun H0 Fz0 Fz H σ δ Dn r h => ?_⟩
  unfold SOK callT at h
  split at h
  · rename_i s e1
    by_cases ho : s.isOne = true
    · rw [if_pos ho, wp_bind] at h
      obtain ⟨a, ea, q2, q3, q4⟩ := r.own i s e1 (one_o ho)
      refine ⟨.ref a, ea, ?_⟩
      refine atE he r (wp_mono h (fun d hd v H1 F1 g1 r1 => ?_) fun x hx => hx)
      by_cases hf : flat d = true
      · rw [if_pos hf, wp_bind] at hd
        have r2 := r.up g1.same
        obtain ⟨a', ea', _, q3', q4'⟩ := r2.own i s e1 (one_o ho)
        rw [ea] at ea'
        cases ea'
        refine ⟨a, v, s, d, Fz, rfl, r2.live, ho, q4', q3', r1.flat hf, wp_mono (nE_wpA hd) (fun s' hq => ?_) fun _ h => h⟩
        by_cases ho' : s'.isOne = true
        · rw [if_pos ho'] at hq
          exact ⟨ho', fun H' Fz' em ob nf => hq Fz' H' σ (rel_callT r2 e1 ho ea em ho' ob nf)⟩
        · rw [if_neg ho'] at hq
          exact hq.elim
      · rw [if_neg hf] at hd
        exact hd.elim
    · rw [if_neg ho] at h
      exact h.elim
  · exact h.elim
end
end DL

set_option Elab.async false
set_option linter.all false
set_option maxRecDepth 100000
set_option maxHeartbeats 4000000
namespace DL
open PySem PySem.Spec L2
open PyProof.Rows hiding St

/-! ### the draws: a list of five whose state is nobody's business -/
/-- the one list by its place, read as a list -/
def unF (f : DSt → Res PyData) (δ : DSt) : Res PyData := f δ >>= fun d => match d with
  | .dict [(.int _, .list ds)] => .ok (.list ds)
  | d => .ok d
section
variable {X : Cx} {W : WS} {U : XK} {S T M : List Nat} {e a b c tg : Expr} {es tgs : List Expr} {pos p : Pos} {te ta tb : TE} {tt : TT} {t : TA} {ts ts' : TS} {st : Stmt} {rest : List Stmt}
theorem de_unn {f : DSt → Res PyData} (h : DE X W S e te f) : DE X W S e te (unF f) := by
  refine ⟨h.pe, fun Fz σ H δ Q hd hl hq => ?_⟩
  unfold EOK unF at hq
  rw [wp_bind] at hq
  refine h.ok Fz σ H δ Q hd hl (wp_mono hq (fun d hx v H1 F1 g1 r1 => ?_) fun x hx => hx)
  split at hx
  · cases r1 with
    | nl l z r => exact hx _ H1 F1 g1 (.lst l z r)
  · exact hx v H1 F1 g1 r1
/-- xs[i] = e in a def that changes its caller's list -/
theorem dmu_lset {i : Nat} {x : Str} {key value : Expr} {xpos pos' : Pos} {tk tv : TE} {fk fv : DSt → Res PyData} (hN : X.N[i]? = some x) (hv : Vis X.env.scope x) (he : DE X W S value tv fv) (hk : DE X W T key tk fk)
    (hs : swapsWithSole [.Subscript (.Name x xpos) key pos'] value pos.line X.env = pure false := by rfl) (hw : swappedStores [.Subscript (.Name x xpos) key pos'] value X.env = pure none := by rfl) (h1 : (assignEach [.Subscript (.Name x xpos) key pos'] X.env).map (·.2) = [assign (.Subscript (.Name x xpos) key pos') X.env] := by rfl)
    (ha : ∀ v, assign (.Subscript (.Name x xpos) key pos') X.env v = (do
      let ov ← holding [v] (eval (.Name x xpos) X.env)
      let iv ← holding [v, ov] (eval key X.env)
      standAt pos'
      holding [v, ov, iv] (setItem ov iv v)
      release [v, ov, iv] []) := by intro _; rfl) (hd : (x == ("__debug__" : Str)) = false := by decide) (hcd : (x == ("__classdict__" : Str)) = false := by decide) :
    DMu X W M (.Assign [.Subscript (.Name x xpos) key pos'] value pos) (tAsg tv (gSub (tVar i) tk rSetL)) (upM (lsetF i S fv fk)) := by
  refine ⟨ps_asg he.pe (pg_sub (pe_var (i := i) hN hv hd hcd) hk.pe set_list ha) hs hw h1, fun pin hM H0 Fz0 Fz H σ δ Dn r hp h => ?_⟩
  unfold SKm upM lsetF at h
  rw [wp_bind] at h
  split at h
  · rename_i xs0 e1
    obtain ⟨a, e2, _⟩ := r.own i _ e1 rfl
    rw [wp_bind] at h
    refine atE he r (wp_mono h (fun v hv v' H1 F1 g1 r1 => ?_) fun x hx => hx)
    have fin : ∀ (F : FZ) (δ' : DSt), Rel X.K H0 Fz0 F H1 σ δ' → Rep X.K F H1 v' v → (do
        let k ← fk δ'
        match k, δ'[i]? with
        | .int j, some (some (.own xs)) => (match ixN xs.length j with | some j => (.ok (.nx (δ'.set i (some (.own (xs.set j v))))) : Res Out) | none => .bot)
        | _, _ => .bot).wp (fun o => (match o with | .nx δ' => (.ok (.nx δ') : Res OutM) | _ => .bot).wp (OKm X.K H0 Fz0 pin Dn) (XOK X.mg (W σ) H0 Fz0)) (XOK X.mg (W σ) H0 Fz0) → (gSub (tVar i) tk rSetL) v' σ H1 Dn.nx := fun F δ' r' rv q => by
      refine ⟨.ref a, e2, ?_⟩
      rw [wp_bind] at q
      refine atE hk r' (wp_mono q (fun k hk' u H2 F2 g2 r2 => ?_) fun x hx => hx)
      split at hk'
      · rename_i j xs e3
        split at hk'
        · rename_i jj hj
          have r3 := r'.up g2.same
          have rv2 : Rep X.K F H2 v' v := rv.stay (.of_same g2.same) fun _ h => h
          obtain ⟨a', k2, k4, k5, vs, hh, hz, rr⟩ := r3.own i _ e3 rfl
          rw [e2] at k2
          cases k2
          cases r2
          refine ⟨a, vs, j, jj, rfl, rfl, hh, by rw [rr.length]; exact hj, ?_⟩
          exact hk' F _ σ (r3.write e3 rfl e2 fun H' st z => ⟨_, z, by rw [List.length_set]; exact hz, (RepAll.set rv2 jj rr).stay st fun _ h => h⟩) hp
        · exact hk'.elim
      · exact hk'.elim
    by_cases hf : flat v = true
    · simp only [hf, if_true] at hv
      exact fin Fz δ (r.up g1.same) (r1.flat hf) hv
    · simp only [hf, if_false] at hv
      exact fin F1 _ (r.frz g1) r1 hv
  · exact h.elim
/-- return [..]: a new list -/
def retL (f : DSt → Res (List PyData)) (δ : DSt) : Res OutF := f δ >>= fun xs => .ok (.rl xs)
theorem dfu_retL {f : DSt → Res (List PyData)} (he : DF X W S e te f) : DFu X W [.Return (some e) pos] (tRet te) (retL f) := by
  refine ⟨pss_one (ps_ret he.pe), fun H0 Fz0 Fz H σ δ Dn r h => ?_⟩
  unfold SKf retL at h
  rw [wp_bind] at h
  exact he.ok _ σ H δ _ r.rd r.ownLive (wp_mono h (fun xs hx p us H1 F1 g1 np nf hp hz rr => hx F1 H1 p us (r.grow0 g1) (none_of_same r.same np) nf hp hz rr) fun x hx c oe H1 F1 g q => hx c oe H1 F1 (r.grow0 g) q)
end
/-! ### drawing -/
def drawG : List PyData → Res PyData
  | [.dict [], .int m] => if 0 < m ∧ m < 1073741824 then .pick m (fun i => .ok (.int i)) else .bot
  | _ => .bot
def poolG : List PyData → Res PyData
  | [.list ds] => if allI ds = true ∧ ds.length ≤ 1000 then .ok (.dict []) else .bot
  | _ => .bot
def PoolL (b : Addr) (ds : List PyData) (i1 i2 i3 i4 : Int) : List PyData := [.dict [(.int b, .list ds)], .int i1, .int i2, .int i3, .int i4]
def DrawOk (g : List PyData → Res (PyData × List (List PyData))) : Prop := ∀ (b : Addr) (ds : List PyData) (i1 i2 i3 i4 m : Int), allI ds = true → 0 ≤ i1 → 0 < m → m < 1073741824 →
  ∃ r j1 j2 j3 j4 : Int, 0 ≤ r ∧ r < m ∧ 0 ≤ j1 ∧ g [.list (PoolL b ds i1 i2 i3 i4), .int m] = .ok (.int r, [PoolL b ds j1 j2 j3 j4])
def PoolOk (g : List PyData → Res FR) : Prop := ∀ ds : List PyData, allI ds = true → ds.length ≤ 1000 → ∃ s : Int, g [.list ds] = .ok (.l [.list ds, .int 0, .int 0, .int 0, .int s])
theorem pool_stable {b a : Addr} {h1 h2 : Heap} (h : PoolAt b a h1) (k : ∀ o, h1.get? a = some o → h2.get? a = some o) : PoolAt b a h2 := by
  obtain ⟨i1, i2, i3, i4, t1, t2, t3, t4, n, e, h0⟩ := h
  exact ⟨i1, i2, i3, i4, t1, t2, t3, t4, n, k _ e, h0⟩
theorem ext_of_lst {P : Program} {w : World} {H : Hp} {h : Heap} {a b : Addr} {j1 j2 j3 j4 : Int} (x : ObjOk P w H h a (.lst [.ref b, .int j1, .int j2, .int j3, .int j4])) (h0 : 0 ≤ j1) (H' : Hp) : ObjOk P w H' h a (.ext (PoolAt b a)) := by
  obtain ⟨_, its, n, v, e⟩ := x
  cases v with
  | cons r0 v => cases v with
    | cons r1 v => cases v with
      | cons r2 v => cases v with
        | cons r3 v => cases v with
          | cons r4 v =>
            cases v
            have r0 : _ = Value.ref b := r0
            obtain ⟨t1, r1⟩ := r1
            obtain ⟨t2, r2⟩ := r2
            obtain ⟨t3, r3⟩ := r3
            obtain ⟨t4, r4⟩ := r4
            subst r0 r1 r2 r3 r4
            exact ⟨⟨j1, j2, j3, j4, t1, t2, t3, t4, n, e, h0⟩, ⟨_, e⟩, fun _ _ => pool_stable⟩
theorem lst_of_ext {P : Program} {w : World} {H : Hp} {h : Heap} {a b : Addr} (x : ObjOk P w H h a (.ext (PoolAt b a))) (H' : Hp) : ∃ i1 i2 i3 i4 : Int, 0 ≤ i1 ∧ ObjOk P w H' h a (.lst [.ref b, .int i1, .int i2, .int i3, .int i4]) := by
  obtain ⟨⟨i1, i2, i3, i4, t1, t2, t3, t4, n, e, h0⟩, _, _⟩ := x
  refine ⟨i1, i2, i3, i4, h0, ?_, [.ref b, .int i1 t1, .int i2 t2, .int i3 t3, .int i4 t4], n, ?_, e⟩
  · have : (5 : Nat) ≤ sizeLine := by rw [sizeLine_eq]; decide
    exact this
  · exact .cons rfl (.cons ⟨t1, rfl⟩ (.cons ⟨t2, rfl⟩ (.cons ⟨t3, rfl⟩ (.cons ⟨t4, rfl⟩ .nil))))
theorem reabs {P : Program} {w : World} {H : Hp} {h : Heap} {a : Addr} {o : HO} (ok : HOk P w H h) (mu : Mut (H a)) (ho : ∃ u, h.get? a = some u) (new : ObjOk P w (upd H a o) h a o) : HOk P w (upd H a o) h ∧ ∀ fs, Un fs [] H (upd H a o) h h :=
  ⟨ok.write mu (.inl rfl) (fun _ _ _ h => h) ho new, fun fs => Un.write mu (.inl rfl) (fun _ _ _ h => h) ho⟩
theorem get_of_lst {P : Program} {w : World} {H : Hp} {h : Heap} {a : Addr} {xs : List V} (x : ObjOk P w H h a (.lst xs)) : ∃ u, h.get? a = some u := by
  obtain ⟨_, _, _, _, e⟩ := x
  exact ⟨_, e⟩
theorem lsF_upd {K : PySem.W.Frag} {Fz Fz' : FZ} {H : Hp} {a b : Addr} {o u : HO} {xs : List V} (h : LsF K Fz H b xs) (ha : H a = some u) (hu : (∀ ys, u ≠ .lst ys) ∨ ¬ Fz a) (hf : ∀ ob v, u ≠ .frz ob v) (hs : ∀ x, x ≠ a → Fz x → Fz' x) : LsF K Fz' (upd H a o) b xs := by
  rcases h with ⟨h, z⟩ | ⟨ob, h⟩ | h
  · have ne : b ≠ a := fun e => by
      subst e
      rcases hu with hu | hu
      · rw [ha] at h; exact hu _ (Option.some.inj h)
      · exact hu z
    exact .inl ⟨by rw [upd_ne ne]; exact h, hs b ne z⟩
  · have ne : b ≠ a := fun e => by
      subst e
      rw [ha] at h
      exact hf _ _ (Option.some.inj h)
    exact .inr (.inl ⟨ob, by rw [upd_ne ne]; exact h⟩)
  · exact .inr (.inr h)
theorem rep_intsA {K : PySem.W.Frag} {Fz Fz' : FZ} {H H' : Hp} : ∀ {ds : List PyData} {xs : List V}, allI ds = true → RepAll K Fz H xs ds → RepAll K Fz' H' xs ds
  | [], _, _, h => by cases h; exact .nil
  | .int i :: ds, _, ha, h => by
    cases h with
    | cons r rr =>
      cases r
      exact .cons (.int i) (rep_intsA ha rr)
  | .none :: _, _, ha, _ => by cases ha
  | .bool _ :: _, _, ha, _ => by cases ha
  | .str _ :: _, _, ha, _ => by cases ha
  | .list _ :: _, _, ha, _ => by cases ha
  | .tuple _ :: _, _, ha, _ => by cases ha
  | .dict _ :: _, _, ha, _ => by cases ha
theorem rep_five {K : PySem.W.Frag} {Fz : FZ} {H : Hp} {us : List V} {d : PyData} {j1 j2 j3 j4 : Int} (h : RepAll K Fz H us [d, .int j1, .int j2, .int j3, .int j4]) : ∃ v, us = [v, .int j1, .int j2, .int j3, .int j4] ∧ Rep K Fz H v d := by
  cases h with
  | cons r0 h => cases h with
    | cons r1 h => cases h with
      | cons r2 h => cases h with
        | cons r3 h => cases h with
          | cons r4 h =>
            cases h
            cases r1
            cases r2
            cases r3
            cases r4
            exact ⟨_, rfl, r0⟩
section
variable {P : Program} {w : World} {K : PySem.W.Frag} {mg : Str → Option Value} {base : Heap} {k : Nat} {x : Str}
theorem draw_of {g : List PyData → Res (PyData × List (List PyData))} (h : FDm P w K mg base k [true, false] x g) (hg : DrawOk g) : FD P w K mg base k 2 x drawG := by
  obtain ⟨f, fd, ps, F, hm, kp, hb⟩ := h.ex
  have hps : ps.length = 2 := by
    have five : (5 : Nat) ≤ sizeLine := by rw [sizeLine_eq]; decide
    obtain ⟨r, j1, j2, j3, j4, _, _, _, e⟩ := hg 1 [] 0 0 0 0 1 rfl (by decide) (by decide) (by decide)
    have := F.len [.ref 0, .int 1] (fun a => if a = 0 then some (.lst [.ref 1, .int 0, .int 0, .int 0, .int 0]) else if a = 1 then some (.lst []) else none) (fun _ _ => True) L2.E0 ⟨[.list (PoolL 1 [] 0 0 0 0), .int 1], fun a => a = 1, fun a z => by subst z; simp, ?_, ?_, ?_⟩
    · exact this.symm
    · exact .own (us := [.ref 1, .int 0, .int 0, .int 0, .int 0]) rfl (by decide) five (.cons (.nl (.inl ⟨rfl, rfl⟩) (Nat.zero_le _) .nil) (.cons (.int 0) (.cons (.int 0) (.cons (.int 0) (.cons (.int 0) .nil))))) (.val (.int 1) .nil)
    · simp [pinsM]
    · rw [e]
      exact fun _ _ _ _ _ _ => True.intro
  refine ⟨f, fd, ps, ⟨fun vs H Q E h => ?_, fun A outer s H args us vs Q E hr e0 hbt hv hs => ?_⟩, hm, kp, hb⟩
  · obtain ⟨ds, Fz, h1, _, h2, _⟩ := h
    rw [h2.length, h1, hps]
  obtain ⟨ds, Fz, hl, live, ra, q⟩ := hs
  unfold EOK drawG at q
  split at q
  · rename_i m
    split at q
    · rename_i hm0
      cases ra with
      | cons r0 ra => cases ra with
        | cons r1 ra =>
          cases ra
          cases r1
          cases r0 with
          | @pool a b xs dz hld ls hz hal rr =>
            obtain ⟨i1, i2, i3, i4, hi1, ob⟩ := lst_of_ext (e0.hok a _ hld.1) (upd H a (.lst []))
            obtain ⟨i1, i2, i3, i4, hi1, ob⟩ := lst_of_ext (e0.hok a _ hld.1) H
            have ob1 : ObjOk P w (upd H a (.lst [.ref b, .int i1, .int i2, .int i3, .int i4])) s.heap a (.lst [.ref b, .int i1, .int i2, .int i3, .int i4]) := ob
            have mu : Mut (H a) := by rw [hld.1]; exact True.intro
            obtain ⟨ok1, un1⟩ := reabs e0.hok mu (get_of_lst ob) ob1
            have nb : ∀ y, H y = none → y ≠ a := fun y e z => by subst z; rw [hld.1] at e; cases e
            have env1 : Env0 P w K mg base A outer s (upd H a (.lst [.ref b, .int i1, .int i2, .int i3, .int i4])) :=
              ⟨e0.frames, e0.mod, fun y o e => ⟨(e0.bs y o e).1, by rw [upd_ne (nb y (e0.bs y o e).2)]; exact (e0.bs y o e).2⟩, e0.bsz, e0.funs, fun y hy => by rw [upd_ne (nb y (e0.frf y hy))]; exact e0.frf y hy, ok1, e0.bare⟩
            obtain ⟨r, j1, j2, j3, j4, hr0, hr1, hj1, eg⟩ := hg b dz i1 i2 i3 i4 m hal hi1 hm0.1 hm0.2
            have five : (5 : Nat) ≤ sizeLine := by rw [sizeLine_eq]; decide
            have lsn : LsF K (fun y => Fz y ∧ y ≠ a) (upd H a (.lst [.ref b, .int i1, .int i2, .int i3, .int i4])) b xs := lsF_upd ls hld.1 (.inl fun _ z => by cases z) (fun _ _ z => by cases z) fun y ne z => ⟨z, ne⟩
            have sp1 : spM K [true, false] g [.ref a, .int m] (upd H a (.lst [.ref b, .int i1, .int i2, .int i3, .int i4])) (fun v H2 => ∃ F2, v = .int r ∧ EndM (fun y => Fz y ∧ y ≠ a) (upd H a (.lst [.ref b, .int i1, .int i2, .int i3, .int i4])) [a] F2 H2 ∧ H2 a = some (.lst [.ref b, .int j1, .int j2, .int j3, .int j4])) E := by
              refine ⟨[.list (PoolL b dz i1 i2 i3 i4), .int m], fun y => Fz y ∧ y ≠ a, fun y hy e => ?_, ?_, ?_, ?_⟩
              · rw [upd_ne hy.2] at e
                exact live y hy.1 e
              · exact .own upd_same (fun z => z.2 rfl) five (.cons (.nl lsn hz (rep_intsA hal rr)) (.cons (.int _) (.cons (.int _) (.cons (.int _) (.cons (.int _) .nil))))) (.val (.int m) .nil)
              · simp [pinsM]
              · rw [eg]
                intro v H2 F2 ee rv ow
                cases rv
                refine ⟨F2, rfl, ee, ?_⟩
                cases ow with
                | cons h1 h2 h3 h4 _ =>
                  obtain ⟨v0, rfl, r0⟩ := rep_five h4
                  cases r0
                  exact h1
            refine codeAny_mono (F.run A outer s _ args us _ _ E hr env1 hbt hv sp1) fun z s' hz => ?_
            cases z with
            | error y => exact hz.elim
            | ok fl =>
              cases fl with
              | ret u =>
                obtain ⟨v, H2, os, bare, un, hok2, rv, F2, rfl, ee, h2a⟩ := hz
                have ob2 := hok2 a _ h2a
                have mu2 : Mut (H2 a) := by rw [h2a]; exact True.intro
                obtain ⟨ok3, un3⟩ := reabs hok2 mu2 (get_of_lst ob2) (ext_of_lst ob2 hj1 (upd H2 a (.ext (PoolAt b a))))
                refine ⟨.int r, upd H2 a (.ext (PoolAt b a)), os, bare, ((un1 _).trans un).trans (un3 _), ok3, rv, ?_⟩
                have q1 := q.2 r hr0 hr1
                refine q1 (.int r) _ (fun y => F2 y ∨ y = a) ⟨fun y o e => ?_, fun y z => ?_, fun y z => ?_, fun _ y z e => ?_⟩ (.int r)
                · by_cases hy : y = a
                  · subst hy
                    rw [hld.1] at e
                    cases e
                    exact upd_same
                  · rw [upd_ne hy]
                    exact ee.keep y o (by rw [upd_ne hy]; exact e) (by simp [hy])
                · by_cases hy : y = a
                  · exact .inr hy
                  · exact .inl (ee.sub y ⟨z, hy⟩)
                · rcases z with z | z
                  · rcases ee.new y z with z1 | z1
                    · exact .inl z1.1
                    · by_cases hy : y = a
                      · exact .inl (hy ▸ hld.2)
                      · rw [upd_ne hy] at z1; exact .inr z1
                  · exact .inl (z ▸ hld.2)
                · by_cases hy : y = a
                  · subst hy; rw [upd_same] at e; cases e
                  · rw [upd_ne hy] at e
                    exact ee.live y (z.resolve_right hy) e
              | next => exact hz.elim
              | brk => exact hz.elim
              | cont => exact hz.elim
    · exact q.elim
  · exact q.elim
theorem pool_of {g : List PyData → Res FR} (h : FDf P w K mg base k 1 x g) (hg : PoolOk g) : FD P w K mg base k 1 x poolG := by
  obtain ⟨f, fd, ps, F, hm, kp, hb⟩ := h.ex
  have conv : ∀ {vs H Q E}, spD K mg 1 poolG vs H Q E → ∃ a, vs = [.ref a] ∧ spF K 1 g vs H (fun v H2 => ∃ p b xs dz s F2, v = .ref p ∧ H2 p = some (.lst [.ref b, .int 0, .int 0, .int 0, .int s]) ∧ H p = none ∧ ¬ F2 p ∧ LsF K F2 H2 b xs ∧ dz.length ≤ sizeLine ∧ allI dz = true ∧ RepAll K F2 H2 xs dz ∧ (Grow (fun y => F2 y ∧ H y ≠ none) H F2 H2) ∧ ∀ F3 H3, (∀ y o, H y = some o → H3 y = some o) → (∀ y, F3 y → F2 y ∨ y = p) → (∀ y, F2 y → F3 y) → (∀ y, F3 y → H3 y ≠ none) → Rep K F3 H3 (.ref p) (.dict []) → Q (.ref p) H3) E := by
    intro vs H Q E h
    obtain ⟨ds, Fz, hl, live, ra, q⟩ := h
    unfold EOK poolG at q
    split at q
    · rename_i dz
      split at q
      · rename_i hd
        have ra' := ra
        cases ra with
        | cons r0 ra =>
          cases ra
          cases r0 with
          | @lst a xs _ ls hz rr =>
            obtain ⟨s, eg⟩ := hg dz hd.1 hd.2
            refine ⟨a, rfl, [.list dz], Fz, hl, live, ra', ?_⟩
            rw [eg]
            intro p us H2 F2 gr n0 nf hp hz2 rus
            obtain ⟨v0, rfl, r0⟩ := rep_five rus
            cases r0 with
            | @lst b ys _ ls2 hz3 rr2 =>
              refine ⟨p, b, ys, dz, s, F2, rfl, hp, n0, nf, ls2, hz3, hd.1, rr2, ⟨gr.same, fun y h => h.1, fun y h => ?_, fun _ => gr.live live⟩, fun F3 H3 sm f1 f2 lv rp => q (.ref p) H3 F3 ⟨sm, fun y h => f2 y (gr.sub y h), fun y h => ?_, fun _ => lv⟩ rp⟩
              · by_cases e : H y = none
                · exact .inr e
                · exact .inl ⟨h, e⟩
              · rcases f1 y h with z | z
                · exact gr.new y z
                · exact .inr (z ▸ n0)
      · exact q.elim
    · exact q.elim
  refine ⟨f, fd, ps, ⟨fun vs H Q E h => ?_, fun A outer s H args us vs Q E hr e0 hbt hv hs => ?_⟩, hm, kp, hb⟩
  · obtain ⟨_, _, h⟩ := conv h
    exact F.len _ _ _ _ h
  obtain ⟨a0, rfl, sp1⟩ := conv hs
  refine codeAny_mono (F.run A outer s _ args us _ _ E hr e0 hbt hv sp1) fun z s' hz => ?_
  cases z with
  | error y => exact hz.elim
  | ok fl =>
    cases fl with
    | ret u =>
      obtain ⟨v, H2, os, bare, un, hok2, rv, p, b, xs, dz, s0, F2, rfl, h2p, n0, nf, ls, hz3, hal, rr, gr, fin⟩ := hz
      have ob2 := hok2 p _ h2p
      have mu2 : Mut (H2 p) := by rw [h2p]; exact True.intro
      obtain ⟨ok3, un3⟩ := reabs hok2 mu2 (get_of_lst ob2) (ext_of_lst ob2 (Int.le_refl 0) (upd H2 p (.ext (PoolAt b p))))
      refine ⟨.ref p, upd H2 p (.ext (PoolAt b p)), os, bare, un.trans (un3 _), ok3, rv, ?_⟩
      refine fin (fun y => F2 y ∨ y = p) _ (fun y o e => ?_) (fun y h => h) (fun y h => .inl h) (fun y z e => ?_) (.pool ⟨upd_same, .inr rfl⟩ (lsF_upd ls h2p (.inr nf) (fun _ _ z => by cases z) fun y _ z => .inl z) hz3 hal (rep_intsA hal rr))
      · rw [upd_ne (ne_of_none e n0)]
        exact gr.same y o e
      · by_cases hy : y = p
        · subst hy; rw [upd_same] at e; cases e
        · rw [upd_ne hy] at e
          have hF := z.resolve_right hy
          exact gr.live (fun y h => h.2) y hF e
    | next => exact hz.elim
    | brk => exact hz.elim
    | cont => exact hz.elim
end
end DL
namespace Law
open PySem PySem.Spec L2 DL
open PyProof.Rows hiding St
theorem law_okA {P : Program} {w : World} {K : PySem.W.Frag} {mg : Str → Option Value} {base : Heap} {f : Addr} {fd : FuncData} {k : Nat} {x : Str} {g : List PyData → Res PyData} (c : FnOk P w K mg base CX0 k f fd [x] (spD K mg 1 g))
    (h : ∀ ns : List Int, ns.length ≤ 63 → (g [.list (ns.map .int)]).wp (fun d => d = .bool true) (fun _ => False)) : FnOk P w K mg base CX0 k f fd [x] (spLaw K) :=
  c.imp fun vs H Q E ⟨a, ns, e, hO, hS, hl, q⟩ => by
    subst e
    refine ⟨[.list (ns.map .int)], fun _ => False, rfl, fun _ z => z.elim, .cons (.lst (xs := ns.map V.int) ?_ ?_ (rep_ints ns)) .nil, ?_⟩
    · rcases hS with (hS | hS) | hS
      · rcases hO a with z | ⟨o, xs, z⟩
        · rw [z] at hS; cases hS
        · rw [z] at hS; cases hS
      · exact .inr (.inl hS)
      · exact .inr (.inr hS)
    · rw [List.length_map, sizeLine_eq]
      omega
    · exact wp_mono (h ns hl) (fun d e v H' F' g' r => by
        subst e
        cases r
        exact q H') fun _ h => h.elim
end Law

set_option Elab.async false
set_option linter.all false
set_option maxRecDepth 100000
set_option maxHeartbeats 4000000
namespace DL
open PySem PySem.Spec L2
open PyProof.Rows hiding St

/-! ### more of defs that change their caller's lists -/
/-- a variable's value, whatever it is -/
def aVV (i : Nat) (g : DSt → Res (List PyData)) (δ : DSt) : Res (List PyData) := match δ[i]? with
  | some (some (.val d)) => g δ >>= fun xs => .ok (d :: xs)
  | _ => .bot
def retS (S : List Nat) (f : DSt → Res PyData) (δ : DSt) : Res OutM := f δ >>= fun d => .ok (.rt d (if flat d then δ else freeze S 0 δ))
def retLM (f : DSt → Res (List PyData)) (δ : DSt) : Res OutM := f δ >>= fun xs => if flatAll xs then .ok (.rt (.list xs) δ) else .bot
section
variable {X : Cx} {W : WS} {U : XK} {S T M : List Nat} {e a b c tg : Expr} {es tgs : List Expr} {pos p ps0 : Pos} {te ta tb : TE} {tt : TT} {t : TA} {ts ts' : TS} {st : Stmt} {rest : List Stmt} {ks : List MA}
theorem dam_var {i : Nat} {x : Str} {pos' : Pos} {g : DSt → Res (List PyData)} (hN : X.N[i]? = some x) (hv : Vis X.env.scope x) (hr : DAM X W ks es t g) (hs : starEach (.Name x pos' :: es) X.env = (false, eval (.Name x pos') X.env) :: starEach es X.env := by rfl) (hd : (x == ("__debug__" : Str)) = false := by decide) (hcd : (x == ("__classdict__" : Str)) = false := by decide) : DAM X W (.v :: ks) (.Name x pos' :: es) (tCons (tVar i) t) (aVV i g) := by
  refine ⟨pa_cons (pe_var hN hv hd hcd) hr.pe hs, fun H0 Fz0 Fz H σ δ Q r h => ?_⟩
  unfold aVV at h
  split at h
  · rename_i d e1
    obtain ⟨v, e2, rv⟩ := r.val i d e1
    rw [wp_bind] at h
    refine ⟨v, e2, ?_⟩
    exact hr.ok H0 Fz0 Fz H σ δ _ r (wp_mono h (fun rs hrs vs H2 s2 r2 m => hrs (v :: vs) H2 s2 r2 (.v (rv.stay (.of_same s2) fun _ h => h) m)) fun x hx => hx)
  · exact h.elim
theorem dmu_retS {f : DSt → Res PyData} (he : DE X W S e te f) : DMu X W M (.Return (some e) pos) (tRet te) (retS S f) := by
  refine ⟨ps_ret he.pe, fun pin hM H0 Fz0 Fz H σ δ Dn r hp h => ?_⟩
  unfold SKm retS at h
  rw [wp_bind] at h
  refine atE he r (wp_mono h (fun d hd v H1 F1 g1 r1 => ?_) fun x hx => hx)
  by_cases hf : flat d = true
  · simp only [hf, if_true] at hd
    exact hd Fz H1 σ v (r.up g1.same) hp (r1.flat hf)
  · simp only [hf, if_false] at hd
    exact hd F1 H1 σ v (r.frz g1) hp r1
theorem dmu_retL {f : DSt → Res (List PyData)} (he : DF X W S e te f) : DMu X W M (.Return (some e) pos) (tRet te) (retLM f) := by
  refine ⟨ps_ret he.pe, fun pin hM H0 Fz0 Fz H σ δ Dn r hp h => ?_⟩
  unfold SKm retLM at h
  rw [wp_bind] at h
  refine atF he r (wp_mono h (fun ds hd q vs H1 F1 g1 np nf eq z r1 => ?_) fun x hx => hx)
  by_cases hf : flatAll ds = true
  · rw [if_pos hf] at hd
    have r3 : Rel X.K H0 Fz0 (fun a => Fz a ∨ a = q) H1 σ δ := by
      have := r.frz (S := []) (F1 := fun a => Fz a ∨ a = q) (H1 := H1) ⟨g1.same, fun a h => .inl (h.elim (fun h => h) fun ⟨_, h, _⟩ => (by simp at h)), fun a h => h.elim (fun h => .inl (.inl h)) fun h => .inr (h ▸ np), fun _ a h z => h.elim (fun h => r.live a h (none_of_same g1.same z)) fun h => by rw [h, eq] at z; cases z⟩
      rwa [freeze_nil] at this
    exact hd _ H1 σ _ r3 hp (.lst (.inl ⟨eq, .inr rfl⟩) z (r1.flat hf))
  · rw [if_neg hf] at hd
    exact hd.elim
theorem dmu_lv {i : Nat} {f : DSt → Res (List PyData)} (he : DF X W S e te f) (hM : i ∉ M) : ∀ pin, pin.map (·.1) = M → ∀ H0 Fz0 Fz H σ δ Dn, Rel X.K H0 Fz0 Fz H σ δ → Pin σ pin → SKm X.K X.mg (W σ) H0 Fz0 pin (upM (asgLV S f i) δ) Dn → tAsg te (gName i) Dn σ H := fun pin hMp H0 Fz0 Fz H σ δ Dn r hp h => by
  subst hMp
  unfold SKm upM asgLV at h
  rw [wp_bind, wp_bind] at h
  refine atF he r (wp_mono h (fun ds hd q vs H1 F1 g1 np nf e z r1 => ?_) fun x hx => hx)
  have n0 : H0 q = none := none_of_same r.same np
  have hp' : Pin (σ.set i (some (.ref q))) pin := hp.set hM _
  by_cases hf : flatAll ds = true
  · rw [if_pos hf] at hd
    have r2 := (r.up g1.same).setOwn (s := .own ds) n0 (fun z => r.live q z np) ⟨vs, e, z, r1.flat hf⟩ (r.apart np) i
    obtain ⟨F2, r3⟩ := r2.frzAt [i]
    rw [freeze_at _ fun _ _ => trivial] at r3
    exact hd F2 H1 _ r3 hp'
  · rw [if_neg hf] at hd
    have r2 := (r.frz g1).setOwn (s := .own ds) n0 nf ⟨vs, e, z, r1⟩ (fun j u ej oj => r.apart np g1.same j u (freeze_own ej oj).2 oj) i
    obtain ⟨F2, r3⟩ := r2.frzAt [i]
    rw [freeze_at _ fun _ _ => trivial] at r3
    exact hd F2 H1 _ r3 hp'
theorem dmu_setLc {S1 S2 : List Nat} {elt iter : Expr} {ifs : List Expr} {scope : Scope} {own : List (Str × Nat)} {wi : TI} {gg : TG} {tte : TT} {i : Nat} {y : Str} {py spos : Pos} {g : DSt → Res (List PyData)} {p : Pat} {ft : DSt → Res Bool} {fe : DSt → Res PyData}
    (hy : X.N[i]? = some y) (hyl : X.env.scope.names.lookup y = some .local) (hsw : swapsWith (.ListComp elt [⟨tg, iter, ifs, 0⟩] scope pos) (some (.Name y py)) spos.line X.env = pure true)
    (hc : X.calm = true) (hN : X.N.Nodup) (hi : DI X W S tg iter wi g) (ok : BlkOk X.N X.env.scope scope own)
    (hg : ∀ (s : Shared) (H : Hp) (C : Addr) (cl : List (Str × Addr)) (fp : List Addr), DG (X.blk s H scope (compEnvC scope cl C X.env) fp) tg gg p) (hp : ∀ i ∈ p.slots, i ∈ own.map (·.2))
    (ht : ∀ (s : Shared) (H : Hp) (C : Addr) (cl : List (Str × Addr)) (fp : List Addr), DTs (X.blk s H scope (compEnvC scope cl C X.env) fp) (fun _ => E0) S1 ifs tte ft)
    (he : ∀ (s : Shared) (H : Hp) (C : Addr) (cl : List (Str × Addr)) (fp : List Addr), DE (X.blk s H scope (compEnvC scope cl C X.env) fp) (fun _ => E0) S2 elt te fe) (hM : i ∉ M) (hs : ∀ x, foldedSetIterable iter X.env x = pure x := by intro _; rfl) :
    DMu X W M (.Assign [.Name y py] (.ListComp elt [⟨tg, iter, ifs, 0⟩] scope pos) spos) (tAsg (tLc wi gg tte te (own.map (·.2))) (gName i)) (upM (asgLV (S ++ (S1 ++ S2)) (lcF g p (own.map (·.2)) ft fe) i)) :=
  ⟨ps_setLc hc hN hy hyl hsw hi.pe ok (fun s H C cl fp => (hg s H C cl fp).pe) (fun s H C cl fp => (ht s H C cl fp).pe) (fun s H C cl fp => (he s H C cl fp).pe) hs, dmu_lv (df_lc (pos := pos) hc hN hi ok hg hp ht he hs) hM⟩
end
end DL

set_option Elab.async false
set_option linter.all false
set_option maxRecDepth 100000
set_option maxHeartbeats 4000000
namespace DL
open PySem PySem.Spec L2
open PyProof.Rows hiding St

/-! ### len(set(xs)) of ints; [x, ..] * n -/
def rLenO (w : World) : List V → Hp → VK → Prop := fun vs H Q => ∃ (a : Addr) (S : Int → Bool) (n : Nat), vs = [V.ref a] ∧ H a = some (SetO w a S n) ∧ ∀ ms : List Int, ms.Nodup → (∀ k, k ∈ ms ↔ S k = true) → Q (.int (ms.length : Nat)) H
theorem cr_lenO {X : Cx} : CallR X (.builtin "len") (rLenO X.w) := by
  intro pins s σ H vs us Q I r h
  obtain ⟨a, S, n, rfl, ha, q⟩ := h
  have R := setO_get I ha
  rw [Vals.ref1 r]
  obtain ⟨o, es, ep, t, ho, hex, hd, _, nd, hm, hsz, hf, _, _⟩ := R
  have hq := q (es.toList.map keyOf) nd fun k => (hm k).symm
  rw [List.length_map, Array.length_toList] at hq
  refine call_len_set ho hex hd hf ?_ ⟨.int (es.size : Nat), H, (I.tok _).tok _, ⟨_, rfl⟩, hq⟩
  unfold scanBound at hsz
  omega
def lenSetL (ds : List PyData) : Res PyData := if ds.length < 64 then (match whO ds with | some ns => .ok (.int ((sortUI ns).length : Nat)) | none => .bot) else .bot
def lenSetD (d : PyData) : Res PyData := match d with
  | .list ds => lenSetL ds
  | .tuple ds => lenSetL ds
  | _ => .bot
def repLF (fa : DSt → Res (List PyData)) (fb : DSt → Res PyData) (δ : DSt) : Res (List PyData) := fa δ >>= fun xs => fb δ >>= fun y => match y with
  | .int k => if (decide (0 ≤ k) && decide (k ≤ 1000) && decide (xs.length ≤ 100)) = true then .ok (List.replicate k.toNat xs).flatten else .bot
  | _ => .bot
section
variable {X : Cx} {W : WS} {S T : List Nat} {e a b : Expr} {pos p p2 pos2 : Pos} {te ta tb : TE}
theorem de_lenSet (K) (w : World) {f : DSt → Res PyData} (hc : X.calm = true) (hg : Gl X "len") (hm : X.mg "len" = none) (hg2 : Gl X "set") (hm2 : X.mg "set" = none) (ha : DE X W S e te f) (hK : X.K = K := by rfl) (hw : X.w = w := by rfl)
    (he : starEach [e] X.env = (false, eval e X.env) :: starEach [] X.env := by rfl) (he2 : starEach [.Call (.Name "set" p2) [e] [] pos2] X.env = (false, eval (.Call (.Name "set" p2) [e] [] pos2) X.env) :: starEach [] X.env := by rfl) :
    DE X W S (.Call (.Name "len" p) [.Call (.Name "set" p2) [e] [] pos2] [] pos) (tCB (rLenO w) (tCons (tCB (rSetOI K w) (tCons te tNil)) tNil)) (u1 lenSetD f) := by
  subst hK hw
  refine ⟨pe_callB cr_lenO hg hm (by decide +kernel) (pa_cons (pe_callTy (cr_setOI hc) hg2 hm2 (by decide +kernel) (pa_cons ha.pe pa_nil he) (by decide) (by decide) he rfl) pa_nil he2) (by decide) (by decide) he2 rfl, fun Fz σ H δ Q hd hl h => ?_⟩
  unfold EOK u1 at h
  rw [wp_bind] at h
  show te σ H fun x H1 => (rSetOI X.K X.w) [x] H1 fun y H2 => (rLenO X.w) [y] H2 Q
  refine ha.ok Fz σ H δ _ hd hl (wp_mono h (fun d hx v H1 F1 g1 r1 => ?_) fun x hx => hx)
  have fin : ∀ l vs ds, v = .ref l → (SqL X.K H1 l vs ∨ SqT X.K H1 l vs) → RepAll X.K F1 H1 vs ds → lenSetD d = lenSetL ds → (rSetOI X.K X.w) [v] H1 fun y H2 => (rLenO X.w) [y] H2 Q := by
    rintro l vs ds rfl hs rr e
    rw [e] at hx
    unfold lenSetL at hx
    split at hx
    · rename_i few
      split at hx
      · rename_i ns hns
        rw [whO_some hns] at rr few
        have few2 : ns.length < 64 := by
          have : (iL ns).length = ns.length := List.length_map _
          omega
        have e1 := rep_ints rr
        subst e1
        refine ⟨_, ns, rfl, hs, few2, fun a n na hn => ⟨a, _, n, rfl, upd_same, fun ms nd mem => ?_⟩⟩
        have nd2 : (sortUI ns).Nodup := (sortUI_lt ns).imp fun {a b} h => by omega
        have hp : ms.Perm (sortUI ns) := (List.perm_ext_iff_of_nodup nd nd2).mpr fun k => by rw [mem k, sortUI_mem]; simp
        rw [hp.length_eq]
        exact hx _ _ F1 (g1.trans (.nw na)) (.int _)
      · exact hx.elim
    · exact hx.elim
  cases d with
  | list ds =>
    cases r1 with
    | lst hh z rr => exact fin _ _ ds rfl (.inl hh.sq) rr rfl
  | tuple ds =>
    cases r1 with
    | tup hh z rr => exact fin _ _ ds rfl (.inr hh.sq) rr rfl
  | _ => exact hx.elim
theorem df_rep {fa : DSt → Res (List PyData)} {fb : DSt → Res PyData} (ha : DF X W S a ta fa) (hb : DE X W T b tb fb) : DF X W (S ++ T) (.BinOp a .Mult b pos) (tOp rRep ta tb) (repLF fa fb) := by
  refine ⟨pe_op op_rep ha.pe hb.pe, fun Fz σ H δ Q hd hl h => ?_⟩
  unfold LOK repLF at h
  rw [wp_bind] at h
  show ta σ H fun x H1 => tb σ H1 fun y H2 => rRep x y H2 Q
  refine ha.ok Fz σ H δ _ hd.left hl (wp_mono h (fun xs hx q vs H1 F1 g1 np nf e z r1 => ?_) fun x hx => hx)
  rw [wp_bind] at hx
  refine hb.ok F1 σ H1 δ _ (hd.right.grow g1) (g1.live hl) (wp_mono hx (fun y hy u H2 F2 g2 r2 => ?_) fun x hx c oe H2 F2 g2 r2 => hx c oe H2 F2 (g1.trans g2) r2)
  cases y with
  | int k =>
    cases r2
    have hy : (if (decide (0 ≤ k) && decide (k ≤ 1000) && decide (xs.length ≤ 100)) = true then Res.ok (List.replicate k.toNat xs).flatten else .bot).wp _ _ := hy
    split at hy
    · rename_i c
      simp only [Bool.and_eq_true, decide_eq_true_eq] at c
      obtain ⟨⟨c1, c2⟩, c3⟩ := c
      have big : (100000 : Nat) ≤ sizeLine := by rw [sizeLine_eq]; decide
      have rl := r1.length
      have hm : xs.length * k.toNat ≤ 100000 := Nat.le_trans (Nat.mul_le_mul c3 (by omega : k.toNat ≤ 1000)) (Nat.le_refl (100 * 1000))
      refine ⟨q, k, vs, rfl, rfl, g2.same _ _ e, by omega, by omega, by rw [rl]; omega, fun p2 np2 => ?_⟩
      refine hy p2 _ _ F2 ((g1.trans g2).trans (.nw np2)) (none_of_same (g1.trans g2).same np2) (fun z => g2.live (g1.live hl) p2 z np2) upd_same ?_ (((r1.grow g2).many k.toNat).grow (.nw np2))
      rw [List.length_flatten, List.map_replicate, List.sum_replicate_nat, Nat.mul_comm]
      omega
    · exact hy.elim
  | _ => exact hy.elim
end
end DL

set_option Elab.async false
set_option linter.all false
set_option maxRecDepth 100000
set_option maxHeartbeats 4000000
namespace DL
open PySem PySem.Spec L2 PySem.W
open PyProof.Rows hiding St

/-! ### isinstance(e, C) of what was caught, C its very class -/
theorem isi_exact {prog : Program} {w : World} {A : Around} {E : Value → Shared → Prop} {s : Shared} {x c : Value} {Q : Value → Shared → Prop} (hx : x ≠ .builtin "__main__.__loader__#opaque") (LT : Looks (model prog w) s.heap (typeOf x) c) (h : Q (.bool true) s) :
    wpAny (model prog w) A (call (.builtin "isinstance") [x, c]) Q E s := by
  refine call_isinstance_of ?_ hx
  obtain ⟨h0, g, d, tt, os⟩ := s
  unfold Builtin.«isinstance.nested»
  refine wpAny_bind (LT.at ?_)
  rw [if_pos (beq_self_eq_true _)]
  first
    | exact wpAny_bind (wpAny_rule h)
    | exact wpAny_bind (wpAny_rule (wpAny_pure h))
    | exact wpAny_bind (wpAny_rule (wpAny_bind (wpAny_pure h)))
def rIsX (cls : Value) (a : Addr) : List V → Hp → VK → Prop := fun xs H Q => ∃ c : V, xs = [.ref a, c] ∧ (∀ u, RelV c u → u = cls) ∧ Q (.bl true) H
theorem call_isX {X : Cx} {a : Addr} {oe : Obj} {cls : Value} {d : Option Addr} {pn : List (Addr × Obj)} (hz : Zc cls d oe) : CallR (X.suite a ((a, oe) :: pn)) (.builtin "isinstance") (rIsX cls a) := by
  intro pins s σ H xs us Q I r h
  obtain ⟨c, rfl, hcv, q⟩ := h
  cases r with
  | cons rx rr =>
    cases rr with
    | cons rt rr =>
      cases rr
      cases rx
      have ec := hcv _ rt
      subst ec
      obtain ⟨hget, _⟩ := I.pin (a, oe) (List.mem_append.mpr (.inl List.mem_cons_self))
      refine isi_exact (fun z => nomatch z) ?_ ⟨.bl true, H, I, rfl, q⟩
      rw [← hz.1]
      exact (Looks.ld hget).andThen .now
/-- a test of such a suite -/
structure DTx (X : Cx) (i : Nat) (a : Addr) (cls : Value) (d : Option Addr) (S : List Nat) (e : Expr) (t : TT) (f : Exn → DSt → Res Bool) : Prop where
  pe : PT X e t
  ok : ∀ Fz σ H δ Q y, Cgt X.mg i a cls d y H σ → RdOn X.K S Fz H σ δ → Live Fz H → BOK X.K X.mg E0 Fz H (f y δ) Q → t σ H Q
def isX (cn : Str) (y : Exn) (_ : DSt) : Res Bool := if y.cls = cn then .ok true else .bot
section
variable {X : Cx} {i : Nat} {a : Addr} {oe : Obj} {cls : Value} {d : Option Addr} {pn : List (Addr × Obj)} {S T U : List Nat} {e b c : Expr} {es : List Expr} {ta tb te : TE} {tA : TT} {t : TA} {pos p p2 p3 : Pos}
theorem dtx_isi {n x : Str} {C : Addr} (hg : Gl (X.suite a ((a, oe) :: pn)) "isinstance") (hm : X.mg "isinstance" = none) (hN : X.N[i]? = some x) (hv : Vis X.env.scope x) (hgc : Gl (X.suite a ((a, oe) :: pn)) n) (hC : X.mg n = some (.ref C)) (hz : Zc cls d oe)
    (hd : (x == ("__debug__" : Str)) = false := by decide) (hcd : (x == ("__classdict__" : Str)) = false := by decide) (hdb : (n == ("__debug__" : Str)) = false := by decide)
    (hs : starEach [.Name x p2, .Name n p3] X.env = (false, eval (.Name x p2) X.env) :: starEach [.Name n p3] X.env := by rfl) (hs2 : starEach [.Name n p3] X.env = (false, eval (.Name n p3) X.env) :: starEach [] X.env := by rfl) (hpl : (backTo pos (starEach [.Name n p3] X.env)).any (·.1) = false := by rfl)
    (he : ∀ whole, PySem.isTrue (.Call (.Name "isinstance" p) [.Name x p2, .Name n p3] [] pos) X.env whole = (do let v ← whole; standAt (Expr.Call (.Name "isinstance" p) [.Name x p2, .Name n p3] [] pos).pos; holding [v] (truthy v)) := by intro _; rfl) :
    DTx (X.suite a ((a, oe) :: pn)) i a cls d [] (.Call (.Name "isinstance" p) [.Name x p2, .Name n p3] [] pos) (tB (tCB (rIsX cls a) (tCons (tVar i) (tCons (tC (.ref C)) tNil)))) (isX n) := by
  refine ⟨pt_val (pe_callB (call_isX hz) hg hm (by decide +kernel) (pa_cons (pe_var (X := X.suite a ((a, oe) :: pn)) hN hv hd hcd) (pa_cons (pe_glob (X := X.suite a ((a, oe) :: pn)) hgc hC rfl hdb) pa_nil hs2) hs) (by decide) (by decide) hs hpl) he, fun Fz σ H δ Q y cg hd hl hq => ?_⟩
  unfold isX at hq
  by_cases h : y.cls = n
  · rw [if_pos h] at hq
    have hm2 : X.mg y.cls = some cls := cg.ex.1
    rw [h, hC] at hm2
    have e2 : cls = .ref C := (Option.some.inj hm2).symm
    subst e2
    exact ⟨.ref a, cg.at', .ref C, rfl, fun u hu => hu, true, rfl, hq H Fz .refl⟩
  · rw [if_neg h] at hq
    exact hq.elim
theorem dx_if {h : Exn → DSt → Res Bool} {f g : Exn → DSt → Res PyData} (hc : DTx X i a cls d U c tA h) (ha : DEx X i a cls d S e ta f) (hb : DEx X i a cls d T b tb g) : DEx X i a cls d (U ++ (S ++ T)) (.IfExp c e b pos) (tIf tA ta tb) (fun y => ifE (h y) (f y) (g y)) := by
  refine ⟨pe_ifExp hc.pe ha.pe hb.pe, fun Fz σ H δ Q y cg hd hl hq => ?_⟩
  refine hc.ok Fz σ H δ _ y cg hd.left hl (wp_mono (EOK.bindB hq) (fun b hb' H1 F1 g1 => ?_) fun x hx => hx)
  obtain ⟨F2, g2, q2⟩ := hb' H1 F1 g1
  cases b with
  | true => exact ha.ok F2 σ H1 δ _ y (cg.grow g2.same) (hd.right.left.grow g2) (g2.live hl) q2
  | false => exact hb.ok F2 σ H1 δ _ y (cg.grow g2.same) (hd.right.right.grow g2) (g2.live hl) q2
end
end DL

set_option Elab.async false
set_option linter.all false
set_option maxRecDepth 100000
set_option maxHeartbeats 4000000
namespace DL
open PySem PySem.Spec L2
open PyProof.Rows hiding St

/-! ### expressions that change lists -/
structure DEm (X : Cx) (W : WS) (e : Expr) (t : TE) (f : DSt → Res (PyData × DSt)) : Prop where
  pe : PE X e t
  ok : ∀ H0 Fz0 Fz H σ δ Q, Rel X.K H0 Fz0 Fz H σ δ → (f δ).wp (fun r => ∀ v H' F', (∀ a, Fz a → F' a) → Stay Fz H H' → Rel X.K H0 Fz0 F' H' σ r.2 → Rep X.K F' H' v r.1 → Q v H') (XOK X.mg (W σ) H0 Fz0) → t σ H Q
structure DAe (X : Cx) (W : WS) (es : List Expr) (t : TA) (f : DSt → Res (List PyData × DSt)) : Prop where
  pe : PA X es t
  ok : ∀ H0 Fz0 Fz H σ δ Q, Rel X.K H0 Fz0 Fz H σ δ → (f δ).wp (fun r => ∀ vs H' F', (∀ a, Fz a → F' a) → Stay Fz H H' → Rel X.K H0 Fz0 F' H' σ r.2 → RepAll X.K F' H' vs r.1 → Q vs H') (XOK X.mg (W σ) H0 Fz0) → t σ H Q
theorem Stay.tr {Fz F1 : FZ} {H H1 H2 : Hp} (a : Stay Fz H H1) (s : ∀ a, Fz a → F1 a) (b : Stay F1 H1 H2) : Stay Fz H H2 := fun x o e h => by
  refine b x o (a x o e h) ?_
  rcases h with h | h | h
  · exact .inl (s x h)
  · exact .inr (.inl h)
  · exact .inr (.inr h)
def pureE (f : DSt → Res PyData) (δ : DSt) : Res (PyData × DSt) := f δ >>= fun d => if flat d then .ok (d, δ) else .bot
def callE (ks : List MA) (f : DSt → Res (List PyData)) (g : List PyData → Res (PyData × List (List PyData))) (δ : DSt) : Res (PyData × DSt) := f δ >>= fun ds => nE (g ds) >>= fun r => .ok (r.1, setsM ks r.2 δ)
def nilE (δ : DSt) : Res (List PyData × DSt) := .ok ([], δ)
def consE (f : DSt → Res (PyData × DSt)) (g : DSt → Res (List PyData × DSt)) (δ : DSt) : Res (List PyData × DSt) := f δ >>= fun r => g r.2 >>= fun q => .ok (r.1 :: q.1, q.2)
def tupE (f : DSt → Res (List PyData × DSt)) (δ : DSt) : Res (PyData × DSt) := f δ >>= fun r => tupD r.1 >>= fun d => .ok (d, r.2)
def ifEm (c : DSt → Res Bool) (f g : DSt → Res (PyData × DSt)) (δ : DSt) : Res (PyData × DSt) := c δ >>= fun x => if x then f δ else g δ
theorem stay_call {K : PySem.W.Frag} {H0 H H2 : Hp} {Fz0 Fz F2 : FZ} {σ : L2.St} {δ : DSt} {ks vs ds} (r : Rel K H0 Fz0 Fz H σ δ) (m : ArgsM K H0 Fz H σ δ ks vs ds) (e : EndM Fz H (adr 0 ks vs) F2 H2) : Stay Fz H H2 := fun a o ha hk => e.keep a o ha fun hm => by
  obtain ⟨⟨_, h2, us, h3⟩, _⟩ := m.mem r 0 a hm
  rw [h3] at ha
  cases ha
  rcases hk with hk | ⟨xs, hk⟩ | ⟨u, v, hk⟩
  · exact h2 hk
  · cases hk
  · cases hk
section
variable {X : Cx} {W : WS} {U : XK} {S T M : List Nat} {e a b c tg : Expr} {es tgs : List Expr} {pos p ps0 : Pos} {te ta tb tk : TE} {tt : TT} {t : TA} {ts ts' : TS} {st : Stmt} {rest : List Stmt} {ks : List MA}
theorem dem_of {f : DSt → Res PyData} (he : DE X W S e te f) : DEm X W e te (pureE f) := by
  refine ⟨he.pe, fun H0 Fz0 Fz H σ δ Q r h => ?_⟩
  unfold pureE at h
  rw [wp_bind] at h
  refine atE he r (wp_mono h (fun d hd v H1 F1 g1 r1 => ?_) fun x hx => hx)
  by_cases hf : flat d = true
  · rw [if_pos hf] at hd
    exact hd v H1 Fz (fun _ h => h) (.of_same g1.same) (r.up g1.same) (r1.flat hf)
  · rw [if_neg hf] at hd
    exact hd.elim
theorem dem_call (K) (mg) {k j : Nat} {x : Str} {mk : List Bool} {g : List PyData → Res (PyData × List (List PyData))} {f : DSt → Res (List PyData)} (c : FDm X.prog X.w K mg X.base k mk x g) (hr : Room j X.A) (hk : k ≤ j) (hg : Gl X x) (hmk : mkOf ks = mk) (hnd : (ixOf ks).Nodup) (ha : DAM X W ks (e :: es) t f) (hK : X.K = K := by rfl) (hMg : X.mg = mg := by rfl)
    (hdb : (x == ("__debug__" : Str)) = false := by decide) (he : starEach (e :: es) X.env = (false, eval e X.env) :: starEach es X.env := by rfl) (hpl : (backTo pos (starEach es X.env)).any (·.1) = false := by rfl) :
    DEm X W (.Call (.Name x p) (e :: es) [] pos) (tCall (spM K mk g) [] L2.E0 t) (callE ks f g) := by
  subst hK hMg hmk
  obtain ⟨fa, fd, ps, F, hm, kp, hb⟩ := c.ex
  refine ⟨pe_call F (hr.mono hk) hg hm kp hb .nil pass0 ha.pe hdb he hpl, fun H0 Fz0 Fz H σ δ Q r h => ?_⟩
  unfold callE at h
  rw [wp_bind] at h
  refine ha.ok H0 Fz0 Fz H σ δ _ r (wp_mono h (fun ds hds vs H1 s1 r1 m => ?_) fun x hx => hx)
  rw [wp_bind] at hds
  refine ⟨ds, Fz, r1.live, by rw [List.append_nil]; exact m.reg r1, by rw [List.append_nil]; exact m.nodup r1 hnd 0, wp_mono (nE_wpA hds) (fun rr hds v H2 F2 ee rv ow => ?_) fun _ h => h⟩
  rw [List.append_nil] at ee ow
  exact hds v H2 F2 ee.sub ((Stay.of_same s1).tr (fun _ h => h) (stay_call r1 m ee)) (rel_call r1 m ee ow) rv
theorem dae_nil : DAe X W [] tNil nilE := ⟨pa_nil, fun H0 Fz0 Fz H σ δ Q r h => h [] H Fz (fun _ h => h) (.of_same fun _ _ e => e) r .nil⟩
theorem dae_cons {f : DSt → Res (PyData × DSt)} {g : DSt → Res (List PyData × DSt)} (he : DEm X W e te f) (hr : DAe X W es t g) (hs : starEach (e :: es) X.env = (false, eval e X.env) :: starEach es X.env := by rfl) : DAe X W (e :: es) (tCons te t) (consE f g) := by
  refine ⟨pa_cons he.pe hr.pe hs, fun H0 Fz0 Fz H σ δ Q r h => ?_⟩
  unfold consE at h
  rw [wp_bind] at h
  refine he.ok H0 Fz0 Fz H σ δ _ r (wp_mono h (fun x hx v H1 F1 s1 y1 r1 p1 => ?_) fun x hx => hx)
  rw [wp_bind] at hx
  refine hr.ok H0 Fz0 F1 H1 σ x.2 _ r1 (wp_mono hx (fun q hq vs H2 F2 s2 y2 r2 p2 => ?_) fun x hx => hx)
  exact hq (v :: vs) H2 F2 (fun a h => s2 a (s1 a h)) (y1.tr s1 y2) r2 (.cons (p1.stay y2 s2) p2)
theorem dem_tup {x1} {f : DSt → Res (List PyData × DSt)} (h : DAe X W es t f) : DEm X W (.Tuple es x1 pos) (tTupZ t) (tupE f) := by
  refine ⟨pe_tupZ h.pe, fun H0 Fz0 Fz H σ δ Q r hq => ?_⟩
  unfold tupE at hq
  rw [wp_bind] at hq
  refine h.ok H0 Fz0 Fz H σ δ _ r (wp_mono hq (fun q hx vs H1 F1 s1 y1 r1 p1 => ?_) fun x hx => hx)
  rw [wp_bind] at hx
  unfold tupD at hx
  split at hx
  · rename_i hz
    refine ⟨by rw [p1.length]; exact hz, ?_⟩
    cases hi : allI q.1 with
    | true => exact .inl fun p np => hx _ _ F1 s1 (y1.tr s1 (.of_same (same_upd np))) (r1.up (same_upd np)) (.tup (.of upd_same (.inl hi)) hz (p1.grow (.nw np)))
    | false => exact .inr fun p o np hd => hx _ _ F1 s1 (y1.tr s1 (.of_same (same_upd np))) (r1.up (same_upd np)) (.tup (.frz upd_same hd hi) hz (p1.grow (.nw np)))
  · exact hx.elim
theorem dem_if {h : DSt → Res Bool} {f g : DSt → Res (PyData × DSt)} (hc : DT X W S c tt h) (ha : DEm X W a ta f) (hb : DEm X W b tb g) : DEm X W (.IfExp c a b pos) (tIf tt ta tb) (ifEm h f g) := by
  refine ⟨pe_ifExp hc.pe ha.pe hb.pe, fun H0 Fz0 Fz H σ δ Q r hq => ?_⟩
  unfold ifEm at hq
  rw [wp_bind] at hq
  refine hc.ok _ σ H δ _ r.rd r.ownLive (wp_mono hq (fun x hx H1 F1 g1 => ?_) fun x hx c oe H1 F1 g q => hx c oe H1 F1 (r.grow0 g) q)
  have r1 := r.up g1.same
  cases x with
  | true => exact ha.ok H0 Fz0 Fz H1 σ δ _ r1 (wp_mono hx (fun q hq v H2 F2 s2 y2 => hq v H2 F2 s2 ((Stay.of_same g1.same).tr (fun _ h => h) y2)) fun x hx => hx)
  | false => exact hb.ok H0 Fz0 Fz H1 σ δ _ r1 (wp_mono hx (fun q hq v H2 F2 s2 y2 => hq v H2 F2 s2 ((Stay.of_same g1.same).tr (fun _ h => h) y2)) fun x hx => hx)
/-! ### statements of such -/
def exprM (f : DSt → Res (PyData × DSt)) (δ : DSt) : Res OutM := f δ >>= fun r => .ok (.nx r.2)
def retE (f : DSt → Res (PyData × DSt)) (δ : DSt) : Res OutM := f δ >>= fun r => .ok (.rt r.1 r.2)
def setE (f : DSt → Res (PyData × DSt)) (q : Pat) (δ : DSt) : Res OutM := f δ >>= fun r => nE (bindP q r.1 r.2) >>= fun δ' => .ok (.nx δ')
def appE (i : Nat) (f : DSt → Res (PyData × DSt)) (δ : DSt) : Res OutM := match δ[i]? with
  | some (some (.own _)) => f δ >>= fun r => (match r.2[i]? with
    | some (some (.own xs)) => if xs.length < sizeLine then .ok (.nx (r.2.set i (some (.own (xs ++ [r.1]))))) else .bot
    | _ => .bot)
  | _ => .bot
def lsetE (i : Nat) (f : DSt → Res (PyData × DSt)) (fk : DSt → Res PyData) (δ : DSt) : Res OutM := f δ >>= fun r => match r.2[i]? with
  | some (some (.own xs)) => fk r.2 >>= fun k => (match k with
    | .int j => (match ixN xs.length j with | some j => .ok (.nx (r.2.set i (some (.own (xs.set j r.1))))) | none => .bot)
    | _ => .bot)
  | _ => .bot
def putE (i : Nat) (f : DSt → Res (PyData × DSt)) (fk : DSt → Res PyData) (δ : DSt) : Res OutM := f δ >>= fun r => match r.2[i]? with
  | some (some (.ownd t ks vs)) => fk r.2 >>= fun k => if keyOk t k && decide (ks.length < sizeLine) then .ok (.nx (r.2.set i (some (.ownd t (putKs ks k) (putVs ks vs k r.1))))) else .bot
  | _ => .bot
theorem dmu_exprE {f : DSt → Res (PyData × DSt)} (he : DEm X W e te f) (hs : swapsWith e none pos.line X.env = pure false := by rfl) : DMu X W M (.Expr e pos) (tDrop te) (exprM f) := by
  refine ⟨ps_expr he.pe hs, fun pin hM H0 Fz0 Fz H σ δ Dn r hp h => ?_⟩
  unfold SKm exprM at h
  rw [wp_bind] at h
  exact he.ok H0 Fz0 Fz H σ δ _ r (wp_mono h (fun q hq v H1 F1 s1 y1 r1 p1 => hq F1 H1 σ r1 hp) fun x hx => hx)
theorem dmu_retE {f : DSt → Res (PyData × DSt)} (he : DEm X W e te f) : DMu X W M (.Return (some e) pos) (tRet te) (retE f) := by
  refine ⟨ps_ret he.pe, fun pin hM H0 Fz0 Fz H σ δ Dn r hp h => ?_⟩
  unfold SKm retE at h
  rw [wp_bind] at h
  exact he.ok H0 Fz0 Fz H σ δ _ r (wp_mono h (fun q hq v H1 F1 s1 y1 r1 p1 => hq F1 H1 σ v r1 hp p1) fun x hx => hx)
theorem dmu_setE {i : Nat} {x : Str} {pos' : Pos} {f : DSt → Res (PyData × DSt)} (hN : X.N.Nodup) (hi : X.N[i]? = some x) (hx : L2.Loc X.env.scope x) (he : DEm X W e te f) (hM : i ∉ M) (hs : swapsWith e (some (.Name x pos')) pos.line X.env = pure false := by rfl) (hf : X.fn x = true ∨ X.env.scope.names.lookup x = some .local := by first | exact .inl rfl | exact .inr rfl | assumption) :
    DMu X W M (.Assign [.Name x pos'] e pos) (tAsg te (gName i)) (setE f (.nm i)) := by
  have hgn := dg_name (X := X) (pos := pos') hN hi hx hf
  refine ⟨ps_set hN hi hx he.pe hs hf, fun pin hMp H0 Fz0 Fz H σ δ Dn r hp h => ?_⟩
  subst hMp
  unfold SKm setE at h
  rw [wp_bind] at h
  refine he.ok H0 Fz0 Fz H σ δ _ r (wp_mono h (fun q hq v H1 F1 s1 y1 r1 p1 => ?_) fun x hx => hx)
  rw [wp_bind] at hq
  obtain ⟨δ', hb', hq⟩ := nEb hq
  refine hgn.ok F1 H1 _ v q.1 σ _ _ (setsPin (K := X.K) (H0 := H0) (Fz0 := Fz0) (pin := pin) (fun z hz => by
    have : z = i := by simpa [Pat.slots] using hz
    rw [this]; exact hM)) ⟨r1, hp⟩ p1 ?_
  rw [hb']
  exact fun σ' r' => hq F1 H1 σ' r'.1 r'.2
theorem dmu_appE {i : Nat} {x : Str} {f : DSt → Res (PyData × DSt)} {apos cpos xpos : Pos} (hN : X.N[i]? = some x) (hv : Vis X.env.scope x) (he : DEm X W e te f)
    (hbase : attributeBase (.Name x xpos) "append" X.env (eval (.Name x xpos) X.env) = eval (.Name x xpos) X.env := by rfl)
    (hfew : ((backTo cpos (starEach [e] X.env)).all (fun x => !x.1) && (backToKw cpos (keywordEach [] X.env)).all (fun x => x.1.isSome)
      && decide ([e].length + ([] : List Keyword).length + (if ([] : List Keyword).isEmpty then 0 else 1) < 30)) = true := by rfl)
    (hline : (apos.endLine == cpos.line) = true := by rfl) (hs : starEach [e] X.env = (false, eval e X.env) :: starEach [] X.env := by rfl) (hplain : (backTo cpos (starEach [] X.env)).any (·.1) = false := by rfl)
    (hsw : swapsWith (.Call (.Attribute (.Name x xpos) "append" apos) [e] [] cpos) none pos.line X.env = pure false := by rfl) (hd : (x == ("__debug__" : Str)) = false := by decide) (hcd : (x == ("__classdict__" : Str)) = false := by decide) :
    DMu X W M (.Expr (.Call (.Attribute (.Name x xpos) "append" apos) [e] [] cpos) pos) (tDrop (tBM X.K "list" rAppend (tVar i) (tCons te tNil))) (appE i f) := by
  refine ⟨ps_expr (pe_bm PySem.F.plainAttrs_list PySem.F.slot_list_append PySem.F.type_list_append mt_append (pe_var (i := i) hN hv hd hcd) (pa_cons he.pe pa_nil hs) hbase hfew hline hs hplain) hsw, fun pin hM H0 Fz0 Fz H σ δ Dn r hp h => ?_⟩
  unfold SKm appE at h
  split at h
  · rename_i xs0 e1
    obtain ⟨a, e2, e4, e5, vs, e3, e6, e7⟩ := r.own i _ e1 rfl
    rw [wp_bind] at h
    refine ⟨.ref a, e2, .inl ⟨rfl, _, .of e3⟩, ?_⟩
    refine he.ok H0 Fz0 Fz H σ δ _ r (wp_mono h (fun q hq v H1 F1 s1 y1 r1 p1 => ?_) fun x hx => hx)
    split at hq
    · rename_i xs e1'
      obtain ⟨a', k2, k4, k5, vs', k3, k6, k7⟩ := r1.own i _ e1' rfl
      rw [e2] at k2
      cases k2
      split at hq
      · rename_i hz
        have l := k7.length
        exact ⟨a, vs', v, rfl, rfl, k3, by omega, hq F1 _ σ (r1.write e1' rfl e2 fun H' st q => ⟨_, q, by rw [List.length_append, List.length_singleton]; omega, (k7.app (.cons p1 .nil)).stay st fun _ h => h⟩) hp⟩
      · exact hq.elim
    · exact hq.elim
  · exact h.elim
theorem dmu_lsetE {i : Nat} {x : Str} {key value : Expr} {xpos pos' : Pos} {tv : TE} {fk : DSt → Res PyData} {fv : DSt → Res (PyData × DSt)} (hN : X.N[i]? = some x) (hv : Vis X.env.scope x) (he : DEm X W value tv fv) (hk : DE X W T key tk fk)
    (hs : swapsWithSole [.Subscript (.Name x xpos) key pos'] value pos.line X.env = pure false := by rfl) (hw : swappedStores [.Subscript (.Name x xpos) key pos'] value X.env = pure none := by rfl) (h1 : (assignEach [.Subscript (.Name x xpos) key pos'] X.env).map (·.2) = [assign (.Subscript (.Name x xpos) key pos') X.env] := by rfl)
    (ha : ∀ v, assign (.Subscript (.Name x xpos) key pos') X.env v = (do
      let ov ← holding [v] (eval (.Name x xpos) X.env)
      let iv ← holding [v, ov] (eval key X.env)
      standAt pos'
      holding [v, ov, iv] (setItem ov iv v)
      release [v, ov, iv] []) := by intro _; rfl) (hd : (x == ("__debug__" : Str)) = false := by decide) (hcd : (x == ("__classdict__" : Str)) = false := by decide) :
    DMu X W M (.Assign [.Subscript (.Name x xpos) key pos'] value pos) (tAsg tv (gSub (tVar i) tk rSetL)) (lsetE i fv fk) := by
  refine ⟨ps_asg he.pe (pg_sub (pe_var (i := i) hN hv hd hcd) hk.pe set_list ha) hs hw h1, fun pin hM H0 Fz0 Fz H σ δ Dn r hp h => ?_⟩
  unfold SKm lsetE at h
  rw [wp_bind] at h
  refine he.ok H0 Fz0 Fz H σ δ _ r (wp_mono h (fun q hq v H1 F1 s1 y1 r1 p1 => ?_) fun x hx => hx)
  split at hq
  · rename_i xs e3
    obtain ⟨a, e2, _⟩ := r1.own i _ e3 rfl
    refine ⟨.ref a, e2, ?_⟩
    rw [wp_bind] at hq
    refine atE hk r1 (wp_mono hq (fun k hk' u H2 F2 g2 r2 => ?_) fun x hx => hx)
    have r3 := r1.up g2.same
    obtain ⟨a', k2, k4, k5, vs, hh, hz, rr⟩ := r3.own i _ e3 rfl
    rw [e2] at k2
    cases k2
    have rv2 : Rep X.K F1 H2 v q.1 := p1.stay (.of_same g2.same) fun _ h => h
    split at hk'
    · rename_i j
      split at hk'
      · rename_i jj hj
        cases r2
        refine ⟨a, vs, j, jj, rfl, rfl, hh, by rw [rr.length]; exact hj, ?_⟩
        exact hk' F1 _ σ (r3.write e3 rfl e2 fun H' st z => ⟨_, z, by rw [List.length_set]; exact hz, (RepAll.set rv2 jj rr).stay st fun _ h => h⟩) hp
      · exact hk'.elim
    · exact hk'.elim
  · exact hq.elim
theorem dmu_putE {i : Nat} {x : Str} {key value : Expr} {xpos pos' : Pos} {tv : TE} {fk : DSt → Res PyData} {fv : DSt → Res (PyData × DSt)} (hu : X.A.units + 65 < cLine) (hN : X.N[i]? = some x) (hv : Vis X.env.scope x) (he : DEm X W value tv fv) (hk : DE X W T key tk fk) (hs : swapsWith value (some (.Subscript (.Name x xpos) key pos')) pos.line X.env = pure false := by rfl) (hd : (x == ("__debug__" : Str)) = false := by decide) (hcd : (x == ("__classdict__" : Str)) = false := by decide) :
    DMu X W M (.Assign [.Subscript (.Name x xpos) key pos'] value pos) (sDPut (tVar i) tk tv) (putE i fv fk) := by
  refine ⟨ps_dput (by omega) (pe_var (i := i) hN hv hd hcd) hk.pe he.pe hs, fun pin hM H0 Fz0 Fz H σ δ Dn r hp h => ?_⟩
  unfold SKm putE at h
  rw [wp_bind] at h
  refine he.ok H0 Fz0 Fz H σ δ _ r (wp_mono h (fun q hq v H1 F1 s1 y1 r1 p1 => ?_) fun x hx => hx)
  split at hq
  · rename_i t ks vs e3
    obtain ⟨a, e2, _⟩ := r1.own i _ e3 rfl
    refine ⟨.ref a, e2, ?_⟩
    rw [wp_bind] at hq
    refine atE hk r1 (wp_mono hq (fun k hk' u H2 F2 g2 r2 => ?_) fun x hx => hx)
    split at hk'
    · rename_i hok
      rw [Bool.and_eq_true, decide_eq_true_eq] at hok
      have r3 := r1.up g2.same
      have ru : Rep X.K F1 H2 u k := r2.flat (keyOk_flat hok.1)
      have rv2 : Rep X.K F1 H2 v q.1 := p1.stay (.of_same g2.same) fun _ h => h
      obtain ⟨a', k2, k4, k5, ob⟩ := r3.own i _ e3 rfl
      rw [e2] at k2
      cases k2
      cases t with
      | false =>
        obtain ⟨kvs, hh, rfl, rr⟩ := ob
        obtain ⟨k', rfl, rfl⟩ := key_f ru hok.1
        rw [List.length_map] at hok
        refine ⟨a, _, rfl, DPut.k hh hok.2, ?_⟩
        obtain ⟨p1', p2⟩ := put_val keq_ky k' rv2 rr
        exact hk' F1 _ σ (r3.write e3 rfl e2 fun H' st z => ⟨_, z, p1', p2.stay st fun _ h => h⟩) hp
      | true =>
        obtain ⟨kvs, hh, rfl, rr⟩ := ob
        obtain ⟨k', b, rfl, rfl, hb⟩ := key_t ru hok.1
        rw [List.length_map] at hok
        refine ⟨a, _, rfl, DPut.t hh hb hok.2, ?_⟩
        obtain ⟨p1', p2⟩ := put_val keq_kyT k' rv2 rr
        exact hk' F1 _ σ (r3.write e3 rfl e2 fun H' st z => ⟨_, z, p1', p2.stay st fun _ h => h⟩) hp
    · exact hk'.elim
  · exact hq.elim
/-! ### own things made in a def that changes lists -/
theorem Pin.own {σ : L2.St} {pin : Pn} (h : Pin σ pin) {i : Nat} (hi : i ∉ pin.map (·.1)) (a : Addr) : Pin (σ.set i (some (.ref a))) pin := h.set hi _
theorem dmu_setO {i : Nat} {x : Str} {pos' : Pos} {f : DSt → Res (List PyData)} (hN : X.N.Nodup) (hi : X.N[i]? = some x) (hx : L2.Loc X.env.scope x) (he : DF X W S e te f) (hM : i ∉ M) (hs : swapsWith e (some (.Name x pos')) pos.line X.env = pure false := by rfl) (hf : X.fn x = true ∨ X.env.scope.names.lookup x = some .local := by first | exact .inl rfl | exact .inr rfl | assumption) :
    DMu X W M (.Assign [.Name x pos'] e pos) (tAsg te (gName i)) (upM (asgO S f i)) := by
  refine ⟨ps_set hN hi hx he.pe hs hf, fun pin hMp H0 Fz0 Fz H σ δ Dn r hp h => ?_⟩
  subst hMp
  unfold SKm upM asgO at h
  rw [wp_bind, wp_bind] at h
  refine atF he r (wp_mono h (fun ds hd q vs H1 F1 g1 np nf e z r1 => ?_) fun x hx => hx)
  have n0 : H0 q = none := none_of_same r.same np
  have hp' : Pin (σ.set i (some (.ref q))) pin := hp.set hM _
  by_cases hf : flatAll ds = true
  · rw [if_pos hf] at hd
    exact hd Fz H1 _ ((r.up g1.same).setOwn (s := .own ds) n0 (fun z => r.live q z np) ⟨vs, e, z, r1.flat hf⟩ (r.apart np) i) hp'
  · rw [if_neg hf] at hd
    exact hd F1 H1 _ ((r.frz g1).setOwn (s := .own ds) n0 nf ⟨vs, e, z, r1⟩ (fun j u ej oj => r.apart np g1.same j u (freeze_own ej oj).2 oj) i) hp'
theorem dmu_setD {i : Nat} {x : Str} {pos' : Pos} (tk : Bool) (hN : X.N.Nodup) (hi : X.N[i]? = some x) (hx : L2.Loc X.env.scope x) (hM : i ∉ M) (hf : X.fn x = true ∨ X.env.scope.names.lookup x = some .local := by first | exact .inl rfl | exact .inr rfl | assumption) (hs : swapsWith (.Dict [] [] p) (some (.Name x pos')) pos.line X.env = pure false := by rfl) :
    DMu X W M (.Assign [.Name x pos'] (.Dict [] [] p) pos) (tAsg (if tk then tDNewT else tDNewK) (gName i)) (upM (newD i tk)) := by
  refine ⟨ps_set hN hi hx (by cases tk; exact pe_dnewK; exact pe_dnewT) hs hf, fun pin hMp H0 Fz0 Fz H σ δ Dn r hp h => ?_⟩
  subst hMp
  cases tk with
  | false =>
    refine fun p np => h Fz _ _ (((r.up (same_upd np)).setOwn (s := .ownd false [] []) (none_of_same r.same np) (fun q => r.live p q np) ⟨[], upd_same, rfl, .nil⟩ (r.apart np) i)) (hp.set hM _)
  | true =>
    refine fun p np => h Fz _ _ (((r.up (same_upd np)).setOwn (s := .ownd true [] []) (none_of_same r.same np) (fun q => r.live p q np) ⟨[], upd_same, rfl, .nil⟩ (r.apart np) i)) (hp.set hM _)
/-! ### d = {k: v} -/
/-- something that belongs to nothing is changed -/
theorem Rel.writeN {K : PySem.W.Frag} {H0 H : Hp} {Fz0 Fz : FZ} {σ : L2.St} {δ : DSt} {p : Addr} {o : HO} (r : Rel K H0 Fz0 Fz H σ δ) (n0 : H0 p = none) (nf : ¬ Fz p) (st : Stay Fz H (upd H p o)) (ap : NoFoot H σ δ p) : Rel K H0 Fz0 Fz (upd H p o) σ δ := by
  have ne : ∀ {j : Nat} {u : SV} {b : Addr}, δ[j]? = some (some u) → u.isOwn = true → σ[j]? = some (some (.ref b)) → ∀ x, Foot H b u x → x ≠ p := fun {j u b} e ho ea x f z => ap j u e ho b ea (z ▸ f)
  have back : ∀ {j : Nat} {u : SV} {b : Addr}, δ[j]? = some (some u) → u.isOwn = true → σ[j]? = some (some (.ref b)) → ∀ x, Foot (upd H p o) b u x → Foot H b u x := fun {j u b} e ho ea x f => foot_eq (upd_ne (ne e ho ea b (foot_top ho))) f
  refine ⟨same_upd2 r.same n0, r.sub0, r.new0, fun q z hq => ?_, r.len, fun j d e => ?_, fun j s e ho => ?_, fun i j s u a b x hij e1 o1 e2 o2 h1 h2 f1 f2 => ?_⟩
  · by_cases hqp : q = p
    · exact nf (hqp ▸ z)
    · rw [upd_ne hqp] at hq
      exact r.live q z hq
  · obtain ⟨v1, h1, h2⟩ := r.val j d e
    exact ⟨v1, h1, h2.stay st fun _ h => h⟩
  · obtain ⟨a1, h1, h2, h3⟩ := r.ownF j s e ho
    exact ⟨a1, h1, h2.keep st (fun _ h => h) fun x hx => upd_ne (ne e ho h1 x hx), fun x hx => h3 x (back e ho h1 x hx)⟩
  · exact r.sepF i j s u a b x hij e1 o1 e2 o2 h1 h2 (back e1 o1 h1 x f1) (back e2 o2 h2 x f2)
def newD1 (i : Nat) (fk fv : DSt → Res PyData) (δ : DSt) : Res Out := fk δ >>= fun k => fv δ >>= fun v => if keyOk false k && flat v then .ok (.nx (δ.set i (some (.ownd false [k] [v])))) else .bot
theorem ds_setD1 {i : Nat} {x : Str} {pos' : Pos} {fk fv : DSt → Res PyData} (hN : X.N.Nodup) (hi : X.N[i]? = some x) (hx : L2.Loc X.env.scope x) (hk : DE X W S a ta fk) (he : DE X W T b tb fv) (hf : X.fn x = true ∨ X.env.scope.names.lookup x = some .local := by first | exact .inl rfl | exact .inr rfl | assumption) (hs : swapsWith (.Dict [some a] [b] p) (some (.Name x pos')) pos.line X.env = pure false := by rfl) :
    DS X W (.Assign [.Name x pos'] (.Dict [some a] [b] p) pos) (tAsg (tDisp [(ta, tb)]) (gName i)) (newD1 i fk fv) := by
  refine ⟨ps_set hN hi hx (pe_disp (pps_cons hk.pe he.pe pps_nil) rfl rfl (by simp) (by simp)) hs hf, fun H0 Fz0 Fz H σ δ Dn r h => ?_⟩
  intro p np
  have r0 : Rel X.K H0 Fz0 Fz (upd H p (.dK [])) σ δ := r.up (same_upd np)
  unfold SOK newD1 at h
  rw [wp_bind] at h
  refine atE hk r0 (wp_mono h (fun k hk' u H1 F1 g1 r1 => ?_) fun x hx => hx)
  rw [wp_bind] at hk'
  refine atE he (r0.up g1.same) (wp_mono hk' (fun v hv w H2 F2 g2 r2 => ?_) fun x hx => hx)
  split at hv
  · rename_i hok
    rw [Bool.and_eq_true] at hok
    have e1 : H2 p = some (.dK []) := g2.same _ _ (g1.same _ _ upd_same)
    have ru : Rep X.K Fz H1 u k := r1.flat (keyOk_flat hok.1)
    obtain ⟨k', rfl, rfl⟩ := key_f ru hok.1
    have rw' : Rep X.K Fz H2 w v := r2.flat hok.2
    have r3 : Rel X.K H0 Fz0 Fz H2 σ δ := (r0.up g1.same).up g2.same
    have nf : ¬ Fz p := fun z => r.live p z np
    have ap : NoFoot H2 σ δ p := r.apart np (same_trans (same_upd np) (same_trans g1.same g2.same))
    refine ⟨e1, [(k', w)], rfl, by simp, ?_⟩
    have em : mergeK [] [(k', w)] = [(k', w)] := rfl
    rw [em]
    have st : Stay Fz H2 (upd H2 p (.dK [(k', w)])) := .write nf e1 ⟨(fun _ z => by cases z), (fun _ _ z => by cases z)⟩
    have r4 : Rel X.K H0 Fz0 Fz (upd H2 p (.dK [(k', w)])) σ δ := r3.writeN (none_of_same r.same np) nf st ap
    have ap2 : NoFoot (upd H2 p (.dK [(k', w)])) σ δ p := fun j u e ho b ea f => by
      have hne : b ≠ p := fun z => ap j u e ho b ea (by rw [z]; exact foot_top ho)
      exact ap j u e ho b ea (foot_eq (upd_ne hne) f)
    exact hv Fz _ _ (r4.setOwn (s := .ownd false [kyD k'] [v]) (none_of_same r.same np) nf ⟨[(k', w)], upd_same, rfl, .cons (rw'.stay st fun _ h => h) .nil⟩ ap2 i)
  · exact hv.elim
/-! ### loops in a def that changes lists -/
def forGoM (p : Pat) (body : DSt → Res OutM) : List PyData → DSt → Res OutM
  | [], δ => .ok (.nx δ)
  | x :: r, δ => nE (bindP p x δ) >>= fun δ1 => body δ1 >>= fun o => match o with
    | .nx δ2 => forGoM p body r δ2
    | .rt d δ2 => .ok (.rt d δ2)
def forFCM (S vs : List Nat) (g : DSt → Res (List PyData)) (p : Pat) (body : DSt → Res OutM) (δ : DSt) : Res OutM := g δ >>= fun xs => forGoM p body xs (wipeD (freeze S 0 δ) vs)
def forRCM (vs : List Nat) (g : DSt → Res (List PyData)) (p : Pat) (body : DSt → Res OutM) (δ : DSt) : Res OutM := g δ >>= fun xs => forGoM p body xs (wipeD δ vs)
def clrM (vs : List Nat) (f : DSt → Res OutM) : DSt → Res OutM := fun δ => f (wipeD δ vs)
theorem dmus_clr (vs : List Nat) {bs : List Stmt} {f : DSt → Res OutM} (h : DMus X W M bs ts f) : DMus X W M bs ts (clrM vs f) := ⟨h.pe, fun pin hM H0 Fz0 Fz H σ δ Dn r hp q => h.ok pin hM H0 Fz0 Fz H σ _ Dn (r.clr vs) hp q⟩
theorem SKm.rebase {K : PySem.W.Frag} {H0 H : Hp} {Fz0 Fz : FZ} {σ : L2.St} {δ : DSt} {mg : Str → Option Value} {pin : Pn} {x : Res OutM} {Dn : Ends} (r : Rel K H0 Fz0 Fz H σ δ) (h : SKm K mg U H0 Fz0 pin x Dn) : SKm K mg U (baseH H0 Fz H) Fz pin x Dn := by
  refine wp_mono h (fun o ho => ?_) fun x hx c oe H' F' g q => hx c oe H' F' (r.ungrow g) q
  cases o with
  | nx δ' => exact fun F' H' σ' q hp => ho F' H' σ' (r.unbase q) hp
  | rt d δ' => exact fun F' H' σ' v q hp rv => ho F' H' σ' v (r.unbase q) hp rv
theorem for_coreM {K0 : Unit} {H0 H : Hp} {Fz0 Fz : FZ} {σ : L2.St} {δ : DSt} {g : TG} {p : Pat} {body : DSt → Res OutM} {tb : TS} {sts : List Stmt} {pin : Pn} (hg : DG X tg g p) (hq : ∀ i ∈ p.slots, i ∉ pin.map (·.1)) (hb : DMus X (fun _ => U) (pin.map (·.1)) sts tb body) {Dn : Ends} {J : It} {ds : List PyData}
    (sv : Serves X.K Fz H J ds) (r : Rel X.K H0 Fz0 Fz H σ δ) (hp : Pin σ pin) (h : SKm X.K X.mg U H0 Fz0 pin (forGoM p body ds δ) Dn) :
    ∃ Wv : Nat → Nat → L2.St → Hp → Prop, (∃ m, Wv 0 m σ H) ∧ ∀ i m σ H, Wv i m σ H →
      (J.stop i H ∧ Dn.nx σ H) ∨ (J.go i H ∧ ∃ N : L2.St → Hp → Prop, (∀ σ' H', N σ' H' → ∃ m', m' < m ∧ Wv (i + 1) m' σ' H') ∧ ∀ x H', J.yld i H x H' → g x σ H' fun σ2 H2 => tb { Dn with nx := N, ct := N, bk := Dn.nx } σ2 H2) := by
  have h' := SKm.rebase r h
  have r' := r.rebase
  clear h
  refine ⟨fun i m σ2 H2 => m = ds.length - i ∧ i ≤ ds.length ∧ Pin σ2 pin ∧ ∃ F2 δ2, Rel X.K (baseH H0 Fz H) Fz F2 H2 σ2 δ2 ∧ SKm X.K X.mg U (baseH H0 Fz H) Fz pin (forGoM p body (ds.drop i) δ2) Dn,
    ⟨ds.length, by omega, Nat.zero_le _, hp, Fz, δ, r', h'⟩, ?_⟩
  rintro i m σ2 H2 ⟨rfl, hi, hp2, F2, δ2, r2, q2⟩
  have st : Stay Fz H H2 := base_stay r2.same
  by_cases hlt : i < ds.length
  · have hdd : ds.drop i = ds[i] :: ds.drop (i + 1) := List.drop_eq_getElem_cons hlt
    rw [hdd] at q2
    obtain ⟨go, yl⟩ := sv.item F2 H2 st r2.sub0 r2.live i ds[i] (List.getElem?_eq_getElem hlt)
    refine .inr ⟨go, fun σ' H' => Pin σ' pin ∧ ∃ F3 δ3, Rel X.K (baseH H0 Fz H) Fz F3 H' σ' δ3 ∧ SKm X.K X.mg U (baseH H0 Fz H) Fz pin (forGoM p body (ds.drop (i + 1)) δ3) Dn,
      fun σ' H' hN => ⟨ds.length - (i + 1), by omega, rfl, hlt, hN⟩, fun x H3 hy => ?_⟩
    obtain ⟨F3, g3, r3⟩ := yl x H3 hy
    unfold SKm forGoM at q2
    rw [wp_bind] at q2
    obtain ⟨δ1, hb1, q2⟩ := nEb q2
    have r4 : Rel X.K (baseH H0 Fz H) Fz F3 H3 σ2 δ2 := by
      have := r2.frz (S := []) (F1 := F3) ⟨g3.same, fun a h => h.elim (fun h => g3.sub a h) fun ⟨_, h, _⟩ => (by simp at h), fun a h => (g3.new a h).elim (fun z => .inl (.inl z)) .inr, fun _ => g3.live r2.live⟩
      rwa [freeze_nil] at this
    refine hg.ok F3 H3 _ x ds[i] σ2 δ2 _ (setsPin (K := X.K) (H0 := baseH H0 Fz H) (Fz0 := Fz) (pin := pin) hq) ⟨r4, hp2⟩ r3 ?_
    rw [hb1]
    intro σ5 r5
    rw [wp_bind] at q2
    refine hb.ok pin rfl _ _ F3 H3 σ5 δ1 _ r5.1 r5.2 (wp_mono q2 (fun o ho => ?_) fun x hx => hx)
    cases o with
    | nx δ' => exact fun F' H' σ' q hp' => ⟨hp', F', δ', q, ho⟩
    | rt d δ' => exact ho
  · have e : i = ds.length := by omega
    subst e
    rw [List.drop_length] at q2
    exact .inl ⟨sv.stop F2 H2 st r2.sub0 r2.live, q2 F2 H2 σ2 r2 hp2⟩
theorem dmu_forC (vs : List Nat) {iter : Expr} {body : List Stmt} {wi : TI} {g : TG} {p : Pat} {tb : TS} {f : DSt → Res (List PyData)} {fb : DSt → Res OutM} (hp : PassesOwn (model X.prog X.w) X.A X.env X.xe) (hc : X.calm = true) (hi : DI X (fun _ => U) S tg iter wi f) (hg : DG X tg g p) (hb : DMus X (fun _ => U) M body tb fb) (hq : ∀ i ∈ p.slots, i ∉ M)
    (hs : ∀ x, foldedSetIterable iter X.env x = pure x := by intro _; rfl) : DMu X (fun _ => U) M (.For tg iter body [] pos) (tFor wi g tb) (forFCM S vs f p fb) := by
  refine ⟨ps_for hp hc hi.pe hg.pe hb.pe hs, fun pin hM H0 Fz0 Fz H σ δ Dn r hpn h => ?_⟩
  subst hM
  unfold SKm forFCM at h
  rw [wp_bind] at h
  refine hi.ok _ σ H δ _ r.rd r.ownLive (wp_mono h (fun ds hd J H1 F1 g1 sv => ?_) fun x hx c oe H1 F1 g q => hx c oe H1 F1 (r.grow0 g) q)
  exact for_coreM (K0 := ()) hg hq hb sv ((r.frz g1).clr vs) hpn hd
theorem dmu_forRC (vs : List Nat) {iter : Expr} {body : List Stmt} {wi : TI} {g : TG} {p : Pat} {tb : TS} {f : DSt → Res (List PyData)} {fb : DSt → Res OutM} (hp : PassesOwn (model X.prog X.w) X.A X.env X.xe) (hc : X.calm = true) (hi : DR X (fun _ => U) S tg iter wi f) (hg : DG X tg g p) (hb : DMus X (fun _ => U) M body tb fb) (hq : ∀ i ∈ p.slots, i ∉ M)
    (hs : ∀ x, foldedSetIterable iter X.env x = pure x := by intro _; rfl) : DMu X (fun _ => U) M (.For tg iter body [] pos) (tFor wi g tb) (forRCM vs f p fb) := by
  refine ⟨ps_for hp hc hi.pe hg.pe hb.pe hs, fun pin hM H0 Fz0 Fz H σ δ Dn r hpn h => ?_⟩
  subst hM
  unfold SKm forRCM at h
  rw [wp_bind] at h
  refine hi.ok _ σ H δ _ r.rd r.ownLive (wp_mono h (fun ds hd J H1 F1 g1 sv => ?_) fun x hx c oe H1 F1 g q => hx c oe H1 F1 (r.grow0 g) q)
  exact for_coreM (K0 := ()) hg hq hb (sv Fz H1) ((r.up g1.same).clr vs) hpn hd
end
end DL

set_option Elab.async false
set_option linter.all false
set_option maxRecDepth 100000
set_option maxHeartbeats 4000000
namespace DL
open PySem PySem.Spec L2
open PyProof.Rows hiding St

/-! ### defs that are handed things of one's own of any kind (lists, dicts, instances) -/
/-- what belongs to the arguments -/
def FootO (H : Hp) (vs : List V) (ss : List SV) (x : Addr) : Prop := ∃ (i : Nat) (s : SV) (a : Addr), ss[i]? = some s ∧ s.isOwn = true ∧ vs[i]? = some (.ref a) ∧ Foot H a s x
noncomputable def outO (H : Hp) (vs : List V) (ss : List SV) : Hp := fun a => open Classical in if FootO H vs ss a then none else H a
theorem outO_in {H : Hp} {vs : List V} {ss : List SV} {a : Addr} (h : FootO H vs ss a) : outO H vs ss a = none := by
  unfold outO
  rw [if_pos h]
theorem outO_out {H : Hp} {vs : List V} {ss : List SV} {a : Addr} (h : ¬ FootO H vs ss a) : outO H vs ss a = H a := by
  unfold outO
  rw [if_neg h]
/-- the arguments' state, ahead and behind -/
abbrev RelO (K : PySem.W.Frag) (H : Hp) (Fz : FZ) (vs : List V) (ss : List SV) (Fz' : FZ) (H' : Hp) (ns : List SV) : Prop := Rel K (outO H vs ss) Fz Fz' H' (vs.map some) (ns.map some)
def spO (K : PySem.W.Frag) (n : Nat) (g : List SV → Res (PyData × List SV)) : Sp := fun vs H Q E =>
  ∃ ss Fz, vs.length = n ∧ RelO K H Fz vs ss Fz H ss ∧ (g ss).wp (fun r => ∀ v H' Fz', RelO K H Fz vs ss Fz' H' r.2 → Rep K Fz' H' v r.1 → Q v H') (fun _ => False)
theorem map_some_get {α : Type} {l : List α} {i : Nat} {x : α} : (l.map some)[i]? = some (some x) ↔ l[i]? = some x := by
  rw [List.getElem?_map]
  cases l[i]? with
  | none => simp
  | some y => simp
def startO (n : Nat) (ss : List SV) : DSt := ss.map some ++ List.replicate (n - ss.length) none
/-- what the arguments hold behind; mk: are they things of one's own -/
def outL : Nat → List Bool → List SV → DSt → Option (List SV)
  | _, [], _, _ => some []
  | i, true :: mk, _ :: ss, δ => match δ[i]? with
    | some (some s) => (outL (i + 1) mk ss δ).map (s :: ·)
    | _ => none
  | i, false :: mk, s :: ss, δ => (outL (i + 1) mk ss δ).map (s :: ·)
  | _, _ :: _, [], _ => none
def outR (mk : List Bool) (ss : List SV) (d : PyData) (δ : DSt) : Res (PyData × List SV) := match outL 0 mk ss δ with
  | some ns => .ok (d, ns)
  | none => .bot
/-- what is handed in fits: values where values are -/
def fitO : List Bool → List SV → Bool
  | [], [] => true
  | true :: mk, s :: ss => s.isOwn && fitO mk ss
  | false :: mk, s :: ss => !s.isOwn && fitO mk ss
  | _, _ => false
def fnO (n : Nat) (mk : List Bool) (b : DSt → Res OutM) (ss : List SV) : Res (PyData × List SV) := if fitO mk ss = true then nE (b (startO n ss)) >>= fun o => match o with
  | .nx δ => outR mk ss .none δ
  | .rt d δ => outR mk ss d δ else .bot
structure FDo (P : Program) (w : World) (K : PySem.W.Frag) (mg : Str → Option Value) (base : Heap) (k n : Nat) (x : Str) (g : List SV → Res (PyData × List SV)) : Prop where
  ex : ∃ (f : Addr) (fd : FuncData) (ps : List Str), FnOk P w K mg base CX0 k f fd ps (spO K n g) ∧ mg x = some (.ref f) ∧ PySem.W.keepIn K (.ref f) = true ∧ Binds K fd ps []
theorem FDo.mono {P : Program} {w : World} {K : PySem.W.Frag} {mg : Str → Option Value} {base : Heap} {k j n : Nat} {x : Str} {g : List SV → Res (PyData × List SV)} (h : FDo P w K mg base k n x g) (hk : k ≤ j) : FDo P w K mg base j n x g := by
  obtain ⟨f, fd, ps, F, h1, h2, h3⟩ := h.ex
  exact ⟨f, fd, ps, F.mono hk, h1, h2, h3⟩
/-- the pinned slots -/
def pinO : Nat → List Bool → List V → Pn
  | i, true :: mk, .ref a :: vs => (i, a) :: pinO (i + 1) mk vs
  | i, _ :: mk, _ :: vs => pinO (i + 1) mk vs
  | _, _, _ => []
theorem fitO_at : ∀ {mk : List Bool} {ss : List SV}, fitO mk ss = true → mk.length = ss.length ∧ ∀ (i : Nat) b s, mk[i]? = some b → ss[i]? = some s → s.isOwn = b
  | [], [], _ => ⟨rfl, fun i b s h => by cases h⟩
  | true :: mk, s :: ss, h => by
    have h : (s.isOwn && fitO mk ss) = true := h
    rw [Bool.and_eq_true] at h
    obtain ⟨h1, h2⟩ := fitO_at h.2
    refine ⟨by rw [List.length_cons, List.length_cons, h1], fun i b u hb hu => ?_⟩
    cases i with
    | zero => cases hb; cases hu; exact h.1
    | succ i => exact h2 i b u hb hu
  | false :: mk, s :: ss, h => by
    have h : (!s.isOwn && fitO mk ss) = true := h
    rw [Bool.and_eq_true] at h
    obtain ⟨h1, h2⟩ := fitO_at h.2
    refine ⟨by rw [List.length_cons, List.length_cons, h1], fun i b u hb hu => ?_⟩
    cases i with
    | zero => cases hb; cases hu; simpa using h.1
    | succ i => exact h2 i b u hb hu
theorem outL_at : ∀ {mk : List Bool} {ss ns : List SV} {δ : DSt} (k : Nat), outL k mk ss δ = some ns → mk.length = ss.length → ns.length = ss.length ∧ ∀ (i : Nat) s, ns[i]? = some s → (mk[i]? = some true ∧ δ[k + i]? = some (some s)) ∨ (mk[i]? = some false ∧ ss[i]? = some s)
  | [], [], ns, δ, k, h, _ => by
    cases h
    exact ⟨rfl, fun i s h => by cases h⟩
  | true :: mk, u :: ss, ns, δ, k, h, hl => by
    unfold outL at h
    split at h
    · rename_i s hs
      cases q : outL (k + 1) mk ss δ with
      | none => rw [q] at h; cases h
      | some c =>
        rw [q] at h
        cases h
        obtain ⟨h1, h2⟩ := outL_at (k + 1) q (by simpa using hl)
        refine ⟨by rw [List.length_cons, List.length_cons, h1], fun i s' hi => ?_⟩
        cases i with
        | zero => cases hi; exact .inl ⟨rfl, hs⟩
        | succ i =>
          rw [show k + (i + 1) = k + 1 + i by omega]
          exact h2 i s' hi
    · cases h
  | false :: mk, u :: ss, ns, δ, k, h, hl => by
    unfold outL at h
    cases q : outL (k + 1) mk ss δ with
    | none => rw [q] at h; cases h
    | some c =>
      rw [q] at h
      cases h
      obtain ⟨h1, h2⟩ := outL_at (k + 1) q (by simpa using hl)
      refine ⟨by rw [List.length_cons, List.length_cons, h1], fun i s' hi => ?_⟩
      cases i with
      | zero => cases hi; exact .inr ⟨rfl, rfl⟩
      | succ i =>
        rw [show k + (i + 1) = k + 1 + i by omega]
        exact h2 i s' hi
  | b :: mk, [], ns, δ, k, h, hl => by cases hl
  | [], s :: ss, ns, δ, k, h, hl => by cases hl
theorem pinO_idx : ∀ {mk : List Bool} {vs : List V} (k : Nat), vs.length = mk.length → (∀ (i : Nat), mk[i]? = some true → ∃ a, vs[i]? = some (.ref a)) → (pinO k mk vs).map (·.1) = idxM k mk
  | [], [], k, _, _ => rfl
  | true :: mk, v :: vs, k, hl, h => by
    obtain ⟨a, ha⟩ := h 0 rfl
    have ha : some v = some (V.ref a) := ha
    cases ha
    show k :: (pinO (k + 1) mk vs).map (·.1) = _
    rw [pinO_idx (k + 1) (by simpa using hl) fun i hi => h (i + 1) hi]
    rfl
  | false :: mk, v :: vs, k, hl, h => by
    have : pinO k (false :: mk) (v :: vs) = pinO (k + 1) mk vs := by cases v <;> rfl
    rw [this, pinO_idx (k + 1) (by simpa using hl) fun i hi => h (i + 1) hi]
    rfl
theorem pinO_mem : ∀ {mk : List Bool} {vs : List V} (k : Nat), ∀ p ∈ pinO k mk vs, ∃ i, p.1 = k + i ∧ mk[i]? = some true ∧ vs[i]? = some (.ref p.2)
  | [], vs, k, p, h => by cases vs <;> cases h
  | true :: mk, [], k, p, h => by cases h
  | false :: mk, [], k, p, h => by cases h
  | true :: mk, v :: vs, k, p, h => by
    cases v with
    | ref a =>
      rcases List.mem_cons.mp h with rfl | h
      · exact ⟨0, rfl, rfl, rfl⟩
      · obtain ⟨i, h1, h2, h3⟩ := pinO_mem (k + 1) p h
        exact ⟨i + 1, by omega, h2, h3⟩
    | _ =>
      obtain ⟨i, h1, h2, h3⟩ := pinO_mem (k + 1) p h
      exact ⟨i + 1, by omega, h2, h3⟩
  | false :: mk, v :: vs, k, p, h => by
    have e : pinO k (false :: mk) (v :: vs) = pinO (k + 1) mk vs := by cases v <;> rfl
    rw [e] at h
    obtain ⟨i, h1, h2, h3⟩ := pinO_mem (k + 1) p h
    exact ⟨i + 1, by omega, h2, h3⟩
theorem mem_pinO : ∀ {mk : List Bool} {vs : List V} (k i : Nat) (a : Addr), mk[i]? = some true → vs[i]? = some (.ref a) → (k + i, a) ∈ pinO k mk vs
  | [], vs, k, i, a, h, _ => by cases h
  | b :: mk, [], k, i, a, _, h => by cases h
  | b :: mk, v :: vs, k, 0, a, h1, h2 => by
    cases h1
    cases h2
    exact List.mem_cons_self
  | b :: mk, v :: vs, k, i + 1, a, h1, h2 => by
    have := mem_pinO (k + 1) i a h1 h2
    rw [show k + (i + 1) = k + 1 + i by omega]
    cases b with
    | false =>
      have e : pinO k (false :: mk) (v :: vs) = pinO (k + 1) mk vs := by cases v <;> rfl
      rw [e]
      exact this
    | true =>
      cases v with
      | ref c => exact List.mem_cons_of_mem _ this
      | _ => exact this
section
variable {K : PySem.W.Frag} {H H' : Hp} {Fz Fz' : FZ} {vs : List V} {ss ns : List SV} {n : Nat}
theorem start_at {N : List Str} {i : Nat} {v : V} : (L2.start N vs)[i]? = some (some v) ↔ vs[i]? = some v := by
  unfold L2.start
  by_cases hi : i < vs.length
  · rw [List.getElem?_append_left (by rw [List.length_map]; exact hi), map_some_get]
  · rw [List.getElem?_append_right (by rw [List.length_map]; omega), List.getElem?_eq_none (by omega : vs.length ≤ i)]
    constructor
    · intro h
      obtain ⟨_, h⟩ := List.getElem?_eq_some_iff.mp h
      rw [List.getElem_replicate] at h
      cases h
    · intro h; cases h
theorem startO_at {i : Nat} {s : SV} : (startO n ss)[i]? = some (some s) ↔ ss[i]? = some s := by
  unfold startO
  by_cases hi : i < ss.length
  · rw [List.getElem?_append_left (by rw [List.length_map]; exact hi), map_some_get]
  · rw [List.getElem?_append_right (by rw [List.length_map]; omega), List.getElem?_eq_none (by omega : ss.length ≤ i)]
    constructor
    · intro h
      obtain ⟨_, h⟩ := List.getElem?_eq_some_iff.mp h
      rw [List.getElem_replicate] at h
      cases h
    · intro h; cases h
/-- the entry -/
theorem entryO (N : List Str) (hn : vs.length ≤ N.length) (r : RelO K H Fz vs ss Fz H ss) : Rel K (outO H vs ss) Fz Fz H (L2.start N vs) (startO N.length ss) := by
  have hl : vs.length = ss.length := by simpa using r.len
  refine ⟨r.same, r.sub0, r.new0, r.live, ?_, fun i d e => ?_, fun i s e ho => ?_, fun i j s u a b x hij e1 o1 e2 o2 h1 h2 => ?_⟩
  · unfold L2.start startO
    rw [List.length_append, List.length_append, List.length_map, List.length_map, List.length_replicate, List.length_replicate, hl]
  · obtain ⟨v, h1, h2⟩ := r.val i d (map_some_get.mpr (startO_at.mp e))
    exact ⟨v, start_at.mpr (map_some_get.mp h1), h2⟩
  · obtain ⟨a, h1, h2⟩ := r.ownF i s (map_some_get.mpr (startO_at.mp e)) ho
    exact ⟨a, start_at.mpr (map_some_get.mp h1), h2⟩
  · exact r.sepF i j s u a b x hij (map_some_get.mpr (startO_at.mp e1)) o1 (map_some_get.mpr (startO_at.mp e2)) o2 (map_some_get.mpr (start_at.mp h1)) (map_some_get.mpr (start_at.mp h2))
theorem stayO (r : RelO K H Fz vs ss Fz H ss) (s : Same (outO H vs ss) H') : Stay Fz H H' := fun a o ha hk => by
  refine s a o ?_
  rw [outO_out]
  · exact ha
  · rintro ⟨i, u, b, h1, h2, h3, h4⟩
    obtain ⟨_, nf, o', h5, m1, m2⟩ := r.foot (map_some_get.mpr h1) h2 (map_some_get.mpr h3) h4
    rw [h5] at ha
    cases ha
    rcases hk with hk | ⟨xs, hk⟩ | ⟨p, q, hk⟩
    · exact nf hk
    · exact m1 xs hk
    · exact m2 p q hk
/-- the exit -/
theorem exitO {mk : List Bool} {σ' : L2.St} {δ' : DSt} (r : RelO K H Fz vs ss Fz H ss) (hf : fitO mk ss = true) (q : Rel K (outO H vs ss) Fz Fz' H' σ' δ') (hp : Pin σ' (pinO 0 mk vs)) (hc : outL 0 mk ss δ' = some ns) : RelO K H Fz vs ss Fz' H' ns := by
  obtain ⟨l1, fit⟩ := fitO_at hf
  obtain ⟨l2, at_⟩ := outL_at 0 hc l1
  have hl : vs.length = ss.length := by simpa using r.len
  have st := stayO r q.same
  have get : ∀ {i : Nat} {s : SV}, ns[i]? = some s → (∃ a, vs[i]? = some (.ref a) ∧ σ'[i]? = some (some (.ref a)) ∧ δ'[i]? = some (some s)) ∨ (ss[i]? = some s ∧ s.isOwn = false) := fun {i s} h => by
    rcases at_ i s h with ⟨h1, h2⟩ | ⟨h1, h2⟩
    · rw [Nat.zero_add] at h2
      have hi : i < ss.length := by rw [← l1]; exact (List.getElem?_eq_some_iff.mp h1).1
      have hs : ss[i]? = some ss[i] := List.getElem?_eq_getElem hi
      obtain ⟨a, h3, _⟩ := r.ownF i _ (map_some_get.mpr hs) (fit i true _ h1 hs)
      have h4 := hp _ (mem_pinO 0 i a h1 (map_some_get.mp h3))
      rw [Nat.zero_add] at h4
      exact .inl ⟨a, map_some_get.mp h3, h4, h2⟩
    · exact .inr ⟨h2, fit i false s h1 h2⟩
  refine ⟨q.same, q.sub0, q.new0, q.live, by rw [List.length_map, List.length_map, hl, l2], fun i d e => ?_, fun i s e ho => ?_, fun i j s u a b x hij e1 o1 e2 o2 h1 h2 => ?_⟩
  · rcases get (map_some_get.mp e) with ⟨a, h1, h2, h3⟩ | ⟨h1, _⟩
    · obtain ⟨v, h4, h5⟩ := q.val i d h3
      rw [h2] at h4
      cases h4
      exact ⟨_, map_some_get.mpr h1, h5⟩
    · obtain ⟨v, h4, h5⟩ := r.val i d (map_some_get.mpr h1)
      exact ⟨v, h4, h5.stay st q.sub0⟩
  · rcases get (map_some_get.mp e) with ⟨a, h1, h2, h3⟩ | ⟨_, h1⟩
    · obtain ⟨b, h4, h5⟩ := q.ownF i s h3 ho
      rw [h2] at h4
      cases h4
      exact ⟨a, map_some_get.mpr h1, h5⟩
    · rw [h1] at ho; cases ho
  · rcases get (map_some_get.mp e1) with ⟨a', p1, p2, p3⟩ | ⟨_, p1⟩
    · rcases get (map_some_get.mp e2) with ⟨b', p4, p5, p6⟩ | ⟨_, p4⟩
      · have h1 := map_some_get.mp h1
        have h2 := map_some_get.mp h2
        rw [p1] at h1
        rw [p4] at h2
        cases h1
        cases h2
        exact q.sepF i j s u a b x hij p3 o1 p6 o2 p2 p5
      · rw [p4] at o2; cases o2
    · rw [p1] at o1; cases o1
end
theorem fno_of {P : Program} {w : World} {K : PySem.W.Frag} {mg : Str → Option Value} {base : Heap} {x qual : Str} {st : Stmt} {f : Addr} {fd : FuncData} {N ps : List Str} {k : Nat} {mk : List Bool} (F : Fun K x qual st f fd) (S : FnScope N ps (defScope st)) (hmk : mk.length = ps.length) (hN : ps.length ≤ N.length) {g : DSt → Res OutM}
    (hbody : ∀ (cdv : Value) (A : Around) (outer : List Env) (s : Shared) (H : Hp) (E : XK), Room k (A.deeper (envOfC qual (defScope st) s.heap.objs.size f cdv)) →
      ∃ t, DMus (cxOf CX0 P w K mg base N qual (defScope st) f cdv A outer s H E).nox (fun _ => E0) (idxM 0 mk) (defBody st) t g) : FnOk P w K mg base CX0 (k + 1) f fd ps (spO K ps.length (fnO N.length mk g)) := by
  refine F.ok S (fun vs H Q E h => ?_) (fun cdv A outer s H vs Q E hr h => ?_)
  · obtain ⟨ss, Fz, h1, _⟩ := h
    exact h1
  obtain ⟨t, ht⟩ := hbody cdv A outer s H E hr
  refine ⟨t, ht.pe, ?_⟩
  obtain ⟨ss, Fz, hl, r, q⟩ := h
  unfold fnO at q
  by_cases hf : fitO mk ss = true
  · rw [if_pos hf] at q
    have re := entryO N (by rw [hl]; exact hN) r
    obtain ⟨l1, fit⟩ := fitO_at hf
    have hvs : vs.length = ss.length := by simpa using r.len
    refine ht.ok (pinO 0 mk vs) (pinO_idx 0 (by rw [hvs, l1]) fun i hi => ?_) _ Fz Fz H (start N vs) (startO N.length ss) _ re (fun p hp => ?_) ?_
    · have h1 : i < ss.length := by rw [← l1]; exact (List.getElem?_eq_some_iff.mp hi).1
      have hs : ss[i]? = some ss[i] := List.getElem?_eq_getElem h1
      obtain ⟨a, h3, _⟩ := r.ownF i _ (map_some_get.mpr hs) (fit i true _ hi hs)
      exact ⟨a, map_some_get.mp h3⟩
    · obtain ⟨i, h1, h2, h3⟩ := pinO_mem 0 p hp
      rw [h1, Nat.zero_add]
      exact start_at.mpr h3
    unfold SKm
    rw [wp_bind] at q
    refine wp_mono (nE_wpA q) (fun o q => ?_) (fun _ h => h)
    have fin : ∀ (d : PyData) (δ' : DSt) (F' : FZ) (H' : Hp) (σ' : L2.St) (v : V), (outR mk ss d δ').wp (fun r' => ∀ v H' Fz', RelO K H Fz vs ss Fz' H' r'.2 → Rep K Fz' H' v r'.1 → Q v H') (fun _ => False) → Rel K (outO H vs ss) Fz F' H' σ' δ' → Pin σ' (pinO 0 mk vs) → Rep K F' H' v d → Q v H' := fun d δ' F' H' σ' v q rr hp rv => by
      unfold outR at q
      cases hc : outL 0 mk ss δ' with
      | none => rw [hc] at q; exact q.elim
      | some c =>
        rw [hc] at q
        exact q v H' F' (exitO r hf rr hp hc) rv
    cases o with
    | nx δ' => exact fun F' H' σ' rr hp => fin .none δ' F' H' σ' .non q rr hp .non
    | rt d δ' => exact fun F' H' σ' v rr hp rv => fin d δ' F' H' σ' v q rr hp rv
  · rw [if_neg hf] at q
    exact q.elim
theorem fdo_of {P : Program} {w : World} {K : PySem.W.Frag} {mg : Str → Option Value} {base : Heap} {x : Str} {st : Stmt} {f : Addr} {fd : FuncData} {N ps : List Str} {k : Nat} {mk : List Bool} (F : Fun K x x st f fd) (hm : mg x = some (.ref f)) (b : Binds K fd ps []) (S : FnScope N ps (defScope st)) (hmk : mk.length = ps.length) (hN : ps.length ≤ N.length) {g : DSt → Res OutM}
    (hbody : ∀ (cdv : Value) (A : Around) (outer : List Env) (s : Shared) (H : Hp) (E : XK), Room k (A.deeper (envOfC x (defScope st) s.heap.objs.size f cdv)) →
      ∃ t, DMus (cxOf CX0 P w K mg base N x (defScope st) f cdv A outer s H E).nox (fun _ => E0) (idxM 0 mk) (defBody st) t g) : FDo P w K mg base (k + 1) ps.length x (fnO N.length mk g) :=
  ⟨f, fd, ps, fno_of F S hmk hN hbody, hm, F.kp, b⟩
end DL

set_option Elab.async false
set_option linter.all false
set_option maxRecDepth 100000
set_option maxHeartbeats 4000000
namespace DL
open PySem PySem.Spec L2
open PyProof.Rows hiding St

/-! ### .. called -/
inductive ArgsC (K : PySem.W.Frag) (Fz : FZ) (H : Hp) (σ : L2.St) (δ : DSt) : List MA → List V → List SV → Prop
  | nil : ArgsC K Fz H σ δ [] [] []
  | v {ks vs ss v d} : Rep K Fz H v d → ArgsC K Fz H σ δ ks vs ss → ArgsC K Fz H σ δ (.v :: ks) (v :: vs) (.val d :: ss)
  | o {ks vs ss i v s} : δ[i]? = some (some s) → s.isOwn = true → σ[i]? = some (some v) → ArgsC K Fz H σ δ ks vs ss → ArgsC K Fz H σ δ (.o i :: ks) (v :: vs) (s :: ss)
def setsO : List MA → List SV → DSt → DSt
  | .o i :: ks, s :: ns, δ => setsO ks ns (δ.set i (some s))
  | _ :: ks, _ :: ns, δ => setsO ks ns δ
  | _, _, δ => δ
theorem ixOf_nd : ∀ {ks : List MA}, (ixOf ks).Nodup → ∀ (k k' i : Nat), ks[k]? = some (MA.o i) → ks[k']? = some (MA.o i) → k = k'
  | [], _, k, k', i, h, _ => by cases h
  | kd :: ks, nd, k, k', i, h, h' => by
    have mem : ∀ {ks : List MA} {m i : Nat}, ks[m]? = some (MA.o i) → i ∈ ixOf ks := by
      intro ks
      induction ks with
      | nil => intro m i h; cases h
      | cons a ks ih =>
        intro m i h
        cases m with
        | zero => cases h; exact List.mem_cons_self
        | succ m =>
          have := ih (m := m) (i := i) h
          cases a with
          | o j => exact List.mem_cons_of_mem _ this
          | v => exact this
          | n => exact this
    have tail : (ixOf ks).Nodup := by
      cases kd with
      | o j => exact (List.nodup_cons.mp nd).2
      | v => exact nd
      | n => exact nd
    cases k with
    | zero =>
      cases k' with
      | zero => rfl
      | succ k' =>
        cases h
        exact absurd (mem (m := k') h') (List.nodup_cons.mp nd).1
    | succ k =>
      cases k' with
      | zero =>
        cases h'
        exact absurd (mem (m := k) h) (List.nodup_cons.mp nd).1
      | succ k' => rw [ixOf_nd tail k k' i h h']
theorem setsO_len : ∀ (ks : List MA) (ns : List SV) (δ : DSt), (setsO ks ns δ).length = δ.length
  | [], ns, δ => by cases ns <;> rfl
  | kd :: ks, [], δ => by cases kd <;> rfl
  | .o i :: ks, s :: ns, δ => by
    show (setsO ks ns (δ.set i (some s))).length = _
    rw [setsO_len, List.length_set]
  | .v :: ks, s :: ns, δ => setsO_len ks ns δ
  | .n :: ks, s :: ns, δ => setsO_len ks ns δ
theorem setsO_get : ∀ {ks : List MA} {ns : List SV} {δ : DSt}, ns.length = ks.length → ∀ {j : Nat} {s : SV}, (setsO ks ns δ)[j]? = some (some s) → (∃ k : Nat, ks[k]? = some (MA.o j) ∧ ns[k]? = some s) ∨ ((∀ k : Nat, ks[k]? ≠ some (MA.o j)) ∧ δ[j]? = some (some s))
  | [], [], δ, _, j, s, h => .inr ⟨(fun k z => by cases z), h⟩
  | .o i :: ks, u :: ns, δ, hl, j, s, h => by
    rcases setsO_get (ks := ks) (ns := ns) (δ := δ.set i (some u)) (by simpa using hl) h with ⟨k, h1, h2⟩ | ⟨h1, h2⟩
    · exact .inl ⟨k + 1, h1, h2⟩
    · rcases set_get h2 with ⟨rfl, _, h3⟩ | ⟨hij, h3⟩
      · exact .inl ⟨0, rfl, by rw [h3]; rfl⟩
      · refine .inr ⟨fun k z => ?_, h3⟩
        cases k with
        | zero => cases z; exact hij rfl
        | succ k => exact h1 k z
  | .v :: ks, u :: ns, δ, hl, j, s, h => by
    rcases setsO_get (ks := ks) (ns := ns) (δ := δ) (by simpa using hl) h with ⟨k, h1, h2⟩ | ⟨h1, h2⟩
    · exact .inl ⟨k + 1, h1, h2⟩
    · refine .inr ⟨fun k z => ?_, h2⟩
      cases k with
      | zero => cases z
      | succ k => exact h1 k z
  | .n :: ks, u :: ns, δ, hl, j, s, h => by
    rcases setsO_get (ks := ks) (ns := ns) (δ := δ) (by simpa using hl) h with ⟨k, h1, h2⟩ | ⟨h1, h2⟩
    · exact .inl ⟨k + 1, h1, h2⟩
    · refine .inr ⟨fun k z => ?_, h2⟩
      cases k with
      | zero => cases z
      | succ k => exact h1 k z
  | [], _ :: _, δ, hl, j, s, h => by cases hl
  | _ :: _, [], δ, hl, j, s, h => by cases hl
section
variable {K : PySem.W.Frag} {H0 H H' : Hp} {Fz0 Fz Fz' : FZ} {σ : L2.St} {δ : DSt} {ks : List MA} {vs : List V} {ss ns : List SV}
theorem ArgsC.len : ∀ {ks vs ss}, ArgsC K Fz H σ δ ks vs ss → vs.length = ks.length ∧ ss.length = ks.length
  | _, _, _, .nil => ⟨rfl, rfl⟩
  | _, _, _, .v _ m => ⟨by rw [List.length_cons, List.length_cons, m.len.1], by rw [List.length_cons, List.length_cons, m.len.2]⟩
  | _, _, _, .o _ _ _ m => ⟨by rw [List.length_cons, List.length_cons, m.len.1], by rw [List.length_cons, List.length_cons, m.len.2]⟩
theorem ArgsC.at : ∀ {ks vs ss}, ArgsC K Fz H σ δ ks vs ss → ∀ (k : Nat) s, ss[k]? = some s → ∃ v, vs[k]? = some v ∧ ((ks[k]? = some MA.v ∧ ∃ d, s = .val d ∧ Rep K Fz H v d) ∨ ∃ i, ks[k]? = some (MA.o i) ∧ δ[i]? = some (some s) ∧ s.isOwn = true ∧ σ[i]? = some (some v))
  | _, _, _, .nil, k, s, h => by cases h
  | _, _, _, .v r m, 0, s, h => by cases h; exact ⟨_, rfl, .inl ⟨rfl, _, rfl, r⟩⟩
  | _, _, _, .v r m, k + 1, s, h => m.at k s h
  | _, _, _, .o h1 h2 h3 m, 0, s, h => by cases h; exact ⟨_, rfl, .inr ⟨_, rfl, h1, h2, h3⟩⟩
  | _, _, _, .o h1 h2 h3 m, k + 1, s, h => m.at k s h
theorem ArgsC.slot : ∀ {ks vs ss}, ArgsC K Fz H σ δ ks vs ss → ∀ (k i : Nat), ks[k]? = some (MA.o i) → ∃ s v, ss[k]? = some s ∧ vs[k]? = some v ∧ δ[i]? = some (some s) ∧ s.isOwn = true ∧ σ[i]? = some (some v)
  | _, _, _, .nil, k, i, h => by cases h
  | _, _, _, .v r m, 0, i, h => by cases h
  | _, _, _, .v r m, k + 1, i, h => m.slot k i h
  | _, _, _, .o h1 h2 h3 m, 0, i, h => by cases h; exact ⟨_, _, rfl, rfl, h1, h2, h3⟩
  | _, _, _, .o h1 h2 h3 m, k + 1, i, h => m.slot k i h
theorem ArgsC.foot (r : Rel K H0 Fz0 Fz H σ δ) (m : ArgsC K Fz H σ δ ks vs ss) {x : Addr} (h : FootO H vs ss x) : ∃ (k j : Nat) (s : SV) (a : Addr), ks[k]? = some (MA.o j) ∧ δ[j]? = some (some s) ∧ s.isOwn = true ∧ σ[j]? = some (some (.ref a)) ∧ Foot H a s x := by
  obtain ⟨k, s, a, h1, h2, h3, h4⟩ := h
  obtain ⟨v, e1, e2⟩ := m.at k s h1
  rw [h3] at e1
  cases e1
  rcases e2 with ⟨_, d, rfl, _⟩ | ⟨i, p1, p2, p3, p4⟩
  · cases h2
  · exact ⟨k, i, s, a, p1, p2, p3, p4, h4⟩
/-- what the callee is given -/
theorem relO_in (r : Rel K H0 Fz0 Fz H σ δ) (m : ArgsC K Fz H σ δ ks vs ss) (nd : (ixOf ks).Nodup) : RelO K H Fz vs ss Fz H ss := by
  refine ⟨fun a o e => ?_, fun _ h => h, fun _ h => .inl h, r.live, by rw [List.length_map, List.length_map, m.len.1, m.len.2], fun k d e => ?_, fun k s e ho => ?_, fun k k' s u a b x hk e1 o1 e2 o2 h1 h2 f1 f2 => ?_⟩
  · by_cases h : FootO H vs ss a
    · rw [outO_in h] at e; cases e
    · rwa [outO_out h] at e
  · obtain ⟨v, e1, e2⟩ := m.at k _ (map_some_get.mp e)
    refine ⟨v, map_some_get.mpr e1, ?_⟩
    rcases e2 with ⟨_, d', h1, h2⟩ | ⟨i, _, _, h, _⟩
    · cases h1; exact h2
    · cases h
  · obtain ⟨v, e1, e2⟩ := m.at k _ (map_some_get.mp e)
    rcases e2 with ⟨_, d', h1, h2⟩ | ⟨i, p1, p2, p3, p4⟩
    · rw [h1] at ho; cases ho
    · obtain ⟨a, q1, q2, q3⟩ := r.ownF i s p2 p3
      rw [q1] at p4
      cases p4
      exact ⟨a, map_some_get.mpr e1, q2, fun x hx => ⟨outO_in ⟨k, s, a, map_some_get.mp e, ho, e1, hx⟩, (q3 x hx).2⟩⟩
  · have h1 := map_some_get.mp h1
    have h2 := map_some_get.mp h2
    obtain ⟨v, p1, p2⟩ := m.at k _ (map_some_get.mp e1)
    obtain ⟨v', p1', p2'⟩ := m.at k' _ (map_some_get.mp e2)
    rw [h1] at p1
    rw [h2] at p1'
    cases p1
    cases p1'
    rcases p2 with ⟨_, d', z, _⟩ | ⟨i, q1, q2, q3, q4⟩
    · rw [z] at o1; cases o1
    · rcases p2' with ⟨_, d', z, _⟩ | ⟨i', q1', q2', q3', q4'⟩
      · rw [z] at o2; cases o2
      · refine r.sepF i i' s u a b x (fun z => ?_) q2 q3 q2' q3' q4 q4' f1 f2
        subst z
        exact hk (ixOf_nd nd k k' i q1 q1')
/-- the caller's state behind -/
theorem relO_out (r : Rel K H0 Fz0 Fz H σ δ) (m : ArgsC K Fz H σ δ ks vs ss) (nd : (ixOf ks).Nodup) (q : RelO K H Fz vs ss Fz' H' ns) : Rel K H0 Fz0 Fz' H' σ (setsO ks ns δ) ∧ Stay Fz H H' := by
  have st : Stay Fz H H' := stayO (relO_in r m nd) q.same
  have hns : ns.length = ks.length := by
    have : (vs.map some).length = (ns.map some).length := q.len
    rw [List.length_map, List.length_map, m.len.1] at this
    exact this.symm
  have get := fun {j : Nat} {s : SV} (h : (setsO ks ns δ)[j]? = some (some s)) => setsO_get (δ := δ) hns h
  have fo : ∀ {x : Addr}, FootO H vs ss x → H0 x = none ∧ ¬ Fz x := fun {x} h => by
    obtain ⟨k, j, s, a, _, h2, h3, h4, h5⟩ := m.foot r h
    exact ⟨(r.foot h2 h3 h4 h5).1, (r.foot h2 h3 h4 h5).2.1⟩
  have on : ∀ {x : Addr}, outO H vs ss x = none → H0 x = none := fun {x} h => by
    by_cases hf : FootO H vs ss x
    · exact (fo hf).1
    · rw [outO_out hf] at h
      exact none_of_same r.same h
  -- what is not handed over
  have noF : ∀ {j : Nat} {s : SV} {a : Addr}, (∀ k : Nat, ks[k]? ≠ some (MA.o j)) → δ[j]? = some (some s) → s.isOwn = true → σ[j]? = some (some (.ref a)) → ∀ x, Foot H a s x → ¬ FootO H vs ss x := fun {j s a} hj e ho ea x hx hf => by
    obtain ⟨k, i, u, b, h1, h2, h3, h4, h5⟩ := m.foot r hf
    exact r.sepF i j u s b a x (fun z => hj k (z ▸ h1)) h2 h3 e ho h4 ea h5 hx
  have keepx : ∀ {j : Nat} {s : SV} {a : Addr}, (∀ k : Nat, ks[k]? ≠ some (MA.o j)) → δ[j]? = some (some s) → s.isOwn = true → σ[j]? = some (some (.ref a)) → ∀ x, Foot H a s x → H' x = H x := fun {j s a} hj e ho ea x hx => by
    obtain ⟨_, _, o, h5, _⟩ := r.foot e ho ea hx
    exact (q.same x o ((outO_out (noF hj e ho ea x hx)).trans h5)).trans h5.symm
  -- what was handed over
  have chg : ∀ {k j : Nat} {s : SV} {v : V}, ks[k]? = some (MA.o j) → ns[k]? = some s → σ[j]? = some (some v) → (vs.map some)[k]? = some (some v) ∧ (ns.map some)[k]? = some (some s) := fun {k j s v} h1 h2 h3 => by
    obtain ⟨_, v', _, p2, _, _, p5⟩ := m.slot k j h1
    rw [h3] at p5
    cases p5
    exact ⟨map_some_get.mpr p2, map_some_get.mpr h2⟩
  have hv : ∀ {k j : Nat}, ks[k]? = some (MA.o j) → ∃ v, σ[j]? = some (some v) := fun {k j} h1 => by
    obtain ⟨_, v', _, _, _, _, p5⟩ := m.slot k j h1
    exact ⟨v', p5⟩
  refine ⟨⟨fun b o hb => ?_, fun a h => q.sub0 a (r.sub0 a h), fun a h => ?_, q.live, by rw [setsO_len]; exact r.len, fun j d h => ?_, fun j s h ho => ?_, fun i j s u a b x hij h1 o1 h2 o2 h3 h4 f1 f2 => ?_⟩, st⟩
  · refine q.same b o ?_
    rw [outO_out]
    · exact r.same b o hb
    · intro hf
      rw [(fo hf).1] at hb; cases hb
  · rcases q.new0 a h with z | z
    · exact r.new0 a z
    · exact .inr (on z)
  · rcases get h with ⟨k, h1, h2⟩ | ⟨_, h2⟩
    · obtain ⟨v, h3⟩ := hv h1
      obtain ⟨c1, c2⟩ := chg h1 h2 h3
      obtain ⟨v', h4, h5⟩ := q.val k d c2
      rw [c1] at h4
      cases h4
      exact ⟨_, h3, h5⟩
    · obtain ⟨v, h3, h4⟩ := r.val j d h2
      exact ⟨v, h3, h4.stay st q.sub0⟩
  · rcases get h with ⟨k, h1, h2⟩ | ⟨hj, h2⟩
    · obtain ⟨v, h3⟩ := hv h1
      obtain ⟨c1, c2⟩ := chg h1 h2 h3
      obtain ⟨a, h4, h5, h6⟩ := q.ownF k s c2 ho
      rw [c1] at h4
      cases h4
      exact ⟨a, h3, h5, fun x hx => ⟨on (h6 x hx).1, (h6 x hx).2⟩⟩
    · obtain ⟨a, h3, h4, h5⟩ := r.ownF j s h2 ho
      refine ⟨a, h3, h4.keep st q.sub0 (keepx hj h2 ho h3), fun x hx => ?_⟩
      have hx := foot_eq (keepx hj h2 ho h3 a (foot_top ho)) hx
      refine ⟨(h5 x hx).1, fun w => ?_⟩
      rcases q.new0 x w with w | w
      · exact (h5 x hx).2 w
      · rw [outO_out (noF hj h2 ho h3 x hx)] at w
        obtain ⟨o, h6, _⟩ := h4.mutF hx
        rw [h6] at w; cases w
  · have mix : ∀ {i j : Nat} {s u : SV} {a b x : Addr} (k : Nat), ks[k]? = some (MA.o i) → ns[k]? = some s → s.isOwn = true → σ[i]? = some (some (.ref a)) → (∀ k : Nat, ks[k]? ≠ some (MA.o j)) → δ[j]? = some (some u) → u.isOwn = true → σ[j]? = some (some (.ref b)) → Foot H' a s x → Foot H' b u x → False := fun {i j s u a b x} k p1 p2 p3 p4 p5 p6 p7 p8 f1 f2 => by
      have f2 := foot_eq (keepx p5 p6 p7 p8 b (foot_top p7)) f2
      obtain ⟨c1, c2⟩ := chg p1 p2 p4
      obtain ⟨a', h4, _, h6⟩ := q.ownF k s c2 p3
      rw [c1] at h4
      cases h4
      have := (h6 x f1).1
      rw [outO_out (noF p5 p6 p7 p8 x f2)] at this
      obtain ⟨_, _, o, h7, _⟩ := r.foot p6 p7 p8 f2
      rw [h7] at this; cases this
    rcases get h1 with ⟨k, p1, p2⟩ | ⟨p1, p2⟩
    · rcases get h2 with ⟨k', p3, p4⟩ | ⟨p3, p4⟩
      · obtain ⟨c1, c2⟩ := chg p1 p2 h3
        obtain ⟨c3, c4⟩ := chg p3 p4 h4
        refine q.sepF k k' s u a b x (fun z => ?_) c2 o1 c4 o2 c1 c3 f1 f2
        subst z
        rw [p1] at p3
        cases p3
        exact hij rfl
      · exact mix k p1 p2 o1 h3 p3 p4 o2 h4 f1 f2
    · rcases get h2 with ⟨k', p3, p4⟩ | ⟨p3, p4⟩
      · exact mix k' p3 p4 o2 h4 p1 p2 o1 h3 f2 f1
      · exact r.sepF i j s u a b x hij p2 o1 p4 o2 h3 h4 (foot_eq (keepx p1 p2 o1 h3 a (foot_top o1)) f1) (foot_eq (keepx p3 p4 o2 h4 b (foot_top o2)) f2)
end
/-! ### the arguments -/
structure DAMo (X : Cx) (W : WS) (ks : List MA) (es : List Expr) (t : TA) (f : DSt → Res (List SV)) : Prop where
  pe : PA X es t
  ok : ∀ H0 Fz0 Fz H σ δ Q, Rel X.K H0 Fz0 Fz H σ δ → (f δ).wp (fun ss => ∀ vs H1, Same H H1 → Rel X.K H0 Fz0 Fz H1 σ δ → ArgsC X.K Fz H1 σ δ ks vs ss → Q vs H1) (XOK X.mg (W σ) H0 Fz0) → t σ H Q
def nO (_ : DSt) : Res (List SV) := .ok []
def vO (f : DSt → Res PyData) (g : DSt → Res (List SV)) (δ : DSt) : Res (List SV) := f δ >>= fun x => if flat x then g δ >>= fun xs => .ok (.val x :: xs) else .bot
/-- a name's value as it stands -/
def wO (i : Nat) (g : DSt → Res (List SV)) (δ : DSt) : Res (List SV) := match δ[i]? with
  | some (some (.val d)) => g δ >>= fun xs => .ok (.val d :: xs)
  | _ => .bot
def oO (i : Nat) (g : DSt → Res (List SV)) (δ : DSt) : Res (List SV) := match δ[i]? with
  | some (some s) => if s.isOwn then g δ >>= fun xs => .ok (s :: xs) else .bot
  | _ => .bot
def callO (ks : List MA) (f : DSt → Res (List SV)) (g : List SV → Res (PyData × List SV)) (δ : DSt) : Res (PyData × DSt) := f δ >>= fun ss => nE (g ss) >>= fun r => .ok (r.1, setsO ks r.2 δ)
section
variable {X : Cx} {W : WS} {U : XK} {S T M : List Nat} {e a b c tg : Expr} {es tgs : List Expr} {pos p ps0 : Pos} {te ta tb : TE} {tt : TT} {t : TA} {ts ts' : TS} {st : Stmt} {rest : List Stmt} {ks : List MA}
theorem damo_nil : DAMo X W [] [] tNil nO := ⟨pa_nil, fun H0 Fz0 Fz H σ δ Q r h => h [] H (fun _ _ e => e) r .nil⟩
theorem damo_val {f : DSt → Res PyData} {g : DSt → Res (List SV)} (he : DE X W S e te f) (hr : DAMo X W ks es t g) (hs : starEach (e :: es) X.env = (false, eval e X.env) :: starEach es X.env := by rfl) : DAMo X W (.v :: ks) (e :: es) (tCons te t) (vO f g) := by
  refine ⟨pa_cons he.pe hr.pe hs, fun H0 Fz0 Fz H σ δ Q r h => ?_⟩
  unfold vO at h
  rw [wp_bind] at h
  refine atE he r (wp_mono h (fun x hx v H1 F1 g1 r1 => ?_) fun x hx => hx)
  by_cases hf : flat x = true
  · rw [if_pos hf, wp_bind] at hx
    exact hr.ok H0 Fz0 Fz H1 σ δ _ (r.up g1.same) (wp_mono hx (fun xs hxs vs H2 s2 r2 m => hxs (v :: vs) H2 (same_trans g1.same s2) r2 (.v ((r1.flat hf : Rep X.K Fz H1 v x).stay (.of_same s2) fun _ h => h) m)) fun x hx => hx)
  · rw [if_neg hf] at hx
    exact hx.elim
theorem damo_var {i : Nat} {x : Str} {pos' : Pos} {g : DSt → Res (List SV)} (hN : X.N[i]? = some x) (hv : Vis X.env.scope x) (hr : DAMo X W ks es t g) (hs : starEach (.Name x pos' :: es) X.env = (false, eval (.Name x pos') X.env) :: starEach es X.env := by rfl) (hd : (x == ("__debug__" : Str)) = false := by decide) (hcd : (x == ("__classdict__" : Str)) = false := by decide) : DAMo X W (.v :: ks) (.Name x pos' :: es) (tCons (tVar i) t) (wO i g) := by
  refine ⟨pa_cons (pe_var hN hv hd hcd) hr.pe hs, fun H0 Fz0 Fz H σ δ Q r h => ?_⟩
  unfold wO at h
  split at h
  · rename_i d e1
    obtain ⟨v, e2, rv⟩ := r.val i _ e1
    rw [wp_bind] at h
    refine ⟨v, e2, ?_⟩
    exact hr.ok H0 Fz0 Fz H σ δ _ r (wp_mono h (fun rs hrs vs H2 s2 r2 m => hrs (v :: vs) H2 s2 r2 (.v (rv.stay (.of_same s2) fun _ h => h) m)) fun x hx => hx)
  · exact h.elim
theorem damo_own {i : Nat} {x : Str} {pos' : Pos} {g : DSt → Res (List SV)} (hN : X.N[i]? = some x) (hv : Vis X.env.scope x) (hr : DAMo X W ks es t g) (hs : starEach (.Name x pos' :: es) X.env = (false, eval (.Name x pos') X.env) :: starEach es X.env := by rfl) (hd : (x == ("__debug__" : Str)) = false := by decide) (hcd : (x == ("__classdict__" : Str)) = false := by decide) : DAMo X W (.o i :: ks) (.Name x pos' :: es) (tCons (tVar i) t) (oO i g) := by
  refine ⟨pa_cons (pe_var hN hv hd hcd) hr.pe hs, fun H0 Fz0 Fz H σ δ Q r h => ?_⟩
  unfold oO at h
  split at h
  · rename_i s e1
    by_cases ho : s.isOwn = true
    · rw [if_pos ho, wp_bind] at h
      obtain ⟨a, e2, _⟩ := r.own i _ e1 ho
      refine ⟨.ref a, e2, ?_⟩
      exact hr.ok H0 Fz0 Fz H σ δ _ r (wp_mono h (fun rs hrs vs H2 s2 r2 m => hrs (.ref a :: vs) H2 s2 r2 (.o e1 ho e2 m)) fun x hx => hx)
    · rw [if_neg ho] at h
      exact h.elim
  · exact h.elim
theorem dem_callO (K) (mg) {k j n : Nat} {x : Str} {g : List SV → Res (PyData × List SV)} {f : DSt → Res (List SV)} (c : FDo X.prog X.w K mg X.base k n x g) (hr : Room j X.A) (hk : k ≤ j) (hg : Gl X x) (hn : ks.length = n) (hnd : (ixOf ks).Nodup) (ha : DAMo X W ks (e :: es) t f) (hK : X.K = K := by rfl) (hMg : X.mg = mg := by rfl)
    (hdb : (x == ("__debug__" : Str)) = false := by decide) (he : starEach (e :: es) X.env = (false, eval e X.env) :: starEach es X.env := by rfl) (hpl : (backTo pos (starEach es X.env)).any (·.1) = false := by rfl) :
    DEm X W (.Call (.Name x p) (e :: es) [] pos) (tCall (spO K n g) [] L2.E0 t) (callO ks f g) := by
  subst hK hMg
  obtain ⟨fa, fd, ps, F, hm, kp, hb⟩ := c.ex
  refine ⟨pe_call F (hr.mono hk) hg hm kp hb .nil pass0 ha.pe hdb he hpl, fun H0 Fz0 Fz H σ δ Q r h => ?_⟩
  unfold callO at h
  rw [wp_bind] at h
  refine ha.ok H0 Fz0 Fz H σ δ _ r (wp_mono h (fun ss hss vs H1 s1 r1 m => ?_) fun x hx => hx)
  rw [wp_bind] at hss
  rw [List.append_nil]
  refine ⟨ss, Fz, m.len.1.trans hn, relO_in r1 m hnd, wp_mono (nE_wpA hss) (fun rr hds v H2 F2 q rv => ?_) fun _ h => h⟩
  obtain ⟨r2, st⟩ := relO_out r1 m hnd q
  exact hds v H2 F2 q.sub0 ((Stay.of_same s1).tr (fun _ h => h) st) r2 rv
end
end DL

set_option Elab.async false
set_option linter.all false
set_option maxRecDepth 100000
set_option maxHeartbeats 4000000
namespace DL
open PySem PySem.Spec L2
open PyProof.Rows hiding St

/-! ### instances: fields, methods, new ones -/
theorem zip_lookup : ∀ {names : List Str} {us : List V} {f : Str} {k : Nat} {u : V}, names.findIdx? (· == f) = some k → us[k]? = some u → (names.zip us).lookup f = some u
  | [], us, f, k, u, h, _ => by cases h
  | n :: names, [], f, k, u, _, h => by cases h
  | n :: names, v :: us, f, k, u, h, hu => by
    rw [List.zip_cons_cons, List.lookup_cons]
    rw [List.findIdx?_cons] at h
    by_cases q : n = f
    · subst q
      rw [if_pos (by simp)] at h
      cases h
      rw [show (n == n) = true by simp]
      exact hu
    · rw [if_neg (by simpa using q)] at h
      cases z : names.findIdx? (· == f) with
      | none => rw [z] at h; cases h
      | some k' =>
        rw [z] at h
        cases h
        rw [show (f == n) = false by simpa using fun e => q e.symm]
        exact zip_lookup z hu
theorem zip_lookup_none : ∀ {names : List Str} {us : List V} {f : Str}, names.contains f = false → (names.zip us).lookup f = none
  | [], us, f, _ => rfl
  | n :: names, [], f, _ => rfl
  | n :: names, v :: us, f, h => by
    rw [List.zip_cons_cons, List.lookup_cons]
    rw [List.contains_cons, Bool.or_eq_false_iff] at h
    rw [h.1]
    exact zip_lookup_none h.2
theorem putF_new : ∀ {names : List Str} {us : List V} {f : Str} {y : V}, names.contains f = false → us.length = names.length → L2.putF f y (names.zip us) = (names ++ [f]).zip (us ++ [y])
  | [], [], f, y, _, _ => rfl
  | [], _ :: _, f, y, _, h => by cases h
  | n :: names, [], f, y, _, h => by cases h
  | n :: names, v :: us, f, y, h, hl => by
    rw [List.contains_cons, Bool.or_eq_false_iff] at h
    have hn : ¬ n = f := fun e => by
      have := h.1
      rw [e] at this
      simp at this
    show (if n = f then (n, y) :: names.zip us else (n, v) :: L2.putF f y (names.zip us)) = (n, v) :: (names ++ [f]).zip (us ++ [y])
    rw [if_neg hn, putF_new h.2 (by simpa using hl)]
section
variable {K : PySem.W.Frag} {H0 H H' : Hp} {Fz0 Fz Fz' : FZ} {σ : L2.St} {δ : DSt}
theorem FsOk.at : ∀ {us : List V} {fs : List SF}, FsOk K Fz H us fs → ∀ {k : Nat} {f : SF}, fs[k]? = some f → ∃ u, us[k]? = some u ∧ ((f.isOwn = false ∧ Rep K Fz H u f.d) ∨ ∃ b, u = .ref b ∧ OwnF K Fz H b f ∧ b ∈ nest us fs)
  | _, _, .nil, k, f, h => by cases h
  | _, _, .val (u := u) r m, 0, f, h => by cases h; exact ⟨u, rfl, .inl ⟨rfl, r⟩⟩
  | _, _, .val r m, k + 1, f, h => by
    obtain ⟨u, h1, h2⟩ := m.at (k := k) h
    exact ⟨u, h1, h2.imp id fun ⟨b, e, o, hb⟩ => ⟨b, e, o, by rw [nest_val]; exact hb⟩⟩
  | _, _, .own (b := b) r m, 0, f, h => by cases h; exact ⟨.ref b, rfl, .inr ⟨b, rfl, r, by rw [nest_own r.own]; exact List.mem_cons_self⟩⟩
  | _, _, .own r m, k + 1, f, h => by
    obtain ⟨u, h1, h2⟩ := m.at (k := k) h
    exact ⟨u, h1, h2.imp id fun ⟨b, e, o, hb⟩ => ⟨b, e, o, by rw [nest_own r.own]; exact List.mem_cons_of_mem _ hb⟩⟩
theorem FsOk.set : ∀ {us : List V} {fs : List SF}, FsOk K Fz H us fs → (nest us fs).Nodup → ∀ {k : Nat} {b : Addr} {f f' : SF}, us[k]? = some (.ref b) → fs[k]? = some f → f.isOwn = true → Stay Fz H H' → (∀ y, y ≠ b → H' y = H y) → OwnF K Fz H' b f' → FsOk K Fz H' us (fs.set k f') ∧ nest us (fs.set k f') = nest us fs
  | _, _, .nil, nd, k, b, f, f', h, _, _, _, _, _ => by cases h
  | _, _, .val r m, nd, 0, b, f, f', h1, h2, h3, st, e, o => by cases h2; cases h3
  | _, _, .val (us := us) (fs := fs) r m, nd, k + 1, b, f, f', h1, h2, h3, st, e, o => by
    rw [nest_val] at nd
    obtain ⟨q1, q2⟩ := m.set nd (k := k) h1 h2 h3 st e o
    refine ⟨.val (r.stay st fun _ h => h) q1, ?_⟩
    show nest (_ :: us) (_ :: fs.set k f') = _
    rw [nest_val, nest_val, q2]
  | _, _, .own (us := us) (fs := fs) r m, nd, 0, b, f, f', h1, h2, h3, st, e, o => by
    cases h1
    cases h2
    rw [nest_own h3, List.nodup_cons] at nd
    refine ⟨.own o (m.keep st (fun _ h => h) fun x hx => e x fun z => nd.1 (z ▸ hx)), ?_⟩
    show nest (_ :: us) (f' :: fs) = _
    rw [nest_own o.own, nest_own h3]
  | _, _, .own (b := c) (us := us) (fs := fs) r m, nd, k + 1, b, f, f', h1, h2, h3, st, e, o => by
    rw [nest_own r.own, List.nodup_cons] at nd
    obtain ⟨q1, q2⟩ := m.set nd.2 (k := k) h1 h2 h3 st e o
    obtain ⟨u, p1, p2⟩ := m.at (k := k) h2
    have hb : b ∈ nest us fs := by
      rcases p2 with ⟨p2, _⟩ | ⟨b', p3, p4, p5⟩
      · rw [h3] at p2; cases p2
      · have p1 : us[k]? = some u := p1
        have h1 : us[k]? = some (.ref b) := h1
        rw [p3, h1] at p1
        cases p1
        exact p5
    refine ⟨.own (r.keep st (fun _ h => h) (e c fun z => nd.1 (z ▸ hb))) q1, ?_⟩
    show nest (_ :: us) (_ :: fs.set k f') = _
    rw [nest_own r.own, nest_own r.own, q2]
theorem FsOk.appV {us : List V} {fs : List SF} (h : FsOk K Fz H us fs) {y : V} {d : PyData} (r : Rep K Fz H y d) : FsOk K Fz H (us ++ [y]) (fs ++ [.val d]) := by
  induction h with
  | nil => exact .val r .nil
  | val a _ ih => exact .val a ih
  | own a _ ih => exact .own a ih
theorem FsOk.appO {us : List V} {fs : List SF} (h : FsOk K Fz H us fs) {p : Addr} {f : SF} (r : OwnF K Fz H p f) : FsOk K Fz H (us ++ [.ref p]) (fs ++ [f]) := by
  induction h with
  | nil => exact .own r .nil
  | val a _ ih => exact .val a ih
  | own a _ ih => exact .own a ih
theorem nest_appV {us : List V} {fs : List SF} (h : FsOk K Fz H us fs) {y : V} {d : PyData} : nest (us ++ [y]) (fs ++ [.val d]) = nest us fs := by
  induction h with
  | nil => exact nest_val
  | @val u d' us fs a _ ih =>
    show nest (u :: (us ++ [y])) (.val d' :: (fs ++ [.val d])) = _
    rw [nest_val, nest_val, ih]
  | @own b f us fs a _ ih =>
    show nest (.ref b :: (us ++ [y])) (f :: (fs ++ [.val d])) = _
    rw [nest_own a.own, nest_own a.own, ih]
theorem nest_appO {us : List V} {fs : List SF} (h : FsOk K Fz H us fs) {p : Addr} {f : SF} (ho : f.isOwn = true) : nest (us ++ [.ref p]) (fs ++ [f]) = nest us fs ++ [p] := by
  induction h with
  | nil => exact nest_own ho
  | @val u d' us fs a _ ih =>
    show nest (u :: (us ++ [.ref p])) (.val d' :: (fs ++ [f])) = _
    rw [nest_val, nest_val, ih]
  | @own b f' us fs a _ ih =>
    show nest (.ref b :: (us ++ [.ref p])) (f' :: (fs ++ [f])) = _
    rw [nest_own a.own, nest_own a.own, ih, List.cons_append]
/-- something that belongs to slot i is changed; new things may come to it -/
theorem Rel.writeH (r : Rel K H0 Fz0 Fz H σ δ) {i : Nat} {a x : Addr} {s s' : SV} {o : HO} (e : δ[i]? = some (some s)) (ho : s.isOwn = true) (ea : σ[i]? = some (some (.ref a))) (hx : Foot H a s x) (rv : ∀ H', Stay Fz H H' → H' x = some o → (∀ y, y ≠ x → H' y = H y) → OwnOb K Fz H' a s') (hf : ∀ y, Foot (upd H x o) a s' y → Foot H a s y ∨ (H0 y = none ∧ ¬ Fz y ∧ NoFoot H σ δ y)) :
    Rel K H0 Fz0 Fz (upd H x o) σ (δ.set i (some s')) := by
  obtain ⟨h3, h4, o1, h2, hm1, hm2⟩ := r.foot e ho ea hx
  have st : Stay Fz H (upd H x o) := .write h4 h2 ⟨hm1, hm2⟩
  have rv' := rv _ st upd_same fun y hy => upd_ne hy
  have io : s'.isOwn = true := rv'.own
  have oth : ∀ {j : Nat} {u : SV} {b : Addr}, i ≠ j → δ[j]? = some (some u) → u.isOwn = true → σ[j]? = some (some (.ref b)) → ∀ y, Foot H b u y → y ≠ x := fun {j u b} hij ej oj eb y hy q => by
    subst q
    exact r.sepF i j s u a b y hij e ho ej oj ea eb hx hy
  have back : ∀ {j : Nat} {u : SV} {b : Addr}, i ≠ j → δ[j]? = some (some u) → u.isOwn = true → σ[j]? = some (some (.ref b)) → ∀ y, Foot (upd H x o) b u y → Foot H b u y := fun {j u b} hij ej oj eb y hy =>
    foot_eq (upd_ne (oth hij ej oj eb b (foot_top oj))) hy
  have apt : ∀ {j : Nat} {u : SV} {b y : Addr}, i ≠ j → δ[j]? = some (some u) → u.isOwn = true → σ[j]? = some (some (.ref b)) → Foot H b u y → Foot (upd H x o) a s' y → False := fun {j u b y} hij ej oj eb f1 f2 => by
    rcases hf y f2 with q | ⟨_, _, q⟩
    · exact r.sepF i j s u a b y hij e ho ej oj ea eb q f1
    · exact q j u ej oj b eb f1
  refine ⟨same_upd2 r.same h3, r.sub0, r.new0, fun b z q => ?_, by rw [List.length_set]; exact r.len, fun j d' e' => ?_, fun j u e' oj => ?_, fun j k u1 u2 b c y hjk e1 o1 e2 o2 h1 h2' f1 f2 => ?_⟩
  · by_cases hb : b = x
    · subst hb; exact h4 z
    · rw [upd_ne hb] at q
      exact r.live b z q
  · rcases set_get e' with ⟨rfl, hl, q⟩ | ⟨hij, e'⟩
    · rw [q] at io; cases io
    · obtain ⟨v', h1, h2⟩ := r.val j d' e'
      exact ⟨v', h1, h2.stay st fun _ h => h⟩
  · rcases set_get e' with ⟨rfl, hl, q⟩ | ⟨hij, e'⟩
    · subst q
      refine ⟨a, ea, rv', fun y hy => ?_⟩
      rcases hf y hy with q | ⟨q1, q2, _⟩
      · exact ⟨(r.foot e ho ea q).1, (r.foot e ho ea q).2.1⟩
      · exact ⟨q1, q2⟩
    · obtain ⟨b, k1, k2, k3⟩ := r.ownF j u e' oj
      exact ⟨b, k1, k2.keep st (fun _ h => h) fun y hy => upd_ne (oth hij e' oj k1 y hy), fun y hy => k3 y (back hij e' oj k1 y hy)⟩
  · rcases set_get e1 with ⟨rfl, _, q1⟩ | ⟨hj, e1⟩
    · rcases set_get e2 with ⟨rfl, _, _⟩ | ⟨hk, e2⟩
      · exact hjk rfl
      · subst q1
        rw [ea] at h1
        cases h1
        exact apt hk e2 o2 h2' (back hk e2 o2 h2' y f2) f1
    · rcases set_get e2 with ⟨rfl, _, q2⟩ | ⟨hk, e2⟩
      · subst q2
        rw [ea] at h2'
        cases h2'
        exact apt hj e1 o1 h1 (back hj e1 o1 h1 y f1) f2
      · exact r.sepF j k u1 u2 b c y hjk e1 o1 e2 o2 h1 h2' (back hj e1 o1 h1 y f1) (back hk e2 o2 h2' y f2)
/-- a field's own thing is changed -/
theorem Rel.writeFld (r : Rel K H0 Fz0 Fz H σ δ) {i k : Nat} {a b C dx : Addr} {cn : Str} {names : List Str} {fs : List SF} {us : List V} {f f' : SF} {o : HO} (e : δ[i]? = some (some (.ins cn names fs))) (ea : σ[i]? = some (some (.ref a))) (hc : ClsAt K cn C) (ha : H a = some (.ins C dx (names.zip us))) (hl : us.length = names.length) (hu : us[k]? = some (.ref b)) (hf : fs[k]? = some f) (ho : f.isOwn = true)
    (rv : ∀ H', Stay Fz H H' → H' b = some o → OwnF K Fz H' b f') : Rel K H0 Fz0 Fz (upd H b o) σ (δ.set i (some (.ins cn names (fs.set k f')))) := by
  obtain ⟨a', h1, ⟨C', dx', us', h2, h3, h4, h5, h6⟩, h7⟩ := r.ownF i _ e rfl
  rw [ea] at h1
  cases h1
  rw [ha] at h2
  have e1 : names.zip us = names.zip us' := by injection h2 with h2; injection h2
  have e2 := zip_inj hl h4 e1
  subst e2
  have hb : b ∈ nest us fs := by
    obtain ⟨u, p1, p2⟩ := h5.at hf
    rcases p2 with ⟨p2, _⟩ | ⟨b', p3, p4, p5⟩
    · rw [ho] at p2; cases p2
    · rw [p3, hu] at p1
      cases p1
      exact p5
  have nd := List.nodup_cons.mp h6
  have hab : a ≠ b := fun z => nd.1 (z ▸ hb)
  have hH : ∀ H' : Hp, H' b = some o → (∀ y, y ≠ b → H' y = H y) → H' a = some (.ins C dx (names.zip us)) := fun H' _ q => (q a hab).trans ha
  have obn : ∀ H' : Hp, Stay Fz H H' → H' b = some o → (∀ y, y ≠ b → H' y = H y) → FsOk K Fz H' us (fs.set k f') ∧ nest us (fs.set k f') = nest us fs := fun H' st q1 q2 => h5.set nd.2 hu hf ho st q2 (rv H' st q1)
  have ne : nest us (fs.set k f') = nest us fs := by
    obtain ⟨o1, m1, m2⟩ := h5.mut b hb
    exact (obn (upd H b o) (.write (h7 b (ins_foot ha hl (List.mem_cons_of_mem _ hb))).2 m1 m2) upd_same fun y hy => upd_ne hy).2
  refine r.writeH e rfl ea (ins_foot ha hl (List.mem_cons_of_mem _ hb)) (fun H' st q1 q2 => ⟨C, dx, us, hH H' q1 q2, hc, hl, (obn H' st q1 q2).1, by rw [ne]; exact h6⟩) fun y hy => .inl ?_
  have := foot_ins (hH (upd H b o) upd_same fun y hy => upd_ne hy) hl hy
  rw [ne] at this
  exact ins_foot ha hl this
end
/-! reading -/
def strsOf : List PyData → Option (List Str)
  | [] => some []
  | .str x :: r => (strsOf r).map (x :: ·)
  | _ :: _ => none
theorem strsOf_map : ∀ names : List Str, strsOf (names.map PyData.str) = some names
  | [] => rfl
  | n :: names => by
    show (strsOf (names.map PyData.str)).map (n :: ·) = _
    rw [strsOf_map names]; rfl
def fldD (cn : Str) (names : List Str) (k : Nat) (d : PyData) : Res PyData := match d with
  | .dict [(.str c, .tuple ns), (.none, .tuple ds)] => if c = cn ∧ strsOf ns = some names then (match ds[k]? with | some x => .ok x | none => .bot) else .bot
  | _ => .bot
theorem fldD_ins (cn : Str) (names : List Str) (k : Nat) (ds : List PyData) {x : PyData} (h : ds[k]? = some x) : fldD cn names k (insD cn names ds) = .ok x := by
  show (if cn = cn ∧ strsOf (names.map PyData.str) = some names then _ else _) = _
  rw [if_pos ⟨rfl, strsOf_map names⟩, h]
structure FDMo (P : Program) (w : World) (K : PySem.W.Frag) (mg : Str → Option Value) (base : Heap) (k n : Nat) (cn m : Str) (g : List SV → Res (PyData × List SV)) : Prop where
  ex : ∃ (f : Addr) (fd : FuncData) (ps : List Str), FnOk P w K mg base CX0 k f fd ps (spO K n g) ∧ Binds K fd ps [] ∧ ∀ C, ClsAt K cn C → Cls K C ∧ Meth K C m f
structure FDI (P : Program) (w : World) (K : PySem.W.Frag) (mg : Str → Option Value) (base : Heap) (k n : Nat) (cn : Str) (g : List SV → Res (PyData × List SV)) : Prop where
  ex : ∃ (f : Addr) (fd : FuncData) (ps : List Str), FnOk P w K mg base CX0 k f fd ps (spO K n g) ∧ Binds K fd ps [] ∧ ∀ C, ClsAt K cn C → Mk K C f
def methO (cn : Str) (names : List Str) (i : Nat) (ks : List MA) (f : DSt → Res (List SV)) (g : List SV → Res (PyData × List SV)) (δ : DSt) : Res (PyData × DSt) := match δ[i]? with
  | some (some (.ins c ns fs)) => if c = cn ∧ ns = names then f δ >>= fun ss => nE (g (.ins c ns fs :: ss)) >>= fun r => .ok (r.1, setsO (.o i :: ks) r.2 δ) else .bot
  | _ => .bot
section
variable {X : Cx} {W : WS} {U : XK} {S T M : List Nat} {e a b c tg : Expr} {es tgs : List Expr} {pos p px apos ps0 : Pos} {te ta tb : TE} {tt : TT} {t : TA} {ts ts' : TS} {st : Stmt} {rest : List Stmt} {ks : List MA}
theorem de_fld {g : DSt → Res PyData} {cn f : Str} {names : List Str} {k : Nat} {C : Addr} (hC : ClsAt X.K cn C) (hcl : Cls X.K C) (hno : NoAttr X.K C f) (hix : names.findIdx? (· == f) = some k) (he : DE X W S e te g) (hb : attributeBase e f X.env (eval e X.env) = eval e X.env := by rfl) : DE X W S (.Attribute e f pos) (tFld X.K te f) (u1 (fldD cn names k) g) := by
  refine ⟨pe_fld he.pe hb, fun Fz σ H δ Q hd hl h => ?_⟩
  unfold EOK u1 at h
  rw [wp_bind] at h
  refine he.ok Fz σ H δ _ hd hl (wp_mono h (fun x hx v H1 F1 g1 r1 => ?_) fun x hx => hx)
  unfold fldD at hx
  split at hx
  · rename_i cn' ns ds
    split at hx
    · rename_i hq
      obtain ⟨rfl, hq⟩ := hq
      cases r1 with
      | @ins a C' dx _ names' us _ h1 h2 h3 h4 =>
        rw [strsOf_map] at hq
        cases hq
        have : C' = C := by
          have z : some (some (Value.ref C')) = some (some (Value.ref C)) := h2.symm.trans hC
          cases z
          rfl
        subst this
        split at hx
        · rename_i x hx2
          obtain ⟨u, h5, h6⟩ := h4.get hx2
          exact ⟨a, C', dx, _, u, rfl, h1.1, hcl, hno, zip_lookup hix h5, hx u H1 F1 g1 h6⟩
        · exact hx.elim
    · exact hx.elim
  · exact hx.elim
theorem dem_meth (K) (mg) {k j n i : Nat} {C : Addr} {cn x m : Str} {names : List Str} {g : List SV → Res (PyData × List SV)} {f : DSt → Res (List SV)} {pl : Sem Bool} (c : FDMo X.prog X.w K mg X.base k n cn m g) (hC : ClsAt K cn C) (hr : Room j X.A) (hk : k ≤ j) (hN : X.N[i]? = some x) (hv : Vis X.env.scope x) (hno : names.contains m = false) (hn : ks.length + 1 = n) (hnd : (ixOf (.o i :: ks)).Nodup) (ha : DAMo X W ks (e :: es) t f) (hK : X.K = K := by rfl) (hMg : X.mg = mg := by rfl)
    (hst : starEach (e :: es) X.env = (false, eval e X.env) :: starEach es X.env := by rfl) (hpl : (backTo pos (starEach es X.env)).any (·.1) = false := by rfl)
    (ht : eval (.Call (.Attribute (.Name x px) m apos) (e :: es) [] pos) X.env = (do
      let ov ← eval (.Name x px) X.env
      standAt apos.atName
      let (f, first) ← holding [ov] (getMethod ov m pl)
      callWith pos f first (backTo pos (starEach (e :: es) X.env)) (backToKw pos (keywordEach [] X.env))) := by rfl) (hd : (x == ("__debug__" : Str)) = false := by decide) (hcd : (x == ("__classdict__" : Str)) = false := by decide) :
    DEm X W (.Call (.Attribute (.Name x px) m apos) (e :: es) [] pos) (tMeth C m (spO K n g) [] L2.E0 (tVar i) t) (methO cn names i ks f g) := by
  subst hK hMg
  obtain ⟨fa, fd, ps, F, hb, hm⟩ := c.ex
  obtain ⟨hcl, hme⟩ := hm C hC
  refine ⟨pe_meth (pl := pl) (pe_var (i := i) hN hv hd hcd) hcl hme F (hr.mono hk) hb .nil pass0 ha.pe hst hpl ht, fun H0 Fz0 Fz H σ δ Q r h => ?_⟩
  unfold methO at h
  split at h
  · rename_i cn' ns fs e1
    by_cases hq : cn' = cn ∧ ns = names
    · obtain ⟨rfl, rfl⟩ := hq
      rw [if_pos ⟨rfl, rfl⟩, wp_bind] at h
      obtain ⟨a, e2, ⟨C', dx, us, h1, h2, h3, h4, h5⟩, h6⟩ := r.ownF i _ e1 rfl
      have : C' = C := by
        have z : some (some (Value.ref C')) = some (some (Value.ref C)) := h2.symm.trans hC
        cases z
        rfl
      subst this
      refine ⟨.ref a, e2, a, dx, _, rfl, h1, zip_lookup_none hno, ?_⟩
      refine ha.ok H0 Fz0 Fz H σ δ _ r (wp_mono h (fun ss hss vs H1 s1 r1 m1 => ?_) fun x hx => hx)
      rw [wp_bind] at hss
      have m2 : ArgsC X.K Fz H1 σ δ (.o i :: ks) (.ref a :: vs) (.ins cn' ns fs :: ss) := .o e1 rfl e2 m1
      rw [List.append_nil]
      refine ⟨_, Fz, m2.len.1.trans hn, relO_in r1 m2 hnd, wp_mono (nE_wpA hss) (fun rr hds v H2 F2 q rv => ?_) fun _ h => h⟩
      obtain ⟨r2, st⟩ := relO_out r1 m2 hnd q
      exact hds v H2 F2 q.sub0 ((Stay.of_same s1).tr (fun _ h => h) st) r2 rv
    · rw [if_neg hq] at h
      exact h.elim
  · exact h.elim
end
end DL

set_option Elab.async false
set_option linter.all false
set_option maxRecDepth 100000
set_option maxHeartbeats 4000000
namespace DL
open PySem PySem.Spec L2
open PyProof.Rows hiding St

/-! ### instances: what changes them, what makes them -/
def isOwnAt (fs : List SF) (k : Nat) : Bool := match fs[k]? with
  | some (.own _) => true
  | _ => false
theorem isOwnAt_ex {fs : List SF} {k : Nat} (h : isOwnAt fs k = true) : ∃ xs, fs[k]? = some (.own xs) := by
  unfold isOwnAt at h
  split at h
  · rename_i xs e
    exact ⟨xs, e⟩
  · cases h
/-- x.f.append(e) -/
def fappF (i : Nat) (cn : Str) (names : List Str) (k : Nat) (S : List Nat) (f : DSt → Res PyData) (δ : DSt) : Res Out := match δ[i]? with
  | some (some (.ins c ns fs0)) => if c = cn ∧ ns = names ∧ isOwnAt fs0 k = true then (f δ >>= fun d => match (if flat d then δ else freeze S 0 δ)[i]? with
    | some (some (.ins c ns fs)) => (match fs[k]? with
      | some (.own xs) => if c = cn ∧ ns = names ∧ xs.length < sizeLine then .ok (.nx ((if flat d then δ else freeze S 0 δ).set i (some (.ins c ns (fs.set k (.own (xs ++ [d]))))))) else .bot
      | _ => .bot)
    | _ => .bot) else .bot
  | _ => .bot
/-- self.f = e, in the order of __init__ -/
def fsetV (i : Nat) (cn : Str) (names : List Str) (x : Str) (S : List Nat) (f : DSt → Res PyData) (δ : DSt) : Res Out := f δ >>= fun d => match (if flat d then δ else freeze S 0 δ)[i]? with
  | some (some (.ins c ns fs)) => if c = cn ∧ ns = names then .ok (.nx ((if flat d then δ else freeze S 0 δ).set i (some (.ins c (ns ++ [x]) (fs ++ [.val d]))))) else .bot
  | _ => .bot
def fsetO (i : Nat) (cn : Str) (names : List Str) (x : Str) (S : List Nat) (f : DSt → Res (List PyData)) (δ : DSt) : Res Out := f δ >>= fun ds => match (if flatAll ds then δ else freeze S 0 δ)[i]? with
  | some (some (.ins c ns fs)) => if c = cn ∧ ns = names then .ok (.nx ((if flatAll ds then δ else freeze S 0 δ).set i (some (.ins c (ns ++ [x]) (fs ++ [.own ds]))))) else .bot
  | _ => .bot
/-- y = C(..) -/
def newO (j : Nat) (cn : Str) (ks : List MA) (f : DSt → Res (List SV)) (g : List SV → Res (PyData × List SV)) (δ : DSt) : Res OutM := if j < δ.length then (f δ >>= fun ss => nE (g (.ins cn [] [] :: ss)) >>= fun r => match r.1 with
  | .none => .ok (.nx (setsO (.o j :: ks) r.2 (δ.set j (some (.ins cn [] [])))))
  | _ => .bot) else .bot
section
variable {K : PySem.W.Frag} {H0 H H' : Hp} {Fz0 Fz Fz' : FZ} {σ : L2.St} {δ : DSt}
theorem cls_eq {K : PySem.W.Frag} {cn : Str} {C C' : Addr} (h : ClsAt K cn C) (h' : ClsAt K cn C') : C' = C := by
  have z : some (some (Value.ref C')) = some (some (Value.ref C)) := h'.symm.trans h
  cases z
  rfl
/-- a new field -/
theorem Rel.newFld (r : Rel K H0 Fz0 Fz H σ δ) {i : Nat} {a C dx : Addr} {cn x : Str} {names : List Str} {fs : List SF} {us : List V} {y : V} {f : SF} (e : δ[i]? = some (some (.ins cn names fs))) (ea : σ[i]? = some (some (.ref a))) (hc : ClsAt K cn C) (ha : H a = some (.ins C dx (names.zip us))) (hl : us.length = names.length)
    (hf : (f.isOwn = false ∧ Rep K Fz H y f.d ∧ ∃ d, f = .val d) ∨ ∃ p, y = .ref p ∧ OwnF K Fz H p f ∧ H0 p = none ∧ ¬ Fz p ∧ NoFoot H σ δ p) : Rel K H0 Fz0 Fz (upd H a (.ins C dx ((names ++ [x]).zip (us ++ [y])))) σ (δ.set i (some (.ins cn (names ++ [x]) (fs ++ [f])))) := by
  obtain ⟨a', h1, ⟨C', dx', us', h2, h3, h4, h5, h6⟩, h7⟩ := r.ownF i _ e rfl
  rw [ea] at h1
  cases h1
  rw [ha] at h2
  have e1 : names.zip us = names.zip us' := by injection h2 with h2; injection h2
  have e2 := zip_inj hl h4 e1
  subst e2
  have nd := List.nodup_cons.mp h6
  have hl2 : (us ++ [y]).length = (names ++ [x]).length := by rw [List.length_append, List.length_append, hl]; rfl
  have keep : ∀ H' : Hp, Stay Fz H H' → (∀ z, z ≠ a → H' z = H z) → FsOk K Fz H' us fs := fun H' st q => h5.keep st (fun _ h => h) fun z hz => q z fun w => nd.1 (w ▸ hz)
  have hup : (upd H a (.ins C dx ((names ++ [x]).zip (us ++ [y])))) a = some (.ins C dx ((names ++ [x]).zip (us ++ [y]))) := upd_same
  rcases hf with ⟨f1, f2, d, rfl⟩ | ⟨p, rfl, f2, f3, f4, f5⟩
  · refine r.writeH e rfl ea (.inl rfl) (fun H' st q1 q2 => ⟨C, dx, us ++ [y], q1, hc, hl2, (keep H' st q2).appV (f2.stay st fun _ h => h), by rw [nest_appV h5]; exact h6⟩) fun z hz => .inl ?_
    have := foot_ins hup hl2 hz
    rw [nest_appV h5] at this
    exact ins_foot ha hl this
  · have hpa : p ≠ a := fun z => f5 i _ e rfl a ea (by rw [z]; exact .inl rfl)
    have hpn : p ∉ nest us fs := fun z => f5 i _ e rfl a ea (ins_foot ha hl (List.mem_cons_of_mem _ z))
    refine r.writeH e rfl ea (.inl rfl) (fun H' st q1 q2 => ⟨C, dx, us ++ [.ref p], q1, hc, hl2, (keep H' st q2).appO (f2.keep st (fun _ h => h) (q2 p hpa)), ?_⟩) fun z hz => ?_
    · rw [nest_appO h5 f2.own, List.nodup_cons]
      refine ⟨fun z => ?_, List.nodup_append.mpr ⟨nd.2, by simp, fun z hz w hw q => ?_⟩⟩
      · rcases List.mem_append.mp z with z | z
        · exact nd.1 z
        · exact hpa (List.mem_singleton.mp z).symm
      · rw [List.mem_singleton.mp hw] at q
        exact hpn (q ▸ hz)
    · have := foot_ins hup hl2 hz
      rw [nest_appO h5 f2.own] at this
      rcases List.mem_cons.mp this with rfl | this
      · exact .inl (.inl rfl)
      · rcases List.mem_append.mp this with this | this
        · exact .inl (ins_foot ha hl (List.mem_cons_of_mem _ this))
        · rw [List.mem_singleton.mp this]
          exact .inr ⟨f3, f4, f5⟩
theorem ArgsC.mono {σ' : L2.St} {δ' : DSt} {H' : Hp} (st : Stay Fz H H') : ∀ {ks vs ss}, ArgsC K Fz H σ δ ks vs ss → (∀ i ∈ ixOf ks, δ'[i]? = δ[i]? ∧ σ'[i]? = σ[i]?) → ArgsC K Fz H' σ' δ' ks vs ss
  | _, _, _, .nil, _ => .nil
  | _, _, _, .v r m, h => .v (r.stay st fun _ h => h) (m.mono st h)
  | _, _, _, .o h1 h2 h3 m, h => .o ((h _ List.mem_cons_self).1.trans h1) h2 ((h _ List.mem_cons_self).2.trans h3) (m.mono st fun i hi => h i (List.mem_cons_of_mem _ hi))
end
section
variable {X : Cx} {W : WS} {U : XK} {S T M : List Nat} {e a b c tg : Expr} {es tgs : List Expr} {pos p p2 px apos ps0 : Pos} {te ta tb : TE} {tt : TT} {t : TA} {ts ts' : TS} {st : Stmt} {rest : List Stmt} {ks : List MA}
theorem dem_meth0 (K) (mg) {k j n i : Nat} {C : Addr} {cn x m : Str} {names : List Str} {g : List SV → Res (PyData × List SV)} {pl : Sem Bool} (c : FDMo X.prog X.w K mg X.base k n cn m g) (hC : ClsAt K cn C) (hr : Room j X.A) (hk : k ≤ j) (hN : X.N[i]? = some x) (hv : Vis X.env.scope x) (hno : names.contains m = false) (hn : 1 = n) (hK : X.K = K := by rfl) (hMg : X.mg = mg := by rfl)
    (ht : eval (.Call (.Attribute (.Name x px) m apos) [] [] pos) X.env = (do
      let ov ← eval (.Name x px) X.env
      standAt apos.atName
      let (f, first) ← holding [ov] (getMethod ov m pl)
      callWith pos f first (backTo pos (starEach [] X.env)) (backToKw pos (keywordEach [] X.env))) := by rfl) (hd : (x == ("__debug__" : Str)) = false := by decide) (hcd : (x == ("__classdict__" : Str)) = false := by decide) :
    DEm X W (.Call (.Attribute (.Name x px) m apos) [] [] pos) (tMeth C m (spO K n g) [] L2.E0 (tVar i) tNil) (methO cn names i [] nO g) := by
  subst hK hMg
  obtain ⟨fa, fd, ps, F, hb, hm⟩ := c.ex
  obtain ⟨hcl, hme⟩ := hm C hC
  refine ⟨pe_meth0 (pl := pl) (pe_var (i := i) hN hv hd hcd) hcl hme F (hr.mono hk) hb .nil pass0 ht, fun H0 Fz0 Fz H σ δ Q r h => ?_⟩
  unfold methO at h
  split at h
  · rename_i cn' ns fs e1
    by_cases hq : cn' = cn ∧ ns = names
    · obtain ⟨rfl, rfl⟩ := hq
      rw [if_pos ⟨rfl, rfl⟩, wp_bind] at h
      obtain ⟨a, e2, ⟨C', dx, us, h1, h2, h3, h4, h5⟩, h6⟩ := r.ownF i _ e1 rfl
      obtain rfl := cls_eq hC h2
      refine ⟨.ref a, e2, a, dx, _, rfl, h1, zip_lookup_none hno, ?_⟩
      have hss : (nE (g [.ins cn' ns fs]) >>= fun r => (.ok (r.1, setsO [.o i] r.2 δ) : Res (PyData × DSt))).wp _ _ := h
      rw [wp_bind] at hss
      have m2 : ArgsC X.K Fz H σ δ [.o i] [.ref a] [.ins cn' ns fs] := .o e1 rfl e2 .nil
      have hnd : (ixOf [.o i]).Nodup := by simp [ixOf]
      refine ⟨_, Fz, hn, relO_in r m2 hnd, wp_mono (nE_wpA hss) (fun rr hds v H2 F2 q rv => ?_) fun _ h => h⟩
      obtain ⟨r2, st⟩ := relO_out r m2 hnd q
      exact hds v H2 F2 q.sub0 st r2 rv
    · rw [if_neg hq] at h
      exact h.elim
  · exact h.elim
theorem dmu_fapp {i k : Nat} {cn x fl : Str} {names : List Str} {C : Addr} {f : DSt → Res PyData} {cpos : Pos} (hC : ClsAt X.K cn C) (hcl : Cls X.K C) (hno : NoAttr X.K C fl) (hix : names.findIdx? (· == fl) = some k) (hN : X.N[i]? = some x) (hv : Vis X.env.scope x) (he : DE X W S e te f)
    (hb : attributeBase (.Name x px) fl X.env (eval (.Name x px) X.env) = eval (.Name x px) X.env := by rfl)
    (hbase : attributeBase (.Attribute (.Name x px) fl p2) "append" X.env (eval (.Attribute (.Name x px) fl p2) X.env) = eval (.Attribute (.Name x px) fl p2) X.env := by rfl)
    (hfew : ((backTo cpos (starEach [e] X.env)).all (fun x => !x.1) && (backToKw cpos (keywordEach [] X.env)).all (fun x => x.1.isSome)
      && decide ([e].length + ([] : List Keyword).length + (if ([] : List Keyword).isEmpty then 0 else 1) < 30)) = true := by rfl)
    (hline : (apos.endLine == cpos.line) = true := by rfl) (hs : starEach [e] X.env = (false, eval e X.env) :: starEach [] X.env := by rfl) (hplain : (backTo cpos (starEach [] X.env)).any (·.1) = false := by rfl)
    (hsw : swapsWith (.Call (.Attribute (.Attribute (.Name x px) fl p2) "append" apos) [e] [] cpos) none pos.line X.env = pure false := by rfl) (hd : (x == ("__debug__" : Str)) = false := by decide) (hcd : (x == ("__classdict__" : Str)) = false := by decide) :
    DMu X W M (.Expr (.Call (.Attribute (.Attribute (.Name x px) fl p2) "append" apos) [e] [] cpos) pos) (tDrop (tBM X.K "list" rAppend (tFld X.K (tVar i) fl) (tCons te tNil))) (upM (fappF i cn names k S f)) := by
  refine ⟨ps_expr (pe_bm PySem.F.plainAttrs_list PySem.F.slot_list_append PySem.F.type_list_append mt_append (pe_fld (pe_var (i := i) hN hv hd hcd) hb) (pa_cons he.pe pa_nil hs) hbase hfew hline hs hplain) hsw, fun pin hM H0 Fz0 Fz H σ δ Dn r hp h => ?_⟩
  unfold SKm upM fappF at h
  rw [wp_bind] at h
  split at h
  · rename_i c0 ns0 fs0 e1
    split at h
    · rename_i hq
      obtain ⟨rfl, rfl, hq⟩ := hq
      rw [wp_bind] at h
      obtain ⟨a, e2, ⟨C', dx, us, h1, h2, h3, h4, h5⟩, h6⟩ := r.ownF i _ e1 rfl
      obtain rfl := cls_eq hC h2
      obtain ⟨xs0, hk⟩ := isOwnAt_ex hq
      obtain ⟨u, hu, hu2⟩ := h4.at hk
      obtain ⟨b, rfl, ⟨vs0, hb0, hb1, hb2⟩, hbn⟩ : ∃ b, u = .ref b ∧ OwnF X.K Fz H b (.own xs0) ∧ b ∈ nest us fs0 := by
        rcases hu2 with ⟨z, _⟩ | z
        · cases z
        · exact z
      refine ⟨.ref a, e2, a, C', dx, _, .ref b, rfl, h1, hcl, hno, zip_lookup hix hu, .inl ⟨rfl, _, .of hb0⟩, ?_⟩
      refine atE he r (wp_mono h (fun d hd v H1 F1 g1 r1 => ?_) fun x hx => hx)
      have fin : ∀ (F : FZ) (δ' : DSt), Rel X.K H0 Fz0 F H1 σ δ' → Rep X.K F H1 v d → ((match δ'[i]? with
          | some (some (.ins c ns fs)) => (match fs[k]? with
            | some (.own xs) => if c = c0 ∧ ns = ns0 ∧ xs.length < sizeLine then .ok (.nx (δ'.set i (some (.ins c ns (fs.set k (.own (xs ++ [d]))))))) else .bot
            | _ => .bot)
          | _ => .bot : Res Out)).wp (fun o => (match o with | .nx δ' => (.ok (.nx δ') : Res OutM) | _ => .bot).wp (OKm X.K H0 Fz0 pin Dn) (XOK X.mg (W σ) H0 Fz0)) (XOK X.mg (W σ) H0 Fz0) → rAppend (.ref b) [v] H1 fun _ H2 => Dn.nx σ H2 := fun F δ' r' rv q => by
        split at q
        · rename_i c1 ns1 fs1 e3
          split at q
          · rename_i xs hk1
            split at q
            · rename_i hz
              obtain ⟨rfl, rfl, hz⟩ := hz
              obtain ⟨a', k1, ⟨C2, dx2, us2, k2, k3, k4, k5, k6⟩, k7⟩ := r'.ownF i _ e3 rfl
              rw [e2] at k1
              cases k1
              have hH1 := g1.same _ _ h1
              rw [hH1] at k2
              have hC2 : C' = C2 ∧ dx = dx2 ∧ ns1.zip us = ns1.zip us2 := by
                injection k2 with k2
                injection k2 with z1 z2 z3
                exact ⟨z1, z2, z3⟩
              obtain ⟨rfl, rfl, z3⟩ := hC2
              have e5 := zip_inj h3 k4 z3
              subst e5
              obtain ⟨u2, p1, p2'⟩ := k5.at hk1
              rw [hu] at p1
              cases p1
              obtain ⟨b', eb, ⟨vs', hb0', hb1', hb2'⟩, _⟩ : ∃ b', V.ref b = .ref b' ∧ OwnF X.K F H1 b' (.own xs) ∧ b' ∈ nest us fs1 := by
                rcases p2' with ⟨z, _⟩ | z
                · cases z
                · exact z
              cases eb
              have l := hb2'.length
              exact ⟨b, vs', v, rfl, rfl, hb0', by omega, q F _ σ (r'.writeFld e3 e2 k3 hH1 k4 hu hk1 rfl fun H' st q => ⟨_, q, by rw [List.length_append, List.length_singleton]; omega, (hb2'.app (.cons rv .nil)).stay st fun _ h => h⟩) hp⟩
            · exact q.elim
          · exact q.elim
        · exact q.elim
      by_cases hf : flat d = true
      · simp only [hf, if_true] at hd
        exact fin Fz δ (r.up g1.same) (r1.flat hf) hd
      · simp only [hf, if_false] at hd
        exact fin F1 _ (r.frz g1) r1 hd
    · exact h.elim
  · exact h.elim
theorem dmu_fsetV {i : Nat} {cn x fl : Str} {names : List Str} {C : Addr} {f : DSt → Res PyData} {pos' : Pos} (hC : ClsAt X.K cn C) (hcl : Cls X.K C) (hno : NoAttr X.K C fl) (hnew : names.contains fl = false) (hlen : names.length < 1000) (hN : X.N[i]? = some x) (hv : Vis X.env.scope x) (he : DE X W S e te f)
    (hs : swapsWith e (some (.Attribute (.Name x px) fl pos')) pos.line X.env = pure false := by rfl) (hd : (x == ("__debug__" : Str)) = false := by decide) (hcd : (x == ("__classdict__" : Str)) = false := by decide) :
    DMu X W M (.Assign [.Attribute (.Name x px) fl pos'] e pos) (sFld X.K (tVar i) te fl) (upM (fsetV i cn names fl S f)) := by
  refine ⟨ps_fld (pe_var (i := i) hN hv hd hcd) he.pe hs, fun pin hM H0 Fz0 Fz H σ δ Dn r hp h => ?_⟩
  unfold SKm upM fsetV at h
  rw [wp_bind, wp_bind] at h
  refine atE he r (wp_mono h (fun d hd v H1 F1 g1 r1 => ?_) fun x hx => hx)
  have fin : ∀ (F : FZ) (δ' : DSt), Rel X.K H0 Fz0 F H1 σ δ' → Rep X.K F H1 v d → ((match δ'[i]? with
      | some (some (.ins c ns fs)) => if c = cn ∧ ns = names then .ok (.nx (δ'.set i (some (.ins c (ns ++ [fl]) (fs ++ [.val d]))))) else .bot
      | _ => .bot : Res Out)).wp (fun o => (match o with | .nx δ' => (.ok (.nx δ') : Res OutM) | _ => .bot).wp (OKm X.K H0 Fz0 pin Dn) (XOK X.mg (W σ) H0 Fz0)) (XOK X.mg (W σ) H0 Fz0) → tVar i σ H1 fun x H2 => ∃ a C dx fs, x = .ref a ∧ H2 a = some (.ins C dx fs) ∧ Cls X.K C ∧ NoAttr X.K C fl ∧ fs.length < 1000 ∧ Dn.nx σ (upd H2 a (.ins C dx (L2.putF fl v fs))) := fun F δ' r' rv q => by
    split at q
    · rename_i c1 ns1 fs1 e3
      split at q
      · rename_i hz
        obtain ⟨rfl, rfl⟩ := hz
        obtain ⟨a, k1, ⟨C2, dx, us, k2, k3, k4, k5, k6⟩, k7⟩ := r'.ownF i _ e3 rfl
        obtain rfl := cls_eq hC k3
        refine ⟨.ref a, k1, a, C2, dx, _, rfl, k2, hcl, hno, by rw [List.length_zip, k4]; omega, ?_⟩
        rw [putF_new hnew k4]
        exact q F _ σ (r'.newFld (f := .val d) e3 k1 k3 k2 k4 (.inl ⟨rfl, rv, d, rfl⟩)) hp
      · exact q.elim
    · exact q.elim
  by_cases hf : flat d = true
  · simp only [hf, if_true] at hd
    exact fin Fz δ (r.up g1.same) (r1.flat hf) hd
  · simp only [hf, if_false] at hd
    exact fin F1 _ (r.frz g1) r1 hd
theorem dmu_fsetO {i : Nat} {cn x fl : Str} {names : List Str} {C : Addr} {f : DSt → Res (List PyData)} {pos' : Pos} (hC : ClsAt X.K cn C) (hcl : Cls X.K C) (hno : NoAttr X.K C fl) (hnew : names.contains fl = false) (hlen : names.length < 1000) (hN : X.N[i]? = some x) (hv : Vis X.env.scope x) (he : DF X W S e te f)
    (hs : swapsWith e (some (.Attribute (.Name x px) fl pos')) pos.line X.env = pure false := by rfl) (hd : (x == ("__debug__" : Str)) = false := by decide) (hcd : (x == ("__classdict__" : Str)) = false := by decide) :
    DMu X W M (.Assign [.Attribute (.Name x px) fl pos'] e pos) (sFld X.K (tVar i) te fl) (upM (fsetO i cn names fl S f)) := by
  refine ⟨ps_fld (pe_var (i := i) hN hv hd hcd) he.pe hs, fun pin hM H0 Fz0 Fz H σ δ Dn r hp h => ?_⟩
  unfold SKm upM fsetO at h
  rw [wp_bind, wp_bind] at h
  refine atF he r (wp_mono h (fun ds hd q0 vs H1 F1 g1 np nf ep z r1 => ?_) fun x hx => hx)
  have n0 : H0 q0 = none := none_of_same r.same np
  have fin : ∀ (F : FZ) (δ' : DSt), Rel X.K H0 Fz0 F H1 σ δ' → OwnF X.K F H1 q0 (.own ds) → ¬ F q0 → NoFoot H1 σ δ' q0 → ((match δ'[i]? with
      | some (some (.ins c ns fs)) => if c = cn ∧ ns = names then .ok (.nx (δ'.set i (some (.ins c (ns ++ [fl]) (fs ++ [.own ds]))))) else .bot
      | _ => .bot : Res Out)).wp (fun o => (match o with | .nx δ' => (.ok (.nx δ') : Res OutM) | _ => .bot).wp (OKm X.K H0 Fz0 pin Dn) (XOK X.mg (W σ) H0 Fz0)) (XOK X.mg (W σ) H0 Fz0) → tVar i σ H1 fun x H2 => ∃ a C dx fs, x = .ref a ∧ H2 a = some (.ins C dx fs) ∧ Cls X.K C ∧ NoAttr X.K C fl ∧ fs.length < 1000 ∧ Dn.nx σ (upd H2 a (.ins C dx (L2.putF fl (.ref q0) fs))) := fun F δ' r' rv nq nfo q => by
    split at q
    · rename_i c1 ns1 fs1 e3
      split at q
      · rename_i hz
        obtain ⟨rfl, rfl⟩ := hz
        obtain ⟨a, k1, ⟨C2, dx, us, k2, k3, k4, k5, k6⟩, k7⟩ := r'.ownF i _ e3 rfl
        obtain rfl := cls_eq hC k3
        refine ⟨.ref a, k1, a, C2, dx, _, rfl, k2, hcl, hno, by rw [List.length_zip, k4]; omega, ?_⟩
        rw [putF_new hnew k4]
        exact q F _ σ (r'.newFld (f := .own ds) e3 k1 k3 k2 k4 (.inr ⟨q0, rfl, rv, n0, nq, nfo⟩)) hp
      · exact q.elim
    · exact q.elim
  by_cases hf : flatAll ds = true
  · simp only [hf, if_true] at hd
    exact fin Fz δ (r.up g1.same) ⟨vs, ep, z, r1.flat hf⟩ (fun w => r.live q0 w np) (r.apart np g1.same) hd
  · simp only [hf, if_false] at hd
    exact fin F1 _ (r.frz g1) ⟨vs, ep, z, r1⟩ nf (fun j u ej oj => r.apart np g1.same j u (freeze_own ej oj).2 oj) hd
end
end DL

set_option Elab.async false
set_option linter.all false
set_option maxRecDepth 100000
set_option maxHeartbeats 4000000
namespace DL
open PySem PySem.Spec L2
open PyProof.Rows hiding St

/-! ### y = C(..) -/
section
variable {X : Cx} {W : WS} {U : XK} {S T M : List Nat} {e a b c tg : Expr} {es tgs : List Expr} {pos p p2 px apos ps0 : Pos} {te ta tb : TE} {tt : TT} {t : TA} {ts ts' : TS} {st : Stmt} {rest : List Stmt} {ks : List MA}
theorem new_ok {Fz0 Fz : FZ} {H0 H : Hp} {σ : L2.St} {δ : DSt} {j n : Nat} {cn : Str} {C : Addr} {g : List SV → Res (PyData × List SV)} {vs : List V} {ss : List SV} {D : L2.St → Hp → Prop} {R : OutM → Prop} {E : Exn → Prop} (hC : ClsAt X.K cn C) (hn : ks.length + 1 = n) (hnd : (ixOf (.o j :: ks)).Nodup) (r : Rel X.K H0 Fz0 Fz H σ δ) (hj : j < δ.length) (m : ArgsC X.K Fz H σ δ ks vs ss)
    (h : (nE (g (.ins cn [] [] :: ss)) >>= fun r => (match r.1 with | .none => .ok (.nx (setsO (.o j :: ks) r.2 (δ.set j (some (.ins cn [] []))))) | _ => .bot : Res OutM)).wp R E) (hR : ∀ δ', R (.nx δ') → ∀ F H2 a, Rel X.K H0 Fz0 F H2 (σ.set j (some (.ref a))) δ' → D (σ.set j (some (.ref a))) H2) (hE : ∀ x, ¬ E x ∨ True) :
    ∀ x dx, H x = none → H dx = none → dx ≠ x → spO X.K n g (.ref x :: (vs ++ [])) (upd (upd H dx (.own x)) x (.ins C dx [])) (fun v H2 => v = .non ∧ D (σ.set j (some (.ref x))) H2) L2.E0 := by
  intro x dx nx ndx hne
  rw [List.append_nil]
  have s0 : Same H (upd (upd H dx (.own x)) x (.ins C dx [])) := fun b o e => by
    rw [upd_ne (ne_of_none e nx), upd_ne (ne_of_none e ndx)]
    exact e
  have hx : (upd (upd H dx (.own x)) x (.ins C dx [])) x = some (.ins C dx []) := upd_same
  have r1 := r.up s0
  have nfx : ¬ Fz x := fun z => r.live x z nx
  have ob : OwnOb X.K Fz (upd (upd H dx (.own x)) x (.ins C dx [])) x (.ins cn [] []) := ⟨C, dx, [], hx, hC, rfl, .nil, by simp [nest]⟩
  have ft : ∀ y, Foot (upd (upd H dx (.own x)) x (.ins C dx [])) x (.ins cn [] []) y → y = x := fun y hy => by
    have := foot_ins (names := []) (us := []) hx rfl hy
    simpa [nest] using this
  have r2 := r1.setOwnG ob (fun y hy => by rw [ft y hy]; exact ⟨none_of_same r.same nx, nfx⟩) (fun y hy => by rw [ft y hy]; exact r.apart nx s0) j
  have hjs : (δ.set j (some (.ins cn [] [])))[j]? = some (some (.ins cn [] [])) := List.getElem?_set_self hj
  have hσ : (σ.set j (some (.ref x)))[j]? = some (some (.ref x)) := List.getElem?_set_self (by rw [r.len]; exact hj)
  have hjk : j ∉ ixOf ks := (List.nodup_cons.mp hnd).1
  have m2 : ArgsC X.K Fz (upd (upd H dx (.own x)) x (.ins C dx [])) (σ.set j (some (.ref x))) (δ.set j (some (.ins cn [] []))) (.o j :: ks) (.ref x :: vs) (.ins cn [] [] :: ss) := .o hjs rfl hσ (m.mono (.of_same s0) fun i hi => by
    have : j ≠ i := fun z => hjk (z ▸ hi)
    exact ⟨List.getElem?_set_ne this, List.getElem?_set_ne this⟩)
  rw [wp_bind] at h
  refine ⟨_, Fz, m2.len.1.trans hn, relO_in r2 m2 hnd, wp_mono (nE_wpA h) (fun rr hds v H2 F2 q rv => ?_) fun _ h => h⟩
  obtain ⟨r3, st⟩ := relO_out r2 m2 hnd q
  obtain ⟨d, ns⟩ := rr
  cases d with
  | none =>
    cases rv
    exact ⟨rfl, hR _ hds F2 H2 x r3⟩
  | _ => exact hds.elim
theorem dmu_new (K) (mg) {k n j kl : Nat} {C : Addr} {cn y : Str} {pos' : Pos} {g : List SV → Res (PyData × List SV)} {f : DSt → Res (List SV)} (hN : X.N.Nodup) (hi : X.N[j]? = some y) (hx : L2.Loc X.env.scope y) (c : FDI X.prog X.w K mg X.base k n cn g) (hC : ClsAt K cn C) (hm : X.mg cn = some (.ref C)) (hr : Room kl X.A) (hk : k + 1 ≤ kl) (hg : Gl X cn) (hn : ks.length + 1 = n) (hnd : (ixOf (.o j :: ks)).Nodup) (ha : DAMo X W ks (e :: es) t f) (hM : j ∉ M) (hK : X.K = K := by rfl) (hMg : X.mg = mg := by rfl)
    (hdb : (cn == ("__debug__" : Str)) = false := by decide) (he : starEach (e :: es) X.env = (false, eval e X.env) :: starEach es X.env := by rfl) (hpl : (backTo pos (starEach es X.env)).any (·.1) = false := by rfl)
    (hs : swapsWith (.Call (.Name cn p) (e :: es) [] pos) (some (.Name y pos')) ps0.line X.env = pure false := by rfl) (hf : X.fn y = true ∨ X.env.scope.names.lookup y = some .local := by first | exact .inl rfl | exact .inr rfl | assumption) :
    DMu X W M (.Assign [.Name y pos'] (.Call (.Name cn p) (e :: es) [] pos) ps0) (tAsg (tMake C (spO K n g) [] L2.E0 t) (gName j)) (newO j cn ks f g) := by
  subst hK hMg
  obtain ⟨fa, fd, ps, F, hb, hmk⟩ := c.ex
  refine ⟨ps_set hN hi hx (pe_make (hmk C hC) F (hr.mono hk) hg hm hb .nil pass0 ha.pe hdb he hpl) hs hf, fun pin hMp H0 Fz0 Fz H σ δ Dn r hp h => ?_⟩
  subst hMp
  unfold SKm newO at h
  by_cases hj : j < δ.length
  · rw [if_pos hj, wp_bind] at h
    refine ha.ok H0 Fz0 Fz H σ δ _ r (wp_mono h (fun ss hss vs H1 s1 r1 m => ?_) fun x hx => hx)
    exact new_ok hC hn hnd r1 hj m hss (fun δ' q F2 H2 a r3 => q F2 H2 _ r3 (hp.set hM _)) fun _ => .inr trivial
  · rw [if_neg hj] at h
    exact h.elim
theorem dmu_new0 (K) (mg) {k n j kl : Nat} {C : Addr} {cn y : Str} {pos' : Pos} {g : List SV → Res (PyData × List SV)} (hN : X.N.Nodup) (hi : X.N[j]? = some y) (hx : L2.Loc X.env.scope y) (c : FDI X.prog X.w K mg X.base k n cn g) (hC : ClsAt K cn C) (hm : X.mg cn = some (.ref C)) (hr : Room kl X.A) (hk : k + 1 ≤ kl) (hg : Gl X cn) (hn : 1 = n) (hM : j ∉ M) (hK : X.K = K := by rfl) (hMg : X.mg = mg := by rfl)
    (hdb : (cn == ("__debug__" : Str)) = false := by decide)
    (hs : swapsWith (.Call (.Name cn p) [] [] pos) (some (.Name y pos')) ps0.line X.env = pure false := by rfl) (hf : X.fn y = true ∨ X.env.scope.names.lookup y = some .local := by first | exact .inl rfl | exact .inr rfl | assumption) :
    DMu X W M (.Assign [.Name y pos'] (.Call (.Name cn p) [] [] pos) ps0) (tAsg (tMake C (spO K n g) [] L2.E0 tNil) (gName j)) (newO j cn [] nO g) := by
  subst hK hMg
  obtain ⟨fa, fd, ps, F, hb, hmk⟩ := c.ex
  refine ⟨ps_set hN hi hx (pe_make0 (hmk C hC) F (hr.mono hk) hg hm hb .nil pass0 hdb) hs hf, fun pin hMp H0 Fz0 Fz H σ δ Dn r hp h => ?_⟩
  subst hMp
  unfold SKm newO at h
  by_cases hj : j < δ.length
  · rw [if_pos hj] at h
    exact new_ok (ks := []) hC hn (by simp [ixOf]) r hj .nil h (fun δ' q F2 H2 a r3 => q F2 H2 _ r3 (hp.set hM _)) fun _ => .inr trivial
  · rw [if_neg hj] at h
    exact h.elim
theorem dss_down {sts : List Stmt} {f : DSt → Res OutM} (h : DMus X W [] sts ts f) : DSs X W sts ts (downM f) := by
  refine ⟨h.pe, fun H0 Fz0 Fz H σ δ Dn r q => ?_⟩
  unfold SOK downM at q
  rw [wp_bind] at q
  refine h.ok [] rfl H0 Fz0 Fz H σ δ Dn r (fun p hp => nomatch hp) (wp_mono q (fun o ho => ?_) fun x hx => hx)
  cases o with
  | nx δ' => exact fun F H' σ' r' _ => ho F H' σ' r'
  | rt d δ' => exact fun F H' σ' v r' _ rv => ho F H' v ⟨r'.same, r'.sub0, r'.new0, fun _ => r'.live⟩ rv
theorem de_fldK (K) {g : DSt → Res PyData} {cn f : Str} {names : List Str} {k : Nat} {C : Addr} (hC : ClsAt K cn C) (hcl : Cls K C) (hno : NoAttr K C f) (hix : names.findIdx? (· == f) = some k) (he : DE X W S e te g) (hK : X.K = K := by rfl) (hb : attributeBase e f X.env (eval e X.env) = eval e X.env := by rfl) : DE X W S (.Attribute e f pos) (tFld X.K te f) (u1 (fldD cn names k) g) := by
  subst hK
  exact de_fld hC hcl hno hix he hb
theorem dmu_fappK (K) {i k : Nat} {cn x fl : Str} {names : List Str} {C : Addr} {f : DSt → Res PyData} {cpos : Pos} (hC : ClsAt K cn C) (hcl : Cls K C) (hno : NoAttr K C fl) (hix : names.findIdx? (· == fl) = some k) (hN : X.N[i]? = some x) (hv : Vis X.env.scope x) (he : DE X W S e te f) (hK : X.K = K := by rfl)
    (hb : attributeBase (.Name x px) fl X.env (eval (.Name x px) X.env) = eval (.Name x px) X.env := by rfl)
    (hbase : attributeBase (.Attribute (.Name x px) fl p2) "append" X.env (eval (.Attribute (.Name x px) fl p2) X.env) = eval (.Attribute (.Name x px) fl p2) X.env := by rfl)
    (hfew : ((backTo cpos (starEach [e] X.env)).all (fun x => !x.1) && (backToKw cpos (keywordEach [] X.env)).all (fun x => x.1.isSome)
      && decide ([e].length + ([] : List Keyword).length + (if ([] : List Keyword).isEmpty then 0 else 1) < 30)) = true := by rfl)
    (hline : (apos.endLine == cpos.line) = true := by rfl) (hs : starEach [e] X.env = (false, eval e X.env) :: starEach [] X.env := by rfl) (hplain : (backTo cpos (starEach [] X.env)).any (·.1) = false := by rfl)
    (hsw : swapsWith (.Call (.Attribute (.Attribute (.Name x px) fl p2) "append" apos) [e] [] cpos) none pos.line X.env = pure false := by rfl) (hd : (x == ("__debug__" : Str)) = false := by decide) (hcd : (x == ("__classdict__" : Str)) = false := by decide) :
    DMu X W M (.Expr (.Call (.Attribute (.Attribute (.Name x px) fl p2) "append" apos) [e] [] cpos) pos) (tDrop (tBM X.K "list" rAppend (tFld X.K (tVar i) fl) (tCons te tNil))) (upM (fappF i cn names k S f)) := by
  subst hK
  exact dmu_fapp hC hcl hno hix hN hv he hb hbase hfew hline hs hplain hsw hd hcd
theorem dmu_fsetVK (K) {i : Nat} {cn x fl : Str} {names : List Str} {C : Addr} {f : DSt → Res PyData} {pos' : Pos} (hC : ClsAt K cn C) (hcl : Cls K C) (hno : NoAttr K C fl) (hnew : names.contains fl = false) (hlen : names.length < 1000) (hN : X.N[i]? = some x) (hv : Vis X.env.scope x) (he : DE X W S e te f) (hK : X.K = K := by rfl)
    (hs : swapsWith e (some (.Attribute (.Name x px) fl pos')) pos.line X.env = pure false := by rfl) (hd : (x == ("__debug__" : Str)) = false := by decide) (hcd : (x == ("__classdict__" : Str)) = false := by decide) :
    DMu X W M (.Assign [.Attribute (.Name x px) fl pos'] e pos) (sFld X.K (tVar i) te fl) (upM (fsetV i cn names fl S f)) := by
  subst hK
  exact dmu_fsetV hC hcl hno hnew hlen hN hv he hs hd hcd
theorem dmu_fsetOK (K) {i : Nat} {cn x fl : Str} {names : List Str} {C : Addr} {f : DSt → Res (List PyData)} {pos' : Pos} (hC : ClsAt K cn C) (hcl : Cls K C) (hno : NoAttr K C fl) (hnew : names.contains fl = false) (hlen : names.length < 1000) (hN : X.N[i]? = some x) (hv : Vis X.env.scope x) (he : DF X W S e te f) (hK : X.K = K := by rfl)
    (hs : swapsWith e (some (.Attribute (.Name x px) fl pos')) pos.line X.env = pure false := by rfl) (hd : (x == ("__debug__" : Str)) = false := by decide) (hcd : (x == ("__classdict__" : Str)) = false := by decide) :
    DMu X W M (.Assign [.Attribute (.Name x px) fl pos'] e pos) (sFld X.K (tVar i) te fl) (upM (fsetO i cn names fl S f)) := by
  subst hK
  exact dmu_fsetO hC hcl hno hnew hlen hN hv he hs hd hcd
end
end DL

set_option Elab.async false
set_option linter.all false
set_option maxRecDepth 100000
set_option maxHeartbeats 4000000
namespace DL
open PySem PySem.Spec L2
open PyProof.Rows hiding St

/-! ### x = e where the value holds lists, but none of one's own: these stay one's own -/
def isN : PyData → Bool
  | .int _ => true
  | _ => false
/-- two rows of data that no list can have at once -/
def apL : List PyData → List PyData → Bool
  | [], [] => false
  | [], _ :: _ => true
  | _ :: _, [] => true
  | x :: xs, y :: ys => (isN x != isN y) || apL xs ys
mutual
def nocB (P : List PyData → Bool) : PyData → Bool
  | .none => true
  | .bool _ => true
  | .int _ => true
  | .str _ => true
  | .tuple xs => nocBs P xs
  | .list xs => P xs && nocBs P xs
  | .dict _ => false
def nocBs (P : List PyData → Bool) : List PyData → Bool
  | [] => true
  | x :: xs => nocB P x && nocBs P xs
end
def apS (δ : DSt) (ds : List PyData) (i : Nat) : Bool := match δ[i]? with
  | some (some (.own ys)) => apL ys ds
  | some (some (.val _)) => true
  | some none => true
  | none => true
  | _ => false
def offS (S : List Nat) (δ : DSt) (d : PyData) : Bool := S.all (fun i => apS δ [] i || apS δ [.none] i) && nocB (fun ds => S.all (apS δ ds)) d
theorem rep_isN {K : PySem.W.Frag} {Fz Fz' : FZ} {H H' : Hp} {v : V} {x y : PyData} (h : Rep K Fz H v x) (h2 : Rep K Fz' H' v y) : isN x = isN y := by
  cases h <;> cases h2 <;> rfl
theorem apL_no {K : PySem.W.Frag} {Fz Fz' : FZ} {H H' : Hp} : ∀ {vs : List V} {xs ys : List PyData}, RepAll K Fz H vs xs → RepAll K Fz' H' vs ys → apL xs ys = false
  | _, _, _, .nil, .nil => rfl
  | _, _, _, .cons h r, .cons h2 r2 => by
    rw [apL, rep_isN h h2, apL_no r r2]
    simp
section
variable {K : PySem.W.Frag} {F1 F2 : FZ} {H : Hp} {P : List PyData → Bool}
mutual
theorem Rep.off (hP : ∀ a vs ds, H a = some (.lst vs) → F1 a → RepAll K F1 H vs ds → P ds = true → F2 a) : ∀ {v : V} {d : PyData}, Rep K F1 H v d → nocB P d = true → Rep K F2 H v d
  | _, _, .non, _ => .non
  | _, _, .bl b, _ => .bl b
  | _, _, .int i, _ => .int i
  | _, _, .str x, _ => .str x
  | _, _, .lst h z r, e => by
    rw [nocB, Bool.and_eq_true] at e
    refine .lst ?_ z (r.off hP e.2)
    rcases h with ⟨h1, h2⟩ | h | h
    · exact .inl ⟨h1, hP _ _ _ h1 h2 r e.1⟩
    · exact .inr (.inl h)
    · exact .inr (.inr h)
  | _, _, .tup h z r, e => .tup h z (r.off hP (by rw [nocB] at e; exact e))
  | _, _, .dck h q r, e => by rw [nocB] at e; cases e
  | _, _, .dct h q r, e => by rw [nocB] at e; cases e
  | _, _, .pool _ _ _ _ _, e => by rw [nocB] at e; cases e
  | _, _, .nl _ _ _, e => by rw [nocB] at e; cases e
  | _, _, .ins _ _ _ _, e => by rw [nocB] at e; cases e
theorem RepAll.off (hP : ∀ a vs ds, H a = some (.lst vs) → F1 a → RepAll K F1 H vs ds → P ds = true → F2 a) : ∀ {vs : List V} {ds : List PyData}, RepAll K F1 H vs ds → nocBs P ds = true → RepAll K F2 H vs ds
  | _, _, .nil, _ => .nil
  | _, _, .cons h r, e => by
    rw [nocBs, Bool.and_eq_true] at e
    exact .cons (h.off hP e.1) (r.off hP e.2)
end
end
def asgP (S : List Nat) (f : DSt → Res PyData) (p : Pat) (δ : DSt) : Res Out := do
  let d ← f δ
  let δ' ← nE (bindP p d (if flat d || offS S δ d then δ else freeze S 0 δ))
  .ok (.nx δ')
section
variable {X : Cx} {W : WS} {U : XK} {S T : List Nat} {e a b c tg : Expr} {es tgs : List Expr} {pos p ps0 : Pos} {te ta tb : TE} {t : TA} {ts ts' : TS} {st : Stmt} {rest : List Stmt}
theorem asgP_ok {f : DSt → Res PyData} {g : TG} {p : Pat} (he : DE X W S e te f) (hg : DG X tg g p) : ∀ H0 Fz0 Fz H σ δ Dn, Rel X.K H0 Fz0 Fz H σ δ → SOK X.K X.mg (W σ) H0 Fz0 (asgP S f p δ) Dn → tAsg te g Dn σ H := fun H0 Fz0 Fz H σ δ Dn r h => by
  unfold SOK asgP at h
  rw [wp_bind] at h
  refine atE he r (wp_mono h (fun d hd v H1 F1 g1 r1 => ?_) fun x hx => hx)
  rw [wp_bind] at hd
  obtain ⟨δ', hb, hd⟩ := nEb hd
  by_cases hf : flat d = true
  · rw [if_pos (by rw [hf]; rfl)] at hb
    refine hg.ok Fz H1 _ v d σ δ _ Rel.setsVal (r.up g1.same) (r1.flat hf) ?_
    rw [hb]
    exact fun σ' r' => hd Fz H1 σ' r'
  · by_cases ho : offS S δ d = true
    · rw [if_pos (by rw [ho, Bool.or_true])] at hb
      have ho2 := ho
      unfold offS at ho2
      rw [Bool.and_eq_true, List.all_eq_true] at ho2
      have g2 : Grow Fz H (fun a => Fz a ∨ (F1 a ∧ H a = none)) H1 := by
        refine ⟨g1.same, fun a h => .inl h, fun a h => h.imp (fun x => x) fun x => x.2, fun l a h => ?_⟩
        rcases h with h | h
        · intro z
          exact l a h (none_of_same g1.same z)
        · exact g1.live r.ownLive a h.1
      have r2 : Rep X.K (fun a => Fz a ∨ (F1 a ∧ H a = none)) H1 v d := by
        refine r1.off (P := fun ds => S.all (apS δ ds)) (fun a vs ds h1 h2 h3 h4 => ?_) ho2.2
        rcases g1.new a h2 with (z | ⟨i, hi, s, es, eo, b, e2, ft⟩) | z
        · exact .inl z
        · exfalso
          have q1 := ho2.1 i hi
          have q2 := List.all_eq_true.mp h4 i hi
          unfold apS at q1 q2
          rw [es] at q1 q2
          obtain ⟨b', b1, _, _, b4⟩ := r.own i s es eo
          rw [e2] at b1
          cases b1
          cases s with
          | own ys =>
            have ft : a = b := ft
            subst ft
            obtain ⟨us, u1, _, u3⟩ := b4
            have := g1.same _ _ u1
            rw [h1] at this
            cases this
            have := apL_no u3 h3
            have q2 : apL ys ds = true := q2
            rw [this] at q2
            cases q2
          | val x => cases eo
          | _ => simp at q1
        · exact .inr ⟨h2, z⟩
      have r4 : Rel X.K H0 Fz0 (fun a => Fz a ∨ (F1 a ∧ H a = none)) H1 σ δ := by
        have := r.frz (S := []) (withOwn_nil g2)
        rwa [freeze_nil] at this
      refine hg.ok _ H1 _ v d σ δ _ Rel.setsVal r4 r2 ?_
      rw [hb]
      exact fun σ' r' => hd _ H1 σ' r'
    · rw [if_neg (by simp [hf, ho])] at hb
      refine hg.ok F1 H1 _ v d σ (freeze S 0 δ) _ Rel.setsVal (r.frz g1) r1 ?_
      rw [hb]
      exact fun σ' r' => hd F1 H1 σ' r'
theorem ds_setP {i : Nat} {x : Str} {pos' : Pos} {f : DSt → Res PyData} (hN : X.N.Nodup) (hi : X.N[i]? = some x) (hx : L2.Loc X.env.scope x) (he : DE X W S e te f) (hs : swapsWith e (some (.Name x pos')) pos.line X.env = pure false := by rfl) (hf : X.fn x = true ∨ X.env.scope.names.lookup x = some .local := by first | exact .inl rfl | exact .inr rfl | assumption) :
    DS X W (.Assign [.Name x pos'] e pos) (tAsg te (gName i)) (asgP S f (.nm i)) :=
  ⟨ps_set hN hi hx he.pe hs hf, asgP_ok he (dg_name (pos := pos') hN hi hx hf)⟩
end
end DL

set_option Elab.async false
set_option linter.all false
set_option maxRecDepth 100000
set_option maxHeartbeats 4000000
namespace DL
open PySem PySem.Spec L2
open PyProof.Rows hiding St

/-! ### methods that are handed new lists -/
structure DAMg (X : Cx) (W : WS) (ks : List MA) (es : List Expr) (t : TA) (f : DSt → Res (List SV)) : Prop where
  pe : PA X es t
  ok : ∀ H0 Fz0 Fz H σ δ Q, Rel X.K H0 Fz0 Fz H σ δ → (f δ).wp (fun ss => ∀ vs H1 F1, Same H H1 → (∀ a, Fz a → F1 a) → Rel X.K H0 Fz0 F1 H1 σ δ → ArgsC X.K F1 H1 σ δ ks vs ss → Q vs H1) (XOK X.mg (W σ) H0 Fz0) → t σ H Q
def vL (f : DSt → Res (List PyData)) (g : DSt → Res (List SV)) (δ : DSt) : Res (List SV) := f δ >>= fun xs => if flatAll xs then g δ >>= fun ss => .ok (.val (.list xs) :: ss) else .bot
section
variable {X : Cx} {W : WS} {U : XK} {S T M : List Nat} {e a b c tg : Expr} {es tgs : List Expr} {pos p px apos ps0 : Pos} {te ta tb : TE} {tt : TT} {t : TA} {ts ts' : TS} {st : Stmt} {rest : List Stmt} {ks : List MA}
theorem damg_nil : DAMg X W [] [] tNil nO := ⟨pa_nil, fun H0 Fz0 Fz H σ δ Q r h => h [] H Fz (fun _ _ e => e) (fun _ h => h) r .nil⟩
theorem damg_val {f : DSt → Res PyData} {g : DSt → Res (List SV)} (he : DE X W S e te f) (hr : DAMg X W ks es t g) (hs : starEach (e :: es) X.env = (false, eval e X.env) :: starEach es X.env := by rfl) : DAMg X W (.v :: ks) (e :: es) (tCons te t) (vO f g) := by
  refine ⟨pa_cons he.pe hr.pe hs, fun H0 Fz0 Fz H σ δ Q r h => ?_⟩
  unfold vO at h
  rw [wp_bind] at h
  refine atE he r (wp_mono h (fun x hx v H1 F1 g1 r1 => ?_) fun x hx => hx)
  by_cases hf : flat x = true
  · rw [if_pos hf, wp_bind] at hx
    exact hr.ok H0 Fz0 Fz H1 σ δ _ (r.up g1.same) (wp_mono hx (fun xs hxs vs H2 F2 s2 sub r2 m => hxs (v :: vs) H2 F2 (same_trans g1.same s2) sub r2 (.v ((r1.flat hf : Rep X.K Fz H1 v x).stay (.of_same s2) sub) m)) fun x hx => hx)
  · rw [if_neg hf] at hx
    exact hx.elim
theorem damg_lst {f : DSt → Res (List PyData)} {g : DSt → Res (List SV)} (he : DF X W S e te f) (hr : DAMg X W ks es t g) (hs : starEach (e :: es) X.env = (false, eval e X.env) :: starEach es X.env := by rfl) : DAMg X W (.v :: ks) (e :: es) (tCons te t) (vL f g) := by
  refine ⟨pa_cons he.pe hr.pe hs, fun H0 Fz0 Fz H σ δ Q r h => ?_⟩
  unfold vL at h
  rw [wp_bind] at h
  refine atF he r (wp_mono h (fun ds hx p vs H1 F1 g1 np nf e z r1 => ?_) fun x hx => hx)
  by_cases hf : flatAll ds = true
  · rw [if_pos hf, wp_bind] at hx
    have g2 : Grow Fz H (fun a => Fz a ∨ a = p) H1 := by
      refine ⟨g1.same, fun a h => .inl h, fun a h => h.imp (fun x => x) fun x => by rw [x]; exact np, fun l a h => ?_⟩
      rcases h with h | h
      · intro z
        exact l a h (none_of_same g1.same z)
      · rw [h, e]; intro z; cases z
    have r4 : Rel X.K H0 Fz0 (fun a => Fz a ∨ a = p) H1 σ δ := by
      have := r.frz (S := []) (withOwn_nil g2)
      rwa [freeze_nil] at this
    have rp : Rep X.K (fun a => Fz a ∨ a = p) H1 (.ref p) (.list ds) := .lst (.inl ⟨e, .inr rfl⟩) z (r1.flat hf)
    exact hr.ok H0 Fz0 _ H1 σ δ _ r4 (wp_mono hx (fun xs hxs us H2 F2 s2 sub r2 m => hxs (.ref p :: us) H2 F2 (same_trans g1.same s2) (fun a h => sub a (.inl h)) r2 (.v (rp.stay (.of_same s2) sub) m)) fun x hx => hx)
  · rw [if_neg hf] at hx
    exact hx.elim
theorem dem_methG (K) (mg) {k j n i : Nat} {C : Addr} {cn x m : Str} {names : List Str} {g : List SV → Res (PyData × List SV)} {f : DSt → Res (List SV)} {pl : Sem Bool} (c : FDMo X.prog X.w K mg X.base k n cn m g) (hC : ClsAt K cn C) (hr : Room j X.A) (hk : k ≤ j) (hN : X.N[i]? = some x) (hv : Vis X.env.scope x) (hno : names.contains m = false) (hn : ks.length + 1 = n) (hnd : (ixOf (.o i :: ks)).Nodup) (ha : DAMg X W ks (e :: es) t f) (hK : X.K = K := by rfl) (hMg : X.mg = mg := by rfl)
    (hst : starEach (e :: es) X.env = (false, eval e X.env) :: starEach es X.env := by rfl) (hpl : (backTo pos (starEach es X.env)).any (·.1) = false := by rfl)
    (ht : eval (.Call (.Attribute (.Name x px) m apos) (e :: es) [] pos) X.env = (do
      let ov ← eval (.Name x px) X.env
      standAt apos.atName
      let (f, first) ← holding [ov] (getMethod ov m pl)
      callWith pos f first (backTo pos (starEach (e :: es) X.env)) (backToKw pos (keywordEach [] X.env))) := by rfl) (hd : (x == ("__debug__" : Str)) = false := by decide) (hcd : (x == ("__classdict__" : Str)) = false := by decide) :
    DEm X W (.Call (.Attribute (.Name x px) m apos) (e :: es) [] pos) (tMeth C m (spO K n g) [] L2.E0 (tVar i) t) (methO cn names i ks f g) := by
  subst hK hMg
  obtain ⟨fa, fd, ps, F, hb, hm⟩ := c.ex
  obtain ⟨hcl, hme⟩ := hm C hC
  refine ⟨pe_meth (pl := pl) (pe_var (i := i) hN hv hd hcd) hcl hme F (hr.mono hk) hb .nil pass0 ha.pe hst hpl ht, fun H0 Fz0 Fz H σ δ Q r h => ?_⟩
  unfold methO at h
  split at h
  · rename_i cn' ns fs e1
    by_cases hq : cn' = cn ∧ ns = names
    · obtain ⟨rfl, rfl⟩ := hq
      rw [if_pos ⟨rfl, rfl⟩, wp_bind] at h
      obtain ⟨a, e2, ⟨C', dx, us, h1, h2, h3, h4, h5⟩, h6⟩ := r.ownF i _ e1 rfl
      have : C' = C := by
        have z : some (some (Value.ref C')) = some (some (Value.ref C)) := h2.symm.trans hC
        cases z
        rfl
      subst this
      refine ⟨.ref a, e2, a, dx, _, rfl, h1, zip_lookup_none hno, ?_⟩
      refine ha.ok H0 Fz0 Fz H σ δ _ r (wp_mono h (fun ss hss vs H1 F1 s1 sub r1 m1 => ?_) fun x hx => hx)
      rw [wp_bind] at hss
      have m2 : ArgsC X.K F1 H1 σ δ (.o i :: ks) (.ref a :: vs) (.ins cn' ns fs :: ss) := .o e1 rfl e2 m1
      rw [List.append_nil]
      refine ⟨_, F1, m2.len.1.trans hn, relO_in r1 m2 hnd, wp_mono (nE_wpA hss) (fun rr hds v H2 F2 q rv => ?_) fun _ h => h⟩
      obtain ⟨r2, st⟩ := relO_out r1 m2 hnd q
      exact hds v H2 F2 (fun a h => q.sub0 a (sub a h)) ((Stay.of_same s1).tr sub st) r2 rv
    · rw [if_neg hq] at h
      exact h.elim
  · exact h.elim
end
end DL

set_option Elab.async false
set_option linter.all false
set_option maxRecDepth 100000
set_option maxHeartbeats 4000000
namespace DL
open PySem PySem.Spec L2
open PyProof.Rows hiding St

/-! ### methods that change nothing: the instance is handed in as data -/
structure FDMd (P : Program) (w : World) (K : PySem.W.Frag) (mg : Str → Option Value) (base : Heap) (k n : Nat) (cn m : Str) (g : List PyData → Res PyData) : Prop where
  ex : ∃ (f : Addr) (fd : FuncData) (ps : List Str), FnOk P w K mg base CX0 k f fd ps (spD K mg n g) ∧ Binds K fd ps [] ∧ ∀ C, ClsAt K cn C → Cls K C ∧ Meth K C m f
theorem fn_ofQ {P : Program} {w : World} {K : PySem.W.Frag} {mg : Str → Option Value} {base : Heap} {x qual : Str} {st : Stmt} {f : Addr} {fd : FuncData} {N ps : List Str} {k : Nat} (F : Fun K x qual st f fd) (S : FnScope N ps (defScope st)) {g : DSt → Res Out}
    (hbody : ∀ (cdv : Value) (A : Around) (outer : List Env) (s : Shared) (H : Hp) (E : XK), Room k (A.deeper (envOfC qual (defScope st) s.heap.objs.size f cdv)) →
      ∃ t, DSs (cxOf CX0 P w K mg base N qual (defScope st) f cdv A outer s H E).nox (fun _ => E0) (defBody st) t g) : FnOk P w K mg base CX0 (k + 1) f fd ps (spD K mg ps.length (fnD N.length g)) := by
  refine F.ok S (fun vs H Q E h => spD_len h) (fun cdv A outer s H vs Q E hr h => ?_)
  obtain ⟨t, ht⟩ := hbody cdv A outer s H E hr
  refine ⟨t, ht.pe, ?_⟩
  obtain ⟨ds, Fz, hl, live, ra, q⟩ := h
  have lv := ra.length
  refine ht.ok H Fz Fz H (start N vs) (startD N.length ds) _ ⟨fun _ _ e => e, fun _ h => h, fun _ h => .inl h, live, ?_, fun i d e => ?_, fun i s e ho => ?_, fun i j s u a b x hij e o1 _ _ _ _ _ => ?_⟩ ?_
  · unfold L2.start startD
    rw [List.length_append, List.length_append, List.length_map, List.length_map, List.length_replicate, List.length_replicate, lv]
  · obtain ⟨d', h1, h2⟩ := startD_get e
    cases h1
    obtain ⟨v, h3, h4⟩ := ra.get h2
    refine ⟨v, ?_, h4⟩
    have hi : i < vs.length := (List.getElem?_eq_some_iff.mp h3).1
    unfold L2.start
    rw [List.getElem?_append_left (by rw [List.length_map]; exact hi), List.getElem?_map, h3]
    rfl
  · obtain ⟨d', h1, h2⟩ := startD_get e
    cases h1
    cases ho
  · obtain ⟨d', h1, h2⟩ := startD_get e
    cases h1
    cases o1
  · unfold fnD EOK at q
    rw [wp_bind] at q
    unfold SOK
    refine wp_mono (nE_wpA q) (fun o q => ?_) fun x h => h
    cases o with
    | nx δ' => exact fun F' H' σ' r => q .non H' F' ⟨r.same, r.sub0, r.new0, fun _ => r.live⟩ .non
    | rt d => exact fun F' H' v g r => q v H' F' g r
    | bk δ' => exact q.elim
    | ct δ' => exact q.elim
def isInsD (cn : Str) (names : List Str) (d : PyData) : Bool := match d with
  | .dict [(.str c, .tuple ns), (.none, .tuple _)] => decide (c = cn ∧ strsOf ns = some names)
  | _ => false
theorem isInsD_ins (cn : Str) (names : List Str) (ds : List PyData) : isInsD cn names (insD cn names ds) = true := by
  show decide (cn = cn ∧ strsOf (names.map PyData.str) = some names) = true
  rw [strsOf_map]
  simp
def methD (cn : Str) (names : List Str) (fo : DSt → Res PyData) (f : DSt → Res (List PyData)) (g : List PyData → Res PyData) (δ : DSt) : Res PyData := fo δ >>= fun d => if isInsD cn names d = true then f δ >>= fun ds => nE (g (d :: ds)) else .bot
def nA (_ : DSt) : Res (List PyData) := .ok []
section
variable {X : Cx} {W : WS} {U : XK} {S T M : List Nat} {o e a b c tg : Expr} {es tgs : List Expr} {pos p px apos ps0 : Pos} {to te ta tb : TE} {tt : TT} {t : TA} {ts ts' : TS} {st : Stmt} {rest : List Stmt}
theorem rep_ins {K : PySem.W.Frag} {Fz : FZ} {H : Hp} {v : V} {d : PyData} {cn : Str} {names : List Str} {C : Addr} (r : Rep K Fz H v d) (h : isInsD cn names d = true) (hC : ClsAt K cn C) : ∃ a dx us, v = .ref a ∧ H a = some (.ins C dx (names.zip us)) := by
  unfold isInsD at h
  split at h
  · rename_i c ns ds
    obtain ⟨rfl, hq⟩ := of_decide_eq_true h
    cases r with
    | @ins a C' dx _ names' us _ h1 h2 h3 h4 =>
      rw [strsOf_map] at hq
      cases hq
      obtain rfl := cls_eq hC h2
      exact ⟨a, dx, us, rfl, h1.1⟩
  · cases h
theorem de_methD (K) (mg) {k j n : Nat} {C : Addr} {cn m : Str} {names : List Str} {g : List PyData → Res PyData} {fo : DSt → Res PyData} {f : DSt → Res (List PyData)} {pl : Sem Bool} (c : FDMd X.prog X.w K mg X.base k n cn m g) (hC : ClsAt K cn C) (hr : Room j X.A) (hk : k ≤ j) (hno : names.contains m = false) (hn : (e :: es).length + 1 = n) (ho : DE X W S o to fo) (ha : DA X W T (e :: es) t f) (hK : X.K = K := by rfl) (hMg : X.mg = mg := by rfl)
    (hst : starEach (e :: es) X.env = (false, eval e X.env) :: starEach es X.env := by rfl) (hpl : (backTo pos (starEach es X.env)).any (·.1) = false := by rfl)
    (ht : eval (.Call (.Attribute o m apos) (e :: es) [] pos) X.env = (do
      let ov ← eval o X.env
      standAt apos.atName
      let (f, first) ← holding [ov] (getMethod ov m pl)
      callWith pos f first (backTo pos (starEach (e :: es) X.env)) (backToKw pos (keywordEach [] X.env))) := by rfl) :
    DE X W (S ++ T) (.Call (.Attribute o m apos) (e :: es) [] pos) (tMeth C m (spD K mg n g) [] L2.E0 to t) (methD cn names fo f g) := by
  subst hK hMg
  obtain ⟨fa, fd, ps, F, hb, hm⟩ := c.ex
  obtain ⟨hcl, hme⟩ := hm C hC
  refine ⟨pe_meth (pl := pl) ho.pe hcl hme F (hr.mono hk) hb .nil pass0 ha.pe hst hpl ht, fun Fz σ H δ Q hd hl h => ?_⟩
  unfold EOK methD at h
  rw [wp_bind] at h
  refine ho.ok Fz σ H δ _ hd.left hl (wp_mono h (fun x hx v H1 F1 g1 r1 => ?_) fun x hx => hx)
  by_cases hi : isInsD cn names x = true
  · rw [if_pos hi, wp_bind] at hx
    obtain ⟨a, dx, us, rfl, h1⟩ := rep_ins r1 hi hC
    refine ⟨a, dx, _, rfl, h1, zip_lookup_none hno, ?_⟩
    refine ha.ok F1 σ H1 δ _ (hd.right.grow g1) (g1.live hl) (wp_mono (wp_and_can hx) (fun ds ⟨hq, hcan⟩ vs H2 F2 g2 r2 => ?_) fun x hx c oe H2 F2 g2 r2 => hx c oe H2 F2 (g1.trans g2) r2)
    refine ⟨x :: ds, F2, by rw [List.length_cons, ha.len δ ds hcan]; exact hn, g2.live (g1.live hl), by rw [List.append_nil]; exact .cons (r1.grow g2) r2, ?_⟩
    exact wp_mono (nE_wpA hq) (fun d hq2 v H3 F3 g3 r3 => hq2 v H3 F3 (g1.trans (g2.trans g3)) r3) fun _ h => h
  · rw [if_neg hi] at hx
    exact hx.elim
theorem de_methD0 (K) (mg) {k j n : Nat} {C : Addr} {cn m : Str} {names : List Str} {g : List PyData → Res PyData} {fo : DSt → Res PyData} {pl : Sem Bool} (c : FDMd X.prog X.w K mg X.base k n cn m g) (hC : ClsAt K cn C) (hr : Room j X.A) (hk : k ≤ j) (hno : names.contains m = false) (hn : 1 = n) (ho : DE X W S o to fo) (hK : X.K = K := by rfl) (hMg : X.mg = mg := by rfl)
    (ht : eval (.Call (.Attribute o m apos) [] [] pos) X.env = (do
      let ov ← eval o X.env
      standAt apos.atName
      let (f, first) ← holding [ov] (getMethod ov m pl)
      callWith pos f first (backTo pos (starEach [] X.env)) (backToKw pos (keywordEach [] X.env))) := by rfl) :
    DE X W S (.Call (.Attribute o m apos) [] [] pos) (tMeth C m (spD K mg n g) [] L2.E0 to tNil) (methD cn names fo nA g) := by
  subst hK hMg
  obtain ⟨fa, fd, ps, F, hb, hm⟩ := c.ex
  obtain ⟨hcl, hme⟩ := hm C hC
  refine ⟨pe_meth0 (pl := pl) ho.pe hcl hme F (hr.mono hk) hb .nil pass0 ht, fun Fz σ H δ Q hd hl h => ?_⟩
  unfold EOK methD at h
  rw [wp_bind] at h
  refine ho.ok Fz σ H δ _ hd hl (wp_mono h (fun x hx v H1 F1 g1 r1 => ?_) fun x hx => hx)
  by_cases hi : isInsD cn names x = true
  · rw [if_pos hi] at hx
    have hx : (nE (g [x])).wp _ _ := hx
    obtain ⟨a, dx, us, rfl, h1⟩ := rep_ins r1 hi hC
    refine ⟨a, dx, _, rfl, h1, zip_lookup_none hno, ?_⟩
    refine ⟨[x], F1, hn, g1.live hl, .cons r1 .nil, ?_⟩
    exact wp_mono (nE_wpA hx) (fun d hq2 v H3 F3 g3 r3 => hq2 v H3 F3 (g1.trans g3) r3) fun _ h => h
  · rw [if_neg hi] at hx
    exact hx.elim
end

/-! ### sorted(set(xs)) of many whole numbers, few of them different -/
theorem setR_few {w : World} {h : Heap} {a : Addr} {ns : List Int} {c : Nat} (R : SetR w h a (fun j => decide (j ∈ ns)) c) : c ≤ (sortUI ns).length := by
  obtain ⟨o, es, ep, t, ho, hex, hd, _, nd, hm, hsz, hf, hc, _⟩ := R
  have nd2 : (sortUI ns).Nodup := (sortUI_lt ns).imp fun {a b} h => by omega
  have hp : (es.toList.map keyOf).Perm (sortUI ns) := (List.perm_ext_iff_of_nodup nd nd2).mpr fun k => by rw [← hm k, sortUI_mem]; simp
  have := hp.length_eq
  rw [List.length_map, Array.length_toList] at this
  omega
def rSetOJ (K : PySem.W.Frag) (w : World) : List V → Hp → VK → Prop := fun xs H Q => ∃ (l : Addr) (ns : List Int), xs = [V.ref l] ∧ (SqL K H l (ns.map V.int) ∨ SqT K H l (ns.map V.int)) ∧ ns.length < 1000 ∧
  ∀ a n, H a = none → n ≤ (sortUI ns).length → Q (.ref a) (upd H a (SetO w a (fun j => decide (j ∈ ns)) n))
theorem cr_setOJ {X : Cx} (hc : X.calm = true) : CallR X (.type "set") (rSetOJ X.K X.w) := by
  intro pins s σ H xs us Q I r h
  obtain ⟨l, ns, rfl, hl, few, q⟩ := h
  rw [Vals.ref1 r]
  have hn : H s.heap.objs.size = none := I.hok.fresh (Nat.le_refl _)
  have fin : ∀ (h1 : Heap) (t1 : Nat), (∃ c, c ≤ ns.length ∧ SetR X.w h1 s.heap.objs.size (fun j => decide (j ∈ ns)) c ∧ ∀ b o, s.heap.get? b = some o → h1.get? b = some o) → EP X pins σ Q (.ref s.heap.objs.size) { s with heap := h1, toks := t1 } := fun h1 t1 ⟨c, hcn, R, k⟩ =>
    ⟨.ref _, _, I.laid (t' := t1) k (Nat.le_refl _) (setO_new R), rfl, q _ c hn (setR_few R)⟩
  have hd := I.ok.hd hc
  have hd3 : X.A.in1.in1.in1.handled = none := by simp [hd]
  have big : ns.length + 1 < scanBound := by unfold scanBound; omega
  have e1 : (s.heap.push (bornSet X.w)).objs.size = s.heap.objs.size + 1 := Heap.size_push ..
  rcases hl with hl | hl
  · obtain ⟨its, rv, pl, hz⟩ := I.list hl
    have il := pl.isList
    obtain ⟨⟨oc, od, odt, osl⟩, ho, hcl, nl, hdt⟩ := il
    cases hcl
    cases hdt
    have old := Heap.lt_size ho
    exact set_fill (it := { cls := .type "list_iterator", data := .fields #[.ref l, .int 0 0] }) ho F.sub_list_set F.sub_list_frozenset (by decide) (fun B E' z Q' hz q => wpAny_pyIter_list ⟨_, hz, rfl, _, rfl⟩ q)
      (fills_ints ns (Walks.list hd3 (s.heap.objs.size + 1) l (Nat.ne_of_lt (Nat.lt_succ_of_lt old)) its.toArray) ⟨⟨_, push2 _ _ _, rfl, rfl⟩, ⟨_, Heap.get?_push_of_some _ (Heap.get?_push_of_some _ ho), rfl, _, rfl⟩⟩ old (ints_of_vals rv) big) fin
  · obtain ⟨its, rv, pt, hz⟩ := I.tuple hl
    obtain ⟨⟨oc, od, odt, osl⟩, ho, hcl, nl, hdt⟩ := pt
    cases hcl
    cases hdt
    have old := Heap.lt_size ho
    exact set_fill (it := { cls := .type "tuple_iterator", data := .fields #[.ref l, .int 0 0] }) ho F.sub_tuple_set F.sub_tuple_frozenset (by decide) (fun B E' z Q' hz q => wpAny_pyIter_tuple ⟨_, hz, rfl, _, rfl⟩ q)
      (fills_ints ns (Walks.tuple hd3 (s.heap.objs.size + 1) l (Nat.ne_of_lt (Nat.lt_succ_of_lt old)) its.toArray) ⟨⟨_, push2 _ _ _, rfl, rfl⟩, ⟨_, Heap.get?_push_of_some _ (Heap.get?_push_of_some _ ho), rfl, _, rfl⟩⟩ old (ints_of_vals rv) big) fin
def sortSetJL (ds : List PyData) : Res (List PyData) := if ds.length < 1000 then (match whO ds with | some ns => if (sortUI ns).length < 64 then .ok ((sortUI ns).map .int) else .bot | none => .bot) else .bot
def sortSetJ (d : PyData) : Res (List PyData) := match d with
  | .list ds => sortSetJL ds
  | .tuple ds => sortSetJL ds
  | _ => .bot
theorem sortSetJ_I {ns : List Int} (h : ns.length < 1000) (h2 : (sortUI ns).length < 64) : sortSetJ (.list (ns.map .int)) = .ok ((sortUI ns).map .int) := by
  show sortSetJL _ = _
  unfold sortSetJL
  rw [List.length_map, if_pos h, whO_map]
  exact if_pos h2
section
variable {X : Cx} {W : WS} {S : List Nat} {e : Expr} {pos p p2 pos2 : Pos} {te : TE}
theorem df_sortSetJ (K) (w : World) {f : DSt → Res PyData} (hc : X.calm = true) (hg : Gl X "sorted") (hm : X.mg "sorted" = none) (hg2 : Gl X "set") (hm2 : X.mg "set" = none) (ha : DE X W S e te f) (hK : X.K = K := by rfl) (hw : X.w = w := by rfl)
    (he : starEach [e] X.env = (false, eval e X.env) :: starEach [] X.env := by rfl) (he2 : starEach [.Call (.Name "set" p2) [e] [] pos2] X.env = (false, eval (.Call (.Name "set" p2) [e] [] pos2) X.env) :: starEach [] X.env := by rfl) :
    DF X W S (.Call (.Name "sorted" p) [.Call (.Name "set" p2) [e] [] pos2] [] pos) (tCB (rSortedSet w) (tCons (tCB (rSetOJ K w) (tCons te tNil)) tNil)) (u1LE sortSetJ f) := by
  subst hK hw
  refine ⟨pe_callB (cr_sortedSet hc) hg hm (by decide +kernel) (pa_cons (pe_callTy (cr_setOJ hc) hg2 hm2 (by decide +kernel) (pa_cons ha.pe pa_nil he) (by decide) (by decide) he rfl) pa_nil he2) (by decide) (by decide) he2 rfl, fun Fz σ H δ Q hd hl h => ?_⟩
  unfold LOK u1LE at h
  rw [wp_bind] at h
  show te σ H fun x H1 => (rSetOJ X.K X.w) [x] H1 fun y H2 => (rSortedSet X.w) [y] H2 Q
  refine ha.ok Fz σ H δ _ hd hl (wp_mono h (fun d hx v H1 F1 g1 r1 => ?_) fun x hx => hx)
  have fin : ∀ l vs ds, v = .ref l → (SqL X.K H1 l vs ∨ SqT X.K H1 l vs) → RepAll X.K F1 H1 vs ds → sortSetJ d = sortSetJL ds → (rSetOJ X.K X.w) [v] H1 fun y H2 => (rSortedSet X.w) [y] H2 Q := by
    rintro l vs ds rfl hs rr e
    rw [e] at hx
    unfold sortSetJL at hx
    split at hx
    · rename_i few
      split at hx
      · rename_i ns hns
        split at hx
        · rename_i few3
          rw [whO_some hns] at rr few
          have few2 : ns.length < 1000 := by
            have : (iL ns).length = ns.length := List.length_map _
            omega
          have e1 := rep_ints rr
          subst e1
          refine ⟨_, ns, rfl, hs, few2, fun a n na hn => ⟨a, _, n, rfl, upd_same, by omega, fun ms p pw mem len np => ?_⟩⟩
          have same : ms = sortUI ns := sortUI_of pw fun k => by rw [mem]; simp
          rw [same]
          have gg : Grow F1 H1 F1 (upd H1 a (SetO X.w a (fun j => decide (j ∈ ns)) n)) := .nw na
          have lv : Live F1 (upd H1 a (SetO X.w a (fun j => decide (j ∈ ns)) n)) := gg.live (g1.live hl)
          have hlen : ((sortUI ns).map PyData.int).length ≤ sizeLine := by
            have : (64 : Nat) ≤ sizeLine := by rw [sizeLine_eq]; decide
            rw [List.length_map]
            omega
          exact hx p _ _ F1 ((g1.trans gg).trans (.nw np)) (none_of_same (g1.trans gg).same np) (notFz (H' := upd H1 a (SetO X.w a (fun j => decide (j ∈ ns)) n)) .refl lv np) upd_same hlen (rep_ofInts _)
        · exact hx.elim
      · exact hx.elim
    · exact hx.elim
  cases d with
  | list ds =>
    cases r1 with
    | lst hh z rr => exact fin _ _ ds rfl (.inl hh.sq) rr rfl
  | tuple ds =>
    cases r1 with
    | tup hh z rr => exact fin _ _ ds rfl (.inr hh.sq) rr rfl
  | _ => exact hx.elim
end
end DL

set_option Elab.async false
set_option linter.all false
set_option maxRecDepth 100000
set_option maxHeartbeats 4000000
namespace DL
open PySem PySem.Spec L2
open PyProof.Rows hiding St

/-! ### methods that give a new list -/
structure FDMf (P : Program) (w : World) (K : PySem.W.Frag) (mg : Str → Option Value) (base : Heap) (k n : Nat) (cn m : Str) (g : List PyData → Res FR) : Prop where
  ex : ∃ (f : Addr) (fd : FuncData) (ps : List Str), FnOk P w K mg base CX0 k f fd ps (spF K n g) ∧ Binds K fd ps [] ∧ ∀ C, ClsAt K cn C → Cls K C ∧ Meth K C m f
theorem ff_ofQ {P : Program} {w : World} {K : PySem.W.Frag} {mg : Str → Option Value} {base : Heap} {x qual : Str} {st : Stmt} {f : Addr} {fd : FuncData} {N ps : List Str} {k : Nat} (F : Fun K x qual st f fd) (S : FnScope N ps (defScope st)) {g : DSt → Res OutF}
    (hbody : ∀ (cdv : Value) (A : Around) (outer : List Env) (s : Shared) (H : Hp) (E : XK), Room k (A.deeper (envOfC qual (defScope st) s.heap.objs.size f cdv)) →
      ∃ t, DFu (cxOf CX0 P w K mg base N qual (defScope st) f cdv A outer s H E).nox (fun _ => E0) (defBody st) t g) : FnOk P w K mg base CX0 (k + 1) f fd ps (spF K ps.length (fnU N.length g)) := by
  refine F.ok S (fun vs H Q E h => by
    obtain ⟨ds, Fz, h1, _, h2, _⟩ := h
    rw [h2.length, h1]) (fun cdv A outer s H vs Q E hr h => ?_)
  obtain ⟨t, ht⟩ := hbody cdv A outer s H E hr
  refine ⟨t, ht.pe, ?_⟩
  obtain ⟨ds, Fz, hl, live, ra, q⟩ := h
  have lv := ra.length
  refine ht.ok H Fz Fz H (start N vs) (startD N.length ds) _ ⟨fun _ _ e => e, fun _ h => h, fun _ h => .inl h, live, ?_, fun i d e => ?_, fun i s e ho => ?_, fun i j s u a b x hij e o1 _ _ _ _ _ => ?_⟩ ?_
  · unfold L2.start startD
    rw [List.length_append, List.length_append, List.length_map, List.length_map, List.length_replicate, List.length_replicate, lv]
  · obtain ⟨d', h1, h2⟩ := startD_get e
    cases h1
    obtain ⟨v, h3, h4⟩ := ra.get h2
    exact ⟨v, start_get h3 N rfl, h4⟩
  · obtain ⟨d', h1, h2⟩ := startD_get e
    cases h1
    cases ho
  · obtain ⟨d', h1, h2⟩ := startD_get e
    cases h1
    cases o1
  · unfold fnU at q
    rw [wp_bind] at q
    unfold SKf
    refine wp_mono (nE_wpA q) (fun o q => ?_) (fun _ h => h)
    cases o with
    | nx δ' => exact fun F' H' σ' r => q .non H' F' ⟨r.same, r.sub0, r.new0, fun _ => r.live⟩ .non
    | rv d => exact fun F' H' v g r => q v H' F' g r
    | rl xs => exact fun F' H' p us g n0 nf hp hz rr => q p us H' F' g n0 nf hp hz rr
def frD : FR → PyData
  | .v d => d
  | .l xs => .list xs
def gD (g : List PyData → Res FR) (ds : List PyData) : Res PyData := g ds >>= fun r => .ok (frD r)
/-- y = x.m(), y may be changed -/
def callUM (cn : Str) (names : List Str) (S : List Nat) (fo : DSt → Res PyData) (g : List PyData → Res FR) (i : Nat) (δ : DSt) : Res Out := fo δ >>= fun d => if isInsD cn names d = true then (nE (g [d]) >>= fun r => match r with
  | .v d2 => .ok (.nx ((if flat d2 then δ else freeze S 0 δ).set i (some (.val d2))))
  | .l xs => .ok (.nx ((if flatAll xs then δ else freeze S 0 δ).set i (some (.own xs))))) else .bot
def whGoM (fc : DSt → Res Bool) (fb : DSt → Res OutM) : Nat → DSt → Res OutM
  | 0, _ => .bot
  | m + 1, δ => fc δ >>= fun b => if b then (fb δ >>= fun o => match o with | .nx δ' => whGoM fc fb m δ' | .rt d δ' => .ok (.rt d δ')) else .ok (.nx δ)
def whFM (vs : List Nat) (fuel : Nat) (fc : DSt → Res Bool) (fb : DSt → Res OutM) (δ : DSt) : Res OutM := whGoM fc fb fuel (wipeD δ vs)
/-- x.f.pop() -/
def fpopF (i : Nat) (cn : Str) (names : List Str) (k : Nat) (δ : DSt) : Res Out := match δ[i]? with
  | some (some (.ins c ns fs)) => (match fs[k]? with
    | some (.own xs) => if c = cn ∧ ns = names ∧ 0 < xs.length then .ok (.nx (δ.set i (some (.ins c ns (fs.set k (.own xs.dropLast)))))) else .bot
    | _ => .bot)
  | _ => .bot
section
variable {X : Cx} {W : WS} {U : XK} {S T M : List Nat} {o e a b c tg : Expr} {es tgs : List Expr} {pos p p2 px apos ps0 : Pos} {to te ta tb : TE} {tt : TT} {t : TA} {ts ts' : TS} {st : Stmt} {rest : List Stmt}
theorem de_methF0 (K) (mg) {k j n : Nat} {C : Addr} {cn m : Str} {names : List Str} {g : List PyData → Res FR} {fo : DSt → Res PyData} {pl : Sem Bool} (c : FDMf X.prog X.w K mg X.base k n cn m g) (hC : ClsAt K cn C) (hr : Room j X.A) (hk : k ≤ j) (hno : names.contains m = false) (hn : 1 = n) (ho : DE X W S o to fo) (hK : X.K = K := by rfl) (hMg : X.mg = mg := by rfl)
    (ht : eval (.Call (.Attribute o m apos) [] [] pos) X.env = (do
      let ov ← eval o X.env
      standAt apos.atName
      let (f, first) ← holding [ov] (getMethod ov m pl)
      callWith pos f first (backTo pos (starEach [] X.env)) (backToKw pos (keywordEach [] X.env))) := by rfl) :
    DE X W S (.Call (.Attribute o m apos) [] [] pos) (tMeth C m (spF K n g) [] L2.E0 to tNil) (methD cn names fo nA (gD g)) := by
  subst hK hMg
  obtain ⟨fa, fd, ps, F, hb, hm⟩ := c.ex
  obtain ⟨hcl, hme⟩ := hm C hC
  refine ⟨pe_meth0 (pl := pl) ho.pe hcl hme F (hr.mono hk) hb .nil pass0 ht, fun Fz σ H δ Q hd hl h => ?_⟩
  unfold EOK methD at h
  rw [wp_bind] at h
  refine ho.ok Fz σ H δ _ hd hl (wp_mono h (fun x hx v H1 F1 g1 r1 => ?_) fun x hx => hx)
  by_cases hi : isInsD cn names x = true
  · rw [if_pos hi] at hx
    have hx : (nE (g [x] >>= fun r => .ok (frD r))).wp _ _ := hx
    obtain ⟨a, dx, us, rfl, h1⟩ := rep_ins r1 hi hC
    refine ⟨a, dx, _, rfl, h1, zip_lookup_none hno, ?_⟩
    refine ⟨[x], F1, hn, g1.live hl, .cons r1 .nil, ?_⟩
    have hx := nE_wpA (E' := fun _ => False) hx
    rw [wp_bind] at hx
    refine wp_mono hx (fun r hr2 => ?_) fun _ h => h
    cases r with
    | v d => exact fun v H2 F2 g2 rv => hr2 v H2 F2 (g1.trans g2) rv
    | l xs =>
      intro p us H2 F2 g2 np nf hp hz rv
      have g3 : Grow F1 H1 (fun a => F2 a ∨ a = p) H2 := ⟨g2.same, fun a h => .inl (g2.sub a h), fun a z => z.elim (g2.new a) fun e' => .inr (e' ▸ np), fun l a z q => by
        rcases z with z | z
        · exact g2.live l a z q
        · subst z
          rw [hp] at q
          cases q⟩
      exact hr2 _ H2 _ (g1.trans g3) (.lst (.inl ⟨hp, .inr rfl⟩) hz (rv.stay (.of_same fun _ _ e => e) fun _ h => .inl h))
  · rw [if_neg hi] at hx
    exact hx.elim
theorem ds_callUM0 (K) (mg) {k j n i : Nat} {C : Addr} {cn m y : Str} {names : List Str} {g : List PyData → Res FR} {fo : DSt → Res PyData} {pl : Sem Bool} {pos' : Pos} (hN : X.N.Nodup) (hiN : X.N[i]? = some y) (hx : L2.Loc X.env.scope y) (c : FDMf X.prog X.w K mg X.base k n cn m g) (hC : ClsAt K cn C) (hr : Room j X.A) (hk : k ≤ j) (hno : names.contains m = false) (hn : 1 = n) (ho : DE X W S o to fo) (hK : X.K = K := by rfl) (hMg : X.mg = mg := by rfl)
    (ht : eval (.Call (.Attribute o m apos) [] [] pos) X.env = (do
      let ov ← eval o X.env
      standAt apos.atName
      let (f, first) ← holding [ov] (getMethod ov m pl)
      callWith pos f first (backTo pos (starEach [] X.env)) (backToKw pos (keywordEach [] X.env))) := by rfl)
    (hs : swapsWith (.Call (.Attribute o m apos) [] [] pos) (some (.Name y pos')) ps0.line X.env = pure false := by rfl) (hf : X.fn y = true ∨ X.env.scope.names.lookup y = some .local := by first | exact .inl rfl | exact .inr rfl | assumption) :
    DS X W (.Assign [.Name y pos'] (.Call (.Attribute o m apos) [] [] pos) ps0) (tAsg (tMeth C m (spF K n g) [] L2.E0 to tNil) (gName i)) (callUM cn names S fo g i) := by
  subst hK hMg
  obtain ⟨fa, fd, ps, F, hb, hm⟩ := c.ex
  obtain ⟨hcl, hme⟩ := hm C hC
  refine ⟨ps_set hN hiN hx (pe_meth0 (pl := pl) ho.pe hcl hme F (hr.mono hk) hb .nil pass0 ht) hs hf, fun H0 Fz0 Fz H σ δ Dn r h => ?_⟩
  unfold SOK callUM at h
  rw [wp_bind] at h
  refine ho.ok (withOwn Fz H σ δ S) σ H δ _ r.rd r.ownLive (wp_mono h (fun d h v H1 F1 g1 r1 => ?_) fun x hx c oe H1 F1 g q => hx c oe H1 F1 (r.grow0 g) q)
  by_cases hi : isInsD cn names d = true
  · rw [if_pos hi, wp_bind] at h
    obtain ⟨a, dx, us, rfl, h1⟩ := rep_ins r1 hi hC
    have g3 : ∀ {H2 F2}, Grow F1 H1 F2 H2 → Grow (withOwn Fz H σ δ S) H F2 H2 := fun g2 => g1.trans g2
    refine ⟨a, dx, _, rfl, h1, zip_lookup_none hno, ?_⟩
    refine ⟨[d], F1, hn, g1.live r.ownLive, .cons r1 .nil, wp_mono (nE_wpA h) (fun rr h => ?_) fun _ h => h⟩
    cases rr with
    | v d =>
      have h : (Res.ok (Out.nx ((if flat d = true then δ else freeze S 0 δ).set i (some (.val d))))).wp (OOK X.K H0 Fz0 Dn) (XOK X.mg (W σ) H0 Fz0) := h
      intro v H2 F2 g2 rv
      by_cases hd : flat d = true
      · rw [if_pos hd] at h
        exact h Fz H2 _ ((r.up (g3 g2).same).setVal (rv.flat hd) i)
      · rw [if_neg hd] at h
        exact h F2 H2 _ ((r.frz (g3 g2)).setVal rv i)
    | l xs =>
      have h : (Res.ok (Out.nx ((if flatAll xs = true then δ else freeze S 0 δ).set i (some (.own xs))))).wp (OOK X.K H0 Fz0 Dn) (XOK X.mg (W σ) H0 Fz0) := h
      intro p us H2 F2 g2 np nf hp hz rv
      have np0 : H p = none := none_of_same g1.same np
      by_cases hd : flatAll xs = true
      · rw [if_pos hd] at h
        exact h Fz H2 _ ((r.up (g3 g2).same).setOwn (s := .own xs) (none_of_same r.same np0) (fun z => r.live p z np0) ⟨us, hp, hz, rv.flat hd⟩ (r.apart np0 (g3 g2).same) i)
      · rw [if_neg hd] at h
        exact h F2 H2 _ ((r.frz (g3 g2)).setOwn (s := .own xs) (none_of_same r.same np0) nf ⟨us, hp, hz, rv⟩ (fun j u ej oj => r.apart np0 (g3 g2).same j u (freeze_own ej oj).2 oj) i)
  · rw [if_neg hi] at h
    exact h.elim
/-- any statement, where nothing is handed back -/
theorem dmu_ds {f : DSt → Res Out} (h : DS X W st ts f) : DMu X W [] st ts (upM f) := by
  refine ⟨h.pe, fun pin hM H0 Fz0 Fz H σ δ Dn r hp q => ?_⟩
  have e : pin = [] := by cases pin with | nil => rfl | cons a b => cases hM
  subst e
  unfold SKm upM at q
  rw [wp_bind] at q
  refine h.ok H0 Fz0 Fz H σ δ Dn r (wp_mono q (fun o ho => ?_) fun x hx => hx)
  cases o with
  | nx δ' => exact fun F H' σ' r' => ho F H' σ' r' (fun p hp => nomatch hp)
  | rt d => exact ho.elim
  | bk δ' => exact ho.elim
  | ct δ' => exact ho.elim
theorem dmu_while (vs : List Nat) (fuel : Nat) {c : Expr} {body : List Stmt} {fc : DSt → Res Bool} {fb : DSt → Res OutM} (hp : PassesOwn (model X.prog X.w) X.A X.env X.xe) (hc : DT X (fun _ => U) S c tt fc) (hb : DMus X (fun _ => U) M body ts fb) : DMu X (fun _ => U) M (.While c body [] pos) (tWhile tt ts) (whFM vs fuel fc fb) := by
  refine ⟨ps_while hp hc.pe hb.pe, fun pin hM H0 Fz0 Fz H σ δ Dn r hpn h => ?_⟩
  refine ⟨fun m σ H => ∃ F δ, Rel X.K H0 Fz0 F H σ δ ∧ Pin σ pin ∧ SKm X.K X.mg U H0 Fz0 pin (whGoM fc fb m δ) Dn, ⟨_, Fz, _, r.clr vs, hpn, h⟩, ?_⟩
  rintro m σ H ⟨F, δ, r, hpn, h⟩
  cases m with
  | zero => exact h.elim
  | succ m =>
    unfold SKm whGoM at h
    rw [wp_bind] at h
    refine atT hc r (wp_mono h (fun b hb' H1 r1 => ?_) fun x hx => hx)
    cases b with
    | false => exact hb' F H1 σ r1 hpn
    | true =>
      refine ⟨fun σ' H' => ∃ F δ, Rel X.K H0 Fz0 F H' σ' δ ∧ Pin σ' pin ∧ SKm X.K X.mg U H0 Fz0 pin (whGoM fc fb m δ) Dn, fun σ' H' q => ⟨m, Nat.lt_succ_self _, q⟩, ?_⟩
      have hb' : Res.wp (Res.bind (fb δ) _) _ _ := hb'
      have hb' := (wp_bind (fb δ) _ _ _).mp hb'
      refine hb.ok pin hM _ _ F H1 σ δ _ r1 hpn (wp_mono hb' (fun o ho => ?_) fun x hx => hx)
      cases o with
      | nx δ' => exact fun F' H' σ' q q2 => ⟨F', δ', q, q2, ho⟩
      | rt d δ' => exact ho
theorem dmu_fpop (K) {i k : Nat} {cn x fl : Str} {names : List Str} {C : Addr} {cpos : Pos} (hC : ClsAt K cn C) (hcl : Cls K C) (hno : NoAttr K C fl) (hix : names.findIdx? (· == fl) = some k) (hN : X.N[i]? = some x) (hv : Vis X.env.scope x) (hK : X.K = K := by rfl)
    (hb : attributeBase (.Name x px) fl X.env (eval (.Name x px) X.env) = eval (.Name x px) X.env := by rfl)
    (hbase : attributeBase (.Attribute (.Name x px) fl p2) "pop" X.env (eval (.Attribute (.Name x px) fl p2) X.env) = eval (.Attribute (.Name x px) fl p2) X.env := by rfl) (hline : (apos.endLine == cpos.line) = true := by rfl)
    (hsw : swapsWith (.Call (.Attribute (.Attribute (.Name x px) fl p2) "pop" apos) [] [] cpos) none pos.line X.env = pure false := by rfl) (hd : (x == ("__debug__" : Str)) = false := by decide) (hcd : (x == ("__classdict__" : Str)) = false := by decide) :
    DMu X W M (.Expr (.Call (.Attribute (.Attribute (.Name x px) fl p2) "pop" apos) [] [] cpos) pos) (tDrop (tBM0 X.K "list" rPop (tFld X.K (tVar i) fl))) (upM (fpopF i cn names k)) := by
  subst hK
  refine ⟨ps_expr (pe_bm0 PySem.F.plainAttrs_list PySem.F.slot_list_pop PySem.F.type_list_pop mt_pop (pe_fld (pe_var (i := i) hN hv hd hcd) hb) hbase hline) hsw, fun pin hM H0 Fz0 Fz H σ δ Dn r hp h => ?_⟩
  unfold SKm upM fpopF at h
  rw [wp_bind] at h
  split at h
  · rename_i c0 ns0 fs0 e1
    split at h
    · rename_i xs hk
      split at h
      · rename_i hq
        obtain ⟨rfl, rfl, hq⟩ := hq
        obtain ⟨a, e2, ⟨C', dx, us, h1, h2, h3, h4, h5⟩, h6⟩ := r.ownF i _ e1 rfl
        obtain rfl := cls_eq hC h2
        obtain ⟨u, hu, hu2⟩ := h4.at hk
        obtain ⟨b, rfl, ⟨vs, hb0, hb1, hb2⟩, hbn⟩ : ∃ b, u = .ref b ∧ OwnF X.K Fz H b (.own xs) ∧ b ∈ nest us fs0 := by
          rcases hu2 with ⟨z, _⟩ | z
          · cases z
          · exact z
        have hl := hb2.length
        have hlt : vs.length - 1 < vs.length := by omega
        refine ⟨.ref a, e2, a, C', dx, _, .ref b, rfl, h1, hcl, hno, zip_lookup hix hu, .inl ⟨rfl, _, .of hb0⟩, ?_⟩
        refine ⟨b, vs, vs[vs.length - 1], rfl, rfl, hb0, List.getElem?_eq_getElem hlt, ?_⟩
        exact h Fz _ σ (r.writeFld (o := .lst vs.dropLast) (f' := .own xs.dropLast) e1 e2 h2 h1 h3 hu hk rfl fun H' st q => ⟨_, q, Nat.le_trans (by rw [List.length_dropLast]; exact Nat.sub_le _ _) hb1, hb2.dropLast.stay st fun _ h => h⟩) hp
      · exact h.elim
    · exact h.elim
  · exact h.elim
end
end DL

set_option Elab.async false
set_option linter.all false
set_option maxRecDepth 100000
set_option maxHeartbeats 6400000
namespace DL
open PySem PySem.Spec L2
open PyProof.Rows hiding St
/-! ### t.index(e) of a tuple of tuples of whole numbers, beside that of a list -/
section
variable {X : Cx} {W : WS} {S T : List Nat} {o e : Expr} {to te : TE} {apos cpos : Pos}
theorem bare_is {pins : List (Addr × Obj)} {σ : L2.St} {H : Hp} {s : Shared} {p : Addr} {xs : List V} (I : Inv X pins σ H s) (ht : SqT X.K H p xs) (hb : BareT X.K H p xs) : s.TypeIs (.ref p) "tuple" ∧ ∀ a, Value.ref p = .ref a → ∃ ob, s.heap.get? a = some ob ∧ ob.dict = none := by
  obtain ⟨its, r, it, hz⟩ := I.tuple ht
  refine ⟨it.typeIs, fun a e => ?_⟩
  cases e
  rcases hb with ⟨ob, h1, h2⟩ | ⟨ob, h1, _, h2⟩
  · obtain ⟨h3, _⟩ := (show ObjOk X.prog X.w H s.heap p (.frz ob (.tup xs)) from I.hok p _ h1)
    exact ⟨ob, h3, h2⟩
  · exact ⟨ob, I.kIn p ob h1, h2⟩
def rIndexT (K : PySem.W.Frag) : V → List V → Hp → VK → Prop := fun x xs H Q => ∃ (a : Addr) (vs : List V) (y : V) (d : PyData) (ds : List PyData) (j : Nat) (z : PyData), x = V.ref a ∧ xs = [y] ∧ SqT K H a vs ∧ DpAll K H vs ds ∧ Dp K H y d ∧
  SeqAt.shaped (.list ds) = true ∧ SeqAt.shaped d = true ∧ ds[j]? = some z ∧ PyData.eqv z d = true ∧ (∀ (m : Nat) (z' : PyData), m < j → ds[m]? = some z' → PyData.eqv z' d = false) ∧ Q (.int (j : Nat)) H
theorem mt_indexT (hu : X.A.units + 65 < cLine) : MtR X "tuple.index" (rIndexT X.K) := by
  intro pins s σ H x xs v us Q I rx rxs h
  obtain ⟨a, vs, y, d, ds, j, z, ex, exs, ht, ha, hy, sl, sd, hz, hzj, hno, q⟩ := h
  subst ex
  subst exs
  cases rx
  cases rxs with
  | cons ry rt =>
    rename_i uy ut
    cases rt
    obtain ⟨bs, r1⟩ := Dp.reads I d y uy hy ry
    have lay : PyData.canLayAll0 ds = true := SeqAt.canLay_of_shaped sl
    have room : X.A.units + 1 + min (PyData.depthAll ds) d.depth < cLine := room_in_shaped sd hu
    obtain ⟨its, rv, ⟨⟨cls, dd, data, sls⟩, ho, hc, n, hdt⟩, hlen⟩ := I.tuple ht
    simp only at hc hdt
    subst hc hdt
    obtain ⟨as, h4⟩ := Dp.readsAll I ds _ its ha rv
    have hn : its.length = ds.length := SeqAt.ReadsAll.length ds its as h4
    have hmap : its.map (SeqAt.readOf s.heap) = ds := SeqAt.readsAll_map ds its as lay h4
    obtain ⟨hjd, _⟩ := List.getElem?_eq_some_iff.mp hz
    have hj : j < its.toArray.size := by rw [List.size_toArray]; omega
    have at_ : ∀ (m : Nat) (hm : m < its.toArray.size) (z' : PyData), ds[m]? = some z' → SeqAt.readOf s.heap its.toArray[m] = z' := fun m hm z' hz' => by
      have hml : m < its.length := by simpa using hm
      rw [← hmap, List.getElem?_map, List.getElem?_eq_getElem hml] at hz'
      have e1 := Option.some.inj (show some (SeqAt.readOf s.heap its[m]) = some z' from hz')
      simpa using e1
    refine call_meets PySem.F.slot_tuple_index ⟨_, ho, rfl⟩ PySem.F.entry_tuple_index (PySem.F.args_tuple_index_2 _ _) (TI.tuple_indexAt a its.toArray n dd sls uy (fun u => PyData.eqv (SeqAt.readOf s.heap u) d) j hj ?_ ?_)
      ⟨ho, SeqAt.items_eqAt (vs := its.toArray) (show ReadsAll s.heap its.toArray.toList ds as from h4) r1 lay (SeqAt.canLay_of_shaped sd) room, ⟨.int (j : Nat), H, I.tok _, ⟨_, rfl⟩, q⟩⟩
    · show PyData.eqv (SeqAt.readOf s.heap its.toArray[j]) d = true
      rw [at_ j hj z hz]
      exact hzj
    · intro m hm hmj
      have hmd : m < ds.length := by omega
      have hz' : ds[m]? = some ds[m] := List.getElem?_eq_getElem hmd
      show PyData.eqv (SeqAt.readOf s.heap its.toArray[m]) d = false
      rw [at_ m hm _ hz']
      exact hno m _ hmj hz'
def tIx2 (K : PySem.W.Frag) (to te : TE) : TE := fun σ H Q => to σ H fun x H1 => (tyV K "list" x H1 ∧ te σ H1 fun y H2 => rIndexD K x [y] H2 Q) ∨ ((∃ p xs, x = .ref p ∧ SqT K H1 p xs ∧ BareT K H1 p xs) ∧ te σ H1 fun y H2 => rIndexT K x [y] H2 Q)
theorem pe_ix2 (hu : X.A.units + 65 < cLine) (ho : PE X o to) (he : PE X e te) (hbase : attributeBase o "index" X.env (eval o X.env) = eval o X.env := by rfl)
    (hfew : ((backTo cpos (starEach [e] X.env)).all (fun x => !x.1) && (backToKw cpos (keywordEach [] X.env)).all (fun x => x.1.isSome)
      && decide ([e].length + ([] : List Keyword).length + (if ([] : List Keyword).isEmpty then 0 else 1) < 30)) = true := by rfl)
    (hline : (apos.endLine == cpos.line) = true := by rfl) (hs : starEach [e] X.env = (false, eval e X.env) :: starEach [] X.env := by rfl) (hplain : (backTo cpos (starEach [] X.env)).any (·.1) = false := by rfl) :
    PE X (.Call (.Attribute o "index" apos) [e] [] cpos) (tIx2 X.K to te) := by
  refine ⟨fun pins s σ H Q I h => ?_⟩
  refine wpAny_Call_method_late hbase hfew hline rfl (thn (ho.run pins s σ H _ I h) fun v s1 ⟨x, H1, I1, r1, q⟩ => ?_)
  have ha : PA X [e] (tCons te tNil) := pa_cons he pa_nil hs
  rcases q with ⟨ty, q⟩ | ⟨⟨p, xs, ep, ht, hb⟩, q⟩
  · obtain ⟨h1, h2⟩ := tyV_is I1 r1 ty
    refine ⟨"list", _, PySem.F.plainAttrs_list, PySem.F.slot_list_index, PySem.F.type_list_index, h1, h2, ?_⟩
    have hA := ha.run cpos pins s1 σ H1 (fun ys H2 => rIndexD X.K x ys H2 Q) I1 q
    rw [hs] at hA ⊢
    refine Calls.callWith_builtin (by (show (false || (backTo cpos (starEach [] X.env)).any (·.1)) = false); rw [hplain] <;> rfl) (Calls.evalArgs_plain ?_)
    exact thn hA fun us s2 ⟨vs, H2, I2, r2, q2⟩ => mt_indexD hu pins s2 σ H2 x vs v us Q I2 r1 r2 q2
  · subst ep
    cases r1
    obtain ⟨h1, h2⟩ := bare_is I1 ht hb
    refine ⟨"tuple", _, PySem.F.plainAttrs_tuple, PySem.F.slot_tuple_index, PySem.F.type_tuple_index, h1, h2, ?_⟩
    have hA := ha.run cpos pins s1 σ H1 (fun ys H2 => rIndexT X.K (.ref p) ys H2 Q) I1 q
    rw [hs] at hA ⊢
    refine Calls.callWith_builtin (by (show (false || (backTo cpos (starEach [] X.env)).any (·.1)) = false); rw [hplain] <;> rfl) (Calls.evalArgs_plain ?_)
    exact thn hA fun us s2 ⟨vs, H2, I2, r2, q2⟩ => mt_indexT hu pins s2 σ H2 (.ref p) vs (.ref p) us Q I2 rfl r2 q2
def indexB (fa fb : DSt → Res PyData) (δ : DSt) : Res PyData := fa δ >>= fun x => match x with
  | .list ds => fb δ >>= fun y => indexL ds y
  | .tuple ds => if (!allI ds && allC ds) = true then fb δ >>= fun y => indexL ds y else .bot
  | _ => .bot
theorem de_index2 (K) {fa fb : DSt → Res PyData} (hu : X.A.units + 65 < cLine) (ho : DE X W S o to fa) (he : DE X W T e te fb) (hK : X.K = K := by rfl)
    (hbase : attributeBase o "index" X.env (eval o X.env) = eval o X.env := by rfl)
    (hfew : ((backTo cpos (starEach [e] X.env)).all (fun x => !x.1) && (backToKw cpos (keywordEach [] X.env)).all (fun x => x.1.isSome)
      && decide ([e].length + ([] : List Keyword).length + (if ([] : List Keyword).isEmpty then 0 else 1) < 30)) = true := by rfl)
    (hline : (apos.endLine == cpos.line) = true := by rfl) (hs : starEach [e] X.env = (false, eval e X.env) :: starEach [] X.env := by rfl) (hplain : (backTo cpos (starEach [] X.env)).any (·.1) = false := by rfl) :
    DE X W (S ++ T) (.Call (.Attribute o "index" apos) [e] [] cpos) (tIx2 K to te) (indexB fa fb) := by
  subst hK
  refine ⟨pe_ix2 hu ho.pe he.pe hbase hfew hline hs hplain, fun Fz σ H δ Q hd hl h => ?_⟩
  unfold EOK indexB at h
  rw [wp_bind] at h
  refine ho.ok Fz σ H δ _ hd.left hl (wp_mono h (fun x hx v H1 F1 g1 r1 => ?_) fun x hx => hx)
  cases x with
  | list ds =>
    have r1' := r1
    cases r1 with
    | lst hh z rr =>
      refine .inl ⟨.inl ⟨rfl, _, hh.sq⟩, ?_⟩
      have hx : (fb δ >>= fun y => indexL ds y).wp _ _ := hx
      rw [wp_bind] at hx
      refine he.ok F1 σ H1 δ _ (hd.right.grow g1) (g1.live hl) (wp_mono hx (fun y hy u H2 F2 g2 r2 => ?_) fun x hx c oe H2 F2 g2 r2 => hx c oe H2 F2 (g1.trans g2) r2)
      unfold indexL at hy
      split at hy
      · rename_i c
        rw [Bool.and_eq_true, Bool.and_eq_true, Bool.and_eq_true] at c
        obtain ⟨⟨⟨c1, c2⟩, c3⟩, c4⟩ := c
        split at hy
        · rename_i j hj
          obtain ⟨hlt, p1, p2⟩ := List.findIdx?_eq_some_iff_getElem.mp hj
          refine ⟨_, u, y, ds, j, ds[j], rfl, rfl, (r1'.grow g2).dp c3, r2.dp c4, c1, c2, List.getElem?_eq_getElem hlt, p1, fun m z' hm hz => ?_, hy _ H2 F2 (g1.trans g2) (.int _)⟩
          have hml : m < ds.length := by omega
          rw [List.getElem?_eq_getElem hml] at hz
          cases hz
          have := p2 m hm
          simpa using this
        · exact hy.elim
      · exact hy.elim
  | tuple ds =>
    have hx : (if (!allI ds && allC ds) = true then fb δ >>= fun y => indexL ds y else .bot).wp _ _ := hx
    split at hx
    · rename_i hC
      rw [Bool.and_eq_true, Bool.not_eq_true'] at hC
      cases r1 with
      | tup hh z rr =>
        refine .inr ⟨⟨_, _, rfl, hh.sq, hh.nd hC.1 hC.2⟩, ?_⟩
        rw [wp_bind] at hx
        refine he.ok F1 σ H1 δ _ (hd.right.grow g1) (g1.live hl) (wp_mono hx (fun y hy u H2 F2 g2 r2 => ?_) fun x hx c oe H2 F2 g2 r2 => hx c oe H2 F2 (g1.trans g2) r2)
        unfold indexL at hy
        split at hy
        · rename_i c
          rw [Bool.and_eq_true, Bool.and_eq_true, Bool.and_eq_true] at c
          obtain ⟨⟨⟨c1, c2⟩, c3⟩, c4⟩ := c
          split at hy
          · rename_i j hj
            obtain ⟨hlt, p1, p2⟩ := List.findIdx?_eq_some_iff_getElem.mp hj
            have c3 : nodcAll ds = true := by rw [nodc] at c3; exact c3
            refine ⟨_, _, u, y, ds, j, ds[j], rfl, rfl, SqT.stay (Fz := F1) (.of_same g2.same) hh.sq, (rr.grow g2).dp c3, r2.dp c4, c1, c2, List.getElem?_eq_getElem hlt, p1, fun m z' hm hz => ?_, hy _ H2 F2 (g1.trans g2) (.int _)⟩
            have hml : m < ds.length := by omega
            rw [List.getElem?_eq_getElem hml] at hz
            cases hz
            have := p2 m hm
            simpa using this
          · exact hy.elim
        · exact hy.elim
    · exact hx.elim
  | _ => exact hx.elim
end
end DL

set_option Elab.async false
set_option linter.all false
set_option maxRecDepth 100000
set_option maxHeartbeats 4000000
namespace DL
open PySem PySem.Spec L2
open PyProof.Rows hiding St
section
variable {X : Cx} {W : WS} {U : XK} {S T M : List Nat} {o e a b c tg : Expr} {es tgs : List Expr} {pos p p2 px apos ps0 : Pos} {to te ta tb : TE} {tt : TT} {t : TA} {ts ts' : TS} {st : Stmt} {rest : List Stmt}
/-- a, b = e in a def that changes things of its caller -/
theorem dmu_asgP {f : DSt → Res PyData} {g : TG} {p : Pat} (hg : DG X tg g p) (he : DE X W S e te f) (hM : ∀ j ∈ p.slots, j ∉ M) (hs : swapsWithSole [tg] e pos.line X.env = pure false := by rfl) (hw : swappedStores [tg] e X.env = pure none := by rfl) (h1 : (assignEach [tg] X.env).map (·.2) = [assign tg X.env] := by rfl) : DMu X W M (.Assign [tg] e pos) (tAsg te g) (upM (asgF S f p)) :=
  ⟨(ds_asg hg he hs hw h1).pe, dmu_asg he hg hM⟩
end
end DL

set_option Elab.async false
set_option linter.all false
set_option maxRecDepth 100000
set_option maxHeartbeats 4000000
namespace DL
open PySem PySem.Spec L2
open PyProof.Rows hiding St
/-! ### arguments that change things themselves -/
structure DAEo (X : Cx) (W : WS) (ks : List MA) (es : List Expr) (t : TA) (f : DSt → Res (List SV × DSt)) : Prop where
  pe : PA X es t
  ok : ∀ H0 Fz0 Fz H σ δ Q, Rel X.K H0 Fz0 Fz H σ δ → (f δ).wp (fun r => ∀ vs H1 F1, (∀ a, Fz a → F1 a) → Stay Fz H H1 → Rel X.K H0 Fz0 F1 H1 σ r.2 → ArgsC X.K F1 H1 σ r.2 ks vs r.1 → Q vs H1) (XOK X.mg (W σ) H0 Fz0) → t σ H Q
/-- the rest is plain -/
def pO' (f : DSt → Res (List SV)) (δ : DSt) : Res (List SV × DSt) := f δ >>= fun ss => .ok (ss, δ)
def vE (f : DSt → Res PyData) (g : DSt → Res (List SV × DSt)) (δ : DSt) : Res (List SV × DSt) := f δ >>= fun x => if flat x then g δ >>= fun r => .ok (.val x :: r.1, r.2) else .bot
def mE (f : DSt → Res (PyData × DSt)) (g : DSt → Res (List SV)) (δ : DSt) : Res (List SV × DSt) := f δ >>= fun r => if flat r.1 then g r.2 >>= fun ss => .ok (.val r.1 :: ss, r.2) else .bot
def methE (cn : Str) (names : List Str) (i : Nat) (ks : List MA) (f : DSt → Res (List SV × DSt)) (g : List SV → Res (PyData × List SV)) (δ : DSt) : Res (PyData × DSt) := match δ[i]? with
  | some (some (.ins c ns _)) => if c = cn ∧ ns = names then f δ >>= fun r => (match r.2[i]? with
    | some (some (.ins c' ns' fs)) => if c' = cn ∧ ns' = names then nE (g (.ins c' ns' fs :: r.1)) >>= fun q => .ok (q.1, setsO (.o i :: ks) q.2 r.2) else .bot
    | _ => .bot) else .bot
  | _ => .bot
section
variable {X : Cx} {W : WS} {U : XK} {S T M : List Nat} {e a b c tg : Expr} {es tgs : List Expr} {pos p px apos ps0 : Pos} {te ta tb : TE} {tt : TT} {t : TA} {ts ts' : TS} {st : Stmt} {rest : List Stmt} {ks : List MA}
theorem daeo_pure {f : DSt → Res (List SV)} (h : DAMo X W ks es t f) : DAEo X W ks es t (pO' f) := by
  refine ⟨h.pe, fun H0 Fz0 Fz H σ δ Q r q => ?_⟩
  unfold pO' at q
  rw [wp_bind] at q
  exact h.ok H0 Fz0 Fz H σ δ Q r (wp_mono q (fun ss hs vs H1 s1 r1 m => hs vs H1 Fz (fun _ h => h) (.of_same s1) r1 m) fun x hx => hx)
theorem daeo_val {f : DSt → Res PyData} {g : DSt → Res (List SV × DSt)} (he : DE X W S e te f) (hr : DAEo X W ks es t g) (hs : starEach (e :: es) X.env = (false, eval e X.env) :: starEach es X.env := by rfl) : DAEo X W (.v :: ks) (e :: es) (tCons te t) (vE f g) := by
  refine ⟨pa_cons he.pe hr.pe hs, fun H0 Fz0 Fz H σ δ Q r h => ?_⟩
  unfold vE at h
  rw [wp_bind] at h
  refine atE he r (wp_mono h (fun x hx v H1 F1 g1 r1 => ?_) fun x hx => hx)
  by_cases hf : flat x = true
  · rw [if_pos hf, wp_bind] at hx
    exact hr.ok H0 Fz0 Fz H1 σ δ _ (r.up g1.same) (wp_mono hx (fun q hq vs H2 F2 s2 y2 r2 m => hq (v :: vs) H2 F2 s2 (Stay.tr (.of_same g1.same) (fun _ h => h) y2) r2 (.v ((r1.flat hf : Rep X.K Fz H1 v x).stay y2 s2) m)) fun x hx => hx)
  · rw [if_neg hf] at hx
    exact hx.elim
theorem daeo_mut {f : DSt → Res (PyData × DSt)} {g : DSt → Res (List SV)} (he : DEm X W e te f) (hr : DAMo X W ks es t g) (hs : starEach (e :: es) X.env = (false, eval e X.env) :: starEach es X.env := by rfl) : DAEo X W (.v :: ks) (e :: es) (tCons te t) (mE f g) := by
  refine ⟨pa_cons he.pe hr.pe hs, fun H0 Fz0 Fz H σ δ Q r h => ?_⟩
  unfold mE at h
  rw [wp_bind] at h
  refine he.ok H0 Fz0 Fz H σ δ _ r (wp_mono h (fun q hq v H1 F1 s1 y1 r1 p1 => ?_) fun x hx => hx)
  by_cases hf : flat q.1 = true
  · rw [if_pos hf, wp_bind] at hq
    exact hr.ok H0 Fz0 F1 H1 σ q.2 _ r1 (wp_mono hq (fun ss hss vs H2 s2 r2 m => hss (v :: vs) H2 F1 s1 (Stay.tr y1 s1 (.of_same s2)) r2 (.v (p1.stay (.of_same s2) fun _ h => h) m)) fun x hx => hx)
  · rw [if_neg hf] at hq
    exact hq.elim
theorem dem_methE (K) (mg) {k j n i : Nat} {C : Addr} {cn x m : Str} {names : List Str} {g : List SV → Res (PyData × List SV)} {f : DSt → Res (List SV × DSt)} {pl : Sem Bool} (c : FDMo X.prog X.w K mg X.base k n cn m g) (hC : ClsAt K cn C) (hr : Room j X.A) (hk : k ≤ j) (hN : X.N[i]? = some x) (hv : Vis X.env.scope x) (hno : names.contains m = false) (hn : ks.length + 1 = n) (hnd : (ixOf (.o i :: ks)).Nodup) (ha : DAEo X W ks (e :: es) t f) (hK : X.K = K := by rfl) (hMg : X.mg = mg := by rfl)
    (hst : starEach (e :: es) X.env = (false, eval e X.env) :: starEach es X.env := by rfl) (hpl : (backTo pos (starEach es X.env)).any (·.1) = false := by rfl)
    (ht : eval (.Call (.Attribute (.Name x px) m apos) (e :: es) [] pos) X.env = (do
      let ov ← eval (.Name x px) X.env
      standAt apos.atName
      let (f, first) ← holding [ov] (getMethod ov m pl)
      callWith pos f first (backTo pos (starEach (e :: es) X.env)) (backToKw pos (keywordEach [] X.env))) := by rfl) (hd : (x == ("__debug__" : Str)) = false := by decide) (hcd : (x == ("__classdict__" : Str)) = false := by decide) :
    DEm X W (.Call (.Attribute (.Name x px) m apos) (e :: es) [] pos) (tMeth C m (spO K n g) [] L2.E0 (tVar i) t) (methE cn names i ks f g) := by
  subst hK hMg
  obtain ⟨fa, fd, ps, F, hb, hm⟩ := c.ex
  obtain ⟨hcl, hme⟩ := hm C hC
  refine ⟨pe_meth (pl := pl) (pe_var (i := i) hN hv hd hcd) hcl hme F (hr.mono hk) hb .nil pass0 ha.pe hst hpl ht, fun H0 Fz0 Fz H σ δ Q r h => ?_⟩
  unfold methE at h
  split at h
  · rename_i cn' ns fs0 e1
    by_cases hq : cn' = cn ∧ ns = names
    · obtain ⟨rfl, rfl⟩ := hq
      rw [if_pos ⟨rfl, rfl⟩, wp_bind] at h
      obtain ⟨a, e2, ⟨C', dx, us, h1, h2, h3, h4, h5⟩, h6⟩ := r.ownF i _ e1 rfl
      have : C' = C := cls_eq hC h2
      subst this
      refine ⟨.ref a, e2, a, dx, _, rfl, h1, zip_lookup_none hno, ?_⟩
      refine ha.ok H0 Fz0 Fz H σ δ _ r (wp_mono h (fun q hss vs H1 F1 s1 y1 r1 m1 => ?_) fun x hx => hx)
      split at hss
      · rename_i c' ns' fs e3
        by_cases hq : c' = cn' ∧ ns' = ns
        · obtain ⟨rfl, rfl⟩ := hq
          rw [if_pos ⟨rfl, rfl⟩, wp_bind] at hss
          have m2 : ArgsC X.K F1 H1 σ q.2 (.o i :: ks) (.ref a :: vs) (.ins c' ns' fs :: q.1) := .o e3 rfl e2 m1
          rw [List.append_nil]
          refine ⟨_, F1, m2.len.1.trans hn, relO_in r1 m2 hnd, wp_mono (nE_wpA hss) (fun rr hds v H2 F2 q2 rv => ?_) fun _ h => h⟩
          obtain ⟨r2, st⟩ := relO_out r1 m2 hnd q2
          exact hds v H2 F2 (fun a h => q2.sub0 a (s1 a h)) (Stay.tr y1 s1 st) r2 rv
        · rw [if_neg hq] at hss
          exact hss.elim
      · exact hss.elim
    · rw [if_neg hq] at h
      exact h.elim
  · exact h.elim
end
end DL

set_option Elab.async false
set_option linter.all false
set_option maxRecDepth 100000
set_option maxHeartbeats 4000000
namespace DL
open PySem PySem.Spec L2
open PyProof.Rows hiding St
section
variable {X : Cx} {W : WS} {U : XK} {S T M : List Nat} {e a b c tg : Expr} {pos p : Pos} {te ta tb : TE}
def rNinRg : V → V → Hp → VK → Prop := fun x y H Q => ∃ i a lo hi, x = V.int i ∧ y = V.ref a ∧ H a = some (.rng lo hi) ∧ Q (.bl (!decide (lo ≤ i ∧ i < hi))) H
theorem op_nin_rng : OpR X (compareOp .NotIn) rNinRg := by
  intro pins s σ H x y v u Q I rx ry h
  obtain ⟨i, a, lo, hi, rfl, rfl, ha, q⟩ := h
  obtain ⟨k, rfl⟩ := rx
  obtain rfl : u = Value.ref a := ry
  obtain ⟨t1, t2, t3, ho⟩ := I.hok a _ ha
  show wpAny _ _ (do return Value.bool (!(← contains (Value.ref a) (Value.int i k)))) _ _ s
  refine wpAny_bind (wpAny_contains_slot (T := "range") ⟨_, ho, rfl⟩ F.slot_range_contains (call_meets F.slot_range_contains ⟨_, ho, rfl⟩ F.entry_range_contains (F.args_range_contains_2 _ _) (q_contains a lo hi i t1 t2 t3 k) ⟨ho, ?_⟩))
  refine wpAny_truthy_bool (wpAny_pure ⟨.bl _, H, I, rfl, ?_⟩)
  rw [place1]
  exact q
def tNinR (fa fb : DSt → Res PyData) (δ : DSt) : Res Bool := fa δ >>= fun x => fb δ >>= fun y => match x, y with
  | .int i, .int j => .ok (!decide (0 ≤ i ∧ i < j))
  | _, _ => .bot
theorem dt_ninRg {fa fb : DSt → Res PyData} (hg : Gl X "range") (hm : X.mg "range" = none) (ha : DE X W S a ta fa) (hb : DE X W T b tb fb) (hin : behindInMarks .NotIn (.Call (.Name "range" p) [b] [] pos) = false := by rfl)
    (he : starEach [b] X.env = (false, eval b X.env) :: starEach [] X.env := by rfl) (hpl : (backTo pos (starEach [] X.env)).any (·.1) = false := by rfl) {pos2 : Pos} : DT X W (S ++ T) (.Compare a [.NotIn] [.Call (.Name "range" p) [b] [] pos] pos2) (tTest (tOp rNinRg ta (tCB rRange1 (tCons tb tNil)))) (tNinR fa fb) := by
  refine ⟨pt_cmpR op_nin_rng ha.pe (pe_callTy cr_range1 hg hm boot_range (pa_cons hb.pe pa_nil he) (by decide) (by decide) he hpl) hin, fun Fz σ H δ Q hd hl h => ?_⟩
  unfold BOK tNinR at h
  rw [wp_bind] at h
  refine ha.ok Fz σ H δ _ hd.left hl (wp_mono h (fun x hx v H1 F1 g1 r1 => ?_) fun x hx => hx)
  rw [wp_bind] at hx
  refine hb.ok F1 σ H1 δ _ (hd.right.grow g1) (g1.live hl) (wp_mono hx (fun y hy u H2 F2 g2 r2 => ?_) fun x hx c oe H2 F2 g2 q => hx c oe H2 F2 (g1.trans g2) q)
  cases x with
  | int i =>
    cases y with
    | int j =>
      cases r1
      cases r2
      refine ⟨j, rfl, fun q np => ⟨i, q, 0, j, rfl, rfl, upd_same, _, rfl, hy _ F2 ((g1.trans g2).trans (.nw np))⟩⟩
    | _ => exact hy.elim
  | _ => cases y <;> exact hy.elim
end
end DL

set_option Elab.async false
set_option linter.all false
set_option maxRecDepth 100000
set_option maxHeartbeats 4000000
namespace DL
open PySem PySem.Spec L2
open PyProof.Rows hiding St
/-! ### hash tables of up to 512 slots -/
/-- the round 5 i + 1 takes any slot to any other -/
def Round (m : Nat) : Prop := ∀ i j, i ≤ m → j ≤ m → ∃ n, n ≤ m ∧ lcgI m i n = j
def orb (m : Nat) : Nat → Nat → List Nat
  | 0, _ => []
  | n + 1, i => i :: orb m n ((i * 5 + 1) % (m + 1))
theorem lcg_front (m i : Nat) : ∀ k, lcgI m ((i * 5 + 1) % (m + 1)) k = lcgI m i (k + 1)
  | 0 => rfl
  | k + 1 => by
    have := lcg_front m i k
    unfold lcgI
    rw [this]
theorem orb_at (m : Nat) : ∀ (n i k : Nat), k < n → (orb m n i)[k]? = some (lcgI m i k)
  | 0, _, _, h => absurd h (by omega)
  | n + 1, i, 0, _ => rfl
  | n + 1, i, k + 1, h => by
    show (orb m n ((i * 5 + 1) % (m + 1)))[k]? = _
    rw [orb_at m n _ k (by omega), lcg_front]
theorem orb_mem {m n i j : Nat} (h : j ∈ orb m n i) : ∃ k, k < n ∧ lcgI m i k = j := by
  have len : ∀ n i, (orb m n i).length = n := by
    intro n
    induction n with
    | zero => exact fun _ => rfl
    | succ n ih => exact fun i => by rw [orb, List.length_cons, ih]
  obtain ⟨k, hk, e⟩ := List.getElem_of_mem h
  rw [len] at hk
  refine ⟨k, hk, ?_⟩
  have := orb_at m n i k hk
  rw [List.getElem?_eq_getElem (by rw [len]; exact hk), e] at this
  exact (Option.some.inj this).symm
theorem lcg_zero (m : Nat) : ∀ k, lcgI m 0 k = lcgN m k
  | 0 => rfl
  | k + 1 => by unfold lcgI lcgN; rw [lcg_zero m k]
theorem full511 : ((List.range 512).all fun j => (orb 511 512 0).any fun x => Nat.beq x j) = true := by decide +kernel
theorem back511 : ((orb 511 513 0)[512]? == some 0) = true := by decide +kernel
theorem round_of {m : Nat} (h1 : ∀ j, j ≤ m → j ∈ orb m (m + 1) 0) (h2 : lcgI m 0 (m + 1) = 0) : Round m := by
  intro i j hi hj
  obtain ⟨a, ha, ea⟩ := orb_mem (h1 i hi)
  obtain ⟨b, hb, eb⟩ := orb_mem (h1 j hj)
  rw [lcg_zero] at ea eb h2
  have per : ∀ k, lcgN m (m + 1 + k) = lcgN m k := fun k => by
    have := lcgN_add m (m + 1) k
    rw [h2] at this
    rw [← this, lcg_zero]
  by_cases c : a ≤ b
  · exact ⟨b - a, by omega, by rw [← ea, lcgN_add, Nat.add_sub_cancel' c]; exact eb⟩
  · refine ⟨m + 1 + b - a, by omega, ?_⟩
    rw [← ea, lcgN_add, show a + (m + 1 + b - a) = m + 1 + b by omega, per]
    exact eb
theorem round511 : Round 511 := round_of (fun j hj => by
    have := List.all_eq_true.mp full511 j (List.mem_range.mpr (by omega))
    obtain ⟨x, hx, e⟩ := List.any_eq_true.mp this
    rw [← Nat.eq_of_beq_eq_true e]
    exact hx) (by
    have := eq_of_beq back511
    rw [orb_at 511 513 0 512 (by omega)] at this
    exact Option.some.inj this)
/-- the masks of these tables -/
structure Wide (m : Nat) : Prop where
  cases4 : m = 7 ∨ m = 31 ∨ m = 127 ∨ m = 511
theorem Wide.round {m : Nat} (h : Wide m) : Round m := by
  rcases h.cases4 with e | e | e | e
  · exact fun i j hi hj => lcgI_all (.inl e) hi hj
  · exact fun i j hi hj => lcgI_all (.inr (.inl e)) hi hj
  · exact fun i j hi hj => lcgI_all (.inr (.inr e)) hi hj
  · subst e; exact round511
theorem Wide.le {m : Nat} (h : Wide m) : m ≤ 511 := by
  rcases h.cases4 with e | e | e | e <;> omega
theorem Wide.odd {m : Nat} (h : Wide m) : m % 2 = 1 := by
  rcases h.cases4 with e | e | e | e <;> omega
theorem meets_run {m : Nat} (hm : Round m) (h : Int) {j : Nat} (hj : j ≤ m) : ∃ n, n ≤ m + 12 ∧ runI m (SetTable.bits h) n = j := by
  obtain ⟨n, a, b⟩ := hm _ j (runI_le m (SetTable.bits h) 12) hj
  exact ⟨12 + n, by omega, (runI_tail (bits_lt h) n).trans b⟩
theorem meets_way {m : Nat} (hm : Round m) (h : Int) {j : Nat} (hj : j ≤ m) : ∃ k, k < 10 * SetTable.turns m ∧ way m h k = j := by
  obtain ⟨n, a, b⟩ := meets_run hm h hj
  obtain ⟨k, c, d⟩ := run_nth m (SetTable.bits h) n
  refine ⟨k, ?_, ?_⟩
  · unfold SetTable.turns
    omega
  · show SetTable.Probe.j _ = j
    rw [d]
    exact b
theorem way_in (m : Nat) (h : Int) (k : Nat) : way m h k ≤ m := by
  have lo : SetTable.bits h % (m + 1) ≤ m := Nat.le_of_lt_succ (Nat.mod_lt _ (by omega))
  obtain ⟨b1, b2, _⟩ := runEnd_bd lo
  have := nth_in k (runAt m (SetTable.bits h % (m + 1)) (SetTable.bits h)) (m := m) (by
    show SetTable.bits h % (m + 1) + (SetTable.runEnd m (SetTable.bits h % (m + 1)) - SetTable.bits h % (m + 1)) ≤ m
    omega)
  show SetTable.Probe.j _ ≤ m
  omega
/-- the slots of a table, each found from its hash -/
structure TabW (t : SetTable) (hs : List Int) : Prop where
  asc : Ris t.place.toList
  clean : t.dummies = #[]
  cnt : t.place.size = hs.length
  wide : Wide t.mask
  found : ∀ (i : Nat) (h : Int) (j : Nat), hs[i]? = some h → t.place.toList[i]? = some j → ∃ k, way t.mask h k = j ∧ ∀ c, c < k → way t.mask h c ∈ t.place.toList
theorem TabW.hole {t : SetTable} {hs : List Int} (T : TabW t hs) (room : hs.length ≤ t.mask) (h : Int) : ∃ K, K < 10 * SetTable.turns t.mask ∧ way t.mask h K ∉ t.place.toList ∧ ∀ c, c < K → way t.mask h c ∈ t.place.toList := by
  obtain ⟨j, hj, no⟩ := st_missing t.place.toList (t.mask + 1) (by rw [Array.length_toList, T.cnt]; omega)
  obtain ⟨k, hk, e⟩ := meets_way T.wide.round h (Nat.le_of_lt_succ hj)
  obtain ⟨K, a, b, c⟩ := st_least (p := fun k => ¬ way t.mask h k ∈ t.place.toList) k (by show ¬ way t.mask h k ∈ _; rw [e]; exact no)
  exact ⟨K, by omega, b, fun i hi => Classical.byContradiction fun z => c i hi z⟩
theorem TabW.ahead {t : SetTable} {hs : List Int} (T : TabW t hs) {h : Int} {K i j : Nat} (no : way t.mask h K ∉ t.place.toList) (hi : hs[i]? = some h) (hj : t.place.toList[i]? = some j) : ∃ k, k < K ∧ way t.mask h k = j := by
  obtain ⟨k, e, b⟩ := T.found i h j hi hj
  refine ⟨k, Classical.byContradiction fun z => ?_, e⟩
  rcases Nat.lt_or_eq_of_le (Nat.le_of_not_lt z) with c | c
  · exact no (b K c)
  · subst c
    rw [e] at no
    exact no (List.mem_of_getElem? hj)
/-- one more in a free slot -/
theorem TabW.add {t : SetTable} {hs : List Int} (T : TabW t hs) {h : Int} {K j : Nat} (ej : way t.mask h K = j) (no : j ∉ t.place.toList) (on : ∀ c, c < K → way t.mask h c ∈ t.place.toList) :
    SetTable.below t.place j ≤ hs.length ∧ TabW (t.put j).1 (hs.take (SetTable.below t.place j) ++ h :: hs.drop (SetTable.below t.place j)) ∧ (t.put j).1.fill = hs.length + 1 := by
  have bl := (below_cut T.asc j).1
  have b1 : SetTable.below t.place j ≤ hs.length := T.cnt ▸ bl
  have b2 : SetTable.below t.place j ≤ t.place.toList.length := by rw [Array.length_toList]; exact bl
  have pp := put_place t j
  have keep : ∀ x, x ∈ t.place.toList → x ∈ (t.put j).1.place.toList := fun x hx => by rw [pp]; exact mem_ins.mpr (.inr hx)
  have size : (t.put j).1.place.size = hs.length + 1 := by
    rw [← Array.length_toList, pp, len_ins _ b2, Array.length_toList, T.cnt]
  refine ⟨b1, ⟨ris_insert T.asc fun e => no (List.mem_of_getElem? (by rw [Array.getElem?_toList]; exact e)), put_dm T.clean j, by rw [len_ins _ b1, size], T.wide, ?_⟩, ?_⟩
  · intro i x y hx hy
    show ∃ k, way t.mask x k = y ∧ ∀ c, c < k → way t.mask x c ∈ (t.put j).1.place.toList
    rw [tins_get hs b1] at hx
    rw [pp, tins_get _ b2] at hy
    have old : ∀ i', hs[i']? = some x → t.place.toList[i']? = some y → ∃ k, way t.mask x k = y ∧ ∀ c, c < k → way t.mask x c ∈ (t.put j).1.place.toList := fun i' e1 e2 => by
      obtain ⟨k, f1, f2⟩ := T.found i' x y e1 e2
      exact ⟨k, f1, fun c hc => keep _ (f2 c hc)⟩
    split at hx
    · rename_i c
      rw [if_pos c] at hy
      exact old i hx hy
    · rename_i c
      rw [if_neg c] at hy
      split at hx
      · rename_i d
        rw [if_pos d] at hy
        cases hx
        cases hy
        exact ⟨K, ej, fun c hc => keep _ (on c hc)⟩
      · rename_i d
        rw [if_neg d] at hy
        exact old (i - 1) hx hy
  · show (t.put j).1.place.size + (t.put j).1.dummies.size = _
    rw [size, put_dm T.clean j]
    rfl
/-! ### laid anew -/
theorem free_at {m : Nat} (hm : Round m) (ow : Array (Option Nat)) (h : Int) {j : Nat} (hj : j ≤ m) (fr : oAt ow j = none) :
    ∃ K, SetTable.layClean.free m ow (SetTable.turns m) (SetTable.bits h % (m + 1)) (SetTable.bits h) = some (way m h K) ∧ oAt ow (way m h K) = none ∧ ∀ c, c < K → oAt ow (way m h c) ≠ none := by
  obtain ⟨n, hn, e⟩ := meets_run hm h hj
  obtain ⟨K, a, b, c⟩ := st_least (p := fun k => oAt ow (way m h k) = none) (off m (SetTable.bits h % (m + 1)) (SetTable.bits h) n) (by
    show oAt ow (SetTable.Probe.j _) = none
    rw [nth_off, itL_run]
    show oAt ow (runI m (SetTable.bits h) n) = none
    rw [e]
    exact fr)
  refine ⟨K, free_spec m ow (SetTable.turns m) n _ _ K ?_ a (fun k hk => ?_) ?_, b, c⟩
  · unfold SetTable.turns
    omega
  · exact Bool.eq_false_iff.mpr fun w => c k hk (Option.isNone_iff_eq_none.mp w)
  · exact Option.isNone_iff_eq_none.mpr b
theorem own_more {m : Nat} (hm : Round m) {dn : List Int} {ow : Array (Option Nat)} (O : Own m dn ow) (room : dn.length ≤ m) (h : Int) :
    ∃ q, SetTable.layClean.free m ow (SetTable.turns m) (SetTable.bits h % (m + 1)) (SetTable.bits h) = some q ∧ Own m (dn ++ [h]) (ow.setIfInBounds q (some dn.length)) := by
  obtain ⟨ps, p1, p2⟩ := O.ps
  obtain ⟨f, hf, no⟩ := st_missing ps (m + 1) (by omega)
  have fr : oAt ow f = none := Classical.byContradiction fun z => no (p2 f (Nat.le_of_lt_succ hf) z)
  obtain ⟨K, e, f1, f2⟩ := free_at hm ow h (Nat.le_of_lt_succ hf) fr
  have ub := way_in m h K
  refine ⟨_, e, ?_⟩
  have inb : way m h K < ow.size := by rw [O.sz]; omega
  have here := oAt_set_self (some dn.length) inb
  have other : ∀ i, i ≠ way m h K → oAt (ow.setIfInBounds (way m h K) (some dn.length)) i = oAt ow i := fun i c => oAt_set_ne _ c
  have stay : ∀ i, oAt ow i ≠ none → oAt (ow.setIfInBounds (way m h K) (some dn.length)) i ≠ none := fun i hi => by
    rcases Classical.em (i = way m h K) with c | c
    · rw [c, here]; simp
    · rw [other i c]; exact hi
  have last : (dn ++ [h])[dn.length]? = some h := by simp
  constructor
  · rw [Array.size_setIfInBounds, O.sz]
  · intro j k hj ej
    rcases Classical.em (j = way m h K) with c | c
    · rw [c, here] at ej
      cases ej
      exact ⟨h, K, last, c.symm, fun i hi => stay _ (f2 i hi)⟩
    · rw [other j c] at ej
      obtain ⟨x, N, a1, a2, a3⟩ := O.at_ j k hj ej
      exact ⟨x, N, by rw [List.getElem?_append_left (List.getElem?_eq_some_iff.mp a1).1]; exact a1, a2, fun i hi => stay _ (a3 i hi)⟩
  · intro k hk
    rcases Nat.lt_or_ge k dn.length with c | c
    · obtain ⟨j, a1, a2⟩ := O.all k c
      exact ⟨j, a1, by rw [other j fun z => by rw [z, f1] at a2; cases a2]; exact a2⟩
    · rw [List.length_append, List.length_singleton] at hk
      obtain rfl : k = dn.length := by omega
      exact ⟨_, ub, here⟩
  · refine ⟨way m h K :: ps, by simp [p1], fun j hj ne => ?_⟩
    rcases Classical.em (j = way m h K) with c | c
    · rw [c]; exact List.mem_cons_self
    · rw [other j c] at ne
      exact List.mem_cons_of_mem _ (p2 j hj ne)
theorem own_fold {m : Nat} (hm : Round m) : ∀ (todo dn : List Int) (ow : Array (Option Nat)), Own m dn ow → dn.length + todo.length ≤ m + 1 → ∃ ow', todo.foldl (stepF m) (some (ow, dn.length)) = some (ow', dn.length + todo.length) ∧ Own m (dn ++ todo) ow' := by
  intro todo
  induction todo with
  | nil => exact fun dn ow O _ => ⟨ow, rfl, by rw [List.append_nil]; exact O⟩
  | cons h todo ih =>
    intro dn ow O room
    simp only [List.length_cons] at room
    obtain ⟨q, e, O2⟩ := own_more hm O (by omega) h
    obtain ⟨ow', g1, g2⟩ := ih (dn ++ [h]) _ O2 (by simp; omega)
    refine ⟨ow', ?_, by simpa using g2⟩
    rw [List.foldl_cons, stepF_some e]
    rw [List.length_append, List.length_singleton] at g1
    rw [g1, List.length_cons]
    congr 2
    omega
theorem laid_clean {m : Nat} (hm : Round m) {hs : Array Int} (room : hs.size ≤ m + 1) : ∃ ow, SetTable.layClean m hs = some ow ∧ Own m hs.toList ow := by
  obtain ⟨ow, g1, g2⟩ := own_fold hm hs.toList [] _ (Own.init m) (by simpa using room)
  refine ⟨ow, ?_, by simpa using g2⟩
  rw [layClean_eq]
  have g3 : hs.toList.foldl (stepF m) (some (Array.replicate (m + 1) none, 0)) = _ := g1
  rw [g3]
  rfl
end DL

set_option Elab.async false
set_option linter.all false
set_option maxRecDepth 100000
set_option maxHeartbeats 4000000
namespace DL
open PySem PySem.Spec L2
open PyProof.Rows hiding St
/-! ### a table laid anew, the outcome -/
theorem live_len {m : Nat} {hs : List Int} {ow : Array (Option Nat)} (O : Own m hs ow) : (liveOf m ow).length = hs.length := by
  obtain ⟨ps, p1, p2⟩ := O.ps
  have asc := (ris_live (fun j => ow.getD j none) (List.range (m + 1)) List.pairwise_lt_range).1
  have nd : ((liveOf m ow).map (·.1)).Nodup := asc.imp fun h => by omega
  have up := nat_nodup_len _ ps nd fun x hx => by
    obtain ⟨⟨j, k⟩, hm, rfl⟩ := List.mem_map.mp hx
    obtain ⟨a, b⟩ := (mem_live O.sz).mp hm
    exact p2 j a (by rw [b]; simp)
  have lo := nat_nodup_len (List.range hs.length) ((liveOf m ow).map (·.2)) List.nodup_range fun k hk => by
    obtain ⟨j, a, b⟩ := O.all k (List.mem_range.mp hk)
    exact List.mem_map.mpr ⟨(j, k), (mem_live O.sz).mpr ⟨a, b⟩, rfl⟩
  rw [List.length_map] at up lo
  rw [List.length_range] at lo
  omega
theorem laid_new (t : SetTable) {hs : Array Int} {want M : Nat} (hw : SetTable.sizeAbove want - 1 = M) (hM : Wide M) (room : hs.size ≤ M) :
    ∃ t2 order, t.relaid hs want = some (t2, order) ∧ order.toList.Perm (List.range hs.size) ∧ TabW t2 (order.toList.map fun i => hs.getD i 0) ∧ t2.mask = M ∧ t2.led = t.led ∧ t2.plain = t.plain := by
  obtain ⟨ow, lay, O⟩ := laid_clean hM.round (hs := hs) (m := M) (by omega)
  have len : (liveOf M ow).length = hs.size := live_len O
  refine ⟨tabOf t M ow, ((liveOf M ow).map (·.2)).toArray, by rw [relaid_eq, hw, lay]; rfl, ?_, ⟨?_, rfl, ?_, hM, ?_⟩, rfl, rfl, rfl⟩
  · refine perm_range hs.size ((liveOf M ow).map (·.2)) (by rw [List.length_map, len]) fun k hk => ?_
    obtain ⟨j, a, b⟩ := O.all k (by rw [Array.length_toList]; exact hk)
    exact List.mem_map.mpr ⟨_, (mem_live O.sz).mpr ⟨a, b⟩, rfl⟩
  · exact (ris_live (fun j => ow.getD j none) (List.range (M + 1)) List.pairwise_lt_range).1
  · show ((liveOf M ow).map (·.1)).toArray.size = _
    simp
  · intro i h j e1 e2
    have e1 : (((liveOf M ow).map (·.2)).map fun i => hs.getD i 0)[i]? = some h := e1
    have e2 : ((liveOf M ow).map (·.1))[i]? = some j := e2
    rw [List.getElem?_map] at e2
    rw [List.getElem?_map, List.getElem?_map] at e1
    obtain ⟨⟨x, k⟩, at1, rfl⟩ := Option.map_eq_some_iff.mp e2
    rw [at1] at e1
    have e1 : hs.getD k 0 = h := Option.some.inj e1
    obtain ⟨u1, u2⟩ := (mem_live O.sz).mp (List.mem_of_getElem? at1)
    obtain ⟨h2, K, a1, a2, a3⟩ := O.at_ x k u1 u2
    have same : h2 = h := by
      rw [← e1, Array.getD_eq_getD_getElem?, ← Array.getElem?_toList, a1]; rfl
    subst same
    refine ⟨K, a2, fun c hc => ?_⟩
    show way M h2 c ∈ (liveOf M ow).map (·.1)
    obtain ⟨k2, z⟩ := Option.ne_none_iff_exists'.mp (a3 c hc)
    exact List.mem_map.mpr ⟨(way M h2 c, k2), (mem_live O.sz).mpr ⟨way_in M h2 c, z⟩, rfl⟩
end DL

set_option Elab.async false
set_option linter.all false
set_option maxRecDepth 100000
set_option maxHeartbeats 4000000
namespace DL
open PySem PySem.Spec L2
open PyProof.Rows hiding St
/-! ### a set of tuples of whole numbers, of up to 306 -/
structure TupSet (P : Program) (w : World) (h : Heap) (a : Addr) (L : List (Addr × List Int)) (es : Array (Int × Value)) (ep : Nat) (t : SetTable) : Prop where
  obj : ∃ o, h.get? a = some o ∧ o.ExactSet ∧ o.data = .set es ep t
  ent : es.toList = rowsOf P w L
  tab : TabW t (L.map fun p => thash P w p.2)
  diff : (L.map (·.2)).Nodup
  tups : ∀ p ∈ L, IsT P w h p.2 p.1
  pln : t.plain = true
  leg : w.params.followText "set-order" = true ∨ t.led = true
  roomy : L.length * 5 < t.mask * 3
section
variable {P : Program} {w : World} {A : Around} {E : Value → Shared → Prop} {s : Shared} {a : Addr} {L : List (Addr × List Int)} {es : Array (Int × Value)} {ep : Nat} {t : SetTable}
theorem rows_len {L : List (Addr × List Int)} {es : Array (Int × Value)} (h : es.toList = rowsOf P w L) : es.size = L.length := by
  rw [← Array.length_toList, h]
  exact List.length_map _
theorem TupSet.good (R : TupSet P w s.heap a L es ep t) : t.fits es.size = true := by
  have c := R.tab.cnt
  have r := R.roomy
  have e := rows_len R.ent
  rw [List.length_map] at c
  unfold SetTable.fits SetTable.fill
  rw [R.tab.clean]
  have z : (#[] : Array Nat).size = 0 := rfl
  simp only [z, Bool.and_eq_true, beq_iff_eq, decide_eq_true_eq]
  omega
theorem TupSet.row (R : TupSet P w s.heap a L es ep t) {i : Nat} {p : Addr × List Int} (h : L[i]? = some p) : es[i]? = some (thash P w p.2, Value.ref p.1) := by
  have e : es.toList[i]? = (rowsOf P w L)[i]? := by rw [R.ent]
  rw [Array.getElem?_toList] at e
  rw [e]
  show (L.map _)[i]? = _
  rw [List.getElem?_map, h]
  rfl
theorem TupSet.safe (R : TupSet P w s.heap a L es ep t) : ¬ t.gaveWay = true := by
  have := R.tab.wide.odd
  unfold SetTable.gaveWay
  rw [this]
  decide
/-- the probe at the c-th step of a hash's way -/
abbrev stepAt (t : SetTable) (h : Int) (c : Nat) : SetTable.Probe := nth t.mask (runAt t.mask (SetTable.bits h % (t.mask + 1)) (SetTable.bits h)) c
theorem step_more (t : SetTable) (h : Int) (c q : Nat) : nth t.mask (stepAt t h c) q = stepAt t h (c + q) := (nth_add t.mask c _ q).symm
theorem step_way (t : SetTable) (h : Int) (c q : Nat) : (nth t.mask (stepAt t h c) q).j = way t.mask h (c + q) := by rw [step_more]
theorem nth_dummy (m : Nat) : ∀ (n : Nat) (p : SetTable.Probe), p.dummy = none → (nth m p n).dummy = none
  | 0, _, h => h
  | n + 1, p, h => nth_dummy m n (adv m p) (by unfold adv; split <;> exact h)
theorem seek (R : TupSet P w s.heap a L es ep t) {x : Addr} {k : List Int} (hx : IsT P w s.heap k x) (hu : A.units < cLine) {H : Int} (hH : H = thash P w k) {K : Nat} (Kf : K < 10 * SetTable.turns t.mask)
    (no : way t.mask H K ∉ t.place.toList) (on : ∀ c, c < K → way t.mask H c ∈ t.place.toList) {Q : SetFound → Shared → Prop} (yes : k ∈ L.map (·.2) → Q (.there none) s) (nay : k ∉ L.map (·.2) → Q (.free (way t.mask H K) false) s) :
    ∀ (f c : Nat) (st : Option SetTable.Probe), st.getD (t.probeStart H) = stepAt t H c → c ≤ K → K < c + f →
      (∀ (i : Nat) (p : Addr × List Int), L[i]? = some p → p.2 = k → ∃ c', c ≤ c' ∧ c' < K ∧ t.place.toList[i]? = some (way t.mask H c')) → wpAny (model P w) A (setSearchFrom a (.ref x) H true f st) Q E s := by
  obtain ⟨o, ho, hex, hd⟩ := R.obj
  intro f
  induction f with
  | zero => exact fun c st _ a b _ => absurd b (by omega)
  | succ f ih =>
    intro c st hst cK fuel ahead
    rw [setSearchFrom_succ]
    refine wpAny_bind (wpAny_setState_of ho hd R.good ?_)
    dsimp only
    refine wp_if_neg R.safe ?_
    try refine wpAny_bind (wpAny_pure ?_)
    have hash : ∀ (i : Nat) (p : Addr × List Int), L[i]? = some p → (es[i]?.map (·.1)).getD 0 = thash P w p.2 := fun i p e => by rw [R.row e]; rfl
    have K1 : c + (K - c) = K := by omega
    have cases2 := go_spec t R.tab.asc R.tab.clean (fun i => (es[i]?.map (·.1)).getD 0) H (10 * SetTable.turns t.mask) (K - c) (stepAt t H c) (nth_dummy t.mask c _ rfl) (by omega) (fun q hq => by rw [step_way]; exact on _ (by omega)) (by rw [step_way, K1]; exact no)
    rw [hst]
    rcases cases2 with ⟨q, i, q1, at1, hh, first, res⟩ | ⟨none1, res⟩
    · rw [step_way] at at1
      have res : t.probe (fun i => (es[i]?.map (·.1)).getD 0) H (stepAt t H c) = some (.candidate (way t.mask H (c + q)) i (stepAt t H (c + (q + 1)))) := by
        rw [← step_way, ← step_more]; exact res
      rw [res]
      dsimp only
      have iL : i < L.length := by
        have := (List.getElem?_eq_some_iff.mp at1).1
        have c2 := R.tab.cnt
        rw [List.length_map] at c2
        rw [Array.length_toList] at this
        omega
      obtain ⟨p, atp⟩ : ∃ p, L[i]? = some p := ⟨_, List.getElem?_eq_getElem iL⟩
      have pm := List.mem_of_getElem? atp
      have go : wpAny (model P w) A (searchRest a (.ref x) H true f es t (way t.mask H (c + q)) i (stepAt t H (c + (q + 1)))) Q E s := by
        unfold searchRest
        rw [R.row atp]
        dsimp only
        refine wpAny_bind (wpAny_holding (wpAny_eqBool_tuple hu (R.tups p pm) hx ?_))
        refine wpAny_bind (wpAny_setState_of ho hd R.good ?_)
        dsimp only
        rcases Classical.em (p.2 = k) with same | other
        · exact wp_if_pos (by simp [same]) (wpAny_pure (yes (same ▸ List.mem_map_of_mem pm)))
        · refine wp_if_neg (by simp [other]) ?_
          try refine wpAny_bind (wpAny_pure ?_)
          have live := slot_live R.tab.asc at1
          rw [sameMem]
          dsimp only
          simp only [if_true, live, R.row atp]
          refine wpAny_bind (wpAny_isSame_ref_self (wpAny_bind (wpAny_pure ?_)))
          simp only [if_true]
          refine wp_if_neg (by simp [other]) ?_
          refine ih (c + (q + 1)) _ rfl (by omega) (by omega) fun i2 p2 e2 k2 => ?_
          obtain ⟨c2, z1, z2, z3⟩ := ahead i2 p2 e2 k2
          refine ⟨c2, Classical.byContradiction fun lt => ?_, z2, z3⟩
          rcases Nat.lt_or_ge c2 (c + q) with y | y
          · exact first (c2 - c) i2 (by omega) (by rw [step_way, Nat.add_sub_cancel' z1]; exact z3) (by show (es[i2]?.map (·.1)).getD 0 = H; rw [hash i2 p2 e2, k2, hH])
          · obtain rfl : c2 = c + q := by omega
            have l2 := slot_live R.tab.asc z3
            rw [live] at l2
            cases l2
            rw [atp] at e2
            cases e2
            exact other k2
      rcases Classical.em (t.led = true) with l | l
      · refine wp_if_neg (by simp [l]) ?_
        try refine wpAny_bind (wpAny_pure ?_)
        exact go
      · refine wp_if_pos (by simp [l]) ?_
        refine wpAny_bind (seen_tup hx (fun y hy => ?_) ?_)
        · obtain ⟨e, he, rfl⟩ := List.mem_map.mp hy
          have he : e ∈ es.toList := by
            have : e ∈ es ∧ e.1 = H := by simpa using he
            simpa using this.1
          rw [R.ent] at he
          obtain ⟨p2, m2, rfl⟩ := List.mem_map.mp he
          exact ⟨p2.2, p2.1, rfl, R.tups p2 m2⟩
        · refine wp_if_neg (by decide) ?_
          try refine wpAny_bind (wpAny_pure ?_)
          exact go
    · have res : t.probe (fun i => (es[i]?.map (·.1)).getD 0) H (stepAt t H c) = some (.empty (way t.mask H K) none) := by
        have := step_way t H c (K - c)
        rw [K1] at this
        rw [← this]; exact res
      rw [res]
      dsimp only
      refine wpAny_pure (nay fun mem => ?_)
      obtain ⟨p, pm, pk⟩ := List.mem_map.mp mem
      obtain ⟨i, hi, e⟩ := List.getElem_of_mem pm
      have e : L[i]? = some p := by rw [List.getElem?_eq_getElem hi, e]
      obtain ⟨c2, z1, z2, z3⟩ := ahead i p e pk
      exact none1 (c2 - c) i (by omega) (by rw [step_way, Nat.add_sub_cancel' z1]; exact z3) (by show (es[i]?.map (·.1)).getD 0 = H; rw [hash i p e, pk, hH])
theorem seek_all (R : TupSet P w s.heap a L es ep t) {x : Addr} {k : List Int} (hx : IsT P w s.heap k x) (hu : A.units < cLine) {H : Int} (hH : H = thash P w k) {Q : SetFound → Shared → Prop} (yes : k ∈ L.map (·.2) → Q (.there none) s)
    (nay : ∀ K, k ∉ L.map (·.2) → way t.mask H K ∉ t.place.toList → (∀ c, c < K → way t.mask H c ∈ t.place.toList) → Q (.free (way t.mask H K) false) s) : wpAny (model P w) A (setSearch a (.ref x) H true) Q E s := by
  have rm := R.roomy
  have le := R.tab.wide.le
  obtain ⟨K, Kf, no, on⟩ := R.tab.hole (by rw [List.length_map]; omega) H
  have few : K < 100000 := by unfold SetTable.turns at Kf; omega
  unfold setSearch
  refine seek R hx hu hH Kf no on yes (fun z => nay K z no on) 100000 0 none rfl (by omega) (by omega) fun i p e pk => ?_
  have c2 := R.tab.cnt
  rw [List.length_map] at c2
  have il : i < t.place.toList.length := by
    have := (List.getElem?_eq_some_iff.mp e).1
    rw [Array.length_toList]
    omega
  obtain ⟨k2, z1, z2⟩ := R.tab.ahead no (i := i) (h := H) (by rw [List.getElem?_map, e, hH, ← pk]; rfl) (List.getElem?_eq_getElem il)
  exact ⟨k2, by omega, z1, by rw [z2]; exact List.getElem?_eq_getElem il⟩
end
end DL

set_option Elab.async false
set_option linter.all false
set_option maxRecDepth 100000
set_option maxHeartbeats 4000000
namespace DL
open PySem PySem.Spec L2
open PyProof.Rows hiding St
section
variable {P : Program} {w : World} {A : Around} {E : Value → Shared → Prop} {s : Shared} {a : Addr} {L : List (Addr × List Int)} {es : Array (Int × Value)} {ep : Nat} {t : SetTable}
/-- the set's table laid anew, wider -/
theorem widen {o : Obj} (ho : s.heap.get? a = some o) (hex : o.ExactSet) (hd : o.data = .set es ep t) (ent : es.toList = rowsOf P w L) (cnt : t.place.size = es.size) (clean : t.dummies = #[]) (fill : es.size ≤ t.mask) (diff : (L.map (·.2)).Nodup)
    (tups : ∀ p ∈ L, IsT P w s.heap p.2 p.1) (pln : t.plain = true) (leg : w.params.followText "set-order" = true ∨ t.led = true) {want M : Nat} (hw : SetTable.sizeAbove want - 1 = M) (hM : Wide M) (top : SetTable.sizeAbove want ≤ 512) (roomy : L.length * 5 < M * 3)
    {Q : Unit → Shared → Prop} (q : ∀ h2 L2 es2 ep2 t2, Heap.SameBut a s.heap h2 → TupSet P w h2 a L2 es2 ep2 t2 → L2.Perm L → Q () { s with heap := h2 }) : wpAny (model P w) A (setRelay a want) Q E s := by
  have len := rows_len ent
  have le := hM.le
  have good : t.fits es.size = true := by
    have z : (#[] : Array Nat).size = 0 := rfl
    unfold SetTable.fits SetTable.fill
    simp only [clean, z, Bool.and_eq_true, beq_iff_eq, decide_eq_true_eq]
    omega
  obtain ⟨t2, order, rl, pm, T, m2, l2, p2⟩ := laid_new t (hs := es.map (·.1)) hw hM (by rw [Array.size_map]; omega)
  rw [Array.size_map, len] at pm
  obtain ⟨L2, r1, r2, r3⟩ := order_rows L es order ent pm
  rw [← r3] at T
  have len2 : (order.filterMap (es[·]?)).size = es.size := by rw [rows_len r1, r2.length_eq, len]
  rw [setRelay_eq]
  refine wpAny_bind (wpAny_setState_of ho hd good ?_)
  dsimp only
  refine wp_if_neg (by rw [sizeLine_eq]; omega) ?_
  try refine wpAny_bind (wpAny_pure ?_)
  rw [rl]
  dsimp only
  refine wpAny_bind (wp_if_neg (by rw [len2]; simp) ?_)
  try refine wpAny_bind (wpAny_pure ?_)
  refine wpAny_pure ?_
  dsimp only
  have ok : L.length ≤ sizeLine := by rw [sizeLine_eq]; omega
  refine wpAny_storeSet_of ho hd ?_ (by omega)
  have same := Heap.SameBut.update s.heap a (Obj.putSet (order.filterMap (es[·]?)) t2)
  exact q _ L2 _ (ep + 1) t2 same ⟨⟨_, store_at ho hd, ⟨hex.1, hex.2.1, hex.2.2⟩, rfl⟩, r1, T, (r2.map (·.2)).nodup_iff.mpr diff, fun p hp => isT_same (tups p (r2.mem_iff.mp hp)) ho hd same, by rw [p2]; exact pln, by rw [l2]; exact leg, by rw [r2.length_eq, m2]; exact roomy⟩ r2
theorem size77 : SetTable.sizeAbove (SetTable.grown 77) = 512 := by decide +kernel
/-- one tuple more -/
theorem put_in (R : TupSet P w s.heap a L es ep t) {x : Addr} {k : List Int} (hx : IsT P w s.heap k x) (hu : A.units < cLine) (few : L.length + 1 ≤ 300) {Q : Bool → Shared → Prop}
    (q : ∀ b h2 L2 es2 ep2 t2, Heap.SameBut a s.heap h2 → TupSet P w h2 a L2 es2 ep2 t2 → (k ∈ L.map (·.2) → L2 = L) → (k ∉ L.map (·.2) → L2.Perm ((x, k) :: L)) → Q b { s with heap := h2 }) : wpAny (model P w) A (setAddHashed a (.ref x) (thash P w k)) Q E s := by
  obtain ⟨o, ho, hex, hd⟩ := R.obj
  have len := rows_len R.ent
  have rm := R.roomy
  obtain ⟨H, hH⟩ : ∃ H, H = thash P w k := ⟨_, rfl⟩
  rw [← hH]
  unfold setAddHashed
  refine wpAny_holding ?_
  rw [show (100000 : Nat) = 99999 + 1 from rfl, setAddHashedIn_succ]
  refine wpAny_bind (wpAny_setState_of ho hd R.good ?_)
  dsimp only
  refine wp_if_neg (by simp [byScan, Value.scannable]) ?_
  try refine wpAny_bind (wpAny_pure ?_)
  refine wpAny_bind (seek_all R hx hu hH (fun mem => ?_) fun K new no on => ?_)
  · exact wpAny_pure (q false s.heap L es ep t (Heap.SameBut.refl a s.heap) R (fun _ => rfl) fun z => absurd mem z)
  dsimp only
  refine wpAny_bind (wpAny_setState_of ho hd R.good ?_)
  dsimp only
  obtain ⟨b1, T1, fill1⟩ := R.tab.add rfl no on
  have mask1 : (t.put (way t.mask H K)).1.mask = t.mask := rfl
  have led1 : (t.put (way t.mask H K)).1.led = t.led := rfl
  have pln1 : (t.put (way t.mask H K)).1.plain = true := R.pln
  have at1 : (t.put (way t.mask H K)).2 = SetTable.below t.place (way t.mask H K) := rfl
  generalize SetTable.below t.place (way t.mask H K) = n at b1 T1 at1
  generalize t.put (way t.mask H K) = pr at T1 fill1 mask1 led1 pln1 at1 ⊢
  obtain ⟨t1, n'⟩ := pr
  dsimp only at T1 fill1 mask1 led1 pln1 at1 ⊢
  subst at1
  first
    | (refine wpAny_bind ?_; refine wp_if_pos pln1 ?_; refine hashBy_tup hx ?_)
    | refine wp_if_pos pln1 (wpAny_bind (hashBy_tup hx ?_))
  simp only [if_true]
  have ent1 : (SetTable.insertAt es n' (H, Value.ref x)).toList = rowsOf P w (L.take n' ++ (x, k) :: L.drop n') := by rw [SetTable.toList_insertAt, rows_put, R.ent, hH]
  have hs1 : (L.take n' ++ (x, k) :: L.drop n').map (fun p => thash P w p.2) = (L.map fun p => thash P w p.2).take n' ++ H :: (L.map fun p => thash P w p.2).drop n' := by rw [List.map_append, List.map_cons, List.map_take, List.map_drop, hH]
  rw [← hs1] at T1
  have pm := put_perm L n' (x, k)
  generalize SetTable.insertAt es n' (H, Value.ref x) = es1 at ent1 ⊢
  generalize L.take n' ++ (x, k) :: L.drop n' = L1 at ent1 T1 pm
  have len1 : L1.length = L.length + 1 := pm.length_eq
  have size1 := rows_len ent1
  rw [List.length_map] at fill1
  have diff1 : (L1.map (·.2)).Nodup := (pm.map (·.2)).nodup_iff.mpr (List.nodup_cons.mpr ⟨new, R.diff⟩)
  refine wpAny_bind (wpAny_storeSet_of ho hd ?_ (by rw [size1, len1, sizeLine_eq]; omega))
  have same1 := Heap.SameBut.update s.heap a (Obj.putSet es1 t1)
  have here1 := store_at (es' := es1) (t' := t1) ho hd
  generalize s.heap.update a (Obj.putSet es1 t1) = h1 at same1 here1 ⊢
  have tups1 : ∀ p ∈ L1, IsT P w h1 p.2 p.1 := fun p hp => by
    rcases List.mem_cons.mp (pm.mem_iff.mp hp) with e | e
    · subst e; exact isT_same hx ho hd same1
    · exact isT_same (R.tups p e) ho hd same1
  have leg1 : w.params.followText "set-order" = true ∨ t1.led = true := led1 ▸ R.leg
  rcases Classical.em (t1.tooFull = true) with full | some
  · first
      | (refine wpAny_bind ?_; refine wp_if_pos (by simp [full]) ?_)
      | (refine wp_if_pos (by simp [full]) ?_; refine wpAny_bind ?_)
    unfold SetTable.tooFull at full
    rw [decide_eq_true_eq, fill1, mask1] at full
    rw [len]
    have next : ∃ M, SetTable.sizeAbove (SetTable.grown (L.length + 1)) - 1 = M ∧ Wide M ∧ SetTable.sizeAbove (SetTable.grown (L.length + 1)) ≤ 512 ∧ (L.length + 1) * 5 < M * 3 := by
      rcases R.tab.wide.cases4 with e | e | e | e
      · have : L.length = 4 := by omega
        exact ⟨31, by rw [this, size_20], ⟨by omega⟩, by rw [this, size_20]; omega, by omega⟩
      · have : L.length = 18 := by omega
        exact ⟨127, by rw [this, size_76], ⟨by omega⟩, by rw [this, size_76]; omega, by omega⟩
      · have : L.length = 76 := by omega
        exact ⟨511, by rw [this, size77], ⟨by omega⟩, by rw [this, size77]; omega, by omega⟩
      · omega
    obtain ⟨M, n1, n2, n3, n4⟩ := next
    have cnt1 : t1.place.size = es1.size := by rw [T1.cnt, List.length_map, size1]
    refine widen (s := { s with heap := h1 }) here1 ⟨hex.1, hex.2.1, hex.2.2⟩ rfl ent1 cnt1 T1.clean (by omega) diff1 tups1 pln1 leg1 n1 n2 n3 (by omega) fun h2 L2 es2 ep2 t2 same2 R2 pm2 => ?_
    exact wpAny_pure (q true h2 L2 es2 ep2 t2 (same1.trans same2) R2 (fun z => absurd z new) fun _ => pm2.trans pm)
  · first
      | refine wp_if_neg (by simp [some]) ?_
      | (refine wpAny_bind ?_; refine wp_if_neg (by simp [some]) ?_; refine wpAny_pure ?_)
    unfold SetTable.tooFull at some
    rw [decide_eq_true_eq, fill1, mask1] at some
    exact wpAny_pure (q true h1 L1 es1 (ep + 1) t1 same1 ⟨⟨_, here1, ⟨hex.1, hex.2.1, hex.2.2⟩, rfl⟩, ent1, T1, diff1, tups1, pln1, leg1, by rw [mask1]; omega⟩ (fun z => absurd z new) fun _ => pm)
end
end DL

set_option Elab.async false
set_option linter.all false
set_option maxRecDepth 100000
set_option maxHeartbeats 6400000
namespace DL
open PySem PySem.Spec L2
open PyProof.Rows hiding St
theorem pigeons {α : Type} [DecidableEq α] : ∀ (l D : List α), l.Nodup → (∀ x ∈ l, x ∈ D) → l.length ≤ D.length
  | [], _, _, _ => Nat.zero_le _
  | x :: l, D, nd, sub => by
    obtain ⟨n1, n2⟩ := List.nodup_cons.mp nd
    have hx := sub x List.mem_cons_self
    have ih := pigeons l (D.erase x) n2 fun y hy => (List.mem_erase_of_ne fun e => n1 (by rw [← e]; exact hy)).mpr (sub y (List.mem_cons_of_mem _ hy))
    rw [List.length_erase_of_mem hx] at ih
    have := List.length_pos_of_mem hx
    rw [List.length_cons]
    omega
section
variable {P : Program} {w : World} {A : Around} {E : Value → Shared → Prop} {s : Shared}
theorem TupSet.move {h h2 : Heap} {a : Addr} {L : List (Addr × List Int)} {es : Array (Int × Value)} {ep : Nat} {t : SetTable} (R : TupSet P w h a L es ep t) (ha : ∀ o, h.get? a = some o → h2.get? a = some o) (ht : ∀ p ∈ L, IsT P w h2 p.2 p.1) : TupSet P w h2 a L es ep t :=
  ⟨let ⟨o, ho, r⟩ := R.obj; ⟨o, ha o ho, r⟩, R.ent, R.tab, R.diff, ht, R.pln, R.leg, R.roomy⟩
theorem tupSet_new {h : Heap} {a : Addr} (ho : h.get? a = some (bornSet w)) : TupSet P w h a [] #[] 0 (.fresh 0 0 (!w.params.followText "set-order")) where
  obj := ⟨_, ho, ⟨rfl, rfl, rfl⟩, rfl⟩
  ent := rfl
  tab := ⟨List.Pairwise.nil, rfl, rfl, ⟨.inl rfl⟩, fun i h j hi => by simp at hi⟩
  diff := List.nodup_nil
  tups := fun p hp => absurd hp (by simp)
  pln := rfl
  leg := by
    show _ ∨ (!w.params.followText "set-order") = true
    cases w.params.followText "set-order" <;> simp
  roomy := by
    show 0 * 5 < 7 * 3
    decide
theorem got_small {ks L : List (Addr × List Int)} {i : Nat} (g : Got ks i L) (nd : (L.map (·.2)).Nodup) : L.length ≤ (ddup (ks.map (·.2))).length := by
  have := pigeons (L.map (·.2)) (ddup (ks.map (·.2))) nd fun x hx => by
    obtain ⟨p, hp, rfl⟩ := List.mem_map.mp hx
    exact (ddup_mem _).mpr (List.mem_map_of_mem (List.mem_of_mem_take (g.sub p hp)))
  rwa [List.length_map] at this
/-- the loop that fills a set with tuples -/
theorem fill_loop {I : Addr} {fp wr : List Addr} {G : Array GenState → Array GenState → Prop} {n : Nat} {Pv : Nat → Value → Prop} {St : Nat → Shared → Prop} {R : Result → Shared → Prop} (W : WalksS P w A.in1 I fp wr G n Pv St) (S : Addr) (out : S ∉ fp) (ks : List (Addr × List Int))
    (hn : n = ks.length) (few : (ddup (ks.map (·.2))).length < 300) (val : ∀ i v, Pv i v → ∃ p, ks[i]? = some p ∧ v = .ref p.1) (h0 : Heap) (hk : ∀ p ∈ ks, IsT P w h0 p.2 p.1) (fresh : h0.get? S = none) (apart : ∀ b ∈ wr, h0.get? b = none) (hu : A.in1.units < cLine) :
    ∀ (d i : Nat) (s : Shared), i + d = n → St i s → (∀ b o, h0.get? b = some o → s.heap.get? b = some o) → (∃ L es ep t, TupSet P w s.heap S L es ep t ∧ Got ks i L) →
      (∀ z L es ep t, Moved (S :: wr) G s z → TupSet P w z.heap S L es ep t → Got ks n L → (∀ b o, h0.get? b = some o → z.heap.get? b = some o) → R (.ok (.ret .none)) z) →
      codeAny (model P w) A (.builtin "set.update.loop" ⟨[.ref S, .ref I], []⟩) R s := by
  have outw : S ∉ wr := fun z => out (W.sub _ z)
  have old : ∀ {u z : Shared}, Moved wr G u z → (∀ b o, h0.get? b = some o → u.heap.get? b = some o) → ∀ b o, h0.get? b = some o → z.heap.get? b = some o := fun mv kp b o e => mv.heap b o (fun hb => by rw [apart b hb] at e; cases e) (kp b o e)
  have carry : ∀ {u z : Shared} {i L es ep t}, Moved wr G u z → (∀ b o, h0.get? b = some o → u.heap.get? b = some o) → Got ks i L → TupSet P w u.heap S L es ep t → TupSet P w z.heap S L es ep t := fun mv kp g R => R.move (fun o e => mv.heap S o outw e) fun p hp => isT_keep (hk p (List.mem_of_mem_take (g.sub p hp))) (old mv kp)
  intro d
  induction d with
  | zero =>
    intro i s hi st kp ⟨L, es, ep, t, R0, g⟩ fin
    obtain rfl : i = n := hi
    refine codeAny_builtin F.entry_set_update_loop ?_
    rw [Around.under_plainId F.plain_set_update_loop _]
    show wpAny _ A.in1 (pyNext (.ref I) >>= _) _ _ s
    refine wpAny_bind (W.done s _ _ st fun z mv => ?_)
    show wpAny _ A.in1 (ret Value.none) _ _ z
    exact wpAny_pure (fin z L es ep t (mv.mono fun b hb => List.mem_cons_of_mem _ hb) (carry mv kp g R0) g (old mv kp))
  | succ d ih =>
    intro i s hi st kp ⟨L, es, ep, t, R0, g⟩ fin
    refine codeAny_builtin F.entry_set_update_loop ?_
    rw [Around.under_plainId F.plain_set_update_loop _]
    show wpAny _ A.in1 (pyNext (.ref I) >>= _) _ _ s
    refine wpAny_bind (W.item i s _ _ (by omega) st fun v z hv st2 mv => ?_)
    obtain ⟨p, hp, rfl⟩ := val i v hv
    have kp2 := old mv kp
    have R1 := carry mv kp g R0
    have tp : IsT P w z.heap p.2 p.1 := isT_keep (hk p (List.mem_of_getElem? hp)) kp2
    show wpAny _ A.in1 (holding [Value.ref p.1] (setAdd S (.ref p.1)) >>= _) _ _ z
    refine wpAny_bind (wpAny_holding ?_)
    unfold setAdd
    refine wpAny_holding (wpAny_bind (wpAny_pyHash_tuple hu tp ?_))
    have small := got_small g R1.diff
    refine put_in (s := { z with toks := z.toks + (p.2.length + 1) }) R1 tp hu (by omega) fun b h2 L2 es2 ep2 t2 same R2 c1 c2 => ?_
    have g2 : Got ks (i + 1) L2 := by
      rcases Classical.em (p.2 ∈ L.map (·.2)) with c | c
      · rw [c1 c]; exact g.same hp c
      · exact g.more hp (c2 c)
    have kp3 : ∀ b o, h0.get? b = some o → h2.get? b = some o := fun b o e => (same.2 b fun y => by rw [y, fresh] at e; cases e).trans (kp2 b o e)
    refine wpAny_pure ⟨plainId_quiet F.plain_set_update_loop _, ih (i + 1) _ (by omega) (W.frame _ z _ _ st2 (Nat.le_add_right _ _) fun b hb o e => ?_) kp3 ⟨L2, es2, ep2, t2, R2, g2⟩ fun z2 L3 es3 ep3 t3 mv2 R3 g3 kp4 => ?_⟩
    · rw [same.2 b fun y => out (y ▸ hb)]
      exact e
    · refine fin z2 L3 es3 ep3 t3 (Moved.trans W.gtrans ((mv.mono fun b hb => List.mem_cons_of_mem _ hb).then_heap (Nat.le_add_right _ _) fun b o hb e => ?_) mv2) R3 g3 kp4
      rw [same.2 b fun y => hb (y ▸ List.mem_cons_self)]
      exact e
theorem fills_wide {l : Addr} {items : Array Value} {it : Obj} {St : Nat → Heap → Prop} (ks : List (Addr × List Int))
    (W : Walks P w A.in1.in1.in1 (s.heap.objs.size + 1) [s.heap.objs.size + 1, l] [s.heap.objs.size + 1] items.size (fun i v => items[i]? = some v) St) (st0 : St 0 ((s.heap.push (bornSet w)).push it))
    (old : l < s.heap.objs.size) (hi : items.toList = ks.map fun p => Value.ref p.1) (hk : ∀ p ∈ ks, IsT P w s.heap p.2 p.1) (few : (ddup (ks.map (·.2))).length < 300) (hu : A.units + 3 < cLine) :
    Fills P w A E s it (fun h1 => ∃ L es ep t, TupSet P w h1 s.heap.objs.size L es ep t ∧ Got ks ks.length L ∧ ∀ b o, s.heap.get? b = some o → h1.get? b = some o) := by
  have len : items.size = ks.length := by rw [← Array.length_toList, hi, List.length_map]
  have p1 : (s.heap.push (bornSet w)).get? s.heap.objs.size = some (bornSet w) := Heap.get?_push_size _ rfl
  have no : ∀ b, s.heap.objs.size ≤ b → s.heap.get? b = none := fun b hb => by
    match q : s.heap.get? b with
    | none => rfl
    | some o => exact absurd (Nat.lt_of_lt_of_le (Heap.lt_size q) hb) (Nat.lt_irrefl _)
  unfold Fills
  refine fill_loop W.toS s.heap.objs.size ?_ ks len few (fun i v hv => ?_) s.heap hk (no _ (Nat.le_refl _)) (fun b hb => ?_) (by show A.units + 1 + 1 + 1 < cLine; omega) items.size 0 _ (Nat.zero_add _) st0
    (fun b o e => Heap.get?_push_of_some _ (Heap.get?_push_of_some _ e)) ⟨[], #[], 0, _, tupSet_new (Heap.get?_push_of_some _ p1), Got.zero ks⟩ fun z L es ep t mv R g kp => ?_
  · intro h
    rcases List.mem_cons.mp h with h | h
    · exact absurd h (Nat.ne_of_lt (Nat.lt_succ_self _))
    · exact absurd (List.mem_singleton.mp h) (Nat.ne_of_gt old)
  · have e : (ks.map fun p => Value.ref p.1)[i]? = some v := by rw [← hi, Array.getElem?_toList]; exact hv
    rw [List.getElem?_map] at e
    obtain ⟨p, e1, e2⟩ := Option.map_eq_some_iff.mp e
    exact ⟨p, e1, e2.symm⟩
  · rw [List.mem_singleton.mp hb]
    exact no _ (Nat.le_succ _)
  · rw [len] at g
    have eg := mv.gens
    have ed := mv.drawn
    have eo := mv.os
    refine ⟨rfl, z.heap, z.toks, ?_, L, es, ep, t, R, g, kp⟩
    obtain ⟨zh, zg, zd, zt, zo⟩ := z
    cases eg
    cases ed
    cases eo
    rfl
end
/-! ### what stands for such a set -/
structure WideSet (P : Program) (w : World) (h : Heap) (a : Addr) (L : List (Addr × List Int)) : Prop where
  is : ∃ (es : Array (Int × Value)) (ep : Nat) (t : SetTable) (o : Obj), h.get? a = some o ∧ (o.ExactSet ∧ o.data = .set es ep t) ∧ es.toList = rowsOf P w L ∧ TabW t (L.map fun p => thash P w p.2) ∧ (L.map (·.2)).Nodup ∧ t.plain = true ∧
    (w.params.followText "set-order" = true ∨ t.led = true) ∧ L.length * 5 < t.mask * 3
def WideO (P : Program) (w : World) (a : Addr) (L : List (Addr × List Int)) : HO := .ext fun h => WideSet P w h a L
theorem TupSet.wide {P : Program} {w : World} {h : Heap} {a : Addr} {L : List (Addr × List Int)} {es : Array (Int × Value)} {ep : Nat} {t : SetTable} (R : TupSet P w h a L es ep t) : WideSet P w h a L :=
  let ⟨o, ho, r⟩ := R.obj
  ⟨es, ep, t, o, ho, r, R.ent, R.tab, R.diff, R.pln, R.leg, R.roomy⟩
theorem WideSet.tup {P : Program} {w : World} {h : Heap} {a : Addr} {L : List (Addr × List Int)} (R : WideSet P w h a L) (ht : ∀ p ∈ L, IsT P w h p.2 p.1) : ∃ es ep t, TupSet P w h a L es ep t :=
  let ⟨es, ep, t, o, ho, r, a1, a2, a3, a4, a5, a6⟩ := R.is
  ⟨es, ep, t, ⟨o, ho, r⟩, a1, a2, a3, ht, a4, a5, a6⟩
theorem wideO_ok {P : Program} {w : World} {H : Hp} {h : Heap} {a : Addr} {L : List (Addr × List Int)} (R : WideSet P w h a L) : ObjOk P w H h a (WideO P w a L) := by
  have ⟨es, ep, t, o, ho, _⟩ := R.is
  refine ⟨R, ⟨o, ho⟩, fun h1 h2 p k => ?_⟩
  have ⟨es', ep', t', o', ho', q'⟩ := WideSet.is p
  exact ⟨es', ep', t', o', k o' ho', q'⟩
section
variable {X : Cx}
/-- set(xs), xs a list or a tuple of tuples of whole numbers, fewer than 300 of them different -/
def rSetW (K : PySem.W.Frag) (P : Program) (w : World) : List V → Hp → VK → Prop := fun xs H Q => ∃ (l : Addr) (ks : List (Addr × List Int)), xs = [V.ref l] ∧ (SqL K H l (ks.map fun p => V.ref p.1) ∨ SqT K H l (ks.map fun p => V.ref p.1)) ∧ (∀ p ∈ ks, SqT K H p.1 (p.2.map V.int)) ∧ (ddup (ks.map (·.2))).length < 300 ∧
  ∀ a L, H a = none → L.length < 300 → (∀ p ∈ L, p ∈ ks) → (∀ p ∈ ks, p.2 ∈ L.map (·.2)) → Q (.ref a) (upd H a (WideO P w a L))
theorem cr_setW (hc : X.calm = true) (hu : X.A.units + 64 < cLine) : CallR X (.type "set") (rSetW X.K X.prog X.w) := by
  intro pins s σ H xs us Q I r h
  obtain ⟨l, ks, rfl, hl, hk, few, q⟩ := h
  rw [Vals.ref1 r]
  have hn : H s.heap.objs.size = none := I.hok.fresh (Nat.le_refl _)
  have hd := I.ok.hd hc
  have hd3 : X.A.in1.in1.in1.handled = none := by simp [hd]
  have e1 : (s.heap.push (bornSet X.w)).objs.size = s.heap.objs.size + 1 := Heap.size_push ..
  have fin : ∀ (h1 : Heap) (t1 : Nat), (∃ L es ep t, TupSet X.prog X.w h1 s.heap.objs.size L es ep t ∧ Got ks ks.length L ∧ ∀ b o, s.heap.get? b = some o → h1.get? b = some o) → EP X pins σ Q (.ref s.heap.objs.size) { s with heap := h1, toks := t1 } := by
    rintro h1 t1 ⟨L, es, ep, t, R, g, k⟩
    have := got_small g R.diff
    refine ⟨.ref _, _, I.laid (t' := t1) k (Nat.le_refl _) (wideO_ok R.wide), rfl, q _ L hn (by omega) (fun p hp => List.mem_of_mem_take (g.sub p hp)) fun p hp => g.all p ?_⟩
    rwa [List.take_length]
  rcases hl with hl | hl
  · obtain ⟨its, rv, pl, hz⟩ := I.list hl
    obtain ⟨⟨oc, od, odt, osl⟩, ho, hcl, nl, hdt⟩ := pl.isList
    cases hcl
    cases hdt
    have old := Heap.lt_size ho
    exact set_fill (it := { cls := .type "list_iterator", data := .fields #[.ref l, .int 0 0] }) ho F.sub_list_set F.sub_list_frozenset (by decide) (fun B E' z Q' hz q => wpAny_pyIter_list ⟨_, hz, rfl, _, rfl⟩ q)
      (fills_wide ks (Walks.list hd3 (s.heap.objs.size + 1) l (Nat.ne_of_lt (Nat.lt_succ_of_lt old)) its.toArray) ⟨⟨_, push2 _ _ _, rfl, rfl⟩, ⟨_, Heap.get?_push_of_some _ (Heap.get?_push_of_some _ ho), rfl, _, rfl⟩⟩ old (by simpa using refs_of_vals rv) (fun p hp => I.isT (hk p hp)) few (by omega)) fin
  · obtain ⟨its, rv, pt, hz⟩ := I.tuple hl
    obtain ⟨⟨oc, od, odt, osl⟩, ho, hcl, nl, hdt⟩ := pt
    cases hcl
    cases hdt
    have old := Heap.lt_size ho
    exact set_fill (it := { cls := .type "tuple_iterator", data := .fields #[.ref l, .int 0 0] }) ho F.sub_tuple_set F.sub_tuple_frozenset (by decide) (fun B E' z Q' hz q => wpAny_pyIter_tuple ⟨_, hz, rfl, _, rfl⟩ q)
      (fills_wide ks (Walks.tuple hd3 (s.heap.objs.size + 1) l (Nat.ne_of_lt (Nat.lt_succ_of_lt old)) its.toArray) ⟨⟨_, push2 _ _ _, rfl, rfl⟩, ⟨_, Heap.get?_push_of_some _ (Heap.get?_push_of_some _ ho), rfl, _, rfl⟩⟩ old (by simpa using refs_of_vals rv) (fun p hp => I.isT (hk p hp)) few (by omega)) fin
/-- sorted(such a set) -/
def rSortW (K : PySem.W.Frag) (P : Program) (w : World) : List V → Hp → VK → Prop := fun vs H Q => ∃ (a : Addr) (L : List (Addr × List Int)), vs = [V.ref a] ∧ H a = some (WideO P w a L) ∧ (∀ p ∈ L, SqT K H p.1 (p.2.map V.int)) ∧ L.length < 300 ∧
  ∀ L1 : List (Addr × List Int), L1.Perm L → (L1.map (·.2)).Nodup → ∀ l, H l = none → Q (.ref l) (upd H l (.lst ((((L1.map fun p => V.ref p.1).zip (L1.map fun p => tI p.2)).mergeSort (PySem.W.dataLe false (·.2))).map (·.1))))
theorem cr_sortW (hu : X.A.units + 130 < cLine) (hc : X.calm = true) : CallR X (.builtin "sorted") (rSortW X.K X.prog X.w) := by
  intro pins s σ H vs us Q I r h
  obtain ⟨a, L, rfl, ha, hk, few, q⟩ := h
  have R0 : WideSet X.prog X.w s.heap a L := (I.hok a _ ha).1
  obtain ⟨es, ep, t, R⟩ := R0.tup fun p hp => I.isT (hk p hp)
  rw [Vals.ref1 r]
  obtain ⟨o, ho, hex, hd⟩ := R.obj
  have h1 := rows_len R.ent
  refine PySem.Calls.call_function_entry kind_sorted plain_sorted entry_sorted (args_sorted1 _) ?_
  unfold Builtin.«sorted»
  refine wpAny_bind (m := checkCount "sorted" 1 1 _) (wpAny_pure ?_)
  refine wpAny_bind (collect_set (A := X.A.in1) (I.ok.hd hc) ⟨o, ho, hex.1, hd⟩ R.good (by unfold scanBound; omega) R.tab.asc R.leg fun s1 out k1 hz g1 o1 pm => ?_)
  have hrows : es.toList.map (·.2) = L.map fun q => Value.ref q.1 := by
    rw [R.ent]
    unfold rowsOf
    rw [List.map_map]
    rfl
  rw [hrows] at pm
  obtain ⟨L1, p1, e1⟩ := L2.perm_lift (fun q : Addr × List Int => Value.ref q.1) pm L rfl
  subst e1
  have hl : L1.length < 300 := by rw [p1.length_eq]; exact few
  have h1000 : (300 : Nat) ≤ sizeLine := by rw [sizeLine_eq]; decide
  refine wpAny_bind (wpAny_newList ?_ (by rw [List.length_map]; omega))
  exact wpAny_bind (wpAny_holding (wpAny_mono (sort_new2 (E := X.xe) I k1 g1 o1 hz (vals_of_refs L1) (dp_rows fun p hp => hk p (p1.mem_iff.mp hp)) (by have := sortOk_tups (L1.map (·.2)); rwa [List.map_map] at this) (by rw [List.length_map]; omega) hu (q L1 p1 ((p1.map (·.2)).nodup_iff.mpr R.diff))) (fun _ _ x => wpAny_pure ⟨_, rfl, x⟩) fun _ _ e => e))
end
end DL

set_option Elab.async false
set_option linter.all false
set_option maxRecDepth 100000
set_option maxHeartbeats 6400000
namespace DL
open PySem PySem.Spec L2
open PyProof.Rows hiding St
/-- sorted(set(xs)): tuples of whole numbers, fewer than 300 of them different, or whole numbers, fewer than 64 -/
def sortSetWL (ds : List PyData) : Res (List PyData) := match tupsO ds with
  | some cs => if (ddup cs).length < 300 then .ok ((sortU cs).map tI) else .bot
  | none => sortSetL ds
def sortSetW (d : PyData) : Res (List PyData) := match d with
  | .list ds => sortSetWL ds
  | .tuple ds => sortSetWL ds
  | _ => .bot
def rSetWA (K : PySem.W.Frag) (P : Program) (w : World) : List V → Hp → VK → Prop := fun vs H Q => rSetW K P w vs H Q ∨ rSetA K P w vs H Q
theorem cr_setWA {X : Cx} (hc : X.calm = true) (hu : X.A.units + 64 < cLine) : CallR X (.type "set") (rSetWA X.K X.prog X.w) := fun pins s σ H vs us Q I r h =>
  h.elim (fun h => cr_setW hc hu pins s σ H vs us Q I r h) fun h => cr_setA hc hu pins s σ H vs us Q I r h
def rSortWA (K : PySem.W.Frag) (P : Program) (w : World) : List V → Hp → VK → Prop := fun vs H Q => rSortW K P w vs H Q ∨ rSortA K P w vs H Q
theorem cr_sortWA {X : Cx} (hu : X.A.units + 130 < cLine) (hc : X.calm = true) : CallR X (.builtin "sorted") (rSortWA X.K X.prog X.w) := fun pins s σ H vs us Q I r h =>
  h.elim (fun h => cr_sortW hu hc pins s σ H vs us Q I r h) fun h => cr_sortA hu hc pins s σ H vs us Q I r h
theorem rSetA_mono {K : PySem.W.Frag} {P : Program} {w : World} {vs : List V} {H : Hp} {Q Q2 : VK} (m : ∀ v H, Q v H → Q2 v H) (h : rSetA K P w vs H Q) : rSetA K P w vs H Q2 := by
  rcases h with ⟨l, ks, a, b, c, d, q⟩ | ⟨l, ns, a, b, c, q⟩
  · exact .inl ⟨l, ks, a, b, c, d, fun x L na l1 l2 => m _ _ (q x L na l1 l2)⟩
  · exact .inr ⟨l, ns, a, b, c, fun x n na hn => m _ _ (q x n na hn)⟩
section
variable {X : Cx} {W : WS} {S : List Nat} {e : Expr} {pos p p2 pos2 : Pos} {te : TE}
theorem sortW_core {K : PySem.W.Frag} {P : Program} {w : World} {F1 : FZ} {H1 : Hp} {l : Addr} {vs : List V} {ds out : List PyData} {Q : VK}
    (hs : SqL K H1 l vs ∨ SqT K H1 l vs) (lv1 : Live F1 H1) (rr : RepAll K F1 H1 vs ds) (ho : sortSetWL ds = .ok out)
    (q : ∀ (p : Addr) (a : Addr) (H2 : Hp) (ws : List V), H1 a = none → Grow F1 H1 F1 H2 → H2 p = none → RepAll K F1 H2 ws out → out.length ≤ sizeLine → Q (.ref p) (upd H2 p (.lst ws))) :
    rSetWA K P w [V.ref l] H1 fun y H2 => rSortWA K P w [y] H2 Q := by
  have h1000 : (300 : Nat) ≤ sizeLine := by rw [sizeLine_eq]; decide
  unfold sortSetWL at ho
  split at ho
  · rename_i cs hcs
    split at ho
    · rename_i few
      cases ho
      rw [tupsO_some hcs] at rr
      obtain ⟨ks, e1, e2, e3⟩ := rep_tups rr
      subst e1
      subst e2
      refine .inl ⟨_, ks, rfl, hs, fun p hp => (e3 p hp).1, few, fun a L na lL l1 l2 => .inl ?_⟩
      have gg : Grow F1 H1 F1 (upd H1 a (WideO P w a L)) := .nw na
      refine ⟨a, L, rfl, upd_same, fun p hp => SqT.stay (Fz := F1) (.of_same gg.same) (e3 p (l1 p hp)).1, lL, fun L1 pm nd l nl => ?_⟩
      have all : ∀ M : List (Addr × List Int), (∀ p ∈ M, p ∈ ks) → RepAll K F1 (upd H1 a (WideO P w a L)) (M.map fun p => V.ref p.1) (M.map fun p => tI p.2) := by
        intro M
        induction M with
        | nil => exact fun _ => .nil
        | cons p M ih => exact fun h => .cons ((e3 p (h p List.mem_cons_self)).2.grow gg) (ih fun q hq => h q (List.mem_cons_of_mem _ hq))
      have hlen : ((sortU (ks.map (·.2))).map tI).length ≤ sizeLine := by
        rw [List.length_map]
        unfold sortU
        rw [List.length_mergeSort]
        omega
      have same : sortL (L1.map fun p => tI p.2) = (sortU (ks.map (·.2))).map tI := by
        have := sortU_of (cs := ks.map (·.2)) nd fun c => by
          constructor
          · intro h
            obtain ⟨p, hp, rfl⟩ := List.mem_map.mp h
            exact List.mem_map_of_mem (l1 p (pm.mem_iff.mp hp))
          · intro h
            obtain ⟨p, hp, rfl⟩ := List.mem_map.mp h
            exact (pm.map (·.2)).mem_iff.mpr (l2 p hp)
        rwa [List.map_map] at this
      have rall := all L1 fun p hp => l1 p (pm.mem_iff.mp hp)
      have back := rep_of_zip (ps := ((L1.map fun p => V.ref p.1).zip (L1.map fun p => tI p.2)).mergeSort (PySem.W.dataLe false (fun p : V × PyData => p.2))) (fun p hp => zip_rep rall p ((List.mergeSort_perm _ _).mem_iff.mp hp))
      rw [mergeSort_snd, zip_snd rall, same] at back
      exact q l a _ _ na gg nl back hlen
    · cases ho
  · exact .inr (rSetA_mono (fun v H z => .inr z) (sortA_core hs lv1 rr ho q))
theorem df_sortSetW (K) (P : Program) (w : World) {f : DSt → Res PyData} (hu : X.A.units + 130 < cLine) (hc : X.calm = true) (hg : Gl X "sorted") (hm : X.mg "sorted" = none) (hg2 : Gl X "set") (hm2 : X.mg "set" = none) (ha : DE X W S e te f) (hK : X.K = K := by rfl) (hP : X.prog = P := by rfl) (hw : X.w = w := by rfl)
    (he : starEach [e] X.env = (false, eval e X.env) :: starEach [] X.env := by rfl) (he2 : starEach [.Call (.Name "set" p2) [e] [] pos2] X.env = (false, eval (.Call (.Name "set" p2) [e] [] pos2) X.env) :: starEach [] X.env := by rfl) :
    DF X W S (.Call (.Name "sorted" p) [.Call (.Name "set" p2) [e] [] pos2] [] pos) (tCB (rSortWA K P w) (tCons (tCB (rSetWA K P w) (tCons te tNil)) tNil)) (u1LE sortSetW f) := by
  subst hK hP hw
  refine ⟨pe_callB (cr_sortWA hu hc) hg hm (by decide +kernel) (pa_cons (pe_callTy (cr_setWA hc (by omega)) hg2 hm2 (by decide +kernel) (pa_cons ha.pe pa_nil he) (by decide) (by decide) he rfl) pa_nil he2) (by decide) (by decide) he2 rfl, fun Fz σ H δ Q hd hl h => ?_⟩
  unfold LOK u1LE at h
  rw [wp_bind] at h
  show te σ H fun x H1 => (rSetWA X.K X.prog X.w) [x] H1 fun y H2 => (rSortWA X.K X.prog X.w) [y] H2 Q
  refine ha.ok Fz σ H δ _ hd hl (wp_mono h (fun d hx v H1 F1 g1 r1 => ?_) fun x hx => hx)
  have no1 : ∀ ds (z : Exn), sortSetWL ds = .err z → False := fun ds z e => by
    unfold sortSetWL at e
    split at e
    · split at e <;> cases e
    · unfold sortSetL at e
      split at e
      · split at e
        · cases e
        · split at e <;> cases e
      · cases e
  have no2 : ∀ ds m k, sortSetWL ds = .pick m k → False := fun ds m k e => by
    unfold sortSetWL at e
    split at e
    · split at e <;> cases e
    · unfold sortSetL at e
      split at e
      · split at e
        · cases e
        · split at e <;> cases e
      · cases e
  have fin : ∀ ds, (∃ l vs, v = .ref l ∧ (SqL X.K H1 l vs ∨ SqT X.K H1 l vs) ∧ RepAll X.K F1 H1 vs ds) → sortSetW d = sortSetWL ds →
      (rSetWA X.K X.prog X.w) [v] H1 fun y H2 => (rSortWA X.K X.prog X.w) [y] H2 Q := by
    rintro ds ⟨l, vs, rfl, hs, rr⟩ e
    rw [e] at hx
    match ho : sortSetWL ds, hx with
    | .ok out, hx =>
      refine sortW_core hs (g1.live hl) rr ho fun p a H2 ws na gg np back hlen => ?_
      have lv : Live F1 H2 := gg.live (g1.live hl)
      exact hx p _ _ F1 ((g1.trans gg).trans (.nw np)) (none_of_same (g1.trans gg).same np) (notFz (H' := H2) .refl lv np) upd_same hlen (RepAll.grow (.nw np) back)
    | .bot, hx => exact hx.elim
    | .err z, hx => exact (no1 ds z ho).elim
    | .pick m k, hx => exact (no2 ds m k ho).elim
  cases d with
  | list ds =>
    cases r1 with
    | lst hh z rr => exact fin ds ⟨_, _, rfl, .inl hh.sq, rr⟩ rfl
  | tuple ds =>
    cases r1 with
    | tup hh z rr => exact fin ds ⟨_, _, rfl, .inr hh.sq, rr⟩ rfl
  | _ => exact hx.elim
end
end DL

set_option Elab.async false
set_option linter.all false
set_option maxRecDepth 100000
set_option maxHeartbeats 4000000
namespace DL
open PySem PySem.Spec L2 PySem.W
open PyProof.Rows hiding St
/-! ### more of suites that name what they caught -/
def isXv (cn : Str) (y : Exn) (_ : DSt) : Res PyData := if y.cls = cn then .ok (.bool true) else .bot
section
variable {X : Cx} {i : Nat} {a : Addr} {oe : Obj} {cls : Value} {d : Option Addr} {pn : List (Addr × Obj)} {S T U : List Nat} {e b c : Expr} {es : List Expr} {ta tb te : TE} {tA tB' : TT} {t : TA} {pos p p2 p3 : Pos}
/-- isinstance(e, C), as a value -/
theorem dx_isi {n x : Str} {C : Addr} (hg : Gl (X.suite a ((a, oe) :: pn)) "isinstance") (hm : X.mg "isinstance" = none) (hN : X.N[i]? = some x) (hv : Vis X.env.scope x) (hgc : Gl (X.suite a ((a, oe) :: pn)) n) (hC : X.mg n = some (.ref C)) (hz : Zc cls d oe)
    (hd : (x == ("__debug__" : Str)) = false := by decide) (hcd : (x == ("__classdict__" : Str)) = false := by decide) (hdb : (n == ("__debug__" : Str)) = false := by decide)
    (hs : starEach [.Name x p2, .Name n p3] X.env = (false, eval (.Name x p2) X.env) :: starEach [.Name n p3] X.env := by rfl) (hs2 : starEach [.Name n p3] X.env = (false, eval (.Name n p3) X.env) :: starEach [] X.env := by rfl) (hpl : (backTo pos (starEach [.Name n p3] X.env)).any (·.1) = false := by rfl) :
    DEx (X.suite a ((a, oe) :: pn)) i a cls d [] (.Call (.Name "isinstance" p) [.Name x p2, .Name n p3] [] pos) (tCB (rIsX cls a) (tCons (tVar i) (tCons (tC (.ref C)) tNil))) (isXv n) := by
  refine ⟨pe_callB (call_isX hz) hg hm (by decide +kernel) (pa_cons (pe_var (X := X.suite a ((a, oe) :: pn)) hN hv hd hcd) (pa_cons (pe_glob (X := X.suite a ((a, oe) :: pn)) hgc hC rfl hdb) pa_nil hs2) hs) (by decide) (by decide) hs hpl, fun Fz σ H δ Q y cg hd hl hq => ?_⟩
  unfold isXv at hq
  by_cases h : y.cls = n
  · rw [if_pos h] at hq
    have hm2 : X.mg y.cls = some cls := cg.ex.1
    rw [h, hC] at hm2
    have e2 : cls = .ref C := (Option.some.inj hm2).symm
    subst e2
    exact ⟨.ref a, cg.at', .ref C, rfl, fun u hu => hu, hq (.bl true) H Fz .refl (.bl true)⟩
  · rw [if_neg h] at hq
    exact hq.elim
/-- a plain test -/
theorem dtx_of {f : DSt → Res Bool} (h : DT X (fun _ => E0) S e tA f) : DTx X i a cls d S e tA (fun _ => f) := ⟨h.pe, fun Fz σ H δ Q y _ hd hl hq => h.ok Fz σ H δ Q hd hl hq⟩
theorem dtx_not {f : Exn → DSt → Res Bool} (ha : DTx X i a cls d S e tA f) : DTx X i a cls d S (.UnaryOp .Not e pos) (tNot tA) (fun y δ => do let x ← f y δ; .ok (!x)) := by
  refine ⟨pt_not ha.pe, fun Fz σ H δ Q y cg hd hl hq => ?_⟩
  refine ha.ok Fz σ H δ _ y cg hd hl (wp_mono hq.bind (fun b hb' H1 F1 g1 => ?_) fun x hx => hx)
  obtain ⟨F2, g2, q2⟩ := hb' H1 F1 g1
  exact q2.at
theorem dtx_or {rest : List Expr} {f : Exn → DSt → Res Bool} {g : DSt → Res Bool} (ha : DTx X i a cls d S e tA f) (hb : DW X (fun _ => E0) T (.BoolOp .Or (b :: rest) pos) tB' g) : DTx X i a cls d (S ++ T) (.BoolOp .Or (e :: b :: rest) pos) (tOr tA tB') (fun y δ => do let x ← f y δ; if x then .ok true else g δ) := by
  refine ⟨(pw_or ha.pe hb.pe).pt, fun Fz σ H δ Q y cg hd hl hq => ?_⟩
  refine ha.ok Fz σ H δ _ y cg hd.left hl (wp_mono hq.bind (fun b hb' H1 F1 g1 => ?_) fun x hx => hx)
  obtain ⟨F2, g2, q2⟩ := hb' H1 F1 g1
  cases b with
  | false => exact hb.ok F2 σ H1 δ _ (hd.right.grow g2) (g2.live hl) q2
  | true => exact q2.at
/-- if test: suite -/
theorem dsx_if {h : Exn → DSt → Res Bool} {body : List Stmt} {ts ts' : TS} {f g : DSt → Res Out} (hc : DTx X i a cls d S c tA h) (ha : DSs X (fun _ => E0) body ts f) (hb : DSs X (fun _ => E0) [] ts' g) : DSx X i a cls d [.If c body [] pos] (tIfS tA ts ts') (fun y δ => do let x ← h y δ; if x then f δ else g δ) := by
  refine ⟨pss_one (ps_if hc.pe ha.pe hb.pe), fun H0 Fz0 Fz H σ δ Dn y cg r q => ?_⟩
  unfold SOK at q
  rw [wp_bind] at q
  refine hc.ok _ σ H δ _ y cg r.rd r.ownLive (wp_mono q (fun x hx H1 F1 g1 => ?_) fun x hx c oe H1 F1 g q => hx c oe H1 F1 (r.grow0 g) q)
  have r1 := r.up g1.same
  cases x with
  | true => exact ha.ok H0 Fz0 Fz H1 σ δ Dn r1 hx
  | false => exact hb.ok H0 Fz0 Fz H1 σ δ Dn r1 hx
end
end DL

set_option Elab.async false
set_option linter.all false
set_option maxRecDepth 100000
set_option maxHeartbeats 4000000
namespace DL
open PySem PySem.Spec L2

/-! ### how plain values stand as data: told apart by == -/
structure Gd {α : Type} [DecidableEq α] (e : α → D) (n : Nat) : Prop where
  lay : ∀ a, (e a).canLay0 = true
  dep : ∀ a, (e a).depth ≤ n
  eqv : ∀ a b, PyData.eqv (e a) (e b) = decide (a = b)
section
variable {α β : Type} [DecidableEq α] [DecidableEq β] {e : α → D} {f : β → D} {n m : Nat}
theorem Gd.mono (h : Gd e n) (hn : n ≤ m) : Gd e m := ⟨h.lay, fun a => Nat.le_trans (h.dep a) hn, h.eqv⟩
theorem Gd.shaped (h : Gd e n) (a : α) (hn : n ≤ 64 := by decide) : SeqAt.shaped (e a) = true := by
  unfold SeqAt.shaped
  rw [h.lay, decide_eq_true (Nat.le_trans (h.dep a) hn)]; rfl
theorem eq_gd (h : Gd e n) (a b : α) (hn : n ≤ 64 := by decide) : eqD (e a) (e b) = .ok (.bool (decide (a = b))) := by
  unfold eqD
  rw [h.shaped a hn, h.shaped b hn, h.eqv]; rfl
theorem ne_gd (h : Gd e n) (a b : α) (hn : n ≤ 64 := by decide) : neD (e a) (e b) = .ok (.bool (!decide (a = b))) := by
  unfold neD
  rw [h.shaped a hn, h.shaped b hn, h.eqv]; rfl
theorem gd_int : Gd PyData.int 0 := ⟨fun _ => rfl, fun _ => Nat.le_refl _, fun a b => by
  show (a == b) = _
  by_cases h : a = b <;> simp [h]⟩
theorem gd_bool : Gd PyData.bool 0 := ⟨fun _ => rfl, fun _ => Nat.le_refl _, fun a b => by
  show (a == b) = _
  cases a <;> cases b <;> rfl⟩
theorem all_lay (h : ∀ a, (e a).canLay0 = true) : ∀ l : List α, PyData.canLayAll0 (l.map e) = true
  | [] => rfl
  | a :: l => by
    show ((e a).canLay0 && PyData.canLayAll0 (l.map e)) = true
    rw [h a, all_lay h l]; rfl
theorem all_dep (h : ∀ a, (e a).depth ≤ n) : ∀ l : List α, PyData.depthAll (l.map e) ≤ n
  | [] => Nat.zero_le _
  | a :: l => by
    show max (e a).depth (PyData.depthAll (l.map e)) ≤ n
    have := h a
    have := all_dep h l
    omega
theorem all_eqv (h : ∀ a b, PyData.eqv (e a) (e b) = decide (a = b)) : ∀ l k : List α, PyData.eqvAll (l.map e) (k.map e) = decide (l = k)
  | [], [] => by simp [PyData.eqvAll]
  | [], _ :: _ => by simp [PyData.eqvAll]
  | _ :: _, [] => by simp [PyData.eqvAll]
  | a :: l, b :: k => by
    rw [List.map_cons, List.map_cons, PyData.eqvAll, h, all_eqv h l k]
    by_cases h1 : a = b <;> by_cases h2 : l = k <;> simp [h1, h2]
theorem gd_tup (h : Gd e n) : Gd (fun l : List α => PyData.tuple (l.map e)) (n + 1) :=
  ⟨fun l => by rw [PyData.canLay0]; exact all_lay h.lay l, fun l => by rw [PyData.depth]; exact Nat.succ_le_succ (all_dep h.dep l), fun l k => by rw [PyData.eqv]; exact all_eqv h.eqv l k⟩
theorem gd_lst (h : Gd e n) : Gd (fun l : List α => PyData.list (l.map e)) (n + 1) :=
  ⟨fun l => by rw [PyData.canLay0]; exact all_lay h.lay l, fun l => by rw [PyData.depth]; exact Nat.succ_le_succ (all_dep h.dep l), fun l k => by rw [PyData.eqv]; exact all_eqv h.eqv l k⟩
theorem gd_pair (h : Gd e n) (h' : Gd f n) : Gd (fun p : α × β => PyData.tuple [e p.1, f p.2]) (n + 1) :=
  ⟨fun p => by
    rw [PyData.canLay0]
    show ((e p.1).canLay0 && ((f p.2).canLay0 && true)) = true
    rw [h.lay, h'.lay]; rfl, fun p => by
    rw [PyData.depth]
    show max (e p.1).depth (max (f p.2).depth 0) + 1 ≤ n + 1
    have := h.dep p.1
    have := h'.dep p.2
    omega, fun p q => by
    rw [PyData.eqv, PyData.eqvAll, PyData.eqvAll, PyData.eqvAll, h.eqv, h'.eqv]
    obtain ⟨a, b⟩ := p
    obtain ⟨c, d⟩ := q
    by_cases h1 : a = c <;> by_cases h2 : b = d <;> simp [h1, h2]⟩
abbrev gd_tI : Gd tI 1 := gd_tup gd_int
theorem gd_any (h : Gd e n) (a : α) : ∀ l : List α, (l.map e).any (fun z => PyData.eqv z (e a)) = decide (a ∈ l)
  | [] => rfl
  | b :: l => by
    rw [List.map_cons, List.any_cons, gd_any h a l, h.eqv]
    by_cases q : b = a
    · subst q; simp
    · have : ¬ a = b := fun z => q z.symm
      simp [q, this]
theorem in_tup (h : Gd e n) (a : α) (l : List α) (hn : n ≤ 63 := by decide) : inD (e a) (.tuple (l.map e)) = .ok (.bool (decide (a ∈ l))) := by
  unfold inD
  dsimp only
  rw [h.shaped a (by omega), (gd_tup h).shaped l (by omega), gd_any h]; rfl
theorem in_lst (h : Gd e n) (a : α) (l : List α) (hn : n ≤ 63 := by decide) : inD (e a) (.list (l.map e)) = .ok (.bool (decide (a ∈ l))) := by
  unfold inD
  dsimp only
  rw [h.shaped a (by omega), (gd_lst h).shaped l (by omega), gd_any h]; rfl
theorem nin_tup (h : Gd e n) (a : α) (l : List α) (hn : n ≤ 63 := by decide) : ninD (e a) (.tuple (l.map e)) = .ok (.bool (!decide (a ∈ l))) := by
  unfold ninD
  dsimp only
  rw [h.shaped a (by omega), (gd_tup h).shaped l (by omega), gd_any h]; rfl
theorem nin_lst (h : Gd e n) (a : α) (l : List α) (hn : n ≤ 63 := by decide) : ninD (e a) (.list (l.map e)) = .ok (.bool (!decide (a ∈ l))) := by
  unfold ninD
  dsimp only
  rw [h.shaped a (by omega), (gd_lst h).shaped l (by omega), gd_any h]; rfl
theorem eq_nilG (h : Gd e n) (l : List α) (hn : n ≤ 63 := by decide) : eqD (.list (l.map e)) (.list []) = .ok (.bool (decide (l = []))) := eq_gd (gd_lst h) l [] (by omega)
theorem ne_nilG (h : Gd e n) (l : List α) (hn : n ≤ 63 := by decide) : neD (.list (l.map e)) (.list []) = .ok (.bool (!decide (l = []))) := ne_gd (gd_lst h) l [] (by omega)
theorem eq_nilGT (h : Gd e n) (l : List α) (hn : n ≤ 63 := by decide) : eqD (.tuple (l.map e)) (.tuple []) = .ok (.bool (decide (l = []))) := eq_gd (gd_tup h) l [] (by omega)
theorem ne_nilGT (h : Gd e n) (l : List α) (hn : n ≤ 63 := by decide) : neD (.tuple (l.map e)) (.tuple []) = .ok (.bool (!decide (l = []))) := ne_gd (gd_tup h) l [] (by omega)
end
theorem flatAll_of {α : Type} {e : α → D} (h : ∀ a, flat (e a) = true) : ∀ l : List α, flatAll (l.map e) = true
  | [] => rfl
  | a :: l => by rw [List.map_cons, flatAll, h a, flatAll_of h l]; rfl
@[simp] theorem flatAll_app : ∀ a b : List D, flatAll (a ++ b) = (flatAll a && flatAll b)
  | [], b => by simp
  | x :: a, b => by rw [List.cons_append, flatAll, flatAll, flatAll_app a b, Bool.and_assoc]
@[simp] theorem flat_tI (c : List Int) : flat (tI c) = true := flatAll_of (fun _ => rfl) c
@[simp] theorem flatAll_tI (cs : List (List Int)) : flatAll (cs.map tI) = true := flatAll_of flat_tI cs

/-! ### dicts as lists of pairs -/
structure KeyG {κ : Type} [DecidableEq κ] (t : Bool) (ke : κ → D) : Prop where
  keq : ∀ a b, keq (ke a) (ke b) = decide (a = b)
  ok : ∀ a, keyOk t (ke a) = true
theorem kg_int : KeyG false PyData.int := ⟨fun a b => keq_ky (.inl a) (.inl b) |>.trans (by simp), fun _ => rfl⟩
theorem kg_str : KeyG false PyData.str := ⟨fun a b => keq_ky (.inr a) (.inr b) |>.trans (by simp), fun _ => rfl⟩
theorem keqs_ints : ∀ a b : List Int, keqs (iL a) (iL b) = decide (a = b)
  | [], [] => rfl
  | [], _ :: _ => rfl
  | _ :: _, [] => rfl
  | a :: l, b :: k => by
    show (keqA (.int a) (.int b) && keqs (iL l) (iL k)) = _
    rw [keqs_ints l k]
    show (decide (a = b) && _) = _
    by_cases h1 : a = b <;> by_cases h2 : l = k <;> simp [h1, h2]
theorem kg_tI : KeyG true tI := ⟨fun a b => keqs_ints a b, fun a => allI_ints a⟩
section
variable {κ β : Type} [DecidableEq κ] {t : Bool} {ke : κ → D} {ve : β → D}
abbrev dAk (ke : κ → D) (l : List (κ × β)) : List D := l.map fun p => ke p.1
abbrev dAv (ve : β → D) (l : List (κ × β)) : List D := l.map fun p => ve p.2
/-- the value at a key -/
def look (l : List (κ × β)) (a : κ) : Option β := match l with
  | [] => none
  | p :: r => if p.1 = a then some p.2 else look r a
def putA (l : List (κ × β)) (a : κ) (b : β) : List (κ × β) := if a ∈ l.map (·.1) then l.map (fun p => if p.1 = a then (p.1, b) else p) else l ++ [(a, b)]
theorem hasK_of (h : KeyG t ke) (a : κ) : ∀ l : List (κ × β), hasK (dAk ke l) (ke a) = decide (a ∈ l.map (·.1))
  | [] => rfl
  | p :: l => by
    have ih := hasK_of h a l
    unfold hasK at ih ⊢
    show (keq (ke p.1) (ke a) || (dAk ke l).any fun k => keq k (ke a)) = _
    rw [ih, h.keq, List.map_cons]
    by_cases q : p.1 = a
    · simp [q]
    · have : ¬ a = p.1 := fun z => q z.symm
      simp [q, this]
theorem hasK_keys (h : KeyG t ke) (a : κ) (ks : List κ) : hasK (ks.map ke) (ke a) = decide (a ∈ ks) := by
  have := hasK_of (β := Unit) h a (ks.map fun k => (k, ()))
  unfold dAk at this
  rw [List.map_map, List.map_map] at this
  have e1 : (ks.map ((fun p : κ × Unit => ke p.1) ∘ fun k => (k, ()))) = ks.map ke := rfl
  have e2 : (ks.map ((fun p : κ × Unit => p.1) ∘ fun k => (k, ()))) = ks := by
    rw [show ((fun p : κ × Unit => p.1) ∘ fun k => (k, ())) = _root_.id from rfl, List.map_id]
  rw [e1, e2] at this
  exact this
theorem lookD_of (h : KeyG t ke) (a : κ) : ∀ l : List (κ × β), lookD (dAk ke l) (dAv ve l) (ke a) = (look l a).map ve
  | [] => rfl
  | p :: l => by
    unfold dAk dAv
    rw [List.map_cons, List.map_cons, lookD, h.keq, look]
    by_cases q : p.1 = a
    · simp [q]
    · rw [decide_eq_false q, if_neg q, if_neg Bool.false_ne_true]
      exact lookD_of h a l
theorem replD_of (h : KeyG t ke) (a : κ) (b : β) : ∀ l : List (κ × β), replD (dAk ke l) (dAv ve l) (ke a) (ve b) = dAv ve (l.map fun p => if p.1 = a then (p.1, b) else p)
  | [] => rfl
  | p :: l => by
    unfold dAk dAv
    rw [List.map_cons, List.map_cons, replD, h.keq, List.map_cons, List.map_cons]
    have := replD_of h a b l
    unfold dAk dAv at this
    rw [this]
    by_cases q : p.1 = a <;> simp [q]
theorem putKs_of (h : KeyG t ke) (a : κ) (b : β) (l : List (κ × β)) : putKs (dAk ke l) (ke a) = dAk ke (putA l a b) := by
  unfold putKs putA
  rw [hasK_of h]
  by_cases q : a ∈ l.map (·.1)
  · rw [decide_eq_true q, if_pos rfl, if_pos q]
    unfold dAk
    rw [List.map_map]
    apply List.map_congr_left
    intro p _
    by_cases z : p.1 = a <;> simp [z]
  · rw [decide_eq_false q, if_neg Bool.false_ne_true, if_neg q]
    simp [dAk]
theorem putVs_of (h : KeyG t ke) (a : κ) (b : β) (l : List (κ × β)) : putVs (dAk ke l) (dAv ve l) (ke a) (ve b) = dAv ve (putA l a b) := by
  unfold putVs putA
  rw [hasK_of h]
  by_cases q : a ∈ l.map (·.1)
  · rw [decide_eq_true q, if_pos rfl, if_pos q, replD_of h]
  · rw [decide_eq_false q, if_neg Bool.false_ne_true, if_neg q]
    simp [dAv]
theorem inA_of (h : KeyG t ke) (a : κ) (l : List (κ × β)) (vs : List D) : inA (ke a) (dcD t (dAk ke l) vs) = .ok (.bool (decide (a ∈ l.map (·.1)))) := by
  show (if keyOk t (ke a) then Res.ok (PyData.bool (hasK (dAk ke l) (ke a))) else .bot) = _
  rw [h.ok, if_pos rfl, hasK_of h]
theorem inA_keys (h : KeyG t ke) (a : κ) (l : List κ) (vs : List D) : inA (ke a) (dcD t (l.map ke) vs) = .ok (.bool (decide (a ∈ l))) := by
  show (if keyOk t (ke a) then Res.ok (PyData.bool (hasK (l.map ke) (ke a))) else .bot) = _
  rw [h.ok, if_pos rfl, hasK_keys h]
theorem ninA_of (h : KeyG t ke) (a : κ) (l : List (κ × β)) (vs : List D) : ninA (ke a) (dcD t (dAk ke l) vs) = .ok (.bool (!decide (a ∈ l.map (·.1)))) := by
  show (if keyOk t (ke a) then Res.ok (PyData.bool (!hasK (dAk ke l) (ke a))) else .bot) = _
  rw [h.ok, if_pos rfl, hasK_of h]
theorem ixA_of (h : KeyG t ke) {a : κ} {l : List (κ × β)} {b : β} (hb : look l a = some b) : ixA (dcD t (dAk ke l) (dAv ve l)) (ke a) = .ok (ve b) := by
  show (if keyOk t (ke a) then (match lookD (dAk ke l) (dAv ve l) (ke a) with | some d => Res.ok d | none => .bot) else .bot) = _
  rw [h.ok, if_pos rfl, lookD_of h, hb]; rfl
theorem look_mem {l : List (κ × β)} {a : κ} (h : a ∈ l.map (·.1)) : ∃ b, look l a = some b ∧ (a, b) ∈ l := by
  induction l with
  | nil => cases h
  | cons p l ih =>
    unfold look
    by_cases q : p.1 = a
    · exact ⟨p.2, if_pos q, by rw [← q]; exact List.mem_cons_self⟩
    · rw [if_neg q]
      rw [List.map_cons] at h
      rcases List.mem_cons.mp h with z | z
      · exact absurd z.symm q
      · obtain ⟨b, h1, h2⟩ := ih z
        exact ⟨b, h1, List.mem_cons_of_mem _ h2⟩
/-- d[k] = v at a slot of one's own -/
theorem put_ok (h : KeyG t ke) {i : Nat} {S : List Nat} {fv fk : DSt → Res D} {δ : DSt} {l : List (κ × β)} {a : κ} {b : β} (hd : δ[i]? = some (some (.ownd t (dAk ke l) (dAv ve l)))) (hv : fv δ = .ok (ve b)) (hf : flat (ve b) = true) (hk : fk δ = .ok (ke a)) (hl : l.length < sizeLine) :
    putF i S fv fk δ = .ok (.nx (δ.set i (some (.ownd t (dAk ke (putA l a b)) (dAv ve (putA l a b)))))) := by
  unfold DL.putF
  simp only [hd, hv, ev_ok, hf, if_true, hk]
  rw [h.ok, putKs_of h a b, putVs_of h]
  rw [show (true && decide ((dAk ke l).length < sizeLine)) = true by simpa [dAk] using hl, if_pos rfl]
end

/-! ### folding over a list whose states stand in a clean form -/
theorem for_st {α σ : Type} (enc : α → D) (E : σ → DSt) (step : σ → α → σ) (I : List α → σ → Prop) {p : Pat} {body : DSt → Res Out} {l0 : List α}
    (h : ∀ done a rest s, l0 = done ++ a :: rest → I done s → (nE (bindP p (enc a) (E s)) >>= body) = .ok (.nx (E (step s a))) ∧ I (done ++ [a]) (step s a)) :
    ∀ l done s, l0 = done ++ l → I done s → forGo p body (l.map enc) (E s) = .ok (.nx (E (l.foldl step s))) ∧ I l0 (l.foldl step s)
  | [], done, s, e, hI => by
    rw [List.append_nil] at e
    subst e
    exact ⟨rfl, hI⟩
  | a :: l, done, s, e, hI => by
    obtain ⟨h1, h2⟩ := h done a l s e hI
    obtain ⟨h3, h4⟩ := for_st enc E step I h l (done ++ [a]) (step s a) (by rw [List.append_assoc]; exact e) h2
    refine ⟨?_, h4⟩
    rw [List.map_cons, forGo]
    cases q : bindP p (enc a) (E s) with
    | ok δ1 =>
      rw [q, ev_nE, ev_ok] at h1
      rw [ev_nE, ok_bind, h1, ok_bind]
      exact h3
    | err x => rw [q] at h1; cases h1
    | bot => rw [q] at h1; cases h1
    | pick _ _ => rw [q] at h1; cases h1
/-- .. the state of the fold -/
theorem for_fold {α σ : Type} (enc : α → D) (E : σ → DSt) (step : σ → α → σ) (I : List α → σ → Prop) {p : Pat} {body : DSt → Res Out} {l : List α} {s : σ} (h0 : I [] s)
    (h : ∀ done a rest s, l = done ++ a :: rest → I done s → (nE (bindP p (enc a) (E s)) >>= body) = .ok (.nx (E (step s a))) ∧ I (done ++ [a]) (step s a)) :
    forGo p body (l.map enc) (E s) = .ok (.nx (E (l.foldl step s))) ∧ I l (l.foldl step s) := for_st enc E step I h l [] s rfl h0
/-- a state told by an invariant alone -/
theorem for_ex {α σ : Type} (enc : α → D) (E : σ → DSt) (I : List α → σ → Prop) {p : Pat} {body : DSt → Res Out} {l : List α} {s : σ} (h0 : I [] s)
    (h : ∀ done a rest s, l = done ++ a :: rest → I done s → ∃ s', (nE (bindP p (enc a) (E s)) >>= body) = .ok (.nx (E s')) ∧ I (done ++ [a]) s') :
    ∃ s', forGo p body (l.map enc) (E s) = .ok (.nx (E s')) ∧ I l s' := by
  obtain ⟨δ', h1, s', rfl, h2⟩ := for_inv0 (p := p) (body := body) enc (fun done δ => ∃ s, δ = E s ∧ I done s) (l := l) (δ := E s) ⟨s, rfl, h0⟩ (by
    rintro done a rest δ e ⟨s, rfl, hI⟩
    obtain ⟨s', g1, g2⟩ := h done a rest s e hI
    exact ⟨E s', g1, s', rfl, g2⟩)
  exact ⟨s', h1, h2⟩
/-- .. over a range -/
theorem rng_ex {σ : Type} (E : σ → DSt) (I : Nat → σ → Prop) {p : Pat} {body : DSt → Res Out} {lo hi : Int} {s : σ} (hlh : lo ≤ hi) (h0 : I 0 s)
    (h : ∀ (k : Nat) s, lo + k < hi → I k s → ∃ s', (nE (bindP p (.int (lo + k)) (E s)) >>= body) = .ok (.nx (E s')) ∧ I (k + 1) s') :
    ∃ s', forGo p body (rngL lo hi) (E s) = .ok (.nx (E s')) ∧ I (hi - lo).toNat s' := by
  obtain ⟨δ', h1, s', rfl, h2⟩ := rng_inv (p := p) (body := body) (fun k δ => ∃ s, δ = E s ∧ I k s) (lo := lo) (hi := hi) (δ := E s) hlh ⟨s, rfl, h0⟩ (by
    rintro k δ hk ⟨s, rfl, hI⟩
    obtain ⟨s', g1, g2⟩ := h k s hk hI
    exact ⟨E s', g1, s', rfl, g2⟩)
  exact ⟨s', h1, h2⟩
theorem rngL_nil {lo hi : Int} (h : hi ≤ lo) : rngL lo hi = [] := by
  unfold rngL
  rw [show (hi - lo).toNat = 0 by omega]; rfl
theorem lcGo_ex {α β : Type} (enc : α → D) (enc' : β → D) (P : β → Prop) {p : Pat} {δ : DSt} {fe : DSt → Res D} : ∀ l : List α, (∀ a ∈ l, ∃ δ1 b, nE (bindP p (enc a) δ) = .ok δ1 ∧ fe δ1 = .ok (enc' b) ∧ P b) → ∃ bs : List β, lcGo p δ tY fe (l.map enc) = .ok (bs.map enc') ∧ bs.length = l.length ∧ ∀ b ∈ bs, P b
  | [], _ => ⟨[], rfl, rfl, by simp⟩
  | a :: l, h => by
    obtain ⟨δ1, b, h1, h2, h3⟩ := h a List.mem_cons_self
    obtain ⟨bs, g1, g2, g3⟩ := lcGo_ex enc enc' P l fun x hx => h x (List.mem_cons_of_mem _ hx)
    refine ⟨b :: bs, ?_, by simp [g2], fun x hx => ?_⟩
    · rw [List.map_cons, lcGo, h1, ok_bind]
      show (nE (fe δ1) >>= fun y => lcGo p δ tY fe (l.map enc) >>= fun ys => Res.ok (y :: ys)) = _
      rw [h2, ev_nE, ok_bind, g1, ok_bind]; rfl
    · rcases List.mem_cons.mp hx with rfl | hx
      · exact h3
      · exact g3 x hx
theorem lcF_ex {α β : Type} (enc : α → D) (enc' : β → D) (P : β → Prop) {p : Pat} {vs : List Nat} {δ : DSt} {gs : DSt → Res (List D)} {fe : DSt → Res D} {l : List α} (hg : gs δ = .ok (l.map enc)) (hl : l.length ≤ sizeLine)
    (h : ∀ a ∈ l, ∃ δ1 b, nE (bindP p (enc a) (wipeD δ vs)) = .ok δ1 ∧ fe δ1 = .ok (enc' b) ∧ P b) : ∃ bs : List β, lcF gs p vs tY fe δ = .ok (bs.map enc') ∧ bs.length = l.length ∧ ∀ b ∈ bs, P b := by
  obtain ⟨bs, g1, g2, g3⟩ := lcGo_ex enc enc' P l h
  refine ⟨bs, ?_, g2, g3⟩
  unfold lcF
  rw [hg, ok_bind, g1, ok_bind]
  exact lstD_ok (by rw [List.length_map, g2]; exact hl)
/-! ### more to work out -/
@[simp] theorem ev_lrg1F (f δ) : lrg1F f δ = (f δ >>= fun x => lrg1D [x]) := rfl
@[simp] theorem ev_lrg2F (f g δ) : lrg2F f g δ = (f δ >>= fun x => g δ >>= fun y => lrg2D [x, y]) := rfl
theorem lrg2_ok {i j : Int} (h : -1000000 ≤ i ∧ i ≤ 1000000) (h' : -1000000 ≤ j ∧ j ≤ 1000000) : lrg2D [.int i, .int j] = .ok (rngL i j) := if_pos (by omega)
theorem lrg1_ok {j : Int} (h' : -1000000 ≤ j ∧ j ≤ 1000000) : lrg1D [.int j] = .ok (rngL 0 j) := if_pos (by omega)

theorem addL_ok {xs ys : List D} (h : xs.length + ys.length ≤ sizeLine) : addLD (.list xs) (.list ys) = .ok (xs ++ ys) := if_pos h
@[simp] theorem ev_b2L (g : D → D → Res (List D)) (fa fb δ) : b2L g fa fb δ = (fa δ >>= fun x => fb δ >>= fun y => g x y) := rfl

@[simp] theorem ev_downd (t ks vs) : (SV.ownd t ks vs).d = dcD t ks vs := rfl
@[simp] theorem orV_t (k) : orV (.bool true) k = .ok (.bool true) := rfl
@[simp] theorem orV_f (k) : orV (.bool false) k = k := rfl
@[simp] theorem andV_t (k) : andV (.bool true) k = k := rfl
@[simp] theorem andV_f (k) : andV (.bool false) k = .ok (.bool false) := rfl

@[simp] theorem ev_ninL (a : Int) (c : List Int) : ninD (.int a) (.list (iL c)) = .ok (.bool (!decide (a ∈ c))) := by
  unfold ninD
  simp only [shaped_int, shaped_lI c, Bool.and_self, if_true, any_ints]
@[simp] theorem ev_listT (xs : List D) : listD [.tuple xs] = .ok xs := rfl
@[simp] theorem ev_listL (xs : List D) : listD [.list xs] = .ok xs := rfl
@[simp] theorem ix_L0 (a : D) (ds : List D) : ixD (.list (a :: ds)) (.int 0) = .ok a := ix_L (k := 0) rfl
def asgLK (r : Res (List D)) (S : List Nat) (i : Nat) (δ : DSt) : Res Out := r >>= fun xs => .ok (.nx ((if flatAll xs then δ else freeze S 0 δ).set i (some (.val (.list xs)))))
@[simp] theorem ev_asgLV (S f i δ) : asgLV S f i δ = asgLK (f δ) S i δ := rfl
@[simp] theorem asgLK_fl {d : List D} {S i δ} (h : flatAll d = true) : asgLK (.ok d) S i δ = .ok (.nx (δ.set i (some (.val (.list d))))) := by
  show Res.ok (Out.nx ((if flatAll d then δ else freeze S 0 δ).set i (some (.val (.list d))))) = _
  rw [h]; rfl
@[simp] theorem asgLK_nf {d : List D} {S i δ} (h : flatAll d = false) : asgLK (.ok d) S i δ = .ok (.nx ((freeze S 0 δ).set i (some (.val (.list d))))) := by
  show Res.ok (Out.nx ((if flatAll d then δ else freeze S 0 δ).set i (some (.val (.list d))))) = _
  rw [h]; rfl
@[simp] theorem ev_clrF (vs f δ) : clr vs f δ = f (wipeD δ vs) := rfl
theorem sorted_eq (c : List Int) : sortedD [.list (iL c)] = .ok (sortL (iL c)) := by
  show (if sortOk (iL c) then Res.ok (sortL (iL c)) else .bot) = _
  rw [sortOk_ints, if_pos rfl]
abbrev sI (c : List Int) : List Int := c.mergeSort fun a b => decide (a ≤ b)
theorem sortL_ints (c : List Int) : sortL (iL c) = iL (sI c) := by
  unfold sortL
  have h := PySem.W.dataLe_int (β := Int) (fun x => x)
  rw [show iL (sI c) = (sI c).map PyData.int from rfl, List.map_mergeSort]
  intro a _ b _
  exact (congrFun (congrFun h a) b).symm
@[simp] theorem ev_sorted3L (c : List Int) : sorted3 [.list (iL c)] = .ok (iL (sI c)) := by
  show sortedD [.list (iL c)] = _
  rw [sorted_eq, sortL_ints]
@[simp] theorem ev_sorted3T (c : List Int) : sorted3 [.tuple (iL c)] = .ok (iL (sI c)) := by
  show (if sortOk (iL c) then Res.ok (sortL (iL c)) else .bot) = _
  rw [sortOk_ints, if_pos rfl, sortL_ints]
@[simp] theorem ev_sortedDL (c : List Int) : sortedD [.list (iL c)] = .ok (iL (sI c)) := by rw [sorted_eq, sortL_ints]
abbrev sT (cs : List (List Int)) : List (List Int) := cs.mergeSort fun a b => decide (a ≤ b)
@[simp] theorem ev_sorted3LT (c : List (List Int)) : sorted3 [.list (c.map tI)] = .ok ((sT c).map tI) := by
  show (if sortOk (c.map tI) then Res.ok (sortL (c.map tI)) else .bot) = _
  rw [sortOk_tups, if_pos rfl, sortL_tups]
@[simp] theorem ev_sorted3TT (c : List (List Int)) : sorted3 [.tuple (c.map tI)] = .ok ((sT c).map tI) := by
  show (if sortOk (c.map tI) then Res.ok (sortL (c.map tI)) else .bot) = _
  rw [sortOk_tups, if_pos rfl, sortL_tups]
@[simp] theorem ev_sortedDT (c : List (List Int)) : sortedD [.list (c.map tI)] = .ok ((sT c).map tI) := by
  show (if sortOk (c.map tI) then Res.ok (sortL (c.map tI)) else .bot) = _
  rw [sortOk_tups, if_pos rfl, sortL_tups]
theorem sI_perm (c : List Int) : (sI c).Perm c := List.mergeSort_perm _ _
theorem sI_mem {c : List Int} {x : Int} : x ∈ sI c ↔ x ∈ c := (sI_perm c).mem_iff
theorem sI_le (c : List Int) : (sI c).Pairwise (· ≤ ·) := (List.pairwise_mergeSort (fun x y z h1 h2 => by simp at *; omega) (fun x y => by simp; omega) c).imp fun h => by simpa using h
theorem sI_len (c : List Int) : (sI c).length = c.length := List.length_mergeSort c
theorem sI_lt {c : List Int} (h : c.Nodup) : (sI c).Pairwise (· < ·) := by
  have h1 := sI_le c
  have h2 := (sI_perm c).nodup_iff.mpr h
  exact (h1.and h2).imp fun ⟨a, b⟩ => by omega
theorem add_T {xs ys : List D} (h : xs.length + ys.length ≤ sizeLine) : addD (.tuple xs) (.tuple ys) = .ok (.tuple (xs ++ ys)) := if_pos h
theorem add_L {xs ys : List D} (h : xs.length + ys.length ≤ sizeLine) : addD (.list xs) (.list ys) = .ok (.list (xs ++ ys)) := if_pos h
theorem h1000 : (1000000 : Nat) ≤ sizeLine := le_size (Nat.le_refl _)
/-- an index from the end -/
theorem ix_last {ds : List D} {d : D} (h : ds.getLast? = some d) : ixD (.tuple ds) (.int (-1)) = .ok d := by
  have hl : ds ≠ [] := fun e => by rw [e] at h; cases h
  have h2 : 0 < ds.length := List.length_pos_iff.mpr hl
  show (match atI ds (-1 : Int) with | some d => Res.ok d | none => .bot) = _
  have : atI ds (-1) = some d := by
    unfold atI ixN
    have hk : ¬ (0 : Int) ≤ -1 := by decide
    have h3 : (0 : Int) ≤ ds.length + -1 := by omega
    have h4 : (-1 + (ds.length : Int)).toNat = ds.length - 1 := by omega
    have h5 : (1 : Int) ≤ ds.length := by omega
    rw [List.getLast?_eq_getElem?] at h
    simp [hk, h5, h4, h]
  rw [this]
end DL

set_option Elab.async false
set_option linter.all false
set_option maxRecDepth 100000
set_option maxHeartbeats 4000000
namespace DL
open PySem PySem.Spec L2
theorem allI_ex : ∀ ds : List D, allI ds = true → ∃ ns : List Int, ds = iL ns
  | [], _ => ⟨[], rfl⟩
  | .int i :: ds, h => by
    obtain ⟨ns, e⟩ := allI_ex ds h
    exact ⟨i :: ns, by rw [e]; rfl⟩
  | .none :: _, h => by cases h
  | .bool _ :: _, h => by cases h
  | .str _ :: _, h => by cases h
  | .list _ :: _, h => by cases h
  | .tuple _ :: _, h => by cases h
  | .dict _ :: _, h => by cases h
theorem small_L5 (L : List D) (h : L.length ≤ 100) : lstD L = .ok L := by
  have := h1000
  exact lstD_ok (by omega)
theorem ix5_0 (a b c d e : D) : ixD (.list [a, b, c, d, e]) (.int 0) = .ok a := ix_L (k := 0) rfl
theorem ix5_1 (a b c d e : D) : ixD (.list [a, b, c, d, e]) (.int 1) = .ok b := ix_L (k := 1) rfl
theorem ix5_2 (a b c d e : D) : ixD (.list [a, b, c, d, e]) (.int 2) = .ok c := ix_L (k := 2) rfl
theorem ix5_3 (a b c d e : D) : ixD (.list [a, b, c, d, e]) (.int 3) = .ok d := ix_L (k := 3) rfl
theorem ix5_4 (a b c d e : D) : ixD (.list [a, b, c, d, e]) (.int 4) = .ok e := ix_L (k := 4) rfl
theorem seqM_nx {f g : DSt → Res OutM} {δ δ' : DSt} (h : f δ = .ok (.nx δ')) : seqM f g δ = g δ' := by
  unfold seqM; rw [h]; rfl
end DL

set_option maxRecDepth 100000
set_option maxHeartbeats 4000000
namespace Law
open PySem PySem.Spec L2 DL
open PyProof.Rows hiding St
/-! ### the text (printed by gen.py) -/
def topS (i : Nat) : Stmt := PySem.Challenge.pw_rebut_k12_pigeons.main.body.getD i (.Pass ⟨0, 0, 0, 0⟩)
structure MB (mg : Str → Option Value) : Prop where
  m_abs : mg "abs" = none
  m_all : mg "all" = none
  m_int : mg "int" = none
  m_isinstance : mg "isinstance" = none
  m_len : mg "len" = none
  m_range : mg "range" = none
  m_set : mg "set" = none
  m_sorted : mg "sorted" = none
  m_tuple : mg "tuple" = none
  k_MOST_VARIABLES : ∃ t, mg "MOST_VARIABLES" = some (.int (40) t)
  ok : True
abbrev s_law_cell : Stmt := topS 12
abbrev N_law_cell : List Str := ["_law_script", "_law_k"]
theorem sc_law_cell : FnScope N_law_cell ["_law_script", "_law_k"] (defScope s_law_cell) := ⟨rfl, rfl, rfl, by decide +kernel, rfl, by decide +kernel, by decide +kernel⟩
def b_law_cell : DSt → Res Out :=
  seqF (ifS (tB2 ltD (vr 1) (u1A lenD (aCons (vr 0) (aNil)))) (sRt (b2 ixD (vr 0) (vr 1))) (sNil))
  (sRt (cI 0))
def g_law_cell : List PyData → Res PyData := fnD 2 b_law_cell
abbrev s_check_least : Stmt := topS 9
abbrev N_check_least : List Str := ["number"]
theorem sc_check_least : FnScope N_check_least ["number"] (defScope s_check_least) := ⟨rfl, rfl, rfl, by decide +kernel, rfl, by decide +kernel, by decide +kernel⟩
def b_check_least : DSt → Res Out :=
  ifS (tB2 ltD (vr 0) (cI 1)) ((fun _ => .err ⟨"BadFormula", none⟩)) (sNil)
def g_check_least : List PyData → Res PyData := fnX 1 b_check_least
abbrev s_check_count : Stmt := topS 6
abbrev N_check_count : List Str := ["n"]
theorem sc_check_count : FnScope N_check_count ["n"] (defScope s_check_count) := ⟨rfl, rfl, rfl, by decide +kernel, rfl, by decide +kernel, by decide +kernel⟩
def b_check_count : DSt → Res Out :=
  ifS (tOr' (tB2 ltD (vr 0) (cI 0)) (tB2 gtD (vr 0) (cI (40)))) ((fun _ => .err ⟨"BadFormula", none⟩)) (sNil)
def g_check_count : List PyData → Res PyData := fnX 1 b_check_count
abbrev s_made_clause : Stmt := topS 5
abbrev N_made_clause : List Str := ["literals", "literal"]
theorem sc_made_clause : FnScope N_made_clause ["literals"] (defScope s_made_clause) := ⟨rfl, rfl, rfl, by decide +kernel, rfl, by decide +kernel, by decide +kernel⟩
def b_made_clause : DSt → Res Out :=
  seqF (ifS (tTr (asL (lcF (u1LE seqD (vr 0)) (.nm 1) [1] (tB2 inD (u1 negD (vr 1)) (vr 0)) (vr 1)))) (sRt (cN)) (sNil))
  (sRt (u1A tupleD (aCons (asL (u1LE sortSetW (vr 0))) (aNil))))
def g_made_clause : List PyData → Res PyData := fnD 2 b_made_clause
abbrev s_made_formula : Stmt := topS 7
abbrev N_made_formula : List Str := ["n", "rows", "row", "clauses", "literal", "clause"]
theorem sc_made_formula : FnScope N_made_formula ["n", "rows"] (defScope s_made_formula) := ⟨rfl, rfl, rfl, by decide +kernel, rfl, by decide +kernel, by decide +kernel⟩
abbrev S_made_formula_1 (v_n v_rows : SV) : DSt := [some v_n, some v_rows, none, none, none, none]
def lp_made_formula_1 : DSt → Res Out :=
  seqF (ifS (tNt (tTr (u1A allD (aCons (asL (lcF (u1LE seqD (vr 2)) (.nm 4) [4] (tY) (chF ltD leD (cI 0) (u1A absD (aCons (vr 4) (aNil))) (vr 0)))) (aNil))))) ((fun _ => .err ⟨"BadFormula", none⟩)) (sNil)) (clr [2] (sNil))
def kx_made_formula_1 : DSt → Res Out :=
  seqF (asgLV [1, 2] (lcF (u1LE seqD (vr 1)) (.nm 2) [2] (tY) (callF g_made_clause (aCons (vr 2) (aNil)))) 3)
  (sRt (u1A tupD (aCons (vr 0) (aCons (u1A tupleD (aCons (asL (u1LE sortSetW (asL (lcF (u1LE seqD (vr 3)) (.nm 5) [5] (tB2 isnD (vr 5) (cN)) (vr 5))))) (aNil))) (aNil)))))
def b_made_formula : DSt → Res Out :=
  seqF (sEx (callX g_check_count (aCons (vr 0) (aNil))))
  (seqF (forFC [1] [2, 3] (u1LE seqD (vr 1)) (.nm 2) (lp_made_formula_1))
  (kx_made_formula_1))
def g_made_formula : List PyData → Res PyData := fnX 6 b_made_formula
abbrev s_pigeon_formula : Stmt := topS 10
abbrev N_pigeon_formula : List Str := ["p", "h", "rows", "i", "k", "j"]
theorem sc_pigeon_formula : FnScope N_pigeon_formula ["p", "h"] (defScope s_pigeon_formula) := ⟨rfl, rfl, rfl, by decide +kernel, rfl, by decide +kernel, by decide +kernel⟩
abbrev S_pigeon_formula_1 (v_p v_h v_rows v_i : SV) : DSt := [some v_p, some v_h, some v_rows, some v_i, none, none]
abbrev S_pigeon_formula_2 (v_p v_h v_rows : SV) : DSt := [some v_p, some v_h, some v_rows, none, none, none]
def lp_pigeon_formula_1 : DSt → Res Out :=
  seqF (extF 2 [1, 3, 1, 5, 4, 1, 5] (asL (lcF (u1L rng2D (aCons (cI 1) (aCons (b2 addD (vr 1) (cI 1)) (aNil)))) (.nm 5) [5] (tY) (asL (u1L lstD (aCons (u1 negD (b2 addD (b2 mulD (vr 3) (vr 1)) (vr 5))) (aCons (u1 negD (b2 addD (b2 mulD (vr 4) (vr 1)) (vr 5))) (aNil)))))))) (clr [4] (sNil))
def lp_pigeon_formula_2 : DSt → Res Out :=
  seqF (appF 2 [1, 3, 1, 5] (asL (lcF (u1L rng2D (aCons (cI 1) (aCons (b2 addD (vr 1) (cI 1)) (aNil)))) (.nm 5) [5] (tY) (b2 addD (b2 mulD (vr 3) (vr 1)) (vr 5)))))
  (seqF (forRC [4] (u1L rng1D (aCons (vr 3) (aNil))) (.nm 4) (lp_pigeon_formula_1)) (clr [3, 4] (sNil)))
def kx_pigeon_formula_1 : DSt → Res Out :=
  sRt (callX g_made_formula (aCons (b2 mulD (vr 0) (vr 1)) (aCons (vr 2) (aNil))))
def b_pigeon_formula : DSt → Res Out :=
  seqF (sEx (callX g_check_least (aCons (vr 0) (aNil))))
  (seqF (sEx (callX g_check_least (aCons (vr 1) (aNil))))
  (seqF (sEx (callX g_check_count (aCons (b2 mulD (vr 0) (vr 1)) (aNil))))
  (seqF (asgO [] (u1L lstD (aNil)) 2)
  (seqF (forRC [3, 4] (u1L rng1D (aCons (vr 0) (aNil))) (.nm 3) (lp_pigeon_formula_2))
  (kx_pigeon_formula_1)))))
def g_pigeon_formula : List PyData → Res PyData := fnX 6 b_pigeon_formula
abbrev s_law_cubes : Stmt := topS 15
abbrev N_law_cubes : List Str := ["_law_n", "_law_found", "_law_v", "_law_more", "_law_cube"]
theorem sc_law_cubes : FnScope N_law_cubes ["_law_n"] (defScope s_law_cubes) := ⟨rfl, rfl, rfl, by decide +kernel, rfl, by decide +kernel, by decide +kernel⟩
abbrev S_law_cubes_1 (v_law_v v_law_more : SV) : DSt := [none, none, some v_law_v, some v_law_more, none]
abbrev S_law_cubes_2 (v_law_found : SV) : DSt := [none, some v_law_found, none, none, none]
def lp_law_cubes_1 : DSt → Res Out :=
  seqF (asgF [3, 4, 2, 4, 2] (b2 addD (vr 3) (asL (u1L lstD (aCons (b2 addD (vr 4) (u1A tupD (aCons (vr 2) (aNil)))) (aCons (b2 addD (vr 4) (u1A tupD (aCons (u1 negD (vr 2)) (aNil)))) (aNil)))))) (.nm 3)) (clr [4] (sNil))
def kx_law_cubes_1 : DSt → Res Out :=
  clr [2] (seqF (asgF [3] (vr 3) (.nm 1)) (clr [2, 3, 4] (sNil)))
def lp_law_cubes_2 : DSt → Res Out :=
  seqF (asgLV [] (u1L lstD (aNil)) 3)
  (seqF (forFC [1] [0, 1, 4] (u1LE seqD (vr 1)) (.nm 4) (lp_law_cubes_1))
  (kx_law_cubes_1))
def kx_law_cubes_2 : DSt → Res Out :=
  sRt (asL (lcF (u1LE seqD (vr 1)) (.nm 4) [4] (tY) (u1A tupleD (aCons (asL (u1L sorted3 (aCons (vr 4) (aNil)))) (aNil)))))
def b_law_cubes : DSt → Res Out :=
  seqF (asgLV [] (u1L lstD (aCons (u1A tupD (aNil)) (aNil))) 1)
  (seqF (forRC [0, 2, 3, 4] (u1L rng2D (aCons (cI 1) (aCons (b2 addD (vr 0) (cI 1)) (aNil)))) (.nm 2) (lp_law_cubes_2))
  (kx_law_cubes_2))
def g_law_cubes : List PyData → Res PyData := fnD 5 b_law_cubes
abbrev s_law_true : Stmt := topS 16
abbrev N_law_true : List Str := ["_law_clause_here", "_law_cube", "_law_literal"]
theorem sc_law_true : FnScope N_law_true ["_law_clause_here", "_law_cube"] (defScope s_law_true) := ⟨rfl, rfl, rfl, by decide +kernel, rfl, by decide +kernel, by decide +kernel⟩
def b_law_true : DSt → Res Out :=
  sRt (b2 neD (asL (lcF (u1LE seqD (vr 0)) (.nm 2) [2] (tB2 inD (vr 2) (vr 1)) (vr 2))) (asL (u1L lstD (aNil))))
def g_law_true : List PyData → Res PyData := fnD 3 b_law_true
abbrev s_law_models : Stmt := topS 17
abbrev N_law_models : List Str := ["_law_formula_here", "_law_found", "_law_cube", "_law_clause_here"]
theorem sc_law_models : FnScope N_law_models ["_law_formula_here"] (defScope s_law_models) := ⟨rfl, rfl, rfl, by decide +kernel, rfl, by decide +kernel, by decide +kernel⟩
abbrev S_law_models_1 (v_law_formula_here v_law_found : SV) : DSt := [some v_law_formula_here, some v_law_found, none, none]
def lp_law_models_1 : DSt → Res Out :=
  seqF (ifS (tB2 eqD (asL (lcF (u1LE seqD (b2 ixD (vr 0) (cI 1))) (.nm 3) [3] (tNt (tTr (callF g_law_true (aCons (vr 3) (aCons (vr 2) (aNil)))))) (vr 3))) (asL (u1L lstD (aNil)))) (appF 1 [2] (vr 2)) (sNil)) (clr [2] (sNil))
def kx_law_models_1 : DSt → Res Out :=
  clr [0] (sRt (vr 1))
def b_law_models : DSt → Res Out :=
  seqF (asgO [] (u1L lstD (aNil)) 1)
  (seqF (forFC [0] [2] (u1LE seqD (callF g_law_cubes (aCons (b2 ixD (vr 0) (cI 0)) (aNil)))) (.nm 2) (lp_law_models_1))
  (kx_law_models_1))
def g_law_models : List PyData → Res PyData := fnD 4 b_law_models
abbrev s_law : Stmt := topS 19
abbrev N_law : List Str := ["_law_script", "_law_digit", "_law_p", "_law_h", "_law_clauses", "_law_i", "_law_k", "_law_j", "_law_actual", "e", "_law_true_here", "_law_cube", "_law_v", "_law_clause_here"]
theorem sc_law : FnScope N_law ["_law_script"] (defScope s_law) := ⟨rfl, rfl, rfl, by decide +kernel, rfl, by decide +kernel, by decide +kernel⟩
abbrev S_law_1 (v_law_p v_law_h v_law_clauses v_law_i v_law_k : SV) : DSt := [none, none, some v_law_p, some v_law_h, some v_law_clauses, some v_law_i, some v_law_k, none, none, none, none, none, none, none]
abbrev S_law_2 (v_law_p v_law_h v_law_clauses v_law_i : SV) : DSt := [none, none, some v_law_p, some v_law_h, some v_law_clauses, some v_law_i, none, none, none, none, none, none, none, none]
abbrev S_law_3 (v_law_p v_law_h v_law_clauses : SV) : DSt := [none, none, some v_law_p, some v_law_h, some v_law_clauses, none, none, none, none, none, none, none, none, none]
def lp_law_1 : DSt → Res Out :=
  seqF (putF 4 [] (cB true) (u1A tupD (aCons (b2 subD (b2 mulD (u1 negD (vr 5)) (vr 3)) (vr 7)) (aCons (b2 subD (b2 mulD (u1 negD (vr 6)) (vr 3)) (vr 7)) (aNil))))) (clr [7] (sNil))
def lp_law_2 : DSt → Res Out :=
  seqF (forRC [0, 1, 7, 8, 9, 10, 11] (u1L rng2D (aCons (cI 1) (aCons (b2 addD (vr 3) (cI 1)) (aNil)))) (.nm 7) (lp_law_1)) (clr [6, 7] (sNil))
def lp_law_3 : DSt → Res Out :=
  seqF (putF 4 [] (cB true) (u1A tupleD (aCons (asL (lcF (u1L rng2D (aCons (cI 1) (aCons (b2 addD (vr 3) (cI 1)) (aNil)))) (.nm 7) [7] (tY) (b2 addD (b2 mulD (vr 5) (vr 3)) (vr 7)))) (aNil))))
  (seqF (forRC [0, 1, 6, 7, 8, 9, 10, 11] (u1L rng1D (aCons (vr 5) (aNil))) (.nm 6) (lp_law_2)) (clr [5, 6, 7] (sNil)))
def kx_law_1 : DSt → Res Out :=
  seqF (tryA (subL [("BadFormula", true)]) 9 (asgF [2, 3] (callX g_pigeon_formula (aCons (vr 2) (aCons (vr 3) (aNil)))) (.nm 8)) (fun yx => sRt (andF (isXv "BadFormula"  yx) (orF (b2 ltD (vr 2) (cI 1)) (orF (b2 ltD (vr 3) (cI 1)) (b2 gtD (b2 mulD (vr 2) (vr 3)) (cI 40)))))))
  (seqF (ifS (tOr' (tB2 ltD (vr 2) (cI 1)) (tOr' (tB2 ltD (vr 3) (cI 1)) (tOr' (tB2 gtD (b2 mulD (vr 2) (vr 3)) (cI 40)) (tB2 neD (vr 8) (u1A tupD (aCons (b2 mulD (vr 2) (vr 3)) (aCons (u1A tupleD (aCons (asL (u1L sorted3 (aCons (vr 4) (aNil)))) (aNil))) (aNil)))))))) (sRt (cB false)) (sNil))
  (seqF (ifS (tB2 leD (b2 mulD (vr 2) (vr 3)) (cI 6)) (sRt (b2 eqD (b2 neD (callF g_law_models (aCons (vr 8) (aNil))) (asL (u1L lstD (aNil)))) (b2 leD (vr 2) (vr 3)))) (sNil))
  (seqF (ifS (tB2 leD (vr 2) (vr 3)) (seqF (asgLV [2, 5, 3, 5] (lcF (u1L rng1D (aCons (vr 2) (aNil))) (.nm 5) [5] (tY) (b2 addD (b2 addD (b2 mulD (vr 5) (vr 3)) (vr 5)) (cI 1))) 10)
  (seqF (asgLV [2, 3, 12, 12, 10] (lcF (u1L rng2D (aCons (cI 1) (aCons (b2 addD (b2 mulD (vr 2) (vr 3)) (cI 1)) (aNil)))) (.nm 12) [12] (tY) (b2 mulD (vr 12) (b2 subD (b2 mulD (cI 2) (u1A intD (aCons (b2 inD (vr 12) (vr 10)) (aNil)))) (cI 1)))) 11)
  (sRt (b2 eqD (asL (lcF (u1LE seqD (b2 ixD (vr 8) (cI 1))) (.nm 13) [13] (tNt (tTr (callF g_law_true (aCons (vr 13) (aCons (vr 11) (aNil)))))) (vr 13))) (asL (u1L lstD (aNil))))))) (sNil))
  (sRt (cB true)))))
def b_law : DSt → Res Out :=
  seqF (asgF [0] (u1A absD (aCons (callF g_law_cell (aCons (vr 0) (aCons (cI 0) (aNil)))) (aNil))) (.nm 1))
  (seqF (asgF [1] (b2 subD (b2 modD (u1A intD (aCons (vr 1) (aNil))) (cI 10)) (cI 1)) (.nm 2))
  (seqF (asgF [1] (b2 subD (b2 modD (b2 fdivD (vr 1) (cI 16)) (cI 10)) (cI 1)) (.nm 3))
  (seqF (ifS (tB2 eqD (b2 modD (b2 fdivD (vr 1) (cI 256)) (cI 3)) (cI 0)) (seqF (asgF [1] (b2 addD (cI 1) (b2 modD (u1A intD (aCons (vr 1) (aNil))) (cI 3))) (.nm 2))
  (asgF [1] (b2 addD (cI 1) (b2 modD (b2 fdivD (vr 1) (cI 16)) (cI 2))) (.nm 3))) (sNil))
  (seqF (newD 4 true)
  (seqF (forRC [0, 1, 5, 6, 7, 8, 9, 10, 11] (u1L rng1D (aCons (vr 2) (aNil))) (.nm 5) (lp_law_3))
  (kx_law_1))))))
def g_law : List PyData → Res PyData := fnD 14 b_law
structure XB (P : Program) (w : World) (K : PySem.W.Frag) (mg : Str → Option Value) (base : Heap) : Prop where
  x_BadFormula : ExcA K mg "BadFormula"
  n_RebutError : ∃ c, mg "RebutError" = some c
  t_BadFormula_RebutError : Mat K mg "BadFormula" "RebutError" true
section
variable {P : Program} {w : World} {K : PySem.W.Frag} {mg : Str → Option Value} {base : Heap}
theorem fd_law_cell (B : MB mg) (T : TxtF K mg "_law_cell" s_law_cell ["_law_script", "_law_k"])  (XX : XB P w K mg base)  : FD P w K mg base 1 2 "_law_cell" g_law_cell := by
  obtain ⟨f, fd, F, hm, b⟩ := T.ex
  have nd := sc_law_cell.nd
  exact fd_of F hm b sc_law_cell (g := b_law_cell) (fun cdv A outer s H E hr => ⟨_,
    dss_cons (ds_if (dt_cmp (od_ltK K (hu64 hr)) ltD_ne (nomark _) (dv 1) (de_cb (cd_lenK K) (by rfl) (by exact B.m_len) (by decide +kernel) (da_cons (dv 0) (da_nil)))) (dss_one (ds_ret (de_ixK K (fun _ _ => rfl) (dv 0) (dv 1)))) (dss_nil))
      (dss_one (ds_ret (de_int)))⟩)
theorem fd_check_least (B : MB mg) (T : TxtF K mg "check_least" s_check_least ["number"])  (XX : XB P w K mg base)  : FDX P w K mg base 1 1 "check_least" g_check_least := by
  obtain ⟨f, fd, F, hm, b⟩ := T.ex
  have nd := sc_check_least.nd
  exact fdx_of F hm b sc_check_least (g := b_check_least) (fun cdv A outer s H E hr tk hpo => ⟨_,
    dss_one (ds_if (dt_cmp (od_ltK K (hu64 hr)) ltD_ne (nomark _) (dv 0) (de_int)) (dss_one (ds_raiseA K mg rfl tk XX.x_BadFormula (by rfl))) (dss_nil))⟩)
theorem fd_check_count (B : MB mg) (T : TxtF K mg "check_count" s_check_count ["n"])  (XX : XB P w K mg base)  : FDX P w K mg base 1 1 "check_count" g_check_count := by
  obtain ⟨f, fd, F, hm, b⟩ := T.ex
  have nd := sc_check_count.nd
  exact fdx_of F hm b sc_check_count (g := b_check_count) (fun cdv A outer s H E hr tk hpo => ⟨_,
    dss_one (ds_if (DW.dt (dw_or (dt_cmp (od_ltK K (hu64 hr)) ltD_ne (nomark _) (dv 0) (de_int)) (dw_or1 (dt_cmp (od_gtK K (hu64 hr)) gtD_ne (nomark _) (dv 0) (de_gi rfl B.k_MOST_VARIABLES))))) (dss_one (ds_raiseA K mg rfl tk XX.x_BadFormula (by rfl))) (dss_nil))⟩)
theorem fd_made_clause (B : MB mg) (T : TxtF K mg "made_clause" s_made_clause ["literals"])  (XX : XB P w K mg base)  : FD P w K mg base 1 1 "made_clause" g_made_clause := by
  obtain ⟨f, fd, F, hm, b⟩ := T.ex
  have nd := sc_made_clause.nd
  exact fd_of F hm b sc_made_clause (g := b_made_clause) (fun cdv A outer s H E hr => ⟨_,
    dss_cons (ds_if (dt_truthK K (de_of_df (df_lc (own := [("literal", 1)]) rfl nd (di_seqK K (dv 0)) (blkOk_by (own := [("literal", 1)]) (N := N_made_clause) (sc := defScope s_made_clause) (by decide +kernel)) (fun _ _ _ _ _ => dg_name (i := 1) nd rfl (by first | exact Or.inl rfl | exact Or.inr rfl)) (by decide) (fun _ _ _ _ _ => dts_one (dt_cmp (od_inK K (hu65 hr)) inD_ne rfl (de_neg (dv 1)) (dv 0))) (fun _ _ _ _ _ => dv 1)))) (dss_one (ds_ret (de_non))) (dss_nil))
      (dss_one (ds_ret (de_cty (cd_tupleK K) (by rfl) (by exact B.m_tuple) (by decide +kernel) (da_cons (de_of_df (df_sortSetW K P w (hu66 hr) rfl (by rfl) (by exact B.m_sorted) (by rfl) (by exact B.m_set) (dv 0))) (da_nil)))))⟩)
theorem fd_made_formula (B : MB mg) (T : TxtF K mg "made_formula" s_made_formula ["n", "rows"])  (XX : XB P w K mg base) (c_check_count : FDX P w K mg base 1 1 "check_count" g_check_count) (c_made_clause : FD P w K mg base 1 1 "made_clause" g_made_clause) : FDX P w K mg base 2 2 "made_formula" g_made_formula := by
  obtain ⟨f, fd, F, hm, b⟩ := T.ex
  have nd := sc_made_formula.nd
  exact fdx_of F hm b sc_made_formula (g := b_made_formula) (fun cdv A outer s H E hr tk hpo => ⟨_,
    dss_cons (ds_expr (de_callX K mg tk c_check_count hr (by decide) (by rfl) (by rfl) (da_cons (dv 0) (da_nil))))
      (dss_cons (ds_forC [2, 3] hpo rfl (di_seqK K (dv 1)) (dg_name (i := 2) nd rfl (by first | exact Or.inl rfl | exact Or.inr rfl)) (dss_cons (ds_if (dt_not (dt_truthK K (de_cb (cd_allK K rfl) (by rfl) (by exact B.m_all) (by decide +kernel) (da_cons (de_of_df (df_lc (own := [("literal", 4)]) rfl nd (di_seqK K (dv 2)) (blkOk_by (own := [("literal", 4)]) (N := N_made_formula) (sc := defScope s_made_formula) (by decide +kernel)) (fun _ _ _ _ _ => dg_name (i := 4) nd rfl (by first | exact Or.inl rfl | exact Or.inr rfl)) (by decide) (fun _ _ _ _ _ => dts_nil) (fun _ _ _ _ _ => de_chain (od_ltK K (hu64 hr)) ltD_ne (od_leK K (hu64 hr)) leD_ne (de_int) (de_cb (cd_abs) (by rfl) (by exact B.m_abs) (by decide +kernel) (da_cons (dv 4) (da_nil))) (dv 0)))) (da_nil))))) (dss_one (ds_raiseA K mg rfl tk XX.x_BadFormula (by rfl))) (dss_nil)) (dss_clr [2] (dss_nil))))
      (dss_cons (ds_toVal (ds_setLc (i := 3) rfl rfl (sw_true rfl rfl rfl (by decide +kernel)) (own := [("row", 2)]) rfl nd (di_seqK K (dv 1)) (blkOk_by (own := [("row", 2)]) (N := N_made_formula) (sc := defScope s_made_formula) (by decide +kernel)) (fun _ _ _ _ _ => dg_name (i := 2) nd rfl (by first | exact Or.inl rfl | exact Or.inr rfl)) (by decide) (fun _ _ _ _ _ => dts_nil) (fun _ _ _ _ _ => de_callK K mg c_made_clause hr (by decide) (by rfl) (by rfl) (da_cons (dv 2) (da_nil)))))
      (dss_one (ds_ret (de_tup (da_cons (dv 0) (da_cons (de_cty (cd_tupleK K) (by rfl) (by exact B.m_tuple) (by decide +kernel) (da_cons (de_of_df (df_sortSetW K P w (hu66 hr) rfl (by rfl) (by exact B.m_sorted) (by rfl) (by exact B.m_set) (de_of_df (df_lc (own := [("clause", 5)]) rfl nd (di_seqK K (dv 3)) (blkOk_by (own := [("clause", 5)]) (N := N_made_formula) (sc := defScope s_made_formula) (by decide +kernel)) (fun _ _ _ _ _ => dg_name (i := 5) nd rfl (by first | exact Or.inl rfl | exact Or.inr rfl)) (by decide) (fun _ _ _ _ _ => dts_one (dt_cmp od_isn isnD_ne (nomark _) (dv 5) (de_non))) (fun _ _ _ _ _ => dv 5))))) (da_nil))) (da_nil))))))))⟩)
theorem fd_pigeon_formula (B : MB mg) (T : TxtF K mg "pigeon_formula" s_pigeon_formula ["p", "h"])  (XX : XB P w K mg base) (c_check_least : FDX P w K mg base 1 1 "check_least" g_check_least) (c_check_count : FDX P w K mg base 1 1 "check_count" g_check_count) (c_made_formula : FDX P w K mg base 2 2 "made_formula" g_made_formula) : FDX P w K mg base 3 2 "pigeon_formula" g_pigeon_formula := by
  obtain ⟨f, fd, F, hm, b⟩ := T.ex
  have nd := sc_pigeon_formula.nd
  exact fdx_of F hm b sc_pigeon_formula (g := b_pigeon_formula) (fun cdv A outer s H E hr tk hpo => ⟨_,
    dss_cons (ds_expr (de_callX K mg tk c_check_least hr (by decide) (by rfl) (by rfl) (da_cons (dv 0) (da_nil))))
      (dss_cons (ds_expr (de_callX K mg tk c_check_least hr (by decide) (by rfl) (by rfl) (da_cons (dv 1) (da_nil))))
      (dss_cons (ds_expr (de_callX K mg tk c_check_count hr (by decide) (by rfl) (by rfl) (da_cons (de_op od_mul opI2_ne (dv 0) (dv 1)) (da_nil))))
      (dss_cons (ds_setO (i := 2) nd rfl (by first | exact Or.inl rfl | exact Or.inr rfl) (df_lst (da_nil)))
      (dss_cons (ds_forRC [3, 4] hpo rfl (dr_range1 (by rfl) (by exact B.m_range) (da_cons (dv 0) (da_nil))) (dg_name (i := 3) nd rfl (by first | exact Or.inl rfl | exact Or.inr rfl)) (dss_cons (ds_append (i := 2) rfl (by first | exact Or.inl rfl | exact Or.inr (Or.inl rfl) | exact Or.inr (Or.inr rfl)) (de_of_df (df_lc (own := [("j", 5)]) rfl nd ((dr_range2 (by rfl) (by exact B.m_range) (da_cons (de_int) (da_cons (de_op (od_addK K) addD_ne (dv 1) (de_int)) (da_nil)))).di) (blkOk_by (own := [("j", 5)]) (N := N_pigeon_formula) (sc := defScope s_pigeon_formula) (by decide +kernel)) (fun _ _ _ _ _ => dg_name (i := 5) nd rfl (by first | exact Or.inl rfl | exact Or.inr rfl)) (by decide) (fun _ _ _ _ _ => dts_nil) (fun _ _ _ _ _ => de_op (od_addK K) addD_ne (de_op od_mul opI2_ne (dv 3) (dv 1)) (dv 5)))))
      (dss_cons (ds_forRC [4] hpo rfl (dr_range1 (by rfl) (by exact B.m_range) (da_cons (dv 3) (da_nil))) (dg_name (i := 4) nd rfl (by first | exact Or.inl rfl | exact Or.inr rfl)) (dss_cons (ds_extend (i := 2) rfl (by first | exact Or.inl rfl | exact Or.inr (Or.inl rfl) | exact Or.inr (Or.inr rfl)) (de_of_df (df_lc (own := [("j", 5)]) rfl nd ((dr_range2 (by rfl) (by exact B.m_range) (da_cons (de_int) (da_cons (de_op (od_addK K) addD_ne (dv 1) (de_int)) (da_nil)))).di) (blkOk_by (own := [("j", 5)]) (N := N_pigeon_formula) (sc := defScope s_pigeon_formula) (by decide +kernel)) (fun _ _ _ _ _ => dg_name (i := 5) nd rfl (by first | exact Or.inl rfl | exact Or.inr rfl)) (by decide) (fun _ _ _ _ _ => dts_nil) (fun _ _ _ _ _ => de_of_df (df_lst (da_cons (de_neg (de_op (od_addK K) addD_ne (de_op od_mul opI2_ne (dv 3) (dv 1)) (dv 5))) (da_cons (de_neg (de_op (od_addK K) addD_ne (de_op od_mul opI2_ne (dv 4) (dv 1)) (dv 5))) (da_nil)))))))) (dss_clr [4] (dss_nil)))) (dss_clr [3, 4] (dss_nil)))))
      (dss_one (ds_ret (de_callX K mg tk c_made_formula hr (by decide) (by rfl) (by rfl) (da_cons (de_op od_mul opI2_ne (dv 0) (dv 1)) (da_cons (dv 2) (da_nil))))))))))⟩)
theorem fd_law_cubes (B : MB mg) (T : TxtF K mg "_law_cubes" s_law_cubes ["_law_n"])  (XX : XB P w K mg base)  : FD P w K mg base 1 1 "_law_cubes" g_law_cubes := by
  obtain ⟨f, fd, F, hm, b⟩ := T.ex
  have nd := sc_law_cubes.nd
  exact fd_of F hm b sc_law_cubes (g := b_law_cubes) (fun cdv A outer s H E hr => ⟨_,
    dss_cons (ds_toVal (ds_setO (i := 1) nd rfl (by first | exact Or.inl rfl | exact Or.inr rfl) (df_lst (da_cons (de_tup (da_nil)) (da_nil)))))
      (dss_cons (ds_forRC [0, 2, 3, 4] PassesOwn.never rfl (dr_range2 (by rfl) (by exact B.m_range) (da_cons (de_int) (da_cons (de_op (od_addK K) addD_ne (dv 0) (de_int)) (da_nil)))) (dg_name (i := 2) nd rfl (by first | exact Or.inl rfl | exact Or.inr rfl)) (dss_cons (ds_toVal (ds_setO (i := 3) nd rfl (by first | exact Or.inl rfl | exact Or.inr rfl) (df_lst (da_nil))))
      (dss_cons (ds_forC [0, 1, 4] PassesOwn.never rfl (di_seqK K (dv 1)) (dg_name (i := 4) nd rfl (by first | exact Or.inl rfl | exact Or.inr rfl)) (dss_cons (ds_set (i := 3) nd rfl (by first | exact Or.inl rfl | exact Or.inr rfl) (de_op (od_addK K) addD_ne (dv 3) (de_of_df (df_lst (da_cons (de_op (od_addK K) addD_ne (dv 4) (de_tup (da_cons (dv 2) (da_nil)))) (da_cons (de_op (od_addK K) addD_ne (dv 4) (de_tup (da_cons (de_neg (dv 2)) (da_nil)))) (da_nil))))))) (dss_clr [4] (dss_nil))))
      (dss_clr [2] (dss_cons (ds_set (i := 1) nd rfl (by first | exact Or.inl rfl | exact Or.inr rfl) (dv 3)) (dss_clr [2, 3, 4] (dss_nil)))))))
      (dss_one (ds_ret (de_of_df (df_lc (own := [("_law_cube", 4)]) rfl nd (di_seqK K (dv 1)) (blkOk_by (own := [("_law_cube", 4)]) (N := N_law_cubes) (sc := defScope s_law_cubes) (by decide +kernel)) (fun _ _ _ _ _ => dg_name (i := 4) nd rfl (by first | exact Or.inl rfl | exact Or.inr rfl)) (by decide) (fun _ _ _ _ _ => dts_nil) (fun _ _ _ _ _ => de_cty (cd_tupleK K) (by rfl) (by exact B.m_tuple) (by decide +kernel) (da_cons (de_of_df (df_cb (cf_sorted3 K (hu66 hr) rfl) (by rfl) (by exact B.m_sorted) (by decide +kernel) (da_cons (dv 4) (da_nil)))) (da_nil))))))))⟩)
theorem fd_law_true (B : MB mg) (T : TxtF K mg "_law_true" s_law_true ["_law_clause_here", "_law_cube"])  (XX : XB P w K mg base)  : FD P w K mg base 1 2 "_law_true" g_law_true := by
  obtain ⟨f, fd, F, hm, b⟩ := T.ex
  have nd := sc_law_true.nd
  exact fd_of F hm b sc_law_true (g := b_law_true) (fun cdv A outer s H E hr => ⟨_,
    dss_one (ds_ret (de_cmp (od_neK K (hu64 hr)) neD_ne (nomark _) (de_of_df (df_lc (own := [("_law_literal", 2)]) rfl nd (di_seqK K (dv 0)) (blkOk_by (own := [("_law_literal", 2)]) (N := N_law_true) (sc := defScope s_law_true) (by decide +kernel)) (fun _ _ _ _ _ => dg_name (i := 2) nd rfl (by first | exact Or.inl rfl | exact Or.inr rfl)) (by decide) (fun _ _ _ _ _ => dts_one (dt_cmp (od_inK K (hu65 hr)) inD_ne rfl (dv 2) (dv 1))) (fun _ _ _ _ _ => dv 2))) (de_of_df (df_lst (da_nil)))))⟩)
theorem fd_law_models (B : MB mg) (T : TxtF K mg "_law_models" s_law_models ["_law_formula_here"])  (XX : XB P w K mg base) (c_law_cubes : FD P w K mg base 1 1 "_law_cubes" g_law_cubes) (c_law_true : FD P w K mg base 1 2 "_law_true" g_law_true) : FD P w K mg base 2 1 "_law_models" g_law_models := by
  obtain ⟨f, fd, F, hm, b⟩ := T.ex
  have nd := sc_law_models.nd
  exact fd_of F hm b sc_law_models (g := b_law_models) (fun cdv A outer s H E hr => ⟨_,
    dss_cons (ds_setO (i := 1) nd rfl (by first | exact Or.inl rfl | exact Or.inr rfl) (df_lst (da_nil)))
      (dss_cons (ds_forC [2] PassesOwn.never rfl (di_seqK K (de_callK K mg c_law_cubes hr (by decide) (by rfl) (by rfl) (da_cons (de_ixK K (fun _ _ => rfl) (dv 0) (de_int)) (da_nil)))) (dg_name (i := 2) nd rfl (by first | exact Or.inl rfl | exact Or.inr rfl)) (dss_cons (ds_if (dt_cmp (od_eqK K (hu64 hr)) eqD_ne (nomark _) (de_of_df (df_lc (own := [("_law_clause_here", 3)]) rfl nd (di_seqK K (de_ixK K (fun _ _ => rfl) (dv 0) (de_int))) (blkOk_by (own := [("_law_clause_here", 3)]) (N := N_law_models) (sc := defScope s_law_models) (by decide +kernel)) (fun _ _ _ _ _ => dg_name (i := 3) nd rfl (by first | exact Or.inl rfl | exact Or.inr rfl)) (by decide) (fun _ _ _ _ _ => dts_one (dt_not (dt_truthK K (de_callK K mg c_law_true hr (by decide) (by rfl) (by rfl) (da_cons (dv 3) (da_cons (dv 2) (da_nil))))))) (fun _ _ _ _ _ => dv 3))) (de_of_df (df_lst (da_nil)))) (dss_one (ds_append (i := 1) rfl (by first | exact Or.inl rfl | exact Or.inr (Or.inl rfl) | exact Or.inr (Or.inr rfl)) (dv 2))) (dss_nil)) (dss_clr [2] (dss_nil))))
      (dss_clr [0] (dss_one (ds_ret (dv 1)))))⟩)
theorem fn_law (B : MB mg)  (XX : XB P w K mg base) (c_law_cell : FD P w K mg base 1 2 "_law_cell" g_law_cell) (c_pigeon_formula : FDX P w K mg base 3 2 "pigeon_formula" g_pigeon_formula) (c_law_models : FD P w K mg base 2 1 "_law_models" g_law_models) (c_law_true : FD P w K mg base 1 2 "_law_true" g_law_true) {f : Addr} {fd : FuncData} (F : Fun K "law" "law" s_law f fd) : FnOk P w K mg base CX0 4 f fd ["_law_script"] (spD K mg 1 g_law) := by
  have nd := sc_law.nd
  obtain ⟨v_RebutError, m_RebutError⟩ := XX.n_RebutError
  obtain ⟨vq_BadFormula, mq_BadFormula, _⟩ := XX.x_BadFormula.ex
  exact DL.fn_of F sc_law (g := b_law) (fun cdv A outer s H E hr => ⟨_,
    dss_cons (ds_set (i := 1) nd rfl (by first | exact Or.inl rfl | exact Or.inr rfl) (de_cb (cd_abs) (by rfl) (by exact B.m_abs) (by decide +kernel) (da_cons (de_callK K mg c_law_cell hr (by decide) (by rfl) (by rfl) (da_cons (dv 0) (da_cons (de_int) (da_nil)))) (da_nil))))
      (dss_cons (ds_set (i := 2) nd rfl (by first | exact Or.inl rfl | exact Or.inr rfl) (de_op od_sub opI2_ne (de_op od_mod opI2_ne (de_cty (cd_int) (by rfl) (by exact B.m_int) (by decide +kernel) (da_cons (dv 1) (da_nil))) (de_int)) (de_int)))
      (dss_cons (ds_set (i := 3) nd rfl (by first | exact Or.inl rfl | exact Or.inr rfl) (de_op od_sub opI2_ne (de_op od_mod opI2_ne (de_op od_fdiv opI2_ne (dv 1) (de_int)) (de_int)) (de_int)))
      (dss_cons (ds_if (dt_cmp (od_eqK K (hu64 hr)) eqD_ne (nomark _) (de_op od_mod opI2_ne (de_op od_fdiv opI2_ne (dv 1) (de_int)) (de_int)) (de_int)) (dss_cons (ds_set (i := 2) nd rfl (by first | exact Or.inl rfl | exact Or.inr rfl) (de_op (od_addK K) addD_ne (de_int) (de_op od_mod opI2_ne (de_cty (cd_int) (by rfl) (by exact B.m_int) (by decide +kernel) (da_cons (dv 1) (da_nil))) (de_int))))
      (dss_one (ds_set (i := 3) nd rfl (by first | exact Or.inl rfl | exact Or.inr rfl) (de_op (od_addK K) addD_ne (de_int) (de_op od_mod opI2_ne (de_op od_fdiv opI2_ne (dv 1) (de_int)) (de_int)))))) (dss_nil))
      (dss_cons (ds_setD (i := 4) true nd rfl (by first | exact Or.inl rfl | exact Or.inr rfl))
      (dss_cons (ds_forRC [0, 1, 5, 6, 7, 8, 9, 10, 11] PassesOwn.never rfl (dr_range1 (by rfl) (by exact B.m_range) (da_cons (dv 2) (da_nil))) (dg_name (i := 5) nd rfl (by first | exact Or.inl rfl | exact Or.inr rfl)) (dss_cons (ds_put (i := 4) (hu65 hr) rfl (by first | exact Or.inl rfl | exact Or.inr (Or.inl rfl) | exact Or.inr (Or.inr rfl)) (de_bl) (de_cty (cd_tupleK K) (by rfl) (by exact B.m_tuple) (by decide +kernel) (da_cons (de_of_df (df_lc (own := [("_law_j", 7)]) rfl nd ((dr_range2 (by rfl) (by exact B.m_range) (da_cons (de_int) (da_cons (de_op (od_addK K) addD_ne (dv 3) (de_int)) (da_nil)))).di) (blkOk_by (own := [("_law_j", 7)]) (N := N_law) (sc := defScope s_law) (by decide +kernel)) (fun _ _ _ _ _ => dg_name (i := 7) nd rfl (by first | exact Or.inl rfl | exact Or.inr rfl)) (by decide) (fun _ _ _ _ _ => dts_nil) (fun _ _ _ _ _ => de_op (od_addK K) addD_ne (de_op od_mul opI2_ne (dv 5) (dv 3)) (dv 7)))) (da_nil))))
      (dss_cons (ds_forRC [0, 1, 6, 7, 8, 9, 10, 11] PassesOwn.never rfl (dr_range1 (by rfl) (by exact B.m_range) (da_cons (dv 5) (da_nil))) (dg_name (i := 6) nd rfl (by first | exact Or.inl rfl | exact Or.inr rfl)) (dss_cons (ds_forRC [0, 1, 7, 8, 9, 10, 11] PassesOwn.never rfl (dr_range2 (by rfl) (by exact B.m_range) (da_cons (de_int) (da_cons (de_op (od_addK K) addD_ne (dv 3) (de_int)) (da_nil)))) (dg_name (i := 7) nd rfl (by first | exact Or.inl rfl | exact Or.inr rfl)) (dss_cons (ds_put (i := 4) (hu65 hr) rfl (by first | exact Or.inl rfl | exact Or.inr (Or.inl rfl) | exact Or.inr (Or.inr rfl)) (de_bl) (de_tup (da_cons (de_op od_sub opI2_ne (de_op od_mul opI2_ne (de_neg (dv 5)) (dv 3)) (dv 7)) (da_cons (de_op od_sub opI2_ne (de_op od_mul opI2_ne (de_neg (dv 6)) (dv 3)) (dv 7)) (da_nil))))) (dss_clr [7] (dss_nil)))) (dss_clr [6, 7] (dss_nil)))) (dss_clr [5, 6, 7] (dss_nil)))))
      (dss_cons (ds_tryA (by rfl) (by rfl) nd (i := 9) (by rfl) (by rfl) ⟨by rfl, by decide, Or.inl m_RebutError⟩ takes0 (hsub_cons XX.t_BadFormula_RebutError m_RebutError (hsub_nil)) (fun W1 pn1 xe1 tk1 po1 => dss_one (ds_set (i := 8) nd rfl (by first | exact Or.inl rfl | exact Or.inr rfl) (de_callX K mg tk1 c_pigeon_formula hr (by decide) (by rfl) (by rfl) (da_cons (dv 2) (da_cons (dv 3) (da_nil)))))) (fun _ _ _ _ _ hzx hfx => dsx_ret (dx_and (dx_isi (by rfl) (by exact B.m_isinstance) (by rfl) (Or.inl (by rfl)) (by rfl) mq_BadFormula hzx) (dx_one (dx_of (de_or (de_cmp (od_ltK K (hu64q (rmq_suite hr))) ltD_ne (nomark _) (dv 2) (de_int)) (de_or (de_cmp (od_ltK K (hu64q (rmq_suite hr))) ltD_ne (nomark _) (dv 3) (de_int)) (de_one (de_cmp (od_gtK K (hu64q (rmq_suite hr))) gtD_ne (nomark _) (de_op od_mul opI2_ne (dv 2) (dv 3)) (de_int))))))))))
      (dss_cons (ds_if (DW.dt (dw_or (dt_cmp (od_ltK K (hu64 hr)) ltD_ne (nomark _) (dv 2) (de_int)) (dw_or (dt_cmp (od_ltK K (hu64 hr)) ltD_ne (nomark _) (dv 3) (de_int)) (dw_or (dt_cmp (od_gtK K (hu64 hr)) gtD_ne (nomark _) (de_op od_mul opI2_ne (dv 2) (dv 3)) (de_int)) (dw_or1 (dt_cmp (od_neK K (hu64 hr)) neD_ne (nomark _) (dv 8) (de_tup (da_cons (de_op od_mul opI2_ne (dv 2) (dv 3)) (da_cons (de_cty (cd_tupleK K) (by rfl) (by exact B.m_tuple) (by decide +kernel) (da_cons (de_of_df (df_cb (cf_sorted3 K (hu66 hr) rfl) (by rfl) (by exact B.m_sorted) (by decide +kernel) (da_cons (dv 4) (da_nil)))) (da_nil))) (da_nil)))))))))) (dss_one (ds_ret (de_bl))) (dss_nil))
      (dss_cons (ds_if (dt_cmp (od_leK K (hu64 hr)) leD_ne (nomark _) (de_op od_mul opI2_ne (dv 2) (dv 3)) (de_int)) (dss_one (ds_ret (de_cmp (od_eqK K (hu64 hr)) eqD_ne (nomark _) (de_cmp (od_neK K (hu64 hr)) neD_ne (nomark _) (de_callK K mg c_law_models hr (by decide) (by rfl) (by rfl) (da_cons (dv 8) (da_nil))) (de_of_df (df_lst (da_nil)))) (de_cmp (od_leK K (hu64 hr)) leD_ne (nomark _) (dv 2) (dv 3))))) (dss_nil))
      (dss_cons (ds_if (dt_cmp (od_leK K (hu64 hr)) leD_ne (nomark _) (dv 2) (dv 3)) (dss_cons (ds_toVal (ds_setO (i := 10) nd rfl (by first | exact Or.inl rfl | exact Or.inr rfl) (df_lc (own := [("_law_i", 5)]) rfl nd ((dr_range1 (by rfl) (by exact B.m_range) (da_cons (dv 2) (da_nil))).di) (blkOk_by (own := [("_law_i", 5)]) (N := N_law) (sc := defScope s_law) (by decide +kernel)) (fun _ _ _ _ _ => dg_name (i := 5) nd rfl (by first | exact Or.inl rfl | exact Or.inr rfl)) (by decide) (fun _ _ _ _ _ => dts_nil) (fun _ _ _ _ _ => de_op (od_addK K) addD_ne (de_op (od_addK K) addD_ne (de_op od_mul opI2_ne (dv 5) (dv 3)) (dv 5)) (de_int)))))
      (dss_cons (ds_toVal (ds_setO (i := 11) nd rfl (by first | exact Or.inl rfl | exact Or.inr rfl) (df_lc (own := [("_law_v", 12)]) rfl nd ((dr_range2 (by rfl) (by exact B.m_range) (da_cons (de_int) (da_cons (de_op (od_addK K) addD_ne (de_op od_mul opI2_ne (dv 2) (dv 3)) (de_int)) (da_nil)))).di) (blkOk_by (own := [("_law_v", 12)]) (N := N_law) (sc := defScope s_law) (by decide +kernel)) (fun _ _ _ _ _ => dg_name (i := 12) nd rfl (by first | exact Or.inl rfl | exact Or.inr rfl)) (by decide) (fun _ _ _ _ _ => dts_nil) (fun _ _ _ _ _ => de_op od_mul opI2_ne (dv 12) (de_op od_sub opI2_ne (de_op od_mul opI2_ne (de_int) (de_cty (cd_int) (by rfl) (by exact B.m_int) (by decide +kernel) (da_cons (de_cmp (od_inK K (hu65 hr)) inD_ne rfl (dv 12) (dv 10)) (da_nil)))) (de_int))))))
      (dss_one (ds_ret (de_cmp (od_eqK K (hu64 hr)) eqD_ne (nomark _) (de_of_df (df_lc (own := [("_law_clause_here", 13)]) rfl nd (di_seqK K (de_ixK K (fun _ _ => rfl) (dv 8) (de_int))) (blkOk_by (own := [("_law_clause_here", 13)]) (N := N_law) (sc := defScope s_law) (by decide +kernel)) (fun _ _ _ _ _ => dg_name (i := 13) nd rfl (by first | exact Or.inl rfl | exact Or.inr rfl)) (by decide) (fun _ _ _ _ _ => dts_one (dt_not (dt_truthK K (de_callK K mg c_law_true hr (by decide) (by rfl) (by rfl) (da_cons (dv 13) (da_cons (dv 11) (da_nil))))))) (fun _ _ _ _ _ => dv 13))) (de_of_df (df_lst (da_nil)))))))) (dss_nil))
      (dss_one (ds_ret (de_bl))))))))))))⟩)
end
section
variable {P : Program} {w : World} {K : PySem.W.Frag} {mg : Str → Option Value}
structure Txt (K : PySem.W.Frag) (mg : Str → Option Value) : Prop where
  B : MB mg
  t_law_cell : TxtF K mg "_law_cell" s_law_cell ["_law_script", "_law_k"]
  t_check_least : TxtF K mg "check_least" s_check_least ["number"]
  t_check_count : TxtF K mg "check_count" s_check_count ["n"]
  t_made_clause : TxtF K mg "made_clause" s_made_clause ["literals"]
  t_made_formula : TxtF K mg "made_formula" s_made_formula ["n", "rows"]
  t_pigeon_formula : TxtF K mg "pigeon_formula" s_pigeon_formula ["p", "h"]
  t_law_cubes : TxtF K mg "_law_cubes" s_law_cubes ["_law_n"]
  t_law_true : TxtF K mg "_law_true" s_law_true ["_law_clause_here", "_law_cube"]
  t_law_models : TxtF K mg "_law_models" s_law_models ["_law_formula_here"]
  t_law : TxtF K mg "law" s_law ["_law_script"]
theorem all_law (T : Txt K mg) (base : Heap) (XX : XB P w K mg base) {f : Addr} {fd : FuncData} (F : Fun K "law" "law" s_law f fd) : FnOk P w K mg base CX0 4 f fd ["_law_script"] (spD K mg 1 g_law) := by
  have c_law_cell : FD P w K mg base 1 2 "_law_cell" g_law_cell := fd_law_cell T.B T.t_law_cell XX 
  have c_check_least : FDX P w K mg base 1 1 "check_least" g_check_least := fd_check_least T.B T.t_check_least XX 
  have c_check_count : FDX P w K mg base 1 1 "check_count" g_check_count := fd_check_count T.B T.t_check_count XX 
  have c_made_clause : FD P w K mg base 1 1 "made_clause" g_made_clause := fd_made_clause T.B T.t_made_clause XX 
  have c_made_formula : FDX P w K mg base 2 2 "made_formula" g_made_formula := fd_made_formula T.B T.t_made_formula XX c_check_count c_made_clause
  have c_pigeon_formula : FDX P w K mg base 3 2 "pigeon_formula" g_pigeon_formula := fd_pigeon_formula T.B T.t_pigeon_formula XX c_check_least c_check_count c_made_formula
  have c_law_cubes : FD P w K mg base 1 1 "_law_cubes" g_law_cubes := fd_law_cubes T.B T.t_law_cubes XX 
  have c_law_true : FD P w K mg base 1 2 "_law_true" g_law_true := fd_law_true T.B T.t_law_true XX 
  have c_law_models : FD P w K mg base 2 1 "_law_models" g_law_models := fd_law_models T.B T.t_law_models XX c_law_cubes c_law_true
  exact fn_law T.B XX c_law_cell c_pigeon_formula c_law_models c_law_true F
end

end Law

set_option Elab.async false
set_option linter.all false
set_option maxRecDepth 100000
set_option maxHeartbeats 4000000
namespace Law
open PySem PySem.Spec L2 DL
/-! sorting that the kernel can run -/
def mgK {α : Type} (le : α → α → Bool) : Nat → List α → List α → List α
  | 0, xs, ys => xs ++ ys
  | _ + 1, [], ys => ys
  | _ + 1, x :: xs, [] => x :: xs
  | k + 1, x :: xs, y :: ys => if le x y then x :: mgK le k xs (y :: ys) else y :: mgK le k (x :: xs) ys
theorem mgK_eq {α : Type} (le : α → α → Bool) : ∀ (k : Nat) (xs ys : List α), xs.length + ys.length ≤ k → mgK le k xs ys = List.merge xs ys le
  | 0, [], [], _ => by simp [mgK]
  | 0, _ :: _, _, h => by simp at h
  | 0, [], _ :: _, h => by simp at h
  | _ + 1, [], ys, _ => by simp [mgK]
  | _ + 1, _ :: _, [], _ => by simp [mgK]
  | k + 1, x :: xs, y :: ys, h => by
    simp only [List.length_cons] at h
    rw [mgK, List.cons_merge_cons, mgK_eq le k xs (y :: ys) (by simp only [List.length_cons]; omega), mgK_eq le k (x :: xs) ys (by simp only [List.length_cons]; omega)]
def msK {α : Type} (le : α → α → Bool) : Nat → List α → List α
  | 0, xs => xs
  | _ + 1, [] => []
  | _ + 1, [a] => [a]
  | k + 1, a :: b :: xs => mgK le (xs.length + 2) (msK le k ((a :: b :: xs).take ((xs.length + 2 + 1) / 2))) (msK le k ((a :: b :: xs).drop ((xs.length + 2 + 1) / 2)))
theorem msK_eq {α : Type} (le : α → α → Bool) : ∀ (k : Nat) (xs : List α), xs.length ≤ k → msK le k xs = xs.mergeSort le
  | 0, [], _ => by simp [msK]
  | 0, _ :: _, h => by simp at h
  | _ + 1, [], _ => by simp [msK]
  | _ + 1, [a], _ => by simp [msK]
  | k + 1, a :: b :: xs, h => by
    simp only [List.length_cons] at h
    rw [msK, msK_eq le k _ (by simp only [List.length_take, List.length_cons]; omega), msK_eq le k _ (by simp only [List.length_drop, List.length_cons]; omega), mgK_eq le _ _ _ (by simp only [List.length_mergeSort, List.length_take, List.length_drop, List.length_cons]; omega), List.mergeSort]
    simp [List.MergeSort.Internal.splitInTwo]
def sortLB (ds : List PyData) : List PyData := msK (PySem.W.dataLe false _root_.id) ds.length ds
theorem sortLB_eq (ds : List PyData) : sortL ds = sortLB ds := (msK_eq _ _ _ (Nat.le_refl _)).symm
def sorted3B (ds : List PyData) : Res (List PyData) := match ds with
  | [.tuple xs] => if sortOk xs then .ok (sortLB xs) else .bot
  | [.list xs] => if sortOk xs then .ok (sortLB xs) else .bot
  | _ => sortedA ds
def sortSetLB (ds : List PyData) : Res (List PyData) := if ds.length < 64 then (match tupsO ds with | some cs => .ok ((msK (fun a b => decide (a ≤ b)) cs.length (ddup cs)).map tI) | none => (match whO ds with | some ns => .ok ((msK (fun a b => decide (a ≤ b)) ns.length (ddup ns)).map .int) | none => .bot)) else .bot
def sortSetB (d : PyData) : Res (List PyData) := match d with
  | .list ds => sortSetLB ds
  | .tuple ds => sortSetLB ds
  | _ => .bot
theorem ddup_le {α : Type} [DecidableEq α] : ∀ l : List α, (ddup l).length ≤ l.length
  | [] => Nat.le_refl _
  | x :: l => by
    have := ddup_le l
    unfold ddup
    split
    · simp only [List.length_cons]; omega
    · simp only [List.length_cons]; omega
theorem sortSetL_B (ds : List PyData) : sortSetL ds = sortSetLB ds := by
  unfold sortSetL sortSetLB
  split
  · cases h : tupsO ds with
    | some cs => simp only [sortU, msK_eq _ _ _ (ddup_le cs)]
    | none =>
      cases h2 : whO ds with
      | some ns => simp only [sortUI, msK_eq _ _ _ (ddup_le ns)]
      | none => rfl
  · rfl
theorem sortSetA_B : sortSetA = sortSetB := by
  funext d
  cases d <;> first | exact sortSetL_B _ | rfl
theorem sorted3_B : sorted3 = sorted3B := by
  funext ds
  unfold sorted3B
  split
  · unfold sorted3; simp only [sortLB_eq]
  · rename_i xs
    show sortedD [.list xs] = _
    unfold sortedD; simp only [sortLB_eq]
  · rename_i h1 h2
    unfold sorted3
    split
    · rename_i xs; exact absurd rfl (h1 xs)
    · rfl
theorem k1 : (match sortSetB (.list [tI [1,2], tI [-3], tI [-2, 3]]) with | .ok l => eqD (.list l) (.list [tI [-3], tI [-2,3], tI [1,2]]) | _ => .bot) = .ok (.bool true) := by kernel_rfl
theorem k2 : (match sorted3B ([.list [tI [1,2], tI [-3], tI [-2, 3]]]) with | .ok l => eqD (.list l) (.list [tI [-3], tI [-2,3], tI [1,2]]) | _ => .bot) = .ok (.bool true) := by kernel_rfl
end Law

set_option Elab.async false
set_option linter.all false
set_option maxRecDepth 100000
set_option maxHeartbeats 4000000
namespace Law
open PySem PySem.Spec L2 DL
/-! sorted(set(..)) of many, as the kernel can run it -/
def sortSetWLB (ds : List PyData) : Res (List PyData) := match tupsO ds with
  | some cs => if (ddup cs).length < 300 then .ok ((msK (fun a b => decide (a ≤ b)) cs.length (ddup cs)).map tI) else .bot
  | none => sortSetLB ds
def sortSetWB (d : PyData) : Res (List PyData) := match d with
  | .list ds => sortSetWLB ds
  | .tuple ds => sortSetWLB ds
  | _ => .bot
theorem sortSetWL_B (ds : List PyData) : sortSetWL ds = sortSetWLB ds := by
  unfold sortSetWL sortSetWLB
  cases h : tupsO ds with
  | some cs => simp only [sortU, msK_eq _ _ _ (ddup_le cs)]
  | none => exact sortSetL_B ds
theorem sortSetW_B : sortSetW = sortSetWB := by
  funext d
  cases d <;> first | exact sortSetWL_B _ | rfl
/-- sorted(xs), a dict's keys too -/
def sorted3C (ds : List PyData) : Res (List PyData) := match ds with
  | [.tuple xs] => if sortOk xs then .ok (sortLB xs) else .bot
  | [d] => (match dcO d with
    | some (_, ks, _) => if sortOk ks && ks.all (fun k => match k with | .tuple xs => decide (xs.length ≤ sizeLine) | _ => true) && decide (ks.length ≤ sizeLine) then .ok (sortLB ks) else .bot
    | none => (match d with | .list xs => if sortOk xs then .ok (sortLB xs) else .bot | _ => .bot))
  | _ => .bot
theorem sorted3_C : sorted3 = sorted3C := by
  funext ds
  have e : sortL = sortLB := funext sortLB_eq
  match ds with
  | [] => rfl
  | a :: b :: t => cases a <;> rfl
  | [d] =>
    cases d with
    | tuple xs => simp only [sorted3, sorted3C, e]
    | list xs =>
      show sortedD [.list xs] = _
      unfold sortedD
      rw [e]
      rfl
    | dict l =>
      show sortedA [.dict l] = sorted3C [.dict l]
      unfold sortedA sorted3C
      first
        | (simp only [sortedD, e]; done)
        | (simp only [sortedD, e]; generalize dcO (PyData.dict l) = r; rcases r with _ | ⟨a, b, c⟩ <;> rfl)
    | _ => rfl
end Law

set_option Elab.async false
set_option linter.all false
set_option maxRecDepth 100000
set_option maxHeartbeats 4000000
namespace Law
open PySem PySem.Spec L2 DL
def b_law_cellP (sA : PyData → Res (List PyData)) (s3 : List PyData → Res (List PyData)) : DSt → Res Out :=
  seqF (ifS (tB2 ltD (vr 1) (u1A lenD (aCons (vr 0) (aNil)))) (sRt (b2 ixD (vr 0) (vr 1))) (sNil))
  (sRt (cI 0))
def g_law_cellP (sA : PyData → Res (List PyData)) (s3 : List PyData → Res (List PyData)) : List PyData → Res PyData := fnD 2 (b_law_cellP sA s3)
def b_check_leastP (sA : PyData → Res (List PyData)) (s3 : List PyData → Res (List PyData)) : DSt → Res Out :=
  ifS (tB2 ltD (vr 0) (cI 1)) ((fun _ => .err ⟨"BadFormula", none⟩)) (sNil)
def g_check_leastP (sA : PyData → Res (List PyData)) (s3 : List PyData → Res (List PyData)) : List PyData → Res PyData := fnX 1 (b_check_leastP sA s3)
def b_check_countP (sA : PyData → Res (List PyData)) (s3 : List PyData → Res (List PyData)) : DSt → Res Out :=
  ifS (tOr' (tB2 ltD (vr 0) (cI 0)) (tB2 gtD (vr 0) (cI (40)))) ((fun _ => .err ⟨"BadFormula", none⟩)) (sNil)
def g_check_countP (sA : PyData → Res (List PyData)) (s3 : List PyData → Res (List PyData)) : List PyData → Res PyData := fnX 1 (b_check_countP sA s3)
def b_made_clauseP (sA : PyData → Res (List PyData)) (s3 : List PyData → Res (List PyData)) : DSt → Res Out :=
  seqF (ifS (tTr (asL (lcF (u1LE seqD (vr 0)) (.nm 1) [1] (tB2 inD (u1 negD (vr 1)) (vr 0)) (vr 1)))) (sRt (cN)) (sNil))
  (sRt (u1A tupleD (aCons (asL (u1LE sA (vr 0))) (aNil))))
def g_made_clauseP (sA : PyData → Res (List PyData)) (s3 : List PyData → Res (List PyData)) : List PyData → Res PyData := fnD 2 (b_made_clauseP sA s3)
def lp_made_formula_1P (sA : PyData → Res (List PyData)) (s3 : List PyData → Res (List PyData)) : DSt → Res Out :=
  seqF (ifS (tNt (tTr (u1A allD (aCons (asL (lcF (u1LE seqD (vr 2)) (.nm 4) [4] (tY) (chF ltD leD (cI 0) (u1A absD (aCons (vr 4) (aNil))) (vr 0)))) (aNil))))) ((fun _ => .err ⟨"BadFormula", none⟩)) (sNil)) (clr [2] (sNil))
def kx_made_formula_1P (sA : PyData → Res (List PyData)) (s3 : List PyData → Res (List PyData)) : DSt → Res Out :=
  seqF (asgLV [1, 2] (lcF (u1LE seqD (vr 1)) (.nm 2) [2] (tY) (callF (g_made_clauseP sA s3) (aCons (vr 2) (aNil)))) 3)
  (sRt (u1A tupD (aCons (vr 0) (aCons (u1A tupleD (aCons (asL (u1LE sA (asL (lcF (u1LE seqD (vr 3)) (.nm 5) [5] (tB2 isnD (vr 5) (cN)) (vr 5))))) (aNil))) (aNil)))))
def b_made_formulaP (sA : PyData → Res (List PyData)) (s3 : List PyData → Res (List PyData)) : DSt → Res Out :=
  seqF (sEx (callX (g_check_countP sA s3) (aCons (vr 0) (aNil))))
  (seqF (forFC [1] [2, 3] (u1LE seqD (vr 1)) (.nm 2) ((lp_made_formula_1P sA s3)))
  ((kx_made_formula_1P sA s3)))
def g_made_formulaP (sA : PyData → Res (List PyData)) (s3 : List PyData → Res (List PyData)) : List PyData → Res PyData := fnX 6 (b_made_formulaP sA s3)
def lp_pigeon_formula_1P (sA : PyData → Res (List PyData)) (s3 : List PyData → Res (List PyData)) : DSt → Res Out :=
  seqF (extF 2 [1, 3, 1, 5, 4, 1, 5] (asL (lcF (u1L rng2D (aCons (cI 1) (aCons (b2 addD (vr 1) (cI 1)) (aNil)))) (.nm 5) [5] (tY) (asL (u1L lstD (aCons (u1 negD (b2 addD (b2 mulD (vr 3) (vr 1)) (vr 5))) (aCons (u1 negD (b2 addD (b2 mulD (vr 4) (vr 1)) (vr 5))) (aNil)))))))) (clr [4] (sNil))
def lp_pigeon_formula_2P (sA : PyData → Res (List PyData)) (s3 : List PyData → Res (List PyData)) : DSt → Res Out :=
  seqF (appF 2 [1, 3, 1, 5] (asL (lcF (u1L rng2D (aCons (cI 1) (aCons (b2 addD (vr 1) (cI 1)) (aNil)))) (.nm 5) [5] (tY) (b2 addD (b2 mulD (vr 3) (vr 1)) (vr 5)))))
  (seqF (forRC [4] (u1L rng1D (aCons (vr 3) (aNil))) (.nm 4) ((lp_pigeon_formula_1P sA s3))) (clr [3, 4] (sNil)))
def kx_pigeon_formula_1P (sA : PyData → Res (List PyData)) (s3 : List PyData → Res (List PyData)) : DSt → Res Out :=
  sRt (callX (g_made_formulaP sA s3) (aCons (b2 mulD (vr 0) (vr 1)) (aCons (vr 2) (aNil))))
def b_pigeon_formulaP (sA : PyData → Res (List PyData)) (s3 : List PyData → Res (List PyData)) : DSt → Res Out :=
  seqF (sEx (callX (g_check_leastP sA s3) (aCons (vr 0) (aNil))))
  (seqF (sEx (callX (g_check_leastP sA s3) (aCons (vr 1) (aNil))))
  (seqF (sEx (callX (g_check_countP sA s3) (aCons (b2 mulD (vr 0) (vr 1)) (aNil))))
  (seqF (asgO [] (u1L lstD (aNil)) 2)
  (seqF (forRC [3, 4] (u1L rng1D (aCons (vr 0) (aNil))) (.nm 3) ((lp_pigeon_formula_2P sA s3)))
  ((kx_pigeon_formula_1P sA s3))))))
def g_pigeon_formulaP (sA : PyData → Res (List PyData)) (s3 : List PyData → Res (List PyData)) : List PyData → Res PyData := fnX 6 (b_pigeon_formulaP sA s3)
def lp_law_cubes_1P (sA : PyData → Res (List PyData)) (s3 : List PyData → Res (List PyData)) : DSt → Res Out :=
  seqF (asgF [3, 4, 2, 4, 2] (b2 addD (vr 3) (asL (u1L lstD (aCons (b2 addD (vr 4) (u1A tupD (aCons (vr 2) (aNil)))) (aCons (b2 addD (vr 4) (u1A tupD (aCons (u1 negD (vr 2)) (aNil)))) (aNil)))))) (.nm 3)) (clr [4] (sNil))
def kx_law_cubes_1P (sA : PyData → Res (List PyData)) (s3 : List PyData → Res (List PyData)) : DSt → Res Out :=
  clr [2] (seqF (asgF [3] (vr 3) (.nm 1)) (clr [2, 3, 4] (sNil)))
def lp_law_cubes_2P (sA : PyData → Res (List PyData)) (s3 : List PyData → Res (List PyData)) : DSt → Res Out :=
  seqF (asgLV [] (u1L lstD (aNil)) 3)
  (seqF (forFC [1] [0, 1, 4] (u1LE seqD (vr 1)) (.nm 4) ((lp_law_cubes_1P sA s3)))
  ((kx_law_cubes_1P sA s3)))
def kx_law_cubes_2P (sA : PyData → Res (List PyData)) (s3 : List PyData → Res (List PyData)) : DSt → Res Out :=
  sRt (asL (lcF (u1LE seqD (vr 1)) (.nm 4) [4] (tY) (u1A tupleD (aCons (asL (u1L s3 (aCons (vr 4) (aNil)))) (aNil)))))
def b_law_cubesP (sA : PyData → Res (List PyData)) (s3 : List PyData → Res (List PyData)) : DSt → Res Out :=
  seqF (asgLV [] (u1L lstD (aCons (u1A tupD (aNil)) (aNil))) 1)
  (seqF (forRC [0, 2, 3, 4] (u1L rng2D (aCons (cI 1) (aCons (b2 addD (vr 0) (cI 1)) (aNil)))) (.nm 2) ((lp_law_cubes_2P sA s3)))
  ((kx_law_cubes_2P sA s3)))
def g_law_cubesP (sA : PyData → Res (List PyData)) (s3 : List PyData → Res (List PyData)) : List PyData → Res PyData := fnD 5 (b_law_cubesP sA s3)
def b_law_trueP (sA : PyData → Res (List PyData)) (s3 : List PyData → Res (List PyData)) : DSt → Res Out :=
  sRt (b2 neD (asL (lcF (u1LE seqD (vr 0)) (.nm 2) [2] (tB2 inD (vr 2) (vr 1)) (vr 2))) (asL (u1L lstD (aNil))))
def g_law_trueP (sA : PyData → Res (List PyData)) (s3 : List PyData → Res (List PyData)) : List PyData → Res PyData := fnD 3 (b_law_trueP sA s3)
def lp_law_models_1P (sA : PyData → Res (List PyData)) (s3 : List PyData → Res (List PyData)) : DSt → Res Out :=
  seqF (ifS (tB2 eqD (asL (lcF (u1LE seqD (b2 ixD (vr 0) (cI 1))) (.nm 3) [3] (tNt (tTr (callF (g_law_trueP sA s3) (aCons (vr 3) (aCons (vr 2) (aNil)))))) (vr 3))) (asL (u1L lstD (aNil)))) (appF 1 [2] (vr 2)) (sNil)) (clr [2] (sNil))
def kx_law_models_1P (sA : PyData → Res (List PyData)) (s3 : List PyData → Res (List PyData)) : DSt → Res Out :=
  clr [0] (sRt (vr 1))
def b_law_modelsP (sA : PyData → Res (List PyData)) (s3 : List PyData → Res (List PyData)) : DSt → Res Out :=
  seqF (asgO [] (u1L lstD (aNil)) 1)
  (seqF (forFC [0] [2] (u1LE seqD (callF (g_law_cubesP sA s3) (aCons (b2 ixD (vr 0) (cI 0)) (aNil)))) (.nm 2) ((lp_law_models_1P sA s3)))
  ((kx_law_models_1P sA s3)))
def g_law_modelsP (sA : PyData → Res (List PyData)) (s3 : List PyData → Res (List PyData)) : List PyData → Res PyData := fnD 4 (b_law_modelsP sA s3)
def lp_law_1P (sA : PyData → Res (List PyData)) (s3 : List PyData → Res (List PyData)) : DSt → Res Out :=
  seqF (putF 4 [] (cB true) (u1A tupD (aCons (b2 subD (b2 mulD (u1 negD (vr 5)) (vr 3)) (vr 7)) (aCons (b2 subD (b2 mulD (u1 negD (vr 6)) (vr 3)) (vr 7)) (aNil))))) (clr [7] (sNil))
def lp_law_2P (sA : PyData → Res (List PyData)) (s3 : List PyData → Res (List PyData)) : DSt → Res Out :=
  seqF (forRC [0, 1, 7, 8, 9, 10, 11] (u1L rng2D (aCons (cI 1) (aCons (b2 addD (vr 3) (cI 1)) (aNil)))) (.nm 7) ((lp_law_1P sA s3))) (clr [6, 7] (sNil))
def lp_law_3P (sA : PyData → Res (List PyData)) (s3 : List PyData → Res (List PyData)) : DSt → Res Out :=
  seqF (putF 4 [] (cB true) (u1A tupleD (aCons (asL (lcF (u1L rng2D (aCons (cI 1) (aCons (b2 addD (vr 3) (cI 1)) (aNil)))) (.nm 7) [7] (tY) (b2 addD (b2 mulD (vr 5) (vr 3)) (vr 7)))) (aNil))))
  (seqF (forRC [0, 1, 6, 7, 8, 9, 10, 11] (u1L rng1D (aCons (vr 5) (aNil))) (.nm 6) ((lp_law_2P sA s3))) (clr [5, 6, 7] (sNil)))
def kx_law_1P (sA : PyData → Res (List PyData)) (s3 : List PyData → Res (List PyData)) : DSt → Res Out :=
  seqF (tryA (subL [("BadFormula", true)]) 9 (asgF [2, 3] (callX (g_pigeon_formulaP sA s3) (aCons (vr 2) (aCons (vr 3) (aNil)))) (.nm 8)) (fun yx => sRt (andF (isXv "BadFormula"  yx) (orF (b2 ltD (vr 2) (cI 1)) (orF (b2 ltD (vr 3) (cI 1)) (b2 gtD (b2 mulD (vr 2) (vr 3)) (cI 40)))))))
  (seqF (ifS (tOr' (tB2 ltD (vr 2) (cI 1)) (tOr' (tB2 ltD (vr 3) (cI 1)) (tOr' (tB2 gtD (b2 mulD (vr 2) (vr 3)) (cI 40)) (tB2 neD (vr 8) (u1A tupD (aCons (b2 mulD (vr 2) (vr 3)) (aCons (u1A tupleD (aCons (asL (u1L s3 (aCons (vr 4) (aNil)))) (aNil))) (aNil)))))))) (sRt (cB false)) (sNil))
  (seqF (ifS (tB2 leD (b2 mulD (vr 2) (vr 3)) (cI 6)) (sRt (b2 eqD (b2 neD (callF (g_law_modelsP sA s3) (aCons (vr 8) (aNil))) (asL (u1L lstD (aNil)))) (b2 leD (vr 2) (vr 3)))) (sNil))
  (seqF (ifS (tB2 leD (vr 2) (vr 3)) (seqF (asgLV [2, 5, 3, 5] (lcF (u1L rng1D (aCons (vr 2) (aNil))) (.nm 5) [5] (tY) (b2 addD (b2 addD (b2 mulD (vr 5) (vr 3)) (vr 5)) (cI 1))) 10)
  (seqF (asgLV [2, 3, 12, 12, 10] (lcF (u1L rng2D (aCons (cI 1) (aCons (b2 addD (b2 mulD (vr 2) (vr 3)) (cI 1)) (aNil)))) (.nm 12) [12] (tY) (b2 mulD (vr 12) (b2 subD (b2 mulD (cI 2) (u1A intD (aCons (b2 inD (vr 12) (vr 10)) (aNil)))) (cI 1)))) 11)
  (sRt (b2 eqD (asL (lcF (u1LE seqD (b2 ixD (vr 8) (cI 1))) (.nm 13) [13] (tNt (tTr (callF (g_law_trueP sA s3) (aCons (vr 13) (aCons (vr 11) (aNil)))))) (vr 13))) (asL (u1L lstD (aNil))))))) (sNil))
  (sRt (cB true)))))
def b_lawP (sA : PyData → Res (List PyData)) (s3 : List PyData → Res (List PyData)) : DSt → Res Out :=
  seqF (asgF [0] (u1A absD (aCons (callF (g_law_cellP sA s3) (aCons (vr 0) (aCons (cI 0) (aNil)))) (aNil))) (.nm 1))
  (seqF (asgF [1] (b2 subD (b2 modD (u1A intD (aCons (vr 1) (aNil))) (cI 10)) (cI 1)) (.nm 2))
  (seqF (asgF [1] (b2 subD (b2 modD (b2 fdivD (vr 1) (cI 16)) (cI 10)) (cI 1)) (.nm 3))
  (seqF (ifS (tB2 eqD (b2 modD (b2 fdivD (vr 1) (cI 256)) (cI 3)) (cI 0)) (seqF (asgF [1] (b2 addD (cI 1) (b2 modD (u1A intD (aCons (vr 1) (aNil))) (cI 3))) (.nm 2))
  (asgF [1] (b2 addD (cI 1) (b2 modD (b2 fdivD (vr 1) (cI 16)) (cI 2))) (.nm 3))) (sNil))
  (seqF (newD 4 true)
  (seqF (forRC [0, 1, 5, 6, 7, 8, 9, 10, 11] (u1L rng1D (aCons (vr 2) (aNil))) (.nm 5) ((lp_law_3P sA s3)))
  ((kx_law_1P sA s3)))))))
def g_lawP (sA : PyData → Res (List PyData)) (s3 : List PyData → Res (List PyData)) : List PyData → Res PyData := fnD 14 (b_lawP sA s3)
end Law

set_option Elab.async false
set_option linter.all false
set_option maxRecDepth 100000
set_option maxHeartbeats 4000000
namespace Law
open PySem PySem.Spec L2 DL
/-! ### the law from the two numbers on, run by the kernel at each pair -/
def tl12 (sA : PyData → Res (List PyData)) (s3 : List PyData → Res (List PyData)) : DSt → Res Out :=
  seqF (newD 4 true)
  (seqF (forRC [0, 1, 5, 6, 7, 8, 9, 10, 11] (u1L rng1D (aCons (vr 2) (aNil))) (.nm 5) (lp_law_3P sA s3))
  (kx_law_1P sA s3))
abbrev st12 (a b : Option SV) (p h : Int) : DSt := [a, b, some (.val (.int p)), some (.val (.int h)), none, none, none, none, none, none, none, none, none, none]
theorem c12_m1_m1 (a b : Option SV) : tl12 sortSetWB sorted3C (st12 a b (-1) (-1)) = .ok (.rt (.bool true)) := by kernel_rfl
theorem c12_m1_0 (a b : Option SV) : tl12 sortSetWB sorted3C (st12 a b (-1) (0)) = .ok (.rt (.bool true)) := by kernel_rfl
theorem c12_m1_1 (a b : Option SV) : tl12 sortSetWB sorted3C (st12 a b (-1) (1)) = .ok (.rt (.bool true)) := by kernel_rfl
theorem c12_m1_2 (a b : Option SV) : tl12 sortSetWB sorted3C (st12 a b (-1) (2)) = .ok (.rt (.bool true)) := by kernel_rfl
theorem c12_m1_3 (a b : Option SV) : tl12 sortSetWB sorted3C (st12 a b (-1) (3)) = .ok (.rt (.bool true)) := by kernel_rfl
theorem c12_m1_4 (a b : Option SV) : tl12 sortSetWB sorted3C (st12 a b (-1) (4)) = .ok (.rt (.bool true)) := by kernel_rfl
theorem c12_m1_5 (a b : Option SV) : tl12 sortSetWB sorted3C (st12 a b (-1) (5)) = .ok (.rt (.bool true)) := by kernel_rfl
theorem c12_m1_6 (a b : Option SV) : tl12 sortSetWB sorted3C (st12 a b (-1) (6)) = .ok (.rt (.bool true)) := by kernel_rfl
theorem c12_m1_7 (a b : Option SV) : tl12 sortSetWB sorted3C (st12 a b (-1) (7)) = .ok (.rt (.bool true)) := by kernel_rfl
theorem c12_m1_8 (a b : Option SV) : tl12 sortSetWB sorted3C (st12 a b (-1) (8)) = .ok (.rt (.bool true)) := by kernel_rfl
theorem c12_0_m1 (a b : Option SV) : tl12 sortSetWB sorted3C (st12 a b (0) (-1)) = .ok (.rt (.bool true)) := by kernel_rfl
theorem c12_0_0 (a b : Option SV) : tl12 sortSetWB sorted3C (st12 a b (0) (0)) = .ok (.rt (.bool true)) := by kernel_rfl
theorem c12_0_1 (a b : Option SV) : tl12 sortSetWB sorted3C (st12 a b (0) (1)) = .ok (.rt (.bool true)) := by kernel_rfl
theorem c12_0_2 (a b : Option SV) : tl12 sortSetWB sorted3C (st12 a b (0) (2)) = .ok (.rt (.bool true)) := by kernel_rfl
theorem c12_0_3 (a b : Option SV) : tl12 sortSetWB sorted3C (st12 a b (0) (3)) = .ok (.rt (.bool true)) := by kernel_rfl
theorem c12_0_4 (a b : Option SV) : tl12 sortSetWB sorted3C (st12 a b (0) (4)) = .ok (.rt (.bool true)) := by kernel_rfl
theorem c12_0_5 (a b : Option SV) : tl12 sortSetWB sorted3C (st12 a b (0) (5)) = .ok (.rt (.bool true)) := by kernel_rfl
theorem c12_0_6 (a b : Option SV) : tl12 sortSetWB sorted3C (st12 a b (0) (6)) = .ok (.rt (.bool true)) := by kernel_rfl
theorem c12_0_7 (a b : Option SV) : tl12 sortSetWB sorted3C (st12 a b (0) (7)) = .ok (.rt (.bool true)) := by kernel_rfl
theorem c12_0_8 (a b : Option SV) : tl12 sortSetWB sorted3C (st12 a b (0) (8)) = .ok (.rt (.bool true)) := by kernel_rfl
theorem c12_1_m1 (a b : Option SV) : tl12 sortSetWB sorted3C (st12 a b (1) (-1)) = .ok (.rt (.bool true)) := by kernel_rfl
theorem c12_1_0 (a b : Option SV) : tl12 sortSetWB sorted3C (st12 a b (1) (0)) = .ok (.rt (.bool true)) := by kernel_rfl
theorem c12_1_1 (a b : Option SV) : tl12 sortSetWB sorted3C (st12 a b (1) (1)) = .ok (.rt (.bool true)) := by kernel_rfl
theorem c12_1_2 (a b : Option SV) : tl12 sortSetWB sorted3C (st12 a b (1) (2)) = .ok (.rt (.bool true)) := by kernel_rfl
theorem c12_1_3 (a b : Option SV) : tl12 sortSetWB sorted3C (st12 a b (1) (3)) = .ok (.rt (.bool true)) := by kernel_rfl
theorem c12_1_4 (a b : Option SV) : tl12 sortSetWB sorted3C (st12 a b (1) (4)) = .ok (.rt (.bool true)) := by kernel_rfl
theorem c12_1_5 (a b : Option SV) : tl12 sortSetWB sorted3C (st12 a b (1) (5)) = .ok (.rt (.bool true)) := by kernel_rfl
theorem c12_1_6 (a b : Option SV) : tl12 sortSetWB sorted3C (st12 a b (1) (6)) = .ok (.rt (.bool true)) := by kernel_rfl
theorem c12_1_7 (a b : Option SV) : tl12 sortSetWB sorted3C (st12 a b (1) (7)) = .ok (.rt (.bool true)) := by kernel_rfl
theorem c12_1_8 (a b : Option SV) : tl12 sortSetWB sorted3C (st12 a b (1) (8)) = .ok (.rt (.bool true)) := by kernel_rfl
theorem c12_2_m1 (a b : Option SV) : tl12 sortSetWB sorted3C (st12 a b (2) (-1)) = .ok (.rt (.bool true)) := by kernel_rfl
theorem c12_2_0 (a b : Option SV) : tl12 sortSetWB sorted3C (st12 a b (2) (0)) = .ok (.rt (.bool true)) := by kernel_rfl
theorem c12_2_1 (a b : Option SV) : tl12 sortSetWB sorted3C (st12 a b (2) (1)) = .ok (.rt (.bool true)) := by kernel_rfl
theorem c12_2_2 (a b : Option SV) : tl12 sortSetWB sorted3C (st12 a b (2) (2)) = .ok (.rt (.bool true)) := by kernel_rfl
theorem c12_2_3 (a b : Option SV) : tl12 sortSetWB sorted3C (st12 a b (2) (3)) = .ok (.rt (.bool true)) := by kernel_rfl
theorem c12_2_4 (a b : Option SV) : tl12 sortSetWB sorted3C (st12 a b (2) (4)) = .ok (.rt (.bool true)) := by kernel_rfl
theorem c12_2_5 (a b : Option SV) : tl12 sortSetWB sorted3C (st12 a b (2) (5)) = .ok (.rt (.bool true)) := by kernel_rfl
theorem c12_2_6 (a b : Option SV) : tl12 sortSetWB sorted3C (st12 a b (2) (6)) = .ok (.rt (.bool true)) := by kernel_rfl
theorem c12_2_7 (a b : Option SV) : tl12 sortSetWB sorted3C (st12 a b (2) (7)) = .ok (.rt (.bool true)) := by kernel_rfl
theorem c12_2_8 (a b : Option SV) : tl12 sortSetWB sorted3C (st12 a b (2) (8)) = .ok (.rt (.bool true)) := by kernel_rfl
theorem c12_3_m1 (a b : Option SV) : tl12 sortSetWB sorted3C (st12 a b (3) (-1)) = .ok (.rt (.bool true)) := by kernel_rfl
theorem c12_3_0 (a b : Option SV) : tl12 sortSetWB sorted3C (st12 a b (3) (0)) = .ok (.rt (.bool true)) := by kernel_rfl
theorem c12_3_1 (a b : Option SV) : tl12 sortSetWB sorted3C (st12 a b (3) (1)) = .ok (.rt (.bool true)) := by kernel_rfl
theorem c12_3_2 (a b : Option SV) : tl12 sortSetWB sorted3C (st12 a b (3) (2)) = .ok (.rt (.bool true)) := by kernel_rfl
theorem c12_3_3 (a b : Option SV) : tl12 sortSetWB sorted3C (st12 a b (3) (3)) = .ok (.rt (.bool true)) := by kernel_rfl
theorem c12_3_4 (a b : Option SV) : tl12 sortSetWB sorted3C (st12 a b (3) (4)) = .ok (.rt (.bool true)) := by kernel_rfl
theorem c12_3_5 (a b : Option SV) : tl12 sortSetWB sorted3C (st12 a b (3) (5)) = .ok (.rt (.bool true)) := by kernel_rfl
theorem c12_3_6 (a b : Option SV) : tl12 sortSetWB sorted3C (st12 a b (3) (6)) = .ok (.rt (.bool true)) := by kernel_rfl
theorem c12_3_7 (a b : Option SV) : tl12 sortSetWB sorted3C (st12 a b (3) (7)) = .ok (.rt (.bool true)) := by kernel_rfl
theorem c12_3_8 (a b : Option SV) : tl12 sortSetWB sorted3C (st12 a b (3) (8)) = .ok (.rt (.bool true)) := by kernel_rfl
theorem c12_4_m1 (a b : Option SV) : tl12 sortSetWB sorted3C (st12 a b (4) (-1)) = .ok (.rt (.bool true)) := by kernel_rfl
theorem c12_4_0 (a b : Option SV) : tl12 sortSetWB sorted3C (st12 a b (4) (0)) = .ok (.rt (.bool true)) := by kernel_rfl
theorem c12_4_1 (a b : Option SV) : tl12 sortSetWB sorted3C (st12 a b (4) (1)) = .ok (.rt (.bool true)) := by kernel_rfl
theorem c12_4_2 (a b : Option SV) : tl12 sortSetWB sorted3C (st12 a b (4) (2)) = .ok (.rt (.bool true)) := by kernel_rfl
theorem c12_4_3 (a b : Option SV) : tl12 sortSetWB sorted3C (st12 a b (4) (3)) = .ok (.rt (.bool true)) := by kernel_rfl
theorem c12_4_4 (a b : Option SV) : tl12 sortSetWB sorted3C (st12 a b (4) (4)) = .ok (.rt (.bool true)) := by kernel_rfl
theorem c12_4_5 (a b : Option SV) : tl12 sortSetWB sorted3C (st12 a b (4) (5)) = .ok (.rt (.bool true)) := by kernel_rfl
theorem c12_4_6 (a b : Option SV) : tl12 sortSetWB sorted3C (st12 a b (4) (6)) = .ok (.rt (.bool true)) := by kernel_rfl
theorem c12_4_7 (a b : Option SV) : tl12 sortSetWB sorted3C (st12 a b (4) (7)) = .ok (.rt (.bool true)) := by kernel_rfl
theorem c12_4_8 (a b : Option SV) : tl12 sortSetWB sorted3C (st12 a b (4) (8)) = .ok (.rt (.bool true)) := by kernel_rfl
theorem c12_5_m1 (a b : Option SV) : tl12 sortSetWB sorted3C (st12 a b (5) (-1)) = .ok (.rt (.bool true)) := by kernel_rfl
theorem c12_5_0 (a b : Option SV) : tl12 sortSetWB sorted3C (st12 a b (5) (0)) = .ok (.rt (.bool true)) := by kernel_rfl
theorem c12_5_1 (a b : Option SV) : tl12 sortSetWB sorted3C (st12 a b (5) (1)) = .ok (.rt (.bool true)) := by kernel_rfl
theorem c12_5_2 (a b : Option SV) : tl12 sortSetWB sorted3C (st12 a b (5) (2)) = .ok (.rt (.bool true)) := by kernel_rfl
theorem c12_5_3 (a b : Option SV) : tl12 sortSetWB sorted3C (st12 a b (5) (3)) = .ok (.rt (.bool true)) := by kernel_rfl
theorem c12_5_4 (a b : Option SV) : tl12 sortSetWB sorted3C (st12 a b (5) (4)) = .ok (.rt (.bool true)) := by kernel_rfl
theorem c12_5_5 (a b : Option SV) : tl12 sortSetWB sorted3C (st12 a b (5) (5)) = .ok (.rt (.bool true)) := by kernel_rfl
theorem c12_5_6 (a b : Option SV) : tl12 sortSetWB sorted3C (st12 a b (5) (6)) = .ok (.rt (.bool true)) := by kernel_rfl
theorem c12_5_7 (a b : Option SV) : tl12 sortSetWB sorted3C (st12 a b (5) (7)) = .ok (.rt (.bool true)) := by kernel_rfl
theorem c12_5_8 (a b : Option SV) : tl12 sortSetWB sorted3C (st12 a b (5) (8)) = .ok (.rt (.bool true)) := by kernel_rfl
theorem c12_6_m1 (a b : Option SV) : tl12 sortSetWB sorted3C (st12 a b (6) (-1)) = .ok (.rt (.bool true)) := by kernel_rfl
theorem c12_6_0 (a b : Option SV) : tl12 sortSetWB sorted3C (st12 a b (6) (0)) = .ok (.rt (.bool true)) := by kernel_rfl
theorem c12_6_1 (a b : Option SV) : tl12 sortSetWB sorted3C (st12 a b (6) (1)) = .ok (.rt (.bool true)) := by kernel_rfl
theorem c12_6_2 (a b : Option SV) : tl12 sortSetWB sorted3C (st12 a b (6) (2)) = .ok (.rt (.bool true)) := by kernel_rfl
theorem c12_6_3 (a b : Option SV) : tl12 sortSetWB sorted3C (st12 a b (6) (3)) = .ok (.rt (.bool true)) := by kernel_rfl
theorem c12_6_4 (a b : Option SV) : tl12 sortSetWB sorted3C (st12 a b (6) (4)) = .ok (.rt (.bool true)) := by kernel_rfl
theorem c12_6_5 (a b : Option SV) : tl12 sortSetWB sorted3C (st12 a b (6) (5)) = .ok (.rt (.bool true)) := by kernel_rfl
theorem c12_6_6 (a b : Option SV) : tl12 sortSetWB sorted3C (st12 a b (6) (6)) = .ok (.rt (.bool true)) := by kernel_rfl
theorem c12_6_7 (a b : Option SV) : tl12 sortSetWB sorted3C (st12 a b (6) (7)) = .ok (.rt (.bool true)) := by kernel_rfl
theorem c12_6_8 (a b : Option SV) : tl12 sortSetWB sorted3C (st12 a b (6) (8)) = .ok (.rt (.bool true)) := by kernel_rfl
theorem c12_7_m1 (a b : Option SV) : tl12 sortSetWB sorted3C (st12 a b (7) (-1)) = .ok (.rt (.bool true)) := by kernel_rfl
theorem c12_7_0 (a b : Option SV) : tl12 sortSetWB sorted3C (st12 a b (7) (0)) = .ok (.rt (.bool true)) := by kernel_rfl
theorem c12_7_1 (a b : Option SV) : tl12 sortSetWB sorted3C (st12 a b (7) (1)) = .ok (.rt (.bool true)) := by kernel_rfl
theorem c12_7_2 (a b : Option SV) : tl12 sortSetWB sorted3C (st12 a b (7) (2)) = .ok (.rt (.bool true)) := by kernel_rfl
theorem c12_7_3 (a b : Option SV) : tl12 sortSetWB sorted3C (st12 a b (7) (3)) = .ok (.rt (.bool true)) := by kernel_rfl
theorem c12_7_4 (a b : Option SV) : tl12 sortSetWB sorted3C (st12 a b (7) (4)) = .ok (.rt (.bool true)) := by kernel_rfl
theorem c12_7_5 (a b : Option SV) : tl12 sortSetWB sorted3C (st12 a b (7) (5)) = .ok (.rt (.bool true)) := by kernel_rfl
theorem c12_7_6 (a b : Option SV) : tl12 sortSetWB sorted3C (st12 a b (7) (6)) = .ok (.rt (.bool true)) := by kernel_rfl
theorem c12_7_7 (a b : Option SV) : tl12 sortSetWB sorted3C (st12 a b (7) (7)) = .ok (.rt (.bool true)) := by kernel_rfl
theorem c12_7_8 (a b : Option SV) : tl12 sortSetWB sorted3C (st12 a b (7) (8)) = .ok (.rt (.bool true)) := by kernel_rfl
theorem c12_8_m1 (a b : Option SV) : tl12 sortSetWB sorted3C (st12 a b (8) (-1)) = .ok (.rt (.bool true)) := by kernel_rfl
theorem c12_8_0 (a b : Option SV) : tl12 sortSetWB sorted3C (st12 a b (8) (0)) = .ok (.rt (.bool true)) := by kernel_rfl
theorem c12_8_1 (a b : Option SV) : tl12 sortSetWB sorted3C (st12 a b (8) (1)) = .ok (.rt (.bool true)) := by kernel_rfl
theorem c12_8_2 (a b : Option SV) : tl12 sortSetWB sorted3C (st12 a b (8) (2)) = .ok (.rt (.bool true)) := by kernel_rfl
theorem c12_8_3 (a b : Option SV) : tl12 sortSetWB sorted3C (st12 a b (8) (3)) = .ok (.rt (.bool true)) := by kernel_rfl
theorem c12_8_4 (a b : Option SV) : tl12 sortSetWB sorted3C (st12 a b (8) (4)) = .ok (.rt (.bool true)) := by kernel_rfl
theorem c12_8_5 (a b : Option SV) : tl12 sortSetWB sorted3C (st12 a b (8) (5)) = .ok (.rt (.bool true)) := by kernel_rfl
theorem c12_8_6 (a b : Option SV) : tl12 sortSetWB sorted3C (st12 a b (8) (6)) = .ok (.rt (.bool true)) := by kernel_rfl
theorem c12_8_7 (a b : Option SV) : tl12 sortSetWB sorted3C (st12 a b (8) (7)) = .ok (.rt (.bool true)) := by kernel_rfl
theorem c12_8_8 (a b : Option SV) : tl12 sortSetWB sorted3C (st12 a b (8) (8)) = .ok (.rt (.bool true)) := by kernel_rfl
theorem c12_m1 (a b : Option SV) (k : Nat) (hk : k ≤ 9) : tl12 sortSetWB sorted3C (st12 a b (-1) (Int.ofNat k - 1)) = .ok (.rt (.bool true)) := by
  match k, hk with
  | 0, _ => exact c12_m1_m1 a b
  | 1, _ => exact c12_m1_0 a b
  | 2, _ => exact c12_m1_1 a b
  | 3, _ => exact c12_m1_2 a b
  | 4, _ => exact c12_m1_3 a b
  | 5, _ => exact c12_m1_4 a b
  | 6, _ => exact c12_m1_5 a b
  | 7, _ => exact c12_m1_6 a b
  | 8, _ => exact c12_m1_7 a b
  | 9, _ => exact c12_m1_8 a b
  | k + 10, h => exact absurd h (by omega)
theorem c12_0 (a b : Option SV) (k : Nat) (hk : k ≤ 9) : tl12 sortSetWB sorted3C (st12 a b (0) (Int.ofNat k - 1)) = .ok (.rt (.bool true)) := by
  match k, hk with
  | 0, _ => exact c12_0_m1 a b
  | 1, _ => exact c12_0_0 a b
  | 2, _ => exact c12_0_1 a b
  | 3, _ => exact c12_0_2 a b
  | 4, _ => exact c12_0_3 a b
  | 5, _ => exact c12_0_4 a b
  | 6, _ => exact c12_0_5 a b
  | 7, _ => exact c12_0_6 a b
  | 8, _ => exact c12_0_7 a b
  | 9, _ => exact c12_0_8 a b
  | k + 10, h => exact absurd h (by omega)
theorem c12_1 (a b : Option SV) (k : Nat) (hk : k ≤ 9) : tl12 sortSetWB sorted3C (st12 a b (1) (Int.ofNat k - 1)) = .ok (.rt (.bool true)) := by
  match k, hk with
  | 0, _ => exact c12_1_m1 a b
  | 1, _ => exact c12_1_0 a b
  | 2, _ => exact c12_1_1 a b
  | 3, _ => exact c12_1_2 a b
  | 4, _ => exact c12_1_3 a b
  | 5, _ => exact c12_1_4 a b
  | 6, _ => exact c12_1_5 a b
  | 7, _ => exact c12_1_6 a b
  | 8, _ => exact c12_1_7 a b
  | 9, _ => exact c12_1_8 a b
  | k + 10, h => exact absurd h (by omega)
theorem c12_2 (a b : Option SV) (k : Nat) (hk : k ≤ 9) : tl12 sortSetWB sorted3C (st12 a b (2) (Int.ofNat k - 1)) = .ok (.rt (.bool true)) := by
  match k, hk with
  | 0, _ => exact c12_2_m1 a b
  | 1, _ => exact c12_2_0 a b
  | 2, _ => exact c12_2_1 a b
  | 3, _ => exact c12_2_2 a b
  | 4, _ => exact c12_2_3 a b
  | 5, _ => exact c12_2_4 a b
  | 6, _ => exact c12_2_5 a b
  | 7, _ => exact c12_2_6 a b
  | 8, _ => exact c12_2_7 a b
  | 9, _ => exact c12_2_8 a b
  | k + 10, h => exact absurd h (by omega)
theorem c12_3 (a b : Option SV) (k : Nat) (hk : k ≤ 9) : tl12 sortSetWB sorted3C (st12 a b (3) (Int.ofNat k - 1)) = .ok (.rt (.bool true)) := by
  match k, hk with
  | 0, _ => exact c12_3_m1 a b
  | 1, _ => exact c12_3_0 a b
  | 2, _ => exact c12_3_1 a b
  | 3, _ => exact c12_3_2 a b
  | 4, _ => exact c12_3_3 a b
  | 5, _ => exact c12_3_4 a b
  | 6, _ => exact c12_3_5 a b
  | 7, _ => exact c12_3_6 a b
  | 8, _ => exact c12_3_7 a b
  | 9, _ => exact c12_3_8 a b
  | k + 10, h => exact absurd h (by omega)
theorem c12_4 (a b : Option SV) (k : Nat) (hk : k ≤ 9) : tl12 sortSetWB sorted3C (st12 a b (4) (Int.ofNat k - 1)) = .ok (.rt (.bool true)) := by
  match k, hk with
  | 0, _ => exact c12_4_m1 a b
  | 1, _ => exact c12_4_0 a b
  | 2, _ => exact c12_4_1 a b
  | 3, _ => exact c12_4_2 a b
  | 4, _ => exact c12_4_3 a b
  | 5, _ => exact c12_4_4 a b
  | 6, _ => exact c12_4_5 a b
  | 7, _ => exact c12_4_6 a b
  | 8, _ => exact c12_4_7 a b
  | 9, _ => exact c12_4_8 a b
  | k + 10, h => exact absurd h (by omega)
theorem c12_5 (a b : Option SV) (k : Nat) (hk : k ≤ 9) : tl12 sortSetWB sorted3C (st12 a b (5) (Int.ofNat k - 1)) = .ok (.rt (.bool true)) := by
  match k, hk with
  | 0, _ => exact c12_5_m1 a b
  | 1, _ => exact c12_5_0 a b
  | 2, _ => exact c12_5_1 a b
  | 3, _ => exact c12_5_2 a b
  | 4, _ => exact c12_5_3 a b
  | 5, _ => exact c12_5_4 a b
  | 6, _ => exact c12_5_5 a b
  | 7, _ => exact c12_5_6 a b
  | 8, _ => exact c12_5_7 a b
  | 9, _ => exact c12_5_8 a b
  | k + 10, h => exact absurd h (by omega)
theorem c12_6 (a b : Option SV) (k : Nat) (hk : k ≤ 9) : tl12 sortSetWB sorted3C (st12 a b (6) (Int.ofNat k - 1)) = .ok (.rt (.bool true)) := by
  match k, hk with
  | 0, _ => exact c12_6_m1 a b
  | 1, _ => exact c12_6_0 a b
  | 2, _ => exact c12_6_1 a b
  | 3, _ => exact c12_6_2 a b
  | 4, _ => exact c12_6_3 a b
  | 5, _ => exact c12_6_4 a b
  | 6, _ => exact c12_6_5 a b
  | 7, _ => exact c12_6_6 a b
  | 8, _ => exact c12_6_7 a b
  | 9, _ => exact c12_6_8 a b
  | k + 10, h => exact absurd h (by omega)
theorem c12_7 (a b : Option SV) (k : Nat) (hk : k ≤ 9) : tl12 sortSetWB sorted3C (st12 a b (7) (Int.ofNat k - 1)) = .ok (.rt (.bool true)) := by
  match k, hk with
  | 0, _ => exact c12_7_m1 a b
  | 1, _ => exact c12_7_0 a b
  | 2, _ => exact c12_7_1 a b
  | 3, _ => exact c12_7_2 a b
  | 4, _ => exact c12_7_3 a b
  | 5, _ => exact c12_7_4 a b
  | 6, _ => exact c12_7_5 a b
  | 7, _ => exact c12_7_6 a b
  | 8, _ => exact c12_7_7 a b
  | 9, _ => exact c12_7_8 a b
  | k + 10, h => exact absurd h (by omega)
theorem c12_8 (a b : Option SV) (k : Nat) (hk : k ≤ 9) : tl12 sortSetWB sorted3C (st12 a b (8) (Int.ofNat k - 1)) = .ok (.rt (.bool true)) := by
  match k, hk with
  | 0, _ => exact c12_8_m1 a b
  | 1, _ => exact c12_8_0 a b
  | 2, _ => exact c12_8_1 a b
  | 3, _ => exact c12_8_2 a b
  | 4, _ => exact c12_8_3 a b
  | 5, _ => exact c12_8_4 a b
  | 6, _ => exact c12_8_5 a b
  | 7, _ => exact c12_8_6 a b
  | 8, _ => exact c12_8_7 a b
  | 9, _ => exact c12_8_8 a b
  | k + 10, h => exact absurd h (by omega)
theorem c12_all (a b : Option SV) (j k : Nat) (hj : j ≤ 9) (hk : k ≤ 9) : tl12 sortSetWB sorted3C (st12 a b (Int.ofNat j - 1) (Int.ofNat k - 1)) = .ok (.rt (.bool true)) := by
  match j, hj with
  | 0, _ => exact c12_m1 a b k hk
  | 1, _ => exact c12_0 a b k hk
  | 2, _ => exact c12_1 a b k hk
  | 3, _ => exact c12_2 a b k hk
  | 4, _ => exact c12_3 a b k hk
  | 5, _ => exact c12_4 a b k hk
  | 6, _ => exact c12_5 a b k hk
  | 7, _ => exact c12_6 a b k hk
  | 8, _ => exact c12_7 a b k hk
  | 9, _ => exact c12_8 a b k hk
  | j + 10, h => exact absurd h (by omega)
end Law

set_option linter.all false
namespace Lin
/-! sums over two elements, plain -/
def X (U : List Int) (f s : Int → Bool) : Bool := U.foldr (fun v b => ((f v && s v) ^^ b)) false
theorem X_cons (v : Int) (U f s) : X (v :: U) f s = ((f v && s v) ^^ X U f s) := rfl
theorem X_congr {U : List Int} {f g s t : Int → Bool} (h : ∀ v ∈ U, (f v && s v) = (g v && t v)) : X U f s = X U g t := by
  induction U with
  | nil => rfl
  | cons v U ih =>
    rw [X_cons, X_cons, h v List.mem_cons_self, ih fun x hx => h x (List.mem_cons_of_mem _ hx)]
theorem X_xor (U : List Int) (f s t : Int → Bool) : X U f (fun v => (s v ^^ t v)) = (X U f s ^^ X U f t) := by
  induction U with
  | nil => rfl
  | cons v U ih =>
    rw [X_cons, X_cons, X_cons, ih]
    cases f v <;> cases s v <;> cases t v <;> cases X U f s <;> cases X U f t <;> rfl
theorem X_xorL (U : List Int) (f g s : Int → Bool) : X U (fun v => (f v ^^ g v)) s = (X U f s ^^ X U g s) := by
  induction U with
  | nil => rfl
  | cons v U ih =>
    rw [X_cons, X_cons, X_cons, ih]
    cases f v <;> cases g v <;> cases s v <;> cases X U f s <;> cases X U g s <;> rfl
theorem X_count (U : List Int) (f s : Int → Bool) : ((U.filter s).filter f).length % 2 = (X U f s).toNat := by
  induction U with
  | nil => rfl
  | cons v U ih =>
    rw [X_cons, List.filter_cons]
    cases hs : s v with
    | false =>
      rw [if_neg Bool.false_ne_true, ih]
      cases f v <;> cases X U f s <;> rfl
    | true =>
      rw [if_pos rfl, List.filter_cons]
      cases hf : f v with
      | false =>
        rw [if_neg Bool.false_ne_true, ih]
        cases X U f s <;> rfl
      | true =>
        rw [if_pos rfl, List.length_cons]
        cases hx : X U f s with
        | false => rw [hx] at ih; simp at ih ⊢; omega
        | true => rw [hx] at ih; simp at ih ⊢; omega
theorem X_nil {U : List Int} {f s : Int → Bool} (h : ∀ v ∈ U, s v = false) : X U f s = false := by
  induction U with
  | nil => rfl
  | cons v U ih => rw [X_cons, h v List.mem_cons_self, ih fun x hx => h x (List.mem_cons_of_mem _ hx)]; simp
/-- at one place alone -/
theorem X_one {U : List Int} (nd : U.Nodup) {k : Int} (hk : k ∈ U) {δ : Bool} {s : Int → Bool} (hs : s k = true) : X U (fun v => (decide (v = k) && δ)) s = δ := by
  induction U with
  | nil => cases hk
  | cons v U ih =>
    obtain ⟨h1, h2⟩ := List.nodup_cons.mp nd
    rw [X_cons]
    by_cases e : v = k
    · subst e
      rw [hs, X_congr (g := fun _ => false) (t := s) (fun x hx => by
        have : x ≠ v := fun q => h1 (q ▸ hx)
        simp [this]), X_congr (f := fun _ => false) (g := fun _ => true) (t := fun _ => false) (fun _ _ => rfl), X_nil fun _ _ => rfl]
      simp
    · rcases List.mem_cons.mp hk with q | q
      · exact absurd q.symm e
      · rw [ih h2 q]; simp [e]
/-- a row: its last variable, which variables, its parity -/
structure Row where
  k : Int
  s : Int → Bool
  p : Bool
def Sat (U : List Int) (f : Int → Bool) (r : Row) : Prop := X U f r.s = r.p
theorem solve {U : List Int} (nd : U.Nodup) (n : Nat) (hU : ∀ v ∈ U, 1 ≤ v ∧ v ≤ n) (rows : List Row) (hk : ∀ r ∈ rows, r.k ∈ U ∧ r.s r.k = true ∧ ∀ v, r.s v = true → v ≤ r.k) (hd : ∀ r ∈ rows, ∀ r' ∈ rows, r.k = r'.k → r = r') (g : Int → Bool) :
    ∃ f : Int → Bool, (∀ r ∈ rows, Sat U f r) ∧ ∀ v, (∀ r ∈ rows, r.k ≠ v) → f v = g v := by
  have key : ∀ m : Nat, ∃ f : Int → Bool, (∀ r ∈ rows, r.k ≤ m → Sat U f r) ∧ ∀ v, (∀ r ∈ rows, r.k ≠ v) → f v = g v := by
    intro m
    induction m with
    | zero => exact ⟨g, fun r hr h => by have := hU _ (hk r hr).1; omega, fun _ _ => rfl⟩
    | succ m ih =>
      obtain ⟨f, h1, h2⟩ := ih
      by_cases hr : ∃ r ∈ rows, r.k = ((m + 1 : Nat) : Int)
      · obtain ⟨r, hr, e⟩ := hr
        obtain ⟨δ, hδ⟩ : ∃ δ : Bool, δ = (X U f r.s ^^ r.p) := ⟨_, rfl⟩
        refine ⟨fun v => (f v ^^ (decide (v = r.k) && δ)), fun r' hr' hle => ?_, fun v hv => ?_⟩
        · unfold Sat
          rw [X_xorL]
          by_cases q : r'.k = r.k
          · have := hd r' hr' r hr q
            subst this
            rw [X_one nd (hk _ hr').1 (hk _ hr').2.1, hδ]
            cases X U f r'.s <;> cases r'.p <;> rfl
          · have hlt : r'.k ≤ m := by rw [e] at q; omega
            rw [X_congr (f := fun v => (decide (v = r.k) && δ)) (g := fun _ => true) (t := fun _ => false) (fun v _ => by
              by_cases z : v = r.k
              · have : r'.s v = false := by
                  cases w : r'.s v with
                  | false => rfl
                  | true => have := (hk r' hr').2.2 v w; omega
                simp [this]
              · simp [z]), X_nil fun _ _ => rfl, h1 r' hr' hlt]
            simp
        · have : v ≠ r.k := fun z => hv r hr z.symm
          simp [this, h2 v hv]
      · refine ⟨f, fun r hr' hle => h1 r hr' ?_, h2⟩
        have : r.k ≠ ((m + 1 : Nat) : Int) := fun z => hr ⟨r, hr', z⟩
        omega
  obtain ⟨f, h1, h2⟩ := key n
  exact ⟨f, fun r hr => h1 r hr (hU _ (hk r hr).1).2, h2⟩

/-! ascending lists -/
abbrev Asc (l : List Int) : Prop := l.Pairwise (· < ·)
theorem asc_ext : ∀ {a b : List Int}, Asc a → Asc b → (∀ x, x ∈ a ↔ x ∈ b) → a = b
  | [], [], _, _, _ => rfl
  | [], y :: b, _, _, h => absurd ((h y).mpr List.mem_cons_self) (by simp)
  | x :: a, [], _, _, h => absurd ((h x).mp List.mem_cons_self) (by simp)
  | x :: a, y :: b, ha, hb, h => by
    obtain ⟨a1, a2⟩ := List.pairwise_cons.mp ha
    obtain ⟨b1, b2⟩ := List.pairwise_cons.mp hb
    have e : x = y := by
      have hx := (h x).mp List.mem_cons_self
      have hy := (h y).mpr List.mem_cons_self
      rcases List.mem_cons.mp hx with q | q
      · exact q
      · rcases List.mem_cons.mp hy with r | r
        · exact r.symm
        · have := b1 x q
          have := a1 y r
          omega
    subst e
    rw [asc_ext a2 b2 fun z => ⟨fun hz => by
      have := a1 z hz
      rcases List.mem_cons.mp ((h z).mp (List.mem_cons_of_mem _ hz)) with q | q
      · omega
      · exact q, fun hz => by
      have := b1 z hz
      rcases List.mem_cons.mp ((h z).mpr (List.mem_cons_of_mem _ hz)) with q | q
      · omega
      · exact q⟩]
theorem Asc.nodup {l : List Int} (h : Asc l) : l.Nodup := h.imp fun h e => by omega
/-- 1 .. n -/
def rg (n : Nat) : List Int := (List.range n).map fun (k : Nat) => 1 + (k : Int)
theorem mem_rg {n : Nat} {v : Int} : v ∈ rg n ↔ 1 ≤ v ∧ v ≤ n := by
  unfold rg
  rw [List.mem_map]
  constructor
  · rintro ⟨k, hk, rfl⟩
    have := List.mem_range.mp hk
    omega
  · rintro ⟨h1, h2⟩
    exact ⟨(v - 1).toNat, List.mem_range.mpr (by omega), by omega⟩
theorem rg_asc (n : Nat) : Asc (rg n) := by
  unfold rg Asc
  rw [List.pairwise_map]
  exact List.pairwise_lt_range.imp fun h => by omega
/-- ascending, of 1 .. n -/
structure Vs (n : Nat) (l : List Int) : Prop where
  asc : Asc l
  sm : ∀ v ∈ l, 1 ≤ v ∧ v ≤ n
theorem Vs.eq {n : Nat} {l : List Int} (h : Vs n l) : l = (rg n).filter fun v => decide (v ∈ l) := by
  refine asc_ext h.asc ((rg_asc n).filter _) fun x => ?_
  rw [List.mem_filter, mem_rg]
  constructor
  · exact fun hx => ⟨h.sm x hx, by simpa using hx⟩
  · exact fun hx => by simpa using hx.2
abbrev Mem (l : List Int) (v : Int) : Bool := decide (v ∈ l)
theorem Vs.count {n : Nat} {l : List Int} (h : Vs n l) (f : Int → Bool) : (l.filter f).length % 2 = (X (rg n) f (Mem l)).toNat := by
  have := X_count (rg n) f (Mem l)
  rw [← h.eq] at this
  exact this
theorem Vs.len {n : Nat} {l : List Int} (h : Vs n l) : l.length ≤ n := by
  rw [h.eq]
  refine Nat.le_trans (List.length_filter_le _ _) ?_
  simp [rg]
/-- the last one -/
theorem asc_last {l : List Int} (h : Asc l) (hn : l ≠ []) : ∀ v ∈ l, v ≤ l.getLast hn := by
  intro v hv
  induction l with
  | nil => cases hv
  | cons x l ih =>
    obtain ⟨h1, h2⟩ := List.pairwise_cons.mp h
    by_cases e : l = []
    · subst e
      simp at hv ⊢
      omega
    · rw [List.getLast_cons e]
      rcases List.mem_cons.mp hv with q | q
      · have := h1 _ (List.getLast_mem e)
        omega
      · exact ih h2 e q
end Lin

set_option Elab.async false
set_option linter.all false
set_option maxRecDepth 100000
set_option maxHeartbeats 2000000
namespace DL
open PySem PySem.Spec L2
theorem cut1 (xs : List D) : cutD xs (some 1) none = xs.drop 1 := by
  unfold cutD
  rw [show HT.sIx xs.length xs.length none = xs.length from rfl, show HT.sIx xs.length 0 (some 1) = min 1 xs.length from HT.sIx_nat xs.length 0 1]
  rcases xs with _ | ⟨x, xs⟩
  · rfl
  · rw [show min 1 (x :: xs).length = 1 by simp]
    exact List.take_of_length_le (by simp)
theorem zip_map {α : Type} (e : α → D) : ∀ a b : List α, zipL (a.map e) (b.map e) = (a.zip b).map fun p => .tuple [e p.1, e p.2]
  | [], _ => by simp [zipL]
  | _ :: _, [] => by simp [zipL]
  | x :: a, y :: b => by
    rw [List.map_cons, List.map_cons, zipL, zip_map e a b]; rfl
theorem kb_tt : kitB "tuple" "tuple" = some true := by decide +kernel
@[simp] theorem ev_istt (a : List D) : isiD "tuple" (.tuple a) = .ok (.bool true) := isi_of kb_tt
theorem lt_tI (a b : List Int) : ltD (tI a) (tI b) = .ok (.bool (decide (a < b))) := by
  have h : cmpOk (tI a) (tI b) = true := by
    unfold cmpOk
    rw [show PySem.W.alike (tI a) (tI b) = PySem.W.alikeAll (iL a) (iL b) by simp [PySem.W.alike], alike_ints, show (tI a).depth = PyData.depthAll (iL a) + 1 by simp [PyData.depth], depth_ints, show nodc (tI a) = nodcAll (iL a) by simp [nodc], show nodc (tI b) = nodcAll (iL b) by simp [nodc], nodc_ints, nodc_ints]
    rfl
  unfold ltD
  rw [h, if_pos rfl, dataLt_tI]
theorem chain_all {α : Type} {R : α → α → Prop} {f : α → α → Bool} (hf : ∀ a b, R a b → f a b = true) {l : List α} (h : l.Pairwise R) : ((l.zip (l.drop 1)).all fun p => f p.1 p.2) = true := by
  induction l with
  | nil => rfl
  | cons x l ih =>
    obtain ⟨h1, h2⟩ := List.pairwise_cons.mp h
    cases l with
    | nil => rfl
    | cons y l =>
      have := ih h2
      simp at this ⊢
      exact ⟨hf x y (h1 y (by simp)), this⟩
end DL
namespace DL
open PySem PySem.Spec L2
def isTupB : D → Bool
  | .tuple _ => true
  | _ => false
def isIntB : D → Bool
  | .int _ => true
  | _ => false
def isBoolB : D → Bool
  | .bool _ => true
  | _ => false
def toI : D → Int
  | .int i => i
  | _ => 0
theorem kq1 : kitB "NoneType" "tuple" = some false := by decide +kernel
theorem kq2 : kitB "bool" "tuple" = some false := by decide +kernel
theorem kq3 : kitB "int" "tuple" = some false := by decide +kernel
theorem kq4 : kitB "str" "tuple" = some false := by decide +kernel
theorem kq5 : kitB "list" "tuple" = some false := by decide +kernel
theorem kq6 : kitB "dict" "tuple" = some false := by decide +kernel
theorem kr1 : kitB "NoneType" "int" = some false := by decide +kernel
theorem kr2 : kitB "bool" "int" = some true := by decide +kernel
theorem kr4 : kitB "str" "int" = some false := by decide +kernel
theorem kr5 : kitB "list" "int" = some false := by decide +kernel
theorem kr6 : kitB "dict" "int" = some false := by decide +kernel
theorem kr7 : kitB "tuple" "int" = some false := by decide +kernel
theorem isi_tup (d : D) (np : isPool d = false := by first | rfl | assumption) : isiD "tuple" d = .ok (.bool (isTupB d)) := by
  cases d with
  | none => exact isi_of kq1
  | bool _ => exact isi_of kq2
  | int _ => exact isi_of kq3
  | str _ => exact isi_of kq4
  | list _ => exact isi_of kq5
  | dict _ => exact isi_of kq6 np
  | tuple _ => exact isi_of kb_tt
theorem isi_int (d : D) (np : isPool d = false := by first | rfl | assumption) : isiD "int" d = .ok (.bool (isIntB d || isBoolB d)) := by
  cases d with
  | none => exact isi_of kr1
  | bool _ => exact isi_of kr2
  | int _ => exact isi_of kb_ii
  | str _ => exact isi_of kr4
  | list _ => exact isi_of kr5
  | dict _ => exact isi_of kr6 np
  | tuple _ => exact isi_of kr7
theorem ints_of {ds : List D} (h : ds.all isIntB = true) : ds = iL (ds.map toI) := by
  induction ds with
  | nil => rfl
  | cons d ds ih =>
    rw [List.all_cons, Bool.and_eq_true] at h
    cases d with
    | int i => exact congrArg (PyData.int i :: ·) (ih h.2)
    | _ => cases h.1
/-- ascending, pair by pair, is ascending -/
theorem chain_iff {α : Type} {R : α → α → Prop} {f : α → α → Bool} (tr : ∀ a b c, R a b → R b c → R a c) (hf : ∀ a b, f a b = true ↔ R a b) : ∀ l : List α, ((l.zip (l.drop 1)).all fun p => f p.1 p.2) = true ↔ l.Pairwise R
  | [] => ⟨fun _ => .nil, fun _ => rfl⟩
  | [x] => ⟨fun _ => List.pairwise_singleton _ _, fun _ => rfl⟩
  | x :: y :: l => by
    have ih := chain_iff tr hf (y :: l)
    rw [show ((x :: y :: l).zip ((x :: y :: l).drop 1)) = (x, y) :: ((y :: l).zip ((y :: l).drop 1)) from rfl, List.all_cons, Bool.and_eq_true, ih, hf]
    refine ⟨fun ⟨h1, h2⟩ => List.pairwise_cons.mpr ⟨fun z hz => ?_, h2⟩, fun h => ⟨(List.pairwise_cons.mp h).1 y List.mem_cons_self, (List.pairwise_cons.mp h).2⟩⟩
    rcases List.mem_cons.mp hz with rfl | hz
    · exact h1
    · exact tr _ _ _ h1 ((List.pairwise_cons.mp h2).1 z hz)
def ascI (l : List Int) : Bool := (l.zip (l.drop 1)).all fun p => decide (p.1 < p.2)
theorem ascI_eq (l : List Int) : ascI l = decide (l = sortUI l) := by
  have h : ascI l = true ↔ l.Pairwise (· < ·) := chain_iff (R := fun a b : Int => a < b) (f := fun a b => decide (a < b)) (fun _ _ _ => Int.lt_trans) (fun a b => decide_eq_true_iff) l
  rw [Bool.eq_iff_iff, h, decide_eq_true_eq]
  refine ⟨fun p => sortUI_of p fun _ => Iff.rfl, fun e => ?_⟩
  rw [e]
  exact sortUI_lt l
end DL
namespace Law
open PySem PySem.Spec L2 DL Lin
/-! sorted tuples -/
theorem sT_perm (c : List (List Int)) : (sT c).Perm c := List.mergeSort_perm _ _
theorem sT_mem {c : List (List Int)} {x : List Int} : x ∈ sT c ↔ x ∈ c := (sT_perm c).mem_iff
theorem sT_le (c : List (List Int)) : (sT c).Pairwise (· ≤ ·) := by
  have tr : ∀ x y z : List Int, decide (x ≤ y) = true → decide (y ≤ z) = true → decide (x ≤ z) = true := fun x y z h1 h2 => decide_eq_true (List.le_trans (of_decide_eq_true h1) (of_decide_eq_true h2))
  have tt : ∀ x y : List Int, (decide (x ≤ y) || decide (y ≤ x)) = true := fun x y => by
    rcases List.le_total x y with q | q
    · simp [q]
    · simp [q]
  exact (List.pairwise_mergeSort tr tt c).imp fun h => of_decide_eq_true h
theorem lt_of_le_ne {a b : List Int} (h : a ≤ b) (hn : a ≠ b) : a < b := by
  rcases Classical.em (a < b) with q | q
  · exact q
  · exact absurd (List.le_antisymm h (List.not_lt.mp q)) hn
theorem sT_lt {c : List (List Int)} (h : c.Nodup) : (sT c).Pairwise (· < ·) := by
  have h1 := sT_le c
  have h2 := (sT_perm c).nodup_iff.mpr h
  exact (h1.and h2).imp fun ⟨a, b⟩ => lt_of_le_ne a b
theorem sT_eq {a b : List (List Int)} (h : a.Perm b) : sT a = sT b := sortT_perm h
theorem sT_len (c : List (List Int)) : (sT c).length = c.length := List.length_mergeSort c
theorem nodup_lt {c : List (List Int)} (h : c.Pairwise (· < ·)) : c.Nodup := h.imp fun {a b} h e => by subst e; exact List.lt_irrefl _ h
/-- ascending, the same members -/
theorem ltT_ext {a b : List (List Int)} (ha : a.Pairwise (· < ·)) (hb : b.Pairwise (· < ·)) (h : ∀ x, x ∈ a ↔ x ∈ b) : a = b :=
  List.Perm.eq_of_pairwise (fun x y _ _ h1 h2 => absurd (List.lt_trans h1 h2) (List.lt_irrefl _)) ha hb ((List.perm_ext_iff_of_nodup (nodup_lt ha) (nodup_lt hb)).mpr h)
theorem sortA_keys (cs : List (List Int)) (vs : List D) (h : ∀ c ∈ cs, c.length ≤ 1000) (hl : cs.length ≤ 1000) : sorted3 [dcD true (cs.map tI) vs] = .ok ((sT cs).map tI) := by
  have hz := h1000
  show (if (sortOk (cs.map tI) && (cs.map tI).all (fun k => match k with | .tuple xs => decide (xs.length ≤ sizeLine) | _ => true) && decide ((cs.map tI).length ≤ sizeLine)) = true then Res.ok (sortL (cs.map tI)) else .bot) = _
  rw [if_pos, sortL_tups]
  rw [Bool.and_eq_true, Bool.and_eq_true]
  refine ⟨⟨sortOk_tups cs, List.all_eq_true.mpr fun k hk => ?_⟩, decide_eq_true (by rw [List.length_map]; omega)⟩
  obtain ⟨c, hc, rfl⟩ := List.mem_map.mp hk
  exact decide_eq_true (by rw [List.length_map]; have := h c hc; omega)
/-- keys put: once each -/
def putK (cs : List (List Int)) (c : List Int) : List (List Int) := if c ∈ cs then cs else cs ++ [c]
theorem putK_mem {cs : List (List Int)} {c x : List Int} : x ∈ putK cs c ↔ x ∈ cs ∨ x = c := by
  unfold putK
  by_cases h : c ∈ cs
  · rw [if_pos h]
    exact ⟨.inl, fun z => z.elim _root_.id fun e => e ▸ h⟩
  · rw [if_neg h, List.mem_append, List.mem_singleton]
theorem putK_nodup {cs : List (List Int)} {c : List Int} (h : cs.Nodup) : (putK cs c).Nodup := by
  unfold putK
  by_cases q : c ∈ cs
  · rw [if_pos q]; exact h
  · rw [if_neg q, List.nodup_append]
    exact ⟨h, by simp, fun a ha b hb e => q (by rw [List.mem_singleton] at hb; rw [← hb, ← e]; exact ha)⟩
theorem putK_len {cs : List (List Int)} {c : List Int} : (putK cs c).length ≤ cs.length + 1 := by
  unfold putK
  split
  · omega
  · simp
theorem putKs_tI (cs : List (List Int)) (c : List Int) : putKs (cs.map tI) (tI c) = (putK cs c).map tI := by
  unfold putKs putK
  rw [hasK_keys kg_tI]
  by_cases h : c ∈ cs
  · simp [h]
  · simp [h]
/-- d[c] = v at a slot of one's own, keys alone -/
theorem putT_ok {i : Nat} {S : List Nat} {fv fk : DSt → Res D} {δ : DSt} {cs : List (List Int)} {vs : List D} {c : List Int} {v : D} (hd : δ[i]? = some (some (.ownd true (cs.map tI) vs))) (hv : fv δ = .ok v) (hf : flat v = true) (hk : fk δ = .ok (tI c)) (hl : cs.length < sizeLine) :
    putF i S fv fk δ = .ok (.nx (δ.set i (some (.ownd true ((putK cs c).map tI) (putVs (cs.map tI) vs (tI c) v))))) := by
  unfold DL.putF
  simp only [hd, hv, ev_ok, hf, if_true, hk]
  rw [kg_tI.ok, putKs_tI]
  rw [show (true && decide ((cs.map tI).length < sizeLine)) = true by simpa using hl, if_pos rfl]
def ascT (l : List (List Int)) : Bool := (l.zip (l.drop 1)).all fun p => decide (p.1 < p.2)
theorem ascT_eq (l : List (List Int)) : ascT l = decide (l = sortU l) := by
  have h : ascT l = true ↔ l.Pairwise (· < ·) := chain_iff (R := fun a b : List Int => a < b) (f := fun a b : List Int => decide (a < b)) (fun _ _ _ => List.lt_trans) (fun a b => decide_eq_true_iff) l
  have hp : (sortU l).Pairwise (· < ·) := sT_lt (ddup_nodup l)
  have hm : ∀ x, x ∈ sortU l ↔ x ∈ l := fun x => by
    unfold sortU
    rw [(List.mergeSort_perm (ddup l) _).mem_iff, ddup_mem]
  rw [Bool.eq_iff_iff, h, decide_eq_true_eq]
  refine ⟨fun p => ltT_ext p hp fun x => (hm x).symm, fun e => ?_⟩
  rw [e]
  exact hp
theorem tOr_t {f g : DSt → Res Bool} {δ : DSt} (h : f δ = .ok true) : tOr' f g δ = .ok true := by
  show (f δ >>= fun x => if x then Res.ok true else g δ) = _
  rw [h]; rfl
theorem tOr_f {f g : DSt → Res Bool} {δ : DSt} {r : Res Bool} (h : f δ = .ok false) (h2 : g δ = r) : tOr' f g δ = r := by
  show (f δ >>= fun x => if x then Res.ok true else g δ) = _
  rw [h]; exact h2
theorem if_ret {c : DSt → Res Bool} {b : Bool} {k : DSt → Res Out} {δ : DSt} (h : c δ = .ok true) : seqF (ifS c (sRt (cB b)) sNil) k δ = .ok (.rt (.bool b)) := by
  rw [sq, ev_ifS, h, ifK_t]; rfl
theorem if_go {c : DSt → Res Bool} {f k : DSt → Res Out} {δ : DSt} {r : Res Out} (h : c δ = .ok false) (h2 : k δ = r) : seqF (ifS c f sNil) k δ = r := by
  rw [sq, ev_ifS, h, ifK_f]; exact h2
def NiceC (v : D) : Prop := ∀ ds, v = .tuple ds → ds.length < 64
theorem ix_ex {L : List D} {k : Int} (h0 : 0 ≤ k) (h1 : k < L.length) : ∃ x ∈ L, ixD (.list L) (.int k) = .ok x := by
  have hk : k.toNat < L.length := by omega
  refine ⟨L[k.toNat], List.getElem_mem hk, ?_⟩
  have := ix_L (ds := L) (k := k.toNat) (d := L[k.toNat]) (List.getElem?_eq_getElem hk)
  rwa [show ((k.toNat : Nat) : Int) = k by omega] at this
theorem nc_tI {c : List Int} (h : c.length < 64) : NiceC (tI c) := by
  intro ds e
  cases e
  rw [List.length_map]
  exact h
theorem small_L (L : List D) (h : L.length ≤ 100) : lstD L = .ok L := by
  have := h1000
  exact lstD_ok (by omega)
theorem small_T (L : List D) (h : L.length ≤ 100) : tupD L = .ok (.tuple L) := by
  have := h1000
  exact if_pos (by omega)
theorem pickB {fl fk : DSt → Res D} {L : List D} {k : Int} {δ : DSt} (hl : fl δ = .ok (.list L)) (hk : fk δ = .ok (.int k)) (h0 : 0 ≤ k) (h1 : k < L.length) : ∃ x ∈ L, b2 ixD fl fk δ = .ok x := by
  obtain ⟨x, hx, e⟩ := ix_ex h0 h1
  exact ⟨x, hx, by rw [ev_b2, hl, ok_bind, hk, ok_bind, e]⟩
theorem cut_tI (cs : List (List Int)) (lo hi) : ∃ ys : List (List Int), cutD (cs.map tI) lo hi = ys.map tI ∧ ys.length ≤ cs.length ∧ ∀ y ∈ ys, y ∈ cs := by
  refine ⟨(cs.drop (HT.sIx (cs.map tI).length 0 lo)).take (HT.sIx (cs.map tI).length (cs.map tI).length hi - HT.sIx (cs.map tI).length 0 lo), ?_, ?_, fun y hy => List.mem_of_mem_drop (List.mem_of_mem_take hy)⟩
  · unfold cutD
    simp only [List.map_take, List.map_drop]
  · simp
    omega
end Law

set_option Elab.async false
set_option linter.all false
set_option maxRecDepth 100000
set_option maxHeartbeats 1000000
namespace Law
open PySem PySem.Spec L2 DL Lin
/-! ### a loop, step by step -/
theorem go_step {p : Pat} {body : DSt → Res Out} {x : D} {r : List D} {δ : DSt} : forGo p body (x :: r) δ = ((nE (bindP p x δ) >>= body) >>= fun o => match o with
    | .nx δ2 => forGo p body r δ2
    | .ct δ2 => forGo p body r δ2
    | .bk δ2 => .ok (.nx δ2)
    | .rt d => .ok (.rt d)) := by
  rw [forGo]
  exact (Res.bind_assoc _ _ _).symm
theorem go_nx {p : Pat} {body : DSt → Res Out} {x : D} {r : List D} {δ δ2 : DSt} (h : (nE (bindP p x δ) >>= body) = .ok (.nx δ2)) : forGo p body (x :: r) δ = forGo p body r δ2 := by
  rw [go_step, h]; rfl
theorem go_bk {p : Pat} {body : DSt → Res Out} {x : D} {r : List D} {δ δ2 : DSt} (h : (nE (bindP p x δ) >>= body) = .ok (.bk δ2)) : forGo p body (x :: r) δ = .ok (.nx δ2) := by
  rw [go_step, h]; rfl
theorem go_rt {p : Pat} {body : DSt → Res Out} {x : D} {r : List D} {δ : DSt} {d : D} (h : (nE (bindP p x δ) >>= body) = .ok (.rt d)) : forGo p body (x :: r) δ = .ok (.rt d) := by
  rw [go_step, h]; rfl
/-- the first item at which a loop returns -/
theorem go_find {α : Type} (enc : α → D) {p : Pat} {body : DSt → Res Out} {δ : DSt} (t : α → Bool) (out : α → D) : ∀ l : List α, (∀ a ∈ l, (nE (bindP p (enc a) δ) >>= body) = .ok (if t a = true then .rt (out a) else .nx δ)) →
    forGo p body (l.map enc) δ = .ok (match l.find? t with | some a => .rt (out a) | none => .nx δ)
  | [], _ => rfl
  | a :: l, h => by
    have ha := h a List.mem_cons_self
    have ih := go_find enc t out l fun b hb => h b (List.mem_cons_of_mem _ hb)
    cases ht : t a with
    | true =>
      rw [ht, if_pos rfl] at ha
      rw [List.map_cons, go_rt ha, List.find?_cons, ht]
    | false =>
      rw [ht, if_neg (by decide)] at ha
      rw [List.map_cons, go_nx ha, ih, List.find?_cons, ht]
end Law

set_option Elab.async false
set_option linter.all false
set_option maxRecDepth 100000
set_option maxHeartbeats 1000000
namespace Law
open PySem PySem.Spec L2 DL
/-! ### exceptions, plain -/
theorem go_er {p : Pat} {body : DSt → Res Out} {x : D} {r : List D} {δ : DSt} {y : Exn} (h : (nE (bindP p x δ) >>= body) = .err y) : forGo p body (x :: r) δ = .err y := by
  unfold forGo
  cases hb : nE (bindP p x δ) with
  | bot => rw [hb] at h; cases h
  | pick _ _ => rw [hb] at h; cases h
  | err z => rw [hb] at h; exact h
  | ok δ1 =>
    rw [hb] at h
    have h : body δ1 = .err y := h
    show (body δ1 >>= _) = _
    rw [h]; rfl
@[simp] theorem seqK_err (x : Exn) (g) : seqK (.err x) g = .err x := rfl
theorem fnx_rt {n : Nat} {b : DSt → Res Out} {ds : List D} {d : D} (h : b (startD n ds) = .ok (.rt d)) : fnX n b ds = .ok d := by
  unfold fnX; rw [h]; rfl
theorem fnx_er {n : Nat} {b : DSt → Res Out} {ds : List D} {x : Exn} (h : b (startD n ds) = .err x) : fnX n b ds = .err x := by
  unfold fnX; rw [h]; rfl
theorem fnx_nx {n : Nat} {b : DSt → Res Out} {ds : List D} {δ : DSt} (h : b (startD n ds) = .ok (.nx δ)) : fnX n b ds = .ok .none := by
  unfold fnX; rw [h]; rfl
theorem try_ok {sub : Str → Option Bool} {f h : DSt → Res Out} {δ δ' : DSt} {o : Out} (hz : frzAll δ = δ') (hf : f δ' = .ok o) : tryF sub f h δ = .ok o := by
  unfold tryF; rw [hz, hf]; rfl
theorem try_er {sub : Str → Option Bool} {f h : DSt → Res Out} {δ δ' : DSt} {x : Exn} (hz : frzAll δ = δ') (hf : f δ' = .err x) (hs : sub x.cls = some true) : tryF sub f h δ = h δ' := by
  unfold tryF; rw [hz, hf]
  show (match sub x.cls with | some true => h δ' | some false => .err x | none => .bot) = _
  rw [hs]
theorem err_bind' {α β : Type} (x : Exn) (f : α → Res β) : ((Res.err x : Res α) >>= f) = .err x := rfl
end Law

set_option Elab.async false
set_option linter.all false
set_option maxRecDepth 100000
set_option maxHeartbeats 1000000
namespace Law
open PySem PySem.Spec L2 DL
/-! ### statements, the quick way -/
theorem asgF_v {S : List Nat} {f : DSt → Res D} {p : Pat} {d : D} {δ δ3 : DSt} (hf : f δ = .ok d) (hz : freeze S 0 δ = δ) (hb : nE (bindP p d δ) = .ok δ3) : asgF S f p δ = .ok (.nx δ3) := by
  unfold asgF
  rw [hf, ok_bind, hz]
  have : (if flat d = true then δ else δ) = δ := by split <;> rfl
  rw [this, hb]; rfl
theorem asgLV_v {S : List Nat} {f : DSt → Res (List D)} {i : Nat} {xs : List D} {δ : DSt} (hf : f δ = .ok xs) (hz : freeze S 0 δ = δ) : asgLV S f i δ = .ok (.nx (δ.set i (some (.val (.list xs))))) := by
  unfold asgLV
  rw [hf, ok_bind, hz]
  have : (if flatAll xs = true then δ else δ) = δ := by split <;> rfl
  rw [this]
theorem sq_nx {f g : DSt → Res Out} {δ δ' : DSt} (h : f δ = .ok (.nx δ')) : seqF f g δ = g δ' := by
  unfold seqF; rw [h]; rfl
theorem sq_rt {f g : DSt → Res Out} {δ : DSt} {d : D} (h : f δ = .ok (.rt d)) : seqF f g δ = .ok (.rt d) := by
  unfold seqF; rw [h]; rfl
theorem if_t {c : DSt → Res Bool} {f g : DSt → Res Out} {δ : DSt} (h : c δ = .ok true) : ifS c f g δ = f δ := by
  show (c δ >>= fun x => if x then f δ else g δ) = _
  rw [h]; rfl
theorem if_f {c : DSt → Res Bool} {f g : DSt → Res Out} {δ : DSt} (h : c δ = .ok false) : ifS c f g δ = g δ := by
  show (c δ >>= fun x => if x then f δ else g δ) = _
  rw [h]; rfl
theorem tryA_ok {sub : Str → Option Bool} {i : Nat} {f : DSt → Res Out} {h : Exn → DSt → Res Out} {δ δ' : DSt} {o : Out} (hz : frzAll δ = δ') (hf : f δ' = .ok o) : tryA sub i f h δ = .ok o := by
  unfold tryA; rw [hz, hf]; rfl
theorem tryA_er {sub : Str → Option Bool} {i : Nat} {f : DSt → Res Out} {h : Exn → DSt → Res Out} {δ δ' : DSt} {x : Exn} {d : D} (hz : frzAll δ = δ') (hf : f δ' = .err x) (hs : sub x.cls = some true) (hi : i < δ.length) (hh : h x (δ'.set i none) = .ok (.rt d)) : tryA sub i f h δ = .ok (.rt d) := by
  unfold tryA; rw [hz, hf]
  show (match sub x.cls with | some true => if i < δ.length then (nE (h x (δ'.set i none)) >>= tryAK i) else .bot | some false => .err x | none => .bot) = _
  rw [hs]
  show (if i < δ.length then (nE (h x (δ'.set i none)) >>= tryAK i) else .bot) = _
  rw [if_pos hi, hh]; rfl
end Law

set_option Elab.async false
set_option linter.all false
set_option maxRecDepth 100000
set_option maxHeartbeats 1000000
namespace Law
open PySem PySem.Spec L2 DL Lin
theorem cell_ok (ns : List Int) (k : Nat) : ∃ i : Int, g_law_cell [.list (ns.map PyData.int), .int k] = .ok (.int i) := by
  by_cases h : k < ns.length
  · have e : ixD (.list (ns.map PyData.int)) (.int k) = .ok (.int ns[k]) := ix_L (by simp [h])
    exact ⟨ns[k], fn_rt (by simp [b_law_cell, startD, sq, h, e])⟩
  · exact ⟨0, fn_rt (by simp [b_law_cell, startD, sq, h])⟩
theorem tail_B : (seqF (newD 4 true)
  (seqF (forRC [0, 1, 5, 6, 7, 8, 9, 10, 11] (u1L rng1D (aCons (vr 2) (aNil))) (.nm 5) (lp_law_3))
  (kx_law_1))) = tl12 sortSetWB sorted3C := by
  rw [← sortSetW_B, ← sorted3_C]
  kernel_rfl
abbrev s12 (SC : D) (g : Int) (p h : Option SV) : DSt := [some (.val SC), some (.val (.int g)), p, h, none, none, none, none, none, none, none, none, none, none]
theorem law_math (ns : List Int) (hns : ns.length ≤ 63) : g_law [.list (ns.map PyData.int)] = .ok (.bool true) := by
  obtain ⟨c, hc⟩ := cell_ok ns 0
  have hc : g_law_cell [.list (ns.map PyData.int), .int 0] = .ok (.int c) := hc
  refine fn_rt ?_
  have e0 : startD 14 [PyData.list (ns.map PyData.int)] = [some (.val (.list (ns.map PyData.int))), none, none, none, none, none, none, none, none, none, none, none, none, none] := rfl
  rw [e0]
  generalize PyData.list (ns.map PyData.int) = SC at hc ⊢
  have ha : absD [.int c] = .ok (.int (c.natAbs : Int)) := ev_abs c
  have hp : (0 : Int) ≤ (c.natAbs : Int) := by omega
  generalize (c.natAbs : Int) = g at ha hp
  unfold b_law
  rw [sq_nx (δ' := s12 SC g none none) (asgF_v (d := .int g) (by simp [hc, ha]) rfl rfl)]
  rw [sq_nx (δ' := s12 SC g (some (.val (.int (g % 10 - 1)))) none) (asgF_v (d := .int (g % 10 - 1)) (by simp) rfl rfl)]
  rw [sq_nx (δ' := s12 SC g (some (.val (.int (g % 10 - 1)))) (some (.val (.int (g / 16 % 10 - 1))))) (asgF_v (d := .int (g / 16 % 10 - 1)) (by simp) rfl rfl)]
  rw [tail_B]
  by_cases h3 : g / 256 % 3 = 0
  · rw [sq_nx (δ' := s12 SC g (some (.val (.int (1 + g % 3)))) (some (.val (.int (1 + g / 16 % 2))))) (by
      rw [if_t (by simp [h3])]
      rw [sq_nx (δ' := s12 SC g (some (.val (.int (1 + g % 3)))) (some (.val (.int (g / 16 % 10 - 1))))) (asgF_v (d := .int (1 + g % 3)) (by simp) rfl rfl)]
      exact asgF_v (d := .int (1 + g / 16 % 2)) (by simp) rfl rfl)]
    have h := c12_all (some (.val SC)) (some (.val (.int g))) (g % 3 + 2).toNat (g / 16 % 2 + 2).toNat (by omega) (by omega)
    rw [show Int.ofNat (g % 3 + 2).toNat - 1 = 1 + g % 3 by have : Int.ofNat (g % 3 + 2).toNat = g % 3 + 2 := Int.toNat_of_nonneg (by omega); omega, show Int.ofNat (g / 16 % 2 + 2).toNat - 1 = 1 + g / 16 % 2 by have : Int.ofNat (g / 16 % 2 + 2).toNat = g / 16 % 2 + 2 := Int.toNat_of_nonneg (by omega); omega] at h
    exact h
  · rw [sq_nx (δ' := s12 SC g (some (.val (.int (g % 10 - 1)))) (some (.val (.int (g / 16 % 10 - 1))))) (if_f (by simp [h3]))]
    have h := c12_all (some (.val SC)) (some (.val (.int g))) (g % 10).toNat (g / 16 % 10).toNat (by omega) (by omega)
    rw [show Int.ofNat (g % 10).toNat = g % 10 from Int.toNat_of_nonneg (by omega), show Int.ofNat (g / 16 % 10).toNat = g / 16 % 10 from Int.toNat_of_nonneg (by omega)] at h
    exact h
end Law

set_option maxRecDepth 100000
set_option maxHeartbeats 4000000
namespace Law
open PySem PySem.Spec L2 DL
open PyProof.Rows hiding St
theorem all_mk {l : PySem.W.OpenLaw} {w : World} {K : PySem.W.Frag} {h : Heap} {mg : Str → Option Value} {fa : Addr} (X : K.In h) (G : h.Ns mainGlobals mg) (hfa : mg "law" = some (.ref fa))
    {f0 : Addr} {od0 an0 : Option Addr} {sl0 : Array (Option Value)} {oc0 kV0 dc0 pm0 cd0 ct0 : Value}
    (a0 : PySem.W.nsIn K mainGlobals "_law_cell" = some (some (.ref f0))) (l0 : K.lookup f0 = some ⟨oc0, od0, .func (PySem.W.fnOf "_law_cell" "_law_cell" (defArgs s_law_cell) (defBody s_law_cell) (defScope s_law_cell) .none kV0 dc0 pm0 an0 cd0 ct0), sl0⟩) (c0 : PySem.W.codeIn K cd0 "_law_cell" = true) (k0 : PySem.W.keepIn K (.ref f0) = true)
    {f1 : Addr} {od1 an1 : Option Addr} {sl1 : Array (Option Value)} {oc1 kV1 dc1 pm1 cd1 ct1 : Value}
    (a1 : PySem.W.nsIn K mainGlobals "check_least" = some (some (.ref f1))) (l1 : K.lookup f1 = some ⟨oc1, od1, .func (PySem.W.fnOf "check_least" "check_least" (defArgs s_check_least) (defBody s_check_least) (defScope s_check_least) .none kV1 dc1 pm1 an1 cd1 ct1), sl1⟩) (c1 : PySem.W.codeIn K cd1 "check_least" = true) (k1 : PySem.W.keepIn K (.ref f1) = true)
    {f2 : Addr} {od2 an2 : Option Addr} {sl2 : Array (Option Value)} {oc2 kV2 dc2 pm2 cd2 ct2 : Value}
    (a2 : PySem.W.nsIn K mainGlobals "check_count" = some (some (.ref f2))) (l2 : K.lookup f2 = some ⟨oc2, od2, .func (PySem.W.fnOf "check_count" "check_count" (defArgs s_check_count) (defBody s_check_count) (defScope s_check_count) .none kV2 dc2 pm2 an2 cd2 ct2), sl2⟩) (c2 : PySem.W.codeIn K cd2 "check_count" = true) (k2 : PySem.W.keepIn K (.ref f2) = true)
    {f3 : Addr} {od3 an3 : Option Addr} {sl3 : Array (Option Value)} {oc3 kV3 dc3 pm3 cd3 ct3 : Value}
    (a3 : PySem.W.nsIn K mainGlobals "made_clause" = some (some (.ref f3))) (l3 : K.lookup f3 = some ⟨oc3, od3, .func (PySem.W.fnOf "made_clause" "made_clause" (defArgs s_made_clause) (defBody s_made_clause) (defScope s_made_clause) .none kV3 dc3 pm3 an3 cd3 ct3), sl3⟩) (c3 : PySem.W.codeIn K cd3 "made_clause" = true) (k3 : PySem.W.keepIn K (.ref f3) = true)
    {f4 : Addr} {od4 an4 : Option Addr} {sl4 : Array (Option Value)} {oc4 kV4 dc4 pm4 cd4 ct4 : Value}
    (a4 : PySem.W.nsIn K mainGlobals "made_formula" = some (some (.ref f4))) (l4 : K.lookup f4 = some ⟨oc4, od4, .func (PySem.W.fnOf "made_formula" "made_formula" (defArgs s_made_formula) (defBody s_made_formula) (defScope s_made_formula) .none kV4 dc4 pm4 an4 cd4 ct4), sl4⟩) (c4 : PySem.W.codeIn K cd4 "made_formula" = true) (k4 : PySem.W.keepIn K (.ref f4) = true)
    {f5 : Addr} {od5 an5 : Option Addr} {sl5 : Array (Option Value)} {oc5 kV5 dc5 pm5 cd5 ct5 : Value}
    (a5 : PySem.W.nsIn K mainGlobals "pigeon_formula" = some (some (.ref f5))) (l5 : K.lookup f5 = some ⟨oc5, od5, .func (PySem.W.fnOf "pigeon_formula" "pigeon_formula" (defArgs s_pigeon_formula) (defBody s_pigeon_formula) (defScope s_pigeon_formula) .none kV5 dc5 pm5 an5 cd5 ct5), sl5⟩) (c5 : PySem.W.codeIn K cd5 "pigeon_formula" = true) (k5 : PySem.W.keepIn K (.ref f5) = true)
    {f6 : Addr} {od6 an6 : Option Addr} {sl6 : Array (Option Value)} {oc6 kV6 dc6 pm6 cd6 ct6 : Value}
    (a6 : PySem.W.nsIn K mainGlobals "_law_cubes" = some (some (.ref f6))) (l6 : K.lookup f6 = some ⟨oc6, od6, .func (PySem.W.fnOf "_law_cubes" "_law_cubes" (defArgs s_law_cubes) (defBody s_law_cubes) (defScope s_law_cubes) .none kV6 dc6 pm6 an6 cd6 ct6), sl6⟩) (c6 : PySem.W.codeIn K cd6 "_law_cubes" = true) (k6 : PySem.W.keepIn K (.ref f6) = true)
    {f7 : Addr} {od7 an7 : Option Addr} {sl7 : Array (Option Value)} {oc7 kV7 dc7 pm7 cd7 ct7 : Value}
    (a7 : PySem.W.nsIn K mainGlobals "_law_true" = some (some (.ref f7))) (l7 : K.lookup f7 = some ⟨oc7, od7, .func (PySem.W.fnOf "_law_true" "_law_true" (defArgs s_law_true) (defBody s_law_true) (defScope s_law_true) .none kV7 dc7 pm7 an7 cd7 ct7), sl7⟩) (c7 : PySem.W.codeIn K cd7 "_law_true" = true) (k7 : PySem.W.keepIn K (.ref f7) = true)
    {f8 : Addr} {od8 an8 : Option Addr} {sl8 : Array (Option Value)} {oc8 kV8 dc8 pm8 cd8 ct8 : Value}
    (a8 : PySem.W.nsIn K mainGlobals "_law_models" = some (some (.ref f8))) (l8 : K.lookup f8 = some ⟨oc8, od8, .func (PySem.W.fnOf "_law_models" "_law_models" (defArgs s_law_models) (defBody s_law_models) (defScope s_law_models) .none kV8 dc8 pm8 an8 cd8 ct8), sl8⟩) (c8 : PySem.W.codeIn K cd8 "_law_models" = true) (k8 : PySem.W.keepIn K (.ref f8) = true)
    {f9 : Addr} {od9 an9 : Option Addr} {sl9 : Array (Option Value)} {oc9 kV9 dc9 pm9 cd9 ct9 : Value}
    (a9 : PySem.W.nsIn K mainGlobals "law" = some (some (.ref f9))) (l9 : K.lookup f9 = some ⟨oc9, od9, .func (PySem.W.fnOf "law" "law" (defArgs s_law) (defBody s_law) (defScope s_law) .none kV9 dc9 pm9 an9 cd9 ct9), sl9⟩) (c9 : PySem.W.codeIn K cd9 "law" = true) (k9 : PySem.W.keepIn K (.ref f9) = true)
    (z0 : PySem.W.nsIn K mainGlobals "abs" = some none)
    (z1 : PySem.W.nsIn K mainGlobals "all" = some none)
    (z2 : PySem.W.nsIn K mainGlobals "int" = some none)
    (z3 : PySem.W.nsIn K mainGlobals "isinstance" = some none)
    (z4 : PySem.W.nsIn K mainGlobals "len" = some none)
    (z5 : PySem.W.nsIn K mainGlobals "range" = some none)
    (z6 : PySem.W.nsIn K mainGlobals "set" = some none)
    (z7 : PySem.W.nsIn K mainGlobals "sorted" = some none)
    (z8 : PySem.W.nsIn K mainGlobals "tuple" = some none)
    {tk0 : Tok} (q0 : PySem.W.nsIn K mainGlobals "MOST_VARIABLES" = some (some (.int (40) tk0)))
    {CBadFormula : Addr} (x1BadFormula : PySem.W.nsIn K mainGlobals "BadFormula" = some (some (.ref CBadFormula))) (x2BadFormula : PySem.W.subIn K (.ref CBadFormula) (.type "BaseException") = some true) (x3BadFormula : PySem.W.typeIn K (.ref CBadFormula) = some (.type "type")) (x4BadFormula : PySem.W.keepIn K (.ref CBadFormula) = true) (x5BadFormula : PySem.W.isClsIn K CBadFormula = true)
    (x6BadFormula : PySem.W.excIn K CBadFormula [.type "ValueError", .type "Exception", .type "BaseException", .type "object"] "ValueError.__new__" = true)
    {CRebutError : Addr} (x1RebutError : PySem.W.nsIn K mainGlobals "RebutError" = some (some (.ref CRebutError))) (x2RebutError : PySem.W.subIn K (.ref CRebutError) (.type "BaseException") = some true) (x3RebutError : PySem.W.typeIn K (.ref CRebutError) = some (.type "type")) (x4RebutError : PySem.W.keepIn K (.ref CRebutError) = true) (x5RebutError : PySem.W.isClsIn K CRebutError = true)
    (mBadFormula_RebutError : PySem.W.subIn K (.ref CBadFormula) (.ref CRebutError) = some true)
    : ∃ fd : FuncData, (∀ (s : Shared) (v : Value), BindsTo s fd ⟨[v], []⟩ [("_law_script", v)]) ∧ ∀ base : Heap, K.In base → base.Ns mainGlobals mg → FnOk l.prog w K mg base CX0 4 fa fd ["_law_script"] (spLaw K) := by
  have T : Txt K mg := ⟨⟨PySem.W.mg_none_of X G z0, PySem.W.mg_none_of X G z1, PySem.W.mg_none_of X G z2, PySem.W.mg_none_of X G z3, PySem.W.mg_none_of X G z4, PySem.W.mg_none_of X G z5, PySem.W.mg_none_of X G z6, PySem.W.mg_none_of X G z7, PySem.W.mg_none_of X G z8, ⟨_, PySem.W.mg_of X G q0⟩, trivial⟩,
    ⟨f0, _, fun_mk (st := s_law_cell) l0 c0 k0, PySem.W.mg_of X G a0, (fun_mk (st := s_law_cell) l0 c0 k0).binds fun _ _ _ _ _ _ us hl => match us, hl with | [_, _], _ => rfl⟩,
    ⟨f1, _, fun_mk (st := s_check_least) l1 c1 k1, PySem.W.mg_of X G a1, (fun_mk (st := s_check_least) l1 c1 k1).binds fun _ _ _ _ _ _ us hl => match us, hl with | [_], _ => rfl⟩,
    ⟨f2, _, fun_mk (st := s_check_count) l2 c2 k2, PySem.W.mg_of X G a2, (fun_mk (st := s_check_count) l2 c2 k2).binds fun _ _ _ _ _ _ us hl => match us, hl with | [_], _ => rfl⟩,
    ⟨f3, _, fun_mk (st := s_made_clause) l3 c3 k3, PySem.W.mg_of X G a3, (fun_mk (st := s_made_clause) l3 c3 k3).binds fun _ _ _ _ _ _ us hl => match us, hl with | [_], _ => rfl⟩,
    ⟨f4, _, fun_mk (st := s_made_formula) l4 c4 k4, PySem.W.mg_of X G a4, (fun_mk (st := s_made_formula) l4 c4 k4).binds fun _ _ _ _ _ _ us hl => match us, hl with | [_, _], _ => rfl⟩,
    ⟨f5, _, fun_mk (st := s_pigeon_formula) l5 c5 k5, PySem.W.mg_of X G a5, (fun_mk (st := s_pigeon_formula) l5 c5 k5).binds fun _ _ _ _ _ _ us hl => match us, hl with | [_, _], _ => rfl⟩,
    ⟨f6, _, fun_mk (st := s_law_cubes) l6 c6 k6, PySem.W.mg_of X G a6, (fun_mk (st := s_law_cubes) l6 c6 k6).binds fun _ _ _ _ _ _ us hl => match us, hl with | [_], _ => rfl⟩,
    ⟨f7, _, fun_mk (st := s_law_true) l7 c7 k7, PySem.W.mg_of X G a7, (fun_mk (st := s_law_true) l7 c7 k7).binds fun _ _ _ _ _ _ us hl => match us, hl with | [_, _], _ => rfl⟩,
    ⟨f8, _, fun_mk (st := s_law_models) l8 c8 k8, PySem.W.mg_of X G a8, (fun_mk (st := s_law_models) l8 c8 k8).binds fun _ _ _ _ _ _ us hl => match us, hl with | [_], _ => rfl⟩,
    ⟨f9, _, fun_mk (st := s_law) l9 c9 k9, PySem.W.mg_of X G a9, (fun_mk (st := s_law) l9 c9 k9).binds fun _ _ _ _ _ _ us hl => match us, hl with | [_], _ => rfl⟩⟩
  have XX : ∀ base : Heap, XB l.prog w K mg base := fun base => ⟨
    ⟨_, PySem.W.mg_of X G x1BadFormula, x4BadFormula, x6BadFormula, x2BadFormula, x3BadFormula⟩,
    ⟨_, PySem.W.mg_of X G x1RebutError⟩,
    mat_of (PySem.W.mg_of X G x1BadFormula) (PySem.W.mg_of X G x1RebutError) x2RebutError x5RebutError x3RebutError mBadFormula_RebutError⟩
  have e := hfa.symm.trans (PySem.W.mg_of X G a9)
  cases e
  refine ⟨PySem.W.fnOf "law" "law" (defArgs s_law) (defBody s_law) (defScope s_law) .none kV9 dc9 pm9 an9 cd9 ct9, fun s v => .of_eq rfl, fun base KB GB => ?_⟩
  exact law_ok (all_law T base (XX base) (fun_mk (st := s_law) l9 c9 k9)) law_math
end Law
open PySem PySem.W PyProof.Rows
set_option maxHeartbeats 0 in
theorem PySem.Challenge.cw_rebut_k12_pigeons_holds : PySem.Challenge.rw_rebut_k12_pigeons.Holds := by
  w_on; o_law; k_head; (case hw => w_witness2)
  k_fill
  refine L2.walk_of (l := PySem.Challenge.rw_rebut_k12_pigeons) (n := 63) (k := 4) (x := "_law_script") (CX := fun _ => L2.CX0) (sp := fun w => Law.spLaw _) rfl (by decide) rfl ⟨rfl, by decide, by decide⟩ (fun w h Y => PySem.W.kIn_of Y) ?F (fun _ _ a ns hl o hS => ⟨a, ns, rfl, o, hS, hl, fun _ => rfl⟩) (fun _ _ _ _ _ h => h)
  case F =>
    intro w mg fa h KX G hmg
    refine' Law.all_mk KX G hmg ?a0 ?l0 ?c0 ?k0 ?a1 ?l1 ?c1 ?k1 ?a2 ?l2 ?c2 ?k2 ?a3 ?l3 ?c3 ?k3 ?a4 ?l4 ?c4 ?k4 ?a5 ?l5 ?c5 ?k5 ?a6 ?l6 ?c6 ?k6 ?a7 ?l7 ?c7 ?k7 ?a8 ?l8 ?c8 ?k8 ?a9 ?l9 ?c9 ?k9 ?z0 ?z1 ?z2 ?z3 ?z4 ?z5 ?z6 ?z7 ?z8 ?q0 ?x1BadFormula ?x2BadFormula ?x3BadFormula ?x4BadFormula ?x5BadFormula ?x6BadFormula ?x1RebutError ?x2RebutError ?x3RebutError ?x4RebutError ?x5RebutError ?mBadFormula_RebutError
    (case a0 => k_is); (case l0 => k_is); (case c0 => k_is); (case k0 => k_is); (case a1 => k_is); (case l1 => k_is); (case c1 => k_is); (case k1 => k_is); (case a2 => k_is); (case l2 => k_is); (case c2 => k_is); (case k2 => k_is); (case a3 => k_is); (case l3 => k_is); (case c3 => k_is); (case k3 => k_is); (case a4 => k_is); (case l4 => k_is); (case c4 => k_is); (case k4 => k_is); (case a5 => k_is); (case l5 => k_is); (case c5 => k_is); (case k5 => k_is); (case a6 => k_is); (case l6 => k_is); (case c6 => k_is); (case k6 => k_is); (case a7 => k_is); (case l7 => k_is); (case c7 => k_is); (case k7 => k_is); (case a8 => k_is); (case l8 => k_is); (case c8 => k_is); (case k8 => k_is); (case a9 => k_is); (case l9 => k_is); (case c9 => k_is); (case k9 => k_is); (case z0 => k_is); (case z1 => k_is); (case z2 => k_is); (case z3 => k_is); (case z4 => k_is); (case z5 => k_is); (case z6 => k_is); (case z7 => k_is); (case z8 => k_is); (case q0 => k_is); (case x1BadFormula => k_is); (case x2BadFormula => k_is); (case x3BadFormula => k_is); (case x4BadFormula => k_is); (case x5BadFormula => k_is); (case x6BadFormula => k_exc); (case x1RebutError => k_is); (case x2RebutError => k_is); (case x3RebutError => k_is); (case x4RebutError => k_is); (case x5RebutError => k_is); (case mBadFormula_RebutError => first | rfl | k_is)

